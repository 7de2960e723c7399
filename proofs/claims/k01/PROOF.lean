import PyProof.Rows.All
import HandS.ForMost
import HandS.ForExc
import HandS.Wide
import HandS.IsInst
import HandS.SortInts
import HandS.TupAny
import HandS.Walk
import HandS.SortRule
import HandS.TupLe
import HandS.Deep
import HandS.Zip
import HandS.Conv
import HandS.TupLen
import KE.KDictPairs
import HandS.More
import KE.DatumOrd
import HandS.SetFor
import HandS.Strs
import HandS.TupSets
import PySem.Challenge.RW_archrow_k01_rows_made
set_option Elab.async false
set_option linter.all false
set_option maxRecDepth 100000
namespace AR
open PySem PySem.Spec PyProof.Rows L2

/-- plain data -/
inductive D where
  | non | bl (b : Bool) | int (i : Int) | str (x : Str)
  | tup (xs : List D) | lst (xs : List D) | dic (kvs : List (List Int × D)) | scr (ns : List Int) (K : PySem.W.Frag)

mutual
/-- frozen data: every list of it stands in F -/
def Fz (F : Hp) : D → V → Prop
  | .non, v => v = .non
  | .bl b, v => v = .bl b
  | .int i, v => v = .int i
  | .str x, v => v = .str x
  | .tup ds, v => ∃ a vs, v = .ref a ∧ F a = some (.tup vs) ∧ FzL F ds vs
  | .lst ds, v => ∃ a vs, v = .ref a ∧ F a = some (.lst vs) ∧ FzL F ds vs
  | .dic kvs, v => ∃ a ws, v = .ref a ∧ F a = some (.dT ws) ∧ FzK F kvs ws
  | .scr ns K, v => ∃ a, v = .ref a ∧ ((∃ o, F a = some (.frz o (.lst (ns.map V.int)))) ∨ ∀ H, SqL K H a (ns.map V.int))
def FzL (F : Hp) : List D → List V → Prop
  | [], vs => vs = []
  | d :: ds, vs => ∃ v r, vs = v :: r ∧ Fz F d v ∧ FzL F ds r
def FzK (F : Hp) : List (List Int × D) → List (List Key × V) → Prop
  | [], ws => ws = []
  | (k, d) :: ds, ws => ∃ v r, ws = (k.map Sum.inl, v) :: r ∧ Fz F d v ∧ FzK F ds r
end
mutual
/-- how deep lists lie in it -/
def D.dep : D → Nat
  | .non => 0 | .bl _ => 0 | .int _ => 0 | .str _ => 0
  | .tup ds => depL ds
  | .lst ds => depL ds + 1
  | .dic kvs => depK kvs + 1
  | .scr _ _ => 1
def depL : List D → Nat
  | [] => 0
  | d :: ds => max d.dep (depL ds)
def depK : List (List Int × D) → Nat
  | [] => 0
  | (_, d) :: ds => max d.dep (depK ds)
end
mutual
/-- data of which the first m layers of lists are owned (A: their addresses), the rest frozen -/
def Is (F H : Hp) : D → Nat → V → List Addr → Prop
  | .non, _, v, A => v = .non ∧ A = []
  | .bl b, _, v, A => v = .bl b ∧ A = []
  | .int i, _, v, A => v = .int i ∧ A = []
  | .str x, _, v, A => v = .str x ∧ A = []
  | .tup ds, m, v, A => ∃ a vs, v = .ref a ∧ F a = some (.tup vs) ∧ IsL F H ds m vs A
  | .lst ds, m, v, A => match m with
    | 0 => Fz F (.lst ds) v ∧ A = []
    | m + 1 => ∃ a vs B, v = .ref a ∧ A = a :: B ∧ F a = none ∧ H a = some (.lst vs) ∧ IsL F H ds m vs B
  | .dic kvs, m, v, A => match m with
    | 0 => Fz F (.dic kvs) v ∧ A = []
    | m + 1 => ∃ a ws B, v = .ref a ∧ A = a :: B ∧ F a = none ∧ H a = some (.dT ws) ∧ IsK F H kvs m ws B
  | .scr ns K, m, v, A => match m with
    | 0 => Fz F (.scr ns K) v ∧ A = []
    | _ + 1 => False
def IsL (F H : Hp) : List D → Nat → List V → List Addr → Prop
  | [], _, vs, A => vs = [] ∧ A = []
  | d :: ds, m, vs, A => ∃ v r B C, vs = v :: r ∧ A = B ++ C ∧ Is F H d m v B ∧ IsL F H ds m r C
def IsK (F H : Hp) : List (List Int × D) → Nat → List (List Key × V) → List Addr → Prop
  | [], _, ws, A => ws = [] ∧ A = []
  | (k, d) :: ds, m, ws, A => ∃ v r B C, ws = (k.map Sum.inl, v) :: r ∧ A = B ++ C ∧ Is F H d m v B ∧ IsK F H ds m r C
end
/-! ### frozen data -/
mutual
theorem Fz.mono {F G : Hp} (h : Same F G) : ∀ (d : D) (v : V), Fz F d v → Fz G d v
  | .non, _, x => x
  | .bl _, _, x => x
  | .int _, _, x => x
  | .str _, _, x => x
  | .tup ds, v, x => by
    simp only [Fz] at x ⊢
    obtain ⟨a, vs, rfl, e, r⟩ := x
    exact ⟨a, vs, rfl, h _ _ e, FzL.mono h ds vs r⟩
  | .lst ds, v, x => by
    simp only [Fz] at x ⊢
    obtain ⟨a, vs, rfl, e, r⟩ := x
    exact ⟨a, vs, rfl, h _ _ e, FzL.mono h ds vs r⟩
  | .dic ds, v, x => by
    simp only [Fz] at x ⊢
    obtain ⟨a, vs, rfl, e, r⟩ := x
    exact ⟨a, vs, rfl, h _ _ e, FzK.mono h ds vs r⟩
  | .scr ns K, v, x => by
    simp only [Fz] at x ⊢
    obtain ⟨a, rfl, e⟩ := x
    exact ⟨a, rfl, e.imp (fun ⟨o, z⟩ => ⟨o, h _ _ z⟩) id⟩
theorem FzL.mono {F G : Hp} (h : Same F G) : ∀ (d : List D) (v : List V), FzL F d v → FzL G d v
  | [], _, x => x
  | d :: ds, _, x => by
    simp only [FzL] at x ⊢
    obtain ⟨v, r, rfl, x1, x2⟩ := x
    exact ⟨v, r, rfl, Fz.mono h d v x1, FzL.mono h ds r x2⟩
theorem FzK.mono {F G : Hp} (h : Same F G) : ∀ (d : List (List Int × D)) (v : List (List Key × V)), FzK F d v → FzK G d v
  | [], _, x => x
  | (k, d) :: ds, _, x => by
    simp only [FzK] at x ⊢
    obtain ⟨v, r, rfl, x1, x2⟩ := x
    exact ⟨v, r, rfl, Fz.mono h d v x1, FzK.mono h ds r x2⟩
end
/-- the tuples of H, put to F -/
def tupd (F H : Hp) : Hp := fun a => match F a with
  | some o => some o
  | none => match H a with
    | some (.tup vs) => some (.tup vs)
    | _ => none
theorem tupd_same (F H : Hp) : Same F (tupd F H) := fun a o e => by
  unfold tupd; rw [e]
theorem tupd_into {F H : Hp} (h : Same F H) : Same (tupd F H) H := fun a o e => by
  unfold tupd at e
  cases q : F a with
  | some u => rw [q] at e; cases e; exact h _ _ q
  | none =>
    rw [q] at e
    dsimp only at e
    split at e
    · rename_i vs e2; cases e; exact e2
    · cases e
theorem tupd_tup {F H : Hp} (h : Same F H) {a : Addr} {vs : List V} (e : H a = some (.tup vs)) : tupd F H a = some (.tup vs) := by
  unfold tupd
  cases q : F a with
  | some u => have := h _ _ q; rw [e] at this; cases this; rfl
  | none => simp only [e]
theorem tupd_none {F H : Hp} {a : Addr} (e : F a = none) (n : ∀ vs, H a ≠ some (.tup vs)) : tupd F H a = none := by
  unfold tupd
  rw [e]
  dsimp only
  split
  · rename_i vs e2; exact absurd e2 (n vs)
  · rfl
theorem tupd_or {F H : Hp} {a : Addr} (e : tupd F H a ≠ none) : F a ≠ none ∨ ∃ vs, H a = some (.tup vs) := by
  unfold tupd at e
  cases q : F a with
  | some u => exact .inl (by simp)
  | none =>
    rw [q] at e
    dsimp only at e
    split at e
    · rename_i vs e2; exact .inr ⟨vs, e2⟩
    · exact absurd rfl e
/-- tuples of F stand in G -/
def Tups (F G : Hp) : Prop := ∀ a vs, F a = some (.tup vs) → G a = some (.tup vs)
mutual
/-- without lists only the tuples matter -/
theorem Fz.flat {F G : Hp} (h : Tups F G) : ∀ (d : D) (v : V), d.dep = 0 → Fz F d v → Fz G d v
  | .non, _, _, x => x
  | .bl _, _, _, x => x
  | .int _, _, _, x => x
  | .str _, _, _, x => x
  | .tup ds, v, z, x => by
    simp only [Fz] at x ⊢
    obtain ⟨a, vs, rfl, e, r⟩ := x
    exact ⟨a, vs, rfl, h _ _ e, FzL.flat h ds vs (by simpa [D.dep] using z) r⟩
  | .lst ds, v, z, x => by simp [D.dep] at z
  | .dic ds, v, z, x => by simp [D.dep] at z
  | .scr _ _, v, z, x => by simp [D.dep] at z
theorem FzL.flat {F G : Hp} (h : Tups F G) : ∀ (d : List D) (v : List V), depL d = 0 → FzL F d v → FzL G d v
  | [], _, _, x => x
  | d :: ds, _, z, x => by
    simp only [FzL] at x ⊢
    obtain ⟨v, r, rfl, x1, x2⟩ := x
    simp only [depL] at z
    exact ⟨v, r, rfl, Fz.flat h d v (by omega) x1, FzL.flat h ds r (by omega) x2⟩
end
theorem FzL.length {F : Hp} : ∀ {ds : List D} {vs : List V}, FzL F ds vs → vs.length = ds.length
  | [], _, x => by simp only [FzL] at x; subst x; rfl
  | d :: ds, _, x => by
    simp only [FzL] at x
    obtain ⟨v, r, rfl, _, x2⟩ := x
    simp [FzL.length x2]
theorem FzL.get {F : Hp} : ∀ {ds : List D} {vs : List V} {i : Nat} {d : D}, FzL F ds vs → ds[i]? = some d → ∃ v, vs[i]? = some v ∧ Fz F d v
  | [], _, _, _, x, e => by simp at e
  | d :: ds, _, 0, _, x, e => by
    simp only [FzL] at x
    obtain ⟨v, r, rfl, x1, x2⟩ := x
    simp at e; subst e
    exact ⟨v, rfl, x1⟩
  | d :: ds, _, i + 1, _, x, e => by
    simp only [FzL] at x
    obtain ⟨v, r, rfl, x1, x2⟩ := x
    simpa using FzL.get (i := i) x2 (by simpa using e)
theorem FzL.append {F : Hp} : ∀ {ds es : List D} {vs ws : List V}, FzL F ds vs → FzL F es ws → FzL F (ds ++ es) (vs ++ ws)
  | [], _, _, _, x, y => by simp only [FzL] at x; subst x; exact y
  | d :: ds, _, _, _, x, y => by
    simp only [FzL] at x
    obtain ⟨v, r, rfl, x1, x2⟩ := x
    simp only [List.cons_append, FzL]
    exact ⟨v, _, rfl, x1, FzL.append x2 y⟩
theorem FzL.take {F : Hp} : ∀ (n : Nat) {ds : List D} {vs : List V}, FzL F ds vs → FzL F (ds.take n) (vs.take n)
  | 0, _, _, _ => rfl
  | n + 1, [], _, x => by simp only [FzL] at x; subst x; exact rfl
  | n + 1, d :: ds, _, x => by
    simp only [FzL] at x
    obtain ⟨v, r, rfl, x1, x2⟩ := x
    simp only [List.take_succ_cons, FzL]
    exact ⟨v, _, rfl, x1, FzL.take n x2⟩
theorem FzL.drop {F : Hp} : ∀ (n : Nat) {ds : List D} {vs : List V}, FzL F ds vs → FzL F (ds.drop n) (vs.drop n)
  | 0, _, _, x => x
  | n + 1, [], _, x => by simp only [FzL] at x; subst x; exact rfl
  | n + 1, d :: ds, _, x => by
    simp only [FzL] at x
    obtain ⟨v, r, rfl, x1, x2⟩ := x
    simp only [List.drop_succ_cons]
    exact FzL.drop n x2
theorem FzL.eraseIdx {F : Hp} : ∀ (n : Nat) {ds : List D} {vs : List V}, FzL F ds vs → FzL F (ds.eraseIdx n) (vs.eraseIdx n)
  | _, [], _, x => by simp only [FzL] at x; subst x; exact rfl
  | 0, d :: ds, _, x => by
    simp only [FzL] at x
    obtain ⟨v, r, rfl, x1, x2⟩ := x
    exact x2
  | n + 1, d :: ds, _, x => by
    simp only [FzL] at x
    obtain ⟨v, r, rfl, x1, x2⟩ := x
    simp only [List.eraseIdx_cons_succ, FzL]
    exact ⟨v, _, rfl, x1, FzL.eraseIdx n x2⟩
theorem FzL.set {F : Hp} {d' : D} {v' : V} (y : Fz F d' v') : ∀ (n : Nat) {ds : List D} {vs : List V}, FzL F ds vs → FzL F (ds.set n d') (vs.set n v')
  | _, [], _, x => by simp only [FzL] at x; subst x; exact rfl
  | 0, d :: ds, _, x => by
    simp only [FzL] at x
    obtain ⟨v, r, rfl, x1, x2⟩ := x
    simp only [List.set_cons_zero, FzL]
    exact ⟨v', r, rfl, y, x2⟩
  | n + 1, d :: ds, _, x => by
    simp only [FzL] at x
    obtain ⟨v, r, rfl, x1, x2⟩ := x
    simp only [List.set_cons_succ, FzL]
    exact ⟨v, _, rfl, x1, FzL.set y n x2⟩
theorem FzL.reverse {F : Hp} : ∀ {ds : List D} {vs : List V}, FzL F ds vs → FzL F ds.reverse vs.reverse
  | [], _, x => by simp only [FzL] at x; subst x; exact rfl
  | d :: ds, _, x => by
    simp only [FzL] at x
    obtain ⟨v, r, rfl, x1, x2⟩ := x
    rw [List.reverse_cons, List.reverse_cons]
    exact (FzL.reverse x2).append ⟨v, [], rfl, x1, rfl⟩
theorem depL_get : ∀ {ds : List D} {i : Nat} {d : D}, ds[i]? = some d → d.dep ≤ depL ds
  | [], _, _, e => by simp at e
  | d :: ds, 0, _, e => by simp at e; subst e; simp only [depL]; omega
  | d :: ds, i + 1, _, e => by have := depL_get (ds := ds) (i := i) (by simpa using e); simp only [depL]; omega
theorem depL_append : ∀ (ds es : List D), depL (ds ++ es) = max (depL ds) (depL es)
  | [], es => by simp [depL]
  | d :: ds, es => by simp only [List.cons_append, depL, depL_append ds es]; omega

/-! ### owned data -/
mutual
theorem Is.own {F H : Hp} : ∀ {d : D} {m : Nat} {v : V} {A : List Addr}, Is F H d m v A → ∀ a ∈ A, F a = none ∧ ∃ o, H a = some o ∧ ∀ vs, o ≠ .tup vs
  | .non, _, _, _, x, a, h => by simp only [Is] at x; rw [x.2] at h; cases h
  | .bl _, _, _, _, x, a, h => by simp only [Is] at x; rw [x.2] at h; cases h
  | .int _, _, _, _, x, a, h => by simp only [Is] at x; rw [x.2] at h; cases h
  | .str _, _, _, _, x, a, h => by simp only [Is] at x; rw [x.2] at h; cases h
  | .scr _ _, 0, _, _, x, a, h => by simp only [Is] at x; rw [x.2] at h; cases h
  | .scr _ _, _ + 1, _, _, x, a, h => by simp only [Is] at x
  | .tup ds, m, _, _, x, a, h => by
    simp only [Is] at x
    obtain ⟨_, _, _, _, r⟩ := x
    exact IsL.own r a h
  | .lst ds, 0, _, _, x, a, h => by simp only [Is] at x; rw [x.2] at h; cases h
  | .lst ds, m + 1, _, _, x, a, h => by
    simp only [Is] at x
    obtain ⟨b, vs, B, rfl, rfl, fb, hb, r⟩ := x
    rcases List.mem_cons.mp h with rfl | h
    · exact ⟨fb, _, hb, fun _ z => by cases z⟩
    · exact IsL.own r a h
  | .dic ds, 0, _, _, x, a, h => by simp only [Is] at x; rw [x.2] at h; cases h
  | .dic ds, m + 1, _, _, x, a, h => by
    simp only [Is] at x
    obtain ⟨b, vs, B, rfl, rfl, fb, hb, r⟩ := x
    rcases List.mem_cons.mp h with rfl | h
    · exact ⟨fb, _, hb, fun _ z => by cases z⟩
    · exact IsK.own r a h
theorem IsL.own {F H : Hp} : ∀ {d : List D} {m : Nat} {v : List V} {A : List Addr}, IsL F H d m v A → ∀ a ∈ A, F a = none ∧ ∃ o, H a = some o ∧ ∀ vs, o ≠ .tup vs
  | [], _, _, _, x, a, h => by simp only [IsL] at x; rw [x.2] at h; cases h
  | d :: ds, m, _, _, x, a, h => by
    simp only [IsL] at x
    obtain ⟨v, r, B, C, rfl, rfl, x1, x2⟩ := x
    rcases List.mem_append.mp h with h | h
    · exact Is.own x1 a h
    · exact IsL.own x2 a h
theorem IsK.own {F H : Hp} : ∀ {d : List (List Int × D)} {m : Nat} {v : List (List Key × V)} {A : List Addr}, IsK F H d m v A → ∀ a ∈ A, F a = none ∧ ∃ o, H a = some o ∧ ∀ vs, o ≠ .tup vs
  | [], _, _, _, x, a, h => by simp only [IsK] at x; rw [x.2] at h; cases h
  | (k, d) :: ds, m, _, _, x, a, h => by
    simp only [IsK] at x
    obtain ⟨v, r, B, C, rfl, rfl, x1, x2⟩ := x
    rcases List.mem_append.mp h with h | h
    · exact Is.own x1 a h
    · exact IsK.own x2 a h
end
mutual
/-- other parts of the heap may change -/
theorem Is.frame {F H F' H' : Hp} (hf : Same F F') : ∀ {d : D} {m : Nat} {v : V} {A : List Addr}, (∀ a ∈ A, F' a = none) → (∀ a ∈ A, H' a = H a) → Is F H d m v A → Is F' H' d m v A
  | .non, _, _, _, _, _, x => by simp only [Is] at x ⊢; exact x
  | .bl _, _, _, _, _, _, x => by simp only [Is] at x ⊢; exact x
  | .int _, _, _, _, _, _, x => by simp only [Is] at x ⊢; exact x
  | .str _, _, _, _, _, _, x => by simp only [Is] at x ⊢; exact x
  | .scr _ _, 0, _, _, _, _, x => by simp only [Is] at x ⊢; exact ⟨Fz.mono hf _ _ x.1, x.2⟩
  | .scr _ _, _ + 1, _, _, _, _, x => by simp only [Is] at x
  | .tup ds, m, _, _, hA, hH, x => by
    simp only [Is] at x ⊢
    obtain ⟨a, vs, rfl, e, r⟩ := x
    exact ⟨a, vs, rfl, hf _ _ e, IsL.frame hf hA hH r⟩
  | .lst ds, 0, _, _, hA, hH, x => by simp only [Is] at x ⊢; exact ⟨Fz.mono hf _ _ x.1, x.2⟩
  | .lst ds, m + 1, _, _, hA, hH, x => by
    simp only [Is] at x ⊢
    obtain ⟨b, vs, B, rfl, rfl, fb, hb, r⟩ := x
    exact ⟨b, vs, B, rfl, rfl, hA b List.mem_cons_self, (hH b List.mem_cons_self).trans hb, IsL.frame hf (fun a h => hA a (List.mem_cons_of_mem _ h)) (fun a h => hH a (List.mem_cons_of_mem _ h)) r⟩
  | .dic ds, 0, _, _, hA, hH, x => by simp only [Is] at x ⊢; exact ⟨Fz.mono hf _ _ x.1, x.2⟩
  | .dic ds, m + 1, _, _, hA, hH, x => by
    simp only [Is] at x ⊢
    obtain ⟨b, vs, B, rfl, rfl, fb, hb, r⟩ := x
    exact ⟨b, vs, B, rfl, rfl, hA b List.mem_cons_self, (hH b List.mem_cons_self).trans hb, IsK.frame hf (fun a h => hA a (List.mem_cons_of_mem _ h)) (fun a h => hH a (List.mem_cons_of_mem _ h)) r⟩
theorem IsL.frame {F H F' H' : Hp} (hf : Same F F') : ∀ {d : List D} {m : Nat} {v : List V} {A : List Addr}, (∀ a ∈ A, F' a = none) → (∀ a ∈ A, H' a = H a) → IsL F H d m v A → IsL F' H' d m v A
  | [], _, _, _, _, _, x => by simp only [IsL] at x ⊢; exact x
  | d :: ds, m, _, _, hA, hH, x => by
    simp only [IsL] at x ⊢
    obtain ⟨v, r, B, C, rfl, rfl, x1, x2⟩ := x
    exact ⟨v, r, B, C, rfl, rfl, Is.frame hf (fun a h => hA a (List.mem_append_left _ h)) (fun a h => hH a (List.mem_append_left _ h)) x1, IsL.frame hf (fun a h => hA a (List.mem_append_right _ h)) (fun a h => hH a (List.mem_append_right _ h)) x2⟩
theorem IsK.frame {F H F' H' : Hp} (hf : Same F F') : ∀ {d : List (List Int × D)} {m : Nat} {v : List (List Key × V)} {A : List Addr}, (∀ a ∈ A, F' a = none) → (∀ a ∈ A, H' a = H a) → IsK F H d m v A → IsK F' H' d m v A
  | [], _, _, _, _, _, x => by simp only [IsK] at x ⊢; exact x
  | (k, d) :: ds, m, _, _, hA, hH, x => by
    simp only [IsK] at x ⊢
    obtain ⟨v, r, B, C, rfl, rfl, x1, x2⟩ := x
    exact ⟨v, r, B, C, rfl, rfl, Is.frame hf (fun a h => hA a (List.mem_append_left _ h)) (fun a h => hH a (List.mem_append_left _ h)) x1, IsK.frame hf (fun a h => hA a (List.mem_append_right _ h)) (fun a h => hH a (List.mem_append_right _ h)) x2⟩
end
mutual
/-- frozen by G, in which all of it stands -/
theorem Is.fz {F H G : Hp} (hf : Same F G) : ∀ {d : D} {m : Nat} {v : V} {A : List Addr}, (∀ a ∈ A, G a = H a) → Is F H d m v A → Fz G d v
  | .non, _, _, _, _, x => by simp only [Is] at x; exact x.1
  | .bl _, _, _, _, _, x => by simp only [Is] at x; exact x.1
  | .int _, _, _, _, _, x => by simp only [Is] at x; exact x.1
  | .str _, _, _, _, _, x => by simp only [Is] at x; exact x.1
  | .scr _ _, 0, _, _, _, x => by simp only [Is] at x; exact Fz.mono hf _ _ x.1
  | .scr _ _, _ + 1, _, _, _, x => by simp only [Is] at x
  | .tup ds, m, _, _, hA, x => by
    simp only [Is] at x
    obtain ⟨a, vs, rfl, e, r⟩ := x
    simp only [Fz]
    exact ⟨a, vs, rfl, hf _ _ e, IsL.fz hf hA r⟩
  | .lst ds, 0, _, _, hA, x => by simp only [Is] at x; exact Fz.mono hf _ _ x.1
  | .lst ds, m + 1, _, _, hA, x => by
    simp only [Is] at x
    obtain ⟨b, vs, B, rfl, rfl, fb, hb, r⟩ := x
    simp only [Fz]
    exact ⟨b, vs, rfl, (hA b List.mem_cons_self).trans hb, IsL.fz hf (fun a h => hA a (List.mem_cons_of_mem _ h)) r⟩
  | .dic ds, 0, _, _, hA, x => by simp only [Is] at x; exact Fz.mono hf _ _ x.1
  | .dic ds, m + 1, _, _, hA, x => by
    simp only [Is] at x
    obtain ⟨b, vs, B, rfl, rfl, fb, hb, r⟩ := x
    simp only [Fz]
    exact ⟨b, vs, rfl, (hA b List.mem_cons_self).trans hb, IsK.fz hf (fun a h => hA a (List.mem_cons_of_mem _ h)) r⟩
theorem IsL.fz {F H G : Hp} (hf : Same F G) : ∀ {d : List D} {m : Nat} {v : List V} {A : List Addr}, (∀ a ∈ A, G a = H a) → IsL F H d m v A → FzL G d v
  | [], _, _, _, _, x => by simp only [IsL] at x; exact x.1
  | d :: ds, m, _, _, hA, x => by
    simp only [IsL] at x
    obtain ⟨v, r, B, C, rfl, rfl, x1, x2⟩ := x
    simp only [FzL]
    exact ⟨v, r, rfl, Is.fz hf (fun a h => hA a (List.mem_append_left _ h)) x1, IsL.fz hf (fun a h => hA a (List.mem_append_right _ h)) x2⟩
theorem IsK.fz {F H G : Hp} (hf : Same F G) : ∀ {d : List (List Int × D)} {m : Nat} {v : List (List Key × V)} {A : List Addr}, (∀ a ∈ A, G a = H a) → IsK F H d m v A → FzK G d v
  | [], _, _, _, _, x => by simp only [IsK] at x; exact x.1
  | (k, d) :: ds, m, _, _, hA, x => by
    simp only [IsK] at x
    obtain ⟨v, r, B, C, rfl, rfl, x1, x2⟩ := x
    simp only [FzK]
    exact ⟨v, r, rfl, Is.fz hf (fun a h => hA a (List.mem_append_left _ h)) x1, IsK.fz hf (fun a h => hA a (List.mem_append_right _ h)) x2⟩
end
mutual
/-- layers beyond the depth do not matter; where all lists are owned only the tuples of F matter -/
theorem Is.cast {F H F' : Hp} (hf : Tups F F') : ∀ {d : D} {m n : Nat} {v : V} {A : List Addr}, d.dep ≤ m → d.dep ≤ n → (∀ a ∈ A, F' a = none) → Is F H d m v A → Is F' H d n v A
  | .non, _, _, _, _, _, _, _, x => by simp only [Is] at x ⊢; exact x
  | .bl _, _, _, _, _, _, _, _, x => by simp only [Is] at x ⊢; exact x
  | .int _, _, _, _, _, _, _, _, x => by simp only [Is] at x ⊢; exact x
  | .str _, _, _, _, _, _, _, _, x => by simp only [Is] at x ⊢; exact x
  | .scr _ _, 0, _, _, _, h, _, _, x => by simp [D.dep] at h
  | .scr _ _, m + 1, _, _, _, _, _, _, x => by simp only [Is] at x
  | .tup ds, m, n, _, _, h1, h2, hA, x => by
    simp only [Is] at x ⊢
    simp only [D.dep] at h1 h2
    obtain ⟨a, vs, rfl, e, r⟩ := x
    exact ⟨a, vs, rfl, hf _ _ e, IsL.cast hf h1 h2 hA r⟩
  | .lst ds, 0, _, _, _, h, _, _, x => by simp [D.dep] at h
  | .lst ds, _, 0, _, _, _, h, _, x => by simp [D.dep] at h
  | .lst ds, m + 1, n + 1, _, _, h1, h2, hA, x => by
    simp only [Is] at x ⊢
    simp only [D.dep] at h1 h2
    obtain ⟨b, vs, B, rfl, rfl, fb, hb, r⟩ := x
    exact ⟨b, vs, B, rfl, rfl, hA b List.mem_cons_self, hb, IsL.cast hf (by omega) (by omega) (fun a h => hA a (List.mem_cons_of_mem _ h)) r⟩
  | .dic ds, 0, _, _, _, h, _, _, x => by simp [D.dep] at h
  | .dic ds, _, 0, _, _, _, h, _, x => by simp [D.dep] at h
  | .dic ds, m + 1, n + 1, _, _, h1, h2, hA, x => by
    simp only [Is] at x ⊢
    simp only [D.dep] at h1 h2
    obtain ⟨b, vs, B, rfl, rfl, fb, hb, r⟩ := x
    exact ⟨b, vs, B, rfl, rfl, hA b List.mem_cons_self, hb, IsK.cast hf (by omega) (by omega) (fun a h => hA a (List.mem_cons_of_mem _ h)) r⟩
theorem IsL.cast {F H F' : Hp} (hf : Tups F F') : ∀ {d : List D} {m n : Nat} {v : List V} {A : List Addr}, depL d ≤ m → depL d ≤ n → (∀ a ∈ A, F' a = none) → IsL F H d m v A → IsL F' H d n v A
  | [], _, _, _, _, _, _, _, x => by simp only [IsL] at x ⊢; exact x
  | d :: ds, m, n, _, _, h1, h2, hA, x => by
    simp only [IsL] at x ⊢
    simp only [depL] at h1 h2
    obtain ⟨v, r, B, C, rfl, rfl, x1, x2⟩ := x
    exact ⟨v, r, B, C, rfl, rfl, Is.cast hf (by omega) (by omega) (fun a h => hA a (List.mem_append_left _ h)) x1, IsL.cast hf (by omega) (by omega) (fun a h => hA a (List.mem_append_right _ h)) x2⟩
theorem IsK.cast {F H F' : Hp} (hf : Tups F F') : ∀ {d : List (List Int × D)} {m n : Nat} {v : List (List Key × V)} {A : List Addr}, depK d ≤ m → depK d ≤ n → (∀ a ∈ A, F' a = none) → IsK F H d m v A → IsK F' H d n v A
  | [], _, _, _, _, _, _, _, x => by simp only [IsK] at x ⊢; exact x
  | (k, d) :: ds, m, n, _, _, h1, h2, hA, x => by
    simp only [IsK] at x ⊢
    simp only [depK] at h1 h2
    obtain ⟨v, r, B, C, rfl, rfl, x1, x2⟩ := x
    exact ⟨v, r, B, C, rfl, rfl, Is.cast hf (by omega) (by omega) (fun a h => hA a (List.mem_append_left _ h)) x1, IsK.cast hf (by omega) (by omega) (fun a h => hA a (List.mem_append_right _ h)) x2⟩
end

mutual
theorem Is.zero {F H : Hp} : ∀ {d : D} {v : V} {A : List Addr}, Is F H d 0 v A → Fz F d v ∧ A = []
  | .non, _, _, x => by simp only [Is] at x; exact x
  | .bl _, _, _, x => by simp only [Is] at x; exact x
  | .int _, _, _, x => by simp only [Is] at x; exact x
  | .str _, _, _, x => by simp only [Is] at x; exact x
  | .scr _ _, _, _, x => by simp only [Is] at x; exact x
  | .lst _, _, _, x => by simp only [Is] at x; exact x
  | .dic _, _, _, x => by simp only [Is] at x; exact x
  | .tup ds, _, _, x => by
    simp only [Is] at x
    obtain ⟨a, vs, rfl, e, r⟩ := x
    obtain ⟨r1, r2⟩ := IsL.zero r
    simp only [Fz]
    exact ⟨⟨a, vs, rfl, e, r1⟩, r2⟩
theorem IsL.zero {F H : Hp} : ∀ {d : List D} {v : List V} {A : List Addr}, IsL F H d 0 v A → FzL F d v ∧ A = []
  | [], _, _, x => by simp only [IsL] at x; exact x
  | d :: ds, _, _, x => by
    simp only [IsL] at x
    obtain ⟨v, r, B, C, rfl, rfl, x1, x2⟩ := x
    obtain ⟨y1, rfl⟩ := Is.zero x1
    obtain ⟨y2, rfl⟩ := IsL.zero x2
    simp only [FzL]
    exact ⟨⟨v, r, rfl, y1, y2⟩, rfl⟩
end
mutual
theorem Fz.is {F H : Hp} : ∀ {d : D} {v : V}, Fz F d v → Is F H d 0 v []
  | .non, _, x => by simp only [Is]; exact ⟨x, trivial⟩
  | .bl _, _, x => by simp only [Is]; exact ⟨x, trivial⟩
  | .int _, _, x => by simp only [Is]; exact ⟨x, trivial⟩
  | .str _, _, x => by simp only [Is]; exact ⟨x, trivial⟩
  | .scr _ _, _, x => by simp only [Is]; exact ⟨x, trivial⟩
  | .lst _, _, x => by simp only [Is]; exact ⟨x, trivial⟩
  | .dic _, _, x => by simp only [Is]; exact ⟨x, trivial⟩
  | .tup ds, _, x => by
    simp only [Fz] at x
    obtain ⟨a, vs, rfl, e, r⟩ := x
    simp only [Is]
    exact ⟨a, vs, rfl, e, FzL.is r⟩
theorem FzL.is {F H : Hp} : ∀ {d : List D} {v : List V}, FzL F d v → IsL F H d 0 v []
  | [], _, x => by simp only [IsL]; exact ⟨x, trivial⟩
  | d :: ds, _, x => by
    simp only [FzL] at x
    obtain ⟨v, r, rfl, x1, x2⟩ := x
    simp only [IsL]
    exact ⟨v, r, [], [], rfl, rfl, Fz.is x1, FzL.is x2⟩
end
theorem FzK.is {F H : Hp} : ∀ {d : List (List Int × D)} {v : List (List Key × V)}, FzK F d v → IsK F H d 0 v []
  | [], _, x => by simp only [IsK]; exact ⟨x, trivial⟩
  | (k, d) :: ds, _, x => by
    simp only [FzK] at x
    obtain ⟨v, r, rfl, x1, x2⟩ := x
    simp only [IsK]
    exact ⟨v, r, [], [], rfl, rfl, Fz.is x1, FzK.is x2⟩
theorem IsK.zero {F H : Hp} : ∀ {d : List (List Int × D)} {v : List (List Key × V)} {A : List Addr}, IsK F H d 0 v A → FzK F d v ∧ A = []
  | [], _, _, x => by simp only [IsK] at x; exact x
  | (k, d) :: ds, _, _, x => by
    simp only [IsK] at x
    obtain ⟨v, r, B, C, rfl, rfl, x1, x2⟩ := x
    obtain ⟨y1, rfl⟩ := Is.zero x1
    obtain ⟨y2, rfl⟩ := IsK.zero x2
    simp only [FzK]
    exact ⟨⟨v, r, rfl, y1, y2⟩, rfl⟩
/-- data without lists is owned by none -/
theorem Is.flat {F H : Hp} {d : D} {m : Nat} {v : V} {A : List Addr} (z : d.dep = 0) (x : Is F H d m v A) : Fz F d v ∧ A = [] :=
  Is.zero (Is.cast (n := 0) (fun _ _ e => e) (by omega) (by omega) (fun a h => (Is.own x a h).1) x)
theorem Fz.isn {F H : Hp} {d : D} {v : V} (z : d.dep = 0) (x : Fz F d v) (m : Nat) : Is F H d m v [] :=
  Is.cast (m := 0) (fun _ _ e => e) (by omega) (by omega) (fun a h => by cases h) (Fz.is (H := H) x)

end AR

set_option Elab.async false
set_option linter.all false
set_option maxRecDepth 100000
namespace AR
open PySem PySem.Spec PyProof.Rows L2

/-! ### slots -/
abbrev St := L2.St
abbrev Sl := List (Option (Nat × D))
def SlIs (F H : Hp) : Sl → St → List Addr → Prop
  | [], σ, A => σ = [] ∧ A = []
  | none :: e, σ, A => ∃ w r, σ = w :: r ∧ SlIs F H e r A
  | some (m, d) :: e, σ, A => ∃ v r B C, σ = some v :: r ∧ A = B ++ C ∧ Is F H d m v B ∧ SlIs F H e r C
theorem SlIs.length {F H : Hp} : ∀ {e : Sl} {σ : St} {A : List Addr}, SlIs F H e σ A → σ.length = e.length
  | [], _, _, x => by simp only [SlIs] at x; rw [x.1]; rfl
  | none :: e, _, _, x => by
    simp only [SlIs] at x
    obtain ⟨w, r, rfl, x⟩ := x
    simp [SlIs.length x]
  | some (m, d) :: e, _, _, x => by
    simp only [SlIs] at x
    obtain ⟨v, r, B, C, rfl, rfl, _, x⟩ := x
    simp [SlIs.length x]
theorem SlIs.own {F H : Hp} : ∀ {e : Sl} {σ : St} {A : List Addr}, SlIs F H e σ A → ∀ a ∈ A, F a = none ∧ ∃ o, H a = some o ∧ ∀ vs, o ≠ .tup vs
  | [], _, _, x, a, h => by simp only [SlIs] at x; rw [x.2] at h; cases h
  | none :: e, _, _, x, a, h => by
    simp only [SlIs] at x
    obtain ⟨w, r, rfl, x⟩ := x
    exact SlIs.own x a h
  | some (m, d) :: e, _, _, x, a, h => by
    simp only [SlIs] at x
    obtain ⟨v, r, B, C, rfl, rfl, x1, x2⟩ := x
    rcases List.mem_append.mp h with h | h
    · exact Is.own x1 a h
    · exact SlIs.own x2 a h
theorem SlIs.frame {F H F' H' : Hp} (hf : Same F F') : ∀ {e : Sl} {σ : St} {A : List Addr}, (∀ a ∈ A, F' a = none) → (∀ a ∈ A, H' a = H a) → SlIs F H e σ A → SlIs F' H' e σ A
  | [], _, _, _, _, x => by simp only [SlIs] at x ⊢; exact x
  | none :: e, _, _, hA, hH, x => by
    simp only [SlIs] at x ⊢
    obtain ⟨w, r, rfl, x⟩ := x
    exact ⟨w, r, rfl, SlIs.frame hf hA hH x⟩
  | some (m, d) :: e, _, _, hA, hH, x => by
    simp only [SlIs] at x ⊢
    obtain ⟨v, r, B, C, rfl, rfl, x1, x2⟩ := x
    exact ⟨v, r, B, C, rfl, rfl, Is.frame hf (fun a h => hA a (List.mem_append_left _ h)) (fun a h => hH a (List.mem_append_left _ h)) x1, SlIs.frame hf (fun a h => hA a (List.mem_append_right _ h)) (fun a h => hH a (List.mem_append_right _ h)) x2⟩
theorem SlIs.get {F H : Hp} : ∀ {e : Sl} {σ : St} {A : List Addr} {i m : Nat} {d : D}, SlIs F H e σ A → e[i]? = some (some (m, d)) → ∃ v B C, σ[i]? = some (some v) ∧ Is F H d m v B ∧ SlIs F H (e.set i none) σ C ∧ A.Perm (B ++ C)
  | [], _, _, _, _, _, x, h => by simp at h
  | none :: e, _, _, 0, _, _, x, h => by simp at h
  | none :: e, _, _, i + 1, _, _, x, h => by
    simp only [SlIs] at x
    obtain ⟨w, r, rfl, x⟩ := x
    obtain ⟨v, B, C, h1, h2, h3, h4⟩ := SlIs.get (i := i) x (by simpa using h)
    refine ⟨v, B, C, by simpa using h1, h2, ?_, h4⟩
    simp only [List.set_cons_succ, SlIs]
    exact ⟨w, r, rfl, h3⟩
  | some (m', d') :: e, _, _, 0, m, d, x, h => by
    simp only [SlIs] at x
    obtain ⟨v, r, B, C, rfl, rfl, x1, x2⟩ := x
    simp at h
    obtain ⟨rfl, rfl⟩ := h
    refine ⟨v, B, C, rfl, x1, ?_, List.Perm.refl _⟩
    simp only [List.set_cons_zero, SlIs]
    exact ⟨_, r, rfl, x2⟩
  | some (m', d') :: e, _, _, i + 1, m, d, x, h => by
    simp only [SlIs] at x
    obtain ⟨v, r, B', C', rfl, rfl, x1, x2⟩ := x
    obtain ⟨v2, B, C, h1, h2, h3, h4⟩ := SlIs.get (i := i) x2 (by simpa using h)
    refine ⟨v2, B, B' ++ C, by simpa using h1, h2, ?_, ?_⟩
    · simp only [List.set_cons_succ, SlIs]
      exact ⟨v, r, B', C, rfl, rfl, x1, h3⟩
    · refine (List.Perm.append_left B' h4).trans ?_
      rw [← List.append_assoc, ← List.append_assoc]
      exact List.Perm.append_right C List.perm_append_comm
theorem SlIs.clr {F H : Hp} {e : Sl} {σ : St} {A : List Addr} (i : Nat) (x : SlIs F H e σ A) : ∃ B C, SlIs F H (e.set i none) σ C ∧ A.Perm (B ++ C) := by
  cases h : e[i]? with
  | none =>
    have hi : e.length ≤ i := List.getElem?_eq_none_iff.mp h
    rw [List.set_eq_of_length_le hi]
    exact ⟨[], A, x, List.Perm.refl _⟩
  | some o =>
    cases o with
    | none =>
      have hi : i < e.length := by
        rcases Nat.lt_or_ge i e.length with q | q
        · exact q
        · rw [List.getElem?_eq_none q] at h; cases h
      have : e.set i none = e := by
        refine List.ext_getElem? fun j => ?_
        rw [List.getElem?_set]
        split
        · rename_i q; subst q
          exact h.symm
        · rfl
      rw [this]
      exact ⟨[], A, x, List.Perm.refl _⟩
    | some p =>
      obtain ⟨v, B, C, _, _, h3, h4⟩ := SlIs.get (i := i) (m := p.1) (d := p.2) x h
      exact ⟨B, C, h3, h4⟩
theorem SlIs.put {F H : Hp} {d : D} {m : Nat} {v : V} {B : List Addr} (y : Is F H d m v B) : ∀ {e : Sl} {σ : St} {C : List Addr} {i : Nat}, i < e.length → SlIs F H (e.set i none) σ C → ∃ A, SlIs F H (e.set i (some (m, d))) (σ.set i (some v)) A ∧ A.Perm (B ++ C)
  | [], _, _, _, hi, _ => by simp at hi
  | o :: e, _, C, 0, hi, x => by
    simp only [List.set_cons_zero, SlIs] at x
    obtain ⟨w, r, rfl, x⟩ := x
    refine ⟨B ++ C, ?_, List.Perm.refl _⟩
    simp only [List.set_cons_zero, SlIs]
    exact ⟨v, r, B, C, rfl, rfl, y, x⟩
  | none :: e, _, C, i + 1, hi, x => by
    simp only [List.set_cons_succ, SlIs] at x
    obtain ⟨w, r, rfl, x⟩ := x
    obtain ⟨A, h1, h2⟩ := SlIs.put y (i := i) (by simpa using hi) x
    refine ⟨A, ?_, h2⟩
    simp only [List.set_cons_succ, SlIs]
    exact ⟨w, _, rfl, h1⟩
  | some (m', d') :: e, _, C, i + 1, hi, x => by
    simp only [List.set_cons_succ, SlIs] at x
    obtain ⟨v', r, B', C', rfl, rfl, x1, x2⟩ := x
    obtain ⟨A, h1, h2⟩ := SlIs.put y (i := i) (by simpa using hi) x2
    refine ⟨B' ++ A, ?_, ?_⟩
    · simp only [List.set_cons_succ, SlIs]
      exact ⟨v', _, B', A, rfl, rfl, x1, h1⟩
    · refine (List.Perm.append_left B' h2).trans ?_
      rw [← List.append_assoc, ← List.append_assoc]
      exact List.Perm.append_right C' List.perm_append_comm
theorem SlIs.any {F H : Hp} {w : Option V} : ∀ {e : Sl} {σ : St} {C : List Addr} {i : Nat}, SlIs F H (e.set i none) σ C → SlIs F H (e.set i none) (σ.set i w) C
  | [], _, _, _, x => by simp only [List.set_nil, SlIs] at x ⊢; rw [x.1]; exact ⟨rfl, x.2⟩
  | o :: e, _, C, 0, x => by
    simp only [List.set_cons_zero, SlIs] at x ⊢
    obtain ⟨w', r, rfl, x⟩ := x
    exact ⟨_, r, rfl, x⟩
  | none :: e, _, C, i + 1, x => by
    simp only [List.set_cons_succ, SlIs] at x ⊢
    obtain ⟨w', r, rfl, x⟩ := x
    exact ⟨w', _, rfl, SlIs.any x⟩
  | some (m', d') :: e, _, C, i + 1, x => by
    simp only [List.set_cons_succ, SlIs] at x ⊢
    obtain ⟨v', r, B', C', rfl, rfl, x1, x2⟩ := x
    exact ⟨v', _, B', C', rfl, rfl, x1, SlIs.any x2⟩

structure Rel (F H : Hp) (e : Sl) (σ : St) (A : List Addr) : Prop where
  sm : Same F H
  nd : A.Nodup
  sl : SlIs F H e σ A

/-! ### steps -/
structure Step (F H : Hp) (A : List Addr) (F' H' : Hp) (A' : List Addr) : Prop where
  fz : Same F F'
  nw : ∀ a, F' a ≠ none → F a ≠ none ∨ a ∈ A ∨ H a = none ∨ ∃ vs, H a = some (.tup vs)
  kp : ∀ a o, H a = some o → a ∉ A → H' a = some o
  th : ∀ a, H' a = none → H a = none
  ow : ∀ a ∈ A', a ∈ A ∨ H a = none
  tp : Tups H H'
theorem Step.refl (F H : Hp) (A : List Addr) : Step F H A F H A := ⟨Same.refl F, fun a h => .inl h, fun a o h _ => h, fun a h => h, fun a h => .inl h, fun a vs h => h⟩
theorem Step.trans {F H F1 H1 F2 H2 : Hp} {A A1 A2 : List Addr} (x : Step F H A F1 H1 A1) (y : Step F1 H1 A1 F2 H2 A2) : Step F H A F2 H2 A2 where
  fz := x.fz.trans y.fz
  nw := fun a h => by
    rcases y.nw a h with h | h | h | ⟨vs, h⟩
    · exact x.nw a h
    · rcases x.ow a h with h | h
      · exact .inr (.inl h)
      · exact .inr (.inr (.inl h))
    · exact .inr (.inr (.inl (x.th a h)))
    · cases q : H a with
      | none => exact .inr (.inr (.inl rfl))
      | some o =>
        by_cases ha : a ∈ A
        · exact .inr (.inl ha)
        · have := x.kp a o q ha
          rw [h] at this
          cases this
          exact .inr (.inr (.inr ⟨vs, rfl⟩))
  kp := fun a o h n => y.kp a o (x.kp a o h n) fun z => by
    rcases x.ow a z with q | q
    · exact n q
    · rw [h] at q; cases q
  th := fun a h => x.th a (y.th a h)
  ow := fun a h => by
    rcases y.ow a h with h | h
    · exact x.ow a h
    · exact .inr (x.th a h)
  tp := fun a vs h => y.tp a vs (x.tp a vs h)
theorem Step.frame {F H F' H' : Hp} {A A' : List Addr} (B : List Addr) (x : Step F H A F' H' A') : Step F H (A ++ B) F' H' (A' ++ B) where
  fz := x.fz
  nw := fun a h => by
    rcases x.nw a h with h | h | h | h
    · exact .inl h
    · exact .inr (.inl (List.mem_append_left _ h))
    · exact .inr (.inr (.inl h))
    · exact .inr (.inr (.inr h))
  kp := fun a o h n => x.kp a o h fun z => n (List.mem_append_left _ z)
  th := x.th
  ow := fun a h => by
    rcases List.mem_append.mp h with h | h
    · rcases x.ow a h with h | h
      · exact .inl (List.mem_append_left _ h)
      · exact .inr h
    · exact .inl (List.mem_append_right _ h)
  tp := x.tp
theorem Step.sub {F H F' H' : Hp} {A A' A2 : List Addr} (x : Step F H A F' H' A') (h : ∀ a ∈ A2, a ∈ A') : Step F H A F' H' A2 := ⟨x.fz, x.nw, x.kp, x.th, fun a q => x.ow a (h a q), x.tp⟩
theorem Step.sup {F H F' H' : Hp} {A A' A2 : List Addr} (x : Step F H A F' H' A') (h : ∀ a ∈ A, a ∈ A2) : Step F H A2 F' H' A' :=
  ⟨x.fz, fun a q => (x.nw a q).imp id fun z => z.imp (h a) id, fun a o q n => x.kp a o q fun z => n (h a z), x.th, fun a q => (x.ow a q).imp (h a) id, x.tp⟩

/-- what is not touched stays: ownership apart from the active one -/
theorem Step.apart {F H F' H' : Hp} {A A' : List Addr} (x : Step F H A F' H' A') {B : List Addr} (hB : ∀ a ∈ B, F a = none ∧ ∃ o, H a = some o ∧ ∀ vs, o ≠ .tup vs) (n : ∀ a ∈ B, a ∉ A) : (∀ a ∈ B, F' a = none) ∧ ∀ a ∈ B, H' a = H a := by
  refine ⟨fun a h => ?_, fun a h => ?_⟩
  · obtain ⟨h1, o, h2, h3⟩ := hB a h
    cases q : F' a with
    | none => rfl
    | some u =>
      rcases x.nw a (by rw [q]; simp) with z | z | z | ⟨vs, z⟩
      · exact absurd h1 z
      · exact absurd z (n a h)
      · rw [h2] at z; cases z
      · rw [h2] at z; exact absurd (Option.some.inj z) (h3 vs)
  · obtain ⟨h1, o, h2, h3⟩ := hB a h
    rw [h2]
    exact x.kp a o h2 (n a h)

/-! ### what an expression gives -/
/-- (some m, d): owned m layers deep; (none, d): borrowed -/
abbrev Rv := Option Nat × D
def IsR (F H : Hp) : Rv → V → List Addr → Prop
  | (some m, d), v, B => Is F H d m v B
  | (none, d), v, B => Fz H d v ∧ B = []
def IsRs (F H : Hp) : List Rv → List V → List Addr → Prop
  | [], vs, B => vs = [] ∧ B = []
  | r :: rs, vs, B => ∃ v w C E, vs = v :: w ∧ B = C ++ E ∧ IsR F H r v C ∧ IsRs F H rs w E
theorem IsR.own {F H : Hp} {r : Rv} {v : V} {B : List Addr} (x : IsR F H r v B) : ∀ a ∈ B, F a = none ∧ ∃ o, H a = some o ∧ ∀ vs, o ≠ .tup vs := by
  obtain ⟨k, d⟩ := r
  cases k with
  | some m => exact Is.own x
  | none =>
    intro a h
    rw [x.2] at h; cases h
theorem IsR.read {F H : Hp} {r : Rv} {v : V} {B : List Addr} (sm : Same F H) (x : IsR F H r v B) : Fz H r.2 v := by
  obtain ⟨k, d⟩ := r
  cases k with
  | some m => exact Is.fz sm (fun a h => rfl) x
  | none => exact x.1
theorem IsRs.own {F H : Hp} : ∀ {rs : List Rv} {vs : List V} {B : List Addr}, IsRs F H rs vs B → ∀ a ∈ B, F a = none ∧ ∃ o, H a = some o ∧ ∀ vs, o ≠ .tup vs
  | [], _, _, x, a, h => by simp only [IsRs] at x; rw [x.2] at h; cases h
  | r :: rs, _, _, x, a, h => by
    simp only [IsRs] at x
    obtain ⟨v, w, C, E, rfl, rfl, x1, x2⟩ := x
    rcases List.mem_append.mp h with h | h
    · exact IsR.own x1 a h
    · exact IsRs.own x2 a h
theorem IsRs.read {F H : Hp} (sm : Same F H) : ∀ {rs : List Rv} {vs : List V} {B : List Addr}, IsRs F H rs vs B → FzL H (rs.map (·.2)) vs
  | [], _, _, x => by simp only [IsRs] at x; exact x.1
  | r :: rs, _, _, x => by
    simp only [IsRs] at x
    obtain ⟨v, w, C, E, rfl, rfl, x1, x2⟩ := x
    simp only [List.map_cons, FzL]
    exact ⟨v, w, rfl, IsR.read sm x1, IsRs.read sm x2⟩

inductive Out (α : Type) where
  | ok (a : α) (e : Sl)
  | exc (c : Str) (e : Sl)
  | bad
abbrev M (α : Type) := Sl → Out α

structure Got (q : Bool) (F H : Hp) (e : Sl) (σ : St) (A : List Addr) (F' H' : Hp) (e' : Sl) (A' B : List Addr) : Prop where
  st : Step F H (if q = true then [] else A) F' H' (if q = true then B else A' ++ B)
  qt : q = true → e' = e ∧ A' = A
  rel : Rel F' H' e' σ A'
  nd : (A' ++ B).Nodup
theorem nodup_app {A B : List Addr} : (A ++ B).Nodup ↔ A.Nodup ∧ B.Nodup ∧ ∀ a ∈ A, a ∉ B := by
  rw [List.nodup_append]
  constructor
  · rintro ⟨h1, h2, h3⟩
    exact ⟨h1, h2, fun a ha hb => h3 a ha a hb rfl⟩
  · rintro ⟨h1, h2, h3⟩
    exact ⟨h1, h2, fun a ha b hb e => h3 a ha (e ▸ hb)⟩
theorem Got.refl {q : Bool} {F H : Hp} {e : Sl} {σ : St} {A : List Addr} (r : Rel F H e σ A) : Got q F H e σ A F H e A [] := by
  refine ⟨?_, fun _ => ⟨rfl, rfl⟩, r, by rw [List.append_nil]; exact r.nd⟩
  cases q
  · simp only [Bool.false_eq_true, if_false, List.append_nil]; exact Step.refl _ _ _
  · simp only [if_true]; exact Step.refl _ _ _
/-- as a step in the open -/
theorem Got.step {q : Bool} {F H F' H' : Hp} {e e' : Sl} {σ : St} {A A' B : List Addr} (g : Got q F H e σ A F' H' e' A' B) : Step F H A F' H' (A' ++ B) := by
  have st := g.st
  cases q with
  | false => simpa using st
  | true =>
    simp only [if_true] at st
    have := (st.frame A).sub (A2 := A' ++ B) (fun a h => by
      rw [(g.qt rfl).2] at h
      rcases List.mem_append.mp h with h | h
      · exact List.mem_append_right _ h
      · exact List.mem_append_left _ h)
    simpa using this
theorem Got.loud {q : Bool} {F H F' H' : Hp} {e e' : Sl} {σ : St} {A A' B : List Addr} (g : Got q F H e σ A F' H' e' A' B) : Got false F H e σ A F' H' e' A' B :=
  ⟨by simpa using g.step, fun z => (by cases z), g.rel, g.nd⟩
theorem Got.sub {q : Bool} {F H F' H' : Hp} {e e' : Sl} {σ : St} {A A' B B2 : List Addr} (g : Got q F H e σ A F' H' e' A' B) (h : B2.Sublist B) : Got q F H e σ A F' H' e' A' B2 := by
  refine ⟨g.st.sub fun a ha => ?_, g.qt, g.rel, g.nd.sublist ((List.Sublist.refl A').append h)⟩
  cases q
  · simp only [Bool.false_eq_true, if_false] at ha ⊢
    rcases List.mem_append.mp ha with z | z
    · exact List.mem_append_left _ z
    · exact List.mem_append_right _ (h.subset z)
  · simp only [if_true] at ha ⊢
    exact h.subset ha
theorem Got.apart {qa qb : Bool} {F H F1 H1 F2 H2 : Hp} {e e1 e2 : Sl} {σ : St} {A A1 A2 B1 B2 : List Addr} (x : Got qa F H e σ A F1 H1 e1 A1 B1) (y : Got qb F1 H1 e1 σ A1 F2 H2 e2 A2 B2) (hB : ∀ a ∈ B1, F1 a = none ∧ ∃ o, H1 a = some o ∧ ∀ vs, o ≠ .tup vs) :
    (∀ a ∈ B1, F2 a = none) ∧ ∀ a ∈ B1, H2 a = H1 a :=
  y.step.apart hB fun a h z => (nodup_app.mp x.nd).2.2 a z h
theorem Got.trans {qa qb : Bool} {F H F1 H1 F2 H2 : Hp} {e e1 e2 : Sl} {σ : St} {A A1 A2 B1 B2 : List Addr} (x : Got qa F H e σ A F1 H1 e1 A1 B1) (y : Got qb F1 H1 e1 σ A1 F2 H2 e2 A2 B2) (hB : ∀ a ∈ B1, F1 a = none ∧ ∃ o, H1 a = some o ∧ ∀ vs, o ≠ .tup vs) :
    Got (qa && qb) F H e σ A F2 H2 e2 A2 (B1 ++ B2) := by
  refine ⟨?_, fun z => ?_, y.rel, ?_⟩
  · cases hq : (qa && qb) with
    | true =>
      simp only [Bool.and_eq_true] at hq
      obtain ⟨rfl, rfl⟩ := hq
      have s1 := x.st
      have s2 := y.st
      simp only [if_true] at s1 s2 ⊢
      have s2' := (s2.frame B1)
      simp only [List.nil_append] at s2'
      refine (s1.trans s2').sub fun a h => ?_
      rcases List.mem_append.mp h with h | h
      · exact List.mem_append_right _ h
      · exact List.mem_append_left _ h
    | false =>
      simp only [Bool.false_eq_true, if_false]
      have s1 := x.step
      have s2 := y.step.frame B1
      refine (s1.trans s2).sub fun a h => ?_
      simp only [List.mem_append] at h ⊢
      rcases h with h | h | h
      · exact .inl (.inl h)
      · exact .inr h
      · exact .inl (.inr h)
  · simp only [Bool.and_eq_true] at z
    obtain ⟨rfl, rfl⟩ := z
    exact ⟨(y.qt rfl).1.trans (x.qt rfl).1, (y.qt rfl).2.trans (x.qt rfl).2⟩
  · obtain ⟨n1, n2, n3⟩ := nodup_app.mp x.nd
    obtain ⟨m1, m2, m3⟩ := nodup_app.mp y.nd
    have ow := y.step.ow
    refine nodup_app.mpr ⟨m1, nodup_app.mpr ⟨n2, m2, fun a h z => ?_⟩, fun a h z => ?_⟩
    · obtain ⟨_, o, ho, _⟩ := hB a h
      rcases ow a (List.mem_append_right _ z) with q | q
      · exact n3 a q h
      · rw [ho] at q; cases q
    · rcases List.mem_append.mp z with z | z
      · obtain ⟨_, o, ho, _⟩ := hB a z
        rcases ow a (List.mem_append_left _ h) with q | q
        · exact n3 a q z
        · rw [ho] at q; cases q
      · exact m3 a h z
/-- a quiet step from a state -/
theorem Got.quiet {F H F' H' : Hp} {e : Sl} {σ : St} {A B : List Addr} (r : Rel F H e σ A) (st : Step F H [] F' H' B) (sm : Same F' H') (nd : B.Nodup) : Got true F H e σ A F' H' e A B := by
  have ap := st.apart r.sl.own (fun a _ => by simp)
  refine ⟨by simpa using st, fun _ => ⟨rfl, rfl⟩, ⟨sm, r.nd, r.sl.frame st.fz ap.1 ap.2⟩, nodup_app.mpr ⟨r.nd, nd, fun a h z => ?_⟩⟩
  rcases st.ow a z with q | q
  · cases q
  · obtain ⟨_, o, ho, _⟩ := r.sl.own a h
    rw [ho] at q; cases q

def hold (qb : Bool) (r : Rv) : Bool := qb || r.1.isSome || r.2.dep == 0
theorem IsR.keep {qb : Bool} {F1 H1 F2 H2 : Hp} {e1 e2 : Sl} {σ : St} {A1 A2 B1 B2 : List Addr} {r : Rv} {v : V} (h : hold qb r = true) (x : IsR F1 H1 r v B1) (y : Got qb F1 H1 e1 σ A1 F2 H2 e2 A2 B2) (n : ∀ a ∈ B1, a ∉ A1) : IsR F2 H2 r v B1 := by
  have ap := y.step.apart (IsR.own x) n
  obtain ⟨k, d⟩ := r
  cases k with
  | some m => exact Is.frame y.step.fz ap.1 ap.2 x
  | none =>
    refine ⟨?_, x.2⟩
    by_cases hq : qb = true
    · subst hq
      have st := y.st
      simp only [if_true] at st
      exact Fz.mono (fun a o e => st.kp a o e (by simp)) _ _ x.1
    · have hd : d.dep = 0 := by
        unfold hold at h
        simp only [Bool.or_eq_true, beq_iff_eq] at h
        rcases h with (h | h) | h
        · exact absurd h hq
        · cases h
        · exact h
      exact Fz.flat y.step.tp _ _ hd x.1

/-! ### judgements -/
def clv (mg : Str → Option Value) (c : Str) : Value := (mg c).getD .none
/-- what must hold behind an expression (a value), a test (a truth), arguments (a list) -/
def PostE {α β : Type} (mg : Str → Option Value) (W : WX) (I : Hp → Hp → α → β → List Addr → Prop) (q : Bool) (F H : Hp) (e : Sl) (σ : St) (A : List Addr) (o : Out α) (Q : β → Hp → Prop) : Prop := match o with
  | .ok r e' => ∀ F' H' A' B v, Got q F H e σ A F' H' e' A' B → I F' H' r v B → Q v H'
  | .exc c e' => ∀ F' H' A', Got q F H e σ A F' H' e' A' [] → W (clv mg c) none σ H'
  | .bad => False
def IsB (_ _ : Hp) (b c : Bool) (B : List Addr) : Prop := c = b ∧ B = []
def SX {α β : Type} (mg : Str → Option Value) (W : WX) (I : Hp → Hp → α → β → List Addr → Prop) (q : Bool) (t : St → Hp → (β → Hp → Prop) → Prop) (s : M α) : Prop :=
  ∀ F H e σ A Q, Rel F H e σ A → PostE mg W I q F H e σ A (s e) Q → t σ H Q
structure EV (X : Cx) (W : WX) (q : Bool) (x : Expr) (t : TE) (s : M Rv) : Prop where
  pe : PE X x t
  se : SX X.mg W IsR q t s
structure TV (X : Cx) (W : WX) (q : Bool) (x : Expr) (t : TT) (s : M Bool) : Prop where
  pe : PT X x t
  se : SX X.mg W IsB q t s
structure AV (X : Cx) (W : WX) (q : Bool) (x : List Expr) (t : TA) (s : M (List Rv)) : Prop where
  pe : PA X x t
  se : SX X.mg W IsRs q t s

/-- one part, then another -/
theorem PostE.imp {α β : Type} {mg : Str → Option Value} {W : WX} {I : Hp → Hp → α → β → List Addr → Prop} {q : Bool} {F H : Hp} {e : Sl} {σ : St} {A : List Addr} {o : Out α} {Q R : β → Hp → Prop} (h : PostE mg W I q F H e σ A o Q) (k : ∀ v H', Q v H' → R v H') : PostE mg W I q F H e σ A o R := by
  cases o with
  | ok r e' => exact fun F' H' A' B v g x => k _ _ (h F' H' A' B v g x)
  | exc c e' => exact h
  | bad => exact h
end AR

set_option Elab.async false
set_option linter.all false
set_option maxRecDepth 100000
namespace AR
open PySem PySem.Spec PyProof.Rows L2

/-! ### moves of the state -/
section
variable {q : Bool} {F H F1 H1 : Hp} {e e1 : Sl} {σ : St} {A A1 B C : List Addr}
theorem Got.weak {qa : Bool} (hq : q = true → qa = true) (g : Got qa F H e σ A F1 H1 e1 A1 B) : Got q F H e σ A F1 H1 e1 A1 B := by
  cases q with
  | false => exact g.loud
  | true => rw [← hq rfl]; exact g
theorem Got.perm (g : Got q F H e σ A F1 H1 e1 A1 B) (h : B.Perm C) : Got q F H e σ A F1 H1 e1 A1 C := by
  refine ⟨g.st.sub fun a ha => ?_, g.qt, g.rel, ?_⟩
  · cases q
    · simp only [Bool.false_eq_true, if_false] at ha ⊢
      rcases List.mem_append.mp ha with z | z
      · exact List.mem_append_left _ z
      · exact List.mem_append_right _ (h.mem_iff.mpr z)
    · simp only [if_true] at ha ⊢
      exact h.mem_iff.mpr ha
  · exact (List.Perm.append_left A1 h).nodup_iff.mp g.nd
def addTo (F H : Hp) (B : List Addr) : Hp := fun a => if a ∈ B then H a else F a
theorem addTo_in {a : Addr} (h : a ∈ B) : addTo F H B a = H a := by unfold addTo; rw [if_pos h]
theorem addTo_out {a : Addr} (h : a ∉ B) : addTo F H B a = F a := by unfold addTo; rw [if_neg h]
theorem addTo_same (hB : ∀ a ∈ B, F a = none) : Same F (addTo F H B) := fun a o h => by
  by_cases q : a ∈ B
  · rw [hB a q] at h; cases h
  · rw [addTo_out q]; exact h
theorem addTo_into (h : Same F H) : Same (addTo F H B) H := fun a o e => by
  by_cases q : a ∈ B
  · rw [addTo_in q] at e; exact e
  · rw [addTo_out q] at e; exact h _ _ e
theorem Got.freeze (g : Got q F H e σ A F1 H1 e1 A1 (B ++ C)) (hB : ∀ a ∈ B, F1 a = none) : Got q F H e σ A (addTo F1 H1 B) H1 e1 A1 C := by
  obtain ⟨n1, n2, n3⟩ := nodup_app.mp g.nd
  obtain ⟨m1, m2, m3⟩ := nodup_app.mp n2
  have st := g.st
  refine ⟨⟨st.fz.trans (addTo_same hB), fun a h => ?_, st.kp, st.th, fun a h => st.ow a ?_, st.tp⟩, g.qt, ⟨addTo_into g.rel.sm, g.rel.nd, g.rel.sl.frame (addTo_same hB) (fun a h => ?_) fun _ _ => rfl⟩, nodup_app.mpr ⟨n1, m2, fun a h z => n3 a h (List.mem_append_right _ z)⟩⟩
  · by_cases hb : a ∈ B
    · have := st.ow a (by cases q <;> simp [hb])
      rcases this with z | z
      · exact .inr (.inl z)
      · exact .inr (.inr (.inl z))
    · rw [addTo_out hb] at h
      exact st.nw a h
  · cases q
    · simp only [Bool.false_eq_true, if_false, List.mem_append] at h ⊢
      rcases h with h | h
      · exact .inl h
      · exact .inr (.inr h)
    · simp only [if_true, List.mem_append] at h ⊢
      exact .inr h
  · have hb : a ∉ B := fun z => n3 a h (List.mem_append_left _ z)
    rw [addTo_out hb]
    exact (g.rel.sl.own a h).1
theorem Got.tups (g : Got q F H e σ A F1 H1 e1 A1 B) : Got q F H e σ A (tupd F1 H1) H1 e1 A1 B := by
  have st := g.st
  have sm := g.rel.sm
  refine ⟨⟨st.fz.trans (tupd_same _ _), fun a h => ?_, st.kp, st.th, st.ow, st.tp⟩, g.qt, ⟨tupd_into sm, g.rel.nd, g.rel.sl.frame (tupd_same _ _) (fun a h => ?_) fun _ _ => rfl⟩, g.nd⟩
  · rcases tupd_or h with z | ⟨vs, z⟩
    · exact st.nw a z
    · cases w : H a with
      | none => exact .inr (.inr (.inl rfl))
      | some o =>
        by_cases ha : a ∈ (if q = true then [] else A)
        · exact .inr (.inl ha)
        · have := st.kp a o w ha
          rw [z] at this
          cases this
          exact .inr (.inr (.inr ⟨vs, rfl⟩))
  · obtain ⟨h1, o, h2, h3⟩ := g.rel.sl.own a h
    exact tupd_none h1 fun vs z => by rw [h2] at z; exact h3 vs (Option.some.inj z)
theorem Rel.fresh (r : Rel F H e σ A) {p : Addr} (h : H p = none) : F p = none ∧ p ∉ A :=
  ⟨r.sm.free h, fun z => by obtain ⟨_, o, ho, _⟩ := r.sl.own p z; rw [h] at ho; cases ho⟩
/-- a new list or dict, owned -/
theorem Got.newL (g : Got q F H e σ A F1 H1 e1 A1 B) (hB : ∀ a ∈ B, ∃ o, H1 a = some o) {p : Addr} (hp : H1 p = none) (o : HO) : Got q F H e σ A F1 (upd H1 p o) e1 A1 (p :: B) := by
  obtain ⟨hf, hA⟩ := g.rel.fresh hp
  have st := g.st
  have np : p ∉ B := fun z => by obtain ⟨o, ho⟩ := hB p z; rw [hp] at ho; cases ho
  have ne : ∀ {a u}, H1 a = some u → a ≠ p := fun h z => by rw [z, hp] at h; cases h
  refine ⟨⟨st.fz, st.nw, fun a u h n => ?_, fun a h => ?_, fun a h => ?_, fun a vs h => ?_⟩, g.qt, ⟨fun a u h => ?_, g.rel.nd, g.rel.sl.frame (Same.refl _) (fun a h => (g.rel.sl.own a h).1) fun a h => ?_⟩, ?_⟩
  · have := st.kp a u h n
    rw [upd_ne (ne this)]; exact this
  · refine st.th a ?_
    by_cases z : a = p
    · rw [z]; exact hp
    · rw [upd_ne z] at h; exact h
  · by_cases z : a = p
    · rw [z]; exact .inr (st.th p hp)
    · refine st.ow a ?_
      cases q
      · simp only [Bool.false_eq_true, if_false, List.mem_append, List.mem_cons] at h ⊢
        rcases h with h | h | h
        · exact .inl h
        · exact absurd h z
        · exact .inr h
      · simp only [if_true, List.mem_cons] at h ⊢
        rcases h with h | h
        · exact absurd h z
        · exact h
  · have := st.tp a vs h
    rw [upd_ne (ne this)]; exact this
  · have := g.rel.sm a u h
    rw [upd_ne (ne this)]; exact this
  · obtain ⟨_, u, hu, _⟩ := g.rel.sl.own a h
    rw [upd_ne (ne hu)]
  · obtain ⟨n1, n2, n3⟩ := nodup_app.mp g.nd
    refine nodup_app.mpr ⟨n1, List.nodup_cons.mpr ⟨np, n2⟩, fun a h z => ?_⟩
    rcases List.mem_cons.mp z with z | z
    · exact hA (z ▸ h)
    · exact n3 a h z
/-- a new tuple -/
theorem Got.newT (g : Got q F H e σ A F1 H1 e1 A1 B) (hB : ∀ a ∈ B, ∃ o, H1 a = some o) {p : Addr} (hp : H1 p = none) (vs : List V) : Got q F H e σ A (upd F1 p (.tup vs)) (upd H1 p (.tup vs)) e1 A1 B := by
  obtain ⟨hf, hA⟩ := g.rel.fresh hp
  have st := g.st
  have ne : ∀ {a u}, H1 a = some u → a ≠ p := fun h z => by rw [z, hp] at h; cases h
  have sF : Same F1 (upd F1 p (.tup vs)) := fun a u h => by
    rw [upd_ne (ne (g.rel.sm a u h))]; exact h
  refine ⟨⟨st.fz.trans sF, fun a h => ?_, fun a u h n => ?_, fun a h => ?_, fun a h => st.ow a h, fun a vs h => ?_⟩, g.qt, ⟨fun a u h => ?_, g.rel.nd, g.rel.sl.frame sF (fun a h => ?_) fun a h => ?_⟩, g.nd⟩
  · by_cases z : a = p
    · rw [z]; exact .inr (.inr (.inl (st.th p hp)))
    · rw [upd_ne z] at h; exact st.nw a h
  · have := st.kp a u h n
    rw [upd_ne (ne this)]; exact this
  · refine st.th a ?_
    by_cases z : a = p
    · rw [z]; exact hp
    · rw [upd_ne z] at h; exact h
  · have := st.tp a vs h
    rw [upd_ne (ne this)]; exact this
  · by_cases z : a = p
    · rw [z] at h ⊢; rw [upd_same] at h ⊢; exact h
    · rw [upd_ne z] at h ⊢; exact g.rel.sm a u h
  · have z : a ≠ p := fun z => hA (z ▸ h)
    rw [upd_ne z]; exact (g.rel.sl.own a h).1
  · have z : a ≠ p := fun z => hA (z ▸ h)
    rw [upd_ne z]
theorem sameF {p : Addr} {vs : List V} (hp : F p = none) : Same F (upd F p (.tup vs)) := fun a u h => by
  rw [upd_ne (fun z => by rw [z, hp] at h; cases h)]; exact h

/-- what is not borrowed, or has no lists, can be frozen -/
def canFz (r : Rv) : Bool := r.1.isSome || r.2.dep == 0
theorem Got.toFz {r : Rv} {v : V} (g : Got q F H e σ A F1 H1 e1 A1 (B ++ C)) (x : IsR F1 H1 r v B) (hC : ∀ a ∈ C, F1 a = none ∧ ∃ o, H1 a = some o ∧ ∀ vs, o ≠ .tup vs) (ok : canFz r = true) : ∃ F2, Got q F H e σ A F2 H1 e1 A1 C ∧ Same F1 F2 ∧ (∀ a ∈ C, F2 a = none) ∧ Fz F2 r.2 v := by
  obtain ⟨k, d⟩ := r
  cases k with
  | some m =>
    have hB : ∀ a ∈ B, F1 a = none := fun a h => (Is.own x a h).1
    have nd := (nodup_app.mp (nodup_app.mp g.nd).2.1).2.2
    refine ⟨_, g.freeze hB, addTo_same hB, fun a h => ?_, Is.fz (addTo_same hB) (fun a h => addTo_in h) x⟩
    rw [addTo_out fun z => nd a z h]
    exact (hC a h).1
  | none =>
    have hd : d.dep = 0 := by
      unfold canFz at ok
      simpa using ok
    have hb : B = [] := x.2
    subst hb
    refine ⟨_, Got.tups (by simpa using g), tupd_same _ _, fun a h => ?_, Fz.flat (fun a vs h => tupd_tup g.rel.sm h) _ _ hd x.1⟩
    obtain ⟨h1, o, h2, h3⟩ := hC a h
    exact tupd_none h1 fun vs z => by rw [h2] at z; exact h3 vs (Option.some.inj z)
theorem Got.flatR {x : D} {u : V} (g : Got q F H e σ A F1 H1 e1 A1 B) (z : x.dep = 0) (h : Fz H1 x u) (m : Nat) : Got q F H e σ A (tupd F1 H1) H1 e1 A1 [] ∧ IsR (tupd F1 H1) H1 (some m, x) u [] :=
  ⟨(g.sub (List.nil_sublist _)).tups, Fz.isn z (Fz.flat (fun a vs h => tupd_tup g.rel.sm h) _ _ z h) m⟩
end

/-! ### the semantics' own words -/
def mret {α : Type} (a : α) : M α := fun e => .ok a e
def mbad {α : Type} : M α := fun _ => .bad
def mbind {α β : Type} (s : M α) (f : α → M β) : M β := fun e => match s e with
  | .ok a e' => f a e'
  | .exc c e' => .exc c e'
  | .bad => .bad
def mopt {α : Type} : Option α → M α
  | some a => mret a
  | none => mbad
def mif {α : Type} (b : Bool) (s : M α) : M α := if b = true then s else mbad

section
variable {mg : Str → Option Value} {W : WX}
theorem SX.weak {α β : Type} {I : Hp → Hp → α → β → List Addr → Prop} {q qa : Bool} {t : St → Hp → (β → Hp → Prop) → Prop} {s : M α} (hq : q = true → qa = true) (h : SX mg W I qa t s) : SX mg W I q t s := fun F H e σ A Q R p => by
  refine h F H e σ A Q R ?_
  cases hs : s e with
  | ok r e' => rw [hs] at p; exact fun F' H' A' B v g x => p F' H' A' B v (g.weak hq) x
  | exc c e' => rw [hs] at p; exact fun F' H' A' g => p F' H' A' (g.weak hq)
  | bad => rw [hs] at p; exact p
/-- first ta, then k -/
theorem SX.bind {α β γ δ : Type} {I : Hp → Hp → α → β → List Addr → Prop} {J : Hp → Hp → γ → δ → List Addr → Prop} {q qa : Bool} {t : St → Hp → (β → Hp → Prop) → Prop} {s : M α} {f : α → M γ} {k : β → St → Hp → (δ → Hp → Prop) → Prop} (hq : q = true → qa = true) (h : SX mg W I qa t s)
    (hk : ∀ F H e σ A F1 H1 e1 A1 B r v Q, Rel F H e σ A → Got qa F H e σ A F1 H1 e1 A1 B → I F1 H1 r v B → PostE mg W J q F H e σ A (f r e1) Q → k v σ H1 Q) :
    SX mg W J q (fun σ H Q => t σ H fun v H1 => k v σ H1 Q) (mbind s f) := fun F H e σ A Q R p => by
  refine h F H e σ A _ R ?_
  unfold mbind at p
  cases hs : s e with
  | ok r e' => rw [hs] at p; exact fun F' H' A' B v g x => hk _ _ _ _ _ _ _ _ _ _ _ _ _ R g x p
  | exc c e' => rw [hs] at p; exact fun F' H' A' g => p F' H' A' (g.weak hq)
  | bad => rw [hs] at p; exact p
def IsR2 (F H : Hp) (r : Rv × Rv) (v : V × V) (B : List Addr) : Prop := ∃ C E, B = C ++ E ∧ IsR F H r.1 v.1 C ∧ IsR F H r.2 v.2 E
def two (qb : Bool) (sa sb : M Rv) : M (Rv × Rv) := mbind sa fun a => mif (hold qb a) (mbind sb fun b => mret (a, b))
theorem PostE.mif {α β : Type} {I : Hp → Hp → α → β → List Addr → Prop} {q : Bool} {F H : Hp} {e e1 : Sl} {σ : St} {A : List Addr} {Q : β → Hp → Prop} {b : Bool} {s : M α} (p : PostE mg W I q F H e σ A (mif b s e1) Q) : b = true ∧ PostE mg W I q F H e σ A (s e1) Q := by
  unfold AR.mif at p
  cases b with
  | true => exact ⟨rfl, by simpa using p⟩
  | false => simp [mbad, PostE] at p
theorem SX.two {q qa qb : Bool} {ta tb : TE} {sa sb : M Rv} (ha : SX mg W IsR qa ta sa) (hb : SX mg W IsR qb tb sb) :
    SX mg W IsR2 (qa && qb) (fun σ H Q => ta σ H fun x H1 => tb σ H1 fun y H2 => Q (x, y) H2) (two qb sa sb) := by
  refine SX.bind (k := fun x σ H1 Q => tb σ H1 fun y H2 => Q (x, y) H2) (fun z => (Bool.and_eq_true_iff.mp z).1) ha fun F H e σ A F1 H1 e1 A1 B r v Q R g x p => ?_
  obtain ⟨hh, p⟩ := p.mif
  refine hb F1 H1 e1 σ A1 _ g.rel ?_
  unfold mbind at p
  cases hs : sb e1 with
  | ok r2 e2 =>
    rw [hs] at p
    refine fun F2 H2 A2 C w g2 y => p F2 H2 A2 (B ++ C) (v, w) (g.trans g2 (IsR.own x)) ⟨B, C, rfl, ?_, y⟩
    exact IsR.keep hh x g2 fun a h z => (nodup_app.mp g.nd).2.2 a z h
  | exc c e2 =>
    rw [hs] at p
    refine fun F2 H2 A2 g2 => p F2 H2 A2 ?_
    exact (g.trans g2 (IsR.own x)).sub (List.nil_sublist _)
  | bad => rw [hs] at p; exact p
end

/-! ### rules by values -/
/-- a rule of two values keeps a function of data -/
def P2R (r : R2) (f : Rv → Rv → Option Rv) : Prop := ∀ {q : Bool} {F H : Hp} {e : Sl} {σ : St} {A : List Addr} {F1 H1 : Hp} {e1 : Sl} {A1 B C : List Addr} {v w : V} {a b x : Rv} {Q : VK},
  Got q F H e σ A F1 H1 e1 A1 (B ++ C) → IsR F1 H1 a v B → IsR F1 H1 b w C → f a b = some x → (∀ F' H' E u, Got q F H e σ A F' H' e1 A1 E → IsR F' H' x u E → Q u H') → r v w H1 Q
def PcR (r : List V → Hp → VK → Prop) (f : List Rv → Option Rv) : Prop := ∀ {q : Bool} {F H : Hp} {e : Sl} {σ : St} {A : List Addr} {F1 H1 : Hp} {e1 : Sl} {A1 B : List Addr} {vs : List V} {as : List Rv} {x : Rv} {Q : VK},
  Got q F H e σ A F1 H1 e1 A1 B → IsRs F1 H1 as vs B → f as = some x → (∀ F' H' E u, Got q F H e σ A F' H' e1 A1 E → IsR F' H' x u E → Q u H') → r vs H1 Q
/-- .. a function whose answers have no lists -/
def flat2 (f : D → D → Option D) (a b : Rv) : Option Rv := (f a.2 b.2).map fun x => (some 0, x)
theorem P2R.flat {r : R2} {f : D → D → Option D} (h : ∀ H v w d e x Q, Fz H d v → Fz H e w → f d e = some x → x.dep = 0 ∧ ((∀ u, Fz H x u → Q u H) → r v w H Q)) : P2R r (flat2 f) := by
  intro q F H e σ A F1 H1 e1 A1 B C v w a b x Q g xa xb hf k
  unfold flat2 at hf
  cases hx : f a.2 b.2 with
  | none => rw [hx] at hf; cases hf
  | some y =>
    rw [hx] at hf
    obtain rfl := Option.some.inj hf
    obtain ⟨z, hr⟩ := h H1 v w a.2 b.2 y Q (xa.read g.rel.sm) (xb.read g.rel.sm) hx
    exact hr fun u hu => k _ _ _ u (g.flatR z hu 0).1 (g.flatR z hu 0).2
theorem P2R.or {r r' : R2} {f f' : Rv → Rv → Option Rv} (h : P2R r f) (h' : P2R r' f') : P2R (fun x y H Q => r x y H Q ∨ r' x y H Q) (fun a b => (f a b).or (f' a b)) := by
  intro q F H e σ A F1 H1 e1 A1 B C v w a b x Q g xa xb hf k
  cases hx : f a b with
  | some y =>
    simp only [hx, Option.some_or] at hf
    exact .inl (h g xa xb (hx.trans hf) k)
  | none =>
    simp only [hx, Option.none_or] at hf
    exact .inr (h' g xa xb hf k)

section
variable {X : Cx} {W : WX} {q qa qb : Bool} {a b : Expr} {ta tb : TE} {sa sb : M Rv} {pos : Pos}
def sOp (f : Rv → Rv → Option Rv) (qb : Bool) (sa sb : M Rv) : M Rv := mbind (two qb sa sb) fun p => mopt (f p.1 p.2)
theorem PostE.mopt {α β : Type} {mg : Str → Option Value} {W : WX} {I : Hp → Hp → α → β → List Addr → Prop} {q : Bool} {F H : Hp} {e e1 : Sl} {σ : St} {A : List Addr} {Q : β → Hp → Prop} {o : Option α} (p : PostE mg W I q F H e σ A (mopt o e1) Q) :
    ∃ x, o = some x ∧ ∀ F' H' A' B v, Got q F H e σ A F' H' e1 A' B → I F' H' x v B → Q v H' := by
  cases o with
  | none => simp [AR.mopt, mbad, PostE] at p
  | some x => exact ⟨x, rfl, p⟩
theorem SX.op {mg : Str → Option Value} {r : R2} {f : Rv → Rv → Option Rv} (hr : P2R r f) (ha : SX mg W IsR qa ta sa) (hb : SX mg W IsR qb tb sb) : SX mg W IsR (qa && qb) (tOp r ta tb) (sOp f qb sa sb) := by
  have h := SX.bind (J := IsR) (q := qa && qb) (f := fun p => mopt (f p.1 p.2)) (k := fun p σ H Q => r p.1 p.2 H Q) id (SX.two (q := true) ha hb) (fun F H e σ A F1 H1 e1 A1 B p v Q R g x pp => by
    obtain ⟨C, E, rfl, x1, x2⟩ := x
    obtain ⟨y, hy, k⟩ := pp.mopt
    exact hr g x1 x2 hy fun F' H' E u g' x' => k F' H' A1 E u g' x')
  exact h
theorem ev_bin {op : Operator} {r : R2} {f : Rv → Rv → Option Rv} (ho : OpR X (binaryOp op) r) (hr : P2R r f) (ha : EV X W qa a ta sa) (hb : EV X W qb b tb sb) : EV X W (qa && qb) (.BinOp a op b pos) (tOp r ta tb) (sOp f qb sa sb) :=
  ⟨pe_op ho ha.pe hb.pe, SX.op hr ha.se hb.se⟩
theorem ev_cmp {op : CmpOp} {r : R2} {f : Rv → Rv → Option Rv} (ho : OpR X (compareOp op) r) (hr : P2R r f) (ha : EV X W qa a ta sa) (hb : EV X W qb b tb sb) (hm : behindInMarks op b = false) : EV X W (qa && qb) (.Compare a [op] [b] pos) (tOp r ta tb) (sOp f qb sa sb) :=
  ⟨pe_cmpR ho ha.pe hb.pe hm, SX.op hr ha.se hb.se⟩
theorem EV.weak (hq : q = true → qa = true) (h : EV X W qa a ta sa) : EV X W q a ta sa := ⟨h.pe, h.se.weak hq⟩

/-! ### constants and names -/
def sC (d : D) : M Rv := mret (some 0, d)
theorem SX.const {mg : Str → Option Value} {v : V} {d : D} (h : ∀ F, Fz F d v) : SX mg W IsR true (tC v) (sC d) := fun F H e σ A Q R p =>
  p F H A [] v (Got.refl R) (Fz.is (h F))
theorem ev_int {i : Int} {j pos} : EV X W true (.Constant (.int i) j pos) (tC (.int i)) (sC (.int i)) := ⟨pe_int, SX.const fun F => by simp only [Fz]⟩
theorem ev_bl {i : Bool} {j pos} : EV X W true (.Constant (.bool i) j pos) (tC (.bl i)) (sC (.bl i)) := ⟨pe_bl, SX.const fun F => by simp only [Fz]⟩
theorem ev_str {i : Str} {j pos} : EV X W true (.Constant (.str i) j pos) (tC (.str i)) (sC (.str i)) := ⟨pe_str, SX.const fun F => by simp only [Fz]⟩
theorem ev_non {j pos} : EV X W true (.Constant .none j pos) (tC .non) (sC .non) := ⟨pe_non, SX.const fun F => by simp only [Fz]⟩
/-- a name, looked at -/
def sName (i : Nat) : M Rv := fun e => match e[i]? with
  | some (some (m, d)) => .ok (if (m == 0 || d.dep == 0) = true then some 0 else none, d) e
  | _ => .bad
theorem SX.name {mg : Str → Option Value} {i : Nat} : SX mg W IsR true (tVar i) (sName i) := fun F H e σ A Q R p => by
  unfold sName at p
  split at p
  · rename_i m d hi
    obtain ⟨v, B, C, h1, h2, h3, h4⟩ := R.sl.get hi
    refine ⟨v, h1, p F H A [] v (Got.refl R) ?_⟩
    split
    · rename_i z
      simp only [Bool.or_eq_true, beq_iff_eq] at z
      rcases z with z | z
      · subst z; exact Fz.is (Is.zero h2).1
      · exact Fz.is (Is.flat z h2).1
    · exact ⟨Is.fz R.sm (fun _ _ => rfl) h2, rfl⟩
  · exact p.elim
theorem ev_name (i : Nat) {x : Str} {pos : Pos} (hN : X.N[i]? = some x := by rfl) (hv : Vis X.env.scope x := by first | exact Or.inl rfl | exact Or.inr (Or.inl rfl) | exact Or.inr (Or.inr rfl)) (hd : (x == ("__debug__" : Str)) = false := by decide)
    (hcd : (x == ("__classdict__" : Str)) = false := by decide) : EV X W true (.Name x pos) (tVar i) (sName i) := ⟨pe_var hN hv hd hcd, SX.name⟩
end

/-! ### a slot is taken out, frozen -/
section
variable {F H : Hp} {e : Sl} {σ : St} {A : List Addr} {i m : Nat} {d : D}
theorem set_same {σ : St} {i : Nat} {o : Option V} (h : σ[i]? = some o) : σ.set i o = σ := by
  refine List.ext_getElem? fun j => ?_
  rw [List.getElem?_set]
  split
  · rename_i q; subst q
    have hi : i < σ.length := by
      rcases Nat.lt_or_ge i σ.length with q | q
      · exact q
      · rw [List.getElem?_eq_none q] at h; cases h
    rw [if_pos hi]; exact h.symm
  · rfl
theorem lt_of_get {α : Type} {e : List α} {i : Nat} {x : α} (h : e[i]? = some x) : i < e.length := by
  rcases Nat.lt_or_ge i e.length with q | q
  · exact q
  · rw [List.getElem?_eq_none q] at h; cases h
/-- slot i's data go out, as a temporary -/
theorem Rel.take (R : Rel F H e σ A) (h : e[i]? = some (some (m, d))) : ∃ v B C, σ[i]? = some (some v) ∧ Is F H d m v B ∧ Rel F H (e.set i none) σ C ∧ A.Perm (B ++ C) ∧ Got false F H e σ A F H (e.set i none) C B := by
  obtain ⟨v, B, C, h1, h2, h3, h4⟩ := R.sl.get h
  have nd : (B ++ C).Nodup := h4.nodup_iff.mp R.nd
  obtain ⟨n1, n2, n3⟩ := nodup_app.mp nd
  have R2 : Rel F H (e.set i none) σ C := ⟨R.sm, n2, h3⟩
  refine ⟨v, B, C, h1, h2, R2, h4, ⟨?_, (fun z => by cases z), R2, nodup_app.mpr ⟨n2, n1, fun a z w => n3 a w z⟩⟩⟩
  simp only [Bool.false_eq_true, if_false]
  refine (Step.refl F H A).sub fun a z => h4.mem_iff.mpr ?_
  rcases List.mem_append.mp z with z | z
  · exact List.mem_append_right _ z
  · exact List.mem_append_left _ z
/-- a temporary goes into slot i (the slot's value v already stands there) -/
theorem Rel.put (R : Rel F H (e.set i none) σ A) {B : List Addr} {v : V} (hi : i < e.length) (y : Is F H d m v B) (nd : (A ++ B).Nodup) : ∃ A', Rel F H (e.set i (some (m, d))) (σ.set i (some v)) A' ∧ A'.Perm (B ++ A) := by
  obtain ⟨A', h1, h2⟩ := SlIs.put y hi R.sl
  obtain ⟨n1, n2, n3⟩ := nodup_app.mp nd
  exact ⟨A', ⟨R.sm, h2.nodup_iff.mpr (nodup_app.mpr ⟨n2, n1, fun a z w => n3 a w z⟩), h1⟩, h2⟩
end
end AR

set_option Elab.async false
set_option linter.all false
set_option maxRecDepth 100000
namespace AR
open PySem PySem.Spec PyProof.Rows L2

/-! ### tests -/
section
variable {X : Cx} {W : WX} {q qa qb qc : Bool} {a b c : Expr} {ta tb tc : TE} {sa sb sc : M Rv} {pos : Pos} {tA tB' : TT} {sA sB : M Bool} {mg : Str → Option Value}
def D.toB : D → Option Bool
  | .bl c => some c
  | _ => none
def D.toI : D → Option Int
  | .int c => some c
  | _ => none
theorem Fz.bl {H : Hp} {d : D} {v : V} {c : Bool} (h : Fz H d v) (e : d.toB = some c) : v = .bl c := by
  cases d <;> simp only [D.toB] at e <;> try cases e
  simp only [Fz] at h; exact h
theorem Fz.int {H : Hp} {d : D} {v : V} {c : Int} (h : Fz H d v) (e : d.toI = some c) : v = .int c := by
  cases d <;> simp only [D.toI] at e <;> try cases e
  simp only [Fz] at h; exact h
def asB (s : M Rv) : M Bool := mbind s fun r => mopt r.2.toB
theorem SX.toB (h : SX mg W IsR qa ta sa) : SX mg W IsB qa (tB ta) (asB sa) := by
  refine SX.bind (J := IsB) (k := fun x σ H Q => ∃ c, x = .bl c ∧ Q c H) id h fun F H e σ A F1 H1 e1 A1 B r v Q R g x p => ?_
  obtain ⟨c, hc, p⟩ := p.mopt
  have hr := (IsR.read g.rel.sm x).bl hc
  exact ⟨c, hr, p F1 H1 A1 [] c (g.sub (List.nil_sublist _)) ⟨rfl, rfl⟩⟩
theorem tv_val (h : EV X W qa a ta sa) (he : ∀ whole, isTrue a X.env whole = (do let v ← whole; standAt a.pos; holding [v] (truthy v)) := by intro _; rfl) : TV X W qa a (tB ta) (asB sa) := ⟨pt_val h.pe he, SX.toB h.se⟩
theorem tv_cmp {op : CmpOp} {r : R2} {f : Rv → Rv → Option Rv} (ho : OpR X (compareOp op) r) (hr : P2R r f) (ha : EV X W qa a ta sa) (hb : EV X W qb b tb sb) (hm : behindInMarks op b = false) : TV X W (qa && qb) (.Compare a [op] [b] pos) (tB (tOp r ta tb)) (asB (sOp f qb sa sb)) :=
  ⟨pt_cmpR ho ha.pe hb.pe hm, SX.toB (SX.op hr ha.se hb.se)⟩
theorem TV.weak (hq : q = true → qa = true) (h : TV X W qa a tA sA) : TV X W q a tA sA := ⟨h.pe, h.se.weak hq⟩

def sAnd (sA sB : M Bool) : M Bool := mbind sA fun c => if c = true then sB else mret false
def sOr (sA sB : M Bool) : M Bool := mbind sA fun c => if c = true then mret true else sB
def sNot (sA : M Bool) : M Bool := mbind sA fun c => mret (!c)
theorem Got.thenE {α β : Type} {I : Hp → Hp → α → β → List Addr → Prop} {F H F1 H1 : Hp} {e e1 : Sl} {σ : St} {A A1 B : List Addr} {o : Out α} {Q : β → Hp → Prop} (g : Got qa F H e σ A F1 H1 e1 A1 B) (p : PostE mg W I (qa && qb) F H e σ A o Q) : PostE mg W I qb F1 H1 e1 σ A1 o Q := by
  have g0 := g.sub (List.nil_sublist B)
  cases o with
  | ok r e' => exact fun F' H' A' B v g' x => p F' H' A' B v (by simpa using g0.trans g' (fun a h => by cases h)) x
  | exc c e' => exact fun F' H' A' g' => p F' H' A' (by simpa using g0.trans g' (fun a h => by cases h))
  | bad => exact p
theorem SX.and (ha : SX mg W IsB qa tA sA) (hb : SX mg W IsB qb tB' sB) : SX mg W IsB (qa && qb) (tAnd tA tB') (sAnd sA sB) := by
  refine SX.bind (J := IsB) (k := fun c σ H Q => if c = true then tB' σ H Q else Q false H) (fun z => (Bool.and_eq_true_iff.mp z).1) ha fun F H e σ A F1 H1 e1 A1 B r v Q R g x p => ?_
  obtain ⟨rfl, rfl⟩ := x
  cases v with
  | true => simp only [if_true] at p ⊢; exact hb F1 H1 e1 σ A1 Q g.rel (g.thenE p)
  | false => simp only [Bool.false_eq_true, if_false] at p ⊢; exact p F1 H1 A1 [] false (g.weak fun z => (Bool.and_eq_true_iff.mp z).1) ⟨rfl, rfl⟩
theorem SX.or (ha : SX mg W IsB qa tA sA) (hb : SX mg W IsB qb tB' sB) : SX mg W IsB (qa && qb) (tOr tA tB') (sOr sA sB) := by
  refine SX.bind (J := IsB) (k := fun c σ H Q => if c = true then Q true H else tB' σ H Q) (fun z => (Bool.and_eq_true_iff.mp z).1) ha fun F H e σ A F1 H1 e1 A1 B r v Q R g x p => ?_
  obtain ⟨rfl, rfl⟩ := x
  cases v with
  | false => simp only [Bool.false_eq_true, if_false] at p ⊢; exact hb F1 H1 e1 σ A1 Q g.rel (g.thenE p)
  | true => simp only [if_true] at p ⊢; exact p F1 H1 A1 [] true (g.weak fun z => (Bool.and_eq_true_iff.mp z).1) ⟨rfl, rfl⟩
theorem SX.not (ha : SX mg W IsB qa tA sA) : SX mg W IsB qa (tNot tA) (sNot sA) := by
  refine SX.bind (J := IsB) (k := fun c σ H Q => Q (!c) H) id ha fun F H e σ A F1 H1 e1 A1 B r v Q R g x p => ?_
  obtain ⟨rfl, rfl⟩ := x
  exact p F1 H1 A1 [] _ g ⟨rfl, rfl⟩
structure WV (X : Cx) (W : WX) (q : Bool) (x : Expr) (t : TT) (s : M Bool) : Prop where
  pe : PW X x t
  se : SX X.mg W IsB q t s
theorem WV.tv (h : WV X W q a tA sA) : TV X W q a tA sA := ⟨h.pe.pt, h.se⟩
theorem wv_and1 (h : TV X W q a tA sA) : WV X W q (.BoolOp .And [a] pos) tA sA := ⟨pw_and1 h.pe, h.se⟩
theorem wv_or1 (h : TV X W q a tA sA) : WV X W q (.BoolOp .Or [a] pos) tA sA := ⟨pw_or1 h.pe, h.se⟩
theorem wv_and {rest : List Expr} (ha : TV X W qa a tA sA) (hb : WV X W qb (.BoolOp .And (b :: rest) pos) tB' sB) : WV X W (qa && qb) (.BoolOp .And (a :: b :: rest) pos) (tAnd tA tB') (sAnd sA sB) := ⟨pw_and ha.pe hb.pe, SX.and ha.se hb.se⟩
theorem wv_or {rest : List Expr} (ha : TV X W qa a tA sA) (hb : WV X W qb (.BoolOp .Or (b :: rest) pos) tB' sB) : WV X W (qa && qb) (.BoolOp .Or (a :: b :: rest) pos) (tOr tA tB') (sOr sA sB) := ⟨pw_or ha.pe hb.pe, SX.or ha.se hb.se⟩
theorem tv_not (ha : TV X W qa a tA sA) : TV X W qa (.UnaryOp .Not a pos) (tNot tA) (sNot sA) := ⟨pt_not ha.pe, SX.not ha.se⟩
/-! .. as values -/
def ofB (s : M Bool) : M Rv := mbind s fun c => mret (some 0, .bl c)
theorem SX.andV (ha : SX mg W IsR qa ta sa) (hb : SX mg W IsR qb tb sb) : SX mg W IsR (qa && qb) (tAndV ta tb) (mbind (asB sa) fun c => if c = true then sb else sC (.bl false)) := by
  refine SX.bind (J := IsR) (t := tB ta) (k := fun c σ H Q => if c = true then tb σ H Q else Q (.bl false) H) (fun z => (Bool.and_eq_true_iff.mp z).1) (SX.toB ha) fun F H e σ A F1 H1 e1 A1 B r v Q R g x p => ?_
  obtain ⟨rfl, rfl⟩ := x
  cases v with
  | true => simp only [if_true] at p ⊢; exact hb F1 H1 e1 σ A1 Q g.rel (g.thenE p)
  | false => simp only [Bool.false_eq_true, if_false] at p ⊢; exact p F1 H1 A1 [] _ (g.weak fun z => (Bool.and_eq_true_iff.mp z).1) (Fz.is (by simp only [Fz]))
theorem SX.orV (ha : SX mg W IsR qa ta sa) (hb : SX mg W IsR qb tb sb) : SX mg W IsR (qa && qb) (tOrV ta tb) (mbind (asB sa) fun c => if c = true then sC (.bl true) else sb) := by
  refine SX.bind (J := IsR) (t := tB ta) (k := fun c σ H Q => if c = true then Q (.bl true) H else tb σ H Q) (fun z => (Bool.and_eq_true_iff.mp z).1) (SX.toB ha) fun F H e σ A F1 H1 e1 A1 B r v Q R g x p => ?_
  obtain ⟨rfl, rfl⟩ := x
  cases v with
  | false => simp only [Bool.false_eq_true, if_false] at p ⊢; exact hb F1 H1 e1 σ A1 Q g.rel (g.thenE p)
  | true => simp only [if_true] at p ⊢; exact p F1 H1 A1 [] _ (g.weak fun z => (Bool.and_eq_true_iff.mp z).1) (Fz.is (by simp only [Fz]))
theorem SX.notV (ha : SX mg W IsR qa ta sa) : SX mg W IsR qa (tNotV ta) (mbind (asB sa) fun c => sC (.bl (!c))) := by
  refine SX.bind (J := IsR) (t := tB ta) (k := fun c σ H Q => Q (.bl (!c)) H) id (SX.toB ha) fun F H e σ A F1 H1 e1 A1 B r v Q R g x p => ?_
  obtain ⟨rfl, rfl⟩ := x
  exact p F1 H1 A1 [] _ g (Fz.is (by simp only [Fz]))
theorem ev_one {op} (h : EV X W q a ta sa) : EV X W q (.BoolOp op [a] pos) ta sa := ⟨pe_one h.pe, h.se⟩
theorem ev_and {rest : List Expr} (ha : EV X W qa a ta sa) (hb : EV X W qb (.BoolOp .And (b :: rest) pos) tb sb) : EV X W (qa && qb) (.BoolOp .And (a :: b :: rest) pos) (tAndV ta tb) (mbind (asB sa) fun c => if c = true then sb else sC (.bl false)) := ⟨pe_and ha.pe hb.pe, SX.andV ha.se hb.se⟩
theorem ev_or {rest : List Expr} (ha : EV X W qa a ta sa) (hb : EV X W qb (.BoolOp .Or (b :: rest) pos) tb sb) : EV X W (qa && qb) (.BoolOp .Or (a :: b :: rest) pos) (tOrV ta tb) (mbind (asB sa) fun c => if c = true then sC (.bl true) else sb) := ⟨pe_or ha.pe hb.pe, SX.orV ha.se hb.se⟩
theorem ev_not (ha : EV X W qa a ta sa) : EV X W qa (.UnaryOp .Not a pos) (tNotV ta) (mbind (asB sa) fun c => sC (.bl (!c))) := ⟨pe_not ha.pe, SX.notV ha.se⟩
/-! a if t else b -/
def sIfE (sA : M Bool) (sa sb : M Rv) : M Rv := mbind sA fun c => if c = true then sa else sb
theorem ev_if (hA : TV X W qc c tA sA) (ha : EV X W qa a ta sa) (hb : EV X W qb b tb sb) : EV X W (qc && (qa && qb)) (.IfExp c a b pos) (tIf tA ta tb) (sIfE sA sa sb) := by
  refine ⟨pe_ifExp hA.pe ha.pe hb.pe, SX.bind (J := IsR) (k := fun c σ H Q => if c = true then ta σ H Q else tb σ H Q) (fun z => (Bool.and_eq_true_iff.mp z).1) hA.se fun F H e σ A F1 H1 e1 A1 B r v Q R g x p => ?_⟩
  obtain ⟨rfl, rfl⟩ := x
  have p2 := g.thenE p
  cases v with
  | true =>
    simp only [if_true] at p2 ⊢
    exact (ha.se.weak fun z => (Bool.and_eq_true_iff.mp z).1) F1 H1 e1 σ A1 Q g.rel p2
  | false =>
    simp only [Bool.false_eq_true, if_false] at p2 ⊢
    exact (hb.se.weak fun z => (Bool.and_eq_true_iff.mp z).2) F1 H1 e1 σ A1 Q g.rel p2

/-! ### -n -/
def sNeg (s : M Rv) : M Rv := mbind s fun r => mopt (r.2.toI.map fun i => (some 0, .int (-i)))
theorem ev_neg (h : EV X W qa a ta sa) : EV X W qa (.UnaryOp .USub a pos) (tUn (rU fun i => .int (-i)) ta) (sNeg sa) := by
  refine ⟨pe_un un_neg h.pe, SX.bind (J := IsR) (k := fun x σ H Q => rU (fun i => .int (-i)) x H Q) id h.se fun F H e σ A F1 H1 e1 A1 B r v Q R g x p => ?_⟩
  obtain ⟨y, hy, p⟩ := p.mopt
  cases hi : r.2.toI with
  | none => rw [hi] at hy; cases hy
  | some i =>
    rw [hi] at hy
    obtain rfl := Option.some.inj hy
    exact ⟨i, (IsR.read g.rel.sm x).int hi, p F1 H1 A1 [] _ (g.sub (List.nil_sublist _)) (Fz.is (by simp only [Fz]))⟩
end

/-! ### arguments, displays -/
section
variable {X : Cx} {W : WX} {q qa qb : Bool} {a : Expr} {es : List Expr} {ta : TE} {t : TA} {sa : M Rv} {s : M (List Rv)} {pos : Pos} {mg : Str → Option Value}
theorem av_nil : AV X W true [] tNil (mret []) := ⟨pa_nil, fun F H e σ A Q R p => p F H A [] [] (Got.refl R) (by simp only [IsRs]; exact ⟨trivial, trivial⟩)⟩
def sCons (qb : Bool) (sa : M Rv) (s : M (List Rv)) : M (List Rv) := mbind sa fun a => mif (hold qb a) (mbind s fun as => mret (a :: as))
theorem SX.cons (ha : SX mg W IsR qa ta sa) (hs : SX mg W IsRs qb t s) : SX mg W IsRs (qa && qb) (tCons ta t) (sCons qb sa s) := by
  refine SX.bind (J := IsRs) (k := fun x σ H1 Q => t σ H1 fun xs H2 => Q (x :: xs) H2) (fun z => (Bool.and_eq_true_iff.mp z).1) ha fun F H e σ A F1 H1 e1 A1 B r v Q R g x p => ?_
  obtain ⟨hh, p⟩ := p.mif
  refine hs F1 H1 e1 σ A1 _ g.rel ?_
  unfold mbind at p
  cases h2 : s e1 with
  | ok r2 e2 =>
    rw [h2] at p
    refine fun F2 H2 A2 C w g2 y => p F2 H2 A2 (B ++ C) (v :: w) (g.trans g2 (IsR.own x)) ?_
    simp only [IsRs]
    exact ⟨v, w, B, C, rfl, rfl, IsR.keep hh x g2 fun a h z => (nodup_app.mp g.nd).2.2 a z h, y⟩
  | exc c e2 =>
    rw [h2] at p
    exact fun F2 H2 A2 g2 => p F2 H2 A2 ((g.trans g2 (IsR.own x)).sub (List.nil_sublist _))
  | bad => rw [h2] at p; exact p
theorem av_cons (ha : EV X W qa a ta sa) (hs : AV X W qb es t s) (hst : starEach (a :: es) X.env = (false, eval a X.env) :: starEach es X.env := by rfl) : AV X W (qa && qb) (a :: es) (tCons ta t) (sCons qb sa s) := ⟨pa_cons ha.pe hs.pe hst, SX.cons ha.se hs.se⟩

/-! the kinds of several values together -/
def flatR (r : Rv) : Bool := r.2.dep == 0
def firstK : List Rv → Option (Option Nat)
  | [] => none
  | r :: rs => if flatR r = true then firstK rs else some r.1
def joinK (rs : List Rv) : Option Nat := match firstK rs with
  | none => some 0
  | some k => if (rs.all fun r => flatR r || r.1 == k) = true then k else if rs.all canFz = true then some 0 else none
theorem IsRs.flatAll {F H : Hp} : ∀ {rs : List Rv} {vs : List V} {B : List Addr}, IsRs F H rs vs B → rs.all flatR = true → B = []
  | [], _, _, x, _ => by simp only [IsRs] at x; exact x.2
  | r :: rs, _, _, x, h => by
    simp only [IsRs] at x
    obtain ⟨v, w, C, E, rfl, rfl, x1, x2⟩ := x
    simp only [List.all_cons, Bool.and_eq_true] at h
    rw [IsRs.flatAll x2 h.2, List.append_nil]
    obtain ⟨k, d⟩ := r
    have hd : d.dep = 0 := by simpa [flatR] using h.1
    cases k with
    | none => exact x1.2
    | some m => exact (Is.flat hd x1).2
theorem IsRs.toL {F H : Hp} (sm : Same F H) {m : Nat} : ∀ {rs : List Rv} {vs : List V} {B : List Addr}, IsRs F H rs vs B → (rs.all fun r => flatR r || r.1 == some m) = true → IsL (tupd F H) H (rs.map (·.2)) m vs B
  | [], _, _, x, _ => by simp only [IsRs] at x; simp only [List.map_nil, IsL]; exact x
  | r :: rs, _, _, x, h => by
    simp only [IsRs] at x
    obtain ⟨v, w, C, E, rfl, rfl, x1, x2⟩ := x
    simp only [List.all_cons, Bool.and_eq_true] at h
    simp only [List.map_cons, IsL]
    refine ⟨v, w, C, E, rfl, rfl, ?_, IsRs.toL sm x2 h.2⟩
    have h1 := h.1
    by_cases hd : r.2.dep = 0
    · have hC : C = [] := by
        obtain ⟨k, d⟩ := r
        cases k with
        | none => exact x1.2
        | some m => exact (Is.flat hd x1).2
      subst hC
      exact Fz.isn hd (Fz.flat (fun a vs h => tupd_tup sm h) _ _ hd (IsR.read sm x1)) m
    · obtain ⟨k, d⟩ := r
      simp only [flatR, Bool.or_eq_true, beq_iff_eq] at h1
      rcases h1 with z | z
      · exact absurd z hd
      · subst z
        have own := Is.own (show Is F H d m v C from x1)
        exact Is.frame (tupd_same F H) (fun a ha => tupd_none (own a ha).1 fun vs z => by
          obtain ⟨_, o, h2, h3⟩ := own a ha
          rw [h2] at z; exact h3 vs (Option.some.inj z)) (fun _ _ => rfl) x1
theorem IsRs.toFzL {F H G : Hp} (sm : Same F H) (hG : Same (tupd F H) G) : ∀ {rs : List Rv} {vs : List V} {B : List Addr}, (∀ a ∈ B, G a = H a) → IsRs F H rs vs B → rs.all canFz = true → FzL G (rs.map (·.2)) vs
  | [], _, _, _, x, _ => by simp only [IsRs] at x; simp only [List.map_nil, FzL]; exact x.1
  | r :: rs, _, _, hB, x, h => by
    simp only [IsRs] at x
    obtain ⟨v, w, C, E, rfl, rfl, x1, x2⟩ := x
    simp only [List.all_cons, Bool.and_eq_true] at h
    simp only [List.map_cons, FzL]
    refine ⟨v, w, rfl, ?_, IsRs.toFzL sm hG (fun a ha => hB a (List.mem_append_right _ ha)) x2 h.2⟩
    obtain ⟨k, d⟩ := r
    cases k with
    | some m => exact Is.fz (fun a o e => hG a o (tupd_same F H a o e)) (fun a ha => hB a (List.mem_append_left _ ha)) x1
    | none =>
      have hd : d.dep = 0 := by simpa [canFz] using h.1
      exact Fz.mono hG _ _ (Fz.flat (fun a vs h => tupd_tup sm h) _ _ hd x1.1)
theorem firstK_flat : ∀ {rs : List Rv}, firstK rs = none → rs.all flatR = true
  | [], _ => rfl
  | r :: rs, h => by
    simp only [firstK] at h
    split at h
    · rename_i z; simp [z, firstK_flat h]
    · cases h
variable {F H F1 H1 : Hp} {e e1 : Sl} {σ : St} {A A1 B : List Addr}
/-- several values, owned together -/
theorem Got.join {rs : List Rv} {vs : List V} {m : Nat} (g : Got q F H e σ A F1 H1 e1 A1 B) (x : IsRs F1 H1 rs vs B) (h : joinK rs = some m) : ∃ F2 C, Got q F H e σ A F2 H1 e1 A1 C ∧ IsL F2 H1 (rs.map (·.2)) m vs C := by
  unfold joinK at h
  split at h
  · rename_i z
    have hf := firstK_flat z
    have hm : m = 0 := (Option.some.inj h).symm
    subst hm
    refine ⟨_, _, g.tups, IsRs.toL g.rel.sm x ?_⟩
    simp only [List.all_eq_true] at hf ⊢
    exact fun r hr => by simp [hf r hr]
  · rename_i k z
    split at h
    · rename_i w
      subst h
      exact ⟨_, _, g.tups, IsRs.toL g.rel.sm x w⟩
    · split at h
      · rename_i w
        have hm : m = 0 := (Option.some.inj h).symm
        subst hm
        have g2 := g.tups
        have own : ∀ a ∈ B, tupd F1 H1 a = none := fun a ha => by
          obtain ⟨h1, o, h2, h3⟩ := IsRs.own x a ha
          exact tupd_none h1 fun vs z => by rw [h2] at z; exact h3 vs (Option.some.inj z)
        have g3 := Got.freeze (C := []) (by rw [List.append_nil]; exact g2) own
        exact ⟨_, _, g3, FzL.is (IsRs.toFzL g.rel.sm (addTo_same own) (fun a ha => addTo_in ha) x w)⟩
      · cases h
theorem IsL.own' {F H : Hp} {d : List D} {m : Nat} {v : List V} {A : List Addr} (x : IsL F H d m v A) : ∀ a ∈ A, ∃ o, H a = some o := fun a h => by
  obtain ⟨_, o, h2, _⟩ := IsL.own x a h
  exact ⟨o, h2⟩
def sTup (s : M (List Rv)) : M Rv := mbind s fun rs => mif (decide (rs.length ≤ 1000)) (mret (joinK rs, .tup (rs.map (·.2))))
def sLst (s : M (List Rv)) : M Rv := mbind s fun rs => mif (decide (rs.length ≤ 1000)) (mret ((joinK rs).map (· + 1), .lst (rs.map (·.2))))
theorem small1000' {n : Nat} (h : decide (n ≤ 1000) = true) : n ≤ sizeLine := Nat.le_of_lt (small1000 (of_decide_eq_true h))
theorem SX.tup (h : SX mg W IsRs qa t s) : SX mg W IsR qa (tTup t) (sTup s) := by
  refine SX.bind (J := IsR) (k := fun xs σ H Q => xs.length ≤ sizeLine ∧ ∀ p, H p = none → Q (.ref p) (upd H p (.tup xs))) id h fun F H e σ A F1 H1 e1 A1 B rs vs Q R g x p => ?_
  obtain ⟨hl, p⟩ := p.mif
  have len := (IsRs.read g.rel.sm x).length
  rw [List.length_map] at len
  refine ⟨by rw [len]; exact small1000' hl, fun a ha => ?_⟩
  cases hj : joinK rs with
  | some m =>
    rw [hj] at p
    obtain ⟨F2, C, g2, y⟩ := g.join x hj
    have g3 := g2.newT (IsL.own' y) ha vs
    refine p _ _ _ C _ g3 ?_
    show Is _ _ _ _ _ _
    simp only [Is]
    have hf := (g2.rel.fresh ha).1
    have ne : ∀ b ∈ C, b ≠ a := fun b hb z => by
      obtain ⟨o, ho⟩ := IsL.own' y b hb
      rw [z, ha] at ho; cases ho
    refine ⟨a, vs, rfl, upd_same, IsL.frame (sameF hf) (fun b hb => ?_) (fun b hb => upd_ne (ne b hb)) y⟩
    rw [upd_ne (ne b hb)]; exact (IsL.own y b hb).1
  | none =>
    rw [hj] at p
    have g3 := (g.sub (List.nil_sublist B)).newT (fun b hb => by cases hb) ha vs
    refine p _ _ _ [] _ g3 ⟨?_, rfl⟩
    simp only [Fz]
    refine ⟨a, vs, rfl, upd_same, FzL.mono (sameF ha) _ _ (IsRs.read g.rel.sm x)⟩
theorem SX.lst (h : SX mg W IsRs qa t s) : SX mg W IsR qa (tLst t) (sLst s) := by
  refine SX.bind (J := IsR) (k := fun xs σ H Q => xs.length ≤ sizeLine ∧ ∀ p, H p = none → Q (.ref p) (upd H p (.lst xs))) id h fun F H e σ A F1 H1 e1 A1 B rs vs Q R g x p => ?_
  obtain ⟨hl, p⟩ := p.mif
  have len := (IsRs.read g.rel.sm x).length
  rw [List.length_map] at len
  refine ⟨by rw [len]; exact small1000' hl, fun a ha => ?_⟩
  cases hj : joinK rs with
  | some m =>
    rw [hj] at p
    obtain ⟨F2, C, g2, y⟩ := g.join x hj
    have g3 := g2.newL (IsL.own' y) ha (.lst vs)
    refine p _ _ _ (a :: C) _ g3 ?_
    show Is _ _ _ _ _ _
    simp only [Is]
    have hf := (g2.rel.fresh ha).1
    have ne : ∀ b ∈ C, b ≠ a := fun b hb z => by
      obtain ⟨o, ho⟩ := IsL.own' y b hb
      rw [z, ha] at ho; cases ho
    exact ⟨a, vs, C, rfl, rfl, hf, upd_same, IsL.frame (Same.refl _) (fun b hb => (IsL.own y b hb).1) (fun b hb => upd_ne (ne b hb)) y⟩
  | none =>
    rw [hj] at p
    have g3 := (g.sub (List.nil_sublist B)).newL (fun b hb => by cases hb) ha (.lst vs)
    refine p _ _ _ [] _ (g3.sub (List.nil_sublist _)) ⟨?_, rfl⟩
    simp only [Fz]
    refine ⟨a, vs, rfl, upd_same, FzL.mono (fun b o h => ?_) _ _ (IsRs.read g.rel.sm x)⟩
    rw [upd_ne (fun z => by rw [z, ha] at h; cases h)]; exact h
theorem ev_tup {x1} (h : AV X W qa es t s) : EV X W qa (.Tuple es x1 pos) (tTup t) (sTup s) := ⟨pe_tup h.pe, SX.tup h.se⟩
theorem ev_lst (h : AV X W qa es t s) : EV X W qa (.List es pos) (tLst t) (sLst s) := ⟨pe_lst h.pe, SX.lst h.se⟩
end
end AR

set_option Elab.async false
set_option linter.all false
set_option maxRecDepth 100000
namespace AR
open PySem PySem.Spec PyProof.Rows L2

/-! ### numbers -/
def fII (C : Int → Int → Bool) (g : Int → Int → D) (d e : D) : Option D := match d, e with
  | .int i, .int j => if C i j = true then some (g i j) else none
  | _, _ => none
theorem fII_some {C : Int → Int → Bool} {g : Int → Int → D} {d e x : D} (h : fII C g d e = some x) : ∃ i j, d = .int i ∧ e = .int j ∧ C i j = true ∧ x = g i j := by
  unfold fII at h
  split at h
  · rename_i i j
    split at h
    · rename_i c; exact ⟨i, j, rfl, rfl, c, (Option.some.inj h).symm⟩
    · cases h
  · cases h
theorem P2R.ints {C : Int → Int → Prop} {c : Int → Int → Bool} {g : Int → Int → V} {g' : Int → Int → D} (hc : ∀ i j, c i j = true → C i j) (hd : ∀ i j, (g' i j).dep = 0) (hg : ∀ H i j, Fz H (g' i j) (g i j)) : P2R (rI C g) (flat2 (fII c g')) :=
  P2R.flat fun H v w d e x Q hv hw hf => by
    obtain ⟨i, j, rfl, rfl, hcc, rfl⟩ := fII_some hf
    simp only [Fz] at hv hw
    subst hv hw
    exact ⟨hd i j, fun k => ⟨i, j, rfl, rfl, hc i j hcc, k _ (hg H i j)⟩⟩
theorem P2R.ints0 {g : Int → Int → V} {g' : Int → Int → D} (hd : ∀ i j, (g' i j).dep = 0) (hg : ∀ H i j, Fz H (g' i j) (g i j)) : P2R (rI0 g) (flat2 (fII (fun _ _ => true) g')) :=
  P2R.flat fun H v w d e x Q hv hw hf => by
    obtain ⟨i, j, rfl, rfl, hcc, rfl⟩ := fII_some hf
    simp only [Fz] at hv hw
    subst hv hw
    exact ⟨hd i j, fun k => ⟨i, j, rfl, rfl, k _ (hg H i j)⟩⟩
def fSub := flat2 (fII (fun _ _ => true) fun i j => .int (i - j))
def fMulI := flat2 (fII (fun i j => decide (i.natAbs.log2 + j.natAbs.log2 < 1000000)) fun i j => .int (i * j))
def fDiv := flat2 (fII (fun _ j => decide (0 < j ∧ j.natAbs.log2 < 9000)) fun i j => .int (i / j))
def fMod := flat2 (fII (fun _ j => decide (0 < j)) fun i j => .int (i % j))
def fPow := flat2 (fII (fun i j => decide (0 ≤ j ∧ j ≤ 1000000 ∧ i.natAbs < 2 ^ 64)) fun i j => .int (i ^ j.toNat))
def fLt := flat2 (fII (fun _ _ => true) fun i j => .bl (decide (i < j)))
def fLe := flat2 (fII (fun _ _ => true) fun i j => .bl (decide (i ≤ j)))
def fGt := flat2 (fII (fun _ _ => true) fun i j => .bl (decide (j < i)))
def fGe := flat2 (fII (fun _ _ => true) fun i j => .bl (decide (j ≤ i)))
theorem p_sub : P2R (rI0 fun i j => .int (i - j)) fSub := P2R.ints0 (fun _ _ => rfl) fun _ _ _ => by simp only [Fz]
theorem p_mulI : P2R (rI CMulW fun i j => .int (i * j)) fMulI := P2R.ints (fun _ _ h => of_decide_eq_true h) (fun _ _ => rfl) fun _ _ _ => by simp only [Fz]
theorem p_div : P2R (rI CDivW fun i j => .int (i / j)) fDiv := P2R.ints (fun _ _ h => of_decide_eq_true h) (fun _ _ => rfl) fun _ _ _ => by simp only [Fz]
theorem p_mod : P2R (rI (fun _ j => 0 < j) fun i j => .int (i % j)) fMod := P2R.ints (fun _ _ h => of_decide_eq_true h) (fun _ _ => rfl) fun _ _ _ => by simp only [Fz]
theorem p_pow : P2R (rI CPow fun i j => .int (i ^ j.toNat)) fPow := P2R.ints (fun _ _ h => of_decide_eq_true h) (fun _ _ => rfl) fun _ _ _ => by simp only [Fz]
theorem p_lt : P2R (rI0 fun i j => .bl (decide (i < j))) fLt := P2R.ints0 (fun _ _ => rfl) fun _ _ _ => by simp only [Fz]
theorem p_le : P2R (rI0 fun i j => .bl (decide (i ≤ j))) fLe := P2R.ints0 (fun _ _ => rfl) fun _ _ _ => by simp only [Fz]
theorem p_gt : P2R (rI0 fun i j => .bl (decide (j < i))) fGt := P2R.ints0 (fun _ _ => rfl) fun _ _ _ => by simp only [Fz]
theorem p_ge : P2R (rI0 fun i j => .bl (decide (j ≤ i))) fGe := P2R.ints0 (fun _ _ => rfl) fun _ _ _ => by simp only [Fz]

/-! ### lists put together -/
/-- the list's items, frozen -/
theorem Got.items {q : Bool} {F H F1 H1 : Hp} {e e1 : Sl} {σ : St} {A A1 B C : List Addr} {k : Option Nat} {ds : List D} {v : V} (g : Got q F H e σ A F1 H1 e1 A1 (B ++ C)) (x : IsR F1 H1 (k, .lst ds) v B) (hC : ∀ a ∈ C, F1 a = none ∧ ∃ o, H1 a = some o ∧ ∀ vs, o ≠ .tup vs) (ok : (k.isSome || depL ds == 0) = true) :
    ∃ F2 a vs, Got q F H e σ A F2 H1 e1 A1 C ∧ Same F1 F2 ∧ (∀ a ∈ C, F2 a = none) ∧ v = .ref a ∧ H1 a = some (.lst vs) ∧ FzL F2 ds vs := by
  cases k with
  | some m =>
    obtain ⟨F2, g2, s2, n2, f2⟩ := g.toFz x hC rfl
    simp only [Fz] at f2
    obtain ⟨a, vs, rfl, h1, h2⟩ := f2
    exact ⟨F2, a, vs, g2, s2, n2, rfl, g2.rel.sm _ _ h1, h2⟩
  | none =>
    have hd : depL ds = 0 := by simpa using ok
    have hb : B = [] := x.2
    subst hb
    have x1 := x.1
    simp only [Fz] at x1
    obtain ⟨a, vs, rfl, h1, h2⟩ := x1
    refine ⟨_, a, vs, Got.tups (by simpa using g), tupd_same _ _, fun a h => ?_, rfl, h1, FzL.flat (fun a vs h => tupd_tup g.rel.sm h) _ _ hd h2⟩
    obtain ⟨h1, o, h2, h3⟩ := hC a h
    exact tupd_none h1 fun vs z => by rw [h2] at z; exact h3 vs (Option.some.inj z)
theorem IsR.keepF {F H F' : Hp} {r : Rv} {v : V} {B : List Addr} (x : IsR F H r v B) (h : Same F F') (n : ∀ a ∈ B, F' a = none) : IsR F' H r v B := by
  obtain ⟨k, d⟩ := r
  cases k with
  | some m => exact Is.frame h n (fun _ _ => rfl) x
  | none => exact x
/-- a new list of frozen items -/
theorem Got.fin {q : Bool} {F H F1 H1 : Hp} {e e1 : Sl} {σ : St} {A A1 : List Addr} {ds : List D} {vs : List V} {p : Addr} (g : Got q F H e σ A F1 H1 e1 A1 []) (h : FzL F1 ds vs) (hp : H1 p = none) : Got q F H e σ A F1 (upd H1 p (.lst vs)) e1 A1 [p] ∧ IsR F1 (upd H1 p (.lst vs)) (some 1, .lst ds) (.ref p) [p] := by
  refine ⟨g.newL (fun a h => by cases h) hp _, ?_⟩
  show Is _ _ _ _ _ _
  simp only [Is]
  exact ⟨p, vs, [], rfl, rfl, (g.rel.fresh hp).1, upd_same, FzL.is h⟩
def fCat (a b : Rv) : Option Rv := match a, b with
  | (k, .lst ds), (l, .lst es) => if ((k.isSome || depL ds == 0) && (l.isSome || depL es == 0) && decide (ds.length + es.length ≤ 1000000)) = true then some (some 1, .lst (ds ++ es)) else none
  | _, _ => none
theorem big {n : Nat} (h : n ≤ 1000000) : n ≤ sizeLine := by rw [sizeLine_eq]; omega
theorem p_cat : P2R rCat fCat := by
  intro q F H e σ A F1 H1 e1 A1 B C v w a b x Q g xa xb hf k
  unfold fCat at hf
  split at hf
  · rename_i k1 ds l1 es
    split at hf
    · rename_i hc
      simp only [Bool.and_eq_true, decide_eq_true_eq] at hc
      obtain ⟨⟨c1, c2⟩, c3⟩ := hc
      obtain rfl := Option.some.inj hf
      obtain ⟨F2, p, vs, g2, s2, n2, rfl, h2, f2⟩ := g.items xa (IsR.own xb) c1
      obtain ⟨F3, p', ws, g3, s3, n3, rfl, h3, f3⟩ := Got.items (C := []) (by rw [List.append_nil]; exact g2) (xb.keepF s2 n2) (fun a h => by cases h) c2
      refine ⟨p, p', vs, ws, rfl, rfl, h2, h3, ?_, fun l hl => ?_⟩
      · rw [f2.length, f3.length]; exact big c3
      · obtain ⟨g4, y⟩ := g3.fin ((FzL.mono s3 _ _ f2).append f3) hl
        exact k _ _ _ _ g4 y
    · cases hf
  · cases hf
def fAddS (d e : D) : Option D := match d, e with
  | .str x, .str y => if decide (x.length + y.length ≤ 1000000) = true then some (.str (x ++ y)) else none
  | _, _ => none
def rAddS : R2 := fun x y H Q => ∃ i j, x = .str i ∧ y = .str j ∧ i.length + j.length ≤ sizeLine ∧ Q (.str (i ++ j)) H
theorem p_addS : P2R rAddS (flat2 fAddS) :=
  P2R.flat (r := rAddS) (f := fAddS) fun H v w d e x Q hv hw hf => by
    unfold fAddS at hf
    split at hf
    · rename_i i j
      split at hf
      · rename_i c
        obtain rfl := Option.some.inj hf
        simp only [Fz] at hv hw
        subst hv hw
        exact ⟨rfl, fun k => ⟨i, j, rfl, rfl, big (of_decide_eq_true c), k _ (by simp only [Fz])⟩⟩
      · cases hf
    · cases hf
/-- + of numbers, texts, lists -/
def fAdd (a b : Rv) : Option Rv := (flat2 (fII (fun _ _ => true) fun i j => .int (i + j)) a b).or ((flat2 fAddS a b).or (fCat a b))
def rAddA : R2 := fun x y H Q => rI0 (fun i j => .int (i + j)) x y H Q ∨ (rAddS x y H Q ∨ rCat x y H Q)
theorem p_add : P2R rAddA fAdd := P2R.or (P2R.ints0 (fun _ _ => rfl) fun _ _ _ => by simp only [Fz]) (P2R.or p_addS p_cat)
theorem op_addA {X : Cx} : OpR X (binaryOp .Add) rAddA := OpR.or op_add (OpR.or (r := rAddS) op_add_str op_cat)

/-! ### == -/
mutual
def toPy : D → PyData
  | .non => .none
  | .bl b => .bool b
  | .int i => .int i
  | .str x => .str x
  | .tup ds => .tuple (toPyL ds)
  | .lst ds => .list (toPyL ds)
  | .dic _ => .dict []
  | .scr _ _ => .dict []
def toPyL : List D → List PyData
  | [] => []
  | d :: ds => toPy d :: toPyL ds
end
mutual
theorem Fz.dp {K : PySem.W.Frag} {H : Hp} : ∀ {d : D} {v : V}, Fz H d v → (toPy d).canLay0 = true → Dp K H v (toPy d)
  | .non, _, x, _ => by simp only [Fz] at x; subst x; exact .non
  | .bl b, _, x, _ => by simp only [Fz] at x; subst x; exact .bl b
  | .int i, _, x, _ => by simp only [Fz] at x; subst x; exact .int i
  | .str b, _, x, _ => by simp only [Fz] at x; subst x; exact .str b
  | .tup ds, _, x, h => by
    simp only [Fz] at x
    obtain ⟨a, vs, rfl, e, r⟩ := x
    simp only [toPy, PyData.canLay0] at h ⊢
    exact .tup (.inl (.inl e)) (FzL.dp r h)
  | .lst ds, _, x, h => by
    simp only [Fz] at x
    obtain ⟨a, vs, rfl, e, r⟩ := x
    simp only [toPy, PyData.canLay0] at h ⊢
    exact .lst (.inl (.inl e)) (FzL.dp r h)
  | .dic _, _, x, h => by simp [toPy, PyData.canLay0] at h
  | .scr _ _, _, x, h => by simp [toPy, PyData.canLay0] at h
theorem FzL.dp {K : PySem.W.Frag} {H : Hp} : ∀ {d : List D} {v : List V}, FzL H d v → PyData.canLayAll0 (toPyL d) = true → DpAll K H v (toPyL d)
  | [], _, x, _ => by simp only [FzL] at x; subst x; exact .nil
  | d :: ds, _, x, h => by
    simp only [FzL] at x
    obtain ⟨v, r, rfl, x1, x2⟩ := x
    simp only [toPyL, PyData.canLayAll0, Bool.and_eq_true] at h ⊢
    exact .cons (Fz.dp x1 h.1) (FzL.dp x2 h.2)
end
def fEqD (n : Bool) (d e : D) : Option D := if (SeqAt.shaped (toPy d) && SeqAt.shaped (toPy e)) = true then some (.bl (PyData.eqv (toPy d) (toPy e) != n)) else none
def fEq := flat2 (fEqD false)
def fNe := flat2 (fEqD true)
theorem p_eq {K : PySem.W.Frag} : P2R (rEqD K) fEq := P2R.flat fun H v w d e x Q hv hw hf => by
  unfold fEqD at hf
  split at hf
  · rename_i c
    simp only [Bool.and_eq_true] at c
    obtain rfl := Option.some.inj hf
    refine ⟨rfl, fun k => ⟨_, _, Fz.dp hv (SeqAt.canLay_of_shaped c.1), Fz.dp hw (SeqAt.canLay_of_shaped c.2), c.1, c.2, ?_⟩⟩
    have := k (.bl (PyData.eqv (toPy d) (toPy e))) (by simp only [Fz]; simp)
    exact this
  · cases hf
theorem p_ne {K : PySem.W.Frag} : P2R (rNeD K) fNe := P2R.flat fun H v w d e x Q hv hw hf => by
  unfold fEqD at hf
  split at hf
  · rename_i c
    simp only [Bool.and_eq_true] at c
    obtain rfl := Option.some.inj hf
    refine ⟨rfl, fun k => ⟨_, _, Fz.dp hv (SeqAt.canLay_of_shaped c.1), Fz.dp hw (SeqAt.canLay_of_shaped c.2), c.1, c.2, ?_⟩⟩
    have := k (.bl (!PyData.eqv (toPy d) (toPy e))) (by simp only [Fz]; cases PyData.eqv (toPy d) (toPy e) <;> rfl)
    exact this
  · cases hf

/-! ### chains of comparisons of numbers -/
section
variable {X : Cx} {W : WX} {q qa qb : Bool} {a b : Expr} {ta tb : TE} {sa sb : M Rv} {pos : Pos}
def sBI (sb : M Rv) : M Int := mbind sb fun r => mopt r.2.toI
/-- .. the rest of a chain, behind a number -/
structure CV (X : Cx) (W : WX) (q : Bool) (ops : List CmpOp) (es : List Expr) (t : V → TE) (s : Int → M Bool) : Prop where
  ch : ∀ (pos : Pos) (pins : List (Addr × Obj)) (s : Shared) (σ : St) (H : Hp) (Q : VK) (x : V) (v : Value), Inv X pins σ H s → RelV x v → t x σ H Q → wpAny (model X.prog X.w) X.A (compareChain pos v ops (evalEach es X.env)) (EP X pins σ Q) X.xe s
  te : ∀ (pos : Pos) (pins : List (Addr × Obj)) (s : Shared) (σ : St) (H : Hp) (Q : Bool → Hp → Prop) (x : V) (v : Value), Inv X pins σ H s → RelV x v → t x σ H (fun z H' => ∃ k, z = .bl k ∧ Q k H') → wpAny (model X.prog X.w) X.A (testChain pos v ops (evalEach es X.env)) (TP X pins σ Q) X.xe s
  se : ∀ i, SX X.mg W (fun _ _ b v B => v = .bl b ∧ B = []) q (t (.int i)) (s i)
def tChL (r : R2) (tb : TE) : V → TE := fun x σ H Q => tb σ H fun y H2 => r x y H2 Q
def tChN (r : R2) (tb : TE) (t : V → TE) : V → TE := fun x σ H Q => tb σ H fun y H2 => r x y H2 fun z H3 => ∃ k, z = .bl k ∧ (if k = true then t y σ H3 Q else Q (.bl false) H3)
def sChL (c : Int → Int → Bool) (sb : M Rv) (i : Int) : M Bool := mbind (sBI sb) fun j => mret (c i j)
def sChN (c : Int → Int → Bool) (sb : M Rv) (s : Int → M Bool) (i : Int) : M Bool := mbind (sBI sb) fun j => if c i j = true then s j else mret false
theorem SX.toI {mg : Str → Option Value} (h : SX mg W IsR qa ta sa) : SX mg W (fun _ _ (i : Int) (v : V) B => v = .int i ∧ B = []) qa ta (sBI sa) := by
  refine SX.bind (J := fun _ _ (i : Int) (v : V) B => v = .int i ∧ B = []) (k := fun x σ H Q => Q x H) id h fun F H e σ A F1 H1 e1 A1 B r v Q R g x p => ?_
  obtain ⟨c, hc, p⟩ := p.mopt
  exact p F1 H1 A1 [] v (g.sub (List.nil_sublist _)) ⟨(IsR.read g.rel.sm x).int hc, rfl⟩
theorem cv_last {op : CmpOp} {c : Int → Int → Bool} (ho : OpR X (compareOp op) (rI0 fun i j => .bl (c i j))) (hb : EV X W qb b tb sb) (hE : evalEach [b] X.env = [eval b X.env] := by rfl) : CV X W qb [op] [b] (tChL (rI0 fun i j => .bl (c i j)) tb) (sChL c sb) := by
  refine ⟨fun pos pins s σ H Q x v I r h => ?_, fun pos pins s σ H Q x v I r h => ?_, fun i => ?_⟩
  · rw [hE]
    exact chain_last (thn (hb.pe.run pins s σ H _ I h) fun u s2 ⟨y, H2, I2, r2, q2⟩ => ho pins s2 σ H2 x y v u Q I2 r r2 q2)
  · rw [hE]
    refine test_last (thn (hb.pe.run pins s σ H _ I h) fun u s2 ⟨y, H2, I2, r2, q2⟩ => thn (ho pins s2 σ H2 x y v u _ I2 r r2 q2) fun d s3 ⟨z, H3, I3, r3, k, e, q3⟩ => ?_)
    subst e; cases r3
    exact wpAny_truthy_bool ⟨H3, I3, q3⟩
  · refine SX.bind (J := fun _ _ b (v : V) B => v = .bl b ∧ B = []) (k := fun y σ H Q => rI0 (fun i j => .bl (c i j)) (.int i) y H Q) id (SX.toI hb.se) fun F H e σ A F1 H1 e1 A1 B j v Q R g x p => ?_
    obtain ⟨rfl, rfl⟩ := x
    exact ⟨i, j, rfl, rfl, p F1 H1 A1 [] _ g ⟨rfl, rfl⟩⟩
theorem cv_next {op op' : CmpOp} {ops : List CmpOp} {b' : Expr} {es : List Expr} {c : Int → Int → Bool} {t : V → TE} {s' : Int → M Bool} (ho : OpR X (compareOp op) (rI0 fun i j => .bl (c i j))) (hb : EV X W qa b tb sb) (hr : CV X W qb (op' :: ops) (b' :: es) t s')
    (hE : evalEach (b :: b' :: es) X.env = eval b X.env :: eval b' X.env :: evalEach es X.env := by rfl) (hE2 : evalEach (b' :: es) X.env = eval b' X.env :: evalEach es X.env := by rfl) : CV X W (qa && qb) (op :: op' :: ops) (b :: b' :: es) (tChN (rI0 fun i j => .bl (c i j)) tb t) (sChN c sb s') := by
  refine ⟨fun pos pins s σ H Q x v I r h => ?_, fun pos pins s σ H Q x v I r h => ?_, fun i => ?_⟩
  · rw [hE]
    refine chain_link (thn (hb.pe.run pins s σ H _ I h) fun u s2 ⟨y, H2, I2, r2, q2⟩ => thn (ho pins s2 σ H2 x y v u _ I2 r r2 q2) fun d s3 ⟨z, H3, I3, r3, k, e, q3⟩ => ?_)
    subst e; cases r3
    refine wpAny_truthy_bool ?_
    cases k with
    | false => exact ite_ff ⟨.bl false, H3, I3, rfl, by simpa using q3⟩
    | true =>
      refine ite_tt ?_
      rw [← hE2]
      exact hr.ch pos pins s3 σ H3 Q y u I3 r2 (by simpa using q3)
  · rw [hE]
    refine test_link (thn (hb.pe.run pins s σ H _ I h) fun u s2 ⟨y, H2, I2, r2, q2⟩ => thn (ho pins s2 σ H2 x y v u _ I2 r r2 q2) fun d s3 ⟨z, H3, I3, r3, k, e, q3⟩ => ?_)
    subst e; cases r3
    refine wpAny_truthy_bool ?_
    cases k with
    | false =>
      simp only [Bool.false_eq_true, if_false] at q3
      obtain ⟨k', e', q'⟩ := q3
      cases e'
      exact ite_ff ⟨H3, I3, q'⟩
    | true =>
      refine ite_tt ?_
      rw [← hE2]
      exact hr.te pos pins s3 σ H3 Q y u I3 r2 (by simpa using q3)
  · refine SX.bind (J := fun _ _ b (v : V) B => v = .bl b ∧ B = []) (k := fun y σ H Q => rI0 (fun i j => .bl (c i j)) (.int i) y H (fun z H3 => ∃ k, z = .bl k ∧ (if k = true then t y σ H3 Q else Q (.bl false) H3))) (fun z => (Bool.and_eq_true_iff.mp z).1) (SX.toI hb.se) fun F H e σ A F1 H1 e1 A1 B j v Q R g x p => ?_
    obtain ⟨rfl, rfl⟩ := x
    refine ⟨i, j, rfl, rfl, c i j, rfl, ?_⟩
    cases hc : c i j with
    | true =>
      rw [hc] at p
      simp only [if_true] at p ⊢
      exact hr.se j F1 H1 e1 σ A1 Q g.rel (g.thenE p)
    | false =>
      rw [hc] at p
      simp only [Bool.false_eq_true, if_false] at p ⊢
      exact p F1 H1 A1 [] _ (g.weak fun z => (Bool.and_eq_true_iff.mp z).1) ⟨rfl, rfl⟩
def tChain' (ta : TE) (t : V → TE) : TE := fun σ H Q => ta σ H fun x H1 => t x σ H1 Q
def sChain (sa : M Rv) (s : Int → M Bool) : M Bool := mbind (sBI sa) s
theorem SX.chain {mg : Str → Option Value} {t : V → TE} {s : Int → M Bool} (ha : SX mg W IsR qa ta sa) (hr : ∀ i, SX mg W (fun _ _ b v B => v = .bl b ∧ B = []) qb (t (.int i)) (s i)) : SX mg W (fun _ _ b (v : V) B => v = .bl b ∧ B = []) (qa && qb) (tChain' ta t) (sChain sa s) := by
  refine SX.bind (J := fun _ _ b (v : V) B => v = .bl b ∧ B = []) (k := fun x σ H Q => t x σ H Q) (fun z => (Bool.and_eq_true_iff.mp z).1) (SX.toI ha) fun F H e σ A F1 H1 e1 A1 B i v Q R g x p => ?_
  obtain ⟨rfl, rfl⟩ := x
  exact hr i F1 H1 e1 σ A1 Q g.rel (g.thenE p)
theorem ev_chain {op op' : CmpOp} {ops : List CmpOp} {b' : Expr} {es : List Expr} {t : V → TE} {s' : Int → M Bool} (ha : EV X W qa a ta sa) (hr : CV X W qb (op :: op' :: ops) (b :: b' :: es) t s')
    (hE : evalEach (b :: b' :: es) X.env = eval b X.env :: eval b' X.env :: evalEach es X.env := by rfl) (hm : lastMarks (op :: op' :: ops) (b :: b' :: es) = false := by with_unfolding_all rfl) :
    EV X W (qa && qb) (.Compare a (op :: op' :: ops) (b :: b' :: es) pos) (tChain' ta t) (ofB (sChain sa s')) := by
  refine ⟨⟨fun pins s σ H Q I h => Compare_chain (thn (ha.pe.run pins s σ H _ I h) fun v s1 ⟨x, H1, I1, r1, q1⟩ => ?_) hm⟩, ?_⟩
  · rw [← hE]; exact hr.ch pos pins s1 σ H1 Q x v I1 r1 q1
  · refine SX.bind (J := IsR) (k := fun x σ H Q => Q x H) id (SX.chain ha.se hr.se) fun F H e σ A F1 H1 e1 A1 B b v Q R g x p => ?_
    obtain ⟨rfl, rfl⟩ := x
    exact p F1 H1 A1 [] _ g (Fz.is (by simp only [Fz]))
theorem tv_chain {op op' : CmpOp} {ops : List CmpOp} {b' : Expr} {es : List Expr} {t : V → TE} {s' : Int → M Bool} (ha : EV X W qa a ta sa) (hr : CV X W qb (op :: op' :: ops) (b :: b' :: es) t s')
    (hE : evalEach (b :: b' :: es) X.env = eval b X.env :: eval b' X.env :: evalEach es X.env := by rfl) (hm : lastMarks (op :: op' :: ops) (b :: b' :: es) = false := by with_unfolding_all rfl) :
    TV X W (qa && qb) (.Compare a (op :: op' :: ops) (b :: b' :: es) pos) (tB (tChain' ta t)) (sChain sa s') := by
  refine ⟨⟨fun pins s σ H Q I h => isTrue_chain (thn (ha.pe.run pins s σ H _ I h) fun v s1 ⟨x, H1, I1, r1, q1⟩ => ?_) hm⟩, ?_⟩
  · rw [← hE]; exact hr.te pos pins s1 σ H1 Q x v I1 r1 q1
  · intro F H e σ A Q R p
    refine (SX.chain ha.se hr.se) F H e σ A _ R ?_
    cases hs : sChain sa s' e with
    | ok b e1 =>
      rw [hs] at p
      intro F' H' A' B v g x
      exact ⟨b, x.1, p F' H' A' B b g ⟨rfl, x.2⟩⟩
    | exc c e1 => rw [hs] at p; exact p
    | bad => rw [hs] at p; exact p
end
end AR

set_option Elab.async false
set_option linter.all false
set_option maxRecDepth 100000
namespace AR
open PySem PySem.Spec PyProof.Rows L2

/-! ### x[i] -/
theorem FzL.at {F : Hp} {ds : List D} {vs : List V} {i : Int} {d : D} (h : FzL F ds vs) (e : atI ds i = some d) : ∃ v, atI vs i = some v ∧ Fz F d v := by
  unfold atI at e ⊢
  rw [h.length]
  cases hj : ixN ds.length i with
  | none => rw [hj] at e; cases e
  | some j => rw [hj] at e; exact h.get e
theorem atI_mem {α : Type} {ds : List α} {i : Int} {d : α} (e : atI ds i = some d) : ∃ j : Nat, ds[j]? = some d := by
  unfold atI at e
  cases hj : ixN ds.length i with
  | none => rw [hj] at e; cases e
  | some j => rw [hj] at e; exact ⟨j, e⟩
theorem atI_map {α β : Type} {f : α → β} {xs : List α} {i : Int} {x : α} (e : atI xs i = some x) : atI (xs.map f) i = some (f x) := by
  unfold atI at e ⊢
  rw [List.length_map]
  cases hj : ixN xs.length i with
  | none => rw [hj] at e; cases e
  | some j =>
    rw [hj] at e
    show (xs.map f)[j]? = _
    rw [List.getElem?_map, show xs[j]? = some x from e]; rfl
/-- the kind of a part of a value -/
def kid (k : Option Nat) (c : D) : Rv := (if (k.isSome || c.dep == 0) = true then some 0 else none, c)
def fIx (a b : Rv) : Option Rv := match a, b.2 with
  | (k, .lst ds), .int i => (atI ds i).map (kid k)
  | (k, .tup ds), .int i => (atI ds i).map (kid k)
  | (_, .str z), .int i => if decide (z.length ≤ 1000000) = true then (atI z.cps.toList i).map fun c => (some 0, .str ⟨#[c]⟩) else none
  | _, _ => none
theorem Got.kid {q : Bool} {F H F1 H1 : Hp} {e e1 : Sl} {σ : St} {A A1 B C : List Addr} {k : Option Nat} {d c : D} {v u : V} (g : Got q F H e σ A F1 H1 e1 A1 (B ++ C)) (x : IsR F1 H1 (k, d) v B) (hC : ∀ a ∈ C, F1 a = none ∧ ∃ o, H1 a = some o ∧ ∀ vs, o ≠ .tup vs)
    (hk : ∀ G, Fz G d v → Same G H1 → Fz G c u) : ∃ F2, Got q F H e σ A F2 H1 e1 A1 [] ∧ IsR F2 H1 (AR.kid k c) u [] := by
  unfold AR.kid
  by_cases hd : c.dep = 0
  · have hr : Fz H1 c u := hk H1 (IsR.read g.rel.sm x) (Same.refl _)
    refine ⟨_, (g.flatR hd hr 0).1, ?_⟩
    rw [if_pos (by simp [hd])]
    exact (g.flatR hd hr 0).2
  · cases k with
    | none =>
      rw [if_neg (by simp [hd])]
      exact ⟨F1, g.sub (List.nil_sublist _), hk H1 x.1 (Same.refl _), rfl⟩
    | some m =>
      rw [if_pos (by simp)]
      obtain ⟨F2, g2, s2, n2, f2⟩ := g.toFz x hC rfl
      exact ⟨F2, g2.sub (List.nil_sublist _), Fz.is (hk F2 f2 g2.rel.sm)⟩
theorem p_ix {K : PySem.W.Frag} : P2R (rIx K) fIx := by
  intro q F H e σ A F1 H1 e1 A1 B C v w a b x Q g xa xb hf k
  have rb := IsR.read g.rel.sm xb
  have ra := IsR.read g.rel.sm xa
  unfold fIx at hf
  split at hf
  · rename_i k1 ds i hi
    rw [hi] at rb
    simp only [Fz] at rb
    subst rb
    cases hc : atI ds i with
    | none => rw [hc] at hf; cases hf
    | some c =>
      rw [hc] at hf
      obtain rfl := Option.some.inj hf
      simp only [Fz] at ra
      obtain ⟨p, vs, rfl, h1, h2⟩ := ra
      obtain ⟨u, hu, hz⟩ := h2.at hc
      obtain ⟨F2, g2, y⟩ := g.kid xa (IsR.own xb) (c := c) (u := u) fun G hG sG => by
        simp only [Fz] at hG
        obtain ⟨p', vs', e1, e2, e3⟩ := hG
        cases e1
        have := sG _ _ e2
        rw [h1] at this
        cases this
        obtain ⟨u', hu', hz'⟩ := e3.at hc
        rw [hu] at hu'
        cases hu'
        exact hz'
      exact .inl ⟨p, vs, i, u, rfl, rfl, .inl (.inl h1), hu, k _ _ _ _ g2 y⟩
  · rename_i k1 ds i hi
    rw [hi] at rb
    simp only [Fz] at rb
    subst rb
    cases hc : atI ds i with
    | none => rw [hc] at hf; cases hf
    | some c =>
      rw [hc] at hf
      obtain rfl := Option.some.inj hf
      simp only [Fz] at ra
      obtain ⟨p, vs, rfl, h1, h2⟩ := ra
      obtain ⟨u, hu, hz⟩ := h2.at hc
      obtain ⟨F2, g2, y⟩ := g.kid xa (IsR.own xb) (c := c) (u := u) fun G hG sG => by
        simp only [Fz] at hG
        obtain ⟨p', vs', e1, e2, e3⟩ := hG
        cases e1
        have := sG _ _ e2
        rw [h1] at this
        cases this
        obtain ⟨u', hu', hz'⟩ := e3.at hc
        rw [hu] at hu'
        cases hu'
        exact hz'
      exact .inr (.inl ⟨p, vs, i, u, rfl, rfl, .inl (.inl h1), hu, k _ _ _ _ g2 y⟩)
  · rename_i k1 z i hi
    rw [hi] at rb
    simp only [Fz] at rb ra
    subst rb ra
    split at hf
    · rename_i hl
      cases hc : atI z.cps.toList i with
      | none => rw [hc] at hf; cases hf
      | some c =>
        rw [hc] at hf
        obtain rfl := Option.some.inj hf
        exact .inr (.inr ⟨z, i, c, rfl, rfl, big (of_decide_eq_true hl), hc, k _ _ _ _ (g.sub (List.nil_sublist _)) (Fz.is (by simp only [Fz]))⟩)
    · cases hf
  · cases hf
section
variable {X : Cx} {W : WX} {q qa qb : Bool} {a b : Expr} {ta tb : TE} {sa sb : M Rv} {pos : Pos}
theorem ev_ix (ha : EV X W qa a ta sa) (hb : EV X W qb b tb sb) (hs : PlainIx b := by exact fun _ _ => rfl) {K : PySem.W.Frag} (hK : X.K = K := by rfl) : EV X W (qa && qb) (.Subscript a b pos) (tOp (rIx K) ta tb) (sOp fIx qb sa sb) := by
  subst hK; exact ⟨pe_ix ix_seq ha.pe hb.pe hs, SX.op p_ix ha.se hb.se⟩
/-- x[i] of a name: what stands there when i is known -/
def kidN (m : Nat) (d c : D) : Option Nat := if c.dep = 0 then some 0 else match d with
  | .tup _ => if m = 0 then some 0 else none
  | _ => if m ≤ 1 then some 0 else none
def fIxN (m : Nat) (d b : D) : Option Rv := match d, b with
  | .lst ds, .int i => (atI ds i).map fun c => (kidN m d c, c)
  | .tup ds, .int i => (atI ds i).map fun c => (kidN m d c, c)
  | .str z, .int i => if decide (z.length ≤ 1000000) = true then (atI z.cps.toList i).map fun c => (some 0, .str ⟨#[c]⟩) else none
  | _, _ => none
def there (i : Nat) (e : Sl) : Bool := match e[i]? with
  | some (some _) => true
  | _ => false
def sIxN (i : Nat) (sb : M Rv) : M Rv := fun e => if there i e = true then mbind sb (fun b e1 => match e1[i]? with
  | some (some (m, d)) => mopt (fIxN m d b.2) e1
  | _ => .bad) e else .bad
theorem there_get {i : Nat} {e : Sl} (h : there i e = true) : ∃ m d, e[i]? = some (some (m, d)) := by
  unfold there at h
  split at h
  · rename_i p hp; exact ⟨p.1, p.2, hp⟩
  · cases h
theorem SX.ixN {mg : Str → Option Value} {K : PySem.W.Frag} {i : Nat} (hb : SX mg W IsR qb tb sb) : SX mg W IsR qb (tOp (rIx K) (tVar i) tb) (sIxN i sb) := fun F H e σ A Q R p => by
  unfold sIxN at p
  split at p
  · rename_i ht
    obtain ⟨m0, d0, h0⟩ := there_get ht
    obtain ⟨v, B0, C0, hv, _⟩ := R.sl.get h0
    refine ⟨v, hv, hb F H e σ A _ R ?_⟩
    unfold mbind at p
    cases hs : sb e with
    | exc c e1 => rw [hs] at p; exact p
    | bad => rw [hs] at p; exact p
    | ok b e1 =>
      rw [hs] at p
      intro F1 H1 A1 B w g x
      have rb := IsR.read g.rel.sm x
      dsimp only at p
      split at p
      · rename_i m d hd
        obtain ⟨v', B1, C1, hv', hi, hr, hp⟩ := g.rel.sl.get hd
        have ev : v' = v := by rw [hv] at hv'; exact (Option.some.inj (Option.some.inj hv')).symm
        subst ev
        obtain ⟨y, hy, k⟩ := p.mopt
        have fz := Is.fz g.rel.sm (fun _ _ => rfl) hi
        have fin : ∀ {c : D} {u : V} {k0 : Option Nat}, Fz H1 c u → (c.dep ≠ 0 → k0 = some 0 → Fz F1 c u) → (c.dep = 0 → k0 = some 0) → (k0 = none ∨ k0 = some 0) → y = (k0, c) → Q u H1 := by
          intro c u k0 h1 h2 h3 h4 h5
          subst h5
          by_cases hc : c.dep = 0
          · obtain rfl := h3 hc
            exact k _ _ _ _ u (g.flatR hc h1 0).1 (g.flatR hc h1 0).2
          · rcases h4 with rfl | rfl
            · exact k _ _ _ [] u (g.sub (List.nil_sublist _)) ⟨h1, rfl⟩
            · exact k _ _ _ [] u (g.sub (List.nil_sublist _)) (Fz.is (h2 hc rfl))
        unfold fIxN at hy
        split at hy
        · rename_i ds j hj
          rw [hj] at rb
          simp only [Fz] at rb fz
          subst rb
          obtain ⟨p, vs, rfl, h1, h2⟩ := fz
          cases hc : atI ds j with
          | none => rw [hc] at hy; cases hy
          | some c =>
            rw [hc] at hy
            obtain ⟨u, hu, hz⟩ := h2.at hc
            refine .inl ⟨p, vs, j, u, rfl, rfl, .inl (.inl h1), hu, fin hz (fun hd hk => ?_) (fun hd => by unfold kidN; rw [if_pos hd]) ?_ (Option.some.inj hy).symm⟩
            · unfold kidN at hk
              rw [if_neg hd] at hk
              simp only at hk
              split at hk
              · rename_i hm
                cases m with
                | zero =>
                  have := (Is.zero hi).1
                  simp only [Fz] at this
                  obtain ⟨p', vs', e1, e2, e3⟩ := this
                  cases e1
                  have := g.rel.sm _ _ e2
                  rw [h1] at this; cases this
                  obtain ⟨u', hu', hz'⟩ := e3.at hc
                  rw [hu] at hu'; cases hu'; exact hz'
                | succ m =>
                  have hm0 : m = 0 := by omega
                  subst hm0
                  simp only [Is] at hi
                  obtain ⟨p', vs', B', e1, _, _, e2, e3⟩ := hi
                  cases e1
                  rw [h1] at e2; cases e2
                  obtain ⟨u', hu', hz'⟩ := (IsL.zero e3).1.at hc
                  rw [hu] at hu'; cases hu'; exact hz'
              · cases hk
            · unfold kidN
              split
              · exact .inr rfl
              · simp only
                split
                · exact .inr rfl
                · exact .inl rfl
        · rename_i ds j hj
          rw [hj] at rb
          simp only [Fz] at rb fz
          subst rb
          obtain ⟨p, vs, rfl, h1, h2⟩ := fz
          cases hc : atI ds j with
          | none => rw [hc] at hy; cases hy
          | some c =>
            rw [hc] at hy
            obtain ⟨u, hu, hz⟩ := h2.at hc
            refine .inr (.inl ⟨p, vs, j, u, rfl, rfl, .inl (.inl h1), hu, fin hz (fun hd hk => ?_) (fun hd => by unfold kidN; rw [if_pos hd]) ?_ (Option.some.inj hy).symm⟩)
            · unfold kidN at hk
              rw [if_neg hd] at hk
              simp only at hk
              split at hk
              · rename_i hm
                subst hm
                have := (Is.zero hi).1
                simp only [Fz] at this
                obtain ⟨p', vs', e1, e2, e3⟩ := this
                cases e1
                have := g.rel.sm _ _ e2
                rw [h1] at this; cases this
                obtain ⟨u', hu', hz'⟩ := e3.at hc
                rw [hu] at hu'; cases hu'; exact hz'
              · cases hk
            · unfold kidN
              split
              · exact .inr rfl
              · simp only
                split
                · exact .inr rfl
                · exact .inl rfl
        · rename_i z j hj
          rw [hj] at rb
          simp only [Fz] at rb fz
          subst rb fz
          split at hy
          · rename_i hl
            cases hc : atI z.cps.toList j with
            | none => rw [hc] at hy; cases hy
            | some c =>
              rw [hc] at hy
              exact .inr (.inr ⟨z, j, c, rfl, rfl, big (of_decide_eq_true hl), hc, fin (c := .str ⟨#[c]⟩) (k0 := some 0) (by simp only [Fz]) (fun _ _ => by simp only [Fz]) (fun _ => rfl) (.inr rfl) (Option.some.inj hy).symm⟩)
          · cases hy
        · cases hy
      · exact p.elim
  · exact p.elim
theorem ev_ixN (i : Nat) {x : Str} {pn : Pos} (hb : EV X W qb b tb sb) (hN : X.N[i]? = some x := by rfl) (hv : Vis X.env.scope x := by first | exact Or.inl rfl | exact Or.inr (Or.inl rfl) | exact Or.inr (Or.inr rfl)) (hs : PlainIx b := by exact fun _ _ => rfl) (hd : (x == ("__debug__" : Str)) = false := by decide)
    (hcd : (x == ("__classdict__" : Str)) = false := by decide) {K : PySem.W.Frag} (hK : X.K = K := by rfl) : EV X W qb (.Subscript (.Name x pn) b pos) (tOp (rIx K) (tVar i) tb) (sIxN i sb) := by
  subst hK; exact ⟨pe_ix ix_seq (pe_var hN hv hd hcd) hb.pe hs, SX.ixN hb.se⟩
end

/-! ### slices -/
def cutD {α : Type} (xs : List α) (lo hi : Option Int) : List α := (xs.drop (HT.sIx xs.length 0 lo)).take (HT.sIx xs.length xs.length hi - HT.sIx xs.length 0 lo)
theorem FzL.cut {F : Hp} {ds : List D} {vs : List V} (h : FzL F ds vs) (lo hi : Option Int) : FzL F (cutD ds lo hi) (cutV vs lo hi) := by
  unfold cutD cutV
  rw [h.length]
  exact (h.drop _).take _
section
variable {X : Cx} {W : WX} {q qa qb ql qh : Bool} {a b : Expr} {ta tb : TE} {sa sb : M Rv} {pos p2 : Pos} {lo hi : Option Expr} {tl th : TO} {sl sh : M (Option Int)}
def IsO (_ _ : Hp) (o p : Option Int) (B : List Addr) : Prop := p = o ∧ B = []
structure OV (X : Cx) (W : WX) (q : Bool) (x : Option Expr) (t : TO) (s : M (Option Int)) : Prop where
  pe : PO X x t
  se : SX X.mg W IsO q t s
theorem ov_none : OV X W true none tNoPart (mret none) := ⟨po_none, fun F H e σ A Q R p => p F H A [] none (Got.refl R) ⟨rfl, rfl⟩⟩
theorem ov_some (h : EV X W qa a ta sa) : OV X W qa (some a) (tPart ta) (mbind (sBI sa) fun i => mret (some i)) := by
  refine ⟨po_some h.pe, SX.bind (J := IsO) (f := fun i => mret (some i)) (k := fun (x : V) σ H Q => ∃ i, x = V.int i ∧ Q (some i) H) id (SX.toI h.se) fun F H e σ A F1 H1 e1 A1 B i v Q R g x p => ?_⟩
  obtain ⟨rfl, rfl⟩ := x
  exact ⟨i, rfl, p F1 H1 A1 [] _ g ⟨rfl, rfl⟩⟩
def rSlA' (K : PySem.W.Frag) : V → Option Int → Option Int → Hp → VK → Prop := fun x lo hi H Q => rSlL K x lo hi H Q ∨ rSlS x lo hi H Q
def fSl (a : Rv) (lo hi : Option Int) : Option Rv := match a with
  | (k, .lst ds) => if (k.isSome || depL ds == 0) = true then some (some 1, .lst (cutD ds lo hi)) else none
  | (_, .str z) => if decide (z.length ≤ 1000000) = true then some (some 0, .str (cutS z lo hi)) else none
  | _ => none
def sSl (qr : Bool) (sa : M Rv) (sl sh : M (Option Int)) : M Rv := mbind sa fun a => mif (hold qr a) (mbind sl fun l => mbind sh fun h => mopt (fSl a l h))
theorem fz_ints {F : Hp} : ∀ ns : List Int, FzL F (ns.map D.int) (ns.map V.int)
  | [] => rfl
  | n :: ns => by simp only [List.map_cons, FzL]; exact ⟨_, _, rfl, by simp only [Fz], fz_ints ns⟩
theorem cutV_map {α : Type} (f : α → V) (xs : List α) (lo hi : Option Int) : cutV (xs.map f) lo hi = (cutD xs lo hi).map f := by
  unfold cutV cutD
  rw [List.length_map, List.map_take, List.map_drop]
theorem SX.slice {mg : Str → Option Value} {K : PySem.W.Frag} (ha : SX mg W IsR qa ta sa) (hl : SX mg W IsO ql tl sl) (hh : SX mg W IsO qh th sh) : SX mg W IsR (qa && (ql && qh)) (tSl (rSlA' K) ta tl th) (sSl (ql && qh) sa sl sh) := by
  refine SX.bind (J := IsR) (k := fun x σ H1 Q => tl σ H1 fun l H2 => th σ H2 fun u H3 => rSlA' K x l u H3 Q) (fun z => (Bool.and_eq_true_iff.mp z).1) ha fun F H e σ A F1 H1 e1 A1 B r v Q R g x p => ?_
  obtain ⟨hd, p⟩ := p.mif
  refine hl F1 H1 e1 σ A1 _ g.rel ?_
  unfold mbind at p
  cases h1 : sl e1 with
  | bad => rw [h1] at p; exact p
  | exc c e2 => rw [h1] at p; exact fun F2 H2 A2 g2 => p F2 H2 A2 (((g.trans g2 (IsR.own x)).sub (List.nil_sublist _)).weak fun z => by simp only [Bool.and_eq_true] at z ⊢; exact ⟨z.1, z.2.1⟩)
  | ok l e2 =>
    rw [h1] at p
    intro F2 H2 A2 B2 l' g2 y2
    obtain ⟨rfl, rfl⟩ := y2
    refine hh F2 H2 e2 σ A2 _ g2.rel ?_
    dsimp only at p
    cases h2 : sh e2 with
    | bad => rw [h2] at p; exact p
    | exc c e3 =>
      rw [h2] at p
      exact fun F3 H3 A3 g3 => p F3 H3 A3 ((g.trans (by simpa using g2.trans g3 (fun a h => by cases h)) (IsR.own x)).sub (List.nil_sublist _))
    | ok u e3 =>
      rw [h2] at p
      intro F3 H3 A3 B3 u' g3 y3
      obtain ⟨rfl, rfl⟩ := y3
      have g23 : Got (ql && qh) F1 H1 e1 σ A1 F3 H3 e3 A3 [] := by simpa using g2.trans g3 (fun a h => by cases h)
      have gg := g.trans g23 (IsR.own x)
      rw [List.append_nil] at gg
      have x3 := IsR.keep hd x g23 fun a h z => (nodup_app.mp g.nd).2.2 a z h
      obtain ⟨y, hy, k⟩ := p.mopt
      have rd := IsR.read g3.rel.sm x3
      unfold fSl at hy
      split at hy
      · rename_i k1 ds
        split at hy
        · rename_i ok
          obtain rfl := Option.some.inj hy
          obtain ⟨F4, a, vs, g4, s4, n4, rfl, h4, f4⟩ := Got.items (C := []) (by rw [List.append_nil]; exact gg) x3 (fun a h => by cases h) ok
          refine .inl ⟨a, vs, rfl, .inl (.inl h4), fun p hp => ?_⟩
          obtain ⟨g5, y5⟩ := g4.fin (f4.cut l' u') hp
          exact k _ _ _ _ _ g5 y5
        · cases hy
      · rename_i z pz
        split at hy
        · rename_i ok
          obtain rfl := Option.some.inj hy
          simp only [Fz] at rd
          exact .inr ⟨z, rd, big (of_decide_eq_true ok), k _ _ _ [] _ (gg.sub (List.nil_sublist _)) (Fz.is (by simp only [Fz]))⟩
        · cases hy
      · cases hy
theorem ev_slice (ha : EV X W qa a ta sa) (hl : OV X W ql lo tl sl) (hh : OV X W qh hi th sh) {qr : Bool} (hqr : (ql && qh) = qr := by rfl) {K : PySem.W.Frag} (hK : X.K = K := by rfl) : EV X W (qa && qr) (.Subscript a (.Slice lo hi none p2) pos) (tSl (rSlA' K) ta tl th) (sSl qr sa sl sh) := by
  subst hK hqr; exact ⟨pe_slice (SlR.or sl_list sl_str) ha.pe hl.pe hh.pe, SX.slice ha.se hl.se hh.se⟩
end
/-! ### the script -/
theorem Fz.scr {K : PySem.W.Frag} {H : Hp} {ns : List Int} {v : V} (h : Fz H (.scr ns K) v) : ∃ a, v = .ref a ∧ SqL K H a (ns.map V.int) := by
  simp only [Fz] at h
  obtain ⟨a, rfl, h⟩ := h
  exact ⟨a, rfl, h.elim (fun ⟨o, z⟩ => .inl (.inr ⟨o, z⟩)) fun z => z H⟩
open Classical in
noncomputable def fScrIx (K : PySem.W.Frag) (a b : Rv) : Option Rv := match a.2, b.2 with
  | .scr ns K', .int i => if K' = K then (atI ns i).map fun n => (some 0, .int n) else none
  | _, _ => none
theorem p_scrIx {K : PySem.W.Frag} : P2R (rIx K) (fScrIx K) := by
  intro q F H e σ A F1 H1 e1 A1 B C v w a b x Q g xa xb hf k
  have rb := IsR.read g.rel.sm xb
  have ra := IsR.read g.rel.sm xa
  unfold fScrIx at hf
  split at hf
  · rename_i ns K' i ha hb
    split at hf
    · rename_i hK
      subst hK
      rw [hb] at rb
      rw [ha] at ra
      simp only [Fz] at rb
      subst rb
      obtain ⟨p, rfl, h1⟩ := ra.scr
      cases hc : atI ns i with
      | none => rw [hc] at hf; cases hf
      | some c =>
        rw [hc] at hf
        obtain rfl := Option.some.inj hf
        exact .inl ⟨p, ns.map V.int, i, .int c, rfl, rfl, h1, atI_map hc, k _ _ _ _ (g.sub (List.nil_sublist _)) (Fz.is (by simp only [Fz]))⟩
    · cases hf
  · cases hf
section
variable {X : Cx} {W : WX} {q qa qb ql qh : Bool} {a b : Expr} {ta tb : TE} {sa sb : M Rv} {pos p2 : Pos} {lo hi : Option Expr} {tl th : TO} {sl sh : M (Option Int)}
theorem ev_scrIx (ha : EV X W qa a ta sa) (hb : EV X W qb b tb sb) (hs : PlainIx b := by exact fun _ _ => rfl) {K : PySem.W.Frag} (hK : X.K = K := by rfl) : EV X W (qa && qb) (.Subscript a b pos) (tOp (rIx K) ta tb) (sOp (fScrIx K) qb sa sb) := by
  subst hK; exact ⟨pe_ix ix_seq ha.pe hb.pe hs, SX.op p_scrIx ha.se hb.se⟩
open Classical in
noncomputable def fScrSl (K : PySem.W.Frag) (a : D) (h : Option Int) : Option Rv := match a with
  | .scr ns K' => if K' = K then some (some 1, .lst ((cutD ns none h).map D.int)) else none
  | _ => none
noncomputable def sScrSl (K : PySem.W.Frag) (sa : M Rv) (sh : M (Option Int)) : M Rv := mbind sa fun a => mif (hold true a) (mbind sh fun h => mopt (fScrSl K a.2 h))
/-- script[:n] -/
theorem ev_scrSl (ha : EV X W qa a ta sa) (hh : OV X W true hi th sh) {K : PySem.W.Frag} (hK : X.K = K := by rfl) : EV X W qa (.Subscript a (.Slice none hi none p2) pos) (tSl (rSlL K) ta tNoPart th) (sScrSl K sa sh) := by
  subst hK
  refine ⟨pe_slice sl_list ha.pe po_none hh.pe, ?_⟩
  refine SX.bind (J := IsR) (k := fun x σ H1 Q => th σ H1 fun u H3 => rSlL X.K x none u H3 Q) id ha.se fun F H e σ A F1 H1 e1 A1 B r v Q R g x p => ?_
  obtain ⟨hd, p⟩ := p.mif
  refine hh.se F1 H1 e1 σ A1 _ g.rel ?_
  unfold mbind at p
  cases h2 : sh e1 with
  | bad => rw [h2] at p; exact p
  | exc c e3 =>
    rw [h2] at p
    exact fun F3 H3 A3 g3 => p F3 H3 A3 (by simpa using (g.trans g3 (IsR.own x)).sub (List.nil_sublist _))
  | ok u e3 =>
    rw [h2] at p
    intro F3 H3 A3 B3 u' g3 y3
    obtain ⟨rfl, rfl⟩ := y3
    have gg := g.trans g3 (IsR.own x)
    rw [List.append_nil, Bool.and_true] at gg
    have x3 := IsR.keep hd x g3 fun a h z => (nodup_app.mp g.nd).2.2 a z h
    have rd := IsR.read g3.rel.sm x3
    obtain ⟨y, hy, k⟩ := p.mopt
    unfold fScrSl at hy
    split at hy
    · rename_i ns K' hr
      split at hy
      · rename_i hK
        subst hK
        obtain rfl := Option.some.inj hy
        rw [hr] at rd
        obtain ⟨a, rfl, h4⟩ := rd.scr
        refine ⟨a, ns.map V.int, rfl, h4, fun p' hp => ?_⟩
        rw [cutV_map]
        obtain ⟨g5, y5⟩ := (gg.sub (List.nil_sublist _)).fin (fz_ints (cutD ns none u')) hp
        exact k _ _ _ _ _ g5 y5
      · cases hy
    · cases hy
end
end AR

set_option Elab.async false
set_option linter.all false
set_option maxRecDepth 100000
namespace AR
open PySem PySem.Spec PyProof.Rows L2

/-! ### built-in functions -/
def flatN (f : List D → Option D) (as : List Rv) : Option Rv := (f (as.map (·.2))).map fun x => (some 0, x)
theorem PcR.flat {r : List V → Hp → VK → Prop} {f : List D → Option D} (h : ∀ H vs ds x Q, FzL H ds vs → f ds = some x → x.dep = 0 ∧ ((∀ u, Fz H x u → Q u H) → r vs H Q)) : PcR r (flatN f) := by
  intro q F H e σ A F1 H1 e1 A1 B vs as x Q g xa hf k
  unfold flatN at hf
  cases hx : f (as.map (·.2)) with
  | none => rw [hx] at hf; cases hf
  | some y =>
    rw [hx] at hf
    obtain rfl := Option.some.inj hf
    obtain ⟨z, hr⟩ := h H1 vs _ y Q (IsRs.read g.rel.sm xa) hx
    exact hr fun u hu => k _ _ _ u (g.flatR z hu 0).1 (g.flatR z hu 0).2
theorem PcR.or {r r' : List V → Hp → VK → Prop} {f f' : List Rv → Option Rv} (h : PcR r f) (h' : PcR r' f') : PcR (fun x H Q => r x H Q ∨ r' x H Q) (fun a => (f a).or (f' a)) := by
  intro q F H e σ A F1 H1 e1 A1 B vs as x Q g xa hf k
  cases hx : f as with
  | some y =>
    simp only [hx, Option.some_or] at hf
    exact .inl (h g xa (hx.trans hf) k)
  | none =>
    simp only [hx, Option.none_or] at hf
    exact .inr (h' g xa hf k)
def sCall1 (f : List Rv → Option Rv) (s : M (List Rv)) : M Rv := mbind s fun as => mopt (f as)
section
variable {X : Cx} {W : WX} {q qa qb : Bool} {a b : Expr} {es : List Expr} {ta tb : TE} {t : TA} {sa sb : M Rv} {s : M (List Rv)} {pos p : Pos} {x : Str} {id T : String}
theorem SX.call {mg : Str → Option Value} {r : List V → Hp → VK → Prop} {f : List Rv → Option Rv} (hf : PcR r f) (h : SX mg W IsRs qa t s) : SX mg W IsR qa (tCB r t) (sCall1 f s) := by
  refine SX.bind (J := IsR) (f := fun as => mopt (f as)) (k := fun vs σ H Q => r vs H Q) (fun z => z) h fun F H e σ A F1 H1 e1 A1 B as vs Q R g x p => ?_
  obtain ⟨y, hy, k⟩ := p.mopt
  exact hf g x hy fun F' H' E u g' x' => k F' H' A1 E u g' x'
theorem ev_callB {r : List V → Hp → VK → Prop} {f : List Rv → Option Rv} (hc : CallR X (.builtin id) r) (hf : PcR r f) (hg : Gl X x) (hm : X.mg x = none) (hv : bootBuiltins x = some (.builtin id)) (ha : AV X W qa (a :: es) t s) (hn : x ≠ "__name__" := by decide) (hdb : (x == ("__debug__" : Str)) = false := by decide)
    (he : starEach (a :: es) X.env = (false, eval a X.env) :: starEach es X.env := by rfl) (hpl : (backTo pos (starEach es X.env)).any (·.1) = false := by rfl) : EV X W qa (.Call (.Name x p) (a :: es) [] pos) (tCB r t) (sCall1 f s) := ⟨pe_callB hc hg hm hv ha.pe hn hdb he hpl, SX.call hf ha.se⟩
theorem ev_callTy {r : List V → Hp → VK → Prop} {f : List Rv → Option Rv} (hc : CallR X (.type T) r) (hf : PcR r f) (hg : Gl X x) (hm : X.mg x = none) (hv : bootBuiltins x = some (.type T)) (ha : AV X W qa (a :: es) t s) (hn : x ≠ "__name__" := by decide) (hdb : (x == ("__debug__" : Str)) = false := by decide)
    (he : starEach (a :: es) X.env = (false, eval a X.env) :: starEach es X.env := by rfl) (hpl : (backTo pos (starEach es X.env)).any (·.1) = false := by rfl) : EV X W qa (.Call (.Name x p) (a :: es) [] pos) (tCB r t) (sCall1 f s) := ⟨pe_callTy hc hg hm hv ha.pe hn hdb he hpl, SX.call hf ha.se⟩
end
/-! len -/
def fLenD : List D → Option D
  | [.lst ds] => some (.int ds.length)
  | [.tup ds] => some (.int ds.length)
  | [.str z] => if decide (z.length ≤ 1000000) = true then some (.int z.length) else none
  | _ => none
def rLen (K : PySem.W.Frag) : List V → Hp → VK → Prop := fun xs H Q => (∃ p ys, xs = [.ref p] ∧ (SqL K H p ys ∨ SqT K H p ys) ∧ Q (.int ys.length) H) ∨ (∃ z, xs = [.str z] ∧ z.length ≤ sizeLine ∧ Q (.int z.length) H)
theorem c_len {X : Cx} : CallR X (.builtin "len") (rLen X.K) := CallR.or call_len_seq call_len_str
theorem FzL.one {H : Hp} {d : D} {vs : List V} (h : FzL H [d] vs) : ∃ v, vs = [v] ∧ Fz H d v := by
  simp only [FzL] at h
  obtain ⟨v, r, rfl, h1, rfl⟩ := h
  exact ⟨v, rfl, h1⟩
theorem FzL.two {H : Hp} {d d' : D} {vs : List V} (h : FzL H [d, d'] vs) : ∃ v v', vs = [v, v'] ∧ Fz H d v ∧ Fz H d' v' := by
  simp only [FzL] at h
  obtain ⟨v, r, rfl, h1, v', r', rfl, h2, rfl⟩ := h
  exact ⟨v, v', rfl, h1, h2⟩
theorem p_len {K : PySem.W.Frag} : PcR (rLen K) (flatN fLenD) := PcR.flat (r := rLen K) (f := fLenD) fun H vs ds x Q hv hf => by
  unfold fLenD at hf
  split at hf
  · obtain ⟨v, rfl, h⟩ := hv.one
    obtain rfl := Option.some.inj hf
    simp only [Fz] at h
    obtain ⟨a, ws, rfl, h1, h2⟩ := h
    refine ⟨rfl, fun k => .inl ⟨a, ws, rfl, .inl (.inl (.inl h1)), k _ ?_⟩⟩
    simp only [Fz]; rw [h2.length]
  · obtain ⟨v, rfl, h⟩ := hv.one
    obtain rfl := Option.some.inj hf
    simp only [Fz] at h
    obtain ⟨a, ws, rfl, h1, h2⟩ := h
    refine ⟨rfl, fun k => .inl ⟨a, ws, rfl, .inr (.inl (.inl h1)), k _ ?_⟩⟩
    simp only [Fz]; rw [h2.length]
  · split at hf
    · rename_i c
      obtain ⟨v, rfl, h⟩ := hv.one
      obtain rfl := Option.some.inj hf
      simp only [Fz] at h
      subst h
      exact ⟨rfl, fun k => .inr ⟨_, rfl, big (of_decide_eq_true c), k _ (by simp only [Fz])⟩⟩
    · cases hf
  · cases hf
/-! max, min of two numbers; int -/
def fMax2 : List D → Option D
  | [.int i, .int j] => some (.int (if j > i then j else i))
  | _ => none
def fMin2 : List D → Option D
  | [.int i, .int j] => some (.int (if j < i then j else i))
  | _ => none
def fInt1 : List D → Option D
  | [.int i] => some (.int i)
  | [.bl b] => some (.int (if b then 1 else 0))
  | _ => none
def rMax2 : List V → Hp → VK → Prop := fun xs H Q => ∃ i j, xs = [.int i, .int j] ∧ Q (.int (if j > i then j else i)) H
def rMin2 : List V → Hp → VK → Prop := fun xs H Q => ∃ i j, xs = [.int i, .int j] ∧ Q (.int (if j < i then j else i)) H
def rInt1 : List V → Hp → VK → Prop := fun xs H Q => (∃ i, xs = [.int i] ∧ Q (.int i) H) ∨ ∃ k, xs = [.bl k] ∧ Q (.int (if k then 1 else 0)) H
theorem p_max2 : PcR rMax2 (flatN fMax2) := PcR.flat (r := rMax2) (f := fMax2) fun H vs ds x Q hv hf => by
  unfold fMax2 at hf
  split at hf
  · obtain ⟨v, w, rfl, h1, h2⟩ := hv.two
    obtain rfl := Option.some.inj hf
    simp only [Fz] at h1 h2
    subst h1 h2
    exact ⟨rfl, fun k => ⟨_, _, rfl, k _ (by simp only [Fz])⟩⟩
  · cases hf
theorem p_min2 : PcR rMin2 (flatN fMin2) := PcR.flat (r := rMin2) (f := fMin2) fun H vs ds x Q hv hf => by
  unfold fMin2 at hf
  split at hf
  · obtain ⟨v, w, rfl, h1, h2⟩ := hv.two
    obtain rfl := Option.some.inj hf
    simp only [Fz] at h1 h2
    subst h1 h2
    exact ⟨rfl, fun k => ⟨_, _, rfl, k _ (by simp only [Fz])⟩⟩
  · cases hf
theorem p_int1 : PcR rInt1 (flatN fInt1) := PcR.flat (r := rInt1) (f := fInt1) fun H vs ds x Q hv hf => by
  unfold fInt1 at hf
  split at hf
  · obtain ⟨v, rfl, h1⟩ := hv.one
    obtain rfl := Option.some.inj hf
    simp only [Fz] at h1
    subst h1
    exact ⟨rfl, fun k => .inl ⟨_, rfl, k _ (by simp only [Fz])⟩⟩
  · obtain ⟨v, rfl, h1⟩ := hv.one
    obtain rfl := Option.some.inj hf
    simp only [Fz] at h1
    subst h1
    exact ⟨rfl, fun k => .inr ⟨_, rfl, k _ (by simp only [Fz])⟩⟩
  · cases hf
/-! lists of numbers -/
def allI : List D → Option (List Int)
  | [] => some []
  | .int i :: ds => (allI ds).map (i :: ·)
  | _ :: _ => none
theorem allI_eq : ∀ {ds : List D} {ns : List Int}, allI ds = some ns → ds = ns.map D.int
  | [], _, h => by simp only [allI] at h; obtain rfl := Option.some.inj h; rfl
  | .int i :: ds, _, h => by
    simp only [allI] at h
    cases hx : allI ds with
    | none => rw [hx] at h; cases h
    | some ms =>
      rw [hx] at h
      obtain rfl := Option.some.inj h
      rw [allI_eq hx]; rfl
  | .non :: _, _, h => by simp [allI] at h
  | .bl _ :: _, _, h => by simp [allI] at h
  | .str _ :: _, _, h => by simp [allI] at h
  | .tup _ :: _, _, h => by simp [allI] at h
  | .lst _ :: _, _, h => by simp [allI] at h
  | .dic _ :: _, _, h => by simp [allI] at h
  | .scr _ _ :: _, _, h => by simp [allI] at h
theorem allI_map (ns : List Int) : allI (ns.map D.int) = some ns := by
  induction ns with
  | nil => rfl
  | cons n ns ih => simp [allI, ih]
theorem FzL.ints {H : Hp} : ∀ {ns : List Int} {vs : List V}, FzL H (ns.map D.int) vs → vs = ns.map V.int
  | [], _, h => by simp only [List.map_nil, FzL] at h; exact h
  | n :: ns, _, h => by
    simp only [List.map_cons, FzL] at h
    obtain ⟨v, r, rfl, h1, h2⟩ := h
    simp only [Fz] at h1
    rw [h1, FzL.ints h2]; rfl
def leI (a b : Int) : Bool := decide (a ≤ b)
def sortI (ns : List Int) : List Int := ns.mergeSort leI
theorem sortI_perm (ns : List Int) : (sortI ns).Perm ns := List.mergeSort_perm ns leI
theorem sortI_sorted (ns : List Int) : (sortI ns).Pairwise (· ≤ ·) := by
  have := List.pairwise_mergeSort (le := leI) (fun a b c h1 h2 => by simp only [leI, decide_eq_true_eq] at *; omega) (fun a b => by simp only [leI, Bool.or_eq_true, decide_eq_true_eq]; omega) ns
  exact this.imp (fun h => of_decide_eq_true h)
theorem sorted_eq : ∀ {xs ys : List Int}, xs.Perm ys → xs.Pairwise (· ≤ ·) → ys.Pairwise (· ≤ ·) → xs = ys
  | [], ys, h, _, _ => (List.Perm.nil_eq h)
  | x :: xs, [], h, _, _ => by have := h.length_eq; simp at this
  | x :: xs, y :: ys, h, h1, h2 => by
    rw [List.pairwise_cons] at h1 h2
    have e : x = y := by
      have m1 : x ∈ y :: ys := h.mem_iff.mp List.mem_cons_self
      have m2 : y ∈ x :: xs := h.mem_iff.mpr List.mem_cons_self
      rcases List.mem_cons.mp m1 with z | z
      · exact z
      · rcases List.mem_cons.mp m2 with w | w
        · exact w.symm
        · exact Int.le_antisymm (h1.1 y w) (h2.1 x z)
    subst e
    rw [sorted_eq (List.Perm.cons_inv h) h1.2 h2.2]
theorem sortI_eq {xs ns : List Int} (h : xs.Perm ns) (h1 : xs.Pairwise (· ≤ ·)) : xs = sortI ns := sorted_eq (h.trans (sortI_perm ns).symm) h1 (sortI_sorted ns)
def fSortI : List Rv → Option Rv
  | [(_, .lst ds)] => (allI ds).map fun ns => (some 1, .lst ((sortI ns).map D.int))
  | _ => none
theorem p_sortI {K : PySem.W.Frag} : PcR (rSortedI K) fSortI := by
  intro q F H e σ A F1 H1 e1 A1 B vs as x Q g xa hf k
  unfold fSortI at hf
  split at hf
  · rename_i k1 ds
    cases hx : allI ds with
    | none => rw [hx] at hf; cases hf
    | some ns =>
      rw [hx] at hf
      obtain rfl := Option.some.inj hf
      obtain ⟨v, rfl, h⟩ := (IsRs.read g.rel.sm xa).one
      rw [allI_eq hx] at h
      simp only [Fz] at h
      obtain ⟨a, ws, rfl, h1, h2⟩ := h
      have := h2.ints
      subst this
      refine ⟨a, ns, rfl, .inl (.inl h1), fun ns' p hp hs hn => ?_⟩
      rw [sortI_eq hp hs]
      obtain ⟨g5, y5⟩ := (g.sub (List.nil_sublist _)).fin (fz_ints (sortI ns)) hn
      exact k _ _ _ _ g5 y5
  · cases hf
/-! tuple(xs), list(xs) -/
def rTupOf (K : PySem.W.Frag) : List V → Hp → VK → Prop := fun xs H Q => ∃ p ys, xs = [.ref p] ∧ ((SqL K H p ys ∧ ∀ l, H l = none → Q (.ref l) (upd H l (.tup ys))) ∨ (SqT K H p ys ∧ Q (.ref p) H))
def rLstOf (K : PySem.W.Frag) : List V → Hp → VK → Prop := fun xs H Q => ∃ p ys, xs = [.ref p] ∧ (SqL K H p ys ∨ SqT K H p ys) ∧ ∀ l, H l = none → Q (.ref l) (upd H l (.lst ys))
def fTupOf : List Rv → Option Rv
  | [(k, .lst ds)] => if (k.isSome || depL ds == 0) = true then some (some 0, .tup ds) else none
  | _ => none
def fLstOf : List Rv → Option Rv
  | [(k, .lst ds)] => if (k.isSome || depL ds == 0) = true then some (some 1, .lst ds) else none
  | _ => none
theorem IsRs.one {F H : Hp} {r : Rv} {vs : List V} {B : List Addr} (x : IsRs F H [r] vs B) : ∃ v, vs = [v] ∧ IsR F H r v B := by
  simp only [IsRs] at x
  obtain ⟨v, w, C, E, rfl, rfl, x1, rfl, rfl⟩ := x
  rw [List.append_nil]
  exact ⟨v, rfl, x1⟩
theorem p_tupOf {K : PySem.W.Frag} : PcR (rTupOf K) fTupOf := by
  intro q F H e σ A F1 H1 e1 A1 B vs as x Q g xa hf k
  unfold fTupOf at hf
  split at hf
  · rename_i k1 ds
    split at hf
    · rename_i ok
      obtain rfl := Option.some.inj hf
      obtain ⟨v, rfl, x⟩ := xa.one
      obtain ⟨F2, a, ws, g2, s2, n2, rfl, h2, f2⟩ := Got.items (C := []) (by rw [List.append_nil]; exact g) x (fun a h => by cases h) ok
      refine ⟨a, ws, rfl, .inl ⟨.inl (.inl h2), fun l hl => ?_⟩⟩
      refine k _ _ _ _ (g2.newT (fun a h => by cases h) hl ws) (Fz.is ?_)
      simp only [Fz]
      exact ⟨l, ws, rfl, upd_same, FzL.mono (sameF (g2.rel.fresh hl).1) _ _ f2⟩
    · cases hf
  · cases hf
theorem p_lstOf {K : PySem.W.Frag} : PcR (rLstOf K) fLstOf := by
  intro q F H e σ A F1 H1 e1 A1 B vs as x Q g xa hf k
  unfold fLstOf at hf
  split at hf
  · rename_i k1 ds
    split at hf
    · rename_i ok
      obtain rfl := Option.some.inj hf
      obtain ⟨v, rfl, x⟩ := xa.one
      obtain ⟨F2, a, ws, g2, s2, n2, rfl, h2, f2⟩ := Got.items (C := []) (by rw [List.append_nil]; exact g) x (fun a h => by cases h) ok
      refine ⟨a, ws, rfl, .inl (.inl (.inl h2)), fun l hl => ?_⟩
      obtain ⟨g5, y5⟩ := g2.fin f2 hl
      exact k _ _ _ _ g5 y5
    · cases hf
  · cases hf

/-! ### isinstance -/
def tyN : D → String
  | .non => "NoneType"
  | .bl _ => "bool"
  | .int _ => "int"
  | .str _ => "str"
  | .tup _ => "tuple"
  | .lst _ => "list"
  | .dic _ => "dict"
  | .scr _ _ => "list"
def isT (T : String) (d : D) : Bool := tyN d == T || (tyN d == "bool" && T == "int")
def okT (T : String) : Bool := ["NoneType", "bool", "int", "str", "tuple", "list", "dict"].all fun n => decide (kitB n T = some (n == T || (n == "bool" && T == "int")))
theorem kit_of_ok {K : PySem.W.Frag} {T : String} (h : okT T = true) (d : D) : PySem.W.kitOne K (.type (tyN d)) (.type T) = some (isT T d) := by
  refine kit_ty ?_
  unfold okT at h
  rw [List.all_eq_true] at h
  exact of_decide_eq_true (h (tyN d) (by cases d <;> simp [tyN]))
def noScr : D → Bool
  | .scr _ _ => false
  | _ => true
theorem Fz.ty {K : PySem.W.Frag} {H : Hp} {d : D} {v : V} (ns : noScr d = true) (h : Fz H d v) : TyX K H v (.type (tyN d)) := by
  cases d with
  | non => simp only [Fz] at h; subst h; exact .base .non
  | bl b => simp only [Fz] at h; subst h; exact .base (.bl b)
  | int b => simp only [Fz] at h; subst h; exact .base (.int b)
  | str b => simp only [Fz] at h; subst h; exact .base (.str b)
  | tup ds => simp only [Fz] at h; obtain ⟨a, vs, rfl, h1, _⟩ := h; exact .base (.tup h1)
  | lst ds => simp only [Fz] at h; obtain ⟨a, vs, rfl, h1, _⟩ := h; exact .base (.lst h1)
  | dic ds => simp only [Fz] at h; obtain ⟨a, vs, rfl, h1, _⟩ := h; exact .base (.dT h1)
  | scr ds K => cases ns
section
variable {X : Cx} {W : WX} {q qa qb : Bool} {a b : Expr} {es : List Expr} {ta tb : TE} {sa sb : M Rv} {pos p p2 p3 p4 : Pos} {x : Str}
def sIsi (f : D → Bool) (s : M Rv) : M Rv := mbind s fun r => mif (noScr r.2) (sC (.bl (f r.2)))
/-- isinstance(a, T) -/
theorem ev_isi {y : Str} {T : String} (ok : okT T = true) (ha : EV X W qa a ta sa) (hg : Gl X "isinstance") (hm : X.mg "isinstance" = none) (hg2 : Gl X y) (hm2 : X.mg y = none) (hv2 : bootBuiltins y = some (.type T)) (hn2 : y ≠ "__name__" := by decide) (hd2 : (y == ("__debug__" : Str)) = false := by decide)
    (hv : bootBuiltins "isinstance" = some (.builtin "isinstance") := by decide +kernel) (hst : starEach [a, .Name y p2] X.env = (false, eval a X.env) :: starEach [.Name y p2] X.env := by rfl) (hst2 : starEach [.Name y p2] X.env = (false, eval (.Name y p2) X.env) :: starEach [] X.env := by rfl)
    (hpl : (backTo pos (starEach [.Name y p2] X.env)).any (·.1) = false := by rfl) {K : PySem.W.Frag} (hK : X.K = K := by rfl) : EV X W qa (.Call (.Name "isinstance" p) [a, .Name y p2] [] pos) (tCB (rIsi K) (tCons ta (tCons (tC (.ty T)) tNil))) (sIsi (isT T) sa) := by
  subst hK
  refine ⟨pe_callB call_isi hg hm hv (pa_cons ha.pe (pa_cons (pe_bltn (v := .ty T) hg2 hm2 hv2 rfl hn2 hd2) pa_nil hst2) hst) (by decide) (by decide) hst hpl, ?_⟩
  refine SX.bind (J := IsR) (k := fun x σ H Q => rIsi X.K [x, .ty T] H Q) id ha.se fun F H e σ A F1 H1 e1 A1 B r v Q R g x p => ?_
  obtain ⟨hns, p⟩ := p.mif
  exact ⟨v, .ty T, .type (tyN r.2), .type T, isT T r.2, rfl, .ty T, Fz.ty hns (IsR.read g.rel.sm x), kit_of_ok ok r.2, p F1 H1 A1 [] _ (g.sub (List.nil_sublist _)) (Fz.is (by simp only [Fz]))⟩
/-- isinstance(a, (T, U)) -/
theorem ev_isi2 {y z : Str} {T U : String} {x1} (ok : okT T = true) (ok2 : okT U = true) (ha : EV X W qa a ta sa) (hg : Gl X "isinstance") (hm : X.mg "isinstance" = none) (hg2 : Gl X y) (hm2 : X.mg y = none) (hv2 : bootBuiltins y = some (.type T)) (hg3 : Gl X z) (hm3 : X.mg z = none) (hv3 : bootBuiltins z = some (.type U))
    (hn2 : y ≠ "__name__" := by decide) (hd2 : (y == ("__debug__" : Str)) = false := by decide) (hn3 : z ≠ "__name__" := by decide) (hd3 : (z == ("__debug__" : Str)) = false := by decide)
    (hv : bootBuiltins "isinstance" = some (.builtin "isinstance") := by decide +kernel) (hst : starEach [a, .Tuple [.Name y p2, .Name z p3] x1 p4] X.env = (false, eval a X.env) :: starEach [.Tuple [.Name y p2, .Name z p3] x1 p4] X.env := by rfl) (hst2 : starEach [.Tuple [.Name y p2, .Name z p3] x1 p4] X.env = (false, eval (.Tuple [.Name y p2, .Name z p3] x1 p4) X.env) :: starEach [] X.env := by rfl)
    (hst3 : starEach [.Name y p2, .Name z p3] X.env = (false, eval (.Name y p2) X.env) :: starEach [.Name z p3] X.env := by rfl) (hst4 : starEach [.Name z p3] X.env = (false, eval (.Name z p3) X.env) :: starEach [] X.env := by rfl)
    (hpl : (backTo pos (starEach [.Tuple [.Name y p2, .Name z p3] x1 p4] X.env)).any (·.1) = false := by rfl) {K : PySem.W.Frag} (hK : X.K = K := by rfl) :
    EV X W qa (.Call (.Name "isinstance" p) [a, .Tuple [.Name y p2, .Name z p3] x1 p4] [] pos) (tCB (rIsiT K) (tCons ta (tCons (tTup (tCons (tC (.ty T)) (tCons (tC (.ty U)) tNil))) tNil))) (sIsi (fun d => isT T d || isT U d) sa) := by
  subst hK
  refine ⟨pe_callB call_isiT hg hm hv (pa_cons ha.pe (pa_cons (pe_tup (pa_cons (pe_bltn (v := .ty T) hg2 hm2 hv2 rfl hn2 hd2) (pa_cons (pe_bltn (v := .ty U) hg3 hm3 hv3 rfl hn3 hd3) pa_nil hst4) hst3)) pa_nil hst2) hst) (by decide) (by decide) hst hpl, ?_⟩
  refine SX.bind (J := IsR) (f := fun r => mif (noScr r.2) (sC (.bl (isT T r.2 || isT U r.2)))) (k := fun x σ H Q => tTup (tCons (tC (.ty T)) (tCons (tC (.ty U)) tNil)) σ H fun y H1 => rIsiT X.K [x, y] H1 Q) id ha.se fun F H e σ A F1 H1 e1 A1 B r v Q R g x p => ?_
  obtain ⟨hns, p⟩ := p.mif
  refine ⟨by show 2 ≤ sizeLine; decide, fun a ha => ?_⟩
  have fz := IsR.read g.rel.sm x
  have g2 := (g.sub (List.nil_sublist B)).newT (fun b hb => by cases hb) ha [.ty T, .ty U]
  refine ⟨v, a, _, .type (tyN r.2), [.type T, .type U], isT T r.2 || isT U r.2, rfl, upd_same, .cons (.ty T) (.cons (.ty U) .nil), Fz.ty hns (Fz.mono (sameF ha) _ _ fz), ?_, p _ _ A1 [] _ g2 (Fz.is (by simp only [Fz]))⟩
  refine kitAny_cons (kit_of_ok ok r.2) (fun h1 => ?_) (fun h1 => by rw [h1]; rfl)
  refine kitAny_cons (b := isT U r.2) (kit_of_ok ok2 r.2) (fun h2 => ?_) (fun h2 => by rw [h2, Bool.or_true])
  rw [h1, h2]; exact kitAny_nil
end
open Classical in
noncomputable def fScrLen (K : PySem.W.Frag) (as : List Rv) : Option Rv := match as with
  | [(_, .scr ns K')] => if K' = K then some (some 0, .int ns.length) else none
  | _ => none
theorem p_scrLen {K : PySem.W.Frag} : PcR (rLen K) (fScrLen K) := by
  intro q F H e σ A F1 H1 e1 A1 B vs as x Q g xa hf k
  unfold fScrLen at hf
  split at hf
  · rename_i k1 ns K'
    split at hf
    · rename_i hK
      subst hK
      obtain rfl := Option.some.inj hf
      obtain ⟨v, rfl, h⟩ := (IsRs.read g.rel.sm xa).one
      obtain ⟨a, rfl, h1⟩ := h.scr
      refine .inl ⟨a, ns.map V.int, rfl, .inl h1, k _ _ _ _ (g.sub (List.nil_sublist _)) (Fz.is ?_)⟩
      simp only [Fz, List.length_map]
    · cases hf
  · cases hf
theorem okT_bool : okT "bool" = true := by decide +kernel
theorem okT_int : okT "int" = true := by decide +kernel
theorem okT_list : okT "list" = true := by decide +kernel
theorem okT_tuple : okT "tuple" = true := by decide +kernel
theorem okT_str : okT "str" = true := by decide +kernel
end AR

set_option Elab.async false
set_option linter.all false
set_option maxRecDepth 100000
namespace AR
open PySem PySem.Spec PyProof.Rows L2

/-! ### what a def promises, by data -/
abbrev Tm := Nat × D
def pick (io : Option Nat) (e : Sl) : Sl := match io with
  | none => []
  | some i => [(e[i]?).join]
def pickV (io : Option Nat) (vs : List V) : St := match io with
  | none => []
  | some i => [vs[i]?]
abbrev Fs := List Tm → Out Tm
def spOf (mg : Str → Option Value) (np : Nat) (io : Option Nat) (S : Fs) : Sp := fun vs H Q E => vs.length = np ∧ ∃ F ts A, Same F H ∧ A.Nodup ∧ SlIs F H (ts.map some) (vs.map some) A ∧
  (match S ts with
  | .ok r outs => ∀ F' H' A' B v, Step F H A F' H' (A' ++ B) → Same F' H' → (A' ++ B).Nodup → Is F' H' r.2 r.1 v B → SlIs F' H' outs (pickV io vs) A' → Q v H'
  | .exc c outs => ∀ F' H' A', Step F H A F' H' A' → Same F' H' → A'.Nodup → SlIs F' H' outs (pickV io vs) A' → E (clv mg c) none H'
  | .bad => False)
theorem SlIs.frz {F H : Hp} : ∀ {ds : List D} {vs : List V}, FzL F ds vs → SlIs F H ((ds.map fun d => ((0, d) : Tm)).map some) (vs.map some) []
  | [], _, h => by simp only [FzL] at h; subst h; simp only [List.map_nil, SlIs]; exact ⟨trivial, trivial⟩
  | d :: ds, _, h => by
    simp only [FzL] at h
    obtain ⟨v, r, rfl, h1, h2⟩ := h
    simp only [List.map_cons, SlIs]
    exact ⟨v, _, [], [], rfl, rfl, Fz.is h1, SlIs.frz h2⟩

section
variable {X : Cx} {W : WX} {q qa qb : Bool} {a b : Expr} {es : List Expr} {ta tb : TE} {t : TA} {sa sb : M Rv} {s : M (List Rv)} {pos p : Pos} {x : Str}
/-- a call that changes none of its arguments -/
def sCallF (np : Nat) (S : Fs) (s : M (List Rv)) : M Rv := mbind s fun rs => mif (decide (rs.length = np)) fun e => match S (rs.map fun r => (0, r.2)) with
  | .ok r _ => if (rs.all canFz || decide (r.2.dep ≤ r.1)) = true then .ok (some r.1, r.2) e else .bad
  | .exc c _ => .exc c e
  | .bad => .bad
theorem IsRs.length {F H : Hp} : ∀ {rs : List Rv} {vs : List V} {B : List Addr}, IsRs F H rs vs B → vs.length = rs.length
  | [], _, _, x => by simp only [IsRs] at x; rw [x.1]; rfl
  | r :: rs, _, _, x => by
    simp only [IsRs] at x
    obtain ⟨v, w, C, E, rfl, rfl, x1, x2⟩ := x
    simp [IsRs.length x2]
theorem SX.callF {mg : Str → Option Value} {np : Nat} {S : Fs} (h : SX mg W IsRs qa t s) : SX mg W IsR qa (tCallS (spOf mg np none S) (WE W) t) (sCallF np S s) := by
  refine SX.bind (J := IsR) (k := fun vs σ H Q => spOf mg np none S vs H Q (WE W σ)) id h fun F H e σ A F1 H1 e1 A1 B rs vs Q R g x p => ?_
  obtain ⟨hn, p⟩ := p.mif
  have len := x.length
  refine ⟨len.trans (of_decide_eq_true hn), ?_⟩
  by_cases hz : rs.all canFz = true
  · -- all arguments can be frozen
    have g2 := g.tups
    have own : ∀ a ∈ B, tupd F1 H1 a = none := fun a ha => by
      obtain ⟨h1, o, h2, h3⟩ := IsRs.own x a ha
      exact tupd_none h1 fun vs z => by rw [h2] at z; exact h3 vs (Option.some.inj z)
    have g3 := Got.freeze (C := []) (by rw [List.append_nil]; exact g2) own
    have fz := IsRs.toFzL g.rel.sm (addTo_same own) (fun a ha => addTo_in ha) x hz
    refine ⟨_, (rs.map (·.2)).map (fun d => ((0, d) : Tm)), [], g3.rel.sm, List.nodup_nil, SlIs.frz fz, ?_⟩
    have e1' : (rs.map (·.2)).map (fun d => ((0, d) : Tm)) = rs.map fun r => (0, r.2) := by rw [List.map_map]; rfl
    rw [e1']
    cases hS : S (rs.map fun r => (0, r.2)) with
    | bad => rw [hS] at p; exact p
    | exc c outs =>
      rw [hS] at p
      intro F' H' A' st sm nd ho
      have eA : A' = [] := by
        cases outs with
        | nil => simp only [pickV, SlIs] at ho; exact ho.2
        | cons o os => cases o <;> simp [pickV, SlIs] at ho
      subst eA
      exact p F' H' A1 (by simpa using g3.trans (Got.quiet g3.rel st sm nd) (fun a h => by cases h))
    | ok r outs =>
      rw [hS] at p
      intro F' H' A' C v st sm nd hi ho
      have eA : A' = [] := by
        cases outs with
        | nil => simp only [pickV, SlIs] at ho; exact ho.2
        | cons o os => cases o <;> simp [pickV, SlIs] at ho
      subst eA
      simp only [hz, Bool.true_or, if_true] at p
      simp only [List.nil_append] at st nd
      exact p F' H' A1 C v (by simpa using g3.trans (Got.quiet g3.rel st sm nd) (fun a h => by cases h)) hi
  · refine ⟨H1, (rs.map (·.2)).map (fun d => ((0, d) : Tm)), [], Same.refl _, List.nodup_nil, SlIs.frz (IsRs.read g.rel.sm x), ?_⟩
    have e1' : (rs.map (·.2)).map (fun d => ((0, d) : Tm)) = rs.map fun r => (0, r.2) := by rw [List.map_map]; rfl
    rw [e1']
    have g0 := g.sub (List.nil_sublist B)
    have lift : ∀ {F' H' : Hp} {C : List Addr}, Step H1 H1 [] F' H' C → Same F' H' → C.Nodup → (∀ a ∈ C, ∃ o, H' a = some o ∧ ∀ vs, o ≠ .tup vs) → Got qa F H e σ A (tupd F1 H') H' e1 A1 C ∧ Tups F' (tupd F1 H') ∧ ∀ a ∈ C, tupd F1 H' a = none := by
      intro F' H' C st sm nd hC
      have s1 : Same F1 H' := fun a o h => st.kp a o (g.rel.sm a o h) (by simp)
      have st2 : Step F1 H1 [] (tupd F1 H') H' C := by
        refine ⟨tupd_same _ _, fun a h => ?_, st.kp, st.th, st.ow, st.tp⟩
        rcases tupd_or h with z | ⟨vs, z⟩
        · exact .inl z
        · cases w : H1 a with
          | none => exact .inr (.inr (.inl rfl))
          | some o =>
            have := st.kp a o w (by simp)
            rw [z] at this; cases this
            exact .inr (.inr (.inr ⟨vs, rfl⟩))
      refine ⟨by simpa using g0.trans (Got.quiet g0.rel st2 (tupd_into s1) nd) (fun a h => by cases h), fun a vs h => tupd_tup s1 (sm a _ h), fun a h => ?_⟩
      obtain ⟨o, h1, h2⟩ := hC a h
      refine tupd_none ?_ fun vs z => by rw [h1] at z; exact h2 vs (Option.some.inj z)
      rcases st.ow a h with z | z
      · cases z
      · exact g.rel.sm.free z
    cases hS : S (rs.map fun r => (0, r.2)) with
    | bad => rw [hS] at p; exact p
    | exc c outs =>
      rw [hS] at p
      intro F' H' A' st sm nd ho
      have eA : A' = [] := by
        cases outs with
        | nil => simp only [pickV, SlIs] at ho; exact ho.2
        | cons o os => cases o <;> simp [pickV, SlIs] at ho
      subst eA
      exact p _ H' A1 (lift st sm nd (fun a h => by cases h)).1
    | ok r outs =>
      rw [hS] at p
      intro F' H' A' C v st sm nd hi ho
      have eA : A' = [] := by
        cases outs with
        | nil => simp only [pickV, SlIs] at ho; exact ho.2
        | cons o os => cases o <;> simp [pickV, SlIs] at ho
      subst eA
      simp only [List.nil_append] at st nd
      by_cases hd : r.2.dep ≤ r.1
      · simp only [hd, decide_true, Bool.or_true, if_true] at p
        obtain ⟨g4, tp, nn⟩ := lift st sm nd (fun a h => by obtain ⟨_, o, h1, h2⟩ := Is.own hi a h; exact ⟨o, h1, h2⟩)
        exact p _ H' A1 C v g4 (Is.cast tp hd hd nn hi)
      · dsimp only at p
        rw [if_neg (by simp only [Bool.or_eq_true, decide_eq_true_eq, not_or]; exact ⟨hz, hd⟩)] at p
        exact p.elim
theorem ev_call {k : Nat} {f : Addr} {fd : FuncData} {ps : List Str} {S : Fs} (F : FnOk X.prog X.w X.K X.mg X.base (L2.CX X.prog X.w) k f fd ps (spOf X.mg ps.length none S)) (hr : Room k X.A) (hm : X.mg x = some (.ref f)) (hk : PySem.W.keepIn X.K (.ref f) = true) (hb : Binds X.K fd ps []) (tk : Takes X W) (hg : Gl X x)
    (ha : AV X W qa (a :: es) t s) (hdb : (x == ("__debug__" : Str)) = false := by decide) (he : starEach (a :: es) X.env = (false, eval a X.env) :: starEach es X.env := by rfl) (hpl : (backTo pos (starEach es X.env)).any (·.1) = false := by rfl) :
    EV X W qa (.Call (.Name x p) (a :: es) [] pos) (tCallS (spOf X.mg ps.length none S) (WE W) t) (sCallF ps.length S s) :=
  ⟨pe_callS F hr hg hm hk hb (fun σ => passAt tk σ) ha.pe hdb he hpl, SX.callF ha.se⟩

/-- a call whose first argument, the name in slot i, is changed -/
def sCallIO (np : Nat) (S : Fs) (i : Nat) (s : M (List Rv)) : M Rv := fun e => if there i e = true then mbind s (fun rs e1 => match e1[i]? with
  | some (some (m, d)) => if (decide (rs.length + 1 = np) && rs.all canFz) = true then (match S ((m, d) :: rs.map fun r => (0, r.2)) with
    | .ok r [o] => .ok (some r.1, r.2) (e1.set i o)
    | .exc c [o] => .exc c (e1.set i o)
    | _ => .bad) else .bad
  | _ => .bad) e else .bad
theorem SX.callIO {mg : Str → Option Value} {np : Nat} {S : Fs} {i : Nat} (h : SX mg W IsRs qa t s) : SX mg W IsR false (tCallS (spOf mg np (some 0) S) (WE W) (tCons (tVar i) t)) (sCallIO np S i s) := fun F H e σ A Q R p => by
  unfold sCallIO at p
  split at p
  · rename_i ht
    obtain ⟨m0, d0, h0⟩ := there_get ht
    obtain ⟨v, B0, C0, hv, _⟩ := R.sl.get h0
    refine ⟨v, hv, h F H e σ A _ R ?_⟩
    unfold mbind at p
    cases hs : s e with
    | exc c e1 => rw [hs] at p; exact fun F' H' A' g => p F' H' A' g.loud
    | bad => rw [hs] at p; exact p
    | ok rs e1 =>
      rw [hs] at p
      intro F1 H1 A1 B vs g x
      dsimp only at p
      split at p
      · rename_i m d hd
        split at p
        · rename_i hc
          simp only [Bool.and_eq_true, decide_eq_true_eq] at hc
          obtain ⟨hn, hz⟩ := hc
          -- freeze the arguments
          have g2 := g.tups
          have own : ∀ a ∈ B, tupd F1 H1 a = none := fun a ha => by
            obtain ⟨h1, o, h2, h3⟩ := IsRs.own x a ha
            exact tupd_none h1 fun vs z => by rw [h2] at z; exact h3 vs (Option.some.inj z)
          have g3 := Got.freeze (C := []) (by rw [List.append_nil]; exact g2) own
          have fz := IsRs.toFzL g.rel.sm (addTo_same own) (fun a ha => addTo_in ha) x hz
          obtain ⟨F2, hF2⟩ : ∃ F2, F2 = addTo (tupd F1 H1) H1 B := ⟨_, rfl⟩
          rw [← hF2] at g3 fz
          -- take the slot
          obtain ⟨v', B1, C1, hv', hi, hr, hp, g4⟩ := g3.rel.take hd
          have ev : v' = v := by rw [hv] at hv'; exact (Option.some.inj (Option.some.inj hv')).symm
          subst ev
          have hi1 : i < e1.length := lt_of_get hd
          have ndB : B1.Nodup := (nodup_app.mp g4.nd).2.1
          refine ⟨by show vs.length + 1 = np; rw [x.length]; exact hn, F2, (m, d) :: (rs.map (·.2)).map (fun d => ((0, d) : Tm)), B1, g3.rel.sm, ndB, ?_, ?_⟩
          · simp only [List.map_cons, SlIs]
            exact ⟨v', _, B1, [], rfl, by rw [List.append_nil], hi, SlIs.frz fz⟩
          · have e1' : (rs.map (·.2)).map (fun d => ((0, d) : Tm)) = rs.map fun r => (0, r.2) := by rw [List.map_map]; rfl
            rw [e1']
            -- behind the call
            have back : ∀ {F' H' : Hp} {A' C : List Addr} {o : Option Tm}, Step F2 H1 B1 F' H' (A' ++ C) → Same F' H' → (A' ++ C).Nodup → SlIs F' H' [o] (pickV (some 0) (v' :: vs)) A' → ∃ A2, Got false F H e σ A F' H' (e1.set i o) A2 C := by
              intro F' H' A' C o st sm nd ho
              obtain ⟨n1, n2, n3⟩ := nodup_app.mp g4.nd
              have ap := st.apart hr.sl.own (fun a h z => n3 a h z)
              have hr2 : SlIs F' H' (e1.set i none) σ C1 := hr.sl.frame st.fz ap.1 ap.2
              have dis : ∀ a ∈ A' ++ C, a ∉ C1 := fun a h z => by
                rcases st.ow a h with q | q
                · exact n3 a z q
                · obtain ⟨_, o, ho, _⟩ := hr.sl.own a z
                  rw [q] at ho; cases ho
              obtain ⟨m1, m2, m3⟩ := nodup_app.mp nd
              have fin : ∀ {A2 : List Addr}, SlIs F' H' (e1.set i o) σ A2 → A2.Perm (A' ++ C1) → Got false F H e σ A F' H' (e1.set i o) A2 C := by
                intro A2 hsl hpm
                have nd2 : A2.Nodup := hpm.nodup_iff.mpr (nodup_app.mpr ⟨m1, n1, fun a h z => dis a (List.mem_append_left _ h) z⟩)
                refine ⟨?_, (fun z => by cases z), ⟨sm, nd2, hsl⟩, nodup_app.mpr ⟨nd2, m2, fun a h z => ?_⟩⟩
                · simp only [Bool.false_eq_true, if_false]
                  have s1 := g3.step
                  rw [List.append_nil] at s1
                  have s2 : Step F2 H1 A1 F' H' (A2 ++ C) := by
                    have s3 := st.frame C1
                    refine (s3.sup fun a h => hp.mem_iff.mpr h).sub fun a h => ?_
                    simp only [List.mem_append] at h ⊢
                    rcases h with h | h
                    · rcases List.mem_append.mp (hpm.mem_iff.mp h) with h | h
                      · exact .inl (.inl h)
                      · exact .inr h
                    · exact .inl (.inr h)
                  exact s1.trans s2
                · rcases List.mem_append.mp (hpm.mem_iff.mp h) with h | h
                  · exact m3 a h z
                  · exact dis a (List.mem_append_right _ z) h
              cases o with
              | none =>
                simp only [pickV, SlIs] at ho
                obtain ⟨w, r, e, e2, rfl⟩ := ho
                exact ⟨C1, fin hr2 (List.Perm.refl _)⟩
              | some o =>
                obtain ⟨m', d'⟩ := o
                simp only [pickV, SlIs] at ho
                obtain ⟨w, r, B', C', e, rfl, hi', rfl, rfl⟩ := ho
                have ew : w = v' := by
                  simp at e
                  exact e.symm
                subst ew
                simp only [List.append_nil] at *
                obtain ⟨A2, hs2, hp2⟩ := SlIs.put hi' hi1 hr2
                rw [set_same hv] at hs2
                exact ⟨A2, fin hs2 hp2⟩
            split at p
            · rename_i r o hS
              rw [hS]
              intro F' H' A' C v2 st sm nd hi2 ho
              obtain ⟨A2, g5⟩ := back st sm nd ho
              exact p F' H' A2 C v2 g5 hi2
            · rename_i c o hS
              rw [hS]
              intro F' H' A' st sm nd ho
              obtain ⟨A2, g5⟩ := back (C := []) (by simpa using st) sm (by simpa using nd) ho
              exact p F' H' A2 g5
            · exact p.elim
        · exact p.elim
      · exact p.elim
  · exact p.elim
theorem ev_callIO {k : Nat} {f : Addr} {fd : FuncData} {ps : List Str} {S : Fs} (F : FnOk X.prog X.w X.K X.mg X.base (L2.CX X.prog X.w) k f fd ps (spOf X.mg ps.length (some 0) S)) (hr : Room k X.A) (hm : X.mg x = some (.ref f)) (hk : PySem.W.keepIn X.K (.ref f) = true) (hb : Binds X.K fd ps []) (tk : Takes X W) (hg : Gl X x) (i : Nat) {y : Str} {p1 : Pos}
    (ha : AV X W qa es t s) (hN : X.N[i]? = some y := by rfl) (hv : Vis X.env.scope y := by first | exact Or.inl rfl | exact Or.inr (Or.inl rfl) | exact Or.inr (Or.inr rfl)) (hdb : (x == ("__debug__" : Str)) = false := by decide)
    (he : starEach (.Name y p1 :: es) X.env = (false, eval (.Name y p1) X.env) :: starEach es X.env := by rfl) (hpl : (backTo pos (starEach es X.env)).any (·.1) = false := by rfl) (hd : (y == ("__debug__" : Str)) = false := by decide) (hcd : (y == ("__classdict__" : Str)) = false := by decide) :
    EV X W false (.Call (.Name x p) (.Name y p1 :: es) [] pos) (tCallS (spOf X.mg ps.length (some 0) S) (WE W) (tCons (tVar i) t)) (sCallIO ps.length S i s) :=
  ⟨pe_callS F hr hg hm hk hb (fun σ => passAt tk σ) (pa_cons (pe_var hN hv hd hcd) ha.pe he) hdb he hpl, SX.callIO ha.se⟩
end
end AR

set_option Elab.async false
set_option linter.all false
set_option maxRecDepth 100000
namespace AR
open PySem PySem.Spec PyProof.Rows L2

/-! ### statements -/
inductive SO where
  | nx (e : Sl)
  | rt (m : Nat) (d : D) (e : Sl)
  | exc (c : Str) (e : Sl)
  | bad
abbrev MS := Sl → SO
abbrev Pin := Option (Nat × V)
def PinOk (p : Pin) (σ : St) : Prop := ∀ i v, p = some (i, v) → σ[i]? = some (some v)
structure Mv (p : Pin) (F H : Hp) (A : List Addr) (F' H' : Hp) (e' : Sl) (σ' : St) (A' : List Addr) : Prop where
  st : Step F H A F' H' A'
  rel : Rel F' H' e' σ' A'
  pn : PinOk p σ'
def PostS (mg : Str → Option Value) (W : WX) (p : Pin) (F H : Hp) (A : List Addr) (o : SO) (D : Ends) : Prop := match o with
  | .nx e' => ∀ F' H' σ' A', Mv p F H A F' H' e' σ' A' → D.nx σ' H'
  | .rt m d e' => ∀ F' H' σ' A' B v, Step F H A F' H' (A' ++ B) → Rel F' H' e' σ' A' → PinOk p σ' → (A' ++ B).Nodup → Is F' H' d m v B → D.rt v H'
  | .exc c e' => ∀ F' H' σ' A', Mv p F H A F' H' e' σ' A' → W (clv mg c) none σ' H'
  | .bad => False
def SS (mg : Str → Option Value) (W : WX) (p : Pin) (t : TS) (s : MS) : Prop := ∀ F H e σ A D, Rel F H e σ A → PinOk p σ → PostS mg W p F H A (s e) D → t D σ H
structure SV (X : Cx) (W : WX) (p : Pin) (x : Stmt) (t : TS) (s : MS) : Prop where
  pe : PS X x t
  se : SS X.mg W p t s
structure SVs (X : Cx) (W : WX) (p : Pin) (x : List Stmt) (t : TS) (s : MS) : Prop where
  pe : PSs X x t
  se : SS X.mg W p t s
section
variable {mg : Str → Option Value} {W : WX} {p : Pin} {F H F' H' : Hp} {A A' : List Addr} {e e' : Sl} {σ σ' : St} {o : SO} {D : Ends} {t u : TS} {s r : MS} {X : Cx} {x : Stmt} {xs : List Stmt} {pos : Pos}
theorem PostS.after (q : PostS mg W p F H A o D) (st : Step F H A F' H' A') : PostS mg W p F' H' A' o D := by
  cases o with
  | nx e' => exact fun F2 H2 σ2 A2 m => q F2 H2 σ2 A2 ⟨st.trans m.st, m.rel, m.pn⟩
  | rt m d e' => exact fun F2 H2 σ2 A2 B v s2 rl pn nd y => q F2 H2 σ2 A2 B v (st.trans s2) rl pn nd y
  | exc c e' => exact fun F2 H2 σ2 A2 m => q F2 H2 σ2 A2 ⟨st.trans m.st, m.rel, m.pn⟩
  | bad => exact q
def sSeq (s r : MS) : MS := fun e => match s e with
  | .nx e' => r e'
  | .rt m d e' => .rt m d e'
  | .exc c e' => .exc c e'
  | .bad => .bad
theorem SS.seq (h : SS mg W p t s) (k : SS mg W p u r) : SS mg W p (tSeq t u) (sSeq s r) := fun F H e σ A D R P q => by
  refine h F H e σ A { D with nx := u D } R P ?_
  unfold sSeq at q
  cases hs : s e with
  | nx e' => rw [hs] at q; exact fun F' H' σ' A' m => k F' H' e' σ' A' D m.rel m.pn (q.after m.st)
  | rt m d e' => rw [hs] at q; exact q
  | exc c e' => rw [hs] at q; exact q
  | bad => rw [hs] at q; exact q
def sNext : MS := fun e => .nx e
theorem SS.next : SS mg W p tNext sNext := fun F H e σ A D R P q => q F H σ A ⟨Step.refl _ _ _, R, P⟩
theorem svs_nil : SVs X W p [] tNext sNext := ⟨pss_nil, SS.next⟩
theorem svs_one (h : SV X W p x t s) : SVs X W p [x] t s := ⟨pss_one h.pe, h.se⟩
theorem svs_cons (h : SV X W p x t s) (k : SVs X W p xs u r) : SVs X W p (x :: xs) (tSeq t u) (sSeq s r) := ⟨pss_cons h.pe k.pe, SS.seq h.se k.se⟩
theorem sv_pass : SV X W p (.Pass pos) tNext sNext := ⟨ps_pass, SS.next⟩
end

/-! ### what stands in a slot is frozen -/
section
variable {mg : Str → Option Value} {W : WX} {p : Pin} {F H F' H' : Hp} {A A' : List Addr} {e e' : Sl} {σ σ' : St} {o : SO} {D : Ends} {t u : TS} {s r : MS} {X : Cx} {x : Stmt} {xs : List Stmt} {pos : Pos}
def frz (i : Nat) (e : Sl) : Sl := match e[i]? with
  | some (some (_, d)) => e.set i (some (0, d))
  | _ => e
theorem Rel.frz (R : Rel F H e σ A) (i : Nat) : ∃ F' A', Step F H A F' H A' ∧ Rel F' H (frz i e) σ A' := by
  unfold AR.frz
  split
  · rename_i m d hi
    obtain ⟨v, B, C, h1, h2, h3, h4, g⟩ := R.take hi
    have hB : ∀ a ∈ B, F a = none := fun a h => (Is.own h2 a h).1
    have g2 := Got.freeze (C := []) (by rw [List.append_nil]; exact g) hB
    have fz := Is.fz (addTo_same hB) (fun a h => addTo_in h) h2
    obtain ⟨A', r1, r2⟩ := Rel.put (B := []) (d := d) (m := 0) (v := v) g2.rel (lt_of_get hi) (Fz.is fz) (by rw [List.append_nil]; exact g2.rel.nd)
    rw [set_same h1] at r1
    refine ⟨_, A', ?_, r1⟩
    have st := g2.step
    rw [List.append_nil] at st
    exact st.sub fun a h => by simpa using r2.mem_iff.mp h
  · exact ⟨F, A, Step.refl _ _ _, R⟩
def sFz (i : Nat) (s : MS) : MS := fun e => s (frz i e)
theorem SS.fz (i : Nat) (h : SS mg W p t s) : SS mg W p t (sFz i s) := fun F H e σ A D R P q => by
  obtain ⟨F', A', st, R'⟩ := R.frz i
  exact h F' H _ σ A' D R' P (q.after st)
theorem sv_fz (i : Nat) (h : SV X W p x t s) : SV X W p x t (sFz i s) := ⟨h.pe, SS.fz i h.se⟩
/-- .. forgotten -/
def sDrop (i : Nat) (s : MS) : MS := fun e => s (e.set i none)
theorem SS.drop (i : Nat) (h : SS mg W p t s) : SS mg W p t (sDrop i s) := fun F H e σ A D R P q => by
  obtain ⟨B, C, h1, h2⟩ := R.sl.clr i
  have nd := (nodup_app.mp (h2.nodup_iff.mp R.nd)).2.1
  exact h F H _ σ C D ⟨R.sm, nd, h1⟩ P (q.after ((Step.refl F H A).sub fun a ha => h2.mem_iff.mpr (List.mem_append_right _ ha)))
theorem sv_drop (i : Nat) (h : SV X W p x t s) : SV X W p x t (sDrop i s) := ⟨h.pe, SS.drop i h.se⟩
end

/-! ### an expression, then what is done with its value -/
section
variable {mg : Str → Option Value} {W : WX} {p : Pin} {q qa qc : Bool} {te : TE} {tc : TT} {se : M Rv} {sc : M Bool} {t u : TS} {s r : MS} {X : Cx} {x c : Expr} {xs ys : List Stmt} {pos : Pos}
def mthen {α : Type} (se : M α) (k : α → MS) : MS := fun e => match se e with
  | .ok r e' => k r e'
  | .exc c e' => .exc c e'
  | .bad => .bad
theorem SX.thenS {α β : Type} {I : Hp → Hp → α → β → List Addr → Prop} {t : St → Hp → (β → Hp → Prop) → Prop} {se : M α} {k : α → MS} {T : β → Ends → St → Hp → Prop} (h : SX mg W I q t se)
    (hk : ∀ F H e σ A F1 H1 e1 A1 B r v D, Rel F H e σ A → Got q F H e σ A F1 H1 e1 A1 B → I F1 H1 r v B → PinOk p σ → PostS mg W p F H A (k r e1) D → T v D σ H1) :
    SS mg W p (fun D σ H => t σ H fun v H1 => T v D σ H1) (mthen se k) := fun F H e σ A D R P pq => by
  refine h F H e σ A _ R ?_
  unfold mthen at pq
  cases hs : se e with
  | ok r e' => rw [hs] at pq; exact fun F' H' A' B v g x => hk _ _ _ _ _ _ _ _ _ _ _ _ _ R g x P pq
  | exc c e' => rw [hs] at pq; exact fun F' H' A' g => pq F' H' σ A' ⟨by simpa using g.step, g.rel, P⟩
  | bad => rw [hs] at pq; exact pq
def sExpr (se : M Rv) : MS := mthen se fun _ => sNext
theorem sv_expr (h : EV X W q x te se) (hs : swapsWith x none pos.line X.env = pure false := by rfl) : SV X W p (.Expr x pos) (tDrop te) (sExpr se) := by
  refine ⟨ps_expr h.pe hs, SX.thenS (T := fun _ D σ H => D.nx σ H) h.se fun F H e σ A F1 H1 e1 A1 B r v D R g x P pq => ?_⟩
  exact pq F1 H1 σ A1 ⟨g.step.sub fun a h => List.mem_append_left _ h, g.rel, P⟩
def sRet (se : M Rv) : MS := mthen se fun r e => match r.1 with
  | some m => .rt m r.2 e
  | none => .bad
theorem sv_ret (h : EV X W q x te se) : SV X W p (.Return (some x) pos) (tRet te) (sRet se) := by
  refine ⟨ps_ret h.pe, SX.thenS (T := fun v D σ H => D.rt v H) h.se fun F H e σ A F1 H1 e1 A1 B r v D R g x P pq => ?_⟩
  obtain ⟨k, d⟩ := r
  cases k with
  | none => exact pq.elim
  | some m => exact pq F1 H1 σ A1 B v g.step g.rel P g.nd x
def sRetN : MS := fun e => .rt 0 .non e
theorem sv_retN : SV X W p (.Return none pos) tRetN sRetN := ⟨ps_retN, fun F H e σ A D R P q => q F H σ A [] .non (by simpa using Step.refl F H A) R P (by simpa using R.nd) (Fz.is (by simp only [Fz]))⟩
def sIf (sc : M Bool) (s r : MS) : MS := mthen sc fun b => if b = true then s else r
theorem SS.ite (h : SX mg W IsB q tc sc) (ha : SS mg W p t s) (hb : SS mg W p u r) : SS mg W p (tIfS tc t u) (sIf sc s r) := by
  refine SX.thenS (T := fun b D σ H => if b = true then t D σ H else u D σ H) h fun F H e σ A F1 H1 e1 A1 B b v D R g x P pq => ?_
  obtain ⟨rfl, rfl⟩ := x
  have st := g.step
  rw [List.append_nil] at st
  cases v with
  | true => simp only [if_true] at pq ⊢; exact ha F1 H1 e1 σ A1 D g.rel P (pq.after st)
  | false => simp only [Bool.false_eq_true, if_false] at pq ⊢; exact hb F1 H1 e1 σ A1 D g.rel P (pq.after st)
theorem sv_if (h : TV X W q c tc sc) (ha : SVs X W p xs t s) (hb : SVs X W p ys u r) : SV X W p (.If c xs ys pos) (tIfS tc t u) (sIf sc s r) := ⟨ps_if h.pe ha.pe hb.pe, SS.ite h.se ha.se hb.se⟩
/-- a name given away -/
def sMove (i : Nat) : M Rv := fun e => match e[i]? with
  | some (some (m, d)) => .ok (some m, d) (e.set i none)
  | _ => .bad
theorem SX.move {i : Nat} : SX mg W IsR false (tVar i) (sMove i) := fun F H e σ A Q R p => by
  unfold sMove at p
  split at p
  · rename_i m d hi
    obtain ⟨v, B, C, h1, h2, h3, h4, g⟩ := R.take hi
    exact ⟨v, h1, p F H C B v g h2⟩
  · exact p.elim
theorem ev_move (i : Nat) {x : Str} {pos : Pos} (hN : X.N[i]? = some x := by rfl) (hv : Vis X.env.scope x := by first | exact Or.inl rfl | exact Or.inr (Or.inl rfl) | exact Or.inr (Or.inr rfl)) (hd : (x == ("__debug__" : Str)) = false := by decide)
    (hcd : (x == ("__classdict__" : Str)) = false := by decide) : EV X W false (.Name x pos) (tVar i) (sMove i) := ⟨pe_var hN hv hd hcd, SX.move⟩
end

/-! ### targets -/
abbrev TgS := Tm → Sl → Option Sl
def Sets (is : List Nat) (σ σ' : St) : Prop := ∀ vs : List Nat, (∀ i ∈ is, i ∈ vs) → wipe σ' vs = wipe σ vs
def GSem (p : Pin) (is : List Nat) (g : TG) (s : TgS) : Prop := ∀ {F H e σ A B v m d Q e'}, Rel F H e σ A → PinOk p σ → (A ++ B).Nodup → Is F H d m v B → s (m, d) e = some e' →
  (∀ σ' A', Rel F H e' σ' A' → PinOk p σ' → (∀ a ∈ A', a ∈ A ++ B) → Sets is σ σ' → Q σ' H) → g v σ H Q
def GsSem (p : Pin) (is : List Nat) (g : TGs) (s : Nat → List D → Sl → Option Sl) : Prop := ∀ {F H e σ A B vs m ds Q e'}, Rel F H e σ A → PinOk p σ → (A ++ B).Nodup → IsL F H ds m vs B → s m ds e = some e' →
  (∀ σ' A', Rel F H e' σ' A' → PinOk p σ' → (∀ a ∈ A', a ∈ A ++ B) → Sets is σ σ' → Q σ' H) → g vs σ H Q
structure GV (X : Cx) (p : Pin) (is : List Nat) (x : Expr) (g : TG) (s : TgS) : Prop where
  pe : PG X x g
  se : GSem p is g s
structure GVs (X : Cx) (p : Pin) (is : List Nat) (x : List Expr) (g : TGs) (s : Nat → List D → Sl → Option Sl) : Prop where
  pe : PGs X x g
  se : GsSem p is g s
theorem wipe_set_in {σ : St} {i : Nat} {w : Option V} : ∀ {vs : List Nat}, i ∈ vs → wipe (σ.set i w) vs = wipe σ vs
  | v :: vs, h => by
    unfold wipe
    by_cases hi : i ∈ vs
    · rw [wipe_set_in hi]
    · have : i = v := by
        rcases List.mem_cons.mp h with h | h
        · exact h
        · exact absurd h hi
      subst this
      refine List.ext_getElem? fun j => ?_
      have hw : ∀ (σ : St) (ws : List Nat), i ∉ ws → ∀ w, wipe (σ.set i w) ws = (wipe σ ws).set i w := by
        intro σ ws
        induction ws with
        | nil => intro _ w; rfl
        | cons a ws ih =>
          intro h w
          simp only [List.mem_cons, not_or] at h
          unfold wipe
          rw [ih h.2, List.set_comm _ _ h.1]
      rw [hw σ vs hi w, List.set_set]
section
variable {p : Pin} {X : Cx} {pos : Pos}
def gNm (i : Nat) : TgS := fun tm e => if i < e.length then some (e.set i (some tm)) else none
theorem gs_name {i : Nat} (hp : ∀ v, p ≠ some (i, v)) : GSem p [i] (gName i) (gNm i) := by
  intro F H e σ A B v m d Q e' R P nd x hs k
  unfold gNm at hs
  split at hs
  · rename_i hi
    obtain rfl := Option.some.inj hs
    obtain ⟨B0, C, h1, h2⟩ := R.sl.clr i
    have nA := nodup_app.mp (h2.nodup_iff.mp R.nd)
    obtain ⟨n1, n2, n3⟩ := nodup_app.mp nd
    have hC : ∀ a ∈ C, a ∈ A := fun a ha => h2.mem_iff.mpr (List.mem_append_right _ ha)
    obtain ⟨A', r1, r2⟩ := Rel.put (F := F) (H := H) (e := e) (σ := σ) (A := C) (i := i) ⟨R.sm, nA.2.1, h1⟩ hi x (nodup_app.mpr ⟨nA.2.1, n2, fun a ha => n3 a (hC a ha)⟩)
    refine k _ A' r1 (fun j w hj => ?_) (fun a ha => ?_) fun vs hv => wipe_set_in (hv i (by simp))
    · have : i ≠ j := fun z => hp w (by rw [hj, z])
      rw [List.getElem?_set_ne this]
      exact P j w hj
    · rcases List.mem_append.mp (r2.mem_iff.mp ha) with h | h
      · exact List.mem_append_right _ h
      · exact List.mem_append_left _ (hC a h)
  · cases hs
theorem gv_name {i : Nat} {x : Str} (hN : X.N.Nodup) (hi : X.N[i]? = some x) (hx : Loc X.env.scope x) (hp : ∀ v, p ≠ some (i, v)) (hf : X.fn x = true ∨ X.env.scope.names.lookup x = some .local := by first | exact .inl rfl | exact .inr rfl | assumption) : GV X p [i] (.Name x pos) (gName i) (gNm i) := ⟨pg_name hN hi hx hf, gs_name hp⟩
def gNo : Nat → List D → Sl → Option Sl := fun _ ds e => match ds with
  | [] => some e
  | _ :: _ => none
theorem gvs_nil : GVs X p [] [] gNil gNo := by
  refine ⟨pgs_nil, fun {F H e σ A B vs m ds Q e'} R P nd x hs k => ?_⟩
  unfold gNo at hs
  split at hs
  · obtain rfl := Option.some.inj hs
    simp only [IsL] at x
    exact ⟨x.1, k σ A R P (fun a h => List.mem_append_left _ h) fun _ _ => rfl⟩
  · cases hs
def gCo (g : TgS) (gs : Nat → List D → Sl → Option Sl) : Nat → List D → Sl → Option Sl := fun m ds e => match ds with
  | [] => none
  | d :: ds => (g (m, d) e).bind fun e1 => gs m ds e1
theorem gvs_cons {e : Expr} {es : List Expr} {is js : List Nat} {t : TG} {u : TGs} {g : TgS} {gs : Nat → List D → Sl → Option Sl} (h1 : GV X p is e t g) (h2 : GVs X p js es u gs)
    (hE : (assignEach (e :: es) X.env).map (·.2) = assign e X.env :: (assignEach es X.env).map (·.2) := by rfl) : GVs X p (is ++ js) (e :: es) (gCons t u) (gCo g gs) := by
  refine ⟨pgs_cons h1.pe h2.pe hE, fun {F H e σ A B vs m ds Q e'} R P nd x hs k => ?_⟩
  unfold gCo at hs
  split at hs
  · cases hs
  · rename_i d ds'
    simp only [IsL] at x
    obtain ⟨v, r, B1, C1, rfl, rfl, x1, x2⟩ := x
    cases hg : g (m, d) e with
    | none => rw [hg] at hs; cases hs
    | some e1 =>
      rw [hg] at hs
      obtain ⟨n1, n2, n3⟩ := nodup_app.mp nd
      obtain ⟨m1, m2, m3⟩ := nodup_app.mp n2
      refine ⟨v, r, rfl, h1.se R P (nodup_app.mpr ⟨n1, m1, fun a ha z => n3 a ha (List.mem_append_left _ z)⟩) x1 hg fun σ1 A1 R1 P1 s1 w1 => ?_⟩
      have nd2 : (A1 ++ C1).Nodup := nodup_app.mpr ⟨R1.nd, m2, fun a ha z => by
        rcases List.mem_append.mp (s1 a ha) with h | h
        · exact n3 a h (List.mem_append_right _ z)
        · exact m3 a h z⟩
      refine h2.se R1 P1 nd2 x2 hs fun σ2 A2 R2 P2 s2 w2 => k σ2 A2 R2 P2 (fun a ha => ?_) fun vs hv => ?_
      · rcases List.mem_append.mp (s2 a ha) with h | h
        · rcases List.mem_append.mp (s1 a h) with h | h
          · exact List.mem_append_left _ h
          · exact List.mem_append_right _ (List.mem_append_left _ h)
        · exact List.mem_append_right _ (List.mem_append_right _ h)
      · rw [w2 vs fun i hi => hv i (List.mem_append_right _ hi), w1 vs fun i hi => hv i (List.mem_append_left _ hi)]
def gTp (n : Nat) (gs : Nat → List D → Sl → Option Sl) : TgS := fun tm e => match tm.2 with
  | .tup ds => if ds.length = n then gs tm.1 ds e else none
  | _ => none
theorem IsL.length {F H : Hp} : ∀ {ds : List D} {m : Nat} {vs : List V} {B : List Addr}, IsL F H ds m vs B → vs.length = ds.length
  | [], _, _, _, x => by simp only [IsL] at x; rw [x.1]; rfl
  | d :: ds, _, _, _, x => by
    simp only [IsL] at x
    obtain ⟨v, r, B, C, rfl, rfl, x1, x2⟩ := x
    simp [IsL.length x2]
theorem gs_tup {K : PySem.W.Frag} {n : Nat} {is : List Nat} {u : TGs} {gs : Nat → List D → Sl → Option Sl} (h : GsSem p is u gs) : GSem p is (gTup K n u) (gTp n gs) := by
  intro F H e σ A B v m d Q e' R P nd x hs k
  unfold gTp at hs
  split at hs
  · rename_i ds hd
    simp only at hd
    subst hd
    split at hs
    · rename_i hn
      simp only [Is] at x
      obtain ⟨a, vs, rfl, e1, r⟩ := x
      exact ⟨a, vs, rfl, .inl (.inl (R.sm _ _ e1)), r.length.trans hn, h R P nd r hs k⟩
    · cases hs
  · cases hs
def gLs (n : Nat) (gs : Nat → List D → Sl → Option Sl) : TgS := fun tm e => match tm.2, tm.1 with
  | .lst ds, 0 => if ds.length = n then gs 0 ds e else none
  | .lst ds, m + 1 => if ds.length = n then gs m ds e else none
  | _, _ => none
theorem gs_lst {K : PySem.W.Frag} {n : Nat} {is : List Nat} {u : TGs} {gs : Nat → List D → Sl → Option Sl} (h : GsSem p is u gs) : GSem p is (gLst K n u) (gLs n gs) := by
  intro F H e σ A B v m d Q e' R P nd x hs k
  unfold gLs at hs
  split at hs
  · rename_i ds hd hm
    simp only at hd hm
    subst hd hm
    split at hs
    · rename_i hn
      simp only [Is, Fz] at x
      obtain ⟨⟨a, vs, rfl, e1, r⟩, rfl⟩ := x
      exact ⟨a, vs, rfl, .inl (.inl (R.sm _ _ e1)), r.length.trans hn, h R P nd (FzL.is r) hs k⟩
    · cases hs
  · rename_i ds m' hd hm
    simp only at hd hm
    subst hd hm
    split at hs
    · rename_i hn
      simp only [Is] at x
      obtain ⟨a, vs, B', rfl, rfl, f1, e1, r⟩ := x
      have nd2 : (A ++ B').Nodup := nd.sublist ((List.Sublist.refl A).append (List.sublist_cons_self a B'))
      refine ⟨a, vs, rfl, .inl (.inl e1), r.length.trans hn, h R P nd2 r hs fun σ' A' r1 p1 s1 w1 => k σ' A' r1 p1 (fun b hb => ?_) w1⟩
      rcases List.mem_append.mp (s1 b hb) with z | z
      · exact List.mem_append_left _ z
      · exact List.mem_append_right _ (List.mem_cons_of_mem _ z)
    · cases hs
  · cases hs
theorem gv_tup {es : List Expr} {k n : Nat} {is : List Nat} {u : TGs} {gs : Nat → List D → Sl → Option Sl} (hc : X.calm = true) (h : GVs X p is es u gs) (hn : (assignEach es X.env).length = n := by rfl) (hst : (assignEach es X.env).findIdx? (·.1) = none := by rfl) {K : PySem.W.Frag} (hK : X.K = K := by rfl) : GV X p is (.Tuple es k pos) (gTup K n u) (gTp n gs) := by
  subst hK; exact ⟨pg_tup hc h.pe hn hst, gs_tup h.se⟩
theorem gv_lst {es : List Expr} {k n : Nat} {is : List Nat} {u : TGs} {gs : Nat → List D → Sl → Option Sl} (hc : X.calm = true) (h : GVs X p is es u gs) (hn : (assignEach es X.env).length = n := by rfl) (hst : (assignEach es X.env).findIdx? (·.1) = none := by rfl) {K : PySem.W.Frag} (hK : X.K = K := by rfl) : GV X p is (.Tuple es k pos) (gLst K n u) (gLs n gs) := by
  subst hK; exact ⟨pg_lst hc h.pe hn hst, gs_lst h.se⟩
end
end AR

set_option Elab.async false
set_option linter.all false
set_option maxRecDepth 100000
namespace AR
open PySem PySem.Spec PyProof.Rows L2

/-! ### assignment -/
section
variable {mg : Str → Option Value} {W : WX} {p : Pin} {q qa qc : Bool} {te : TE} {tc : TT} {se : M Rv} {sc : M Bool} {t u : TS} {s r : MS} {X : Cx} {x c : Expr} {xs ys : List Stmt} {pos : Pos} {g : TG} {sg : TgS} {is : List Nat}
def sAsg (sg : TgS) (se : M Rv) : MS := mthen se fun r e => match r.1 with
  | some m => (match sg (m, r.2) e with
    | some e' => .nx e'
    | none => .bad)
  | none => .bad
theorem SS.asg (h : SX mg W IsR q te se) (hg : GSem p is g sg) : SS mg W p (tAsg te g) (sAsg sg se) := by
  refine SX.thenS (T := fun v D σ H => g v σ H D.nx) h fun F H e σ A F1 H1 e1 A1 B r v D R gt x P pq => ?_
  obtain ⟨k, d⟩ := r
  cases k with
  | none => exact pq.elim
  | some m =>
    dsimp only at pq
    split at pq
    · rename_i e' he
      refine hg gt.rel P gt.nd x he fun σ' A' r1 p1 s1 _ => pq F1 H1 σ' A' ⟨gt.step.sub s1, r1, p1⟩
    · exact pq.elim
theorem sv_asg {tg : Expr} (h : EV X W q x te se) (hg : GV X p is tg g sg) (hs : swapsWithSole [tg] x pos.line X.env = pure false := by rfl) (hw : swappedStores [tg] x X.env = pure none := by rfl) (h1 : (assignEach [tg] X.env).map (·.2) = [assign tg X.env] := by rfl) : SV X W p (.Assign [tg] x pos) (tAsg te g) (sAsg sg se) :=
  ⟨ps_asg h.pe hg.pe hs hw h1, SS.asg h.se hg.se⟩
theorem sv_set {i : Nat} {y : Str} {py : Pos} (hN : X.N.Nodup) (hi : X.N[i]? = some y) (hx : Loc X.env.scope y) (hp : ∀ v, p ≠ some (i, v)) (h : EV X W q x te se) (hs : swapsWith x (some (.Name y py)) pos.line X.env = pure false := by rfl) (hf : X.fn y = true ∨ X.env.scope.names.lookup y = some .local := by first | exact .inl rfl | exact .inr rfl | assumption) :
    SV X W p (.Assign [.Name y py] x pos) (tAsg te (gName i)) (sAsg (gNm i) se) := ⟨ps_set hN hi hx h.pe hs hf, SS.asg h.se (gs_name hp)⟩
/-- a, b = x, y -/
def sPar (i j : Nat) (sa : M (List Rv)) : MS := mthen sa fun rs e => match rs with
  | [(some m, d), (some n, d')] => if i < e.length ∧ j < e.length then .nx ((e.set i (some (m, d))).set j (some (n, d'))) else .bad
  | _ => .bad
theorem SS.par {ta : TA} {sa : M (List Rv)} {i j : Nat} (hij : i ≠ j) (hpi : ∀ v, p ≠ some (i, v)) (hpj : ∀ v, p ≠ some (j, v)) (h : SX mg W IsRs q ta sa) : SS mg W p (tPar i j ta) (sPar i j sa) := by
  refine SX.thenS (T := fun vs D σ H => ∃ v w, vs = [v, w] ∧ D.nx ((σ.set i (some v)).set j (some w)) H) h fun F H e σ A F1 H1 e1 A1 B r v D R gt x P pq => ?_
  split at pq
  · rename_i m d n d'
    simp only [IsRs] at x
    obtain ⟨v1, w1, C1, E1, rfl, rfl, x1, v2, w2, C2, E2, rfl, rfl, x2, rfl, rfl⟩ := x
    split at pq
    · rename_i hl
      refine ⟨v1, v2, rfl, ?_⟩
      rw [List.append_nil] at gt
      obtain ⟨n1, n2, n3⟩ := nodup_app.mp gt.nd
      obtain ⟨m1, m2, m3⟩ := nodup_app.mp n2
      have g1 : GSem p [i] (gName i) (gNm i) := @gs_name p i hpi
      have g2 : GSem p [j] (gName j) (gNm j) := @gs_name p j hpj
      refine g1 (F := F1) (H := H1) (e := e1) (A := A1) (B := C1) (m := m) (d := d) (Q := fun σ' H' => D.nx (σ'.set j (some v2)) H') gt.rel P (nodup_app.mpr ⟨n1, m1, fun a ha z => n3 a ha (List.mem_append_left _ z)⟩) x1 (show gNm i (m, d) e1 = some _ by unfold gNm; rw [if_pos hl.1]) fun σ1 A1' R1 P1 s1 w1 => ?_
      have nd2 : (A1' ++ C2).Nodup := nodup_app.mpr ⟨R1.nd, m2, fun a ha z => by
        rcases List.mem_append.mp (s1 a ha) with h | h
        · exact n3 a h (List.mem_append_right _ z)
        · exact m3 a h z⟩
      refine g2 (F := F1) (H := H1) (A := A1') (B := C2) (m := n) (d := d') (Q := fun σ' H' => D.nx σ' H') R1 P1 nd2 x2 (show gNm j (n, d') _ = some _ by unfold gNm; rw [if_pos (by rw [List.length_set]; exact hl.2)]) fun σ2 A2 R2 P2 s2 w2 => ?_
      refine pq F1 H1 σ2 A2 ⟨gt.step.sub fun a ha => ?_, R2, P2⟩
      rcases List.mem_append.mp (s2 a ha) with h | h
      · rcases List.mem_append.mp (s1 a h) with h | h
        · exact List.mem_append_left _ h
        · exact List.mem_append_right _ (List.mem_append_left _ h)
      · exact List.mem_append_right _ (List.mem_append_right _ h)
    · exact pq.elim
  · exact pq.elim
end

/-! ### what is walked -/
/-- J gives the items ds, which stand in F -/
structure ItR (F : Hp) (J : It) (ds : List D) : Prop where
  go : ∀ i H, i < ds.length → Same F H → J.go i H
  st : ∀ H, Same F H → J.stop ds.length H
  yl : ∀ i H x H' d F0, ds[i]? = some d → Same F F0 → Same F0 H → J.yld i H x H' → ∃ F', Same F' H' ∧ Step F0 H [] F' H' [] ∧ Fz F' d x
theorem ItR.at {F : Hp} {J : It} {ds : List D} {n : Nat} {G : Hp → Prop} {xs : List V} (w : Walk J n G (YAt xs)) (hn : n = ds.length) (hG : ∀ H, Same F H → G H) (h : FzL F ds xs) : ItR F J ds where
  go := fun i H hi s => w.goes i H (hn ▸ hi) (hG H s)
  st := fun H s => hn ▸ w.stops H (hG H s)
  yl := fun i H x H' d F0 hd s1 s2 y => by
    have hi : i < n := by rw [hn]; exact lt_of_get hd
    obtain ⟨rfl, hx⟩ := w.yields i H x H' hi (hG H (s1.trans s2)) y
    obtain ⟨v, hv, fz⟩ := h.get hd
    rw [hx] at hv
    obtain rfl := Option.some.inj hv
    exact ⟨F0, s2, Step.refl _ _ _, Fz.mono s1 _ _ fz⟩
theorem ItR.fn {F : Hp} {J : It} {ds : List D} {n : Nat} {G : Hp → Prop} {f : Nat → V} (w : Walk J n G (YFn f)) (hn : n = ds.length) (hG : ∀ H, Same F H → G H) (h : ∀ i d, ds[i]? = some d → ∀ F, Fz F d (f i)) : ItR F J ds where
  go := fun i H hi s => w.goes i H (hn ▸ hi) (hG H s)
  st := fun H s => hn ▸ w.stops H (hG H s)
  yl := fun i H x H' d F0 hd s1 s2 y => by
    have hi : i < n := by rw [hn]; exact lt_of_get hd
    obtain ⟨rfl, rfl⟩ := w.yields i H x H' hi (hG H (s1.trans s2)) y
    exact ⟨F0, s2, Step.refl _ _ _, h i d hd F0⟩
theorem Step.newTup {F0 H : Hp} {T : Addr} {vs : List V} (sm : Same F0 H) (hT : H T = none) : Same (upd F0 T (.tup vs)) (upd H T (.tup vs)) ∧ Step F0 H [] (upd F0 T (.tup vs)) (upd H T (.tup vs)) [] := by
  have ne : ∀ {a u}, H a = some u → a ≠ T := fun h z => by rw [z, hT] at h; cases h
  refine ⟨fun a o h => ?_, ⟨sameF (sm.free hT), fun a h => ?_, fun a o h _ => ?_, fun a h => ?_, (fun a h => by cases h), fun a vs h => ?_⟩⟩
  · by_cases z : a = T
    · subst z; rw [upd_same] at h ⊢; exact h
    · rw [upd_ne z] at h ⊢; exact sm a o h
  · by_cases z : a = T
    · subst z; exact .inr (.inr (.inl hT))
    · rw [upd_ne z] at h; exact .inl h
  · rw [upd_ne (ne h)]; exact h
  · by_cases z : a = T
    · rw [z]; exact hT
    · rw [upd_ne z] at h; exact h
  · rw [upd_ne (ne h)]; exact h
theorem ItR.pair {F : Hp} {J : It} {ds : List D} {n : Nat} {G : Hp → Prop} {xs ys : Nat → Option V} (w : Walk J n G (YPair xs ys)) (hn : n = ds.length) (hG : ∀ H, Same F H → G H) (h : ∀ i d, ds[i]? = some d → ∃ d1 d2, d = .tup [d1, d2] ∧ (∀ v, xs i = some v → Fz F d1 v) ∧ ∀ v, ys i = some v → Fz F d2 v) : ItR F J ds where
  go := fun i H hi s => w.goes i H (hn ▸ hi) (hG H s)
  st := fun H s => hn ▸ w.stops H (hG H s)
  yl := fun i H x H' d F0 hd s1 s2 y => by
    have hi : i < n := by rw [hn]; exact lt_of_get hd
    obtain ⟨T, v, v', rfl, hT, rfl, h1, h2⟩ := w.yields i H x H' hi (hG H (s1.trans s2)) y
    obtain ⟨d1, d2, rfl, f1, f2⟩ := h i d hd
    have nt := Step.newTup (vs := [v, v']) s2 hT
    refine ⟨_, nt.1, nt.2, ?_⟩
    simp only [Fz, FzL]
    exact ⟨T, [v, v'], rfl, upd_same, v, [v'], rfl, Fz.mono (s1.trans nt.2.fz) _ _ (f1 v h1), v', [], rfl, Fz.mono (s1.trans nt.2.fz) _ _ (f2 v' h2), rfl⟩
section
variable {mg : Str → Option Value} {W : WX} {p : Pin} {q qa qb qc : Bool} {te : TE} {tc : TT} {se : M Rv} {sc : M Bool} {t u : TS} {s r : MS} {X : Cx} {x c : Expr} {xs ys : List Stmt} {pos : Pos} {g : TG} {sg : TgS} {is : List Nat} {wi : TI} {si : M (List D)}
def PostI (mg : Str → Option Value) (W : WX) (q : Bool) (F H : Hp) (e : Sl) (σ : St) (A : List Addr) (o : Out (List D)) (R : It → Hp → Prop) : Prop := match o with
  | .ok ds e' => ∀ F' H' A' J, Got q F H e σ A F' H' e' A' [] → ItR F' J ds → R J H'
  | .exc c e' => ∀ F' H' A', Got q F H e σ A F' H' e' A' [] → W (clv mg c) none σ H'
  | .bad => False
def SI (mg : Str → Option Value) (W : WX) (q : Bool) (wi : TI) (s : M (List D)) : Prop := ∀ F H e σ A R, Rel F H e σ A → PostI mg W q F H e σ A (s e) R → wi σ H R
structure IV (X : Cx) (W : WX) (q : Bool) (tg iter : Expr) (wi : TI) (s : M (List D)) : Prop where
  pe : PI X tg iter wi
  se : SI X.mg W q wi s
theorem SX.iter {α β : Type} {I : Hp → Hp → α → β → List Addr → Prop} {t : St → Hp → (β → Hp → Prop) → Prop} {sa : M α} {k : α → Option (List D)} {T : β → Hp → (It → Hp → Prop) → Prop} (h : SX mg W I q t sa)
    (hk : ∀ F H e σ A F1 H1 e1 A1 B r v ds R, Rel F H e σ A → Got q F H e σ A F1 H1 e1 A1 B → I F1 H1 r v B → k r = some ds → (∀ F' J, Got q F H e σ A F' H1 e1 A1 [] → ItR F' J ds → R J H1) → T v H1 R) :
    SI mg W q (fun σ H R => t σ H fun v H1 => T v H1 R) (mbind sa fun r => mopt (k r)) := fun F H e σ A R Rl pq => by
  refine h F H e σ A _ Rl ?_
  unfold mbind at pq
  cases hs : sa e with
  | ok r e' =>
    rw [hs] at pq
    intro F' H' A' B v gt y
    cases hk' : k r with
    | none => simp only [hk', mopt, mbad, PostI] at pq
    | some ds =>
      simp only [hk', mopt, mret, PostI] at pq
      exact hk _ _ _ _ _ _ _ _ _ _ _ _ ds R Rl gt y hk' fun F2 J g2 it => pq F2 H' A' J g2 it
  | exc c e' => rw [hs] at pq; exact pq
  | bad => rw [hs] at pq; exact pq
/-- a list, a tuple -/
def itL (r : Rv) : Option (List D) := match r with
  | (k, .lst ds) => if (k.isSome || false) = true then some ds else none
  | _ => none
def itT (r : Rv) : Option (List D) := match r with
  | (k, .tup ds) => if (k.isSome || depL ds == 0) = true then some ds else none
  | _ => none
theorem iv_list {tg : Expr} (h : EV X W q x te se) {K : PySem.W.Frag} (hK : X.K = K := by rfl) : IV X W q tg x (iList K te) (mbind se fun r => mopt (itL r)) := by
  subst hK
  refine ⟨pi_list h.pe, SX.iter (k := itL) (T := fun (v : V) H R => ∃ a, v = V.ref a ∧ (∃ xs, SqL X.K H a xs) ∧ R (Itl X.K a) H) h.se fun F H e σ A F1 H1 e1 A1 B r v ds R Rl gt y hk k => ?_⟩
  unfold itL at hk
  split at hk
  · rename_i k1 ds'
    split at hk
    · rename_i ok
      obtain rfl := Option.some.inj hk
      obtain ⟨F2, g2, s2, n2, f2⟩ := Got.toFz (C := []) (by rw [List.append_nil]; exact gt) y (fun a h => by cases h) (by unfold canFz; simp at ok ⊢; exact .inl ok)
      simp only [Fz] at f2
      obtain ⟨a, vs, rfl, h1, h2⟩ := f2
      refine ⟨a, rfl, ⟨vs, .inl (.inl (g2.rel.sm _ _ h1))⟩, k F2 _ g2 (ItR.at (walk_list (K := X.K) (a := a) (xs := vs)) h2.length (fun H s => .inl (.inl (s _ _ h1))) h2)⟩
    · cases hk
  · cases hk
theorem iv_tup {tg : Expr} (h : EV X W q x te se) {K : PySem.W.Frag} (hK : X.K = K := by rfl) : IV X W q tg x (iTup K te) (mbind se fun r => mopt (itT r)) := by
  subst hK
  refine ⟨pi_tup h.pe, SX.iter (k := itT) (T := fun (v : V) H R => ∃ a, v = V.ref a ∧ (∃ xs, SqT X.K H a xs) ∧ R (Itt X.K a) H) h.se fun F H e σ A F1 H1 e1 A1 B r v ds R Rl gt y hk k => ?_⟩
  unfold itT at hk
  split at hk
  · rename_i k1 ds'
    split at hk
    · rename_i ok
      obtain rfl := Option.some.inj hk
      obtain ⟨F2, g2, s2, n2, f2⟩ := Got.toFz (C := []) (by rw [List.append_nil]; exact gt) y (fun a h => by cases h) (by unfold canFz; simpa [D.dep] using ok)
      simp only [Fz] at f2
      obtain ⟨a, vs, rfl, h1, h2⟩ := f2
      refine ⟨a, rfl, ⟨vs, .inl (.inl (g2.rel.sm _ _ h1))⟩, k F2 _ g2 (ItR.at (walk_tup (K := X.K) (a := a) (xs := vs)) h2.length (fun H s => .inl (.inl (s _ _ h1))) h2)⟩
    · cases hk
  · cases hk
/-- range -/
def upto (lo : Int) (n : Nat) : List D := (List.range n).map fun (i : Nat) => D.int (lo + i)
theorem upto_length (lo : Int) (n : Nat) : (upto lo n).length = n := by simp [upto]
def inR (i : Int) : Bool := Nat.ble i.natAbs 1000000000000000000
theorem inR_ok {i : Int} (h : inR i = true) : -(2 ^ 62) ≤ i ∧ i < 2 ^ 62 := by
  have := Nat.le_of_ble_eq_true h
  omega
def itR1 (rs : List Rv) : Option (List D) := match rs with
  | [(_, .int j)] => if inR j = true then some (upto 0 j.toNat) else none
  | _ => none
def itR2 (rs : List Rv) : Option (List D) := match rs with
  | [(_, .int i), (_, .int j)] => if (inR i && inR j) = true then some (upto i (j - i).toNat) else none
  | _ => none
theorem upto_get {lo : Int} {n i : Nat} {d : D} (h : (upto lo n)[i]? = some d) : d = .int (lo + i) := by
  unfold upto at h
  rw [List.getElem?_map] at h
  cases hr : (List.range n)[i]? with
  | none => rw [hr] at h; cases h
  | some j =>
    rw [hr] at h
    have := List.getElem?_range (i := i) (n := n) (by have := lt_of_get hr; simpa using this)
    rw [hr] at this
    obtain rfl := Option.some.inj this
    exact (Option.some.inj h).symm
theorem ItR.upto {F : Hp} {lo : Int} {n : Nat} : ItR F (Itr lo n) (AR.upto lo n) :=
  ItR.fn walk_range (upto_length lo n).symm (fun _ _ => trivial) fun i d h F => by rw [upto_get h]; simp only [Fz]
theorem iv_range1 {tg a : Expr} {ta : TA} {sa : M (List Rv)} {pr : Pos} (hg : Gl X "range") (hm : X.mg "range" = none) (h : AV X W q [a] ta sa) (hs : starEach [a] X.env = [(false, eval a X.env)] := by rfl) : IV X W q tg (.Call (.Name "range" pr) [a] [] pos) (iRng1 ta) (mbind sa fun r => mopt (itR1 r)) := by
  refine ⟨pi_range1 hg hm h.pe hs, SX.iter (k := itR1) (T := fun (vs : List V) H R => ∃ j : Int, vs = [V.int j] ∧ -(2 ^ 62) ≤ j ∧ j < 2 ^ 62 ∧ R (Itr 0 j.toNat) H) h.se fun F H e σ A F1 H1 e1 A1 B r v ds R Rl gt y hk k => ?_⟩
  unfold itR1 at hk
  split at hk
  · rename_i k1 j
    split at hk
    · rename_i ok
      obtain rfl := Option.some.inj hk
      obtain ⟨v, rfl, f⟩ := (IsRs.read gt.rel.sm y).one
      simp only [Fz] at f
      subst f
      have := inR_ok ok
      exact ⟨j, rfl, this.1, this.2, k F1 _ (gt.sub (List.nil_sublist _)) ItR.upto⟩
    · cases hk
  · cases hk
theorem iv_range2 {tg a b : Expr} {ta : TA} {sa : M (List Rv)} {pr : Pos} (hg : Gl X "range") (hm : X.mg "range" = none) (h : AV X W q [a, b] ta sa) (hs : starEach [a, b] X.env = [(false, eval a X.env), (false, eval b X.env)] := by rfl) (hs2 : starEach [b] X.env = [(false, eval b X.env)] := by rfl) : IV X W q tg (.Call (.Name "range" pr) [a, b] [] pos) (iRng2 ta) (mbind sa fun r => mopt (itR2 r)) := by
  refine ⟨pi_range2 hg hm h.pe hs hs2, SX.iter (k := itR2) (T := fun (vs : List V) H R => ∃ i j : Int, vs = [V.int i, V.int j] ∧ (-(2 ^ 62) ≤ i ∧ i < 2 ^ 62 ∧ -(2 ^ 62) ≤ j ∧ j < 2 ^ 62) ∧ R (Itr i (j - i).toNat) H) h.se fun F H e σ A F1 H1 e1 A1 B r v ds R Rl gt y hk k => ?_⟩
  unfold itR2 at hk
  split at hk
  · rename_i k1 i k2 j
    split at hk
    · rename_i ok
      obtain rfl := Option.some.inj hk
      obtain ⟨v, w, rfl, f, f'⟩ := (IsRs.read gt.rel.sm y).two
      simp only [Fz] at f f'
      subst f f'
      simp only [Bool.and_eq_true] at ok
      have o1 := inR_ok ok.1
      have o2 := inR_ok ok.2
      exact ⟨i, j, rfl, ⟨o1.1, o1.2, o2.1, o2.2⟩, k F1 _ (gt.sub (List.nil_sublist _)) ItR.upto⟩
    · cases hk
  · cases hk

/-! ### for -/
def sLoop (sg : TgS) (s : MS) : List D → MS
  | [], e => .nx e
  | d :: ds, e => match sg (0, d) e with
    | none => .bad
    | some e1 => match s e1 with
      | .nx e2 => sLoop sg s ds e2
      | .rt m d e2 => .rt m d e2
      | .exc c e2 => .exc c e2
      | .bad => .bad
def sFor (si : M (List D)) (sg : TgS) (s : MS) : MS := mthen si fun ds => sLoop sg s ds
theorem SS.for (hi : SI mg W q wi si) (hg : GSem p is g sg) (hb : SS mg W p t s) : SS mg W p (tFor wi g t) (sFor si sg s) := fun F H e σ A D R P pq => by
  refine hi F H e σ A _ R ?_
  unfold sFor mthen at pq
  cases hs : si e with
  | bad => rw [hs] at pq; exact pq
  | exc c e' => rw [hs] at pq; exact fun F' H' A' g => pq F' H' σ A' ⟨by simpa using g.step, g.rel, P⟩
  | ok ds e1 =>
    rw [hs] at pq
    intro F1 H1 A1 J gt it
    have st1 := gt.step
    rw [List.append_nil] at st1
    have pq1 : PostS mg W p F1 H1 A1 (sLoop sg s ds e1) D := pq.after st1
    obtain ⟨fin, hfin⟩ : ∃ fin, fin = sLoop sg s ds e1 := ⟨_, rfl⟩
    rw [← hfin] at pq1
    refine ⟨fun i m σ' H' => m = ds.length - i ∧ i ≤ ds.length ∧ ∃ F' e' A', Mv p F1 H1 A1 F' H' e' σ' A' ∧ sLoop sg s (ds.drop i) e' = fin, ⟨ds.length, by simp, Nat.zero_le _, F1, e1, A1, ⟨Step.refl _ _ _, gt.rel, P⟩, hfin.symm⟩, ?_⟩
    rintro i m σ' H' ⟨rfl, hi, F', e', A', mv, eq⟩
    have smF : Same F1 H' := mv.st.fz.trans mv.rel.sm
    rcases Nat.lt_or_ge i ds.length with hlt | hge
    · have hdrop : ds.drop i = ds[i] :: ds.drop (i + 1) := List.drop_eq_getElem_cons hlt
      rw [hdrop] at eq
      refine .inr ⟨it.go i H' hlt smF, fun σ2 H2 => i + 1 ≤ ds.length ∧ ∃ F2 e2 A2, Mv p F1 H1 A1 F2 H2 e2 σ2 A2 ∧ sLoop sg s (ds.drop (i + 1)) e2 = fin, fun σ2 H2 h => ⟨ds.length - (i + 1), by omega, rfl, h.1, h.2⟩, fun v H2 hy => ?_⟩
      obtain ⟨F2, sm2, st2, fz⟩ := it.yl i H' v H2 ds[i] F' (by simp [hlt]) mv.st.fz mv.rel.sm hy
      have ap := st2.apart mv.rel.sl.own (fun a _ => by simp)
      have R2 : Rel F2 H2 e' σ' A' := ⟨sm2, mv.rel.nd, mv.rel.sl.frame st2.fz ap.1 ap.2⟩
      have stA : Step F' H' A' F2 H2 A' := by simpa using st2.frame A'
      unfold sLoop at eq
      rw [← eq] at pq1
      cases hsg : sg (0, ds[i]) e' with
      | none => rw [hsg] at pq1; exact pq1.elim
      | some e3 =>
        rw [hsg] at pq1 eq
        dsimp only at pq1 eq
        refine hg (B := []) (m := 0) R2 mv.pn (by rw [List.append_nil]; exact R2.nd) (Fz.is fz) hsg fun σ3 A3 R3 P3 s3 _ => ?_
        have st3 : Step F1 H1 A1 F2 H2 A3 := (mv.st.trans stA).sub fun a ha => by simpa using s3 a ha
        refine hb F2 H2 e3 σ3 A3 _ R3 P3 ?_
        cases hb3 : s e3 with
        | nx e4 =>
          rw [hb3] at pq1 eq
          exact fun F4 H4 σ4 A4 m4 => ⟨hlt, F4, e4, A4, ⟨st3.trans m4.st, m4.rel, m4.pn⟩, eq⟩
        | rt m d e4 => rw [hb3] at pq1; exact pq1.after st3
        | exc c e4 => rw [hb3] at pq1; exact pq1.after st3
        | bad => rw [hb3] at pq1; exact pq1
    · have e0 : i = ds.length := by omega
      subst e0
      rw [List.drop_length] at eq
      unfold sLoop at eq
      rw [← eq] at pq1
      exact .inl ⟨it.st H' smF, pq1 F' H' σ' A' mv⟩
theorem sv_for {tg iter : Expr} (hp : PassesOwn (model X.prog X.w) X.A X.env X.xe) (hc : X.calm = true) (hi : IV X W q tg iter wi si) (hg : GV X p is tg g sg) (hb : SVs X W p xs t s) (hs : ∀ x, foldedSetIterable iter X.env x = pure x := by intro _; rfl) :
    SV X W p (.For tg iter xs [] pos) (tFor wi g t) (sFor si sg s) := ⟨ps_for hp hc hi.pe hg.pe hb.pe hs, SS.for hi.se hg.se hb.se⟩

/-! ### while -/
def sWhile (sc : M Bool) (s : MS) : Nat → MS
  | 0, _ => .bad
  | n + 1, e => match sc e with
    | .ok true e1 => (match s e1 with
      | .nx e2 => sWhile sc s n e2
      | .rt m d e2 => .rt m d e2
      | .exc c e2 => .exc c e2
      | .bad => .bad)
    | .ok false e1 => .nx e1
    | .exc c e1 => .exc c e1
    | .bad => .bad
theorem SS.while (n : Nat) (hc : SX mg W IsB q tc sc) (hb : SS mg W p t s) : SS mg W p (tWhile tc t) (sWhile sc s n) := fun F H e σ A D R P pq => by
  obtain ⟨fin, hfin⟩ : ∃ fin, fin = sWhile sc s n e := ⟨_, rfl⟩
  rw [← hfin] at pq
  refine ⟨fun m σ' H' => ∃ F' e' A', Mv p F H A F' H' e' σ' A' ∧ sWhile sc s m e' = fin, ⟨n, F, e, A, ⟨Step.refl _ _ _, R, P⟩, hfin.symm⟩, ?_⟩
  rintro m σ' H' ⟨F', e', A', mv, eq⟩
  have pq := pq.after mv.st
  rw [← eq] at pq
  cases m with
  | zero => simp only [sWhile, PostS] at pq
  | succ m =>
    unfold sWhile at pq eq
    refine hc F' H' e' σ' A' _ mv.rel ?_
    cases hs : sc e' with
    | bad => rw [hs] at pq; exact pq
    | exc c e1 => rw [hs] at pq; exact fun F2 H2 A2 g => pq F2 H2 σ' A2 ⟨by simpa using g.step, g.rel, mv.pn⟩
    | ok b e1 =>
      rw [hs] at pq eq
      intro F2 H2 A2 B b' gt x
      obtain ⟨rfl, rfl⟩ := x
      have st := gt.step
      rw [List.append_nil] at st
      cases b' with
      | false => simp only [Bool.false_eq_true, if_false]; exact pq F2 H2 σ' A2 ⟨st, gt.rel, mv.pn⟩
      | true =>
        simp only [if_true]
        dsimp only at pq eq
        refine ⟨fun σ3 H3 => ∃ F3 e3 A3, Mv p F H A F3 H3 e3 σ3 A3 ∧ sWhile sc s m e3 = fin, fun σ3 H3 h => ⟨m, Nat.lt_succ_self m, h⟩, ?_⟩
        refine hb F2 H2 e1 σ' A2 _ gt.rel mv.pn ?_
        cases hb3 : s e1 with
        | nx e4 =>
          rw [hb3] at pq eq
          exact fun F4 H4 σ4 A4 m4 => ⟨F4, e4, A4, ⟨(mv.st.trans st).trans m4.st, m4.rel, m4.pn⟩, eq⟩
        | rt m d e4 => rw [hb3] at pq; exact pq.after st
        | exc c e4 => rw [hb3] at pq; exact pq.after st
        | bad => rw [hb3] at pq; exact pq
theorem sv_while (n : Nat) (hp : PassesOwn (model X.prog X.w) X.A X.env X.xe) (h : TV X W q c tc sc) (hb : SVs X W p xs t s) : SV X W p (.While c xs [] pos) (tWhile tc t) (sWhile sc s n) := ⟨ps_while hp h.pe hb.pe, SS.while n h.se hb.se⟩
end
end AR

set_option Elab.async false
set_option linter.all false
set_option maxRecDepth 100000
namespace AR
open PySem PySem.Spec PyProof.Rows L2

/-! ### a value as owned m deep -/
def accOk (m : Nat) (r : Rv) : Bool := flatR r || r.1 == some m || (m == 0 && canFz r)
section
variable {q : Bool} {F H F1 H1 : Hp} {e e1 : Sl} {σ : St} {A A1 B C : List Addr}
theorem Got.asM {r : Rv} {v : V} {m : Nat} (ok : accOk m r = true) (g : Got q F H e σ A F1 H1 e1 A1 B) (x : IsR F1 H1 r v B) : ∃ F2 C, Got q F H e σ A F2 H1 e1 A1 C ∧ Is F2 H1 r.2 m v C := by
  by_cases hf : r.2.dep = 0
  · have := g.flatR hf (IsR.read g.rel.sm x) m
    exact ⟨_, _, this.1, this.2⟩
  · by_cases hk : r.1 = some m
    · obtain ⟨k, d⟩ := r
      simp only at hk
      subst hk
      exact ⟨F1, B, g, x⟩
    · have h0 : m = 0 ∧ canFz r = true := by
        unfold accOk AR.flatR at ok
        simp only [Bool.or_eq_true, Bool.and_eq_true, beq_iff_eq] at ok
        rcases ok with (h | h) | h
        · exact absurd h hf
        · exact absurd h hk
        · exact h
      obtain ⟨rfl, h0⟩ := h0
      obtain ⟨F2, g2, s2, n2, f2⟩ := Got.toFz (C := []) (by rw [List.append_nil]; exact g) x (fun a h => by cases h) h0
      exact ⟨F2, [], g2, Fz.is f2⟩
theorem Got.write {D : Addr} {o o' : HO} (g : Got q F H e σ A F1 H1 e1 A1 B) (hD : D ∈ B) (ho : H1 D = some o) (hl : ∀ vs, o ≠ .tup vs) (hF : F1 D = none) : Got q F H e σ A F1 (upd H1 D o') e1 A1 B := by
  have st := g.st
  have nA : D ∉ A1 := fun h => (nodup_app.mp g.nd).2.2 D h hD
  have ow := st.ow D (by cases q <;> simp [hD])
  refine ⟨⟨st.fz, st.nw, fun a u h n => ?_, fun a h => ?_, st.ow, fun a vs h => ?_⟩, g.qt, ⟨fun a u h => ?_, g.rel.nd, g.rel.sl.frame (Same.refl _) (fun a h => (g.rel.sl.own a h).1) fun a h => ?_⟩, g.nd⟩
  · have ne : a ≠ D := fun z => by
      subst z
      rcases ow with z | z
      · exact n z
      · rw [h] at z; cases z
    rw [upd_ne ne]; exact st.kp a u h n
  · refine st.th a ?_
    by_cases z : a = D
    · subst z; rw [upd_same] at h; cases h
    · rw [upd_ne z] at h; exact h
  · have ne : a ≠ D := fun z => by
      subst z
      have := st.tp a vs h
      rw [ho] at this
      exact hl vs (Option.some.inj this)
    rw [upd_ne ne]; exact st.tp a vs h
  · have ne : a ≠ D := fun z => by subst z; rw [hF] at h; cases h
    rw [upd_ne ne]; exact g.rel.sm a u h
  · exact upd_ne fun z => nA (z ▸ h)
theorem IsL.append {m : Nat} : ∀ {ds es : List D} {vs ws : List V} {B C : List Addr}, IsL F H ds m vs B → IsL F H es m ws C → IsL F H (ds ++ es) m (vs ++ ws) (B ++ C)
  | [], _, _, _, _, _, x, y => by
    simp only [IsL] at x
    rw [x.1, x.2]; exact y
  | d :: ds, es, _, ws, _, C, x, y => by
    simp only [IsL] at x
    obtain ⟨v, r, B1, C1, rfl, rfl, x1, x2⟩ := x
    simp only [List.cons_append, IsL]
    exact ⟨v, r ++ ws, B1, C1 ++ C, rfl, by rw [List.append_assoc], x1, IsL.append x2 y⟩
end

/-! ### slots wiped -/
def wipeE (e : Sl) : List Nat → Sl
  | [] => e
  | v :: vs => (wipeE e vs).set v none
section
variable {F H : Hp} {e : Sl} {σ : St} {A : List Addr}
theorem wipeE_fix {vs : List Nat} : ∀ {v : Nat}, v ∈ vs → (wipeE e vs).set v none = wipeE e vs := by
  induction vs with
  | nil => intro v h; cases h
  | cons w vs ih =>
    intro v h
    unfold wipeE
    by_cases hw : v = w
    · subst hw; rw [List.set_set]
    · rcases List.mem_cons.mp h with z | z
      · exact absurd z hw
      · rw [List.set_comm _ _ (fun z => hw z.symm), ih z]
theorem SlIs.clrs : ∀ (vs : List Nat), SlIs F H e σ A → ∃ B C, SlIs F H (wipeE e vs) σ C ∧ A.Perm (B ++ C)
  | [], x => ⟨[], A, x, List.Perm.refl _⟩
  | v :: vs, x => by
    obtain ⟨B, C, h1, h2⟩ := SlIs.clrs vs x
    obtain ⟨B', C', h3, h4⟩ := h1.clr v
    refine ⟨B ++ B', C', h3, h2.trans ?_⟩
    rw [List.append_assoc]
    exact List.Perm.append_left B h4
theorem SlIs.wip {vs : List Nat} (hv : ∀ v ∈ vs, e.set v none = e) (x : SlIs F H e σ A) : SlIs F H e (wipe σ vs) A := by
  induction vs with
  | nil => exact x
  | cons v vs ih =>
    unfold wipe
    have h := ih fun w hw => hv w (List.mem_cons_of_mem _ hw)
    have e1 := hv v List.mem_cons_self
    rw [← e1] at h ⊢
    exact SlIs.any h
theorem SlIs.unw {vs : List Nat} (hv : ∀ v ∈ vs, e.set v none = e) (x : SlIs F H e (wipe σ vs) A) : SlIs F H e σ A := by
  induction vs with
  | nil => exact x
  | cons v vs ih =>
    refine ih (fun w hw => hv w (List.mem_cons_of_mem _ hw)) ?_
    unfold wipe at x
    have e1 := hv v List.mem_cons_self
    rw [← e1] at x ⊢
    cases hτ : (wipe σ vs)[v]? with
    | none => rw [List.set_eq_of_length_le (List.getElem?_eq_none_iff.mp hτ)] at x; exact x
    | some o =>
      have := SlIs.any (w := o) x
      rw [List.set_set, set_same hτ] at this
      exact this
theorem wipe_wipe {σ : St} {vs : List Nat} : ∀ {ws : List Nat}, (∀ w ∈ ws, w ∈ vs) → wipe (wipe σ ws) vs = wipe σ vs
  | [], _ => rfl
  | w :: ws, h => by
    show wipe ((wipe σ ws).set w none) vs = _
    rw [wipe_set_in (h w List.mem_cons_self), wipe_wipe fun x hx => h x (List.mem_cons_of_mem _ hx)]
theorem Rel.blk (R : Rel F H e σ A) (vs : List Nat) : ∃ C, Rel F H (wipeE e vs) (wipe σ vs) C ∧ ∀ a ∈ C, a ∈ A := by
  obtain ⟨B, C, h1, h2⟩ := R.sl.clrs vs
  exact ⟨C, ⟨R.sm, (nodup_app.mp (h2.nodup_iff.mp R.nd)).2.1, SlIs.wip (fun v hv => wipeE_fix hv) h1⟩, fun a h => h2.mem_iff.mpr (List.mem_append_right _ h)⟩
def lcNext (q : Bool) (vs : List Nat) (e e4 : Sl) : Sl := if q = true then e else wipeE e4 vs
theorem Got.turn {q : Bool} {F' H' : Hp} {e2 e3 e4 : Sl} {σ2 : St} {A2 A3 A4 B : List Addr} {vs : List Nat} (R : Rel F H e2 σ A2) (hw : wipe σ2 vs = σ) (s3 : ∀ a ∈ A3, a ∈ A2) (g : Got q F H e3 σ2 A3 F' H' e4 A4 B) : ∃ A5, Got q F H e2 σ A2 F' H' (lcNext q vs e2 e4) A5 B := by
  cases q with
  | true =>
    have st := g.st
    simp only [if_true] at st
    exact ⟨A2, Got.quiet R st g.rel.sm (nodup_app.mp g.nd).2.1⟩
  | false =>
    obtain ⟨C, R5, s5⟩ := g.rel.blk vs
    rw [hw] at R5
    have st := g.step
    refine ⟨C, ?_, (fun z => by cases z), ?_, ?_⟩
    · simp only [Bool.false_eq_true, if_false]
      refine (st.sup s3).sub fun a h => ?_
      rcases List.mem_append.mp h with h | h
      · exact List.mem_append_left _ (s5 a h)
      · exact List.mem_append_right _ h
    · simpa [lcNext] using R5
    · obtain ⟨n1, n2, n3⟩ := nodup_app.mp g.nd
      exact nodup_app.mpr ⟨R5.nd, n2, fun a h => n3 a (s5 a h)⟩
end

/-! ### list comprehensions -/
def lcLoop (q : Bool) (vs : List Nat) (m : Nat) (sg : TgS) (st : M Bool) (se : M Rv) : List D → List D → Sl → Out (List D)
  | [], acc, e => .ok acc e
  | d :: ds, acc, e => match sg (0, d) e with
    | none => .bad
    | some e3 => match st e3 with
      | .ok true e4 => (match se e4 with
        | .ok r e5 => if accOk m r = true then lcLoop q vs m sg st se ds (acc ++ [r.2]) (lcNext q vs e e5) else .bad
        | .exc _ _ => .bad
        | .bad => .bad)
      | .ok false e4 => lcLoop q vs m sg st se ds acc (lcNext q vs e e4)
      | .exc _ _ => .bad
      | .bad => .bad
def sLc (q : Bool) (vs : List Nat) (m : Nat) (si : M (List D)) (sg : TgS) (st : M Bool) (se : M Rv) : M Rv := mbind si fun ds e1 => if ds.length ≤ 1000000 then (match lcLoop q vs m sg st se ds [] (wipeE e1 vs) with
  | .ok rs e2 => .ok (some (m + 1), .lst rs) (if q = true then e1 else e2)
  | .exc _ _ => .bad
  | .bad => .bad) else .bad
abbrev W0 : WX := fun _ _ _ _ => False
theorem sizeMil : (1000000 : Nat) < sizeLine := by rw [sizeLine_eq]; decide
theorem SX.lc {mg : Str → Option Value} {W : WX} {q qi : Bool} {vs is : List Nat} {m : Nat} {wi : TI} {g : TG} {tt : TT} {te : TE} {si : M (List D)} {sg : TgS} {st : M Bool} {se : M Rv} (hi : SI mg W qi wi si) (hg : GSem none is g sg) (hs : ∀ i ∈ is, i ∈ vs) (ht : SX mg W0 IsB q tt st) (he : SX mg W0 IsR q te se) :
    SX mg W IsR (qi && q) (tLc wi g tt te vs) (sLc q vs m si sg st se) := fun F H e σ A Q R pq => by
  refine hi F H e σ A _ R ?_
  unfold sLc mbind at pq
  cases hsi : si e with
  | bad => rw [hsi] at pq; exact pq
  | exc c e' => rw [hsi] at pq; exact fun F' H' A' g => pq F' H' A' (g.weak fun z => (Bool.and_eq_true_iff.mp z).1)
  | ok ds e1 =>
    rw [hsi] at pq
    dsimp only at pq
    split at pq
    · rename_i hlen
      intro F1 H1 A1 J gt it D0 hD0
      obtain ⟨AW, RW, sW⟩ := gt.rel.blk vs
      obtain ⟨fin, hfin⟩ : ∃ fin, fin = lcLoop q vs m sg st se ds [] (wipeE e1 vs) := ⟨_, rfl⟩
      rw [← hfin] at pq
      refine ⟨fun i k H' => k = ds.length - i ∧ i ≤ ds.length ∧ ∃ F' e2 A2 B rs, Got q F1 H1 (wipeE e1 vs) (wipe σ vs) AW F' H' e2 A2 (D0 :: B) ∧ Is F' H' (.lst rs) (m + 1) (.ref D0) (D0 :: B) ∧ (∀ v ∈ vs, e2.set v none = e2) ∧ rs.length ≤ i ∧ lcLoop q vs m sg st se (ds.drop i) rs e2 = fin, ⟨ds.length, by simp, Nat.zero_le _, F1, wipeE e1 vs, AW, [], [], (Got.refl RW).newL (fun a h => by cases h) hD0 _, ?_, fun v hv => wipeE_fix hv, Nat.le_refl _, hfin.symm⟩, ?_⟩
      · simp only [Is, IsL]
        exact ⟨D0, [], [], rfl, rfl, (gt.rel.fresh hD0).1, upd_same, rfl, rfl⟩
      · rintro i k H' ⟨rfl, hil, F', e2, A2, B, rs, gB, iD, fx, hrs, eq⟩
        have smF : Same F1 H' := gB.step.fz.trans gB.rel.sm
        rcases Nat.lt_or_ge i ds.length with hlt | hge
        · have hdrop : ds.drop i = ds[i] :: ds.drop (i + 1) := List.drop_eq_getElem_cons hlt
          rw [hdrop] at eq
          unfold lcLoop at eq
          refine .inr ⟨it.go i H' hlt smF, fun H2 => i + 1 ≤ ds.length ∧ ∃ F' e2 A2 B rs, Got q F1 H1 (wipeE e1 vs) (wipe σ vs) AW F' H2 e2 A2 (D0 :: B) ∧ Is F' H2 (.lst rs) (m + 1) (.ref D0) (D0 :: B) ∧ (∀ v ∈ vs, e2.set v none = e2) ∧ rs.length ≤ i + 1 ∧ lcLoop q vs m sg st se (ds.drop (i + 1)) rs e2 = fin, fun H2 h => ⟨ds.length - (i + 1), by omega, rfl, h.1, h.2⟩, fun v H2 hy => ?_⟩
          obtain ⟨F2, sm2, st2, fz⟩ := it.yl i H' v H2 ds[i] F' (by simp [hlt]) gB.step.fz gB.rel.sm hy
          have gq : Got true F' H' e2 (wipe σ vs) A2 F2 H2 e2 A2 [] := Got.quiet gB.rel st2 sm2 List.nodup_nil
          have g1 : Got q F1 H1 (wipeE e1 vs) (wipe σ vs) AW F2 H2 e2 A2 (D0 :: B) := by simpa using gB.trans gq (Is.own iD)
          have iD1 : IsR F2 H2 (some (m + 1), .lst rs) (.ref D0) (D0 :: B) := IsR.keep (r := (some (m + 1), .lst rs)) (by simp [hold]) iD gq fun a h z => (nodup_app.mp gB.nd).2.2 a z h
          cases hsg : sg (0, ds[i]) e2 with
          | none => rw [hsg] at eq; dsimp only at eq; rw [← eq] at pq; exact pq.elim
          | some e3 =>
            rw [hsg] at eq
            dsimp only at eq
            refine hg (B := []) (m := 0) g1.rel (fun _ _ z => by cases z) (by rw [List.append_nil]; exact g1.rel.nd) (Fz.is fz) hsg fun σ2 A3 R3 P3 s3 w3 => ?_
            have hw0 : wipe σ2 vs = wipe (wipe σ vs) vs := w3 vs hs
            have hw1 : wipe σ2 vs = wipe σ vs := hw0.trans (wipe_wipe fun w h => h)
            have s3' : ∀ a ∈ A3, a ∈ A2 := fun a h => by simpa using s3 a h
            refine ⟨hw1, ht F2 H2 e3 σ2 A3 _ R3 ?_⟩
            cases hst : st e3 with
            | bad => rw [hst] at eq; dsimp only at eq; rw [← eq] at pq; exact pq.elim
            | exc c e4 => rw [hst] at eq; dsimp only at eq; rw [← eq] at pq; exact pq.elim
            | ok b e4 =>
              rw [hst] at eq
              intro F3 H3 A4 B4 b' gt1 xb
              obtain ⟨rfl, rfl⟩ := xb
              cases b' with
              | false =>
                simp only [Bool.false_eq_true, if_false]
                dsimp only at eq
                obtain ⟨A5, gO⟩ := Got.turn g1.rel hw1 s3' gt1
                refine ⟨hlt, F3, _, A5, B, rs, by simpa using g1.trans gO (IsR.own iD1), IsR.keep (r := (some (m + 1), .lst rs)) (by simp [hold]) iD1 gO fun a h z => (nodup_app.mp g1.nd).2.2 a z h, ?_, by omega, eq⟩
                intro v hv
                unfold lcNext
                split
                · exact fx v hv
                · exact wipeE_fix hv
              | true =>
                simp only [if_true]
                dsimp only at eq
                refine he F3 H3 e4 σ2 A4 _ gt1.rel ?_
                cases hse : se e4 with
                | bad => rw [hse] at eq; dsimp only at eq; rw [← eq] at pq; exact pq.elim
                | exc c e5 => rw [hse] at eq; dsimp only at eq; rw [← eq] at pq; exact pq.elim
                | ok r e5 =>
                  rw [hse] at eq
                  intro F4 H4 A5 B5 y gt2 xr
                  dsimp only at eq
                  have gt12 : Got q F2 H2 e3 σ2 A3 F4 H4 e5 A5 B5 := by
                    have := gt1.trans gt2 (fun a h => by cases h)
                    simpa using this
                  split at eq
                  · rename_i hacc
                    obtain ⟨F5, C, gC, iC⟩ := gt12.asM hacc xr
                    obtain ⟨A6, gO⟩ := Got.turn g1.rel hw1 s3' gC
                    have gA : Got q F1 H1 (wipeE e1 vs) (wipe σ vs) AW F5 H4 (lcNext q vs e2 e5) A6 ((D0 :: B) ++ C) := by simpa using g1.trans gO (IsR.own iD1)
                    have iD2 : IsR F5 H4 (some (m + 1), .lst rs) (.ref D0) (D0 :: B) := IsR.keep (r := (some (m + 1), .lst rs)) (by simp [hold]) iD1 gO fun a h z => (nodup_app.mp g1.nd).2.2 a z h
                    have iD3 : Is F5 H4 (.lst rs) (m + 1) (.ref D0) (D0 :: B) := iD2
                    simp only [Is] at iD3
                    obtain ⟨a, acc, B', ea, eB, hF, hH, hL⟩ := iD3
                    cases ea
                    simp only [List.cons.injEq, true_and] at eB
                    subst eB
                    have alen : acc.length = rs.length := hL.length
                    refine ⟨acc, hH, ?_, hlt, F5, lcNext q vs e2 e5, A6, B ++ C, rs ++ [r.2], ?_, ?_, ?_, by simp; omega, eq⟩
                    · rw [alen]
                      have := sizeMil
                      omega
                    · exact gA.write (by simp) hH (fun vs z => by cases z) hF
                    · have ndB : (D0 :: (B ++ C)).Nodup := by simpa using (nodup_app.mp gA.nd).2.1
                      have nin := (List.nodup_cons.mp ndB).1
                      have ne : ∀ a ∈ B ++ C, a ≠ D0 := fun a h z => nin (z ▸ h)
                      simp only [Is]
                      refine ⟨D0, acc ++ [y], B ++ C, rfl, rfl, hF, upd_same, ?_⟩
                      have x1 := IsL.append hL (show IsL F5 H4 [r.2] m [y] C by simp only [IsL]; exact ⟨y, [], C, [], rfl, by simp, iC, rfl, rfl⟩)
                      exact IsL.frame (Same.refl _) (fun a h => (IsL.own x1 a h).1) (fun a h => upd_ne (ne a h)) x1
                    · intro v hv
                      unfold lcNext
                      split
                      · exact fx v hv
                      · exact wipeE_fix hv
                  · rw [← eq] at pq; exact pq.elim
        · have e0 : i = ds.length := by omega
          subst e0
          rw [List.drop_length] at eq
          unfold lcLoop at eq
          rw [← eq] at pq
          refine .inl ⟨it.st H' smF, ?_⟩
          dsimp only at pq
          cases q with
          | true =>
            have st := gB.st
            simp only [if_true] at st pq
            have gQ := Got.quiet gt.rel st gB.rel.sm (nodup_app.mp gB.nd).2.1
            exact pq F' H' A1 (D0 :: B) (.ref D0) (by simpa using gt.trans gQ (fun a h => by cases h)) iD
          | false =>
            simp only [Bool.false_eq_true, if_false] at pq
            have gL : Got false F1 H1 e1 σ A1 F' H' e2 A2 (D0 :: B) := by
              refine ⟨?_, (fun z => by cases z), ⟨gB.rel.sm, gB.rel.nd, SlIs.unw fx gB.rel.sl⟩, gB.nd⟩
              simp only [Bool.false_eq_true, if_false]
              exact gB.step.sup sW
            exact pq F' H' A2 (D0 :: B) (.ref D0) (by simpa using gt.trans gL (fun a h => by cases h)) iD
    · exact pq.elim
section
variable {X : Cx} {W : WX} {q qi : Bool} {elt tg iter : Expr} {ifs : List Expr} {scope : Scope} {own : List (Str × Nat)} {pos spos : Pos} {wi : TI} {g : TG} {tt : TT} {te : TE} {si : M (List D)} {sg : TgS} {st : M Bool} {se : M Rv} {is : List Nat} {p : Pin}
structure TVs (X : Cx) (W : WX) (q : Bool) (x : List Expr) (t : TT) (s : M Bool) : Prop where
  pe : PTs X x t
  se : SX X.mg W IsB q t s
theorem tvs_nil : TVs X W true [] tYes (mret true) := ⟨pts_nil, fun F H e σ A Q R p => p F H A [] true (Got.refl R) ⟨rfl, rfl⟩⟩
theorem tvs_one {c : Expr} (h : TV X W q c tt st) : TVs X W q [c] tt st := ⟨pts_one h.pe, h.se⟩
abbrev Blk (X : Cx) (scope : Scope) (P : Cx → Prop) : Prop := ∀ (s : Shared) (H : Hp) (C : Addr) (cl : List (Str × Addr)) (fp : List Addr), P (X.blk s H scope (compEnvC scope cl C X.env) fp)
theorem Blk.some {P : Prop} {X : Cx} {scope : Scope} (h : Blk X scope fun _ => P) : P := h X.s_0 X.H_0 0 [] []
theorem ev_lc {qt qe : Bool} {vs : List Nat} (q : Bool) (m : Nat) (hc : X.calm = true) (hN : X.N.Nodup) (hi : IV X W qi tg iter wi si) (ok : BlkOk X.N X.env.scope scope own) (hg : Blk X scope fun Y => GV Y none is tg g sg) (hs : ∀ i ∈ is, i ∈ own.map (·.2)) (ht : Blk X scope fun Y => TVs Y W0 qt ifs tt st) (he : Blk X scope fun Y => EV Y W0 qe elt te se)
    (hq : q = true → qt = true ∧ qe = true) (hf : ∀ x, foldedSetIterable iter X.env x = pure x := by intro _; rfl) (hvs : own.map (·.2) = vs := by rfl) : EV X W (qi && q) (.ListComp elt [⟨tg, iter, ifs, 0⟩] scope pos) (tLc wi g tt te (own.map (·.2))) (sLc q vs m si sg st se) := by
  subst hvs
  refine ⟨pe_lc hc hN hi.pe ok (fun a b c d e => (hg a b c d e).pe) (fun a b c d e => (ht a b c d e).pe) (fun a b c d e => (he a b c d e).pe) hf, ?_⟩
  have h1 : SX X.mg W0 IsB qt tt st := Blk.some (X := X) (scope := scope) fun a b c d e => (ht a b c d e).se
  have h2 : SX X.mg W0 IsR qe te se := Blk.some (X := X) (scope := scope) fun a b c d e => (he a b c d e).se
  have h3 : GSem none is g sg := @Blk.some (GSem none is g sg) X scope fun a b c d e => (hg a b c d e).se
  exact SX.lc hi.se h3 hs (h1.weak fun z => (hq z).1) (h2.weak fun z => (hq z).2)
/-- y = [..] -/
theorem sv_setLc {qt qe : Bool} {vs : List Nat} (q : Bool) (m : Nat) {i : Nat} {y : Str} {py : Pos} (hc : X.calm = true) (hN : X.N.Nodup) (hy : X.N[i]? = some y) (hyl : X.env.scope.names.lookup y = some .local) (hp : ∀ v, p ≠ some (i, v)) (hsw : swapsWith (.ListComp elt [⟨tg, iter, ifs, 0⟩] scope pos) (some (.Name y py)) spos.line X.env = pure true)
    (hi : IV X W qi tg iter wi si) (ok : BlkOk X.N X.env.scope scope own) (hg : Blk X scope fun Y => GV Y none is tg g sg) (hs : ∀ i ∈ is, i ∈ own.map (·.2)) (ht : Blk X scope fun Y => TVs Y W0 qt ifs tt st) (he : Blk X scope fun Y => EV Y W0 qe elt te se)
    (hq : q = true → qt = true ∧ qe = true) (hf : ∀ x, foldedSetIterable iter X.env x = pure x := by intro _; rfl) (hvs : own.map (·.2) = vs := by rfl) : SV X W p (.Assign [.Name y py] (.ListComp elt [⟨tg, iter, ifs, 0⟩] scope pos) spos) (tAsg (tLc wi g tt te (own.map (·.2))) (gName i)) (sAsg (gNm i) (sLc q vs m si sg st se)) := by
  subst hvs
  refine ⟨ps_setLc hc hN hy hyl hsw hi.pe ok (fun a b c d e => (hg a b c d e).pe) (fun a b c d e => (ht a b c d e).pe) (fun a b c d e => (he a b c d e).pe) hf, ?_⟩
  have h1 : SX X.mg W0 IsB qt tt st := Blk.some (X := X) (scope := scope) fun a b c d e => (ht a b c d e).se
  have h2 : SX X.mg W0 IsR qe te se := Blk.some (X := X) (scope := scope) fun a b c d e => (he a b c d e).se
  have h3 : GSem none is g sg := @Blk.some (GSem none is g sg) X scope fun a b c d e => (hg a b c d e).se
  exact SS.asg (SX.lc hi.se h3 hs (h1.weak fun z => (hq z).1) (h2.weak fun z => (hq z).2)) (@gs_name p i hp)
end
end AR

set_option Elab.async false
set_option linter.all false
set_option maxRecDepth 100000
namespace AR
open PySem PySem.Spec PyProof.Rows L2

/-! ### a part of owned data, by a path -/
def getP (m : Nat) (d : D) : List Nat → Option (Nat × D)
  | [] => some (m, d)
  | k :: ks => match d, m with
    | .lst ds, m + 1 => (match ds[k]? with
      | some c => getP m c ks
      | none => none)
    | .tup ds, m => (match ds[k]? with
      | some c => getP m c ks
      | none => none)
    | _, _ => none
def setP (d : D) (d' : D) : List Nat → D
  | [] => d'
  | k :: ks => match d with
    | .lst ds => (match ds[k]? with
      | some c => .lst (ds.set k (setP c d' ks))
      | none => d)
    | .tup ds => (match ds[k]? with
      | some c => .tup (ds.set k (setP c d' ks))
      | none => d)
    | _ => d
def walkV (H : Hp) (v : V) : List Nat → V → Prop
  | [], u => u = v
  | k :: ks, u => ∃ a vs w, v = .ref a ∧ (H a = some (.lst vs) ∨ H a = some (.tup vs)) ∧ vs[k]? = some w ∧ walkV H w ks u
theorem walkV.det {H : Hp} : ∀ {ks : List Nat} {v u u' : V}, walkV H v ks u → walkV H v ks u' → u = u'
  | [], _, _, _, h, h' => by simp only [walkV] at h h'; rw [h, h']
  | k :: ks, _, _, _, h, h' => by
    simp only [walkV] at h h'
    obtain ⟨a, vs, w, rfl, h1, h2, h3⟩ := h
    obtain ⟨a', vs', w', e, h1', h2', h3'⟩ := h'
    cases e
    have : vs = vs' := by
      rcases h1 with h1 | h1 <;> rcases h1' with h1' | h1' <;> rw [h1] at h1' <;> cases h1' <;> rfl
    subst this
    rw [h2] at h2'
    obtain rfl := Option.some.inj h2'
    exact h3.det h3'
theorem walkV.mono {H H' : Hp} (s : Same H H') : ∀ {ks : List Nat} {v u : V}, walkV H v ks u → walkV H' v ks u
  | [], _, _, h => h
  | k :: ks, _, _, h => by
    simp only [walkV] at h ⊢
    obtain ⟨a, vs, w, rfl, h1, h2, h3⟩ := h
    exact ⟨a, vs, w, rfl, h1.imp (s _ _) (s _ _), h2, h3.mono s⟩
theorem walkV.snoc {H : Hp} {k : Nat} : ∀ {ks : List Nat} {v u w : V} {a : Addr} {vs : List V}, walkV H v ks u → u = .ref a → (H a = some (.lst vs) ∨ H a = some (.tup vs)) → vs[k]? = some w → walkV H v (ks ++ [k]) w
  | [], _, _, _, a, vs, h, e, h1, h2 => by
    simp only [walkV] at h
    subst h
    simp only [List.nil_append, walkV]
    exact ⟨a, vs, _, e, h1, h2, rfl⟩
  | j :: ks, _, _, _, a, vs, h, e, h1, h2 => by
    simp only [walkV] at h
    obtain ⟨a', vs', w', rfl, h3, h4, h5⟩ := h
    simp only [List.cons_append, walkV]
    exact ⟨a', vs', w', rfl, h3, h4, h5.snoc e h1 h2⟩
theorem IsL.foc {F H : Hp} {m : Nat} : ∀ {ds : List D} {vs : List V} {A : List Addr} {k : Nat} {d : D}, IsL F H ds m vs A → ds[k]? = some d → ∃ v Ak R, vs[k]? = some v ∧ Is F H d m v Ak ∧ A.Perm (Ak ++ R) ∧
    ∀ F' H' d' v' Ak', Same F F' → (∀ a ∈ R, F' a = none) → (∀ a ∈ R, H' a = H a) → Is F' H' d' m v' Ak' → ∃ A', IsL F' H' (ds.set k d') m (vs.set k v') A' ∧ A'.Perm (Ak' ++ R)
  | [], _, _, _, _, _, h => by simp at h
  | d :: ds, _, _, 0, _, x, h => by
    simp only [IsL] at x
    obtain ⟨v, r, B, C, rfl, rfl, x1, x2⟩ := x
    simp at h
    subst h
    refine ⟨v, B, C, rfl, x1, List.Perm.refl _, fun F' H' d' v' Ak' s n1 n2 y => ⟨Ak' ++ C, ?_, List.Perm.refl _⟩⟩
    simp only [List.set_cons_zero, IsL]
    exact ⟨v', r, Ak', C, rfl, rfl, y, IsL.frame s n1 n2 x2⟩
  | d :: ds, _, _, k + 1, _, x, h => by
    simp only [IsL] at x
    obtain ⟨v, r, B, C, rfl, rfl, x1, x2⟩ := x
    obtain ⟨u, Ak, R, h1, h2, h3, h4⟩ := IsL.foc (k := k) x2 (by simpa using h)
    refine ⟨u, Ak, B ++ R, by simpa using h1, h2, ?_, fun F' H' d' v' Ak' s n1 n2 y => ?_⟩
    · refine (List.Perm.append_left B h3).trans ?_
      rw [← List.append_assoc, ← List.append_assoc]
      exact List.Perm.append_right R List.perm_append_comm
    · obtain ⟨A', h5, h6⟩ := h4 F' H' d' v' Ak' s (fun a ha => n1 a (List.mem_append_right _ ha)) (fun a ha => n2 a (List.mem_append_right _ ha)) y
      refine ⟨B ++ A', ?_, ?_⟩
      · simp only [List.set_cons_succ, IsL]
        exact ⟨v, _, B, A', rfl, rfl, Is.frame s (fun a ha => n1 a (List.mem_append_left _ ha)) (fun a ha => n2 a (List.mem_append_left _ ha)) x1, h5⟩
      · refine (List.Perm.append_left B h6).trans ?_
        rw [← List.append_assoc, ← List.append_assoc]
        exact List.Perm.append_right R List.perm_append_comm
theorem set_same' {α : Type} {xs : List α} {i : Nat} {o : α} (h : xs[i]? = some o) : xs.set i o = xs := by
  refine List.ext_getElem? fun j => ?_
  rw [List.getElem?_set]
  split
  · rename_i q; subst q
    rw [if_pos (lt_of_get h)]; exact h.symm
  · rfl
theorem Is.foc {F H : Hp} : ∀ {ks : List Nat} {d : D} {m : Nat} {v : V} {A : List Addr} {m0 : Nat} {d0 : D}, Is F H d m v A → Same F H → getP m d ks = some (m0, d0) → ∃ v0 A0 R, walkV H v ks v0 ∧ Is F H d0 m0 v0 A0 ∧ A.Perm (A0 ++ R) ∧
    ∀ F' H' d' A0', Same F F' → (∀ a ∈ R, F' a = none) → (∀ a ∈ R, H' a = H a) → Is F' H' d' m0 v0 A0' → ∃ A', Is F' H' (setP d d' ks) m v A' ∧ A'.Perm (A0' ++ R)
  | [], d, m, v, A, m0, d0, x, sm, h => by
    simp only [getP, Option.some.injEq, Prod.mk.injEq] at h
    obtain ⟨rfl, rfl⟩ := h
    exact ⟨v, A, [], rfl, x, by rw [List.append_nil], fun F' H' d' A0' _ _ _ y => ⟨A0', y, by rw [List.append_nil]⟩⟩
  | k :: ks, .lst ds, m + 1, v, A, m0, d0, x, sm, h => by
    simp only [getP] at h
    cases hk : ds[k]? with
    | none => simp [hk] at h
    | some c =>
      simp only [hk] at h
      simp only [Is] at x
      obtain ⟨a, vs, B, rfl, rfl, fa, ha, r⟩ := x
      obtain ⟨u, Ak, R, h1, h2, h3, h4⟩ := r.foc hk
      obtain ⟨v0, A0, R0, w0, i0, p0, k0⟩ := Is.foc (ks := ks) h2 sm h
      refine ⟨v0, A0, a :: (R0 ++ R), ?_, i0, ?_, fun F' H' d' A0' s n1 n2 y => ?_⟩
      · simp only [walkV]; exact ⟨a, vs, u, rfl, .inl ha, h1, w0⟩
      · refine (List.Perm.cons a (h3.trans (List.Perm.append_right R p0))).trans ?_
        rw [List.append_assoc]
        exact List.perm_middle.symm
      · obtain ⟨A', i1, p1⟩ := k0 F' H' d' A0' s (fun b hb => n1 b (by simp [hb])) (fun b hb => n2 b (by simp [hb])) y
        obtain ⟨A2, i2, p2⟩ := h4 F' H' (setP c d' ks) u A' s (fun b hb => n1 b (by simp [hb])) (fun b hb => n2 b (by simp [hb])) i1
        rw [set_same' h1] at i2
        refine ⟨a :: A2, ?_, ?_⟩
        · simp only [setP, hk, Is]
          exact ⟨a, vs, A2, rfl, rfl, n1 a (by simp), (n2 a (by simp)).trans ha, i2⟩
        · refine (List.Perm.cons a (p2.trans (List.Perm.append_right R p1))).trans ?_
          rw [List.append_assoc]
          exact List.perm_middle.symm
  | k :: ks, .tup ds, m, v, A, m0, d0, x, sm, h => by
    have h : (match ds[k]? with | some c => getP m c ks | none => none) = some (m0, d0) := by
      cases m <;> simpa only [getP] using h
    cases hk : ds[k]? with
    | none => simp [hk] at h
    | some c =>
      simp only [hk] at h
      simp only [Is] at x
      obtain ⟨a, vs, rfl, fa, r⟩ := x
      obtain ⟨u, Ak, R, h1, h2, h3, h4⟩ := r.foc hk
      obtain ⟨v0, A0, R0, w0, i0, p0, k0⟩ := Is.foc (ks := ks) h2 sm h
      refine ⟨v0, A0, R0 ++ R, ?_, i0, ?_, fun F' H' d' A0' s n1 n2 y => ?_⟩
      · simp only [walkV]; exact ⟨a, vs, u, rfl, .inr (sm _ _ fa), h1, w0⟩
      · rw [← List.append_assoc]; exact h3.trans (List.Perm.append_right R p0)
      · obtain ⟨A', i1, p1⟩ := k0 F' H' d' A0' s (fun b hb => n1 b (by simp [hb])) (fun b hb => n2 b (by simp [hb])) y
        obtain ⟨A2, i2, p2⟩ := h4 F' H' (setP c d' ks) u A' s (fun b hb => n1 b (by simp [hb])) (fun b hb => n2 b (by simp [hb])) i1
        rw [set_same' h1] at i2
        refine ⟨A2, ?_, ?_⟩
        · simp only [setP, hk, Is]
          exact ⟨a, vs, rfl, s _ _ fa, i2⟩
        · rw [← List.append_assoc]; exact p2.trans (List.Perm.append_right R p1)
  | _ :: _, .lst _, 0, _, _, _, _, _, _, h => by simp [getP] at h
  | _ :: _, .non, _, _, _, _, _, _, _, h => by simp [getP] at h
  | _ :: _, .bl _, _, _, _, _, _, _, _, h => by simp [getP] at h
  | _ :: _, .int _, _, _, _, _, _, _, _, h => by simp [getP] at h
  | _ :: _, .str _, _, _, _, _, _, _, _, h => by simp [getP] at h
  | _ :: _, .dic _, _, _, _, _, _, _, _, h => by simp [getP] at h
  | _ :: _, .scr _ _, _, _, _, _, _, _, _, h => by simp [getP] at h
/-- the list at a path of slot i is changed -/
theorem Got.putP {q : Bool} {F H F1 H1 : Hp} {e e1 : Sl} {σ : St} {A A1 C : List Addr} {i m m0 : Nat} {d : D} {ds : List D} {ks : List Nat} (g : Got q F H e σ A F1 H1 e1 A1 C) (hC : ∀ a ∈ C, F1 a = none ∧ ∃ o, H1 a = some o ∧ ∀ vs, o ≠ .tup vs)
    (hi : e1[i]? = some (some (m, d))) (hp : getP m d ks = some (m0 + 1, .lst ds)) : ∃ v p vs B0, σ[i]? = some (some v) ∧ walkV H1 v ks (.ref p) ∧ H1 p = some (.lst vs) ∧ F1 p = none ∧ IsL F1 H1 ds m0 vs B0 ∧ (p :: (B0 ++ C)).Nodup ∧
      ∀ ds' vs' B' C', IsL F1 (upd H1 p (.lst vs')) ds' m0 vs' B' → (∀ a ∈ B' ++ C', a ∈ B0 ++ C) → (B' ++ C').Nodup → ∃ A2, Got false F H e σ A F1 (upd H1 p (.lst vs')) (e1.set i (some (m, setP d (.lst ds') ks))) A2 C' := by
  obtain ⟨v, B1, C1, h1, h2, h3, h4, g4⟩ := g.rel.take hi
  obtain ⟨v0, A0, R, w0, i0, p0, k0⟩ := Is.foc h2 g.rel.sm hp
  have i0' := i0
  simp only [Is] at i0'
  obtain ⟨p, vs, B0, rfl, rfl, fp, hpH, hL⟩ := i0'
  have gt := g.loud.trans g4 hC
  simp only [Bool.and_self] at gt
  obtain ⟨n1, n2, n3⟩ := nodup_app.mp gt.nd
  obtain ⟨m1, m2, m3⟩ := nodup_app.mp n2
  have nB1 := nodup_app.mp (p0.nodup_iff.mp m2)
  have inB : ∀ a ∈ p :: B0, a ∈ B1 := fun a h => p0.mem_iff.mpr (List.mem_append_left _ h)
  have inR : ∀ a ∈ R, a ∈ B1 := fun a h => p0.mem_iff.mpr (List.mem_append_right _ h)
  obtain ⟨npB0, nB0⟩ := List.nodup_cons.mp nB1.1
  have npC : p ∉ C := fun h => m3 p h (inB p (by simp))
  refine ⟨v, p, vs, B0, h1, w0, hpH, fp, hL, ?_, fun ds' vs' B' C' iL sub nd => ?_⟩
  · refine List.nodup_cons.mpr ⟨fun h => ?_, nodup_app.mpr ⟨nB0, m1, fun a h z => m3 a z (inB a (List.mem_cons_of_mem _ h))⟩⟩
    rcases List.mem_append.mp h with h | h
    · exact npB0 h
    · exact npC h
  · have gw := gt.write (o' := .lst vs') (List.mem_append_right C (inB p (by simp))) hpH (fun vs z => by cases z) fp
    have sub' : ∀ a ∈ p :: B' ++ C', a ∈ (p :: B0) ++ C := fun a h => by
      rw [List.cons_append, List.mem_cons] at h ⊢
      exact h.imp id (sub a)
    have npB : p ∉ B' ++ C' := fun h => by
      rcases List.mem_append.mp (sub p h) with z | z
      · exact npB0 z
      · exact npC z
    obtain ⟨nd1, nd2, nd3⟩ := nodup_app.mp nd
    have inN : ∀ a ∈ p :: B' ++ C', a ∈ C ++ B1 := fun a h => by
      rcases List.mem_append.mp (sub' a h) with z | z
      · exact List.mem_append_right _ (inB a z)
      · exact List.mem_append_left _ z
    have nR : ∀ a ∈ R, a ∉ p :: B' ++ C' := fun a h z => by
      rcases List.mem_append.mp (sub' a z) with z | z
      · exact nB1.2.2 a z h
      · exact m3 a z (inR a h)
    obtain ⟨A', iA, pA⟩ := k0 F1 (upd H1 p (.lst vs')) (.lst ds') (p :: B') (Same.refl _) (fun a h => (Is.own h2 a (inR a h)).1) (fun a h => upd_ne fun z => nR a h (by rw [z]; simp)) (by simp only [Is]; exact ⟨p, vs', B', rfl, rfl, fp, upd_same, iL⟩)
    have ndA' : A'.Nodup := pA.nodup_iff.mpr (nodup_app.mpr ⟨List.nodup_cons.mpr ⟨fun h => npB (List.mem_append_left _ h), nd1⟩, nB1.2.1, fun a h z => nR a z (List.mem_append_left _ h)⟩)
    have inA' : ∀ a ∈ A', a ∈ C ++ B1 := fun a h => by
      rcases List.mem_append.mp (pA.mem_iff.mp h) with z | z
      · exact inN a (List.mem_append_left _ z)
      · exact List.mem_append_right _ (inR a z)
    have dis : ∀ a ∈ C1, a ∉ A' := fun a h z => n3 a h (inA' a z)
    obtain ⟨A2, R2, pA2⟩ := Rel.put (F := F1) (H := upd H1 p (.lst vs')) (e := e1) (σ := σ) (A := C1) (i := i) gw.rel (lt_of_get hi) iA (nodup_app.mpr ⟨gw.rel.nd, ndA', dis⟩)
    rw [set_same h1] at R2
    refine ⟨A2, ⟨?_, (fun z => by cases z), R2, nodup_app.mpr ⟨R2.nd, nd2, fun a h z => ?_⟩⟩⟩
    · simp only [Bool.false_eq_true, if_false]
      have st := gw.step
      refine st.sub fun a h => ?_
      rcases List.mem_append.mp h with h | h
      · rcases List.mem_append.mp (pA2.mem_iff.mp h) with h | h
        · exact List.mem_append_right _ (inA' a h)
        · exact List.mem_append_left _ h
      · exact List.mem_append_right _ (inN a (List.mem_append_right _ h))
    · rcases List.mem_append.mp (pA2.mem_iff.mp h) with h | h
      · rcases List.mem_append.mp (pA.mem_iff.mp h) with h | h
        · rcases List.mem_cons.mp h with rfl | h
          · exact npB (List.mem_append_right _ z)
          · exact nd3 a h z
        · exact nR a h (List.mem_append_right _ z)
      · exact n3 a h (inN a (List.mem_append_right _ z))
end AR

set_option Elab.async false
set_option linter.all false
set_option maxRecDepth 100000
namespace AR
open PySem PySem.Spec PyProof.Rows L2

/-! ### the receiver of a method, of a store: a slot and a path -/
theorem getP_append {ls : List Nat} : ∀ {ks : List Nat} {m : Nat} {d : D}, getP m d (ks ++ ls) = (getP m d ks).bind fun x => getP x.1 x.2 ls
  | [], m, d => by simp [getP]
  | k :: ks, m, d => by
    rw [List.cons_append]
    cases d with
    | lst ds =>
      cases m with
      | zero => simp [getP]
      | succ m =>
        simp only [getP]
        cases ds[k]? with
        | none => rfl
        | some c => exact getP_append
    | tup ds =>
      have e : ∀ xs, getP m (.tup ds) (k :: xs) = (match ds[k]? with | some c => getP m c xs | none => none) := fun xs => by cases m <;> simp only [getP] <;> cases ds[k]? <;> rfl
      rw [e, e]
      cases ds[k]? with
      | none => rfl
      | some c => exact getP_append
    | _ => simp [getP]
def RSem (mg : Str → Option Value) (W : WX) (i : Nat) (t : TE) (s : Sl → Option (List Nat)) : Prop := ∀ F H e σ A Q ks m d m0 d0, Rel F H e σ A → e[i]? = some (some (m, d)) → s e = some ks → getP m d ks = some (m0, d0) →
  (∀ F' H' v u, Got true F H e σ A F' H' e A [] → σ[i]? = some (some v) → walkV H' v ks u → Q u H') → t σ H Q
structure RV (X : Cx) (W : WX) (i : Nat) (x : Expr) (t : TE) (s : Sl → Option (List Nat)) : Prop where
  pe : PE X x t
  se : RSem X.mg W i t s
def ixOf (sb : M Rv) (e : Sl) : Option Int := match sb e with
  | .ok r _ => r.2.toI
  | _ => none
def natI (i : Int) : Option Nat := if 0 ≤ i then some i.toNat else none
def rIxP (s : Sl → Option (List Nat)) (sb : M Rv) (e : Sl) : Option (List Nat) := (s e).bind fun ks => ((ixOf sb e).bind natI).map fun k => ks ++ [k]
section
variable {X : Cx} {W : WX} {q qa qb : Bool} {a b x : Expr} {ta tb t : TE} {sa sb : M Rv} {pos : Pos} {i : Nat} {s : Sl → Option (List Nat)} {p : Pin}
theorem rv_name (i : Nat) {x : Str} {pos : Pos} (hN : X.N[i]? = some x := by rfl) (hv : Vis X.env.scope x := by first | exact Or.inl rfl | exact Or.inr (Or.inl rfl) | exact Or.inr (Or.inr rfl)) (hd : (x == ("__debug__" : Str)) = false := by decide)
    (hcd : (x == ("__classdict__" : Str)) = false := by decide) : RV X W i (.Name x pos) (tVar i) (fun _ => some []) := by
  refine ⟨pe_var hN hv hd hcd, fun F H e σ A Q ks m d m0 d0 R hi hs hg k => ?_⟩
  obtain ⟨v, B, C, h1, _⟩ := R.sl.get hi
  obtain rfl := Option.some.inj hs
  exact ⟨v, h1, k F H v v (Got.refl R) h1 rfl⟩
theorem ixOf_some {F H : Hp} {e : Sl} {σ : St} {A : List Addr} {mg : Str → Option Value} {Q : VK} {j : Int} (h : SX mg W IsR true tb sb) (R : Rel F H e σ A) (hj : ixOf sb e = some j) (k : ∀ F' H', Got true F H e σ A F' H' e A [] → Q (.int j) H') : tb σ H Q := by
  refine h F H e σ A Q R ?_
  unfold ixOf at hj
  cases hs : sb e with
  | bad => rw [hs] at hj; cases hj
  | exc c e1 => rw [hs] at hj; cases hj
  | ok r e1 =>
    rw [hs] at hj
    intro F' H' A' B v g y
    obtain ⟨rfl, rfl⟩ := g.qt rfl
    have := (IsR.read g.rel.sm y).int hj
    subst this
    exact k F' H' (g.sub (List.nil_sublist _))
theorem IsL.getV {F H : Hp} {ds : List D} {m : Nat} {vs : List V} {B : List Addr} {k : Nat} {c : D} (x : IsL F H ds m vs B) (h : ds[k]? = some c) : ∃ w, vs[k]? = some w := by
  obtain ⟨v, _, _, h1, _⟩ := x.foc h
  exact ⟨v, h1⟩
theorem atI_of {α : Type} {xs : List α} {j : Int} {k : Nat} {w : α} (hj : natI j = some k) (h : xs[k]? = some w) : atI xs j = some w := by
  unfold natI at hj
  split at hj
  · rename_i h0
    obtain rfl := Option.some.inj hj
    have := lt_of_get h
    unfold atI ixN
    rw [if_pos h0, if_pos (by omega)]
    exact h
  · cases hj
theorem rv_ix (hr : RV X W i x t s) (hb : EV X W true b tb sb) (hs : PlainIx b := by exact fun _ _ => rfl) {K : PySem.W.Frag} (hK : X.K = K := by rfl) : RV X W i (.Subscript x b pos) (tOp (rIx K) t tb) (rIxP s sb) := by
  subst hK
  refine ⟨pe_ix ix_seq hr.pe hb.pe hs, fun F H e σ A Q ks m d m0 d0 R hi hk hg k => ?_⟩
  unfold rIxP at hk
  cases h1 : s e with
  | none => rw [h1] at hk; cases hk
  | some ls =>
    rw [h1] at hk
    cases h2 : ixOf sb e with
    | none => rw [h2] at hk; cases hk
    | some j =>
      rw [h2] at hk
      cases h3 : natI j with
      | none => simp [h3] at hk
      | some n =>
        simp only [h3, Option.bind_some, Option.map_some, Option.some.injEq] at hk
        subst hk
        rw [getP_append] at hg
        cases h4 : getP m d ls with
        | none => rw [h4] at hg; cases hg
        | some md =>
          obtain ⟨m1, d1⟩ := md
          rw [h4] at hg
          simp only [Option.bind_some] at hg
          refine hr.se F H e σ A _ ls m d m1 d1 R hi h1 h4 fun F1 H1 v u g1 hv hw => ?_
          refine ixOf_some hb.se g1.rel h2 fun F2 H2 g2 => ?_
          have gg : Got true F H e σ A F2 H2 e A [] := by simpa using g1.trans g2 (fun a h => by cases h)
          have s12 : Same H1 H2 := fun a o e => by
            have st := g2.st
            simp only [if_true] at st
            exact st.kp a o e (by simp)
          obtain ⟨v', B, C, hv', hi', _⟩ := gg.rel.sl.get hi
          have ev : v' = v := by rw [hv] at hv'; exact (Option.some.inj (Option.some.inj hv')).symm
          subst ev
          obtain ⟨v0, A0, R0, w0, i0, _⟩ := Is.foc hi' gg.rel.sm h4
          have eu := (hw.mono s12).det w0
          subst eu
          cases d1 with
          | lst ds =>
            cases m1 with
            | zero => simp [getP] at hg
            | succ m1 =>
              simp only [getP] at hg
              cases hc : ds[n]? with
              | none => simp [hc] at hg
              | some c =>
                simp only [Is] at i0
                obtain ⟨p, vs, B', rfl, _, _, hp, hL⟩ := i0
                obtain ⟨w, hw'⟩ := hL.getV hc
                exact .inl ⟨p, vs, j, w, rfl, rfl, .inl (.inl hp), atI_of h3 hw', k F2 H2 v' w gg hv (w0.snoc rfl (.inl hp) hw')⟩
          | tup ds =>
            cases hc : ds[n]? with
            | none => cases m1 <;> simp [getP, hc] at hg
            | some c =>
              simp only [Is] at i0
              obtain ⟨p, vs, rfl, hp, hL⟩ := i0
              have hp := gg.rel.sm _ _ hp
              obtain ⟨w, hw'⟩ := hL.getV hc
              exact .inr (.inl ⟨p, vs, j, w, rfl, rfl, .inl (.inl hp), atI_of h3 hw', k F2 H2 v' w gg hv (w0.snoc rfl (.inr hp) hw')⟩)
          | _ => simp [getP] at hg
def slotAt (i : Nat) (ks : List Nat) (e : Sl) : Option (Nat × D × Nat × List D) := match e[i]? with
  | some (some (m, d)) => (match getP m d ks with
    | some (m0 + 1, .lst ds) => some (m, d, m0, ds)
    | _ => none)
  | _ => none
theorem slotAt_some {i : Nat} {ks : List Nat} {e : Sl} {m m0 : Nat} {d : D} {ds : List D} (h : slotAt i ks e = some (m, d, m0, ds)) : e[i]? = some (some (m, d)) ∧ getP m d ks = some (m0 + 1, .lst ds) := by
  unfold slotAt at h
  split at h
  · rename_i m' d' h1
    split at h
    · rename_i m0' ds' h2
      simp only [Option.some.injEq, Prod.mk.injEq] at h
      obtain ⟨rfl, rfl, rfl, rfl⟩ := h
      exact ⟨h1, h2⟩
    · cases h
  · cases h
/-- the receiver is a list: it is found, then args are done, then it stands there still -/
def sRecv (i : Nat) (s : Sl → Option (List Nat)) (qa : Bool) (sa : M (List Rv)) (f : List Nat → List Rv → Nat → List D → Option (Rv × List D)) : M Rv := fun e => match s e with
  | none => .bad
  | some ks => match slotAt i ks e with
    | none => .bad
    | some _ => if (qa || ks.isEmpty) = true then mbind sa (fun rs e1 => match slotAt i ks e1 with
      | none => .bad
      | some (m, d, m0, ds) => (match f ks rs m0 ds with
        | some (r, ds') => .ok r (e1.set i (some (m, setP d (.lst ds') ks)))
        | none => .bad)) e else .bad
/-- what a list's method does, by data -/
def MtSem (r : V → List V → Hp → VK → Prop) (f : List Nat → List Rv → Nat → List D → Option (Rv × List D)) : Prop := ∀ {q : Bool} {F H : Hp} {e : Sl} {σ : St} {A : List Addr} {F1 H1 : Hp} {e1 : Sl} {A1 B : List Addr} {i m m0 : Nat} {d : D} {ds ds' : List D} {ks : List Nat} {v : V} {vs : List V} {p : Addr} {rs : List Rv} {x : Rv} {Q : VK},
  Got q F H e σ A F1 H1 e1 A1 B → IsRs F1 H1 rs vs B → e1[i]? = some (some (m, d)) → getP m d ks = some (m0 + 1, .lst ds) → σ[i]? = some (some v) → walkV H1 v ks (.ref p) → f ks rs m0 ds = some (x, ds') →
  (∀ F' H' A' E u, Got false F H e σ A F' H' (e1.set i (some (m, setP d (.lst ds') ks))) A' E → IsR F' H' x u E → Q u H') → r (.ref p) vs H1 Q
theorem SX.recv {mg : Str → Option Value} {K : PySem.W.Frag} {tr : TE} {tA : TA} {sA : M (List Rv)} {r : V → List V → Hp → VK → Prop} {f : List Nat → List Rv → Nat → List D → Option (Rv × List D)} (hf : MtSem r f) (hr : RSem mg W i tr s) (ha : SX mg W IsRs qa tA sA) :
    SX mg W IsR false (tBM K "list" r tr tA) (sRecv i s qa sA f) := fun F H e σ A Q R pq => by
  unfold sRecv at pq
  cases h1 : s e with
  | none => rw [h1] at pq; exact pq.elim
  | some ks =>
    rw [h1] at pq
    dsimp only at pq
    cases h2 : slotAt i ks e with
    | none => rw [h2] at pq; exact pq.elim
    | some y =>
      obtain ⟨m, d, m0, ds⟩ := y
      rw [h2] at pq
      dsimp only at pq
      obtain ⟨hi, hg⟩ := slotAt_some h2
      split at pq
      · rename_i hq
        refine hr F H e σ A _ ks m d _ _ R hi h1 hg fun F1 H1 v u g1 hv hw => ?_
        have eu : ∃ p xs, u = .ref p ∧ H1 p = some (.lst xs) := by
          obtain ⟨v', p, vs, B0, hv', hw', hp, _⟩ := g1.putP (fun a h => by cases h) hi hg
          have ev : v' = v := by rw [hv] at hv'; exact (Option.some.inj (Option.some.inj hv')).symm
          subst ev
          exact ⟨p, vs, hw.det hw', hp⟩
        obtain ⟨p, xs, rfl, hp⟩ := eu
        refine ⟨.inl ⟨rfl, xs, .inl (.inl hp)⟩, ha F1 H1 e σ A _ g1.rel ?_⟩
        unfold mbind at pq
        cases hs : sA e with
        | bad => rw [hs] at pq; exact pq
        | exc c e1 =>
          rw [hs] at pq
          exact fun F' H' A' g => pq F' H' A' (by simpa using (g1.loud.trans g (fun a h => by cases h)).loud)
        | ok rs e1 =>
          rw [hs] at pq
          dsimp only at pq
          intro F2 H2 A2 B vs g2 y
          have gg : Got qa F H e σ A F2 H2 e1 A2 B := by simpa using g1.trans g2 (fun a h => by cases h)
          have hw2 : walkV H2 v ks (.ref p) := by
            cases ks with
            | nil => exact hw
            | cons k ks =>
              have hqa : qa = true := by simpa using hq
              subst hqa
              have st := g2.st
              simp only [if_true] at st
              exact hw.mono fun a o e => st.kp a o e (by simp)
          cases h3 : slotAt i ks e1 with
          | none => rw [h3] at pq; exact pq.elim
          | some z =>
            obtain ⟨m', d', m0', ds1⟩ := z
            rw [h3] at pq
            dsimp only at pq
            obtain ⟨hi1, hg1⟩ := slotAt_some h3
            cases h4 : f ks rs m0' ds1 with
            | none => rw [h4] at pq; exact pq.elim
            | some w =>
              obtain ⟨x, ds'⟩ := w
              rw [h4] at pq
              exact hf gg y hi1 hg1 hv hw2 h4 fun F' H' A' E u g' x' => pq F' H' A' E u g' x'
      · exact pq.elim
theorem SX.recv0 {mg : Str → Option Value} {K : PySem.W.Frag} {tr : TE} {r : V → List V → Hp → VK → Prop} {f : List Nat → List Rv → Nat → List D → Option (Rv × List D)} (hf : MtSem r f) (hr : RSem mg W i tr s) :
    SX mg W IsR false (tBM0 K "list" r tr) (sRecv i s true (mret []) f) := by
  have h := SX.recv (K := K) (tA := tNil) (sA := mret []) hf hr (W := W) (qa := true) (fun F H e σ A Q R p => p F H A [] [] (Got.refl R) (by simp only [IsRs]; exact ⟨trivial, trivial⟩))
  exact h
/-! append -/
def fAppend (ks : List Nat) (rs : List Rv) (m0 : Nat) (ds : List D) : Option (Rv × List D) := match rs with
  | [r] => if (accOk m0 r && decide (ds.length < 1000000)) = true then some ((some 0, .non), ds ++ [r.2]) else none
  | _ => none
theorem m_append : MtSem rAppend fAppend := by
  intro q F H e σ A F1 H1 e1 A1 B i m m0 d ds ds' ks v vs p rs x Q g y hi hg hv hw hf k
  unfold fAppend at hf
  split at hf
  · rename_i r
    split at hf
    · rename_i ok
      simp only [Bool.and_eq_true, decide_eq_true_eq] at ok
      simp only [Option.some.injEq, Prod.mk.injEq] at hf
      obtain ⟨rfl, rfl⟩ := hf
      obtain ⟨u, rfl, y1⟩ := y.one
      obtain ⟨F2, C, g2, iC⟩ := g.asM ok.1 y1
      obtain ⟨v', p', vs0, B0, hv', hw', hp, fp, hL, nd, kk⟩ := g2.putP (Is.own iC) hi hg
      have ev : v' = v := by rw [hv] at hv'; exact (Option.some.inj (Option.some.inj hv')).symm
      subst ev
      have ep := hw.det hw'
      cases ep
      obtain ⟨nd1, nd2⟩ := List.nodup_cons.mp nd
      have ne : ∀ a ∈ B0 ++ C, a ≠ p := fun a h z => nd1 (z ▸ h)
      have x1 := IsL.append hL (show IsL F2 H1 [r.2] m0 [u] C by simp only [IsL]; exact ⟨u, [], C, [], rfl, by simp, iC, rfl, rfl⟩)
      obtain ⟨A2, g3⟩ := kk (ds ++ [r.2]) (vs0 ++ [u]) (B0 ++ C) [] (IsL.frame (Same.refl _) (fun a h => (IsL.own x1 a h).1) (fun a h => upd_ne (ne a h)) x1) (fun a h => by simpa using h) (by simpa using nd2)
      refine ⟨p, vs0, u, rfl, rfl, hp, ?_, k _ _ A2 [] _ g3 (Fz.is (by simp only [Fz]))⟩
      rw [hL.length]
      have := sizeMil
      omega
    · cases hf
  · cases hf
/-! pop -/
theorem IsL.erase {F H : Hp} {m : Nat} : ∀ {ds : List D} {vs : List V} {A : List Addr} {k : Nat} {d : D}, IsL F H ds m vs A → ds[k]? = some d → ∃ v Ak R, vs[k]? = some v ∧ Is F H d m v Ak ∧ A.Perm (Ak ++ R) ∧ IsL F H (ds.eraseIdx k) m (vs.eraseIdx k) R
  | [], _, _, _, _, _, h => by simp at h
  | d :: ds, _, _, 0, _, x, h => by
    simp only [IsL] at x
    obtain ⟨v, r, B, C, rfl, rfl, x1, x2⟩ := x
    simp at h
    subst h
    exact ⟨v, B, C, rfl, x1, List.Perm.refl _, x2⟩
  | d :: ds, _, _, k + 1, _, x, h => by
    simp only [IsL] at x
    obtain ⟨v, r, B, C, rfl, rfl, x1, x2⟩ := x
    obtain ⟨u, Ak, R, h1, h2, h3, h4⟩ := IsL.erase (k := k) x2 (by simpa using h)
    refine ⟨u, Ak, B ++ R, by simpa using h1, h2, ?_, ?_⟩
    · refine (List.Perm.append_left B h3).trans ?_
      rw [← List.append_assoc, ← List.append_assoc]
      exact List.Perm.append_right R List.perm_append_comm
    · simp only [List.eraseIdx_cons_succ, IsL]
      exact ⟨v, _, B, R, rfl, rfl, x1, h4⟩
/-- the k-th is taken out -/
theorem Got.popP {q : Bool} {F H : Hp} {e : Sl} {σ : St} {A : List Addr} {F1 H1 : Hp} {e1 : Sl} {A1 : List Addr} {i m m0 : Nat} {d c : D} {ds : List D} {ks : List Nat} {v : V} {p : Addr} {k : Nat} {Q : VK} (g : Got q F H e σ A F1 H1 e1 A1 []) (hi : e1[i]? = some (some (m, d))) (hg : getP m d ks = some (m0 + 1, .lst ds)) (hv : σ[i]? = some (some v)) (hw : walkV H1 v ks (.ref p)) (hc : ds[k]? = some c)
    (kk : ∀ F' H' A' E u, Got false F H e σ A F' H' (e1.set i (some (m, setP d (.lst (ds.eraseIdx k)) ks))) A' E → IsR F' H' (some m0, c) u E → Q u H') : ∃ vs u, H1 p = some (.lst vs) ∧ vs.length = ds.length ∧ vs[k]? = some u ∧ Q u (upd H1 p (.lst (vs.eraseIdx k))) := by
  obtain ⟨v', p', vs0, B0, hv', hw', hp, fp, hL, nd, pp⟩ := g.putP (fun a h => by cases h) hi hg
  have ev : v' = v := by rw [hv] at hv'; exact (Option.some.inj (Option.some.inj hv')).symm
  subst ev
  have ep := hw.det hw'
  cases ep
  obtain ⟨u, Ak, R, h1, h2, h3, h4⟩ := hL.erase hc
  rw [List.append_nil] at nd
  obtain ⟨nd1, nd2⟩ := List.nodup_cons.mp nd
  have nd3 : (Ak ++ R).Nodup := h3.nodup_iff.mp nd2
  have ne : ∀ a ∈ Ak ++ R, a ≠ p := fun a h z => nd1 (z ▸ h3.mem_iff.mpr h)
  obtain ⟨A2, g3⟩ := pp (ds.eraseIdx k) (vs0.eraseIdx k) R Ak (IsL.frame (Same.refl _) (fun a h => (IsL.own h4 a h).1) (fun a h => upd_ne (ne a (List.mem_append_right _ h))) h4) (fun a h => by
    rw [List.append_nil]
    exact h3.mem_iff.mpr (List.mem_append.mpr (List.mem_append.mp h).symm)) (List.perm_append_comm.nodup_iff.mp nd3)
  refine ⟨vs0, u, hp, hL.length, h1, kk _ _ A2 Ak u g3 ?_⟩
  exact Is.frame (Same.refl _) (fun a h => (Is.own h2 a h).1) (fun a h => upd_ne (ne a (List.mem_append_left _ h))) h2
def fPop (ks : List Nat) (rs : List Rv) (m0 : Nat) (ds : List D) : Option (Rv × List D) := match rs with
  | [] => (ds[ds.length - 1]?).map fun c => ((some m0, c), ds.eraseIdx (ds.length - 1))
  | _ => none
theorem dropLast_erase {α : Type} : ∀ (xs : List α), xs.dropLast = xs.eraseIdx (xs.length - 1)
  | [] => rfl
  | [x] => rfl
  | x :: y :: xs => by
    rw [List.dropLast_cons_of_ne_nil (by simp), dropLast_erase (y :: xs)]
    simp
theorem m_pop : MtSem rPop fPop := by
  intro q F H e σ A F1 H1 e1 A1 B i m m0 d ds ds' ks v vs p rs x Q g y hi hg hv hw hf k
  unfold fPop at hf
  split at hf
  · simp only [IsRs] at y
    obtain ⟨rfl, rfl⟩ := y
    cases hc : ds[ds.length - 1]? with
    | none => rw [hc] at hf; cases hf
    | some c =>
      rw [hc] at hf
      simp only [Option.map_some, Option.some.injEq, Prod.mk.injEq] at hf
      obtain ⟨rfl, rfl⟩ := hf
      obtain ⟨vs, u, h1, h2, h3, h4⟩ := g.popP hi hg hv hw hc k
      refine ⟨p, vs, u, rfl, rfl, h1, by rw [h2]; exact h3, ?_⟩
      rw [dropLast_erase, h2]
      exact h4
  · cases hf
def fPopAt (ks : List Nat) (rs : List Rv) (m0 : Nat) (ds : List D) : Option (Rv × List D) := match rs with
  | [(_, .int j)] => if decide (ds.length ≤ 1000000) = true then (ixN ds.length j).bind fun k => (ds[k]?).map fun c => ((some m0, c), ds.eraseIdx k) else none
  | _ => none
theorem m_popAt : MtSem rPopAt fPopAt := by
  intro q F H e σ A F1 H1 e1 A1 B i m m0 d ds ds' ks v vs p rs x Q g y hi hg hv hw hf k
  unfold fPopAt at hf
  split at hf
  · rename_i k1 j
    split at hf
    · rename_i hl
      have hl := of_decide_eq_true hl
      obtain ⟨w, rfl, f⟩ := (IsRs.read g.rel.sm y).one
      simp only [Fz] at f
      subst f
      cases hx : ixN ds.length j with
      | none => rw [hx] at hf; cases hf
      | some n =>
        rw [hx] at hf
        simp only [Option.bind_some] at hf
        cases hc : ds[n]? with
        | none => rw [hc] at hf; cases hf
        | some c =>
          rw [hc] at hf
          simp only [Option.map_some, Option.some.injEq, Prod.mk.injEq] at hf
          obtain ⟨rfl, rfl⟩ := hf
          obtain ⟨vs, u, h1, h2, h3, h4⟩ := (g.sub (List.nil_sublist B)).popP hi hg hv hw hc k
          obtain ⟨s1, s2, s3, s4⟩ := ixN_seq hx
          exact ⟨p, vs, j, n, u, rfl, rfl, h1, by omega, by omega, by rw [h2]; exact s1, h3, h4⟩
    · cases hf
  · cases hf
/-! extend -/
def fExtend (ks : List Nat) (rs : List Rv) (m0 : Nat) (ds : List D) : Option (Rv × List D) := match rs with
  | [(k, .lst es)] => if (m0 == 0 && (k.isSome || depL es == 0) && decide (ds.length + es.length ≤ 1000000)) = true then some ((some 0, .non), ds ++ es) else none
  | _ => none
theorem m_extend : MtSem rExtend fExtend := by
  intro q F H e σ A F1 H1 e1 A1 B i m m0 d ds ds' ks v vs p rs x Q g y hi hg hv hw hf k
  unfold fExtend at hf
  split at hf
  · rename_i k1 es
    split at hf
    · rename_i ok
      simp only [Bool.and_eq_true, decide_eq_true_eq, beq_iff_eq] at ok
      obtain ⟨⟨rfl, ok1⟩, ok2⟩ := ok
      simp only [Option.some.injEq, Prod.mk.injEq] at hf
      obtain ⟨rfl, rfl⟩ := hf
      obtain ⟨u, rfl, y1⟩ := y.one
      obtain ⟨F2, b, zs, g2, s2, n2, rfl, hb, fz⟩ := Got.items (C := []) (by rw [List.append_nil]; exact g) y1 (fun a h => by cases h) ok1
      obtain ⟨v', p', vs0, B0, hv', hw', hp, fp, hL, nd, kk⟩ := g2.putP (fun a h => by cases h) hi hg
      have ev : v' = v := by rw [hv] at hv'; exact (Option.some.inj (Option.some.inj hv')).symm
      subst ev
      have ep := hw.det hw'
      cases ep
      rw [List.append_nil] at nd
      obtain ⟨nd1, nd2⟩ := List.nodup_cons.mp nd
      have ne : ∀ a ∈ B0, a ≠ p := fun a h z => nd1 (z ▸ h)
      have x1 := IsL.append hL (FzL.is (H := H1) fz)
      rw [List.append_nil] at x1
      obtain ⟨A2, g3⟩ := kk (ds ++ es) (vs0 ++ zs) B0 [] (IsL.frame (Same.refl _) (fun a h => (IsL.own x1 a h).1) (fun a h => upd_ne (ne a h)) x1) (fun a h => by simpa using h) (by simpa using nd2)
      refine ⟨p, b, vs0, zs, rfl, rfl, hp, hb, ?_, k _ _ A2 [] _ g3 (Fz.is (by simp only [Fz]))⟩
      rw [hL.length, fz.length]
      exact big ok2
    · cases hf
  · cases hf
end
section
variable {X : Cx} {W : WX} {q qa qb : Bool} {o a b x : Expr} {es : List Expr} {ta tb tr : TE} {t : TA} {sa sb : M Rv} {sA : M (List Rv)} {apos cpos : Pos} {i : Nat} {s : Sl → Option (List Nat)} {p : Pin} {r : V → List V → Hp → VK → Prop} {f : List Nat → List Rv → Nat → List D → Option (Rv × List D)} {name : Str} {id : String}
theorem ev_meth (slot : Slot "list" name id) (hty : typeOf (.builtin id) = pure (.type "method_descriptor")) (hm : MtR X id r) (hf : MtSem r f) (hr : RV X W i o tr s) (ha : AV X W qa (a :: es) t sA)
    (hbase : attributeBase o name X.env (eval o X.env) = eval o X.env := by rfl)
    (hfew : ((backTo cpos (starEach (a :: es) X.env)).all (fun x => !x.1) && (backToKw cpos (keywordEach [] X.env)).all (fun x => x.1.isSome)
      && decide ((a :: es).length + ([] : List Keyword).length + (if ([] : List Keyword).isEmpty then 0 else 1) < 30)) = true := by rfl)
    (hline : (apos.endLine == cpos.line) = true := by rfl) (hs : starEach (a :: es) X.env = (false, eval a X.env) :: starEach es X.env := by rfl) (hplain : (backTo cpos (starEach es X.env)).any (·.1) = false := by rfl) {K : PySem.W.Frag} (hK : X.K = K := by rfl) :
    EV X W false (.Call (.Attribute o name apos) (a :: es) [] cpos) (tBM K "list" r tr t) (sRecv i s qa sA f) := by
  subst hK; exact ⟨pe_bm PySem.F.plainAttrs_list slot hty hm hr.pe ha.pe hbase hfew hline hs hplain, SX.recv hf hr.se ha.se⟩
theorem ev_meth0 (slot : Slot "list" name id) (hty : typeOf (.builtin id) = pure (.type "method_descriptor")) (hm : MtR X id r) (hf : MtSem r f) (hr : RV X W i o tr s)
    (hbase : attributeBase o name X.env (eval o X.env) = eval o X.env := by rfl) (hline : (apos.endLine == cpos.line) = true := by rfl) {K : PySem.W.Frag} (hK : X.K = K := by rfl) :
    EV X W false (.Call (.Attribute o name apos) [] [] cpos) (tBM0 K "list" r tr) (sRecv i s true (mret []) f) := by
  subst hK; exact ⟨pe_bm0 PySem.F.plainAttrs_list slot hty hm hr.pe hbase hline, SX.recv0 hf hr.se⟩
end
end AR

set_option Elab.async false
set_option linter.all false
set_option maxRecDepth 100000
namespace AR
open PySem PySem.Spec PyProof.Rows L2

/-! ### o[i] = v -/
section
variable {X : Cx} {W : WX} {q qa qb : Bool} {o a b x : Expr} {es : List Expr} {te ta tb tr : TE} {t : TA} {se sa sb : M Rv} {sA : M (List Rv)} {pos spos : Pos} {i : Nat} {s : Sl → Option (List Nat)} {p : Pin} {mg : Str → Option Value}
def sSetI (i : Nat) (s : Sl → Option (List Nat)) (sb se : M Rv) : MS := mthen se fun r e1 => match s e1 with
  | none => .bad
  | some ks => match slotAt i ks e1 with
    | none => .bad
    | some (m, d, m0, ds) => match ixOf sb e1 with
      | none => .bad
      | some j => match ixN ds.length j with
        | none => .bad
        | some k => if accOk m0 r = true then .nx (e1.set i (some (m, setP d (.lst (ds.set k r.2)) ks))) else .bad
theorem SS.setI (he : SX mg W IsR q te se) (hr : RSem mg W i tr s) (hb : SX mg W IsR true tb sb) : SS mg W p (tAsg te (gSub tr tb rSetL)) (sSetI i s sb se) := by
  refine SX.thenS (T := fun v D σ H => gSub tr tb rSetL v σ H D.nx) he fun F H e σ A F1 H1 e1 A1 B r v D R gt x P pq => ?_
  cases h1 : s e1 with
  | none => rw [h1] at pq; exact pq.elim
  | some ks =>
    rw [h1] at pq
    dsimp only at pq
    cases h2 : slotAt i ks e1 with
    | none => rw [h2] at pq; exact pq.elim
    | some y =>
      obtain ⟨m, d, m0, ds⟩ := y
      rw [h2] at pq
      dsimp only at pq
      obtain ⟨hi, hg⟩ := slotAt_some h2
      cases h3 : ixOf sb e1 with
      | none => rw [h3] at pq; exact pq.elim
      | some j =>
        rw [h3] at pq
        dsimp only at pq
        cases h4 : ixN ds.length j with
        | none => rw [h4] at pq; exact pq.elim
        | some k =>
          rw [h4] at pq
          dsimp only at pq
          split at pq
          · rename_i hacc
            refine hr F1 H1 e1 σ A1 _ ks m d _ _ gt.rel hi h1 hg fun F2 H2 v1 u g2 hv hw => ?_
            refine ixOf_some hb g2.rel h3 fun F3 H3 g3 => ?_
            have g23 : Got true F1 H1 e1 σ A1 F3 H3 e1 A1 [] := by simpa using g2.trans g3 (fun a h => by cases h)
            have gg : Got q F H e σ A F3 H3 e1 A1 B := by simpa using gt.trans g23 (IsR.own x)
            have x3 := IsR.keep (r := r) (by simp [hold]) x g23 fun a h z => (nodup_app.mp gt.nd).2.2 a z h
            have st3 := g3.st
            simp only [if_true] at st3
            have hw3 : walkV H3 v1 ks u := hw.mono fun a o e => st3.kp a o e (by simp)
            obtain ⟨F4, C, g4, iC⟩ := gg.asM hacc x3
            obtain ⟨v', p', vs0, B0, hv', hw', hp, fp, hL, nd, kk⟩ := g4.putP (Is.own iC) hi hg
            have ev : v' = v1 := by rw [hv] at hv'; exact (Option.some.inj (Option.some.inj hv')).symm
            subst ev
            have ep := hw3.det hw'
            subst ep
            obtain ⟨nd1, nd2⟩ := List.nodup_cons.mp nd
            obtain ⟨_, hk, _, _⟩ := ixN_seq h4
            obtain ⟨c0, hc0⟩ : ∃ c, ds[k]? = some c := ⟨ds[k], by simp [hk]⟩
            obtain ⟨u0, Ak, R0, e1', e2', e3', e4'⟩ := hL.foc hc0
            obtain ⟨m1, m2, m3⟩ := nodup_app.mp nd2
            have nR := nodup_app.mp (e3'.nodup_iff.mp m1)
            have inR : ∀ a ∈ R0, a ∈ B0 := fun a h => e3'.mem_iff.mpr (List.mem_append_right _ h)
            have ne : ∀ a ∈ B0 ++ C, a ≠ p' := fun a h z => nd1 (z ▸ h)
            obtain ⟨A', i5, p5⟩ := e4' F4 (upd H3 p' (.lst (vs0.set k v))) r.2 v C (Same.refl _) (fun a h => (IsL.own hL a (inR a h)).1) (fun a h => upd_ne (ne a (List.mem_append_left _ (inR a h)))) (Is.frame (Same.refl _) (fun a h => (Is.own iC a h).1) (fun a h => upd_ne (ne a (List.mem_append_right _ h))) iC)
            obtain ⟨A2, g5⟩ := kk (ds.set k r.2) (vs0.set k v) A' [] i5 (fun a h => by
              rw [List.append_nil] at h
              rcases List.mem_append.mp (p5.mem_iff.mp h) with z | z
              · exact List.mem_append_right _ z
              · exact List.mem_append_left _ (inR a z)) (by
              rw [List.append_nil]
              exact p5.nodup_iff.mpr (nodup_app.mpr ⟨m2, nR.2.1, fun a h z => m3 a (inR a z) h⟩))
            refine ⟨p', vs0, j, k, rfl, rfl, hp, by rw [hL.length]; exact h4, ?_⟩
            have st5 := g5.step
            rw [List.append_nil] at st5
            exact pq _ _ σ A2 ⟨st5, g5.rel, P⟩
          · exact pq.elim
theorem sv_setI (he : EV X W q x te se) (hr : RV X W i o tr s) (hb : EV X W true b tb sb)
    (ha : ∀ v, assign (.Subscript o b pos) X.env v = (do
      let ov ← holding [v] (eval o X.env)
      let iv ← holding [v, ov] (eval b X.env)
      standAt pos
      holding [v, ov, iv] (setItem ov iv v)
      release [v, ov, iv] []) := by intro _; rfl)
    (hs : swapsWithSole [.Subscript o b pos] x spos.line X.env = pure false := by rfl) (hw : swappedStores [.Subscript o b pos] x X.env = pure none := by rfl) (h1 : (assignEach [.Subscript o b pos] X.env).map (·.2) = [assign (.Subscript o b pos) X.env] := by rfl) :
    SV X W p (.Assign [.Subscript o b pos] x spos) (tAsg te (gSub tr tb rSetL)) (sSetI i s sb se) := ⟨ps_asg he.pe (pg_sub hr.pe hb.pe set_list ha) hs hw h1, SS.setI he.se hr.se hb.se⟩
end

/-! ### a, b = x, y -/
section
variable {X : Cx} {W : WX} {q : Bool} {a b : Expr} {ta : TA} {sa : M (List Rv)} {p : Pin} {pos : Pos}
theorem sv_par {i j : Nat} {x y : Str} {px py pt : Pos} {kt k2 pt2} (hc : X.calm = true) (hN : X.N.Nodup) (hi : X.N[i]? = some x) (hj : X.N[j]? = some y) (hij : i ≠ j) (hx : X.env.scope.names.lookup x = some .local) (hy : X.env.scope.names.lookup y = some .local) (hpi : ∀ v, p ≠ some (i, v)) (hpj : ∀ v, p ≠ some (j, v)) (ha : AV X W q [a, b] ta sa)
    (hw : swappedStores [.Tuple [.Name x px, .Name y py] kt pt] (.Tuple [a, b] k2 pt2) X.env = pure (some [x, y])) (hs : swapsWithSole [.Tuple [.Name x px, .Name y py] kt pt] (.Tuple [a, b] k2 pt2) pos.line X.env = pure false := by rfl) :
    SV X W p (.Assign [.Tuple [.Name x px, .Name y py] kt pt] (.Tuple [a, b] k2 pt2) pos) (tPar i j ta) (sPar i j sa) := ⟨ps_par hc hN hi hj hij hx hy ha.pe hw hs, SS.par hij hpi hpj ha.se⟩
end

/-! ### x op= e, numbers -/
section
variable {X : Cx} {W : WX} {q : Bool} {x : Expr} {te : TE} {se : M Rv} {p : Pin} {pos py : Pos} {mg : Str → Option Value}
def sAug (i : Nat) (f : Int → Int → Option Int) (se : M Rv) : MS := fun e0 => match ixOf (sName i) e0 with
  | none => .bad
  | some u => mthen se (fun r e => match r.2.toI with
    | some w => (match f u w with
      | some z => if i < e.length then .nx (e.set i (some (0, .int z))) else .bad
      | none => .bad)
    | none => .bad) e0
def ipC (f : Int → Int → Option Int) : TIp := fun x y H Q => ∃ i j z, x = .int i ∧ y = .int j ∧ f i j = some z ∧ Q (.int z) H
theorem SS.aug {i : Nat} {f : Int → Int → Option Int} (hp : ∀ v, p ≠ some (i, v)) (he : SX mg W IsR q te se) : SS mg W p (tAug i te (ipC f)) (sAug i f se) := fun F H e σ A D R P pq => by
  unfold sAug at pq
  cases h0 : ixOf (sName i) e with
  | none => rw [h0] at pq; exact pq.elim
  | some u =>
    rw [h0] at pq
    dsimp only at pq
    obtain ⟨v, hv, ev⟩ : ∃ v, σ[i]? = some (some v) ∧ v = .int u := by
      have := ixOf_some (W := W) (mg := mg) (Q := fun v _ => v = .int u) (SX.name (i := i)) R h0 (fun _ _ _ => rfl)
      exact this
    subst ev
    refine ⟨.int u, hv, ?_⟩
    have := SX.thenS (p := p) (T := fun y D σ H => ∃ i' j z, V.int u = .int i' ∧ y = .int j ∧ f i' j = some z ∧ D.nx (σ.set i (some (.int z))) H) he (k := fun r e => match r.2.toI with
      | some w => (match f u w with
        | some z => if i < e.length then .nx (e.set i (some (0, .int z))) else .bad
        | none => .bad)
      | none => .bad) (fun F H e σ A F1 H1 e1 A1 B r v D R gt x P pq => by
        cases h1 : r.2.toI with
        | none => rw [h1] at pq; exact pq.elim
        | some w =>
          rw [h1] at pq
          dsimp only at pq
          cases h2 : f u w with
          | none => rw [h2] at pq; exact pq.elim
          | some z =>
            rw [h2] at pq
            dsimp only at pq
            split at pq
            · rename_i hl
              have g1 : GSem p [i] (gName i) (gNm i) := @gs_name p i hp
              refine ⟨u, w, z, rfl, (IsR.read gt.rel.sm x).int h1, h2, ?_⟩
              refine g1 (F := F1) (H := H1) (e := e1) (A := A1) (B := []) (m := 0) (d := .int z) (v := .int z) (Q := fun σ' H' => D.nx σ' H') gt.rel P (by rw [List.append_nil]; exact gt.rel.nd) (Fz.is (by simp only [Fz])) (show gNm i (0, .int z) e1 = some _ by unfold gNm; rw [if_pos hl]) fun σ1 A1' R1 P1 s1 w1 => ?_
              exact pq F1 H1 σ1 A1' ⟨gt.step.sub fun a ha => List.mem_append_left _ (by simpa using s1 a ha), R1, P1⟩
            · exact pq.elim)
    exact this F H e σ A D R P pq
theorem PIp.of {op : Operator} {f : Int → Int → Int} {g : Int → Int → Option Int} (h : PIp X op (ipI f)) (hg : ∀ i j, g i j = some (f i j)) : PIp X op (ipC g) := fun pins s σ H a b va vb Q I ra rb ⟨i, j, z, h1, h2, h3, h4⟩ => h pins s σ H a b va vb Q I ra rb ⟨i, j, h1, h2, by rw [hg] at h3; rw [Option.some.inj h3]; exact h4⟩
theorem sv_aug {i : Nat} {y : Str} {op : Operator} {f : Int → Int → Option Int} (hN : X.N.Nodup) (hi : X.N[i]? = some y) (hx : Loc X.env.scope y) (hp : ∀ v, p ≠ some (i, v)) (he : EV X W q x te se) (ho : PIp X op (ipC f)) (hf : X.fn y = true ∨ X.env.scope.names.lookup y = some .local := by first | exact .inl rfl | exact .inr rfl | assumption) :
    SV X W p (.AugAssign (.Name y py) op x pos) (tAug i te (ipC f)) (sAug i f se) := ⟨ps_aug hN hi hx he.pe ho hf, SS.aug hp he.se⟩
def aAdd (i j : Int) : Option Int := some (i + j)
def aSub (i j : Int) : Option Int := some (i - j)
theorem ipc_add : PIp X .Add (ipC aAdd) := PIp.of ip_add fun _ _ => rfl
theorem ipc_sub : PIp X .Sub (ipC aSub) := PIp.of ip_sub fun _ _ => rfl
end

/-! ### raise -/
section
variable {X : Cx} {W : WX} {p : Pin} {pos p1 p2 p3 : Pos} {C : Addr} {B newId initId : String} {bmB : List Value}
def sRaise (c : Str) : MS := fun e => .exc c e
theorem sv_raise {x m : Str} {j : Nat} (hc : X.calm = true) (tk : Takes X W) (F : ExcBaseFacts B newId initId bmB) (q : PySem.W.excIn X.K C bmB newId = true) (gC : X.mg x = some (.ref C)) (kC : PySem.W.keepIn X.K (.ref C) = true) (r : Raises X (.ref C)) (hg : Gl X x) (hdb : (x == ("__debug__" : Str)) = false := by decide) :
    SV X W p (.Raise (some (.Call (.Name x p1) [.Constant (.str m) j p2] [] p3)) none pos) (fun _ σ H => W (.ref C) none σ H) (sRaise x) := by
  refine ⟨ps_raise hc tk (pmk_own F q gC kC r hg hdb), fun F H e σ A D R P pq => ?_⟩
  have := pq F H σ A ⟨Step.refl _ _ _, R, P⟩
  unfold clv at this
  rw [gC] at this
  exact this
end

/-! ### a def -/
def fDef (n : Nat) (io : Option Nat) (body : MS) : Fs := fun ts => match body (ts.map some ++ List.replicate n none) with
  | .nx e => .ok (0, .non) (pick io e)
  | .rt m d e => .ok (m, d) (pick io e)
  | .exc c e => .exc c (pick io e)
  | .bad => .bad
theorem SlIs.pad {F H : Hp} {n : Nat} : ∀ {e : Sl} {σ : St} {A : List Addr}, SlIs F H e σ A → SlIs F H (e ++ List.replicate n none) (σ ++ List.replicate n none) A
  | [], σ, A, x => by
    simp only [SlIs] at x
    obtain ⟨rfl, rfl⟩ := x
    induction n with
    | zero => simp [SlIs]
    | succ n ih =>
      simp only [List.nil_append] at ih ⊢
      rw [List.replicate_succ, List.replicate_succ]
      simp only [SlIs]
      exact ⟨none, _, rfl, ih⟩
  | none :: e, _, _, x => by
    simp only [SlIs] at x
    obtain ⟨w, r, rfl, x⟩ := x
    simp only [List.cons_append, SlIs]
    exact ⟨w, _, rfl, x.pad⟩
  | some (m, d) :: e, _, _, x => by
    simp only [SlIs] at x
    obtain ⟨v, r, B, C, rfl, rfl, x1, x2⟩ := x
    simp only [List.cons_append, SlIs]
    exact ⟨v, _, B, C, rfl, rfl, x1, x2.pad⟩
theorem Rel.pick {F H : Hp} {e : Sl} {σ : St} {A : List Addr} {io : Option Nat} {vs : List V} {v : V} (R : Rel F H e σ A) (P : PinOk (io.map fun i => (i, v)) σ) (hv : ∀ i, io = some i → vs[i]? = some v) : ∃ B C, SlIs F H (AR.pick io e) (pickV io vs) B ∧ A.Perm (B ++ C) := by
  cases io with
  | none => exact ⟨[], A, by simp only [AR.pick, pickV, SlIs]; exact ⟨trivial, trivial⟩, List.Perm.refl _⟩
  | some i =>
    have hv := hv i rfl
    have P := P i v rfl
    simp only [AR.pick, pickV, hv]
    cases he : e[i]? with
    | none => exact ⟨[], A, by simp only [Option.join_none, SlIs]; exact ⟨_, [], rfl, by simp⟩, List.Perm.refl _⟩
    | some o =>
      cases o with
      | none => exact ⟨[], A, by simp only [Option.join_some, SlIs]; exact ⟨_, [], rfl, by simp⟩, List.Perm.refl _⟩
      | some md =>
        obtain ⟨m, d⟩ := md
        obtain ⟨v', B, C, h1, h2, h3, h4⟩ := R.sl.get he
        rw [P] at h1
        obtain rfl := Option.some.inj (Option.some.inj h1)
        refine ⟨B, C, ?_, h4⟩
        simp only [Option.join_some, SlIs]
        exact ⟨v, [], B, [], rfl, by simp, h2, by simp⟩
section
variable {P : Program} {w : World} {K : PySem.W.Frag} {mg : Str → Option Value} {base : Heap}
theorem fn_ok {x qual : Str} {st : Stmt} {f : Addr} {fd : FuncData} {N ps : List Str} {k n : Nat} {io : Option Nat} {body : MS} (F : Fun K x qual st f fd) (S : FnScope N ps (defScope st)) (hn : N.length - ps.length = n) (hio : ∀ i, io = some i → i < ps.length)
    (hb : ∀ (cdv : Value) (A : Around) (outer : List Env) (s : Shared) (H : Hp) (E : XK) (v : V), Room k (A.deeper (envOfC qual (defScope st) s.heap.objs.size f cdv)) →
      ∃ t, SVs (cxOf (L2.CX P w) P w K mg base N qual (defScope st) f cdv A outer s H E) (fun cls d _ H => E cls d H) (io.map fun i => (i, v)) (defBody st) t body) :
    FnOk P w K mg base (L2.CX P w) (k + 1) f fd ps (spOf mg ps.length io (fDef n io body)) := by
  refine F.okX S (fun vs H Q E h => h.1) fun cdv A outer s H vs Q E hr h => ?_
  obtain ⟨hl, F0, ts, A0, sm, nd, sl, hS⟩ := h
  obtain ⟨v, hv⟩ : ∃ v, ∀ i, io = some i → vs[i]? = some v := by
    cases io with
    | none => exact ⟨.non, fun i h => by cases h⟩
    | some i =>
      have : i < vs.length := by rw [hl]; exact hio i rfl
      exact ⟨vs[i], fun j h => by cases h; simp [this]⟩
  obtain ⟨t, sv⟩ := hb cdv A outer s H E v hr
  have hn' : N.length - vs.length = n := by rw [hl]; exact hn
  have R : Rel F0 H (ts.map some ++ List.replicate n none) (L2.start N vs) A0 := ⟨sm, nd, by unfold L2.start; rw [hn']; exact sl.pad⟩
  have Pn : PinOk (io.map fun i => (i, v)) (L2.start N vs) := fun i u hi => by
    cases io with
    | none => cases hi
    | some j =>
      simp only [Option.map_some, Option.some.injEq, Prod.mk.injEq] at hi
      obtain ⟨rfl, rfl⟩ := hi
      have h1 := hv j rfl
      unfold L2.start
      rw [List.getElem?_append_left (by simp; exact lt_of_get h1), List.getElem?_map, h1]; rfl
  refine ⟨t, sv.pe, sv.se F0 H _ _ A0 _ R Pn ?_⟩
  unfold fDef at hS
  cases hb : body (ts.map some ++ List.replicate n none) with
  | bad => rw [hb] at hS; exact hS
  | nx e' =>
    rw [hb] at hS
    intro F' H' σ' A' mv
    obtain ⟨B, C, h1, h2⟩ := mv.rel.pick mv.pn hv
    have nd2 := h2.nodup_iff.mp mv.rel.nd
    refine hS F' H' B [] .non (by rw [List.append_nil]; exact mv.st.sub fun a h => h2.mem_iff.mpr (List.mem_append_left _ h)) mv.rel.sm (by rw [List.append_nil]; exact (nodup_app.mp nd2).1) (Fz.is (by simp only [Fz])) h1
  | rt m d e' =>
    rw [hb] at hS
    intro F' H' σ' A' B v' st rl pn nd' y
    obtain ⟨B1, C, h1, h2⟩ := rl.pick pn hv
    obtain ⟨n1, n2, n3⟩ := nodup_app.mp nd'
    have nd2 := nodup_app.mp (h2.nodup_iff.mp n1)
    have sub : ∀ a ∈ B1, a ∈ A' := fun a h => h2.mem_iff.mpr (List.mem_append_left _ h)
    refine hS F' H' B1 B v' (st.sub fun a h => ?_) rl.sm (nodup_app.mpr ⟨nd2.1, n2, fun a h => n3 a (sub a h)⟩) y h1
    rcases List.mem_append.mp h with h | h
    · exact List.mem_append_left _ (sub a h)
    · exact List.mem_append_right _ h
  | exc c e' =>
    rw [hb] at hS
    intro F' H' σ' A' mv
    obtain ⟨B, C, h1, h2⟩ := mv.rel.pick mv.pn hv
    have nd2 := h2.nodup_iff.mp mv.rel.nd
    exact hS F' H' B (mv.st.sub fun a h => h2.mem_iff.mpr (List.mem_append_left _ h)) mv.rel.sm (nodup_app.mp nd2).1 h1
end
end AR

set_option Elab.async false
set_option linter.all false
set_option maxRecDepth 100000
namespace AR
open PySem PySem.Spec PyProof.Rows L2

/-! ### a def that is called, as it stands -/
structure Callee (P : Program) (w : World) (K : PySem.W.Frag) (mg : Str → Option Value) (base : Heap) (x : Str) (k : Nat) (ps : List Str) (io : Option Nat) (S : Fs) (f : Addr) (fd : FuncData) : Prop where
  ok : FnOk P w K mg base (L2.CX P w) k f fd ps (spOf mg ps.length io S)
  mg : mg x = some (.ref f)
  kp : PySem.W.keepIn K (.ref f) = true
  bd : Binds K fd ps []
/-- a class of errors of the text -/
structure ExcC (K : PySem.W.Frag) (mg : Str → Option Value) (x : Str) (C : Addr) : Prop where
  ex : PySem.W.excIn K C [.type "ValueError", .type "Exception", .type "BaseException", .type "object"] "ValueError.__new__" = true
  mg : mg x = some (.ref C)
  kp : PySem.W.keepIn K (.ref C) = true
  sb : PySem.W.subIn K (.ref C) (.type "BaseException") = some true
  ty : PySem.W.typeIn K (.ref C) = some (.type "type")
theorem hu64 {A : Around} {k : Nat} (hr : Room k A) : A.units + 64 < cLine := by have := hr.un; omega
theorem hu65 {A : Around} {k : Nat} (hr : Room k A) : A.units + 65 < cLine := by have := hr.un; omega
section
variable {X : Cx} {W : WX} {q qa qb : Bool} {a b : Expr} {es : List Expr} {ta tb : TE} {t : TA} {sa sb : M Rv} {s : M (List Rv)} {pos p : Pos} {x : Str} {pn : Pin} {k : Nat} {f : Addr} {fd : FuncData} {ps : List Str} {S : Fs} {C : Addr}
theorem ev_callC (G : Callee X.prog X.w X.K X.mg X.base x k ps none S f fd) (hr : Room k X.A) (tk : Takes X W) (hg : Gl X x) {np : Nat}
    (ha : AV X W qa (a :: es) t s) (hdb : (x == ("__debug__" : Str)) = false := by decide) (he : starEach (a :: es) X.env = (false, eval a X.env) :: starEach es X.env := by rfl) (hpl : (backTo pos (starEach es X.env)).any (·.1) = false := by rfl) (hnp : ps.length = np := by rfl) {mg : Str → Option Value} (hmg : X.mg = mg := by rfl) :
    EV X W qa (.Call (.Name x p) (a :: es) [] pos) (tCallS (spOf mg np none S) (WE W) t) (sCallF np S s) := by
  subst hnp hmg; exact ev_call G.ok hr G.mg G.kp G.bd tk hg ha hdb he hpl
theorem ev_callIOC (G : Callee X.prog X.w X.K X.mg X.base x k ps (some 0) S f fd) (hr : Room k X.A) (tk : Takes X W) (hg : Gl X x) (i : Nat) {y : Str} {p1 : Pos} {np : Nat}
    (ha : AV X W qa es t s) (hN : X.N[i]? = some y := by rfl) (hv : Vis X.env.scope y := by first | exact Or.inl rfl | exact Or.inr (Or.inl rfl) | exact Or.inr (Or.inr rfl)) (hdb : (x == ("__debug__" : Str)) = false := by decide)
    (he : starEach (.Name y p1 :: es) X.env = (false, eval (.Name y p1) X.env) :: starEach es X.env := by rfl) (hpl : (backTo pos (starEach es X.env)).any (·.1) = false := by rfl) (hd : (y == ("__debug__" : Str)) = false := by decide) (hcd : (y == ("__classdict__" : Str)) = false := by decide) (hnp : ps.length = np := by rfl) {mg : Str → Option Value} (hmg : X.mg = mg := by rfl) :
    EV X W false (.Call (.Name x p) (.Name y p1 :: es) [] pos) (tCallS (spOf mg np (some 0) S) (WE W) (tCons (tVar i) t)) (sCallIO np S i s) := by
  subst hnp hmg; exact ev_callIO G.ok hr G.mg G.kp G.bd tk hg i ha hN hv hdb he hpl hd hcd
theorem sv_raiseC {p1 p2 p3 : Pos} {m : Str} {j : Nat} (G : ExcC X.K X.mg x C) (hc : X.calm = true) (tk : Takes X W) (hg : Gl X x) (hdb : (x == ("__debug__" : Str)) = false := by decide) :
    SV X W pn (.Raise (some (.Call (.Name x p1) [.Constant (.str m) j p2] [] p3)) none pos) (fun _ σ H => W (.ref C) none σ H) (sRaise x) := sv_raise hc tk PySem.F.excBase_ValueError G.ex G.mg G.kp (raises_own G.sb G.ty) hg hdb
theorem op_eqK {K : PySem.W.Frag} (hu : X.A.units + 64 < cLine) (hK : X.K = K := by rfl) : OpR X (compareOp .Eq) (rEqD K) := by
  subst hK; exact op_eqD hu
theorem op_neK {K : PySem.W.Frag} (hu : X.A.units + 64 < cLine) (hK : X.K = K := by rfl) : OpR X (compareOp .NotEq) (rNeD K) := by
  subst hK; exact op_neD hu
/-! built-ins by name -/
theorem ev_len {p : Pos} (hm : X.mg "len" = none) (hg : Gl X "len") (ha : AV X W qa [a] t s) (he : starEach [a] X.env = (false, eval a X.env) :: starEach [] X.env := by rfl) (hpl : (backTo pos (starEach [] X.env)).any (·.1) = false := by rfl) {K : PySem.W.Frag} (hK : X.K = K := by rfl) : EV X W qa (.Call (.Name "len" p) [a] [] pos) (tCB (rLen K) t) (sCall1 (flatN fLenD) s) := by
  subst hK; exact ev_callB c_len p_len hg hm PySem.boot_len ha (by decide) (by decide) he hpl
theorem ev_max2 {p : Pos} (hc : X.calm = true) (hm : X.mg "max" = none) (hg : Gl X "max") (ha : AV X W qa [a, b] t s) (he : starEach [a, b] X.env = (false, eval a X.env) :: starEach [b] X.env := by rfl) (hpl : (backTo pos (starEach [b] X.env)).any (·.1) = false := by rfl) : EV X W qa (.Call (.Name "max" p) [a, b] [] pos) (tCB rMax2 t) (sCall1 (flatN fMax2) s) :=
  ev_callB (r := rMax2) (call_max2 hc) p_max2 hg hm (by decide +kernel) ha (by decide) (by decide) he hpl
theorem ev_min2 {p : Pos} (hc : X.calm = true) (hm : X.mg "min" = none) (hg : Gl X "min") (ha : AV X W qa [a, b] t s) (he : starEach [a, b] X.env = (false, eval a X.env) :: starEach [b] X.env := by rfl) (hpl : (backTo pos (starEach [b] X.env)).any (·.1) = false := by rfl) : EV X W qa (.Call (.Name "min" p) [a, b] [] pos) (tCB rMin2 t) (sCall1 (flatN fMin2) s) :=
  ev_callB (r := rMin2) (call_min2 hc) p_min2 hg hm (by decide +kernel) ha (by decide) (by decide) he hpl
theorem ev_int1 {p : Pos} (hm : X.mg "int" = none) (hg : Gl X "int") (ha : AV X W qa [a] t s) (he : starEach [a] X.env = (false, eval a X.env) :: starEach [] X.env := by rfl) (hpl : (backTo pos (starEach [] X.env)).any (·.1) = false := by rfl) : EV X W qa (.Call (.Name "int" p) [a] [] pos) (tCB rInt1 t) (sCall1 (flatN fInt1) s) :=
  ev_callTy (r := rInt1) call_int1 p_int1 hg hm (by decide +kernel) ha (by decide) (by decide) he hpl
theorem ev_sortI {p : Pos} (hc : X.calm = true) (hm : X.mg "sorted" = none) (hg : Gl X "sorted") (ha : AV X W qa [a] t s) (he : starEach [a] X.env = (false, eval a X.env) :: starEach [] X.env := by rfl) (hpl : (backTo pos (starEach [] X.env)).any (·.1) = false := by rfl) {K : PySem.W.Frag} (hK : X.K = K := by rfl) : EV X W qa (.Call (.Name "sorted" p) [a] [] pos) (tCB (rSortedI K) t) (sCall1 fSortI s) := by
  subst hK; exact ev_callB cr_sortedI p_sortI hg hm (by decide +kernel) ha (by decide) (by decide) he hpl
theorem ev_tupOf {p : Pos} (hm : X.mg "tuple" = none) (hg : Gl X "tuple") (ha : AV X W qa [a] t s) (he : starEach [a] X.env = (false, eval a X.env) :: starEach [] X.env := by rfl) (hpl : (backTo pos (starEach [] X.env)).any (·.1) = false := by rfl) {K : PySem.W.Frag} (hK : X.K = K := by rfl) : EV X W qa (.Call (.Name "tuple" p) [a] [] pos) (tCB (rTupOf K) t) (sCall1 fTupOf s) := by
  subst hK; exact ev_callTy (r := rTupOf X.K) call_tuple_of p_tupOf hg hm (by decide +kernel) ha (by decide) (by decide) he hpl
theorem ev_lstOf {p : Pos} (hm : X.mg "list" = none) (hg : Gl X "list") (ha : AV X W qa [a] t s) (he : starEach [a] X.env = (false, eval a X.env) :: starEach [] X.env := by rfl) (hpl : (backTo pos (starEach [] X.env)).any (·.1) = false := by rfl) {K : PySem.W.Frag} (hK : X.K = K := by rfl) : EV X W qa (.Call (.Name "list" p) [a] [] pos) (tCB (rLstOf K) t) (sCall1 fLstOf s) := by
  subst hK; exact ev_callTy (r := rLstOf X.K) call_list_of p_lstOf hg hm (by decide +kernel) ha (by decide) (by decide) he hpl
end
end AR

set_option Elab.async false
set_option linter.all false
set_option maxRecDepth 100000
namespace AR
open PySem PySem.Spec PyProof.Rows L2

/-! ### quietness by rfl -/
section
variable {X : Cx} {W : WX} {q qa : Bool} {x : Expr} {xs : List Expr} {t : TE} {tt : TT} {ta : TA} {s : M Rv} {sb : M Bool} {ss : M (List Rv)} {ops : List CmpOp} {tc : V → TE} {sc : Int → M Bool}
theorem EV.qq (h : EV X W qa x t s) (hq : qa = q := by rfl) : EV X W q x t s := hq ▸ h
theorem TV.qq (h : TV X W qa x tt sb) (hq : qa = q := by rfl) : TV X W q x tt sb := hq ▸ h
theorem WV.qq (h : WV X W qa x tt sb) (hq : qa = q := by rfl) : WV X W q x tt sb := hq ▸ h
theorem AV.qq (h : AV X W qa xs ta ss) (hq : qa = q := by rfl) : AV X W q xs ta ss := hq ▸ h
theorem CV.qq (h : CV X W qa ops xs tc sc) (hq : qa = q := by rfl) : CV X W q ops xs tc sc := hq ▸ h
end
/-! ### frozen behind a statement -/
def sPost (i : Nat) (s : MS) : MS := fun e => match s e with
  | .nx e' => .nx (frz i e')
  | .rt m d e' => .rt m d e'
  | .exc c e' => .exc c e'
  | .bad => .bad
section
variable {mg : Str → Option Value} {W : WX} {p : Pin} {t u : TS} {s r : MS} {X : Cx} {x : Stmt} {a : Expr} {ta : TE} {sa : M Rv} {q : Bool} {pos pos' : Pos}
theorem SS.post (i : Nat) (h : SS mg W p t s) : SS mg W p t (sPost i s) := fun F H e σ A D R P q => by
  refine h F H e σ A D R P ?_
  unfold sPost at q
  cases hs : s e with
  | nx e' =>
    rw [hs] at q
    intro F' H' σ' A' mv
    obtain ⟨F2, A2, st, R2⟩ := mv.rel.frz i
    exact q F2 H' σ' A2 ⟨mv.st.trans st, R2, mv.pn⟩
  | rt m d e' => rw [hs] at q; exact q
  | exc c e' => rw [hs] at q; exact q
  | bad => rw [hs] at q; exact q
theorem sv_post (i : Nat) (h : SV X W p x t s) : SV X W p x t (sPost i s) := ⟨h.pe, SS.post i h.se⟩
/-! ### is None -/
def D.isN : D → Bool
  | .non => true
  | _ => false
theorem Fz.isN {H : Hp} {d : D} {v : V} (h : Fz H d v) : decide (v = .non) = d.isN := by
  cases d with
  | non => simp only [Fz] at h; subst h; rfl
  | bl b => simp only [Fz] at h; subst h; rfl
  | int b => simp only [Fz] at h; subst h; rfl
  | str b => simp only [Fz] at h; subst h; rfl
  | tup ds => simp only [Fz] at h; obtain ⟨a, vs, rfl, h1, _⟩ := h; rfl
  | lst ds => simp only [Fz] at h; obtain ⟨a, vs, rfl, h1, _⟩ := h; rfl
  | dic ds => simp only [Fz] at h; obtain ⟨a, vs, rfl, h1, _⟩ := h; rfl
  | scr ds K => simp only [Fz] at h; obtain ⟨a, rfl, h1⟩ := h; rfl
def sIsN (n : Bool) (sa : M Rv) : M Rv := mbind sa fun r => sC (.bl (r.2.isN != n))
theorem SX.isN (h : SX mg W IsR q ta sa) : SX mg W IsR q (tIsN ta) (sIsN false sa) := by
  refine SX.bind (J := IsR) (f := fun r => sC (.bl (r.2.isN != false))) (k := fun x σ H Q => Q (.bl (decide (x = .non))) H) id h fun F H e σ A F1 H1 e1 A1 B r v Q R g x p => ?_
  rw [(IsR.read g.rel.sm x).isN]
  exact p F1 H1 A1 [] _ (g.sub (List.nil_sublist _)) (Fz.is (by simp only [Fz]; simp))
theorem SX.notN (h : SX mg W IsR q ta sa) : SX mg W IsR q (tNotN ta) (sIsN true sa) := by
  refine SX.bind (J := IsR) (f := fun r => sC (.bl (r.2.isN != true))) (k := fun x σ H Q => Q (.bl (!decide (x = .non))) H) id h fun F H e σ A F1 H1 e1 A1 B r v Q R g x p => ?_
  rw [(IsR.read g.rel.sm x).isN]
  exact p F1 H1 A1 [] _ (g.sub (List.nil_sublist _)) (Fz.is (by simp only [Fz]; simp))
theorem ev_isN {j} (h : EV X W q a ta sa) : EV X W q (.Compare a [.Is] [.Constant .none j pos'] pos) (tIsN ta) (sIsN false sa) := ⟨pe_cmp (pc_isN h.pe), h.se.isN⟩
theorem ev_notN {j} (h : EV X W q a ta sa) : EV X W q (.Compare a [.IsNot] [.Constant .none j pos'] pos) (tNotN ta) (sIsN true sa) := ⟨pe_cmp (pc_notN h.pe), h.se.notN⟩
theorem tv_isN {j} (h : EV X W q a ta sa) : TV X W q (.Compare a [.Is] [.Constant .none j pos'] pos) (tB (tIsN ta)) (asB (sIsN false sa)) := ⟨pt_cmp (pc_isN h.pe), SX.toB h.se.isN⟩
theorem tv_notN {j} (h : EV X W q a ta sa) : TV X W q (.Compare a [.IsNot] [.Constant .none j pos'] pos) (tB (tNotN ta)) (asB (sIsN true sa)) := ⟨pt_cmp (pc_notN h.pe), SX.toB h.se.notN⟩
end
section
variable {P : Program} {w : World} {K : PySem.W.Frag} {mg : Str → Option Value} {base : Heap}
theorem fn_bad {f : Addr} {fd : FuncData} {k n : Nat} {io : Option Nat} {ps : List Str} (hn : n = ps.length := by rfl) : FnOk P w K mg base (L2.CX P w) k f fd ps (spOf mg n io fun _ => .bad) :=
  ⟨fun vs H Q E h => h.1.trans hn, fun A outer s H args us vs Q E _ _ _ _ h => by obtain ⟨_, _, _, _, _, _, _, z⟩ := h; exact z.elim⟩
/-! ### the law's end -/
theorem law_sp {S : Fs} {vs : List V} {H : Hp} {Q : VK} {E : XK} {a : Addr} {ns : List Int} (e : vs = [.ref a]) (hS : SqL K H a (ns.map V.int)) (hO : Only H) (q : ∀ H', Q (.bl true) H') (h : ∃ m outs, S [(0, .scr ns K)] = .ok (m, .bl true) outs) : spOf mg 1 none S vs H Q E := by
  subst e
  obtain ⟨m, outs, h⟩ := h
  refine ⟨rfl, H, [(0, .scr ns K)], [], Same.refl _, List.nodup_nil, ?_, ?_⟩
  · simp only [List.map_cons, List.map_nil, SlIs]
    refine ⟨.ref a, [], [], [], rfl, rfl, ?_, rfl, rfl⟩
    simp only [Is, Fz]
    refine ⟨⟨a, rfl, ?_⟩, trivial⟩
    rcases hS with hR | hK
    · rcases hR with hR | hR
      · rcases hO a with z | ⟨o, xs, z⟩
        · rw [hR] at z; cases z
        · rw [hR] at z; cases z
      · exact .inl hR
    · exact .inr fun H' => .inr hK
  · rw [h]
    intro F' H' A' B v _ _ _ hv _
    have := (Is.flat (d := .bl true) rfl hv).1
    simp only [Fz] at this
    subst this
    exact q H'
theorem cx_none {H : Hp} {s : Shared} {e : Value} {s' : Shared} (h : L2.CX P w [] H s (fun _ _ _ => False) e s') : False := by
  obtain ⟨_, _, _, _, _, _, _, _, _, _, _, _, z⟩ := h
  exact z.elim
end
end AR

set_option Elab.async false
set_option linter.all false
set_option maxRecDepth 100000
namespace AR
open PySem PySem.Spec PyProof.Rows L2

/-! ### what a meaning reaches -/
def Wp {α : Type} (s : M α) (e : Sl) (Q : α → Sl → Prop) : Prop := match s e with
  | .ok a e' => Q a e'
  | .exc _ _ => False
  | .bad => False
def Ws (s : MS) (e : Sl) (N : Sl → Prop) (R : Nat → D → Sl → Prop) : Prop := match s e with
  | .nx e' => N e'
  | .rt m d e' => R m d e'
  | .exc _ _ => False
  | .bad => False
def OkP {α : Type} (o : Option α) (P : α → Prop) : Prop := match o with
  | some a => P a
  | none => False
def SlP (o : Option (Option Tm)) (P : Nat → D → Prop) : Prop := match o with
  | some (some (m, d)) => P m d
  | _ => False
section
variable {α β : Type} {s : M α} {e : Sl} {Q : β → Sl → Prop} {sa sb : M Rv} {P : Rv → Sl → Prop} {i j : Nat}
theorem Wp.mono {Q Q' : α → Sl → Prop} (h : Wp s e Q) (k : ∀ a e, Q a e → Q' a e) : Wp s e Q' := by
  unfold Wp at h ⊢
  cases hs : s e with
  | ok a e' => rw [hs] at h; exact k _ _ h
  | exc c e' => rw [hs] at h; exact h
  | bad => rw [hs] at h; exact h
theorem Wp.eq {a : α} {e' : Sl} {Q : α → Sl → Prop} (h : s e = .ok a e') : Wp s e Q = Q a e' := by unfold Wp; rw [h]
theorem wp_ret {a : α} {Q : α → Sl → Prop} : Wp (mret a) e Q = Q a e := rfl
theorem wp_bind {f : α → M β} : Wp (mbind s f) e Q = Wp s e fun a e1 => Wp (f a) e1 Q := by
  unfold Wp mbind
  cases s e <;> rfl
theorem wp_mif {Q : α → Sl → Prop} {b : Bool} : Wp (mif b s) e Q = (b = true ∧ Wp s e Q) := by
  unfold mif
  cases b <;> simp [Wp, mbad]
theorem wp_mopt {o : Option α} {Q : α → Sl → Prop} : Wp (mopt o) e Q = OkP o fun a => Q a e := by
  cases o <;> rfl
theorem okp_some {a : α} {P : α → Prop} : OkP (some a) P = P a := rfl
theorem okp_none {P : α → Prop} : OkP none P = False := rfl
theorem okp_map {f : α → β} {o : Option α} {P : β → Prop} : OkP (o.map f) P = OkP o fun a => P (f a) := by cases o <;> rfl
theorem okp_bind {f : α → Option β} {o : Option α} {P : β → Prop} : OkP (o.bind f) P = OkP o fun a => OkP (f a) P := by cases o <;> rfl
theorem okp_ite {c : Prop} [Decidable c] {o : Option α} {P : α → Prop} : OkP (if c then o else none) P = (c ∧ OkP o P) := by
  by_cases h : c <;> simp [h, OkP]
theorem slp_some {m : Nat} {d : D} {P : Nat → D → Prop} : SlP (some (some (m, d))) P = P m d := rfl
theorem wp_c {d : D} : Wp (sC d) e P = P (some 0, d) e := rfl
def kindN (m : Nat) (d : D) : Option Nat := if (m == 0 || d.dep == 0) = true then some 0 else none
theorem kind0 {d : D} : kindN 0 d = some 0 := by simp [kindN]
theorem wp_name : Wp (sName i) e P = SlP e[i]? fun m d => P (kindN m d, d) e := by
  unfold Wp sName SlP kindN
  cases e[i]? with
  | none => rfl
  | some o => cases o with
    | none => rfl
    | some md => rfl
theorem wp_move : Wp (sMove i) e P = SlP e[i]? fun m d => P (some m, d) (e.set i none) := by
  unfold Wp sMove SlP
  cases e[i]? with
  | none => rfl
  | some o => cases o with
    | none => rfl
    | some md => rfl
theorem wp_op {f : Rv → Rv → Option Rv} {qb : Bool} : Wp (sOp f qb sa sb) e P = Wp sa e fun a e1 => hold qb a = true ∧ Wp sb e1 fun b e2 => OkP (f a b) fun x => P x e2 := by
  unfold sOp two
  simp only [wp_bind, wp_mif, wp_ret, wp_mopt]
theorem wp_asB {Q : Bool → Sl → Prop} : Wp (asB sa) e Q = Wp sa e fun r e1 => OkP r.2.toB fun b => Q b e1 := by
  unfold asB; simp only [wp_bind, wp_mopt]
theorem wp_neg : Wp (sNeg sa) e P = Wp sa e fun r e1 => OkP r.2.toI fun i => P (some 0, .int (-i)) e1 := by
  unfold sNeg; simp only [wp_bind, wp_mopt, okp_map]
theorem wp_bi {Q : Int → Sl → Prop} : Wp (sBI sa) e Q = Wp sa e fun r e1 => OkP r.2.toI fun i => Q i e1 := by
  unfold sBI; simp only [wp_bind, wp_mopt]
theorem wp_cons {qb : Bool} {ss : M (List Rv)} {Q : List Rv → Sl → Prop} : Wp (sCons qb sa ss) e Q = Wp sa e fun a e1 => hold qb a = true ∧ Wp ss e1 fun as e2 => Q (a :: as) e2 := by
  unfold sCons; simp only [wp_bind, wp_mif, wp_ret]
theorem wp_tup {ss : M (List Rv)} : Wp (sTup ss) e P = Wp ss e fun rs e1 => rs.length ≤ 1000 ∧ P (joinK rs, .tup (rs.map (·.2))) e1 := by
  unfold sTup; simp only [wp_bind, wp_mif, wp_ret, decide_eq_true_eq]
theorem wp_lst {ss : M (List Rv)} : Wp (sLst ss) e P = Wp ss e fun rs e1 => rs.length ≤ 1000 ∧ P ((joinK rs).map (· + 1), .lst (rs.map (·.2))) e1 := by
  unfold sLst; simp only [wp_bind, wp_mif, wp_ret, decide_eq_true_eq]
theorem wp_call1 {f : List Rv → Option Rv} {ss : M (List Rv)} : Wp (sCall1 f ss) e P = Wp ss e fun rs e1 => OkP (f rs) fun x => P x e1 := by
  unfold sCall1; simp only [wp_bind, wp_mopt]
theorem wp_isi {f : D → Bool} : Wp (sIsi f sa) e P = Wp sa e fun r e1 => noScr r.2 = true ∧ P (some 0, .bl (f r.2)) e1 := by
  unfold sIsi; simp only [wp_bind, wp_mif, wp_c]
theorem wp_isN {n : Bool} : Wp (sIsN n sa) e P = Wp sa e fun r e1 => P (some 0, .bl (r.2.isN != n)) e1 := by
  unfold sIsN; simp only [wp_bind, wp_c]
theorem wp_and {s r : M Bool} {Q : Bool → Sl → Prop} : Wp (sAnd s r) e Q = Wp s e fun b e1 => if b = true then Wp r e1 Q else Q false e1 := by
  unfold sAnd; simp only [wp_bind]
  congr; funext b e1
  cases b <;> simp [wp_ret]
theorem wp_or {s r : M Bool} {Q : Bool → Sl → Prop} : Wp (sOr s r) e Q = Wp s e fun b e1 => if b = true then Q true e1 else Wp r e1 Q := by
  unfold sOr; simp only [wp_bind]
  congr; funext b e1
  cases b <;> simp [wp_ret]
theorem wp_not {s : M Bool} {Q : Bool → Sl → Prop} : Wp (sNot s) e Q = Wp s e fun b e1 => Q (!b) e1 := by
  unfold sNot; simp only [wp_bind, wp_ret]
theorem wp_ofB {s : M Bool} : Wp (ofB s) e P = Wp s e fun b e1 => P (some 0, .bl b) e1 := by
  unfold ofB; simp only [wp_bind, wp_ret]
theorem wp_ite {c : Bool} {s r : M α} {Q : α → Sl → Prop} : Wp (if c = true then s else r) e Q = if c = true then Wp s e Q else Wp r e Q := by cases c <;> simp
theorem wp_ifE {s : M Bool} : Wp (sIfE s sa sb) e P = Wp s e fun b e1 => if b = true then Wp sa e1 P else Wp sb e1 P := by
  unfold sIfE; simp only [wp_bind]
  congr; funext b e1
  cases b <;> simp
theorem wp_chain {s : Int → M Bool} {Q : Bool → Sl → Prop} : Wp (sChain sa s) e Q = Wp sa e fun r e1 => OkP r.2.toI fun i => Wp (s i) e1 Q := by
  unfold sChain; simp only [wp_bind, wp_bi]
theorem wp_chL {c : Int → Int → Bool} {k : Int} {Q : Bool → Sl → Prop} : Wp (sChL c sb k) e Q = Wp sb e fun r e1 => OkP r.2.toI fun i => Q (c k i) e1 := by
  unfold sChL; simp only [wp_bind, wp_bi, wp_ret]
theorem wp_chN {c : Int → Int → Bool} {s : Int → M Bool} {k : Int} {Q : Bool → Sl → Prop} : Wp (sChN c sb s k) e Q = Wp sb e fun r e1 => OkP r.2.toI fun i => if c k i = true then Wp (s i) e1 Q else Q false e1 := by
  unfold sChN; simp only [wp_bind, wp_bi]
  congr; funext r e1
  congr; funext i
  cases c k i <;> simp [wp_ret]
theorem wp_ixN : Wp (sIxN i sb) e P = (there i e = true ∧ Wp sb e fun b e1 => SlP e1[i]? fun m d => OkP (fIxN m d b.2) fun x => P x e1) := by
  unfold sIxN
  by_cases h : there i e = true
  · simp only [h, true_and]
    unfold Wp mbind
    simp only [h, if_true]
    cases sb e with
    | ok b e1 =>
      simp only [SlP]
      cases e1[i]? with
      | none => rfl
      | some o => cases o with
        | none => rfl
        | some md =>
          simp only [mopt]
          cases fIxN md.1 md.2 b.2 <;> rfl
    | exc c e1 => rfl
    | bad => rfl
  · simp [Wp, h]
theorem there_cons0 {x : Tm} {e : Sl} : there 0 (some x :: e) = true := rfl
theorem there_succ {x : Option Tm} {e : Sl} : there (i + 1) (x :: e) = there i e := rfl
theorem wp_sl {qr : Bool} {sl sh : M (Option Int)} : Wp (sSl qr sa sl sh) e P = Wp sa e fun a e1 => hold qr a = true ∧ Wp sl e1 fun l e2 => Wp sh e2 fun h e3 => OkP (fSl a l h) fun x => P x e3 := by
  unfold sSl; simp only [wp_bind, wp_mif, wp_mopt]
theorem wp_scrSl {K : PySem.W.Frag} {sh : M (Option Int)} : Wp (sScrSl K sa sh) e P = Wp sa e fun a e1 => hold true a = true ∧ Wp sh e1 fun h e2 => OkP (fScrSl K a.2 h) fun x => P x e2 := by
  unfold sScrSl; simp only [wp_bind, wp_mif, wp_mopt]
/-! calls -/
def OutP {α : Type} (o : Out α) (P : α → Sl → Prop) : Prop := match o with
  | .ok a e => P a e
  | .exc _ _ => False
  | .bad => False
theorem outp_ok {a : α} {e : Sl} {P : α → Sl → Prop} : OutP (.ok a e) P = P a e := rfl
theorem wp_callF {np : Nat} {S : Fs} {ss : M (List Rv)} : Wp (sCallF np S ss) e P = Wp ss e fun rs e1 => rs.length = np ∧ OutP (S (rs.map fun r => (0, r.2))) fun r _ => (rs.all canFz = true ∨ r.2.dep ≤ r.1) ∧ P (some r.1, r.2) e1 := by
  unfold sCallF
  simp only [wp_bind, wp_mif, decide_eq_true_eq]
  congr; funext rs e1
  congr 1
  unfold Wp OutP
  dsimp only
  cases hS : S (rs.map fun r => (0, r.2)) with
  | ok r o =>
    dsimp only
    by_cases hc : (rs.all canFz || decide (r.2.dep ≤ r.1)) = true
    · rw [if_pos hc]
      simp only [Bool.or_eq_true, decide_eq_true_eq] at hc
      exact propext ⟨fun h => ⟨hc, h⟩, fun h => h.2⟩
    · rw [if_neg hc]
      simp only [Bool.or_eq_true, decide_eq_true_eq] at hc
      exact propext ⟨fun h => h.elim, fun h => hc h.1⟩
  | exc c o => rfl
  | bad => rfl
theorem wp_callIO {np : Nat} {S : Fs} {ss : M (List Rv)} : Wp (sCallIO np S i ss) e P = (there i e = true ∧ Wp ss e fun rs e1 => SlP e1[i]? fun m d => (rs.length + 1 = np ∧ rs.all canFz = true) ∧ OutP (S ((m, d) :: rs.map fun r => (0, r.2))) fun r outs => match outs with
    | [o] => P (some r.1, r.2) (e1.set i o)
    | _ => False) := by
  unfold sCallIO
  by_cases h : there i e = true
  · simp only [h, true_and]
    unfold Wp mbind
    simp only [h, if_true]
    cases ss e with
    | ok rs e1 =>
      simp only [SlP]
      cases e1[i]? with
      | none => rfl
      | some o => cases o with
        | none => rfl
        | some md =>
          obtain ⟨m, d⟩ := md
          simp only
          by_cases hc : (decide (rs.length + 1 = np) && rs.all canFz) = true
          · have hc' := hc
            simp only [Bool.and_eq_true, decide_eq_true_eq] at hc'
            simp only [hc, if_true, hc', and_self, true_and]
            unfold OutP
            cases S ((m, d) :: rs.map fun r => (0, r.2)) with
            | ok r outs => cases outs with
              | nil => rfl
              | cons o os => cases os <;> rfl
            | exc c outs => cases outs with
              | nil => rfl
              | cons o os => cases os <;> rfl
            | bad => rfl
          · have hc' := hc
            simp only [Bool.and_eq_true, decide_eq_true_eq] at hc'
            simp only [hc, hc', false_and]; rfl
    | exc c e1 => rfl
    | bad => rfl
  · simp [Wp, h]
theorem wp_recv {r : Sl → Option (List Nat)} {qa : Bool} {ss : M (List Rv)} {f : List Nat → List Rv → Nat → List D → Option (Rv × List D)} : Wp (sRecv i r qa ss f) e P = OkP (r e) fun ks => OkP (slotAt i ks e) fun _ => (qa || ks.isEmpty) = true ∧ Wp ss e fun rs e1 => OkP (slotAt i ks e1) fun x => OkP (f ks rs x.2.2.1 x.2.2.2) fun y => P y.1 (e1.set i (some (x.1, setP x.2.1 (.lst y.2) ks))) := by
  unfold sRecv
  unfold Wp OkP
  dsimp only
  cases r e with
  | none => rfl
  | some ks =>
    dsimp only
    cases slotAt i ks e with
    | none => rfl
    | some x =>
      dsimp only
      by_cases hq : (qa || ks.isEmpty) = true
      · simp only [hq, if_true, true_and]
        unfold mbind
        cases ss e with
        | ok rs e1 =>
          dsimp only
          cases slotAt i ks e1 with
          | none => rfl
          | some x =>
            obtain ⟨m, d, m0, ds⟩ := x
            dsimp only
            cases f ks rs m0 ds <;> rfl
        | exc c e1 => rfl
        | bad => rfl
      · rw [if_neg hq]
        exact propext ⟨fun h => h.elim, fun h => hq h.1⟩
end
section
variable {α : Type} {s r : MS} {e : Sl} {N : Sl → Prop} {R : Nat → D → Sl → Prop} {sa : M Rv} {i j : Nat}
theorem Ws.mono {N' : Sl → Prop} {R' : Nat → D → Sl → Prop} (h : Ws s e N R) (kn : ∀ e, N e → N' e) (kr : ∀ m d e, R m d e → R' m d e) : Ws s e N' R' := by
  unfold Ws at h ⊢
  cases hs : s e with
  | nx e' => rw [hs] at h; exact kn _ h
  | rt m d e' => rw [hs] at h; exact kr _ _ _ h
  | exc c e' => rw [hs] at h; exact h
  | bad => rw [hs] at h; exact h
theorem ws_seq : Ws (sSeq s r) e N R = Ws s e (fun e1 => Ws r e1 N R) R := by
  unfold Ws sSeq
  cases s e <;> rfl
theorem ws_next : Ws sNext e N R = N e := rfl
theorem ws_then {sa : M α} {k : α → MS} : Ws (mthen sa k) e N R = Wp sa e fun a e1 => Ws (k a) e1 N R := by
  unfold Ws Wp mthen
  cases sa e <;> rfl
theorem ws_expr : Ws (sExpr sa) e N R = Wp sa e fun _ e1 => N e1 := by unfold sExpr; rw [ws_then]; rfl
theorem ws_ret : Ws (sRet sa) e N R = Wp sa e fun r e1 => OkP r.1 fun m => R m r.2 e1 := by
  unfold sRet; rw [ws_then]
  congr; funext a e1
  obtain ⟨k, d⟩ := a
  cases k <;> rfl
theorem ws_retN : Ws sRetN e N R = R 0 .non e := rfl
theorem ws_if {c : M Bool} : Ws (sIf c s r) e N R = Wp c e fun b e1 => if b = true then Ws s e1 N R else Ws r e1 N R := by
  unfold sIf; rw [ws_then]
  congr; funext b e1
  cases b <;> simp
theorem ws_asg {sg : TgS} : Ws (sAsg sg sa) e N R = Wp sa e fun r e1 => OkP r.1 fun m => OkP (sg (m, r.2) e1) N := by
  unfold sAsg; rw [ws_then]
  congr; funext a e1
  obtain ⟨k, d⟩ := a
  cases k with
  | none => rfl
  | some m =>
    unfold Ws OkP
    dsimp only
    cases sg (m, d) e1 <;> rfl
theorem ws_post : Ws (sPost i s) e N R = Ws s e (fun e1 => N (frz i e1)) R := by
  unfold Ws sPost
  cases s e <;> rfl
theorem ws_fz : Ws (sFz i s) e N R = Ws s (frz i e) N R := rfl
theorem ws_drop : Ws (sDrop i s) e N R = Ws s (e.set i none) N R := rfl
theorem ws_par {ss : M (List Rv)} : Ws (sPar i j ss) e N R = Wp ss e fun rs e1 => match rs with
    | [(some m, d), (some n, d')] => (i < e1.length ∧ j < e1.length) ∧ N ((e1.set i (some (m, d))).set j (some (n, d')))
    | _ => False := by
  unfold sPar; rw [ws_then]
  congr; funext rs e1
  unfold Ws
  dsimp only
  split
  · rename_i heq
    split at heq
    · split at heq
      · rename_i hl; cases heq; simp [hl]
      · cases heq
    · cases heq
  · rename_i heq
    split at heq
    · split at heq <;> cases heq
    · cases heq
  · rename_i heq
    split at heq
    · split at heq <;> cases heq
    · cases heq
  · rename_i heq
    split at heq
    · split at heq
      · cases heq
      · rename_i hl; simp only [hl, false_and]
    · rename_i hx
      first
        | rfl
        | (split
           · rename_i m d n d'; exact (hx m d n d' rfl).elim
           · rfl)
theorem ws_setI {st : Sl → Option (List Nat)} {sb : M Rv} : Ws (sSetI i st sb sa) e N R = Wp sa e fun r e1 => OkP (st e1) fun ks => OkP (slotAt i ks e1) fun x => OkP (ixOf sb e1) fun j => OkP (ixN x.2.2.2.length j) fun k => accOk x.2.2.1 r = true ∧ N (e1.set i (some (x.1, setP x.2.1 (.lst (x.2.2.2.set k r.2)) ks))) := by
  unfold sSetI; rw [ws_then]
  congr; funext r e1
  unfold Ws OkP
  dsimp only
  cases st e1 with
  | none => rfl
  | some ks =>
    dsimp only
    cases slotAt i ks e1 with
    | none => rfl
    | some x =>
      obtain ⟨m, d, m0, ds⟩ := x
      dsimp only
      cases ixOf sb e1 with
      | none => rfl
      | some j =>
        dsimp only
        cases ixN ds.length j with
        | none => rfl
        | some k =>
          dsimp only
          by_cases h : accOk m0 r = true <;> simp [h]
theorem ws_aug {f : Int → Int → Option Int} : Ws (sAug i f sa) e N R = OkP (ixOf (sName i) e) fun u => Wp sa e fun r e1 => OkP r.2.toI fun w => OkP (f u w) fun z => i < e1.length ∧ N (e1.set i (some (0, .int z))) := by
  unfold sAug
  unfold Ws OkP
  dsimp only
  cases ixOf (sName i) e with
  | none => rfl
  | some u =>
    dsimp only
    have := ws_then (e := e) (N := N) (R := R) (sa := sa) (k := fun r e => match r.2.toI with
      | some w => (match f u w with
        | some z => if i < e.length then .nx (e.set i (some (0, .int z))) else .bad
        | none => .bad)
      | none => .bad)
    unfold Ws at this
    refine this.trans ?_
    congr; funext r e1
    cases r.2.toI with
    | none => rfl
    | some w =>
      dsimp only
      cases f u w with
      | none => rfl
      | some z =>
        dsimp only
        by_cases h : i < e1.length <;> simp [h]
theorem ws_for {si : M (List D)} {sg : TgS} : Ws (sFor si sg s) e N R = Wp si e fun ds e1 => Ws (sLoop sg s ds) e1 N R := by unfold sFor; rw [ws_then]
theorem ws_loop_nil {sg : TgS} : Ws (sLoop sg s []) e N R = N e := rfl
theorem ws_loop_cons {sg : TgS} {d : D} {ds : List D} : Ws (sLoop sg s (d :: ds)) e N R = OkP (sg (0, d) e) fun e1 => Ws s e1 (fun e2 => Ws (sLoop sg s ds) e2 N R) R := by
  unfold Ws OkP
  conv => lhs; unfold sLoop
  cases sg (0, d) e with
  | none => rfl
  | some e1 =>
    dsimp only
    cases s e1 <;> rfl
/-- a loop by what holds between its turns -/
theorem ws_loop {sg : TgS} (I : Nat → Sl → Prop) : ∀ {ds : List D} {n : Nat} {e : Sl}, I n e → (∀ k d e, ds[k]? = some d → I (n + k) e → OkP (sg (0, d) e) fun e1 => Ws s e1 (I (n + k + 1)) R) → (∀ e, I (n + ds.length) e → N e) → Ws (sLoop sg s ds) e N R
  | [], n, e, h0, _, hd => hd e (by simpa using h0)
  | d :: ds, n, e, h0, ht, hd => by
    rw [ws_loop_cons]
    have h1 := ht 0 d e (by simp) (by simpa using h0)
    unfold OkP at h1 ⊢
    cases hs : sg (0, d) e with
    | none => rw [hs] at h1; exact h1
    | some e1 =>
      rw [hs] at h1
      refine h1.mono (fun e2 h2 => ?_) (fun _ _ _ h => h)
      refine ws_loop I (n := n + 1) (by simpa using h2) (fun k d' e' hk hi => ?_) (fun e' h => hd e' ?_)
      · have := ht (k + 1) d' e' (by simpa using hk) (by rw [show n + (k + 1) = n + 1 + k by omega]; exact hi)
        rw [show n + (k + 1) + 1 = n + 1 + k + 1 by omega] at this
        exact this
      · rw [List.length_cons, show n + (ds.length + 1) = n + 1 + ds.length by omega]; exact h
theorem ws_for_inv {si : M (List D)} {sg : TgS} (I : Nat → Sl → Prop) (h : Wp si e fun ds e1 => I 0 e1 ∧ (∀ k d e, ds[k]? = some d → I k e → OkP (sg (0, d) e) fun e1 => Ws s e1 (I (k + 1)) R) ∧ ∀ e, I ds.length e → N e) : Ws (sFor si sg s) e N R := by
  rw [ws_for]
  refine h.mono fun ds e1 ⟨h0, ht, hd⟩ => ws_loop I h0 (fun k d e hk hi => ?_) (fun e hi => hd e (by simpa using hi))
  have := ht k d e hk (by simpa using hi)
  rw [show 0 + k + 1 = k + 1 by omega]
  exact this
/-- a while, by a word and a measure -/
theorem ws_while {c : M Bool} (I : Nat → Sl → Prop) (ht : ∀ k e, I k e → Wp c e fun b e1 => if b = true then ∃ k', k = k' + 1 ∧ Ws s e1 (fun e2 => ∃ k'', k'' ≤ k' ∧ I k'' e2) R else N e1) : ∀ {m : Nat} {k : Nat} {e : Sl}, k < m → I k e → Ws (sWhile c s m) e N R
  | 0, _, _, h, _ => by omega
  | m + 1, k, e, h, hi => by
    have h1 := ht k e hi
    unfold Ws sWhile
    unfold Wp at h1
    cases hc : c e with
    | ok b e1 =>
      rw [hc] at h1
      cases b with
      | false => simpa using h1
      | true =>
        simp only [if_true] at h1
        obtain ⟨k', rfl, h2⟩ := h1
        dsimp only
        unfold Ws at h2
        cases hs : s e1 with
        | nx e2 =>
          rw [hs] at h2
          obtain ⟨k'', hk, hi2⟩ := h2
          have := ws_while I ht (m := m) (k := k'') (e := e2) (by omega) hi2
          unfold Ws at this
          exact this
        | rt m' d e2 => rw [hs] at h2; exact h2
        | exc c' e2 => rw [hs] at h2; exact h2.elim
        | bad => rw [hs] at h2; exact h2.elim
    | exc c' e1 => rw [hc] at h1; exact h1.elim
    | bad => rw [hc] at h1; exact h1.elim
end
/-! a def -/
theorem def_of {n : Nat} {io : Option Nat} {b : MS} {ts : List Tm} {Q : Tm → Sl → Prop} (h : Ws b (ts.map some ++ List.replicate n none) (fun e => Q (0, .non) (pick io e)) (fun m d e => Q (m, d) (pick io e))) : OutP (fDef n io b ts) Q := by
  unfold fDef
  unfold Ws at h
  cases hb : b (ts.map some ++ List.replicate n none) with
  | nx e => rw [hb] at h; exact h
  | rt m d e => rw [hb] at h; exact h
  | exc c e => rw [hb] at h; exact h
  | bad => rw [hb] at h; exact h
theorem outp_mono {α : Type} {o : Out α} {P Q : α → Sl → Prop} (h : OutP o P) (k : ∀ a e, P a e → Q a e) : OutP o Q := by
  cases o with
  | ok a e => exact k _ _ h
  | exc c e => exact h
  | bad => exact h
/-! comprehensions -/
section
variable {q : Bool} {vs : List Nat} {m : Nat} {sg : TgS} {st : M Bool} {se : M Rv} {e : Sl} {P : Rv → Sl → Prop}
theorem wp_lc {si : M (List D)} : Wp (sLc q vs m si sg st se) e P = Wp si e fun ds e1 => ds.length ≤ 1000000 ∧ OutP (lcLoop q vs m sg st se ds [] (wipeE e1 vs)) fun rs e2 => P (some (m + 1), .lst rs) (if q = true then e1 else e2) := by
  unfold sLc
  rw [wp_bind]
  congr; funext ds e1
  unfold Wp OutP
  dsimp only
  by_cases h : ds.length ≤ 1000000
  · simp only [h, if_true, true_and]
    cases lcLoop q vs m sg st se ds [] (wipeE e1 vs) <;> rfl
  · simp only [h, if_false, false_and]
theorem lc_nil {acc : List D} {Q : List D → Sl → Prop} : OutP (lcLoop q vs m sg st se [] acc e) Q = Q acc e := rfl
theorem lc_cons {d : D} {ds acc : List D} {Q : List D → Sl → Prop} : OutP (lcLoop q vs m sg st se (d :: ds) acc e) Q = OkP (sg (0, d) e) fun e3 => Wp st e3 fun b e4 => if b = true then Wp se e4 fun r e5 => accOk m r = true ∧ OutP (lcLoop q vs m sg st se ds (acc ++ [r.2]) (lcNext q vs e e5)) Q else OutP (lcLoop q vs m sg st se ds acc (lcNext q vs e e4)) Q := by
  conv => lhs; unfold lcLoop
  unfold OkP
  cases sg (0, d) e with
  | none => rfl
  | some e3 =>
    dsimp only
    unfold Wp
    cases st e3 with
    | ok b e4 =>
      cases b with
      | false => simp
      | true =>
        simp only [if_true]
        cases se e4 with
        | ok r e5 =>
          dsimp only
          by_cases h : accOk m r = true
          · simp [h]
          · rw [if_neg h]
            exact propext ⟨fun h => h.elim, fun z => h z.1⟩
        | exc c e5 => rfl
        | bad => rfl
    | exc c e4 => rfl
    | bad => rfl
/-- quiet, all items: by their values -/
theorem lc_map {Q : List D → Sl → Prop} (f : Nat → D → Option D) : ∀ {ds acc : List D} {n : Nat}, (∀ k d, ds[k]? = some d → OkP (sg (0, d) e) fun e3 => Wp st e3 fun b e4 => if b = true then Wp se e4 fun r e5 => accOk m r = true ∧ f (n + k) d = some r.2 else f (n + k) d = none) →
    Q (acc ++ (List.range ds.length).filterMap (fun k => (ds[k]?).bind (f (n + k)))) e → OutP (lcLoop true vs m sg st se ds acc e) Q
  | [], acc, n, _, hq => by simpa [OutP, lcLoop] using hq
  | d :: ds, acc, n, h, hq => by
    rw [lc_cons]
    have h0 := h 0 d (by simp)
    have hr : ∀ acc', Q (acc' ++ (List.range ds.length).filterMap (fun k => (ds[k]?).bind (f (n + 1 + k)))) e → OutP (lcLoop true vs m sg st se ds acc' e) Q := fun acc' hq' => lc_map f (n := n + 1) (fun k d' hk => by
      have := h (k + 1) d' (by simpa using hk)
      rw [show n + (k + 1) = n + 1 + k by omega] at this
      exact this) hq'
    have hl : (List.range (d :: ds).length).filterMap (fun k => ((d :: ds)[k]?).bind (f (n + k))) = (f n d).toList ++ (List.range ds.length).filterMap (fun k => (ds[k]?).bind (f (n + 1 + k))) := by
      rw [List.length_cons, List.range_succ_eq_map, List.filterMap_cons, List.filterMap_map]
      simp only [List.getElem?_cons_zero, Option.bind_some, Nat.add_zero]
      have : ((fun k => ((d :: ds)[k]?).bind (f (n + k))) ∘ Nat.succ) = fun k => (ds[k]?).bind (f (n + 1 + k)) := by
        funext k
        simp only [Function.comp, List.getElem?_cons_succ, Nat.succ_eq_add_one]
        rw [show n + (k + 1) = n + 1 + k by omega]
      rw [this]
      cases f n d <;> simp
    rw [hl] at hq
    unfold OkP at h0 ⊢
    cases hs : sg (0, d) e with
    | none => rw [hs] at h0; exact h0
    | some e3 =>
      rw [hs] at h0
      dsimp only at h0 ⊢
      refine h0.mono fun b e4 h1 => ?_
      cases b with
      | true =>
        simp only [if_true] at h1 ⊢
        refine h1.mono fun r e5 ⟨h2, h3⟩ => ⟨h2, ?_⟩
        rw [Nat.add_zero] at h3
        rw [h3] at hq
        exact hr _ (by simpa [lcNext] using hq)
      | false =>
        simp only [Bool.false_eq_true, if_false] at h1 ⊢
        rw [Nat.add_zero] at h1
        rw [h1] at hq
        exact hr _ (by simpa [lcNext] using hq)
end
end AR

set_option Elab.async false
set_option linter.all false
set_option maxRecDepth 100000
namespace AR
open PySem PySem.Spec PyProof.Rows L2

/-! ### operators on data -/
section
variable {k l : Option Nat} {i j : Int} {P : Rv → Prop} {x y : Str} {b c : Bool}
theorem hold_t {r : Rv} : hold true r = true := rfl
theorem hold_s {q : Bool} {n : Nat} {d : D} : hold q (some n, d) = true := by simp [hold]
theorem canFz_s {n : Nat} {d : D} : canFz (some n, d) = true := rfl
theorem ok_add : OkP (fAdd (k, .int i) (l, .int j)) P = P (some 0, .int (i + j)) := rfl
theorem ok_addS : OkP (fAdd (k, .str x) (l, .str y)) P = (x.length + y.length ≤ 1000000 ∧ P (some 0, .str (x ++ y))) := by
  have e : fAdd (k, .str x) (l, .str y) = if x.length + y.length ≤ 1000000 then some (some 0, .str (x ++ y)) else none := by
    by_cases h : x.length + y.length ≤ 1000000
    · simp [fAdd, flat2, fII, fAddS, h]
    · simp [fAdd, flat2, fII, fAddS, h, fCat]
  rw [e, okp_ite, okp_some]
theorem ok_cat {ds es : List D} : OkP (fAdd (k, .lst ds) (l, .lst es)) P = (((k.isSome || depL ds == 0) = true ∧ (l.isSome || depL es == 0) = true ∧ ds.length + es.length ≤ 1000000) ∧ P (some 1, .lst (ds ++ es))) := by
  have e : fAdd (k, .lst ds) (l, .lst es) = if ((k.isSome || depL ds == 0) && (l.isSome || depL es == 0) && decide (ds.length + es.length ≤ 1000000)) = true then some (some 1, .lst (ds ++ es)) else none := by
    simp [fAdd, flat2, fII, fAddS, fCat]
  rw [e, okp_ite, okp_some]
  simp only [Bool.and_eq_true, decide_eq_true_eq, and_assoc]
theorem ok_sub : OkP (fSub (k, .int i) (l, .int j)) P = P (some 0, .int (i - j)) := rfl
theorem ok_mul : OkP (fMulI (k, .int i) (l, .int j)) P = (i.natAbs.log2 + j.natAbs.log2 < 1000000 ∧ P (some 0, .int (i * j))) := by
  have e : fMulI (k, .int i) (l, .int j) = if i.natAbs.log2 + j.natAbs.log2 < 1000000 then some (some 0, .int (i * j)) else none := by
    by_cases h : i.natAbs.log2 + j.natAbs.log2 < 1000000 <;> simp [fMulI, flat2, fII, h]
  rw [e, okp_ite, okp_some]
theorem ok_div : OkP (fDiv (k, .int i) (l, .int j)) P = ((0 < j ∧ j.natAbs.log2 < 9000) ∧ P (some 0, .int (i / j))) := by
  have e : fDiv (k, .int i) (l, .int j) = if 0 < j ∧ j.natAbs.log2 < 9000 then some (some 0, .int (i / j)) else none := by
    by_cases h : 0 < j ∧ j.natAbs.log2 < 9000 <;> simp [fDiv, flat2, fII, h]
  rw [e, okp_ite, okp_some]
theorem ok_mod : OkP (fMod (k, .int i) (l, .int j)) P = (0 < j ∧ P (some 0, .int (i % j))) := by
  have e : fMod (k, .int i) (l, .int j) = if 0 < j then some (some 0, .int (i % j)) else none := by
    by_cases h : 0 < j <;> simp [fMod, flat2, fII, h]
  rw [e, okp_ite, okp_some]
theorem ok_pow : OkP (fPow (k, .int i) (l, .int j)) P = ((0 ≤ j ∧ j ≤ 1000000 ∧ i.natAbs < 2 ^ 64) ∧ P (some 0, .int (i ^ j.toNat))) := by
  have e : fPow (k, .int i) (l, .int j) = if 0 ≤ j ∧ j ≤ 1000000 ∧ i.natAbs < 2 ^ 64 then some (some 0, .int (i ^ j.toNat)) else none := by
    by_cases h : 0 ≤ j ∧ j ≤ 1000000 ∧ i.natAbs < 2 ^ 64
    · unfold fPow flat2 fII
      rw [if_pos h]
      dsimp only
      rw [if_pos (decide_eq_true h)]; rfl
    · unfold fPow flat2 fII
      rw [if_neg h]
      dsimp only
      rw [if_neg (by rw [decide_eq_true_eq]; exact h)]; rfl
  rw [e, okp_ite, okp_some]
theorem ok_lt : OkP (fLt (k, .int i) (l, .int j)) P = P (some 0, .bl (decide (i < j))) := rfl
theorem ok_le : OkP (fLe (k, .int i) (l, .int j)) P = P (some 0, .bl (decide (i ≤ j))) := rfl
theorem ok_gt : OkP (fGt (k, .int i) (l, .int j)) P = P (some 0, .bl (decide (j < i))) := rfl
theorem ok_ge : OkP (fGe (k, .int i) (l, .int j)) P = P (some 0, .bl (decide (j ≤ i))) := rfl
theorem ok_toB {P : Bool → Prop} : OkP (D.bl b).toB P = P b := rfl
theorem ok_toI {P : Int → Prop} : OkP (D.int i).toI P = P i := rfl
theorem ok_max2 : OkP (flatN fMax2 [(k, .int i), (l, .int j)]) P = P (some 0, .int (max i j)) := by
  show P (some 0, .int (if j > i then j else i)) = _
  congr 3
  split <;> omega
theorem ok_min2 : OkP (flatN fMin2 [(k, .int i), (l, .int j)]) P = P (some 0, .int (min i j)) := by
  show P (some 0, .int (if j < i then j else i)) = _
  congr 3
  split <;> omega
theorem ok_int : OkP (flatN fInt1 [(k, .int i)]) P = P (some 0, .int i) := rfl
theorem ok_intB : OkP (flatN fInt1 [(k, .bl b)]) P = P (some 0, .int (if b = true then 1 else 0)) := rfl
theorem ok_lenL {ds : List D} : OkP (flatN fLenD [(k, .lst ds)]) P = P (some 0, .int ds.length) := rfl
theorem ok_lenT {ds : List D} : OkP (flatN fLenD [(k, .tup ds)]) P = P (some 0, .int ds.length) := rfl
theorem ok_lenS : OkP (flatN fLenD [(k, .str x)]) P = (x.length ≤ 1000000 ∧ P (some 0, .int x.length)) := by
  have e : flatN fLenD [(k, .str x)] = if x.length ≤ 1000000 then some (some 0, .int x.length) else none := by
    by_cases h : x.length ≤ 1000000 <;> simp [flatN, fLenD, h]
  rw [e, okp_ite, okp_some]
end
/-! ### == as equality -/
mutual
/-- data without truths, dicts and the script -/
def D.pl : D → Bool
  | .non => true | .bl _ => false | .int _ => true | .str _ => true
  | .tup ds => plL ds
  | .lst ds => plL ds
  | .dic _ => false
  | .scr _ _ => false
def plL : List D → Bool
  | [] => true
  | d :: ds => d.pl && plL ds
end
mutual
theorem eqv_pl : ∀ {d e : D}, d.pl = true → e.pl = true → (PyData.eqv (toPy d) (toPy e) = true ↔ d = e)
  | .non, e, _, h => by cases e <;> simp_all [toPy, PyData.eqv, D.pl]
  | .int i, e, _, h => by cases e <;> simp_all [toPy, PyData.eqv, D.pl]
  | .str x, e, _, h => by cases e <;> simp_all [toPy, PyData.eqv, D.pl]
  | .tup ds, e, hd, h => by
    cases e with
    | tup es =>
      simp only [D.pl] at hd h
      simp only [toPy, PyData.eqv, D.tup.injEq]
      exact eqvL_pl hd h
    | non => simp [toPy, PyData.eqv]
    | int i => simp [toPy, PyData.eqv]
    | str i => simp [toPy, PyData.eqv]
    | lst es => simp [toPy, PyData.eqv]
    | bl b => simp [D.pl] at h
    | dic b => simp [D.pl] at h
    | scr a b => simp [D.pl] at h
  | .lst ds, e, hd, h => by
    cases e with
    | lst es =>
      simp only [D.pl] at hd h
      simp only [toPy, PyData.eqv, D.lst.injEq]
      exact eqvL_pl hd h
    | non => simp [toPy, PyData.eqv]
    | int i => simp [toPy, PyData.eqv]
    | str i => simp [toPy, PyData.eqv]
    | tup es => simp [toPy, PyData.eqv]
    | bl b => simp [D.pl] at h
    | dic b => simp [D.pl] at h
    | scr a b => simp [D.pl] at h
  | .bl _, _, h, _ => by simp [D.pl] at h
  | .dic _, _, h, _ => by simp [D.pl] at h
  | .scr _ _, _, h, _ => by simp [D.pl] at h
theorem eqvL_pl : ∀ {d e : List D}, plL d = true → plL e = true → (PyData.eqvAll (toPyL d) (toPyL e) = true ↔ d = e)
  | [], [], _, _ => by simp [toPyL, PyData.eqvAll]
  | [], _ :: _, _, _ => by simp [toPyL, PyData.eqvAll]
  | _ :: _, [], _, _ => by simp [toPyL, PyData.eqvAll]
  | d :: ds, e :: es, h1, h2 => by
    simp only [plL, Bool.and_eq_true] at h1 h2
    simp only [toPyL, PyData.eqvAll, Bool.and_eq_true, List.cons.injEq]
    rw [eqv_pl h1.1 h2.1, eqvL_pl h1.2 h2.2]
end
def shp (d : D) : Bool := SeqAt.shaped (toPy d)
open Classical in
theorem ok_eqD {k l : Option Nat} {d e : D} {P : Rv → Prop} (h1 : d.pl = true) (h2 : e.pl = true) (s1 : shp d = true) (s2 : shp e = true) : OkP (fEq (k, d) (l, e)) P = P (some 0, .bl (decide (d = e))) := by
  unfold shp at s1 s2
  unfold fEq flat2 fEqD
  rw [s1, s2]
  show P _ = _
  have : (PyData.eqv (toPy d) (toPy e) != false) = decide (d = e) := by
    have := eqv_pl h1 h2
    cases hb : PyData.eqv (toPy d) (toPy e) <;> simp_all
  rw [this]
open Classical in
theorem ok_neD {k l : Option Nat} {d e : D} {P : Rv → Prop} (h1 : d.pl = true) (h2 : e.pl = true) (s1 : shp d = true) (s2 : shp e = true) : OkP (fNe (k, d) (l, e)) P = P (some 0, .bl (!decide (d = e))) := by
  unfold shp at s1 s2
  unfold fNe flat2 fEqD
  rw [s1, s2]
  show P _ = _
  have : (PyData.eqv (toPy d) (toPy e) != true) = !decide (d = e) := by
    have := eqv_pl h1 h2
    cases hb : PyData.eqv (toPy d) (toPy e) <;> simp_all
  rw [this]
theorem ok_eqI {k l : Option Nat} {i j : Int} {P : Rv → Prop} : OkP (fEq (k, .int i) (l, .int j)) P = P (some 0, .bl (decide (i = j))) := by
  rw [ok_eqD rfl rfl rfl rfl]
  congr 3
  simp
theorem ok_neI {k l : Option Nat} {i j : Int} {P : Rv → Prop} : OkP (fNe (k, .int i) (l, .int j)) P = P (some 0, .bl (!decide (i = j))) := by
  rw [ok_neD rfl rfl rfl rfl]
  congr 3
  simp
theorem ok_eqB {k l : Option Nat} {i j : Bool} {P : Rv → Prop} : OkP (fEq (k, .bl i) (l, .bl j)) P = P (some 0, .bl (decide (i = j))) := by
  unfold fEq flat2 fEqD
  cases i <;> cases j <;> rfl
theorem ok_neB {k l : Option Nat} {i j : Bool} {P : Rv → Prop} : OkP (fNe (k, .bl i) (l, .bl j)) P = P (some 0, .bl (!decide (i = j))) := by
  unfold fNe flat2 fEqD
  cases i <;> cases j <;> rfl
/-! ### items -/
theorem okp_at {α : Type} {xs : List α} {i : Int} {n : Nat} {P : α → Prop} (h : i = n) (hn : n < xs.length) : OkP (atI xs i) P = P xs[n] := by
  subst h
  have : atI xs (n : Int) = some xs[n] := by
    unfold atI ixN
    rw [if_pos (by omega), if_pos (by omega)]
    simp [hn]
  rw [this]; rfl
theorem ixN_nat {m n : Nat} (h : n < m) : ixN m (n : Int) = some n := by
  unfold ixN
  rw [if_pos (by omega), if_pos (by omega)]; simp
theorem depL_ints (ns : List Int) : depL (ns.map D.int) = 0 := by
  induction ns with
  | nil => rfl
  | cons n ns ih => simp [depL, D.dep, ih]
theorem plL_map {α : Type} (f : α → D) (xs : List α) (h : ∀ x ∈ xs, (f x).pl = true) : plL (xs.map f) = true := by
  induction xs with
  | nil => rfl
  | cons x xs ih => simp [plL, h x (by simp), ih fun y hy => h y (by simp [hy])]
theorem depL_map {α : Type} (f : α → D) (n : Nat) (xs : List α) (h : ∀ x ∈ xs, (f x).dep ≤ n) : depL (xs.map f) ≤ n := by
  induction xs with
  | nil => simp [depL]
  | cons x xs ih =>
    have h1 := h x (by simp)
    have h2 := ih fun y hy => h y (by simp [hy])
    simp only [List.map_cons, depL]; omega
/-! ### small steps of a reading -/
section
variable {k l : Option Nat} {m n i j : Nat} {P : Rv → Prop} {e : Sl} {d d' : D} {ds : List D} {z : Int}
theorem okp_ixL : OkP (fIxN m (.lst ds) (.int z)) P = OkP (atI ds z) fun c => P (kidN m (.lst ds) c, c) := by
  unfold fIxN; rw [okp_map]
theorem okp_ixT : OkP (fIxN m (.tup ds) (.int z)) P = OkP (atI ds z) fun c => P (kidN m (.tup ds) c, c) := by
  unfold fIxN; rw [okp_map]
theorem okp_gixL : OkP (fIx (k, .lst ds) (l, .int z)) P = OkP (atI ds z) fun c => P (kid k c) := by
  unfold fIx; rw [okp_map]
theorem okp_gixT : OkP (fIx (k, .tup ds) (l, .int z)) P = OkP (atI ds z) fun c => P (kid k c) := by
  unfold fIx; rw [okp_map]
theorem kidN_0 : kidN 0 d d' = some 0 := by
  unfold kidN
  split
  · rfl
  · cases d <;> simp
theorem kidN_1L : kidN 1 (.lst ds) d' = some 0 := by
  unfold kidN
  split <;> simp
theorem kidN_int {i : Int} : kidN m d (.int i) = some 0 := rfl
theorem kidN_bl {i : Bool} : kidN m d (.bl i) = some 0 := rfl
theorem kidN_str {i : Str} : kidN m d (.str i) = some 0 := rfl
theorem kidN_pair {a b : Int} : kidN m d (.tup [.int a, .int b]) = some 0 := rfl
theorem kid_some : kid (some m) d = (some 0, d) := by simp [kid]
theorem kid_int {i : Int} : kid k (.int i) = (some 0, .int i) := by simp [kid, D.dep]
theorem kid_pair {a b : Int} : kid k (.tup [.int a, .int b]) = (some 0, .tup [.int a, .int b]) := by simp [kid, D.dep, depL]
theorem kind_int {i : Int} : kindN m (.int i) = some 0 := by simp [kindN, D.dep]
theorem kind_bl {i : Bool} : kindN m (.bl i) = some 0 := by simp [kindN, D.dep]
theorem kind_str {i : Str} : kindN m (.str i) = some 0 := by simp [kindN, D.dep]
theorem kind_non : kindN m .non = some 0 := by simp [kindN, D.dep]
theorem kind_pair {a b : Int} : kindN m (.tup [.int a, .int b]) = some 0 := by simp [kindN, D.dep, depL]
theorem kind_lst : kindN (m + 1) (.lst ds) = none := by simp [kindN, D.dep]
theorem kind_lst1 : kindN 1 (.lst ds) = none := by simp [kindN, D.dep]
theorem at0 {α : Type} {x : α} {xs : List α} : atI (x :: xs) 0 = some x := by simp [atI, ixN]
theorem at1 {α : Type} {x y : α} {xs : List α} : atI (x :: y :: xs) 1 = some y := by
  unfold atI ixN
  rw [if_pos (by omega), if_pos (by simp; omega)]; rfl
theorem at2 {α : Type} {x y z : α} {xs : List α} : atI (x :: y :: z :: xs) 2 = some z := by
  unfold atI ixN
  rw [if_pos (by omega), if_pos (by simp; omega)]; rfl
theorem at3 {α : Type} {x y z w : α} {xs : List α} : atI (x :: y :: z :: w :: xs) 3 = some w := by
  unfold atI ixN
  rw [if_pos (by omega), if_pos (by simp; omega)]; rfl
theorem ok_gNm {tm : AR.Tm} {P : Sl → Prop} : OkP (gNm i tm e) P = (i < e.length ∧ P (e.set i (some tm))) := by
  unfold gNm; rw [okp_ite, okp_some]
theorem ok_gTp {gs : Nat → List D → Sl → Option Sl} {P : Sl → Prop} : OkP (gTp n gs (m, .tup ds) e) P = (ds.length = n ∧ OkP (gs m ds e) P) := by
  unfold gTp; dsimp only; rw [okp_ite]
theorem ok_gLs0 {gs : Nat → List D → Sl → Option Sl} {P : Sl → Prop} : OkP (gLs n gs (0, .lst ds) e) P = (ds.length = n ∧ OkP (gs 0 ds e) P) := by
  unfold gLs; dsimp only; rw [okp_ite]
theorem ok_gLs1 {gs : Nat → List D → Sl → Option Sl} {P : Sl → Prop} : OkP (gLs n gs (m + 1, .lst ds) e) P = (ds.length = n ∧ OkP (gs m ds e) P) := by
  unfold gLs; dsimp only; rw [okp_ite]
theorem ok_gCo {g : TgS} {gs : Nat → List D → Sl → Option Sl} {P : Sl → Prop} : OkP (gCo g gs m (d :: ds) e) P = OkP (g (m, d) e) fun e1 => OkP (gs m ds e1) P := by
  unfold gCo; rw [okp_bind]
theorem ok_gNo {P : Sl → Prop} : OkP (gNo m [] e) P = P e := rfl
theorem ok_slot {ks : List Nat} {P : Nat × D × Nat × List D → Prop} : OkP (slotAt i ks e) P = SlP e[i]? fun m d => OkP (getP m d ks) fun x => match x with
    | (m0 + 1, .lst ds) => P (m, d, m0, ds)
    | _ => False := by
  unfold slotAt SlP
  cases e[i]? with
  | none => rfl
  | some o => cases o with
    | none => rfl
    | some md =>
      dsimp only
      cases getP md.1 md.2 ks with
      | none => rfl
      | some x =>
        obtain ⟨m0, d0⟩ := x
        dsimp only [OkP]
        cases m0 <;> cases d0 <;> rfl
theorem getP_nil : getP m d [] = some (m, d) := rfl
theorem setP_nil : setP d d' [] = d' := rfl
theorem ok_ixOf {s : M Rv} {P : Int → Prop} : OkP (ixOf s e) P = Wp s e fun r _ => OkP r.2.toI P := by
  unfold ixOf OkP Wp
  cases s e <;> rfl
theorem ok_ixN {P : Nat → Prop} (h : i < n) : OkP (ixN n (i : Int)) P = P i := by rw [ixN_nat h]; rfl
theorem ixN0 : ixN (n + 1) 0 = some 0 := by simp [ixN]
theorem ixN1 : ixN (n + 1 + 1) 1 = some 1 := by
  unfold ixN; rw [if_pos (by omega), if_pos (by omega)]; rfl
theorem acc_int {i : Int} : accOk m (k, .int i) = true := by simp [accOk, flatR, D.dep]
theorem acc_pair {a b : Int} : accOk m (k, .tup [.int a, .int b]) = true := by simp [accOk, flatR, D.dep, depL]
theorem acc_str {a : Str} : accOk m (k, .str a) = true := by simp [accOk, flatR, D.dep]
theorem acc_same {m : Nat} : accOk m (some m, d) = true := by simp [accOk]
theorem acc_zero : accOk 0 (some m, d) = true := by simp [accOk, canFz]
theorem frz_cons0 {tm : AR.Tm} : frz 0 (some tm :: e) = some (0, tm.2) :: e := rfl
theorem frz_none : frz 0 (none :: e) = none :: e := rfl
theorem frz_succ {x : Option AR.Tm} : frz (i + 1) (x :: e) = x :: frz i e := by
  unfold frz
  simp only [List.getElem?_cons_succ]
  cases e[i]? with
  | none => rfl
  | some o => cases o <;> rfl
theorem join_pair {k l : Option Nat} {a b : Int} : joinK [(k, .int a), (l, .int b)] = some 0 := by simp [joinK, firstK, flatR, D.dep]
theorem join_nil : joinK [] = some 0 := rfl
theorem pick_some : pick (some i) e = [(e[i]?).join] := rfl
theorem pick_none : pick none e = [] := rfl
theorem itL_some : itL (some m, .lst ds) = some ds := rfl
theorem itT_some : itT (some m, .tup ds) = some ds := rfl
theorem ok_itR1 {P : List D → Prop} {z : Int} : OkP (itR1 [(k, .int z)]) P = (inR z = true ∧ P (upto 0 z.toNat)) := by
  unfold itR1; rw [okp_ite, okp_some]
theorem ok_itR2 {P : List D → Prop} {z w : Int} : OkP (itR2 [(k, .int z), (l, .int w)]) P = ((inR z = true ∧ inR w = true) ∧ P (upto z (w - z).toNat)) := by
  unfold itR2; rw [okp_ite, okp_some]; simp only [Bool.and_eq_true]
end
theorem joinK_zero {rs : List Rv} (h : ∀ r ∈ rs, r.1 = some 0) : joinK rs = some 0 := by
  unfold joinK
  split
  · rfl
  · rename_i k hk
    have : k = some 0 := by
      induction rs with
      | nil => simp [firstK] at hk
      | cons r rs ih =>
        unfold firstK at hk
        split at hk
        · exact ih (fun x hx => h x (by simp [hx])) hk
        · have := h r (by simp)
          rw [this] at hk
          exact (Option.some.inj hk).symm
    subst this
    rw [if_pos]
    rw [List.all_eq_true]
    intro r hr
    rw [h r hr]; simp
theorem join_z1 {d : D} : joinK [(some 0, d)] = some 0 := joinK_zero (by simp)
theorem join_z2 {d d' : D} : joinK [(some 0, d), (some 0, d')] = some 0 := joinK_zero (by simp)
theorem join_z3 {d d' d'' : D} : joinK [(some 0, d), (some 0, d'), (some 0, d'')] = some 0 := joinK_zero (by simp)
theorem join_z4 {d d' d'' d3 : D} : joinK [(some 0, d), (some 0, d'), (some 0, d''), (some 0, d3)] = some 0 := joinK_zero (by simp)
theorem ws_raise {c : Str} {e : Sl} {N : Sl → Prop} {R : Nat → D → Sl → Prop} : Ws (sRaise c) e N R = False := rfl
theorem outp_ex {o : Out AR.Tm} (h : OutP o fun r _ => r.2 = .bl true) : ∃ m outs, o = .ok (m, .bl true) outs := by
  cases o with
  | ok r outs => obtain ⟨m, d⟩ := r; exact ⟨m, outs, by rw [show d = .bl true from h]⟩
  | exc c e => exact h.elim
  | bad => exact h.elim
theorem ok_scrSl {K : PySem.W.Frag} {ns : List Int} {h : Option Int} {P : Rv → Prop} : OkP (fScrSl K (.scr ns K) h) P = P (some 1, .lst ((cutD ns none h).map D.int)) := by
  unfold fScrSl; dsimp only; rw [if_pos rfl]; rfl
theorem ok_sortI {k : Option Nat} {ns : List Int} {P : Rv → Prop} : OkP (fSortI [(k, .lst (ns.map D.int))]) P = P (some 1, .lst ((sortI ns).map D.int)) := by
  unfold fSortI; dsimp only; rw [allI_map]; rfl
theorem ok_tupOf {n : Nat} {ds : List D} {P : Rv → Prop} : OkP (fTupOf [(some n, .lst ds)]) P = P (some 0, .tup ds) := by
  unfold fTupOf; rfl
theorem ok_lstOf {n : Nat} {ds : List D} {P : Rv → Prop} : OkP (fLstOf [(some n, .lst ds)]) P = P (some 1, .lst ds) := by
  unfold fLstOf; rfl
theorem outp_eq {α : Type} {o : Out α} {P : α → Sl → Prop} {a : α} {e : Sl} (h : o = .ok a e) : OutP o P = P a e := by rw [h]; rfl
/-! ### draws -/
end AR

set_option Elab.async false
set_option linter.all false
set_option maxRecDepth 100000
namespace AR
open PySem PySem.Spec PyProof.Rows L2

/-! ### pairs of numbers, sorted -/
abbrev Pr := Int × Int
def pairD (p : Pr) : D := .tup [.int p.1, .int p.2]
def asP : D → Option Pr
  | .tup [.int a, .int b] => some (a, b)
  | _ => none
def allP : List D → Option (List Pr)
  | [] => some []
  | d :: ds => (asP d).bind fun p => (allP ds).map (p :: ·)
theorem asP_some {d : D} {p : Pr} (h : asP d = some p) : d = pairD p := by
  unfold asP at h
  split at h
  · rw [← Option.some.inj h]; rfl
  · cases h
theorem allP_eq : ∀ {ds : List D} {ps : List Pr}, allP ds = some ps → ds = ps.map pairD
  | [], _, h => by simp only [allP] at h; rw [← Option.some.inj h]; rfl
  | d :: ds, _, h => by
    simp only [allP] at h
    cases hd : asP d with
    | none => rw [hd] at h; cases h
    | some p =>
      rw [hd] at h
      cases hs : allP ds with
      | none => rw [hs] at h; cases h
      | some qs =>
        rw [hs] at h
        rw [← Option.some.inj h, asP_some hd, allP_eq hs]; rfl
theorem asP_pair (p : Pr) : asP (pairD p) = some p := rfl
theorem allP_map (ps : List Pr) : allP (ps.map pairD) = some ps := by
  induction ps with
  | nil => rfl
  | cons p ps ih => simp [allP, asP_pair, ih]
def leP (p q : Pr) : Bool := decide (p.1 < q.1 ∨ (p.1 = q.1 ∧ p.2 ≤ q.2))
def LeP (p q : Pr) : Prop := p.1 < q.1 ∨ (p.1 = q.1 ∧ p.2 ≤ q.2)
def LtP (p q : Pr) : Prop := p.1 < q.1 ∨ (p.1 = q.1 ∧ p.2 < q.2)
def sortP (ps : List Pr) : List Pr := ps.mergeSort leP
theorem sortP_perm (ps : List Pr) : (sortP ps).Perm ps := List.mergeSort_perm ps leP
theorem sortP_sorted (ps : List Pr) : (sortP ps).Pairwise LeP := by
  have := List.pairwise_mergeSort (le := leP) (fun a b c h1 h2 => by simp only [leP, decide_eq_true_eq] at *; omega) (fun a b => by simp only [leP, Bool.or_eq_true, decide_eq_true_eq]; omega) ps
  exact this.imp (fun h => of_decide_eq_true h)
theorem LeP.antisymm {p q : Pr} (h1 : LeP p q) (h2 : LeP q p) : p = q := by
  unfold LeP at h1 h2
  have a : p.1 = q.1 := by omega
  have b : p.2 = q.2 := by omega
  exact Prod.ext a b
theorem sortedP_eq : ∀ {xs ys : List Pr}, xs.Perm ys → xs.Pairwise LeP → ys.Pairwise LeP → xs = ys
  | [], ys, h, _, _ => (List.Perm.nil_eq h)
  | x :: xs, [], h, _, _ => by have := h.length_eq; simp at this
  | x :: xs, y :: ys, h, h1, h2 => by
    rw [List.pairwise_cons] at h1 h2
    have e : x = y := by
      have m1 : x ∈ y :: ys := h.mem_iff.mp List.mem_cons_self
      have m2 : y ∈ x :: xs := h.mem_iff.mpr List.mem_cons_self
      rcases List.mem_cons.mp m1 with z | z
      · exact z
      · rcases List.mem_cons.mp m2 with w | w
        · exact w.symm
        · exact LeP.antisymm (h1.1 y w) (h2.1 x z)
    subst e
    rw [sortedP_eq (List.Perm.cons_inv h) h1.2 h2.2]
theorem sortP_eq {xs ps : List Pr} (h : xs.Perm ps) (h1 : xs.Pairwise LeP) : xs = sortP ps := sortedP_eq (h.trans (sortP_perm ps).symm) h1 (sortP_sorted ps)
/-- which pair stands there -/
def kOf (H : Hp) (v : V) : Pr := match v with
  | .ref t => (match H t with
    | some (.tup [.int a, .int b]) => (a, b)
    | _ => (0, 0))
  | _ => (0, 0)
theorem FzL.pairs {F : Hp} : ∀ {ps : List Pr} {vs : List V}, FzL F (ps.map pairD) vs → (∀ v ∈ vs, ∃ t, v = .ref t ∧ F t = some (.tup [.int (kOf F v).1, .int (kOf F v).2])) ∧ vs.map (kOf F) = ps
  | [], _, h => by
    simp only [List.map_nil, FzL] at h
    subst h
    exact ⟨fun v h => (by cases h), rfl⟩
  | p :: ps, _, h => by
    simp only [List.map_cons, FzL] at h
    obtain ⟨v, r, rfl, h1, h2⟩ := h
    obtain ⟨i1, i2⟩ := FzL.pairs h2
    simp only [pairD, Fz, FzL] at h1
    obtain ⟨t, ws, rfl, ht, a, q, rfl, ra, b, q', rfl, rb, rfl⟩ := h1
    subst ra rb
    have hk : kOf F (.ref t) = p := by simp [kOf, ht]
    refine ⟨fun u hu => ?_, by simp [hk, i2]⟩
    rcases List.mem_cons.mp hu with rfl | hu
    · exact ⟨t, rfl, by rw [hk]; exact ht⟩
    · exact i1 u hu
theorem FzL.ofPairs {F : Hp} : ∀ {vs : List V}, (∀ v ∈ vs, ∃ t, v = .ref t ∧ F t = some (.tup [.int (kOf F v).1, .int (kOf F v).2])) → FzL F ((vs.map (kOf F)).map pairD) vs
  | [], _ => rfl
  | v :: vs, h => by
    simp only [List.map_cons, FzL]
    refine ⟨v, vs, rfl, ?_, FzL.ofPairs fun u hu => h u (by simp [hu])⟩
    obtain ⟨t, e, ht⟩ := h v (by simp)
    simp only [pairD, Fz, FzL]
    exact ⟨t, _, e, ht, _, _, rfl, rfl, _, _, rfl, rfl, rfl⟩
theorem kOf_mono {F H : Hp} (s : Same F H) {v : V} {t : Addr} {a b : Int} (e : v = .ref t) (h : F t = some (.tup [.int a, .int b])) : kOf H v = kOf F v := by
  subst e
  simp [kOf, h, s _ _ h]
def fSortP : List Rv → Option Rv
  | [(_, .lst ds)] => (allP ds).map fun ps => (some 1, .lst ((sortP ps).map pairD))
  | _ => none
theorem depL_pairs (ps : List Pr) : depL (ps.map pairD) = 0 := by
  induction ps with
  | nil => rfl
  | cons p ps ih => simp [depL, pairD, D.dep, ih]
theorem srtd_pairs {k : V → Pr} {ys : List V} (h : SrtO.Srtd (ltP k) ys) : (ys.map k).Pairwise LeP := by
  rw [List.pairwise_map]
  refine List.Pairwise.imp (fun {a b} hab => ?_) h
  have := SrtO.lexB_no.mp hab
  unfold LeP
  omega
theorem p_sortP {K : PySem.W.Frag} : PcR (rSortedPO K) fSortP := by
  intro q F H e σ A F1 H1 e1 A1 B vs as x Q g xa hf k
  unfold fSortP at hf
  split at hf
  · rename_i k1 ds
    cases hx : allP ds with
    | none => rw [hx] at hf; cases hf
    | some ps =>
      rw [hx] at hf
      obtain rfl := Option.some.inj hf
      have hds := allP_eq hx
      subst hds
      obtain ⟨v, rfl, y⟩ := xa.one
      obtain ⟨F2, a, ws, g2, s2, n2, rfl, h2, f2⟩ := Got.items (C := []) (by rw [List.append_nil]; exact g) y (fun a h => by cases h) (by rw [depL_pairs]; simp)
      obtain ⟨i1, i2⟩ := f2.pairs
      refine ⟨a, ws, kOf F2, rfl, .inl (.inl h2), fun v hv => ?_, fun ys p h3 h4 hp => ?_⟩
      · obtain ⟨t, e, ht⟩ := i1 v hv
        exact ⟨t, e, g2.rel.sm _ _ ht⟩
      · have hm : ys.map (kOf F2) = sortP ps := by
          refine sortP_eq ?_ (srtd_pairs h3)
          rw [← i2]
          exact h4.perm.map _
        have fz := FzL.ofPairs (F := F2) (vs := ys) fun v hv => i1 v (h4.perm.mem_iff.mp hv)
        rw [hm] at fz
        obtain ⟨g5, y5⟩ := g2.fin fz hp
        exact k _ _ _ _ g5 y5
  · cases hf
/-! ### sum, max, min of a list of numbers -/
def fSumL : List D → Option D
  | [.lst ds] => (allI ds).map fun ns => .int ns.sum
  | _ => none
def maxI : List Int → Option Int
  | [] => none
  | x :: xs => some (xs.foldl max x)
def minI : List Int → Option Int
  | [] => none
  | x :: xs => some (xs.foldl min x)
theorem foldl_max : ∀ (xs : List Int) (x : Int), (xs.foldl max x ∈ x :: xs) ∧ ∀ y ∈ x :: xs, y ≤ xs.foldl max x
  | [], x => by simp
  | z :: xs, x => by
    obtain ⟨h1, h2⟩ := foldl_max xs (max x z)
    simp only [List.foldl_cons]
    refine ⟨?_, fun y hy => ?_⟩
    · rcases List.mem_cons.mp h1 with h | h
      · rw [h]
        rcases Int.le_total x z with q | q
        · rw [Int.max_eq_right q]; simp
        · rw [Int.max_eq_left q]; simp
      · simp [h]
    · have h3 := h2 (max x z) (by simp)
      rcases List.mem_cons.mp hy with rfl | hy
      · omega
      · rcases List.mem_cons.mp hy with rfl | hy
        · omega
        · exact h2 y (by simp [hy])
theorem foldl_min : ∀ (xs : List Int) (x : Int), (xs.foldl min x ∈ x :: xs) ∧ ∀ y ∈ x :: xs, xs.foldl min x ≤ y
  | [], x => by simp
  | z :: xs, x => by
    obtain ⟨h1, h2⟩ := foldl_min xs (min x z)
    simp only [List.foldl_cons]
    refine ⟨?_, fun y hy => ?_⟩
    · rcases List.mem_cons.mp h1 with h | h
      · rw [h]
        rcases Int.le_total x z with q | q
        · rw [Int.min_eq_left q]; simp
        · rw [Int.min_eq_right q]; simp
      · simp [h]
    · have h3 := h2 (min x z) (by simp)
      rcases List.mem_cons.mp hy with rfl | hy
      · omega
      · rcases List.mem_cons.mp hy with rfl | hy
        · omega
        · exact h2 y (by simp [hy])
def fMaxL : List D → Option D
  | [.lst ds] => (allI ds).bind fun ns => (maxI ns).map D.int
  | _ => none
def fMinL : List D → Option D
  | [.lst ds] => (allI ds).bind fun ns => (minI ns).map D.int
  | _ => none
theorem p_sumL {K : PySem.W.Frag} : PcR (rSum K) (flatN fSumL) := PcR.flat (r := rSum K) (f := fSumL) fun H vs ds x Q hv hf => by
  unfold fSumL at hf
  split at hf
  · rename_i es
    obtain ⟨v, rfl, h⟩ := hv.one
    cases hx : allI es with
    | none => rw [hx] at hf; cases hf
    | some ns =>
      rw [hx] at hf
      obtain rfl := Option.some.inj hf
      rw [allI_eq hx] at h
      simp only [Fz] at h
      obtain ⟨a, ws, rfl, h1, h2⟩ := h
      have := h2.ints
      subst this
      exact ⟨rfl, fun k => ⟨a, ns, rfl, .inl (.inl h1), k _ (by simp only [Fz])⟩⟩
  · cases hf
theorem p_maxL {K : PySem.W.Frag} : PcR (rMax K) (flatN fMaxL) := PcR.flat (r := rMax K) (f := fMaxL) fun H vs ds x Q hv hf => by
  unfold fMaxL at hf
  split at hf
  · rename_i es
    obtain ⟨v, rfl, h⟩ := hv.one
    cases hx : allI es with
    | none => rw [hx] at hf; cases hf
    | some ns =>
      rw [hx] at hf
      simp only [Option.bind_some] at hf
      cases ns with
      | nil => cases hf
      | cons n ns =>
        obtain rfl := Option.some.inj hf
        rw [allI_eq hx] at h
        simp only [Fz] at h
        obtain ⟨a, ws, rfl, h1, h2⟩ := h
        have := h2.ints
        subst this
        refine ⟨rfl, fun k => ⟨a, n :: ns, rfl, .inl (.inl h1), by simp, fun m h3 h4 => ?_⟩⟩
        obtain ⟨f1, f2⟩ := foldl_max ns n
        have e : m = ns.foldl max n := Int.le_antisymm (f2 m h3) (h4 _ f1)
        exact k _ (by simp only [Fz, e])
  · cases hf
theorem p_minL {K : PySem.W.Frag} : PcR (rMin K) (flatN fMinL) := PcR.flat (r := rMin K) (f := fMinL) fun H vs ds x Q hv hf => by
  unfold fMinL at hf
  split at hf
  · rename_i es
    obtain ⟨v, rfl, h⟩ := hv.one
    cases hx : allI es with
    | none => rw [hx] at hf; cases hf
    | some ns =>
      rw [hx] at hf
      simp only [Option.bind_some] at hf
      cases ns with
      | nil => cases hf
      | cons n ns =>
        obtain rfl := Option.some.inj hf
        rw [allI_eq hx] at h
        simp only [Fz] at h
        obtain ⟨a, ws, rfl, h1, h2⟩ := h
        have := h2.ints
        subst this
        refine ⟨rfl, fun k => ⟨a, n :: ns, rfl, .inl (.inl h1), by simp, fun m h3 h4 => ?_⟩⟩
        obtain ⟨f1, f2⟩ := foldl_min ns n
        have e : m = ns.foldl min n := Int.le_antisymm (h4 _ f1) (f2 m h3)
        exact k _ (by simp only [Fz, e])
  · cases hf
section
variable {X : Cx} {W : WX} {q qa qb : Bool} {a b c : Expr} {ta tb : TE} {t : TA} {sa sb : M Rv} {s : M (List Rv)} {pos p pr tpos : Pos}
theorem ev_sortP {p : Pos} (hc : X.calm = true) (hm : X.mg "sorted" = none) (hg : Gl X "sorted") (ha : AV X W qa [a] t s) (he : starEach [a] X.env = (false, eval a X.env) :: starEach [] X.env := by rfl) (hpl : (backTo pos (starEach [] X.env)).any (·.1) = false := by rfl) {K : PySem.W.Frag} (hK : X.K = K := by rfl) : EV X W qa (.Call (.Name "sorted" p) [a] [] pos) (tCB (rSortedPO K) t) (sCall1 fSortP s) := by
  subst hK; exact ev_callB cr_sortedPO p_sortP hg hm (by decide +kernel) ha (by decide) (by decide) he hpl
theorem ev_sumL {p : Pos} (hc : X.calm = true) (hm : X.mg "sum" = none) (hg : Gl X "sum") (ha : AV X W qa [a] t s) (he : starEach [a] X.env = (false, eval a X.env) :: starEach [] X.env := by rfl) (hpl : (backTo pos (starEach [] X.env)).any (·.1) = false := by rfl) {K : PySem.W.Frag} (hK : X.K = K := by rfl) : EV X W qa (.Call (.Name "sum" p) [a] [] pos) (tCB (rSum K) t) (sCall1 (flatN fSumL) s) := by
  subst hK; exact ev_callB (cr_sum hc) p_sumL hg hm (by decide +kernel) ha (by decide) (by decide) he hpl
theorem ev_maxL {p : Pos} (hc : X.calm = true) (hm : X.mg "max" = none) (hg : Gl X "max") (ha : AV X W qa [a] t s) (he : starEach [a] X.env = (false, eval a X.env) :: starEach [] X.env := by rfl) (hpl : (backTo pos (starEach [] X.env)).any (·.1) = false := by rfl) {K : PySem.W.Frag} (hK : X.K = K := by rfl) : EV X W qa (.Call (.Name "max" p) [a] [] pos) (tCB (rMax K) t) (sCall1 (flatN fMaxL) s) := by
  subst hK; exact ev_callB (cr_max hc) p_maxL hg hm (by decide +kernel) ha (by decide) (by decide) he hpl
theorem ev_minL {p : Pos} (hc : X.calm = true) (hm : X.mg "min" = none) (hg : Gl X "min") (ha : AV X W qa [a] t s) (he : starEach [a] X.env = (false, eval a X.env) :: starEach [] X.env := by rfl) (hpl : (backTo pos (starEach [] X.env)).any (·.1) = false := by rfl) {K : PySem.W.Frag} (hK : X.K = K := by rfl) : EV X W qa (.Call (.Name "min" p) [a] [] pos) (tCB (rMin K) t) (sCall1 (flatN fMinL) s) := by
  subst hK; exact ev_callB (cr_min hc) p_minL hg hm (by decide +kernel) ha (by decide) (by decide) he hpl
/-! ### range downwards, enumerate, zip -/
def downto (lo : Int) (n : Nat) : List D := (List.range n).map fun (i : Nat) => D.int (lo + (i : Nat) * (-1))
def itR3 (rs : List Rv) : Option (List D) := match rs with
  | [(_, .int i), (_, .int j), (_, .int c)] => if (inR i && inR j && decide (c = -1)) = true then some (downto i (i - j).toNat) else none
  | _ => none
theorem downto_length (lo : Int) (n : Nat) : (downto lo n).length = n := by simp [downto]
theorem downto_get {lo : Int} {n i : Nat} {d : D} (h : (downto lo n)[i]? = some d) : d = .int (lo + (i : Nat) * (-1)) := by
  unfold downto at h
  rw [List.getElem?_map] at h
  cases hr : (List.range n)[i]? with
  | none => rw [hr] at h; cases h
  | some j =>
    rw [hr] at h
    have := List.getElem?_range (i := i) (n := n) (by have := lt_of_get hr; simpa using this)
    rw [hr] at this
    obtain rfl := Option.some.inj this
    exact (Option.some.inj h).symm
theorem FzL.three {H : Hp} {d d' d'' : D} {vs : List V} (h : FzL H [d, d', d''] vs) : ∃ v v' v'', vs = [v, v', v''] ∧ Fz H d v ∧ Fz H d' v' ∧ Fz H d'' v'' := by
  simp only [FzL] at h
  obtain ⟨v, r, rfl, h1, v', r', rfl, h2, v'', r'', rfl, h3, rfl⟩ := h
  exact ⟨v, v', v'', rfl, h1, h2, h3⟩
theorem iv_range3 {tg : Expr} {ta : TA} {sa : M (List Rv)} (hg : Gl X "range") (hm : X.mg "range" = none) (h : AV X W q [a, b, c] ta sa) (hs : starEach [a, b, c] X.env = (false, eval a X.env) :: starEach [b, c] X.env := by rfl) (hpl : (backTo pos (starEach [b, c] X.env)).any (·.1) = false := by rfl) : IV X W q tg (.Call (.Name "range" pr) [a, b, c] [] pos) (iRng3 ta) (mbind sa fun r => mopt (itR3 r)) := by
  refine ⟨pi_range3 hg hm h.pe hs hpl, SX.iter (k := itR3) (T := fun (vs : List V) H R => ∃ (i j c : Int) (n : Nat), vs = [V.int i, V.int j, V.int c] ∧ RgC i j c n ∧ R (Itc i c n) H) h.se fun F H e σ A F1 H1 e1 A1 B r v ds R Rl gt y hk k => ?_⟩
  unfold itR3 at hk
  split at hk
  · rename_i k1 i k2 j k3 c
    split at hk
    · rename_i ok
      obtain rfl := Option.some.inj hk
      obtain ⟨v, w, z, rfl, f, f', f''⟩ := (IsRs.read gt.rel.sm y).three
      simp only [Fz] at f f' f''
      subst f f' f''
      simp only [Bool.and_eq_true, decide_eq_true_eq] at ok
      obtain ⟨⟨o1, o2⟩, rfl⟩ := ok
      have o1 := inR_ok o1
      have o2 := inR_ok o2
      refine ⟨i, j, -1, (i - j).toNat, rfl, RgC.neg o1.1 o1.2 o2.1 o2.2, k F1 _ (gt.sub (List.nil_sublist _)) ?_⟩
      exact ItR.fn walk_rangeC (downto_length _ _).symm (fun _ _ => trivial) fun i d h F => by rw [downto_get h]; simp only [Fz]
    · cases hk
  · cases hk
def enumD (i : Nat) : List D → List D
  | [] => []
  | d :: ds => .tup [.int i, d] :: enumD (i + 1) ds
theorem enumD_length : ∀ (ds : List D) (i : Nat), (enumD i ds).length = ds.length
  | [], _ => rfl
  | d :: ds, i => by simp [enumD, enumD_length ds]
theorem enumD_get : ∀ {ds : List D} {i j : Nat} {d : D}, (enumD i ds)[j]? = some d → ∃ c, ds[j]? = some c ∧ d = .tup [.int ((i + j : Nat) : Int), c]
  | [], _, _, _, h => by simp [enumD] at h
  | c :: ds, i, 0, d, h => by simp [enumD] at h; exact ⟨c, rfl, by simp [h]⟩
  | c :: ds, i, j + 1, d, h => by
    obtain ⟨c', h1, h2⟩ := enumD_get (ds := ds) (i := i + 1) (j := j) (by simpa [enumD] using h)
    refine ⟨c', by simpa using h1, ?_⟩
    rw [h2, show i + 1 + j = i + (j + 1) by omega]
def itEn (r : Rv) : Option (List D) := match r with
  | (k, .lst ds) => if k.isSome = true then some (enumD 0 ds) else none
  | _ => none
def asL (s : M Rv) : M (List Rv) := mbind s fun r => mret [r]
theorem av_one {es : List Expr} (h : EV X W q a ta sa) (hst : starEach [a] X.env = (false, eval a X.env) :: starEach [] X.env := by rfl) : AV X W q [a] (tCons ta tNil) (asL sa) := by
  refine ⟨pa_cons h.pe pa_nil hst, ?_⟩
  refine SX.bind (J := IsRs) (f := fun r => mret [r]) (k := fun x σ H1 Q => Q [x] H1) id h.se fun F H e σ A F1 H1 e1 A1 B r v Q R g x p => ?_
  refine p F1 H1 A1 B [v] g ?_
  simp only [IsRs]
  exact ⟨v, [], B, [], rfl, by simp, x, rfl, rfl⟩
theorem iv_enum {elts : List Expr} {kk : Nat} (hg : Gl X "enumerate") (hm : X.mg "enumerate" = none) (h : EV X W q a ta sa) (hs : starEach [a] X.env = [(false, eval a X.env)] := by rfl) {K : PySem.W.Frag} (hK : X.K = K := by rfl) : IV X W q (.Tuple elts kk tpos) (.Call (.Name "enumerate" pr) [a] [] pos) (iEnum K (tCons ta tNil)) (mbind sa fun r => mopt (itEn r)) := by
  subst hK
  have av : AV X W q [a] (tCons ta tNil) (asL sa) := av_one (es := []) h (by rw [hs]; rfl)
  refine ⟨pi_enum hg hm av.pe hs, ?_⟩
  refine SX.iter (k := itEn) (T := fun (v : V) H R => ∃ a xs, [v] = [V.ref a] ∧ SqL X.K H a xs ∧ R (Ite X.K a) H) h.se fun F H e σ A F1 H1 e1 A1 B r v ds R Rl gt y hk k => ?_
  unfold itEn at hk
  split at hk
  · rename_i k1 ds'
    split at hk
    · rename_i ok
      obtain rfl := Option.some.inj hk
      obtain ⟨F2, g2, s2, n2, f2⟩ := Got.toFz (C := []) (by rw [List.append_nil]; exact gt) y (fun a h => by cases h) (by unfold canFz; simp [ok])
      simp only [Fz] at f2
      obtain ⟨a, vs, rfl, h1, h2⟩ := f2
      refine ⟨a, vs, rfl, .inl (.inl (g2.rel.sm _ _ h1)), k F2 _ g2 (ItR.pair (walk_enum (K := X.K) (a := a) (xs := vs)) (by rw [enumD_length]; exact h2.length) (fun H s => .inl (.inl (s _ _ h1))) fun j d hj => ?_)⟩
      obtain ⟨c, hc, rfl⟩ := enumD_get hj
      refine ⟨_, _, rfl, fun v hv => ?_, fun v hv => ?_⟩
      · cases hv; simp only [Fz]; simp
      · obtain ⟨v', e1, e2⟩ := h2.get hc
        rw [hv] at e1
        cases e1
        exact e2
    · cases hk
  · cases hk
def zipD : List D → List D → List D
  | d :: ds, e :: es => .tup [d, e] :: zipD ds es
  | _, _ => []
theorem zipD_length : ∀ (ds es : List D), (zipD ds es).length = min ds.length es.length
  | [], _ => by simp [zipD]
  | _ :: _, [] => by simp [zipD]
  | d :: ds, e :: es => by simp only [zipD, List.length_cons, zipD_length ds es]; omega
theorem zipD_get : ∀ {ds es : List D} {j : Nat} {d : D}, (zipD ds es)[j]? = some d → ∃ c c', ds[j]? = some c ∧ es[j]? = some c' ∧ d = .tup [c, c']
  | [], _, _, _, h => by simp [zipD] at h
  | _ :: _, [], _, _, h => by simp [zipD] at h
  | c :: ds, c' :: es, 0, d, h => by simp [zipD] at h; exact ⟨c, c', rfl, rfl, h.symm⟩
  | c :: ds, c' :: es, j + 1, d, h => by
    obtain ⟨x, y, h1, h2, h3⟩ := zipD_get (ds := ds) (es := es) (j := j) (by simpa [zipD] using h)
    exact ⟨x, y, by simpa using h1, by simpa using h2, h3⟩
def itZip (rs : List Rv) : Option (List D) := match rs with
  | [(k, .lst ds), (l, .lst es)] => if (k.isSome && l.isSome) = true then some (zipD ds es) else none
  | [(k, .tup ds), (l, .tup es)] => if ((k.isSome || depL ds == 0) && (l.isSome || depL es == 0)) = true then some (zipD ds es) else none
  | _ => none
theorem IsRs.two' {F H : Hp} {r r' : Rv} {vs : List V} {B : List Addr} (x : IsRs F H [r, r'] vs B) : ∃ v v' C E, vs = [v, v'] ∧ B = C ++ E ∧ IsR F H r v C ∧ IsR F H r' v' E := by
  simp only [IsRs] at x
  obtain ⟨v, w, C, E, rfl, rfl, x1, v', w', C', E', rfl, rfl, x2, rfl, rfl⟩ := x
  exact ⟨v, v', C, C', rfl, by simp, x1, x2⟩
theorem walk_zipT {K : PySem.W.Frag} {a b : Addr} {xs ys : List V} {n : Nat} (hn : n = min xs.length ys.length) : Walk (RZ.ItzT K a b) n (fun H => SqT K H a xs ∧ SqT K H b ys) (YPair (fun i => xs[i]?) (fun i => ys[i]?)) := by
  subst hn
  refine ⟨fun i _ hi q => ?_, fun _ q => ⟨xs, ys, q.1, q.2, by omega⟩, fun i H v H' _ q y => ?_⟩
  · have h1 : i < xs.length := by omega
    have h2 : i < ys.length := by omega
    exact ⟨xs, ys, xs[i], ys[i], q.1, q.2, by simp [h1], by simp [h2]⟩
  · obtain ⟨T, x, z, h1, h2, h3, h4, h5⟩ := y
    exact ⟨T, x, z, h1, h2, h3, h4 xs q.1, h5 ys q.2⟩
theorem iv_zip {elts : List Expr} {kk : Nat} {ta : TA} {sa : M (List Rv)} (hg : Gl X "zip") (hm : X.mg "zip" = none) (h : AV X W q [a, b] ta sa) (hs : starEach [a, b] X.env = (false, eval a X.env) :: starEach [b] X.env := by rfl) (hpl : (backTo pos (starEach [b] X.env)).any (·.1) = false := by rfl) {K : PySem.W.Frag} (hK : X.K = K := by rfl) : IV X W q (.Tuple elts kk tpos) (.Call (.Name "zip" pr) [a, b] [] pos) (RZ.iZipA K ta) (mbind sa fun r => mopt (itZip r)) := by
  subst hK
  refine ⟨RZ.pi_zipA hg hm h.pe hs hpl, ?_⟩
  refine SX.iter (k := itZip) (T := fun (vs : List V) H R => ∃ a b xs ys, vs = [V.ref a, V.ref b] ∧ ((SqL X.K H a xs ∧ SqL X.K H b ys ∧ R (Itz X.K a b) H) ∨ (SqT X.K H a xs ∧ SqT X.K H b ys ∧ R (RZ.ItzT X.K a b) H))) h.se fun F H e σ A F1 H1 e1 A1 B r v ds R Rl gt y hk k => ?_
  unfold itZip at hk
  split at hk
  · rename_i k1 ds' k2 es'
    split at hk
    · rename_i ok
      simp only [Bool.and_eq_true] at ok
      obtain rfl := Option.some.inj hk
      obtain ⟨v1, v2, C, E, rfl, rfl, x1, x2⟩ := y.two'
      obtain ⟨F2, g2, s2, n2, f2⟩ := gt.toFz x1 (IsR.own x2) (by unfold canFz; simp [ok.1])
      obtain ⟨F3, g3, s3, n3, f3⟩ := Got.toFz (C := []) (by rw [List.append_nil]; exact g2) (x2.keepF s2 n2) (fun a h => by cases h) (by unfold canFz; simp [ok.2])
      have f2 := Fz.mono s3 _ _ f2
      simp only [Fz] at f2 f3
      obtain ⟨a, xs, rfl, h1, h2⟩ := f2
      obtain ⟨b, ys, rfl, h3, h4⟩ := f3
      refine ⟨a, b, xs, ys, rfl, .inl ⟨.inl (.inl (g3.rel.sm _ _ h1)), .inl (.inl (g3.rel.sm _ _ h3)), k F3 _ g3 (ItR.pair (walk_zip (K := X.K) (a := a) (b := b) (xs := xs) (ys := ys) rfl) (by rw [zipD_length, h2.length, h4.length]) (fun H s => ⟨.inl (.inl (s _ _ h1)), .inl (.inl (s _ _ h3))⟩) fun j d hj => ?_)⟩⟩
      obtain ⟨c, c', hc, hc', rfl⟩ := zipD_get hj
      refine ⟨_, _, rfl, fun v hv => ?_, fun v hv => ?_⟩
      · obtain ⟨v', e1, e2⟩ := h2.get hc
        rw [hv] at e1; cases e1; exact e2
      · obtain ⟨v', e1, e2⟩ := h4.get hc'
        rw [hv] at e1; cases e1; exact e2
    · cases hk
  · rename_i k1 ds' k2 es'
    split at hk
    · rename_i ok
      simp only [Bool.and_eq_true] at ok
      obtain rfl := Option.some.inj hk
      obtain ⟨v1, v2, C, E, rfl, rfl, x1, x2⟩ := y.two'
      obtain ⟨F2, g2, s2, n2, f2⟩ := gt.toFz x1 (IsR.own x2) (by unfold canFz; simpa [D.dep] using ok.1)
      obtain ⟨F3, g3, s3, n3, f3⟩ := Got.toFz (C := []) (by rw [List.append_nil]; exact g2) (x2.keepF s2 n2) (fun a h => by cases h) (by unfold canFz; simpa [D.dep] using ok.2)
      have f2 := Fz.mono s3 _ _ f2
      simp only [Fz] at f2 f3
      obtain ⟨a, xs, rfl, h1, h2⟩ := f2
      obtain ⟨b, ys, rfl, h3, h4⟩ := f3
      have w := walk_zipT (K := X.K) (a := a) (b := b) (xs := xs) (ys := ys) rfl
      refine ⟨a, b, xs, ys, rfl, .inr ⟨.inl (.inl (g3.rel.sm _ _ h1)), .inl (.inl (g3.rel.sm _ _ h3)), k F3 _ g3 (ItR.pair w (by rw [zipD_length, h2.length, h4.length]) (fun H s => ⟨.inl (.inl (s _ _ h1)), .inl (.inl (s _ _ h3))⟩) fun j d hj => ?_)⟩⟩
      obtain ⟨c, c', hc, hc', rfl⟩ := zipD_get hj
      refine ⟨_, _, rfl, fun v hv => ?_, fun v hv => ?_⟩
      · obtain ⟨v', e1, e2⟩ := h2.get hc
        rw [hv] at e1; cases e1; exact e2
      · obtain ⟨v', e1, e2⟩ := h4.get hc'
        rw [hv] at e1; cases e1; exact e2
    · cases hk
  · cases hk
end
end AR

set_option Elab.async false
set_option linter.all false
set_option maxRecDepth 100000
namespace AR
open PySem PySem.Spec PyProof.Rows L2

/-! ### sorted(d), the keys pairs of numbers -/
def rSortedDT : List V → Hp → VK → Prop := fun xs H Q => ∃ (d : Addr) (kvs : List (List Key × V)) (ps : List Pr), xs = [V.ref d] ∧ Rd H d (.dT kvs) ∧ kvs.map (·.1) = ps.map (fun p => [Sum.inl p.1, Sum.inl p.2]) ∧
  ∀ (ys : List V) (p : Addr), (∀ y ∈ ys, ∃ t, y = V.ref t ∧ H t = some (.tup [.int (kOf H y).1, .int (kOf H y).2])) → (ys.map (kOf H)).Perm ps → (ys.map (kOf H)).Pairwise LeP → H p = none → Q (.ref p) (upd H p (.lst ys))
theorem isKeys_pairs {H : Hp} : ∀ {kvs : List (List Key × V)} {bs : List Addr} {ps : List Pr}, IsKeys H kvs bs → kvs.map (·.1) = ps.map (fun p => [Sum.inl p.1, Sum.inl p.2]) → (∀ b ∈ bs, H b = some (.tup [.int (kOf H (.ref b)).1, .int (kOf H (.ref b)).2])) ∧ bs.map (fun b => kOf H (.ref b)) = ps
  | _, _, [], .nil, _ => ⟨fun b h => (by cases h), rfl⟩
  | _, _, p :: ps, .nil, h => by simp at h
  | _, _, [], .cons _ _, h => by simp at h
  | _, _, p :: ps, .cons (b := b) hd tl, h => by
    simp only [List.map_cons, List.cons.injEq] at h
    obtain ⟨i1, i2⟩ := isKeys_pairs tl h.2
    have hb : H b = some (.tup [.int p.1, .int p.2]) := by
      have := hd
      rw [h.1] at this
      exact this
    have hk : kOf H (.ref b) = p := by simp [kOf, hb]
    refine ⟨fun c hc => ?_, by simp [hk, i2]⟩
    rcases List.mem_cons.mp hc with rfl | hc
    · rw [hk]; exact hb
    · exact i1 c hc
theorem cr_sortedDT {X : Cx} (hc : X.calm = true) : CallR X (.builtin "sorted") rSortedDT := by
  intro pins s σ H xs us Q I r h
  obtain ⟨d, kvs, ps, rfl, hd, hps, q⟩ := h
  obtain ⟨u, rfl, rx⟩ := r.one
  cases rx
  obtain ⟨z, hs, ks, pr, o, es, ep, ho, hx, hdt, he, hn⟩ := (show ObjOk X.prog X.w H s.heap d (.dT kvs) from hd.ok I.hok)
  have l1 : es.size = ks.length := size_of_entries he
  have l2 : kvs.length = ks.length := Paired.length pr
  refine Calls.call_function_entry PyProof.Rows.kind_sorted PyProof.Rows.plain_sorted PyProof.Rows.entry_sorted (PyProof.Rows.args_sorted1 _) ?_
  unfold Builtin.«sorted»
  refine wpAny_bind (m := checkCount "sorted" 1 1 _) (wpAny_pure ?_)
  refine wpAny_bind (PySem.W.kdu_collect (A := X.A.in1) (kdl_raw hs hx hdt) (I.ok.hd hc) ho (by omega) fun h' tk acc' kp it => ?_)
  have ea : acc'.toList = ks.map fun x => Value.ref x.2.1 := by
    have hl : acc'.toList.length = ks.length := by rw [Array.length_toList, it.1]; exact l1
    apply List.ext_getElem?
    intro j
    rw [List.getElem?_map]
    cases hj : acc'.toList[j]? with
    | none =>
      have h1 := List.getElem?_eq_none_iff.mp hj
      rw [List.getElem?_eq_none (by omega)]
      all_goals rfl
    | some v =>
      obtain ⟨en, hen, hv⟩ := it.2 j v (by rw [← Array.getElem?_toList]; exact hj)
      have qe := entry_at he j
      rw [hen] at qe
      cases hb : ks[j]? with
      | none =>
        rw [hb] at qe
        exact nomatch (show some en = none from qe)
      | some b =>
        rw [hb] at qe
        have e2 : en = entryOfKey (tupleKind (mixKind X.prog X.w)) b := Option.some.inj qe
        rw [hv, e2]
        all_goals rfl
  obtain ⟨i1, i2⟩ := isKeys_pairs (isKeys_of pr) hps
  have I1 : Inv X pins σ H { s with heap := h', toks := tk } := I.kept kp
  have hlen : acc'.toList.length ≤ sizeLine := by rw [ea, List.length_map]; omega
  refine wpAny_bind (wpAny_newList ?_ hlen)
  have hoL : (h'.push (seqObj "list" acc'.toList.toArray 0)).get? h'.objs.size = some (seqObj "list" acc'.toList.toArray 0) := Heap.get?_push_size _ rfl
  show wpAny _ _ _ _ _ { s with heap := h'.push (seqObj "list" acc'.toList.toArray 0), toks := tk }
  have hpair : ∀ v ∈ acc'.toList, Srt.IsPair (h'.push (seqObj "list" acc'.toList.toArray 0)) v (kOf H (backV v)).1 (kOf H (backV v)).2 := fun v hv => by
    rw [ea] at hv
    obtain ⟨x, hx, rfl⟩ := List.mem_map.mp hv
    have hb := i1 x.2.1 (List.mem_map.mpr ⟨x, hx, rfl⟩)
    obtain ⟨_, its2, r2, o, ho, hc, n, hd⟩ := I1.hok _ _ hb
    obtain ⟨u1, u2, rfl, ri, rj⟩ := vals2 r2
    obtain ⟨t1, rfl⟩ := ri
    obtain ⟨t2, rfl⟩ := rj
    exact ⟨x.2.1, o, t1, t2, n, rfl, Heap.get?_push_of_some _ ho, hc, hd⟩
  refine wpAny_bind (wpAny_holding (wpAny_call_entry PyProof.Rows.slot_list_sort ⟨_, hoL, rfl⟩ PyProof.Rows.entry_list_sort
    (SrtO.list_sort_ord (s := { s with heap := h'.push (seqObj "list" acc'.toList.toArray 0), toks := tk }) (SrtO.swo_lex fun v => kOf H (backV v)) hoL hlen (fun h2 => ?_) fun out hs hb => ⟨_, rfl, ?_⟩) (PyProof.Rows.args_list_sort _)))
  · refine SrtO.pairs_sortableO (by omega) hpair fun o e => ?_
    have e' : some o = some (seqObj "list" acc'.toList.toArray 0) := e.symm.trans hoL
    cases e'
    intro c
    exact absurd (Value.type.inj c) (by decide)
  obtain ⟨e', he'⟩ := PyProof.Rows.sortedHeap_at (vs := acc'.toList) (out := out.toArray) hoL
  have hrefs : ∀ u ∈ out, ∃ a, u = Value.ref a := fun u hu => by
    have := hb.perm.mem_iff.mp hu
    rw [ea] at this
    obtain ⟨x, _, rfl⟩ := List.mem_map.mp this
    exact ⟨_, rfl⟩
  have hl2 : (out.map backV).length ≤ sizeLine := by rw [List.length_map, hb.perm.length_eq]; exact hlen
  have hmap : (out.map backV).map (kOf H) = out.map fun v => kOf H (backV v) := by rw [List.map_map]; rfl
  refine wpAny_pure ⟨_, rfl, .ref h'.objs.size, upd H h'.objs.size (.lst (out.map backV)), I1.laid (t' := tk) (fun b u e => ?_) (Nat.le_refl _)
    (show ObjOk X.prog X.w _ _ _ (.lst (out.map backV)) from ⟨hl2, out, e', vals_back hrefs, he'⟩), rfl, q _ _ (fun y hy => ?_) ?_ ?_ (I1.hok.fresh (Nat.le_refl _))⟩
  · have hb : b < h'.objs.size := Heap.lt_size e
    rw [PyProof.Rows.sortedHeap_old (Nat.ne_of_lt hb) (by rw [size_push']; exact Nat.lt_succ_of_lt hb)]
    exact Heap.get?_push_of_some _ e
  · obtain ⟨v, hv, rfl⟩ := List.mem_map.mp hy
    have := hb.perm.mem_iff.mp hv
    rw [ea] at this
    obtain ⟨x, hx, rfl⟩ := List.mem_map.mp this
    exact ⟨x.2.1, rfl, i1 _ (List.mem_map.mpr ⟨x, hx, rfl⟩)⟩
  · rw [hmap]
    have := hb.perm.map fun v => kOf H (backV v)
    rw [ea, List.map_map] at this
    rw [← i2, List.map_map]
    exact this
  · rw [hmap, List.pairwise_map]
    refine List.Pairwise.imp (fun {a b} hab => ?_) hs
    have := SrtO.lexB_no.mp hab
    unfold LeP
    omega
/-! ### dicts -/
def keyOf : D → Option (List Int)
  | .tup ds => allI ds
  | _ => none
def valD (kvs : List (List Int × D)) (k : List Int) : Option D := (kvs.find? fun kv => decide (kv.1 = k)).map (·.2)
def putD (kvs : List (List Int × D)) (k : List Int) (d : D) : List (List Int × D) :=
  if (kvs.any fun kv => decide (kv.1 = k)) = true then kvs.map (fun kv => if kv.1 = k then (kv.1, d) else kv) else kvs ++ [(k, d)]
abbrev kI (k : List Int) : List Key := k.map Sum.inl
theorem kI_inj {k l : List Int} : (kI k = kI l) ↔ k = l := by
  constructor
  · intro h
    exact (List.map_inj_right (fun a b e => Sum.inl.inj e)).mp h
  · rintro rfl; rfl
theorem kI_dec {k l : List Int} : decide (kI k = kI l) = decide (k = l) := by
  by_cases h : k = l
  · subst h; simp
  · simp [h, kI_inj]
theorem kI_kV (k : List Int) : (kI k).map kV = k.map V.int := by
  unfold kI; rw [List.map_map]; rfl
theorem FzK.length {F : Hp} : ∀ {kvs : List (List Int × D)} {ws : List (List Key × V)}, FzK F kvs ws → ws.length = kvs.length
  | [], _, h => by simp only [FzK] at h; subst h; rfl
  | (k, d) :: kvs, _, h => by
    simp only [FzK] at h
    obtain ⟨v, r, rfl, _, h2⟩ := h
    simp [FzK.length h2]
theorem FzK.val {F : Hp} {k : List Int} : ∀ {kvs : List (List Int × D)} {ws : List (List Key × V)}, FzK F kvs ws → (match valD kvs k with
    | some d => ∃ v, valV ws (kI k) = some v ∧ Fz F d v
    | none => valV ws (kI k) = none)
  | [], _, h => by simp only [FzK] at h; subst h; rfl
  | (k', d) :: kvs, _, h => by
    simp only [FzK] at h
    obtain ⟨v, r, rfl, h1, h2⟩ := h
    have ih := FzK.val (k := k) h2
    unfold valD valV at *
    simp only [List.find?_cons]
    rw [show (k'.map Sum.inl : List Key) = kI k' from rfl, kI_dec]
    by_cases e : k' = k
    · simp only [e, decide_true, Option.map_some]
      exact ⟨v, rfl, h1⟩
    · simp only [e, decide_false]
      exact ih
theorem FzK.any {F : Hp} {k : List Int} : ∀ {kvs : List (List Int × D)} {ws : List (List Key × V)}, FzK F kvs ws → (ws.any fun kv => decide (kv.1 = kI k)) = kvs.any fun kv => decide (kv.1 = k)
  | [], _, h => by simp only [FzK] at h; subst h; rfl
  | (k', d) :: kvs, _, h => by
    simp only [FzK] at h
    obtain ⟨v, r, rfl, h1, h2⟩ := h
    simp only [List.any_cons]
    rw [FzK.any h2, show (k'.map Sum.inl : List Key) = kI k' from rfl, kI_dec]
theorem FzK.app {F : Hp} {k : List Int} {d : D} {v : V} (y : Fz F d v) : ∀ {kvs : List (List Int × D)} {ws : List (List Key × V)}, FzK F kvs ws → FzK F (kvs ++ [(k, d)]) (ws ++ [(kI k, v)])
  | [], _, h => by
    simp only [FzK] at h; subst h
    simp only [List.nil_append, FzK]
    exact ⟨v, [], rfl, y, rfl⟩
  | (k', d') :: kvs, _, h => by
    simp only [FzK] at h
    obtain ⟨v', r, rfl, h1, h2⟩ := h
    simp only [List.cons_append, FzK]
    exact ⟨v', _, rfl, h1, FzK.app y h2⟩
theorem FzK.upd {F : Hp} {k : List Int} {d : D} {v : V} (y : Fz F d v) : ∀ {kvs : List (List Int × D)} {ws : List (List Key × V)}, FzK F kvs ws → FzK F (kvs.map (fun kv => if kv.1 = k then (kv.1, d) else kv)) (ws.map (fun kv => if kv.1 = kI k then (kv.1, v) else kv))
  | [], _, h => by simp only [FzK] at h; subst h; rfl
  | (k', d') :: kvs, _, h => by
    simp only [FzK] at h
    obtain ⟨v', r, rfl, h1, h2⟩ := h
    simp only [List.map_cons]
    by_cases e : k' = k
    · subst e
      simp only [if_true, FzK]
      exact ⟨v, _, rfl, y, FzK.upd y h2⟩
    · have e2 : ¬ (k'.map Sum.inl : List Key) = kI k := fun z => e (kI_inj.mp z)
      simp only [e, e2, if_false, FzK]
      exact ⟨v', _, rfl, h1, FzK.upd y h2⟩
theorem FzK.put {F : Hp} {k : List Int} {d : D} {v : V} {kvs : List (List Int × D)} {ws : List (List Key × V)} (h : FzK F kvs ws) (y : Fz F d v) : FzK F (putD kvs k d) (putK ws (kI k) v) := by
  unfold putD putK
  rw [h.any]
  split
  · exact FzK.upd y h
  · exact FzK.app y h
theorem keyOf_some {d : D} {k : List Int} (h : keyOf d = some k) : d = .tup (k.map D.int) := by
  unfold keyOf at h
  split at h
  · rw [allI_eq h]
  · cases h
theorem Fz.key {H : Hp} {d : D} {v : V} {k : List Int} (x : Fz H d v) (h : keyOf d = some k) : ∃ b, v = .ref b ∧ H b = some (.tup ((kI k).map kV)) := by
  rw [keyOf_some h] at x
  simp only [Fz] at x
  obtain ⟨b, vs, rfl, h1, h2⟩ := x
  rw [h2.ints] at h1
  exact ⟨b, rfl, by rw [kI_kV]; exact h1⟩
section
variable {X : Cx} {W : WX} {q qa qb : Bool} {a b x : Expr} {ta tb te : TE} {sa sb se : M Rv} {pos spos pn p : Pos} {pin : Pin} {mg : Str → Option Value} {i : Nat} {t : TA} {s : M (List Rv)}
/-! {} -/
def sDnew : M Rv := mret (some 1, .dic [])
theorem ev_dnew : EV X W true (.Dict [] [] pos) tDNewT sDnew := by
  refine ⟨pe_dnewT, fun F H e σ A Q R p d hd => ?_⟩
  refine p F (upd H d (.dT [])) A [d] (.ref d) ((Got.refl R).newL (fun a h => by cases h) hd _) ?_
  show Is _ _ _ _ _ _
  simp only [Is, IsK]
  exact ⟨d, [], [], rfl, rfl, (R.fresh hd).1, upd_same, rfl, rfl⟩
/-! d[k] -/
def rDget : R2 := fun x y H Q => ∃ a v, x = .ref a ∧ DGet H a y (some v) ∧ Q v H
def fDget (a b : Rv) : Option Rv := match a with
  | (k, .dic kvs) => (keyOf b.2).bind fun key => (valD kvs key).map (kid k)
  | _ => none
theorem p_dget : P2R rDget fDget := by
  intro q F H e σ A F1 H1 e1 A1 B C v w a b x Q g xa xb hf k
  have rb := IsR.read g.rel.sm xb
  have ra := IsR.read g.rel.sm xa
  unfold fDget at hf
  split at hf
  · rename_i k1 kvs
    cases hk : keyOf b.2 with
    | none => rw [hk] at hf; cases hf
    | some key =>
      rw [hk] at hf
      simp only [Option.bind_some] at hf
      cases hv : valD kvs key with
      | none => rw [hv] at hf; cases hf
      | some c =>
        rw [hv] at hf
        obtain rfl := Option.some.inj hf
        obtain ⟨kb, rfl, hb⟩ := rb.key hk
        simp only [Fz] at ra
        obtain ⟨p, ws, rfl, h1, h2⟩ := ra
        have := h2.val (k := key)
        rw [hv] at this
        obtain ⟨u, hu, hz⟩ := this
        obtain ⟨F2, g2, y⟩ := g.kid xa (IsR.own xb) (c := c) (u := u) fun G hG sG => by
          simp only [Fz] at hG
          obtain ⟨p', ws', e1, e2, e3⟩ := hG
          cases e1
          have := sG _ _ e2
          rw [h1] at this
          cases this
          have h3 := e3.val (k := key)
          rw [hv] at h3
          obtain ⟨u', hu', hz'⟩ := h3
          rw [hu] at hu'
          cases hu'
          exact hz'
        exact ⟨p, u, rfl, .inr ⟨ws, kI key, kb, .inl h1, rfl, hb, hu.symm⟩, k _ _ _ _ g2 y⟩
  · cases hf
theorem ev_dget (hu : X.A.units + 1 < cLine) (ha : EV X W qa a ta sa) (hb : EV X W qb b tb sb) (hs : NoSl b := by exact fun _ _ => rfl) : EV X W (qa && qb) (.Subscript a b pos) (tOp rDget ta tb) (sOp fDget qb sa sb) := ⟨pe_dget hu ha.pe hb.pe hs, SX.op p_dget ha.se hb.se⟩
def fDgetN (m : Nat) (d b : D) : Option Rv := match d with
  | .dic kvs => (keyOf b).bind fun key => (valD kvs key).map fun c => (if c.dep = 0 ∨ m ≤ 1 then some 0 else none, c)
  | _ => none
def sDgetN (i : Nat) (sb : M Rv) : M Rv := fun e => if there i e = true then mbind sb (fun b e1 => match e1[i]? with
  | some (some (m, d)) => mopt (fDgetN m d b.2) e1
  | _ => .bad) e else .bad
theorem SX.dgetN (hb : SX mg W IsR qb tb sb) : SX mg W IsR qb (tOp rDget (tVar i) tb) (sDgetN i sb) := fun F H e σ A Q R p => by
  unfold sDgetN at p
  split at p
  · rename_i ht
    obtain ⟨m0, d0, h0⟩ := there_get ht
    obtain ⟨v, B0, C0, hv, _⟩ := R.sl.get h0
    refine ⟨v, hv, hb F H e σ A _ R ?_⟩
    unfold mbind at p
    cases hs : sb e with
    | exc c e1 => rw [hs] at p; exact p
    | bad => rw [hs] at p; exact p
    | ok b e1 =>
      rw [hs] at p
      intro F1 H1 A1 B w g x
      have rb := IsR.read g.rel.sm x
      dsimp only at p
      split at p
      · rename_i m d hd
        obtain ⟨v', B1, C1, hv', hi, hr, hp⟩ := g.rel.sl.get hd
        have ev : v' = v := by rw [hv] at hv'; exact (Option.some.inj (Option.some.inj hv')).symm
        subst ev
        obtain ⟨y, hy, k⟩ := p.mopt
        have fz := Is.fz g.rel.sm (fun _ _ => rfl) hi
        unfold fDgetN at hy
        split at hy
        · rename_i kvs
          cases hk : keyOf b.2 with
          | none => rw [hk] at hy; cases hy
          | some key =>
            rw [hk] at hy
            simp only [Option.bind_some] at hy
            cases hvd : valD kvs key with
            | none => rw [hvd] at hy; cases hy
            | some c =>
              rw [hvd] at hy
              obtain ⟨kb, rfl, hb'⟩ := rb.key hk
              simp only [Fz] at fz
              obtain ⟨p, ws, rfl, h1, h2⟩ := fz
              have hh := h2.val (k := key)
              rw [hvd] at hh
              obtain ⟨u, hu, hz⟩ := hh
              refine ⟨p, u, rfl, .inr ⟨ws, kI key, kb, .inl h1, rfl, hb', hu.symm⟩, ?_⟩
              simp only [Option.map_some, Option.some.injEq] at hy
              subst hy
              by_cases hc : c.dep = 0
              · rw [if_pos (.inl hc)] at k
                exact k _ _ _ _ u (g.flatR hc hz 0).1 (g.flatR hc hz 0).2
              · by_cases hm : m ≤ 1
                · rw [if_pos (.inr hm)] at k
                  refine k _ _ _ [] u (g.sub (List.nil_sublist _)) (Fz.is ?_)
                  cases m with
                  | zero =>
                    have := (Is.zero hi).1
                    simp only [Fz] at this
                    obtain ⟨p', ws', e1, e2, e3⟩ := this
                    cases e1
                    have := g.rel.sm _ _ e2
                    rw [h1] at this; cases this
                    have h3 := e3.val (k := key)
                    rw [hvd] at h3
                    obtain ⟨u', hu', hz'⟩ := h3
                    rw [hu] at hu'; cases hu'; exact hz'
                  | succ m =>
                    have hm0 : m = 0 := by omega
                    subst hm0
                    simp only [Is] at hi
                    obtain ⟨p', ws', B', e1, _, _, e2, e3⟩ := hi
                    cases e1
                    rw [h1] at e2; cases e2
                    have h3 := (IsK.zero e3).1.val (k := key)
                    rw [hvd] at h3
                    obtain ⟨u', hu', hz'⟩ := h3
                    rw [hu] at hu'; cases hu'; exact hz'
                · rw [if_neg (fun z => z.elim hc hm)] at k
                  exact k _ _ _ [] u (g.sub (List.nil_sublist _)) ⟨hz, rfl⟩
        · cases hy
      · exact p.elim
  · exact p.elim
theorem ev_dgetN (i : Nat) {x : Str} (hu : X.A.units + 1 < cLine) (hb : EV X W qb b tb sb) (hN : X.N[i]? = some x := by rfl) (hv : Vis X.env.scope x := by first | exact Or.inl rfl | exact Or.inr (Or.inl rfl) | exact Or.inr (Or.inr rfl)) (hs : NoSl b := by exact fun _ _ => rfl) (hd : (x == ("__debug__" : Str)) = false := by decide)
    (hcd : (x == ("__classdict__" : Str)) = false := by decide) : EV X W qb (.Subscript (.Name x pn) b pos) (tOp rDget (tVar i) tb) (sDgetN i sb) := ⟨pe_dget hu (pe_var hN hv hd hcd) hb.pe hs, SX.dgetN hb.se⟩
/-! k in d -/
def rDin (n : Bool) : R2 := fun y x H Q => ∃ a o, x = .ref a ∧ DGet H a y o ∧ Q (.bl (if n then !o.isSome else o.isSome)) H
def fDinD (n : Bool) (a b : D) : Option D := match b with
  | .dic kvs => (keyOf a).map fun key => .bl (if n then !(valD kvs key).isSome else (valD kvs key).isSome)
  | _ => none
theorem p_dinA (n : Bool) : P2R (rDin n) (flat2 (fDinD n)) := P2R.flat fun H v w d e x Q hv hw hf => by
  unfold fDinD at hf
  split at hf
  · rename_i kvs
    cases hk : keyOf d with
    | none => rw [hk] at hf; cases hf
    | some key =>
      rw [hk] at hf
      obtain rfl := Option.some.inj hf
      obtain ⟨kb, rfl, hb⟩ := hv.key hk
      simp only [Fz] at hw
      obtain ⟨p, ws, rfl, h1, h2⟩ := hw
      refine ⟨rfl, fun k => ⟨p, valV ws (kI key), rfl, .inr ⟨ws, kI key, kb, .inl h1, rfl, hb, rfl⟩, k _ ?_⟩⟩
      have hh := h2.val (k := key)
      simp only [Fz]
      cases hvd : valD kvs key with
      | none => rw [hvd] at hh; have hh : valV ws (kI key) = none := hh; rw [hh]; rfl
      | some c => rw [hvd] at hh; obtain ⟨u, hu, _⟩ := hh; rw [hu]; rfl
  · cases hf
theorem ev_din (hu : X.A.units + 1 < cLine) (ha : EV X W qa a ta sa) (hb : EV X W qb b tb sb) (hm : behindInMarks .In b = false := by rfl) : EV X W (qa && qb) (.Compare a [.In] [b] pos) (tOp (rDin false) ta tb) (sOp (flat2 (fDinD false)) qb sa sb) := ⟨pe_cmp (pc_din hu ha.pe hb.pe) hm, SX.op (p_dinA false) ha.se hb.se⟩
theorem tv_din (hu : X.A.units + 1 < cLine) (ha : EV X W qa a ta sa) (hb : EV X W qb b tb sb) (hm : behindInMarks .In b = false := by rfl) : TV X W (qa && qb) (.Compare a [.In] [b] pos) (tB (tOp (rDin false) ta tb)) (asB (sOp (flat2 (fDinD false)) qb sa sb)) := ⟨pt_cmp (pc_din hu ha.pe hb.pe) hm, SX.toB (SX.op (p_dinA false) ha.se hb.se)⟩
theorem ev_dnotin (hu : X.A.units + 1 < cLine) (ha : EV X W qa a ta sa) (hb : EV X W qb b tb sb) (hm : behindInMarks .NotIn b = false := by rfl) : EV X W (qa && qb) (.Compare a [.NotIn] [b] pos) (tOp (rDin true) ta tb) (sOp (flat2 (fDinD true)) qb sa sb) := ⟨pe_cmp (pc_dnotin hu ha.pe hb.pe) hm, SX.op (p_dinA true) ha.se hb.se⟩
theorem tv_dnotin (hu : X.A.units + 1 < cLine) (ha : EV X W qa a ta sa) (hb : EV X W qb b tb sb) (hm : behindInMarks .NotIn b = false := by rfl) : TV X W (qa && qb) (.Compare a [.NotIn] [b] pos) (tB (tOp (rDin true) ta tb)) (asB (sOp (flat2 (fDinD true)) qb sa sb)) := ⟨pt_cmp (pc_dnotin hu ha.pe hb.pe) hm, SX.toB (SX.op (p_dinA true) ha.se hb.se)⟩
/-! len(d), sorted(d) -/
def fLenT : List D → Option D
  | [.dic kvs] => some (.int kvs.length)
  | _ => none
theorem p_lenT : PcR rLenT (flatN fLenT) := PcR.flat (r := rLenT) (f := fLenT) fun H vs ds x Q hv hf => by
  unfold fLenT at hf
  split at hf
  · obtain ⟨v, rfl, h⟩ := hv.one
    obtain rfl := Option.some.inj hf
    simp only [Fz] at h
    obtain ⟨a, ws, rfl, h1, h2⟩ := h
    exact ⟨rfl, fun k => ⟨a, ws, rfl, h1, k _ (by simp only [Fz, h2.length])⟩⟩
  · cases hf
theorem ev_lenT {p : Pos} (hm : X.mg "len" = none) (hg : Gl X "len") (ha : AV X W qa [a] t s) (he : starEach [a] X.env = (false, eval a X.env) :: starEach [] X.env := by rfl) (hpl : (backTo pos (starEach [] X.env)).any (·.1) = false := by rfl) : EV X W qa (.Call (.Name "len" p) [a] [] pos) (tCB rLenT t) (sCall1 (flatN fLenT) s) :=
  ev_callB call_len_dT p_lenT hg hm PySem.boot_len ha (by decide) (by decide) he hpl
def keysP : List (List Int × D) → Option (List Pr)
  | [] => some []
  | ([a, b], _) :: kvs => (keysP kvs).map ((a, b) :: ·)
  | _ :: _ => none
theorem keysP_eq {F : Hp} : ∀ {kvs : List (List Int × D)} {ws : List (List Key × V)} {ps : List Pr}, keysP kvs = some ps → FzK F kvs ws → ws.map (·.1) = ps.map (fun p => [Sum.inl p.1, Sum.inl p.2])
  | [], _, _, h, x => by
    simp only [keysP] at h
    obtain rfl := Option.some.inj h
    simp only [FzK] at x
    subst x; rfl
  | ([a, b], d) :: kvs, _, _, h, x => by
    simp only [keysP] at h
    cases hk : keysP kvs with
    | none => rw [hk] at h; cases h
    | some qs =>
      rw [hk] at h
      obtain rfl := Option.some.inj h
      simp only [FzK] at x
      obtain ⟨v, r, rfl, h1, h2⟩ := x
      simp [keysP_eq hk h2]
  | ([], _) :: _, _, _, h, _ => by simp [keysP] at h
  | ([_], _) :: _, _, _, h, _ => by simp [keysP] at h
  | (_ :: _ :: _ :: _, _) :: _, _, _, h, _ => by simp [keysP] at h
def fSortD : List Rv → Option Rv
  | [(_, .dic kvs)] => (keysP kvs).map fun ps => (some 1, .lst ((sortP ps).map pairD))
  | _ => none
theorem p_sortD : PcR rSortedDT fSortD := by
  intro q F H e σ A F1 H1 e1 A1 B vs as x Q g xa hf k
  unfold fSortD at hf
  split at hf
  · rename_i k1 kvs
    cases hx : keysP kvs with
    | none => rw [hx] at hf; cases hf
    | some ps =>
      rw [hx] at hf
      obtain rfl := Option.some.inj hf
      obtain ⟨v, rfl, h⟩ := (IsRs.read g.rel.sm xa).one
      simp only [Fz] at h
      obtain ⟨a, ws, rfl, h1, h2⟩ := h
      refine ⟨a, ws, ps, rfl, .inl h1, keysP_eq hx h2, fun ys p y1 y2 y3 hp => ?_⟩
      have fz : FzL (tupd F1 H1) ((ys.map (kOf H1)).map pairD) ys := FzL.flat (fun a vs h => tupd_tup g.rel.sm h) _ _ (depL_pairs _) (FzL.ofPairs y1)
      rw [sortP_eq y2 y3] at fz
      obtain ⟨g5, y5⟩ := (g.sub (List.nil_sublist _)).tups.fin fz hp
      exact k _ _ _ _ g5 y5
  · cases hf
theorem ev_sortD {p : Pos} (hc : X.calm = true) (hm : X.mg "sorted" = none) (hg : Gl X "sorted") (ha : AV X W qa [a] t s) (he : starEach [a] X.env = (false, eval a X.env) :: starEach [] X.env := by rfl) (hpl : (backTo pos (starEach [] X.env)).any (·.1) = false := by rfl) : EV X W qa (.Call (.Name "sorted" p) [a] [] pos) (tCB rSortedDT t) (sCall1 fSortD s) :=
  ev_callB (cr_sortedDT hc) p_sortD hg hm (by decide +kernel) ha (by decide) (by decide) he hpl
/-! d[k] = v -/
def dicAt (i : Nat) (e : Sl) : Option (List (List Int × D)) := match e[i]? with
  | some (some (1, .dic kvs)) => some kvs
  | _ => none
theorem dicAt_some {e : Sl} {kvs : List (List Int × D)} (h : dicAt i e = some kvs) : e[i]? = some (some (1, .dic kvs)) := by
  unfold dicAt at h
  split at h
  · rename_i k hk; rw [hk, Option.some.inj h]
  · cases h
def keyAt (sb : M Rv) (e : Sl) : Option (List Int) := match sb e with
  | .ok r _ => keyOf r.2
  | _ => none
theorem keyAt_some {F H : Hp} {e : Sl} {σ : St} {A : List Addr} {Q : VK} {k : List Int} (h : SX mg W IsR true tb sb) (R : Rel F H e σ A) (hj : keyAt sb e = some k) (kk : ∀ F' H' b, Got true F H e σ A F' H' e A [] → F' b = some (.tup ((kI k).map kV)) → Q (.ref b) H') : tb σ H Q := by
  refine h F H e σ A Q R ?_
  unfold keyAt at hj
  cases hs : sb e with
  | bad => rw [hs] at hj; cases hj
  | exc c e1 => rw [hs] at hj; cases hj
  | ok r e1 =>
    rw [hs] at hj
    intro F' H' A' B v g y
    obtain ⟨rfl, rfl⟩ := g.qt rfl
    have g2 := (g.sub (List.nil_sublist B)).tups
    obtain ⟨b, rfl, hb⟩ := (IsR.read g.rel.sm y).key hj
    exact kk _ H' b g2 (tupd_tup g.rel.sm hb)
/-- the dict in slot i is changed -/
theorem Got.putK {F H F1 H1 : Hp} {e e1 : Sl} {σ : St} {A A1 : List Addr} {kvs : List (List Int × D)} (g : Got q F H e σ A F1 H1 e1 A1 []) (hi : e1[i]? = some (some (1, .dic kvs))) : ∃ p ws, σ[i]? = some (some (.ref p)) ∧ H1 p = some (.dT ws) ∧ FzK F1 kvs ws ∧
    ∀ kvs' ws', FzK F1 kvs' ws' → ∃ A2, Got false F H e σ A F1 (upd H1 p (.dT ws')) (e1.set i (some (1, .dic kvs'))) A2 [] := by
  obtain ⟨v, B1, C1, h1, h2, h3, h4, g4⟩ := g.rel.take hi
  have h2' := h2
  simp only [Is] at h2'
  obtain ⟨p, ws, B, rfl, rfl, fp, hpH, hK⟩ := h2'
  obtain ⟨fk, rfl⟩ := IsK.zero hK
  refine ⟨p, ws, h1, hpH, fk, fun kvs' ws' fk' => ?_⟩
  have gt : Got false F H e σ A F1 H1 (e1.set i none) C1 [p] := by simpa using g.loud.trans g4 (fun a h => by cases h)
  have gw := gt.write (o' := .dT ws') (by simp) hpH (fun vs z => by cases z) fp
  obtain ⟨n1, n2, n3⟩ := nodup_app.mp gw.nd
  obtain ⟨A2, R2, pA2⟩ := Rel.put (F := F1) (H := L2.upd H1 p (.dT ws')) (e := e1) (σ := σ) (A := C1) (i := i) (d := .dic kvs') (m := 1) (v := .ref p) (B := [p]) gw.rel (lt_of_get hi) (by simp only [Is]; exact ⟨p, ws', [], rfl, rfl, fp, upd_same, FzK.is fk'⟩) gw.nd
  rw [set_same h1] at R2
  refine ⟨A2, ⟨?_, (fun z => by cases z), R2, by rw [List.append_nil]; exact R2.nd⟩⟩
  simp only [Bool.false_eq_true, if_false]
  refine gw.step.sub fun a h => ?_
  rw [List.append_nil] at h
  rcases List.mem_append.mp (pA2.mem_iff.mp h) with z | z
  · exact List.mem_append_right _ z
  · exact List.mem_append_left _ z
def sDput (i : Nat) (sb se : M Rv) : MS := mthen se fun r e1 => match dicAt i e1 with
  | none => .bad
  | some kvs => match keyAt sb e1 with
    | none => .bad
    | some k => if (accOk 0 r && decide (kvs.length < 1000000)) = true then .nx (e1.set i (some (1, .dic (putD kvs k r.2)))) else .bad
theorem SS.dput (he : SX mg W IsR q te se) (hb : SX mg W IsR true tb sb) : SS mg W pin (sDPut (tVar i) tb te) (sDput i sb se) := by
  refine SX.thenS (T := fun v D σ H2 => tVar i σ H2 fun x H2 => tb σ H2 fun y H3 => ∃ a H4, x = .ref a ∧ DPut H3 a y v H4 ∧ D.nx σ H4) he fun F H e σ A F1 H1 e1 A1 B r v D R gt x P pq => ?_
  cases h1 : dicAt i e1 with
  | none => rw [h1] at pq; exact pq.elim
  | some kvs =>
    rw [h1] at pq
    dsimp only at pq
    have hi := dicAt_some h1
    cases h2 : keyAt sb e1 with
    | none => rw [h2] at pq; exact pq.elim
    | some k =>
      rw [h2] at pq
      dsimp only at pq
      split at pq
      · rename_i ok
        simp only [Bool.and_eq_true, decide_eq_true_eq] at ok
        obtain ⟨F2, C, g2, iC⟩ := gt.asM ok.1 x
        obtain ⟨fz, rfl⟩ := Is.zero iC
        obtain ⟨v0, B0, C0, hv0, _⟩ := g2.rel.sl.get hi
        refine ⟨v0, hv0, keyAt_some hb g2.rel h2 fun F3 H3 b g3 hbk => ?_⟩
        have gg : Got q F H e σ A F3 H3 e1 A1 [] := by simpa using g2.trans g3 (fun a h => by cases h)
        obtain ⟨p, ws, e1', e2', e3', e4'⟩ := gg.putK hi
        have ev : v0 = .ref p := by rw [hv0] at e1'; exact Option.some.inj (Option.some.inj e1')
        subst ev
        have st3 := g3.st
        simp only [if_true] at st3
        have fz3 : Fz F3 r.2 v := Fz.mono st3.fz _ _ fz
        obtain ⟨A2, g5⟩ := e4' _ _ (e3'.put (k := k) fz3)
        refine ⟨p, _, rfl, .inr ⟨ws, kI k, b, e2', rfl, gg.rel.sm _ _ hbk, ?_, rfl⟩, ?_⟩
        · rw [e3'.length]
          have := sizeMil
          omega
        · have st5 := g5.step
          rw [List.append_nil] at st5
          exact pq _ _ σ A2 ⟨st5, g5.rel, P⟩
      · exact pq.elim
theorem sv_dput (i : Nat) {y : Str} (hu : X.A.units + 1 < cLine) (he : EV X W q x te se) (hb : EV X W true b tb sb) (hN : X.N[i]? = some y := by rfl) (hv : Vis X.env.scope y := by first | exact Or.inl rfl | exact Or.inr (Or.inl rfl) | exact Or.inr (Or.inr rfl)) (hs : swapsWith x (some (.Subscript (.Name y pn) b pos)) spos.line X.env = pure false := by rfl) (hd : (y == ("__debug__" : Str)) = false := by decide)
    (hcd : (y == ("__classdict__" : Str)) = false := by decide) : SV X W pin (.Assign [.Subscript (.Name y pn) b pos] x spos) (sDPut (tVar i) tb te) (sDput i sb se) := ⟨ps_dput hu (pe_var hN hv hd hcd) hb.pe he.pe hs, SS.dput he.se hb.se⟩
end
end AR

set_option Elab.async false
set_option linter.all false
set_option maxRecDepth 100000
namespace AR
open PySem PySem.Spec PyProof.Rows L2

/-! ### a call whose first argument is changed, and is nobody else's -/
theorem Got.thenStep {q : Bool} {F H F1 H1 F' H' : Hp} {e e1 : Sl} {σ : St} {A A1 C D : List Addr} (g : Got q F H e σ A F1 H1 e1 A1 C) (st : Step F1 H1 C F' H' D) (sm : Same F' H') (nd : D.Nodup) : Got q F H e σ A F' H' e1 A1 D := by
  obtain ⟨n1, n2, n3⟩ := nodup_app.mp g.nd
  have ap := st.apart g.rel.sl.own (fun a h z => n3 a h z)
  refine ⟨?_, g.qt, ⟨sm, n1, g.rel.sl.frame st.fz ap.1 ap.2⟩, nodup_app.mpr ⟨n1, nd, fun a h z => ?_⟩⟩
  · cases q with
    | true =>
      have s1 := g.st
      simp only [if_true] at s1 ⊢
      exact s1.trans st
    | false =>
      have s1 := g.st
      simp only [Bool.false_eq_true, if_false] at s1 ⊢
      have s2 := st.frame A1
      refine (s1.trans ((s2.sup fun a h => ?_))).sub fun a h => ?_
      · rcases List.mem_append.mp h with h | h
        · exact List.mem_append_right _ h
        · exact List.mem_append_left _ h
      · rcases List.mem_append.mp h with h | h
        · exact List.mem_append_right _ h
        · exact List.mem_append_left _ h
  · rcases st.ow a z with q | q
    · exact n3 a h q
    · obtain ⟨_, o, ho, _⟩ := g.rel.sl.own a h
      rw [q] at ho; cases ho
def sCallIOT (np : Nat) (S : Fs) (s : M (List Rv)) : M Rv := mbind s fun rs e => match rs with
  | (some m, d) :: rest => if (decide (rest.length + 1 = np) && rest.all canFz) = true then (match S ((m, d) :: rest.map fun r => (0, r.2)) with
    | .ok r _ => .ok (some r.1, r.2) e
    | .exc c _ => .exc c e
    | .bad => .bad) else .bad
  | _ => .bad
section
variable {X : Cx} {W : WX} {q qa qb : Bool} {a b : Expr} {es : List Expr} {ta tb : TE} {t : TA} {sa sb : M Rv} {s : M (List Rv)} {pos p : Pos} {x : Str} {k : Nat} {f : Addr} {fd : FuncData} {ps : List Str} {S : Fs}
theorem SX.callIOT {mg : Str → Option Value} {np : Nat} (h : SX mg W IsRs qa t s) : SX mg W IsR qa (tCallS (spOf mg np (some 0) S) (WE W) t) (sCallIOT np S s) := by
  refine SX.bind (J := IsR) (f := fun rs e => match rs with
  | (some m, d) :: rest => if (decide (rest.length + 1 = np) && rest.all canFz) = true then (match S ((m, d) :: rest.map fun r => (0, r.2)) with
    | .ok r _ => .ok (some r.1, r.2) e
    | .exc c _ => .exc c e
    | .bad => .bad) else .bad
  | _ => .bad) (k := fun vs σ H Q => spOf mg np (some 0) S vs H Q (WE W σ)) id h fun F H e σ A F1 H1 e1 A1 B rs vs Q R g x p => ?_
  split at p
  · rename_i m d rest
    split at p
    · rename_i ok
      simp only [Bool.and_eq_true, decide_eq_true_eq] at ok
      simp only [IsRs] at x
      obtain ⟨v, w, C, E, rfl, rfl, x1, x2⟩ := x
      have x1 : Is F1 H1 d m v C := x1
      have gp := (g.perm List.perm_append_comm).tups
      have own : ∀ a ∈ E, tupd F1 H1 a = none := fun a ha => by
        obtain ⟨h1, o, h2, h3⟩ := IsRs.own x2 a ha
        exact tupd_none h1 fun vs z => by rw [h2] at z; exact h3 vs (Option.some.inj z)
      have ownC : ∀ a ∈ C, tupd F1 H1 a = none := fun a ha => by
        obtain ⟨h1, o, h2, h3⟩ := Is.own x1 a ha
        exact tupd_none h1 fun vs z => by rw [h2] at z; exact h3 vs (Option.some.inj z)
      have g3 := gp.freeze own
      have fz := IsRs.toFzL g.rel.sm (addTo_same own) (fun a ha => addTo_in ha) x2 ok.2
      have ndE := (nodup_app.mp (nodup_app.mp gp.nd).2.1).2.2
      have nC : ∀ a ∈ C, addTo (tupd F1 H1) H1 E a = none := fun a ha => by
        rw [addTo_out fun z => ndE a z ha]; exact ownC a ha
      have x1' : Is (addTo (tupd F1 H1) H1 E) H1 d m v C := Is.frame ((tupd_same F1 H1).trans (addTo_same own)) nC (fun _ _ => rfl) x1
      have ndC := (nodup_app.mp g3.nd).2.1
      refine ⟨by show w.length + 1 = np; rw [x2.length]; exact ok.1, _, (m, d) :: (rest.map (·.2)).map (fun d => ((0, d) : AR.Tm)), C, g3.rel.sm, ndC, ?_, ?_⟩
      · simp only [List.map_cons, SlIs]
        exact ⟨v, _, C, [], rfl, by rw [List.append_nil], x1', SlIs.frz fz⟩
      · have e1' : (rest.map (·.2)).map (fun d => ((0, d) : AR.Tm)) = rest.map fun r => (0, r.2) := by rw [List.map_map]; rfl
        rw [e1']
        cases hS : S ((m, d) :: rest.map fun r => (0, r.2)) with
        | bad => rw [hS] at p; exact p
        | exc c outs =>
          rw [hS] at p
          intro F' H' A' st sm nd ho
          exact p F' H' A1 (g3.thenStep (st.sub fun a h => (by cases h)) sm List.nodup_nil)
        | ok r outs =>
          rw [hS] at p
          intro F' H' A' D v2 st sm nd hi ho
          exact p F' H' A1 D v2 (g3.thenStep (st.sub fun a h => List.mem_append_right _ h) sm (nodup_app.mp nd).2.1) hi
    · exact p.elim
  · exact p.elim
theorem ev_callIOT (G : Callee X.prog X.w X.K X.mg X.base x k ps (some 0) S f fd) (hr : Room k X.A) (tk : Takes X W) (hg : Gl X x) {np : Nat}
    (ha : AV X W qa (a :: es) t s) (hdb : (x == ("__debug__" : Str)) = false := by decide) (he : starEach (a :: es) X.env = (false, eval a X.env) :: starEach es X.env := by rfl) (hpl : (backTo pos (starEach es X.env)).any (·.1) = false := by rfl) (hnp : ps.length = np := by rfl) {mg : Str → Option Value} (hmg : X.mg = mg := by rfl) :
    EV X W qa (.Call (.Name x p) (a :: es) [] pos) (tCallS (spOf mg np (some 0) S) (WE W) t) (sCallIOT np S s) := by
  subst hnp hmg
  exact ⟨pe_callS G.ok hr hg G.mg G.kp G.bd (fun σ => passAt tk σ) ha.pe hdb he hpl, SX.callIOT ha.se⟩
end
/-! ### >=, < of pairs too -/
def geP (p q : Pr) : Bool := decide (q.1 < p.1 ∨ (p.1 = q.1 ∧ q.2 ≤ p.2))
def ltPB (p q : Pr) : Bool := decide (p.1 < q.1 ∨ (p.1 = q.1 ∧ p.2 < q.2))
def rGe2 (K : PySem.W.Frag) : R2 := fun x y H Q => ∃ (a b : Addr) (p q : Pr), x = .ref a ∧ y = .ref b ∧ SqT K H a [.int p.1, .int p.2] ∧ SqT K H b [.int q.1, .int q.2] ∧ Q (.bl (geP p q)) H
theorem op_ge2 {X : Cx} (hu : X.A.units < cLine) : OpR X (compareOp .GtE) (rGe2 X.K) := by
  intro pins s σ H x y v u Q I rx ry h
  obtain ⟨a, b, p, q, rfl, rfl, ha, hb, k⟩ := h
  cases rx
  cases ry
  obtain ⟨its, r1, p1, _⟩ := I.tuple ha
  obtain ⟨its2, r2, p2, _⟩ := I.tuple hb
  have i1 : IntsAre its [p.1, p.2] := Vals.ints (ns := [p.1, p.2]) r1
  have i2 : IntsAre its2 [q.1, q.2] := Vals.ints (ns := [q.1, q.2]) r2
  have e1 : its.toArray.size = 2 := by rw [List.size_toArray]; exact i1.length
  have e2 : its2.toArray.size = 2 := by rw [List.size_toArray]; exact i2.length
  have at1 : ∀ j (h1 : j < its.toArray.size), ∃ t, its.toArray[j] = .int ([p.1, p.2].getD j 0) t := fun j h1 => PyProof.Rows.IntsAre.int_at i1 _ _ (by simp at h1; simp [h1])
  have at2 : ∀ j (h1 : j < its2.toArray.size), ∃ t, its2.toArray[j] = .int ([q.1, q.2].getD j 0) t := fun j h1 => PyProof.Rows.IntsAre.int_at i2 _ _ (by simp at h1; simp [h1])
  have R := Ob.RcOp.tuples_ge (A := X.A) (s := s) (e := fun j => decide ([p.1, p.2].getD j 0 = [q.1, q.2].getD j 0)) (r := fun j => decide ([q.1, q.2].getD j 0 ≤ [p.1, p.2].getD j 0)) p1 p2 hu (fun j h1 h2 => by
    obtain ⟨t, et⟩ := at1 j h1
    obtain ⟨t', et'⟩ := at2 j h2
    rw [et, et']
    have z : ([p.1, p.2].getD j 0 == [q.1, q.2].getD j 0) = decide ([p.1, p.2].getD j 0 = [q.1, q.2].getD j 0) := by
      by_cases q' : [p.1, p.2].getD j 0 = [q.1, q.2].getD j 0
      · rw [decide_eq_true q']; exact beq_iff_eq.mpr q'
      · rw [decide_eq_false q']; exact beq_eq_false_iff_ne.mpr q'
    rw [← z]
    exact SeqAt.EqAt.int_int _ _ _ _) (fun j h1 h2 _ => by
    obtain ⟨t, et⟩ := at1 j h1
    obtain ⟨t', et'⟩ := at2 j h2
    rw [et, et']
    exact Ob.RcOp.ge_int _ _ _ _)
  rw [e1, e2] at R
  have hz : Ob.lexAt (fun j => decide ([p.1, p.2].getD j 0 = [q.1, q.2].getD j 0)) (fun j => decide ([q.1, q.2].getD j 0 ≤ [p.1, p.2].getD j 0)) (decide (2 ≥ 2)) 0 (min 2 2) = geP p q := by
    show (if decide (p.1 = q.1) = true then (if decide (p.2 = q.2) = true then true else decide (q.2 ≤ p.2)) else decide (q.1 ≤ p.1)) = geP p q
    unfold geP
    by_cases h1 : p.1 = q.1
    · by_cases h2 : p.2 = q.2
      · simp [h1, h2]
      · simp [h1, h2]
    · have : (q.1 ≤ p.1) ↔ (q.1 < p.1 ∨ p.1 = q.1 ∧ q.2 ≤ p.2) := by omega
      simp [h1]; omega
  rw [hz] at R
  have z : wpAny (model X.prog X.w) X.A (compareOp .GtE (.ref a) (.ref b)) (EP X pins σ Q) X.xe s := R X.prog X.w X.xe (EP X pins σ Q) ⟨.bl _, H, I, rfl, k⟩
  exact z
def fGe2 (d e : D) : Option D := (asP d).bind fun p => (asP e).map fun q => .bl (geP p q)
theorem Fz.pair {H : Hp} {d : D} {v : V} {p : Pr} (x : Fz H d v) (h : asP d = some p) : ∃ a, v = .ref a ∧ H a = some (.tup [.int p.1, .int p.2]) := by
  rw [asP_some h] at x
  simp only [pairD, Fz, FzL] at x
  obtain ⟨t, ws, rfl, ht, a, q, rfl, ra, b, q', rfl, rb, rfl⟩ := x
  subst ra rb
  exact ⟨t, rfl, ht⟩
theorem p_ge2 {K : PySem.W.Frag} : P2R (rGe2 K) (flat2 fGe2) := P2R.flat fun H v w d e x Q hv hw hf => by
  unfold fGe2 at hf
  cases hd : asP d with
  | none => rw [hd] at hf; cases hf
  | some p =>
    rw [hd] at hf
    simp only [Option.bind_some] at hf
    cases he : asP e with
    | none => rw [he] at hf; cases hf
    | some q =>
      rw [he] at hf
      obtain rfl := Option.some.inj hf
      obtain ⟨a, rfl, ha⟩ := hv.pair hd
      obtain ⟨b, rfl, hb⟩ := hw.pair he
      exact ⟨rfl, fun k => ⟨a, b, p, q, rfl, rfl, .inl (.inl ha), .inl (.inl hb), k _ (by simp only [Fz])⟩⟩
def fGeA (a b : Rv) : Option Rv := (fGe a b).or (flat2 fGe2 a b)
def rGeA (K : PySem.W.Frag) : R2 := fun x y H Q => rI0 (fun i j => .bl (decide (j ≤ i))) x y H Q ∨ rGe2 K x y H Q
theorem p_geA {K : PySem.W.Frag} : P2R (rGeA K) fGeA := P2R.or p_ge p_ge2
theorem op_geA {X : Cx} (hu : X.A.units < cLine) {K : PySem.W.Frag} (hK : X.K = K := by rfl) : OpR X (compareOp .GtE) (rGeA K) := by
  subst hK; exact OpR.or op_ge (op_ge2 hu)
/-! < -/
def rLt2 (K : PySem.W.Frag) : R2 := rLtT K
def fLt2 (d e : D) : Option D := (asP d).bind fun p => (asP e).map fun q => .bl (ltPB p q)
theorem lexLt2 (p q : Pr) : HT.lexLt [p.1, p.2] [q.1, q.2] = ltPB p q := by
  unfold ltPB
  simp only [HT.lexLt]
  by_cases h1 : p.1 = q.1
  · simp [h1]; omega
  · simp [h1]
theorem p_lt2 {K : PySem.W.Frag} : P2R (rLtT K) (flat2 fLt2) := P2R.flat fun H v w d e x Q hv hw hf => by
  unfold fLt2 at hf
  cases hd : asP d with
  | none => rw [hd] at hf; cases hf
  | some p =>
    rw [hd] at hf
    simp only [Option.bind_some] at hf
    cases he : asP e with
    | none => rw [he] at hf; cases hf
    | some q =>
      rw [he] at hf
      obtain rfl := Option.some.inj hf
      obtain ⟨a, rfl, ha⟩ := hv.pair hd
      obtain ⟨b, rfl, hb⟩ := hw.pair he
      refine ⟨rfl, fun k => ⟨a, b, [p.1, p.2], [q.1, q.2], rfl, rfl, .inl (.inl ha), .inl (.inl hb), k _ ?_⟩⟩
      simp only [Fz, lexLt2]
def fLtA (a b : Rv) : Option Rv := (fLt a b).or (flat2 fLt2 a b)
def rLtA (K : PySem.W.Frag) : R2 := fun x y H Q => rI0 (fun i j => .bl (decide (i < j))) x y H Q ∨ rLtT K x y H Q
theorem p_ltA {K : PySem.W.Frag} : P2R (rLtA K) fLtA := P2R.or p_lt p_lt2
theorem op_ltA {X : Cx} (hu : X.A.units < cLine) {K : PySem.W.Frag} (hK : X.K = K := by rfl) : OpR X (compareOp .Lt) (rLtA K) := by
  subst hK; exact OpR.or op_lt (op_ltT hu)
theorem hu0 {A : Around} {k : Nat} (hr : Room k A) : A.units < cLine := by have := hr.un; omega
/-! ### in, not in: numbers in a tuple, data in a list -/
def fInD (n : Bool) (d e : D) : Option D := match d, e with
  | .int i, .tup es => (allI es).map fun ns => .bl ((ns.any fun z => decide (z = i)) != n)
  | d, .lst es => if (SeqAt.shaped (toPy d) && SeqAt.shaped (toPy (.lst es))) = true then some (.bl (((toPyL es).any fun z => PyData.eqv z (toPy d)) != n)) else none
  | _, _ => none
def rInA (K : PySem.W.Frag) : R2 := fun x y H Q => rIn K false x y H Q ∨ rInD K x y H Q
def rNotInA (K : PySem.W.Frag) : R2 := fun x y H Q => rIn K true x y H Q ∨ rNotInD K x y H Q
theorem op_inA {X : Cx} (hu : X.A.units + 65 < cLine) {K : PySem.W.Frag} (hK : X.K = K := by rfl) : OpR X (compareOp .In) (rInA K) := by
  subst hK; exact OpR.or op_in_seq (op_inD hu)
theorem op_notinA {X : Cx} (hu : X.A.units + 65 < cLine) {K : PySem.W.Frag} (hK : X.K = K := by rfl) : OpR X (compareOp .NotIn) (rNotInA K) := by
  subst hK; exact OpR.or op_notIn_seq (op_notInD hu)
theorem inV_ints (i : Int) (ns : List Int) : inV (.int i) (ns.map V.int) = ns.any fun z => decide (z = i) := by
  unfold inV
  rw [List.any_map]
  congr 1
theorem flat_ints (ns : List Int) : (ns.map V.int).all flatV = true := by
  rw [List.all_map, List.all_eq_true]; intro z _; rfl
theorem p_in {K : PySem.W.Frag} : P2R (rInA K) (flat2 (fInD false)) := P2R.flat fun H v w d e x Q hv hw hf => by
  unfold fInD at hf
  split at hf
  · rename_i i es
    cases hx : allI es with
    | none => rw [hx] at hf; cases hf
    | some ns =>
      rw [hx] at hf
      obtain rfl := Option.some.inj hf
      rw [allI_eq hx] at hw
      simp only [Fz] at hv hw
      obtain ⟨a, ws, rfl, h1, h2⟩ := hw
      have := h2.ints
      subst this hv
      refine ⟨rfl, fun k => .inl ⟨a, _, rfl, .inr (.inl (.inl h1)), rfl, flat_ints ns, ?_⟩⟩
      rw [inV_ints]
      exact k _ (by simp only [Fz]; simp)
  · rename_i es _
    split at hf
    · rename_i c
      simp only [Bool.and_eq_true] at c
      obtain rfl := Option.some.inj hf
      have hl := Fz.dp (K := K) hw (SeqAt.canLay_of_shaped c.2)
      simp only [toPy] at hl c
      refine ⟨rfl, fun k => .inr ⟨_, _, Fz.dp hv (SeqAt.canLay_of_shaped c.1), hl, c.1, c.2, ?_⟩⟩
      exact k _ (by simp only [Fz]; simp)
    · cases hf
  · cases hf
theorem p_notin {K : PySem.W.Frag} : P2R (rNotInA K) (flat2 (fInD true)) := P2R.flat fun H v w d e x Q hv hw hf => by
  unfold fInD at hf
  split at hf
  · rename_i i es
    cases hx : allI es with
    | none => rw [hx] at hf; cases hf
    | some ns =>
      rw [hx] at hf
      obtain rfl := Option.some.inj hf
      rw [allI_eq hx] at hw
      simp only [Fz] at hv hw
      obtain ⟨a, ws, rfl, h1, h2⟩ := hw
      have := h2.ints
      subst this hv
      refine ⟨rfl, fun k => .inl ⟨a, _, rfl, .inr (.inl (.inl h1)), rfl, flat_ints ns, ?_⟩⟩
      rw [inV_ints]
      exact k _ (by simp only [Fz]; simp)
  · rename_i es _
    split at hf
    · rename_i c
      simp only [Bool.and_eq_true] at c
      obtain rfl := Option.some.inj hf
      have hl := Fz.dp (K := K) hw (SeqAt.canLay_of_shaped c.2)
      simp only [toPy] at hl c
      refine ⟨rfl, fun k => .inr ⟨_, _, Fz.dp hv (SeqAt.canLay_of_shaped c.1), hl, c.1, c.2, ?_⟩⟩
      exact k _ (by simp only [Fz]; simp)
    · cases hf
  · cases hf
abbrev fIn := flat2 (fInD false)
abbrev fNotIn := flat2 (fInD true)
end AR

set_option Elab.async false
set_option linter.all false
set_option maxRecDepth 100000
namespace AR
open PySem L2

/-! ### readings of the further parts -/
section
variable {k l : Option Nat} {m n i j : Nat} {P : Rv → Prop} {e : Sl} {d d' : D} {ds : List D} {z w : Int} {N : Sl → Prop} {R : Nat → D → Sl → Prop} {sa sb se : M Rv} {Q : Rv → Sl → Prop} {kvs : List (List Int × D)}
theorem okp_eq {α : Type} {o : Option α} {a : α} {P : α → Prop} (h : o = some a) : OkP o P = P a := by rw [h]; rfl
theorem wp_dgetN : Wp (sDgetN i sb) e Q = (there i e = true ∧ Wp sb e fun b e1 => SlP e1[i]? fun m d => OkP (fDgetN m d b.2) fun x => Q x e1) := by
  unfold sDgetN
  by_cases h : there i e = true
  · simp only [h, true_and]
    unfold Wp mbind
    simp only [h, if_true]
    cases sb e with
    | ok b e1 =>
      simp only [SlP]
      cases e1[i]? with
      | none => rfl
      | some o => cases o with
        | none => rfl
        | some md =>
          simp only [mopt]
          cases fDgetN md.1 md.2 b.2 <;> rfl
    | exc c e1 => rfl
    | bad => rfl
  · simp [Wp, h]
theorem wp_dnew : Wp sDnew e Q = Q (some 1, .dic []) e := rfl
theorem keyOf_pair {a b : Int} : keyOf (.tup [.int a, .int b]) = some [a, b] := rfl
theorem keyOf_pairD {p : Pr} : keyOf (pairD p) = some [p.1, p.2] := rfl
theorem ok_dgetN {key : List Int} {c : D} (hk : keyOf d = some key) (hv : valD kvs key = some c) (hc : c.dep = 0) : OkP (fDgetN m (.dic kvs) d) P = P (some 0, c) := by
  unfold fDgetN
  dsimp only
  rw [hk, Option.bind_some, hv]
  simp [OkP, hc]
theorem ok_dget {key : List Int} {c : D} (hk : keyOf d = some key) (hv : valD kvs key = some c) : OkP (fDget (k, .dic kvs) (l, d)) P = P (kid k c) := by
  unfold fDget
  dsimp only
  rw [hk, Option.bind_some, hv]; rfl
theorem ws_dput : Ws (sDput i sb se) e N R = Wp se e fun r e1 => OkP (dicAt i e1) fun kvs => OkP (keyAt sb e1) fun k => (accOk 0 r = true ∧ kvs.length < 1000000) ∧ N (e1.set i (some (1, .dic (putD kvs k r.2)))) := by
  unfold sDput; rw [ws_then]
  congr; funext r e1
  unfold Ws OkP
  dsimp only
  cases dicAt i e1 with
  | none => rfl
  | some kvs =>
    dsimp only
    cases keyAt sb e1 with
    | none => rfl
    | some key =>
      dsimp only
      by_cases h : (accOk 0 r && decide (kvs.length < 1000000)) = true
      · rw [if_pos h]
        simp only [Bool.and_eq_true, decide_eq_true_eq] at h
        exact propext ⟨fun x => ⟨h, x⟩, fun x => x.2⟩
      · rw [if_neg h]
        simp only [Bool.and_eq_true, decide_eq_true_eq] at h
        exact propext ⟨fun x => x.elim, fun x => h x.1⟩
theorem ok_dicAt {P : List (List Int × D) → Prop} : OkP (dicAt i e) P = SlP e[i]? fun m d => match m, d with
    | 1, .dic kvs => P kvs
    | _, _ => False := by
  unfold dicAt OkP SlP
  cases e[i]? with
  | none => rfl
  | some o => cases o with
    | none => rfl
    | some md =>
      obtain ⟨m, d⟩ := md
      match m, d with
      | 0, d => cases d <;> rfl
      | 1, d => cases d <;> rfl
      | m + 2, d => cases d <;> rfl
theorem ok_keyAt {P : List Int → Prop} : OkP (keyAt sb e) P = Wp sb e fun r _ => OkP (keyOf r.2) P := by
  unfold keyAt OkP Wp
  cases sb e <;> rfl
theorem ok_lenD : OkP (flatN fLenT [(k, .dic kvs)]) P = P (some 0, .int kvs.length) := rfl
theorem ok_sortP {ps : List Pr} : OkP (fSortP [(k, .lst (ps.map pairD))]) P = P (some 1, .lst ((sortP ps).map pairD)) := by
  unfold fSortP; dsimp only; rw [allP_map]; rfl
theorem ok_sortD {ps : List Pr} (h : keysP kvs = some ps) : OkP (fSortD [(k, .dic kvs)]) P = P (some 1, .lst ((sortP ps).map pairD)) := by
  unfold fSortD; dsimp only; rw [h]; rfl
theorem ok_sumL {ns : List Int} : OkP (flatN fSumL [(k, .lst (ns.map D.int))]) P = P (some 0, .int ns.sum) := by
  unfold flatN fSumL
  simp only [List.map_cons, List.map_nil]
  rw [allI_map]; rfl
theorem ok_itR3 {P : List D → Prop} {i j c : Int} {k1 k2 k3 : Option Nat} : OkP (itR3 [(k1, .int i), (k2, .int j), (k3, .int c)]) P = ((inR i = true ∧ inR j = true ∧ c = -1) ∧ P (downto i (i - j).toNat)) := by
  unfold itR3; rw [okp_ite, okp_some]; simp only [Bool.and_eq_true, decide_eq_true_eq, and_assoc]
theorem ok_itZipL {P : List D → Prop} {ds es : List D} {a b : Nat} : OkP (itZip [(some a, .lst ds), (some b, .lst es)]) P = P (zipD ds es) := by
  unfold itZip; simp [OkP]
theorem ok_itZipT {P : List D → Prop} {ds es : List D} {a b : Nat} : OkP (itZip [(some a, .tup ds), (some b, .tup es)]) P = P (zipD ds es) := by
  unfold itZip; simp [OkP]
theorem ok_itEn {P : List D → Prop} {ds : List D} {a : Nat} : OkP (itEn (some a, .lst ds)) P = P (enumD 0 ds) := by
  unfold itEn; simp [OkP]
theorem wp_callIOT {np : Nat} {S : Fs} {ss : M (List Rv)} : Wp (sCallIOT np S ss) e Q = Wp ss e fun rs e1 => match rs with
    | (some m, d) :: rest => (rest.length + 1 = np ∧ rest.all canFz = true) ∧ OutP (S ((m, d) :: rest.map fun r => (0, r.2))) fun r _ => Q (some r.1, r.2) e1
    | _ => False := by
  unfold sCallIOT
  rw [wp_bind]
  congr; funext rs e1
  unfold Wp OutP
  match rs with
  | [] => rfl
  | (none, d) :: rest => rfl
  | (some m, d) :: rest =>
    dsimp only
    by_cases h : (decide (rest.length + 1 = np) && rest.all canFz) = true
    · rw [if_pos h]
      simp only [Bool.and_eq_true, decide_eq_true_eq] at h
      cases S ((m, d) :: rest.map fun r => (0, r.2)) with
      | ok r o => exact propext ⟨fun x => ⟨h, x⟩, fun x => x.2⟩
      | exc c o => exact propext ⟨fun x => x.elim, fun x => x.2⟩
      | bad => exact propext ⟨fun x => x.elim, fun x => x.2⟩
    · rw [if_neg h]
      simp only [Bool.and_eq_true, decide_eq_true_eq] at h
      exact propext ⟨fun x => x.elim, fun x => h x.1⟩
theorem join_i1 {a : Int} {ds : List D} : joinK [(k, .int a), (some m, .lst ds)] = some m := by
  simp [joinK, firstK, flatR, D.dep]
theorem ok_geA : OkP (fGeA (k, .int z) (l, .int w)) P = P (some 0, .bl (decide (w ≤ z))) := rfl
theorem ok_geP {p q : Pr} : OkP (fGeA (k, pairD p) (l, pairD q)) P = P (some 0, .bl (geP p q)) := rfl
theorem ok_ltA : OkP (fLtA (k, .int z) (l, .int w)) P = P (some 0, .bl (decide (z < w))) := rfl
theorem ok_ltP {p q : Pr} : OkP (fLtA (k, pairD p) (l, pairD q)) P = P (some 0, .bl (ltPB p q)) := rfl
theorem ok_append {ks : List Nat} {r : Rv} {P : Rv × List D → Prop} : OkP (fAppend ks [r] m ds) P = ((accOk m r = true ∧ ds.length < 1000000) ∧ P ((some 0, .non), ds ++ [r.2])) := by
  unfold fAppend; rw [okp_ite, okp_some]; simp only [Bool.and_eq_true, decide_eq_true_eq]
theorem ok_pop {ks : List Nat} {P : Rv × List D → Prop} : OkP (fPop ks [] m ds) P = OkP ds[ds.length - 1]? fun c => P ((some m, c), ds.eraseIdx (ds.length - 1)) := by
  unfold fPop; rw [okp_map]
theorem getP_one {k : Nat} {c : D} (h : ds[k]? = some c) : getP (m + 1) (.lst ds) [k] = some (m, c) := by
  simp [getP, h]
theorem setP_one {k : Nat} {c : D} (h : ds[k]? = some c) : setP (.lst ds) d' [k] = .lst (ds.set k d') := by
  simp [setP, h]
end
/-! ### comprehensions by what each item gives -/
theorem lc_fm {vs : List Nat} {m : Nat} {sg : TgS} {st : M Bool} {se : M Rv} {e : Sl} {Q : List D → Sl → Prop} (g : D → Option D) : ∀ {ds acc : List D}, (∀ d ∈ ds, OkP (sg (0, d) e) fun e3 => Wp st e3 fun b e4 => if b = true then Wp se e4 fun r e5 => accOk m r = true ∧ g d = some r.2 else g d = none) →
    Q (acc ++ ds.filterMap g) e → OutP (lcLoop true vs m sg st se ds acc e) Q
  | [], acc, _, hq => by simpa [OutP, lcLoop] using hq
  | d :: ds, acc, h, hq => by
    rw [lc_cons]
    have h0 := h d (by simp)
    have hr : ∀ acc', Q (acc' ++ ds.filterMap g) e → OutP (lcLoop true vs m sg st se ds acc' e) Q := fun acc' hq' => lc_fm g (fun d' hd => h d' (by simp [hd])) hq'
    unfold OkP at h0 ⊢
    cases hs : sg (0, d) e with
    | none => rw [hs] at h0; exact h0
    | some e3 =>
      rw [hs] at h0
      dsimp only at h0 ⊢
      refine h0.mono fun b e4 h1 => ?_
      cases b with
      | true =>
        simp only [if_true] at h1 ⊢
        refine h1.mono fun r e5 ⟨h2, h3⟩ => ⟨h2, ?_⟩
        rw [List.filterMap_cons, h3] at hq
        exact hr _ (by simpa [lcNext] using hq)
      | false =>
        simp only [Bool.false_eq_true, if_false] at h1 ⊢
        rw [List.filterMap_cons, h1] at hq
        exact hr _ (by simpa [lcNext] using hq)
/-! ### tables -/
theorem valD_put {kvs : List (List Int × D)} {k k' : List Int} {d : D} : valD (putD kvs k d) k' = if k = k' then some d else valD kvs k' := by
  unfold putD
  split
  · rename_i h
    induction kvs with
    | nil => simp at h
    | cons kv kvs ih =>
      simp only [List.any_cons, Bool.or_eq_true, decide_eq_true_eq] at h
      unfold valD at *
      simp only [List.map_cons, List.find?_cons]
      by_cases h1 : kv.1 = k
      · simp only [h1, if_true]
        by_cases h2 : k = k'
        · simp [h2]
        · simp only [h2, decide_false, if_false]
          by_cases h3 : (kvs.any fun kv => decide (kv.1 = k)) = true
          · rw [ih h3, if_neg h2]
          · have : kvs.map (fun kv => if kv.1 = k then (kv.1, d) else kv) = kvs := by
              have hall : ∀ x ∈ kvs, (if x.1 = k then (x.1, d) else x) = x := fun x hx => by
                have : ¬ x.1 = k := fun z => h3 (List.any_eq_true.mpr ⟨x, hx, decide_eq_true z⟩)
                simp [this]
              exact (List.map_congr_left hall).trans (List.map_id' kvs)
            rw [this]
      · simp only [h1, if_false]
        by_cases h2 : kv.1 = k'
        · have : ¬ k = k' := fun z => h1 (h2.trans z.symm)
          simp [h2, this]
        · simp only [h2, decide_false]
          exact ih (h.resolve_left h1)
  · rename_i h
    have h : ∀ x ∈ kvs, ¬ x.1 = k := fun x hx z => h (List.any_eq_true.mpr ⟨x, hx, decide_eq_true z⟩)
    unfold valD
    rw [List.find?_append]
    by_cases h2 : k = k'
    · subst h2
      have : kvs.find? (fun kv => decide (kv.1 = k)) = none := by
        rw [List.find?_eq_none]
        intro x hx
        simp [h x hx]
      simp [this]
    · simp only [List.find?_cons, h2, decide_false, List.find?_nil, Option.or_none, if_false]
theorem keysP_any {a b : Int} : ∀ {kvs : List (List Int × D)} {ps : List Pr}, keysP kvs = some ps → (kvs.any fun kv => decide (kv.1 = [a, b])) = decide ((a, b) ∈ ps)
  | [], _, h => by simp only [keysP] at h; rw [← Option.some.inj h]; simp
  | ([c, d], _) :: kvs, _, h => by
    simp only [keysP] at h
    cases hk : keysP kvs with
    | none => rw [hk] at h; cases h
    | some qs =>
      rw [hk] at h
      rw [← Option.some.inj h]
      simp only [List.any_cons, keysP_any hk, List.mem_cons, Prod.mk.injEq]
      by_cases h1 : c = a ∧ d = b
      · simp [h1]
      · have h1' : ¬ (a = c ∧ b = d) := fun z => h1 ⟨z.1.symm, z.2.symm⟩
        simp [h1, h1']
  | ([], _) :: _, _, h => by simp [keysP] at h
  | ([_], _) :: _, _, h => by simp [keysP] at h
  | (_ :: _ :: _ :: _, _) :: _, _, h => by simp [keysP] at h
theorem keysP_app {a b : Int} {v : D} : ∀ {kvs : List (List Int × D)} {ps : List Pr}, keysP kvs = some ps → keysP (kvs ++ [([a, b], v)]) = some (ps ++ [(a, b)])
  | [], _, h => by simp only [keysP] at h; rw [← Option.some.inj h]; rfl
  | ([c, d], _) :: kvs, _, h => by
    simp only [keysP] at h
    cases hk : keysP kvs with
    | none => rw [hk] at h; cases h
    | some qs =>
      rw [hk] at h
      rw [← Option.some.inj h]
      simp [keysP, keysP_app hk]
  | ([], _) :: _, _, h => by simp [keysP] at h
  | ([_], _) :: _, _, h => by simp [keysP] at h
  | (_ :: _ :: _ :: _, _) :: _, _, h => by simp [keysP] at h
theorem keysP_upd {k : List Int} {v : D} : ∀ {kvs : List (List Int × D)} {ps : List Pr}, keysP kvs = some ps → keysP (kvs.map (fun kv => if kv.1 = k then (kv.1, v) else kv)) = some ps
  | [], _, h => h
  | ([c, d], w) :: kvs, _, h => by
    simp only [keysP] at h
    cases hk : keysP kvs with
    | none => rw [hk] at h; cases h
    | some qs =>
      rw [hk] at h
      rw [← Option.some.inj h]
      simp only [List.map_cons]
      split <;> simp [keysP, keysP_upd hk]
  | ([], _) :: _, _, h => by simp [keysP] at h
  | ([_], _) :: _, _, h => by simp [keysP] at h
  | (_ :: _ :: _ :: _, _) :: _, _, h => by simp [keysP] at h
theorem keysP_put {kvs : List (List Int × D)} {ps : List Pr} {a b : Int} {v : D} (h : keysP kvs = some ps) : keysP (putD kvs [a, b] v) = some (if (a, b) ∈ ps then ps else ps ++ [(a, b)]) := by
  unfold putD
  rw [keysP_any h]
  by_cases hm : (a, b) ∈ ps
  · simp only [hm, decide_true, if_true]; exact keysP_upd h
  · simp only [hm, decide_false, if_false, Bool.false_eq_true]; exact keysP_app h
theorem keysP_len : ∀ {kvs : List (List Int × D)} {ps : List Pr}, keysP kvs = some ps → kvs.length = ps.length
  | [], _, h => by simp only [keysP] at h; rw [← Option.some.inj h]; rfl
  | ([c, d], _) :: kvs, _, h => by
    simp only [keysP] at h
    cases hk : keysP kvs with
    | none => rw [hk] at h; cases h
    | some qs =>
      rw [hk] at h
      rw [← Option.some.inj h]
      simp [keysP_len hk]
  | ([], _) :: _, _, h => by simp [keysP] at h
  | ([_], _) :: _, _, h => by simp [keysP] at h
  | (_ :: _ :: _ :: _, _) :: _, _, h => by simp [keysP] at h
section
variable {sa sb sc : M Rv} {e : Sl} {Q : List D → Sl → Prop}
/-- ranges, read without opening the test of their bounds -/
theorem wp_R1 : Wp (mbind (sCons true sa (mret [])) fun r => mopt (itR1 r)) e Q = Wp sa e fun r e1 => OkP r.2.toI fun z => inR z = true ∧ Q (upto 0 z.toNat) e1 := by
  simp only [wp_bind, wp_cons, wp_ret, wp_mopt, hold_t, true_and]
  congr; funext r e1
  obtain ⟨k, d⟩ := r
  cases d <;> first | exact ok_itR1 | rfl
theorem wp_R2 : Wp (mbind (sCons true sa (sCons true sb (mret []))) fun r => mopt (itR2 r)) e Q = Wp sa e fun r e1 => Wp sb e1 fun r' e2 => OkP r.2.toI fun z => OkP r'.2.toI fun w => (inR z = true ∧ inR w = true) ∧ Q (upto z (w - z).toNat) e2 := by
  simp only [wp_bind, wp_cons, wp_ret, wp_mopt, hold_t, true_and]
  congr; funext r e1
  congr; funext r' e2
  obtain ⟨k, d⟩ := r
  obtain ⟨k', d'⟩ := r'
  cases d <;> cases d' <;> first | exact ok_itR2 | rfl
theorem wp_R3 : Wp (mbind (sCons true sa (sCons true sb (sCons true sc (mret [])))) fun r => mopt (itR3 r)) e Q = Wp sa e fun r e1 => Wp sb e1 fun r' e2 => Wp sc e2 fun r'' e3 => OkP r.2.toI fun z => OkP r'.2.toI fun w => OkP r''.2.toI fun s => (inR z = true ∧ inR w = true ∧ s = -1) ∧ Q (downto z (z - w).toNat) e3 := by
  simp only [wp_bind, wp_cons, wp_ret, wp_mopt, hold_t, true_and]
  congr; funext r e1
  congr; funext r' e2
  congr; funext r'' e3
  obtain ⟨k, d⟩ := r
  obtain ⟨k', d'⟩ := r'
  obtain ⟨k'', d''⟩ := r''
  cases d <;> cases d' <;> cases d'' <;> first | exact ok_itR3 | rfl
end
end AR

set_option Elab.async false
set_option linter.all false
set_option maxRecDepth 100000
namespace AR
open PySem PySem.Spec PyProof.Rows L2

/-! ### min of a list whose items lie in the heap: the compare may look at what stays (Z) -/
def CmpZ (prog : Program) (w : World) (A : Around) (Z : Heap → Prop) (P : Nat → Value → Prop) (bt : Nat → Nat → Bool) : Prop :=
  ∀ i j vi vj (s : Shared) (Q E : Value → Shared → Prop), Z s.heap → P i vi → P j vj → Q (.bool (bt i j)) s → wpAny (model prog w) A (richCompare .Lt vi vj) Q E s
/-- what stays but at the walk's own places and at the place of the best -/
def StayZ (wr : List Addr) (S : Addr) (h h' : Heap) : Prop := ∀ b o, b ∉ wr → b ≠ S → h.get? b = some o → h'.get? b = some o
theorem StayZ.trans {wr : List Addr} {S : Addr} {h h' h'' : Heap} (a : StayZ wr S h h') (b : StayZ wr S h' h'') : StayZ wr S h h'' := fun x o n1 n2 e => b x o n1 n2 (a x o n1 n2 e)
section
variable {prog : Program} {w : World} {A : Around} {R : Result → Shared → Prop} {I : Addr} {fp wr : List Addr} {n : Nat} {P : Nat → Value → Prop} {St : Nat → Heap → Prop} {Z : Heap → Prop}
theorem minZ_turns (W : Walks prog w A.in1 I fp wr n P St) (bt : Nat → Nat → Bool) (hc : CmpZ prog w A.in1 Z P bt) (S : Addr) (nS : S ∉ fp) (zs : ∀ h h', Z h → StayZ wr S h h' → Z h') :
    ∀ (m j : Nat) (s : Shared) (v : Value) (c : Nat), j + 1 + m = n → St (j + 1) s.heap → Z s.heap → P (argBest bt j) v →
    s.heap.get? S = some { cls := .type "list", dict := none, data := .seq #[v, v] c, slots := #[] } →
    (∀ u h' tk, P (argBest bt (n - 1)) u → StayZ wr S s.heap h' → R (.ok (.ret u)) { s with heap := h', toks := tk }) →
    codeAny (model prog w) A (.builtin "min.loop" ⟨[.ref I, .none, .ref S], []⟩) R s := by
  have nw : S ∉ wr := fun h => nS (W.sub _ h)
  have nm : (toString "min" ++ toString ".loop" : String) = "min.loop" := by decide
  intro m
  induction m with
  | zero =>
    intro j s v c hj st z pv at' k
    refine codeAny_builtin F.entry_min_loop ?_
    rw [Around.under_plainId F.plain_min_loop _]
    show wpAny _ A.in1 (seqItems? (.ref S) >>= _) _ _ s
    refine wpAny_bind (wpAny_seqItems at' rfl ?_)
    show wpAny _ A.in1 (tryCatch (pyNext (.ref I)) _ >>= _) _ _ s
    obtain rfl : j + 1 = n := hj
    refine wpAny_bind (wpAny_tryCatch (W.done s _ _ st fun h' tk kp => ?_))
    show wpAny _ A.in1 (updateSeq S (fun _ => #[]) >>= _) _ _ _
    refine wpAny_bind (wpAny_updateSeq (kp S _ nw at') rfl (wpAny_bind (wpAny_letGo (wpAny_pure ?_))))
    exact k v _ tk pv fun b o n1 n2 e => (Heap.get?_update_other _ _ (Ne.symm n2)).trans (kp b o n1 e)
  | succ m ih =>
    intro j s v c hj st z pv at' k
    refine codeAny_builtin F.entry_min_loop ?_
    rw [Around.under_plainId F.plain_min_loop _]
    show wpAny _ A.in1 (seqItems? (.ref S) >>= _) _ _ s
    refine wpAny_bind (wpAny_seqItems at' rfl ?_)
    show wpAny _ A.in1 (tryCatch (pyNext (.ref I)) _ >>= _) _ _ s
    refine wpAny_bind (wpAny_tryCatch (W.item (j + 1) s _ _ (by omega) st fun u h' tk pu st' kp => ?_))
    have at2 := kp S _ nw at'
    have kz : StayZ wr S s.heap h' := fun b o n1 _ e => kp b o n1 e
    have z2 := zs _ _ z kz
    show wpAny _ A.in1 (tryCatch (holding [u, u] (richCompare .Lt u v >>= _)) _ >>= _) _ _ _
    refine wpAny_bind (wpAny_tryCatch (wpAny_holding (wpAny_bind (hc (j + 1) (argBest bt j) u v _ _ _ z2 pu pv ?_))))
    refine wpAny_bind (wpAny_holding (wpAny_truthy_bool ?_))
    refine wpAny_bind (wpAny_letGo (wpAny_pure ?_))
    by_cases hb : bt (j + 1) (argBest bt j) = true
    · simp only [hb, if_true]
      refine wpAny_bind (wpAny_updateSeq at2 rfl (wpAny_bind (wpAny_letGo ?_)))
      rw [nm]
      have kz2 : ∀ f, StayZ wr S h' (h'.update S f) := fun f b o n1 n2 e => (Heap.get?_update_other _ _ (Ne.symm n2)).trans e
      refine wpAny_pure ⟨plainId_quiet F.plain_min_loop _, ih (j + 1) _ u _ (by omega) (W.frame _ _ _ st' fun b hf o e => ?_) (zs _ _ z2 (kz2 _)) (by simp only [argBest, hb, if_true]; exact pu) (Heap.get?_update_self _ at2 rfl) fun u' h2 tk2 pu' kz3 => k u' h2 tk2 pu' (kz.trans ((kz2 _).trans kz3))⟩
      exact (Heap.get?_update_other _ _ (fun h : S = b => nS (by rw [h]; exact hf))).trans e
    · simp only [hb, if_false, Bool.false_eq_true]
      refine wpAny_bind (wpAny_letGo ?_)
      rw [nm]
      exact wpAny_pure ⟨plainId_quiet F.plain_min_loop _, ih (j + 1) _ v c (by omega) st' z2 (by simp only [argBest, hb, if_false, Bool.false_eq_true]; exact pv) at2 fun u' h2 tk2 pu' kz3 => k u' h2 tk2 pu' (kz.trans kz3)⟩
theorem minZ_call {E : Value → Shared → Prop} {s : Shared} {x : Value} {Q : Value → Shared → Prop}
    (h : wpAny (model prog w) A.in1 (pyIter x) (fun it s₂ => ∃ I fp wr n P St bt Z, it = .ref I ∧ Walks prog w A.in1 I fp wr n P St ∧ St 0 s₂.heap ∧ (∀ b ∈ fp, b < s₂.heap.objs.size) ∧ 0 < n ∧ CmpZ prog w A.in1 Z P bt ∧ Z s₂.heap ∧ (∀ h h', Z h → StayZ wr s₂.heap.objs.size h h' → Z h') ∧
      ∀ v h' tk, P (argBest bt (n - 1)) v → (∀ b o, b ∉ wr → s₂.heap.get? b = some o → h'.get? b = some o) → Q v { s₂ with heap := h', toks := tk }) E s) :
    wpAny (model prog w) A (call (.builtin "min") [x]) Q E s := by
  have nm : (toString "min" ++ toString ".loop" : String) = "min.loop" := by decide
  refine call_function_tree F.kind_min F.plain_min F.entry_min (F.args_min1 _) ?_
  show wpAny _ A.in1 (Builtin.Builtins.bindParams "min" ["key", "default"] 0 ⟨[], []⟩ >>= _) _ _ s
  refine wpAny_bind (wpAny_of_eq (show Builtin.Builtins.bindParams "min" ["key", "default"] 0 ⟨[], []⟩ = pure [none, none] from rfl) ?_)
  refine wpAny_bind (wpAny_pure ?_)
  refine wpAny_bind (wpAny_mono h (fun it s₂ h₂ => ?_) fun _ _ e => e)
  obtain ⟨I, fp, wr, n, P, St, bt, Z, rfl, W, st, hf, hn, hc, z, zs, k⟩ := h₂
  refine wpAny_bind (wpAny_newObj_type ?_)
  have nS : s₂.heap.objs.size ∉ fp := fun hm => Nat.lt_irrefl _ (hf _ hm)
  have nw : s₂.heap.objs.size ∉ wr := fun h => nS (W.sub _ h)
  rw [nm]
  refine wpAny_pure ⟨plainId_quiet F.plain_min_loop _, ?_⟩
  refine codeAny_builtin F.entry_min_loop ?_
  rw [Around.under_plainId F.plain_min_loop _]
  show wpAny _ A.in1 (seqItems? (.ref s₂.heap.objs.size) >>= _) _ _ _
  have at1 := Heap.get?_push_size s₂.heap (o := { cls := .type "list", dict := none, data := .seq #[], slots := #[] }) rfl
  refine wpAny_bind (wpAny_seqItems at1 rfl ?_)
  show wpAny _ A.in1 (tryCatch (pyNext (.ref I)) _ >>= _) _ _ _
  refine wpAny_bind (wpAny_tryCatch (W.item 0 _ _ _ hn (W.frame _ _ _ st fun b _ o e => Heap.get?_push_of_some _ e) fun v h' tk pv st' kp => ?_))
  have at2 := kp _ _ nw at1
  show wpAny _ A.in1 (updateSeq s₂.heap.objs.size (fun _ => #[v, v]) >>= _) _ _ _
  refine wpAny_bind (wpAny_updateSeq at2 rfl ?_)
  rw [nm]
  have kz1 : StayZ wr s₂.heap.objs.size s₂.heap (s₂.heap.push { cls := .type "list", dict := none, data := .seq #[], slots := #[] }) := fun b o _ _ e => Heap.get?_push_of_some _ e
  have kz2 : StayZ wr s₂.heap.objs.size (s₂.heap.push { cls := .type "list", dict := none, data := .seq #[], slots := #[] }) h' := fun b o n1 _ e => kp b o n1 e
  have kz3 : ∀ f, StayZ wr s₂.heap.objs.size h' (h'.update s₂.heap.objs.size f) := fun f b o n1 n2 e => (Heap.get?_update_other _ _ (Ne.symm n2)).trans e
  refine wpAny_pure ⟨plainId_quiet F.plain_min_loop _, minZ_turns W bt hc _ nS zs (n - 1) 0 _ v _ (by omega) (W.frame _ _ _ st' fun b hfb o e => ?_) (zs _ _ z (kz1.trans (kz2.trans (kz3 _)))) pv (Heap.get?_update_self _ at2 rfl) fun u h2 tk2 pu kz4 => ?_⟩
  · exact (Heap.get?_update_other _ _ (fun h : s₂.heap.objs.size = b => nS (by rw [h]; exact hfb))).trans e
  · exact k u h2 tk2 pu fun b o n1 e => (kz1.trans (kz2.trans ((kz3 _).trans kz4))) b o n1 (Nat.ne_of_lt (Heap.lt_size e)) e
end
/-! ### min of a list of pairs -/
def minP : List Pr → Option Pr
  | [] => none
  | p :: ps => some (ps.foldl (fun b q => if ltPB q b = true then q else b) p)
def fMinP : List D → Option D
  | [.lst ds] => (allP ds).bind fun ps => (minP ps).map pairD
  | _ => none
def rMinP (K : PySem.W.Frag) : List V → Hp → VK → Prop := fun vs H Q => ∃ (a : Addr) (xs : List V) (kf : V → Pr), vs = [V.ref a] ∧ SqL K H a xs ∧ 0 < xs.length ∧ (∀ x ∈ xs, ∃ b, x = .ref b ∧ SqT K H b [.int (kf x).1, .int (kf x).2]) ∧ ∀ x ∈ xs, (∀ y ∈ xs, ltPB (kf y) (kf x) = false) → Q x H
theorem ltPB_trans {p q r : Pr} (h : ltPB p q = false) (h' : ltPB r q = true) : ltPB p r = false := by
  simp only [ltPB, decide_eq_true_eq, decide_eq_false_iff_not] at *
  omega
theorem argBest_P {g : Nat → Pr} : ∀ m, argBest (fun i j => ltPB (g i) (g j)) m ≤ m ∧ ∀ j, j ≤ m → ltPB (g j) (g (argBest (fun i j => ltPB (g i) (g j)) m)) = false
  | 0 => ⟨Nat.le_refl _, fun j hj => by obtain rfl : j = 0 := by omega
                                        simp [argBest, ltPB]⟩
  | m + 1 => by
    obtain ⟨h1, h2⟩ := argBest_P (g := g) m
    unfold argBest
    split
    · rename_i hb
      refine ⟨Nat.le_refl _, fun j hj => ?_⟩
      by_cases hh : j = m + 1
      · subst hh; simp [ltPB]
      · exact ltPB_trans (h2 j (by omega)) hb
    · rename_i hb
      refine ⟨by omega, fun j hj => ?_⟩
      by_cases hh : j = m + 1
      · subst hh; simpa using hb
      · exact h2 j (by omega)
theorem cr_minP {X : Cx} (hc : X.calm = true) (hu : X.A.units + 65 < cLine) : CallR X (.builtin "min") (rMinP X.K) := by
  intro pins s σ H vs us Q I r h
  obtain ⟨a, xs, kf, rfl, hs, hne, hx, q⟩ := h
  obtain ⟨its, rv, hl, _⟩ := I.list hs
  rw [Vals.ref1 r]
  have hlen : xs.length = its.length := rv.length
  have old : ∀ b o, s.heap.get? b = some o → b < s.heap.objs.size := fun b o e => Heap.lt_size e
  have ha : a < s.heap.objs.size := by obtain ⟨_, _, e, _⟩ := hl; exact Heap.lt_size e
  have at' : ∀ i v, its.toArray[i]? = some v → ∃ x, xs[i]? = some x ∧ RelV x v := fun i v e => by
    have hi : i < its.length := by
      obtain ⟨h, _⟩ := Array.getElem?_eq_some_iff.mp e; simpa using h
    obtain ⟨u, e1, e2⟩ := rv.get (List.getElem?_eq_getElem (by omega : i < xs.length))
    rw [List.getElem?_toArray, e1] at e
    obtain rfl := Option.some.inj e
    exact ⟨_, List.getElem?_eq_getElem _, e2⟩
  refine minZ_call (wpAny_pyIter_list hl.isList ?_)
  refine ⟨s.heap.objs.size, [s.heap.objs.size, a], [s.heap.objs.size], its.toArray.size, _, _, fun i j => ltPB (kf (xs.getD i .non)) (kf (xs.getD j .non)), fun h => ∀ b o, s.heap.get? b = some o → h.get? b = some o, rfl, Walks.list (A := X.A.in1) (I.ok.hd hc) _ a (Nat.ne_of_lt ha) its.toArray, ⟨⟨_, Heap.get?_push_size _ rfl, rfl, rfl⟩, hl.isList.push _⟩, fun b hb => ?_, ?_, fun i j vi vj s1 Q1 E1 z pi pj k => ?_, fun b o e => Heap.get?_push_of_some _ e, fun h h' z kz b o e => ?_, fun v h' tk pv hk => ?_⟩
  · show b < (s.heap.push _).objs.size
    rw [Heap.size_push]
    simp at hb
    rcases hb with rfl | rfl
    · exact Nat.lt_succ_self _
    · exact Nat.lt_succ_of_lt ha
  · simp; omega
  · obtain ⟨x, ex, rx⟩ := at' i vi pi
    obtain ⟨y, ey, ry⟩ := at' j vj pj
    obtain ⟨b, rfl, hb⟩ := hx x (List.mem_of_getElem? ex)
    obtain ⟨c, rfl, hcc⟩ := hx y (List.mem_of_getElem? ey)
    cases rx
    cases ry
    obtain ⟨i1, r1, p1, _⟩ := I.tuple hb
    obtain ⟨i2, r2, p2, _⟩ := I.tuple hcc
    have j1 : IntsAre i1.toArray.toList [(kf (.ref b)).1, (kf (.ref b)).2] := intsAre_of (ns := [(kf (.ref b)).1, (kf (.ref b)).2]) r1
    have j2 : IntsAre i2.toArray.toList [(kf (.ref c)).1, (kf (.ref c)).2] := intsAre_of (ns := [(kf (.ref c)).1, (kf (.ref c)).2]) r2
    have := HT.lt_tupInts (prog := X.prog) (w := X.w) (A := X.A.in1) (s := s1) (Q := Q1) (E := E1) (p1.keeps z) (p2.keeps z) j1 j2 (by show X.A.units + 1 < cLine; omega) (by
      rw [lexLt2]
      simp only [List.getD_eq_getElem?_getD, ex, ey, Option.getD_some] at k
      exact k)
    exact this
  · refine kz b o (fun hb => ?_) (fun hb => ?_) (z b o e)
    · have := old b o e; simp at hb; rw [hb] at this; exact Nat.lt_irrefl _ this
    · have := old b o e; rw [hb, Heap.size_push] at this; exact Nat.lt_irrefl _ (Nat.lt_of_succ_lt this)
  · have hsz : its.toArray.size = xs.length := by simp [hlen]
    rw [hsz] at pv
    obtain ⟨f1, f2⟩ := argBest_P (g := fun i => kf (xs.getD i .non)) (xs.length - 1)
    generalize argBest (fun i j => ltPB (kf (xs.getD i .non)) (kf (xs.getD j .non))) (xs.length - 1) = m at pv f1 f2
    obtain ⟨x, ex, rx⟩ := at' m v pv
    refine ⟨x, H, I.kept (fun b o e => hk b o (fun hb => ?_) (Heap.get?_push_of_some _ e)), rx, q x (List.mem_of_getElem? ex) fun y hy => ?_⟩
    · have := old b o e; simp at hb; rw [hb] at this; exact Nat.lt_irrefl _ this
    · obtain ⟨j, hj⟩ := List.getElem?_of_mem hy
      have hj' := lt_of_get hj
      have := f2 j (by omega)
      simp only [List.getD_eq_getElem?_getD, ex, hj, Option.getD_some] at this
      exact this
theorem minP_spec : ∀ (ps : List Pr) (p : Pr), ps.foldl (fun b q => if ltPB q b = true then q else b) p ∈ p :: ps ∧ ∀ y ∈ p :: ps, ltPB y (ps.foldl (fun b q => if ltPB q b = true then q else b) p) = false
  | [], p => by simp [ltPB]
  | z :: ps, p => by
    obtain ⟨h1, h2⟩ := minP_spec ps (if ltPB z p = true then z else p)
    rw [List.foldl_cons]
    generalize ps.foldl (fun b q => if ltPB q b = true then q else b) (if ltPB z p = true then z else p) = m at h1 h2
    have h3 := h2 (if ltPB z p = true then z else p) (by simp)
    refine ⟨?_, fun y hy => ?_⟩
    · split at h1
      · rcases List.mem_cons.mp h1 with h | h <;> simp [h]
      · rcases List.mem_cons.mp h1 with h | h <;> simp [h]
    · rcases List.mem_cons.mp hy with rfl | hy
      · split at h3
        · rename_i hz
          simp only [ltPB, decide_eq_true_eq, decide_eq_false_iff_not] at *
          omega
        · exact h3
      · rcases List.mem_cons.mp hy with rfl | hy
        · split at h3
          · exact h3
          · rename_i hz
            simp only [ltPB, decide_eq_true_eq, decide_eq_false_iff_not] at *
            omega
        · exact h2 y (by simp [hy])
theorem ltPB_tri {p q : Pr} (h1 : ltPB p q = false) (h2 : ltPB q p = false) : p = q := by
  obtain ⟨a, b⟩ := p
  obtain ⟨c, d⟩ := q
  simp only [ltPB, decide_eq_false_iff_not] at *
  have : a = c ∧ b = d := by omega
  rw [this.1, this.2]
theorem p_minP {K : PySem.W.Frag} : PcR (rMinP K) (flatN fMinP) := PcR.flat (r := rMinP K) (f := fMinP) fun H vs ds x Q hv hf => by
  unfold fMinP at hf
  split at hf
  · rename_i es
    obtain ⟨v, rfl, h⟩ := hv.one
    cases hx : allP es with
    | none => rw [hx] at hf; cases hf
    | some ps =>
      rw [hx] at hf
      simp only [Option.bind_some] at hf
      cases ps with
      | nil => cases hf
      | cons p ps =>
        obtain rfl := Option.some.inj hf
        rw [allP_eq hx] at h
        simp only [Fz] at h
        obtain ⟨a, ws, rfl, h1, h2⟩ := h
        obtain ⟨i1, i2⟩ := h2.pairs
        refine ⟨rfl, fun k => ⟨a, ws, kOf H, rfl, .inl (.inl h1), ?_, fun v hv => ?_, fun v hv hm => k _ ?_⟩⟩
        · have := congrArg List.length i2
          simp at this; omega
        · obtain ⟨t, e, ht⟩ := i1 v hv
          exact ⟨t, e, .inl (.inl ht)⟩
        · obtain ⟨f1, f2⟩ := minP_spec ps p
          rw [← i2] at f1
          obtain ⟨y, hy, ey⟩ := List.mem_map.mp f1
          have g1 := hm y hy
          have g2 := f2 (kOf H v) (by rw [← i2]; exact List.mem_map.mpr ⟨v, hv, rfl⟩)
          rw [ey] at g1
          have e := ltPB_tri g2 g1
          rw [← e]
          obtain ⟨t, et, ht⟩ := i1 v hv
          simp only [pairD, Fz, FzL]
          exact ⟨t, _, et, ht, _, _, rfl, rfl, _, _, rfl, rfl, rfl⟩
  · cases hf
section
variable {X : Cx} {W : WX} {qa : Bool} {a : Expr} {t : TA} {s : M (List Rv)} {pos : Pos}
theorem ev_minP {p : Pos} {n : Nat} (hr : Room n X.A) (hc : X.calm = true) (hm : X.mg "min" = none) (hg : Gl X "min") (ha : AV X W qa [a] t s) (he : starEach [a] X.env = (false, eval a X.env) :: starEach [] X.env := by rfl) (hpl : (backTo pos (starEach [] X.env)).any (·.1) = false := by rfl) {K : PySem.W.Frag} (hK : X.K = K := by rfl) : EV X W qa (.Call (.Name "min" p) [a] [] pos) (tCB (rMinP K) t) (sCall1 (flatN fMinP) s) := by
  subst hK; exact ev_callB (cr_minP hc (hu65 hr)) p_minP hg hm (by decide +kernel) ha (by decide) (by decide) he hpl
end
end AR

set_option Elab.async false
set_option linter.all false
set_option maxRecDepth 100000
namespace AR
open PySem PySem.Spec PyProof.Rows L2

/-! ### a comprehension that changes nothing may walk a list that is owned -/
/-- J gives the items ds, which stand in F, as long as what is in G stays -/
structure ItG (F G : Hp) (J : It) (ds : List D) : Prop where
  go : ∀ i H, i < ds.length → Same G H → J.go i H
  st : ∀ H, Same G H → J.stop ds.length H
  yl : ∀ i H x H' d F0, ds[i]? = some d → Same F F0 → Same F0 H → Same G H → J.yld i H x H' → ∃ F', Same F' H' ∧ Step F0 H [] F' H' [] ∧ Fz F' d x
theorem ItG.at {F G0 : Hp} {J : It} {ds : List D} {n : Nat} {G : Hp → Prop} {xs : List V} (w : Walk J n G (YAt xs)) (hn : n = ds.length) (hG : ∀ H, Same G0 H → G H) (h : FzL F ds xs) : ItG F G0 J ds where
  go := fun i H hi s => w.goes i H (hn ▸ hi) (hG H s)
  st := fun H s => hn ▸ w.stops H (hG H s)
  yl := fun i H x H' d F0 hd s1 s2 s3 y => by
    have hi : i < n := by rw [hn]; exact lt_of_get hd
    obtain ⟨rfl, hx⟩ := w.yields i H x H' hi (hG H s3) y
    obtain ⟨v, hv, fz⟩ := h.get hd
    rw [hx] at hv
    obtain rfl := Option.some.inj hv
    exact ⟨F0, s2, Step.refl _ _ _, Fz.mono s1 _ _ fz⟩
theorem ItG.pair {F G0 : Hp} {J : It} {ds : List D} {n : Nat} {G : Hp → Prop} {xs ys : Nat → Option V} (w : Walk J n G (YPair xs ys)) (hn : n = ds.length) (hG : ∀ H, Same G0 H → G H) (h : ∀ i d, ds[i]? = some d → ∃ d1 d2, d = .tup [d1, d2] ∧ (∀ v, xs i = some v → Fz F d1 v) ∧ ∀ v, ys i = some v → Fz F d2 v) : ItG F G0 J ds where
  go := fun i H hi s => w.goes i H (hn ▸ hi) (hG H s)
  st := fun H s => hn ▸ w.stops H (hG H s)
  yl := fun i H x H' d F0 hd s1 s2 s3 y => by
    have hi : i < n := by rw [hn]; exact lt_of_get hd
    obtain ⟨T, v, v', rfl, hT, rfl, h1, h2⟩ := w.yields i H x H' hi (hG H s3) y
    obtain ⟨d1, d2, rfl, f1, f2⟩ := h i d hd
    have nt := Step.newTup (vs := [v, v']) s2 hT
    refine ⟨_, nt.1, nt.2, ?_⟩
    simp only [Fz, FzL]
    exact ⟨T, [v, v'], rfl, upd_same, v, [v'], rfl, Fz.mono (s1.trans nt.2.fz) _ _ (f1 v h1), v', [], rfl, Fz.mono (s1.trans nt.2.fz) _ _ (f2 v' h2), rfl⟩
def PostIq (mg : Str → Option Value) (W : WX) (q : Bool) (F H : Hp) (e : Sl) (σ : St) (A : List Addr) (o : Out (List D)) (R : It → Hp → Prop) : Prop := match o with
  | .ok ds e' => ∀ F' H' A' J, Got q F H e σ A F' H' e' A' [] → ItG F' H' J ds → R J H'
  | .exc c e' => ∀ F' H' A', Got q F H e σ A F' H' e' A' [] → W (clv mg c) none σ H'
  | .bad => False
def SIq (mg : Str → Option Value) (W : WX) (q : Bool) (wi : TI) (s : M (List D)) : Prop := ∀ F H e σ A R, Rel F H e σ A → PostIq mg W q F H e σ A (s e) R → wi σ H R
structure IVq (X : Cx) (W : WX) (q : Bool) (tg iter : Expr) (wi : TI) (s : M (List D)) : Prop where
  pe : PI X tg iter wi
  se : SIq X.mg W q wi s
theorem SX.iterQ {mg : Str → Option Value} {W : WX} {q : Bool} {α β : Type} {I : Hp → Hp → α → β → List Addr → Prop} {t : St → Hp → (β → Hp → Prop) → Prop} {sa : M α} {k : α → Option (List D)} {T : β → Hp → (It → Hp → Prop) → Prop} (h : SX mg W I q t sa)
    (hk : ∀ F H e σ A F1 H1 e1 A1 B r v ds R, Rel F H e σ A → Got q F H e σ A F1 H1 e1 A1 B → I F1 H1 r v B → k r = some ds → (∀ F' J, Got q F H e σ A F' H1 e1 A1 [] → ItG F' H1 J ds → R J H1) → T v H1 R) :
    SIq mg W q (fun σ H R => t σ H fun v H1 => T v H1 R) (mbind sa fun r => mopt (k r)) := fun F H e σ A R Rl pq => by
  refine h F H e σ A _ Rl ?_
  unfold mbind at pq
  cases hs : sa e with
  | ok r e' =>
    rw [hs] at pq
    intro F' H' A' B v gt y
    cases hk' : k r with
    | none => simp only [hk', mopt, mbad, PostIq] at pq
    | some ds =>
      simp only [hk', mopt, mret, PostIq] at pq
      exact hk _ _ _ _ _ _ _ _ _ _ _ _ ds R Rl gt y hk' fun F2 J g2 it => pq F2 H' A' J g2 it
  | exc c e' => rw [hs] at pq; exact pq
  | bad => rw [hs] at pq; exact pq
def itLq (r : Rv) : Option (List D) := match r with
  | (k, .lst ds) => if (k.isSome || depL ds == 0) = true then some ds else none
  | _ => none
section
variable {mg : Str → Option Value} {W : WX} {q : Bool} {te : TE} {se : M Rv} {X : Cx} {x a : Expr} {pos tpos pr : Pos}
theorem ivq_list {tg : Expr} (h : EV X W q x te se) {K : PySem.W.Frag} (hK : X.K = K := by rfl) : IVq X W q tg x (iList K te) (mbind se fun r => mopt (itLq r)) := by
  subst hK
  refine ⟨pi_list h.pe, SX.iterQ (k := itLq) (T := fun (v : V) H R => ∃ a, v = V.ref a ∧ (∃ xs, SqL X.K H a xs) ∧ R (Itl X.K a) H) h.se fun F H e σ A F1 H1 e1 A1 B r v ds R Rl gt y hk k => ?_⟩
  unfold itLq at hk
  split at hk
  · rename_i k1 ds'
    split at hk
    · rename_i ok
      obtain rfl := Option.some.inj hk
      obtain ⟨F2, a, vs, g2, s2, n2, rfl, h1, h2⟩ := Got.items (C := []) (by rw [List.append_nil]; exact gt) y (fun a h => by cases h) ok
      exact ⟨a, rfl, ⟨vs, .inl (.inl h1)⟩, k F2 _ g2 (ItG.at (walk_list (K := X.K) (a := a) (xs := vs)) h2.length (fun H s => .inl (.inl (s _ _ h1))) h2)⟩
    · cases hk
  · cases hk
end
theorem SX.lcQ {mg : Str → Option Value} {W : WX} {qi : Bool} {vs is : List Nat} {m : Nat} {wi : TI} {g : TG} {tt : TT} {te : TE} {si : M (List D)} {sg : TgS} {st : M Bool} {se : M Rv} (hi : SIq mg W qi wi si) (hg : GSem none is g sg) (hs : ∀ i ∈ is, i ∈ vs) (ht : SX mg W0 IsB true tt st) (he : SX mg W0 IsR true te se) :
    SX mg W IsR (qi && true) (tLc wi g tt te vs) (sLc true vs m si sg st se) := fun F H e σ A Q R pq => by
  refine hi F H e σ A _ R ?_
  unfold sLc mbind at pq
  cases hsi : si e with
  | bad => rw [hsi] at pq; exact pq
  | exc c e' => rw [hsi] at pq; exact fun F' H' A' g => pq F' H' A' (g.weak fun z => (Bool.and_eq_true_iff.mp z).1)
  | ok ds e1 =>
    rw [hsi] at pq
    dsimp only at pq
    split at pq
    · rename_i hlen
      intro F1 H1 A1 J gt it D0 hD0
      obtain ⟨AW, RW, sW⟩ := gt.rel.blk vs
      obtain ⟨fin, hfin⟩ : ∃ fin, fin = lcLoop true vs m sg st se ds [] (wipeE e1 vs) := ⟨_, rfl⟩
      rw [← hfin] at pq
      refine ⟨fun i k H' => k = ds.length - i ∧ i ≤ ds.length ∧ ∃ F' e2 A2 B rs, Got true F1 H1 (wipeE e1 vs) (wipe σ vs) AW F' H' e2 A2 (D0 :: B) ∧ Is F' H' (.lst rs) (m + 1) (.ref D0) (D0 :: B) ∧ (∀ v ∈ vs, e2.set v none = e2) ∧ rs.length ≤ i ∧ lcLoop true vs m sg st se (ds.drop i) rs e2 = fin, ⟨ds.length, by simp, Nat.zero_le _, F1, wipeE e1 vs, AW, [], [], (Got.refl RW).newL (fun a h => by cases h) hD0 _, ?_, fun v hv => wipeE_fix hv, Nat.le_refl _, hfin.symm⟩, ?_⟩
      · simp only [Is, IsL]
        exact ⟨D0, [], [], rfl, rfl, (gt.rel.fresh hD0).1, upd_same, rfl, rfl⟩
      · rintro i k H' ⟨rfl, hil, F', e2, A2, B, rs, gB, iD, fx, hrs, eq⟩
        have smG : Same H1 H' := fun a o h => by
          have st := gB.st
          simp only [if_true] at st
          exact st.kp a o h (by simp)
        rcases Nat.lt_or_ge i ds.length with hlt | hge
        · have hdrop : ds.drop i = ds[i] :: ds.drop (i + 1) := List.drop_eq_getElem_cons hlt
          rw [hdrop] at eq
          unfold lcLoop at eq
          refine .inr ⟨it.go i H' hlt smG, fun H2 => i + 1 ≤ ds.length ∧ ∃ F' e2 A2 B rs, Got true F1 H1 (wipeE e1 vs) (wipe σ vs) AW F' H2 e2 A2 (D0 :: B) ∧ Is F' H2 (.lst rs) (m + 1) (.ref D0) (D0 :: B) ∧ (∀ v ∈ vs, e2.set v none = e2) ∧ rs.length ≤ i + 1 ∧ lcLoop true vs m sg st se (ds.drop (i + 1)) rs e2 = fin, fun H2 h => ⟨ds.length - (i + 1), by omega, rfl, h.1, h.2⟩, fun v H2 hy => ?_⟩
          obtain ⟨F2, sm2, st2, fz⟩ := it.yl i H' v H2 ds[i] F' (by simp [hlt]) gB.step.fz gB.rel.sm smG hy
          have gq : Got true F' H' e2 (wipe σ vs) A2 F2 H2 e2 A2 [] := Got.quiet gB.rel st2 sm2 List.nodup_nil
          have g1 : Got true F1 H1 (wipeE e1 vs) (wipe σ vs) AW F2 H2 e2 A2 (D0 :: B) := by simpa using gB.trans gq (Is.own iD)
          have iD1 : IsR F2 H2 (some (m + 1), .lst rs) (.ref D0) (D0 :: B) := IsR.keep (r := (some (m + 1), .lst rs)) (by simp [hold]) iD gq fun a h z => (nodup_app.mp gB.nd).2.2 a z h
          cases hsg : sg (0, ds[i]) e2 with
          | none => rw [hsg] at eq; dsimp only at eq; rw [← eq] at pq; exact pq.elim
          | some e3 =>
            rw [hsg] at eq
            dsimp only at eq
            refine hg (B := []) (m := 0) g1.rel (fun _ _ z => by cases z) (by rw [List.append_nil]; exact g1.rel.nd) (Fz.is fz) hsg fun σ2 A3 R3 P3 s3 w3 => ?_
            have hw0 : wipe σ2 vs = wipe (wipe σ vs) vs := w3 vs hs
            have hw1 : wipe σ2 vs = wipe σ vs := hw0.trans (wipe_wipe fun w h => h)
            have s3' : ∀ a ∈ A3, a ∈ A2 := fun a h => by simpa using s3 a h
            refine ⟨hw1, ht F2 H2 e3 σ2 A3 _ R3 ?_⟩
            cases hst : st e3 with
            | bad => rw [hst] at eq; dsimp only at eq; rw [← eq] at pq; exact pq.elim
            | exc c e4 => rw [hst] at eq; dsimp only at eq; rw [← eq] at pq; exact pq.elim
            | ok b e4 =>
              rw [hst] at eq
              intro F3 H3 A4 B4 b' gt1 xb
              obtain ⟨rfl, rfl⟩ := xb
              cases b' with
              | false =>
                simp only [Bool.false_eq_true, if_false]
                dsimp only at eq
                obtain ⟨A5, gO⟩ := Got.turn g1.rel hw1 s3' gt1
                refine ⟨hlt, F3, _, A5, B, rs, by simpa using g1.trans gO (IsR.own iD1), IsR.keep (r := (some (m + 1), .lst rs)) (by simp [hold]) iD1 gO fun a h z => (nodup_app.mp g1.nd).2.2 a z h, ?_, by omega, eq⟩
                intro v hv
                unfold lcNext
                split
                · exact fx v hv
                · exact wipeE_fix hv
              | true =>
                simp only [if_true]
                dsimp only at eq
                refine he F3 H3 e4 σ2 A4 _ gt1.rel ?_
                cases hse : se e4 with
                | bad => rw [hse] at eq; dsimp only at eq; rw [← eq] at pq; exact pq.elim
                | exc c e5 => rw [hse] at eq; dsimp only at eq; rw [← eq] at pq; exact pq.elim
                | ok r e5 =>
                  rw [hse] at eq
                  intro F4 H4 A5 B5 y gt2 xr
                  dsimp only at eq
                  have gt12 : Got true F2 H2 e3 σ2 A3 F4 H4 e5 A5 B5 := by
                    have := gt1.trans gt2 (fun a h => by cases h)
                    simpa using this
                  split at eq
                  · rename_i hacc
                    obtain ⟨F5, C, gC, iC⟩ := gt12.asM hacc xr
                    obtain ⟨A6, gO⟩ := Got.turn g1.rel hw1 s3' gC
                    have gA : Got true F1 H1 (wipeE e1 vs) (wipe σ vs) AW F5 H4 (lcNext true vs e2 e5) A6 ((D0 :: B) ++ C) := by simpa using g1.trans gO (IsR.own iD1)
                    have iD2 : IsR F5 H4 (some (m + 1), .lst rs) (.ref D0) (D0 :: B) := IsR.keep (r := (some (m + 1), .lst rs)) (by simp [hold]) iD1 gO fun a h z => (nodup_app.mp g1.nd).2.2 a z h
                    have iD3 : Is F5 H4 (.lst rs) (m + 1) (.ref D0) (D0 :: B) := iD2
                    simp only [Is] at iD3
                    obtain ⟨a, acc, B', ea, eB, hF, hH, hL⟩ := iD3
                    cases ea
                    simp only [List.cons.injEq, true_and] at eB
                    subst eB
                    have alen : acc.length = rs.length := hL.length
                    refine ⟨acc, hH, ?_, hlt, F5, lcNext true vs e2 e5, A6, B ++ C, rs ++ [r.2], ?_, ?_, ?_, by simp; omega, eq⟩
                    · rw [alen]
                      have := sizeMil
                      omega
                    · exact gA.write (by simp) hH (fun vs z => by cases z) hF
                    · have ndB : (D0 :: (B ++ C)).Nodup := by simpa using (nodup_app.mp gA.nd).2.1
                      have nin := (List.nodup_cons.mp ndB).1
                      have ne : ∀ a ∈ B ++ C, a ≠ D0 := fun a h z => nin (z ▸ h)
                      simp only [Is]
                      refine ⟨D0, acc ++ [y], B ++ C, rfl, rfl, hF, upd_same, ?_⟩
                      have x1 := IsL.append hL (show IsL F5 H4 [r.2] m [y] C by simp only [IsL]; exact ⟨y, [], C, [], rfl, by simp, iC, rfl, rfl⟩)
                      exact IsL.frame (Same.refl _) (fun a h => (IsL.own x1 a h).1) (fun a h => upd_ne (ne a h)) x1
                    · intro v hv
                      unfold lcNext
                      split
                      · exact fx v hv
                      · exact wipeE_fix hv
                  · rw [← eq] at pq; exact pq.elim
        · have e0 : i = ds.length := by omega
          subst e0
          rw [List.drop_length] at eq
          unfold lcLoop at eq
          rw [← eq] at pq
          refine .inl ⟨it.st H' smG, ?_⟩
          dsimp only at pq
          have st := gB.st
          simp only [if_true] at st pq
          have gQ := Got.quiet gt.rel st gB.rel.sm (nodup_app.mp gB.nd).2.1
          exact pq F' H' A1 (D0 :: B) (.ref D0) (by simpa using gt.trans gQ (fun a h => by cases h)) iD
    · exact pq.elim
section
variable {X : Cx} {W : WX} {q qi : Bool} {elt tg iter : Expr} {ifs : List Expr} {scope : Scope} {own : List (Str × Nat)} {pos spos : Pos} {wi : TI} {g : TG} {tt : TT} {te : TE} {si : M (List D)} {sg : TgS} {st : M Bool} {se : M Rv} {is : List Nat} {p : Pin}
theorem ev_lcQ {vs : List Nat} (m : Nat) (hc : X.calm = true) (hN : X.N.Nodup) (hi : IVq X W qi tg iter wi si) (ok : BlkOk X.N X.env.scope scope own) (hg : Blk X scope fun Y => GV Y none is tg g sg) (hs : ∀ i ∈ is, i ∈ own.map (·.2)) (ht : Blk X scope fun Y => TVs Y W0 true ifs tt st) (he : Blk X scope fun Y => EV Y W0 true elt te se)
    (hf : ∀ x, foldedSetIterable iter X.env x = pure x := by intro _; rfl) (hvs : own.map (·.2) = vs := by rfl) : EV X W (qi && true) (.ListComp elt [⟨tg, iter, ifs, 0⟩] scope pos) (tLc wi g tt te (own.map (·.2))) (sLc true vs m si sg st se) := by
  subst hvs
  refine ⟨pe_lc hc hN hi.pe ok (fun a b c d e => (hg a b c d e).pe) (fun a b c d e => (ht a b c d e).pe) (fun a b c d e => (he a b c d e).pe) hf, ?_⟩
  have h1 : SX X.mg W0 IsB true tt st := Blk.some (X := X) (scope := scope) fun a b c d e => (ht a b c d e).se
  have h2 : SX X.mg W0 IsR true te se := Blk.some (X := X) (scope := scope) fun a b c d e => (he a b c d e).se
  have h3 : GSem none is g sg := @Blk.some (GSem none is g sg) X scope fun a b c d e => (hg a b c d e).se
  exact SX.lcQ hi.se h3 hs h1 h2
theorem sv_setLcQ {vs : List Nat} (m : Nat) {i : Nat} {y : Str} {py : Pos} (hc : X.calm = true) (hN : X.N.Nodup) (hy : X.N[i]? = some y) (hyl : X.env.scope.names.lookup y = some .local) (hp : ∀ v, p ≠ some (i, v)) (hsw : swapsWith (.ListComp elt [⟨tg, iter, ifs, 0⟩] scope pos) (some (.Name y py)) spos.line X.env = pure true)
    (hi : IVq X W qi tg iter wi si) (ok : BlkOk X.N X.env.scope scope own) (hg : Blk X scope fun Y => GV Y none is tg g sg) (hs : ∀ i ∈ is, i ∈ own.map (·.2)) (ht : Blk X scope fun Y => TVs Y W0 true ifs tt st) (he : Blk X scope fun Y => EV Y W0 true elt te se)
    (hf : ∀ x, foldedSetIterable iter X.env x = pure x := by intro _; rfl) (hvs : own.map (·.2) = vs := by rfl) : SV X W p (.Assign [.Name y py] (.ListComp elt [⟨tg, iter, ifs, 0⟩] scope pos) spos) (tAsg (tLc wi g tt te (own.map (·.2))) (gName i)) (sAsg (gNm i) (sLc true vs m si sg st se)) := by
  subst hvs
  refine ⟨ps_setLc hc hN hy hyl hsw hi.pe ok (fun a b c d e => (hg a b c d e).pe) (fun a b c d e => (ht a b c d e).pe) (fun a b c d e => (he a b c d e).pe) hf, ?_⟩
  have h1 : SX X.mg W0 IsB true tt st := Blk.some (X := X) (scope := scope) fun a b c d e => (ht a b c d e).se
  have h2 : SX X.mg W0 IsR true te se := Blk.some (X := X) (scope := scope) fun a b c d e => (he a b c d e).se
  have h3 : GSem none is g sg := @Blk.some (GSem none is g sg) X scope fun a b c d e => (hg a b c d e).se
  exact SS.asg (SX.lcQ hi.se h3 hs h1 h2) (@gs_name p i hp)
end
/-! ### readings -/
theorem ok_itLq {k : Option Nat} {ds : List D} {P : List D → Prop} (h : (k.isSome || depL ds == 0) = true) : OkP (itLq (k, .lst ds)) P = P ds := by
  unfold itLq
  dsimp only
  rw [if_pos h]; rfl
end AR

set_option Elab.async false
set_option linter.all false
set_option maxRecDepth 100000
namespace AR
open PySem PySem.Spec PyProof.Rows L2

/-! ### text * number, the number at most 1 -/
def rMulS : R2 := fun x y H Q => ∃ i j, x = .str i ∧ y = .int j ∧ (-4611686018427387904 ≤ j ∧ j ≤ 1) ∧ Q (.str (if j < 1 then Str.empty else i)) H
theorem op_mulS {X : Cx} : OpR X (binaryOp .Mult) rMulS := by
  intro pins s σ H x y v u Q I rx ry h
  obtain ⟨i, j, rfl, rfl, ⟨h1, h2⟩, k⟩ := h
  obtain ⟨t, rfl⟩ := rx
  obtain ⟨t', rfl⟩ := ry
  have hr : (decide (j < -(2 ^ 63 : Int)) || decide (j ≥ 2 ^ 63)) = false := by
    rw [Bool.or_eq_false_iff]
    exact ⟨decide_eq_false (by omega), decide_eq_false (by omega)⟩
  by_cases hj : j < 1
  · rw [if_pos hj] at k
    exact PySem.P.mul_str_none hj (by omega) ⟨.str Str.empty, H, I.tok _, ⟨_, rfl⟩, k⟩
  · rw [if_neg hj] at k
    obtain rfl : j = 1 := by omega
    refine PySem.P.mul_str hr (fun _ h => by simp at h) (fun _ h => by simp at h) ?_
    rw [if_neg (by omega), if_pos (by simp)]
    exact ⟨.str i, H, I, ⟨_, rfl⟩, k⟩
def fMulSD (d e : D) : Option D := match d, e with
  | .str i, .int j => if (decide (-4611686018427387904 ≤ j) && decide (j ≤ 1)) = true then some (.str (if j < 1 then Str.empty else i)) else none
  | _, _ => none
abbrev fMulS := flat2 fMulSD
theorem p_mulS : P2R rMulS fMulS := P2R.flat (r := rMulS) (f := fMulSD) fun H v w d e x Q hv hw hf => by
  unfold fMulSD at hf
  split at hf
  · rename_i i j
    split at hf
    · rename_i c
      obtain rfl := Option.some.inj hf
      simp only [Bool.and_eq_true, decide_eq_true_eq] at c
      simp only [Fz] at hv hw
      subst hv hw
      exact ⟨rfl, fun k => ⟨i, j, rfl, rfl, c, k _ (by simp only [Fz])⟩⟩
    · cases hf
  · cases hf
theorem ok_mulS {k l : Option Nat} {i : Str} {j : Int} {P : Rv → Prop} : OkP (fMulS (k, .str i) (l, .int j)) P = ((-4611686018427387904 ≤ j ∧ j ≤ 1) ∧ P (some 0, .str (if j < 1 then Str.empty else i))) := by
  unfold fMulS flat2 fMulSD
  dsimp only
  by_cases h : (decide (-4611686018427387904 ≤ j) && decide (j ≤ 1)) = true
  · rw [if_pos h]
    simp only [Bool.and_eq_true, decide_eq_true_eq] at h
    simp [OkP, h]
  · rw [if_neg h]
    simp only [Bool.and_eq_true, decide_eq_true_eq] at h
    simp only [OkP, Option.map_none]
    exact (eq_false fun z => h z.1).symm

/-! ### a sign's join of a list of texts -/
def allS : List D → Option (List Str)
  | [] => some []
  | .str x :: ds => (allS ds).map (x :: ·)
  | _ :: _ => none
theorem allS_eq : ∀ {ds : List D} {ys : List Str}, allS ds = some ys → ds = ys.map D.str
  | [], _, h => by simp only [allS] at h; rw [← Option.some.inj h]; rfl
  | d :: ds, _, h => by
    cases d with
    | str x =>
      simp only [allS] at h
      cases hs : allS ds with
      | none => rw [hs] at h; cases h
      | some ys =>
        rw [hs] at h
        rw [← Option.some.inj h, allS_eq hs]; rfl
    | _ => simp [allS] at h
theorem allS_map (ys : List Str) : allS (ys.map D.str) = some ys := by
  induction ys with
  | nil => rfl
  | cons y ys ih => simp [allS, ih]
def rJoin (K : PySem.W.Frag) : V → List V → Hp → VK → Prop := fun x xs H Q => ∃ a p, ∃ ys : List Str, x = .str a ∧ xs = [.ref p] ∧ (SqL K H p (ys.map V.str) ∨ SqT K H p (ys.map V.str)) ∧
    (ys.map (·.length)).sum + ys.length * a.length ≤ 16777216 ∧ Q (.str (Txt.join a ys)) H
def fJoin (z : Str) : List D → Option D
  | [.lst ds] => (allS ds).bind fun ys => if decide ((ys.map (·.length)).sum + ys.length * z.length ≤ 1000000) = true then some (.str (Txt.join z ys)) else none
  | _ => none
theorem FzL.strs {F : Hp} : ∀ {ys : List Str} {vs : List V}, FzL F (ys.map D.str) vs → vs = ys.map V.str
  | [], _, h => by simpa [FzL] using h
  | y :: ys, _, h => by
    simp only [List.map_cons, FzL, Fz] at h
    obtain ⟨v, r, rfl, rfl, h2⟩ := h
    rw [FzL.strs h2]; rfl
theorem p_join {K : PySem.W.Frag} {z : Str} : PcR (rJoin K (.str z)) (flatN (fJoin z)) := PcR.flat (r := rJoin K (.str z)) (f := fJoin z) fun H vs ds x Q hv hf => by
  unfold fJoin at hf
  split at hf
  · rename_i es
    obtain ⟨v, rfl, h⟩ := hv.one
    cases hx : allS es with
    | none => rw [hx] at hf; cases hf
    | some ys =>
      rw [hx] at hf
      simp only [Option.bind_some] at hf
      split at hf
      · rename_i c
        obtain rfl := Option.some.inj hf
        rw [allS_eq hx] at h
        simp only [Fz] at h
        obtain ⟨a, ws, rfl, h1, h2⟩ := h
        rw [h2.strs] at h1
        exact ⟨rfl, fun k => ⟨z, a, ys, rfl, rfl, .inl (.inl (.inl h1)), by have := of_decide_eq_true c; omega, k _ (by simp only [Fz])⟩⟩
      · cases hf
  · cases hf
section
variable {X : Cx} {W : WX} {q : Bool} {a : Expr} {ta : TE} {sa : M Rv} {pos apos cp : Pos} {z : Str} {j : Nat}
theorem ev_joinC (h : EV X W q a ta sa) (hs : starEach [a] X.env = [(false, eval a X.env)] := by rfl) (hbase : attributeBase (.Constant (.str z) j cp) "join" X.env (eval (.Constant (.str z) j cp) X.env) = eval (.Constant (.str z) j cp) X.env := by rfl) (hline : (apos.endLine == pos.line) = true := by rfl) {K : PySem.W.Frag} (hK : X.K = K := by rfl) :
    EV X W q (.Call (.Attribute (.Constant (.str z) j cp) "join" apos) [a] [] pos) (tM1 (rJoin K) (tC (.str z)) ta) (sCall1 (flatN (fJoin z)) (asL sa)) := by
  subst hK
  have av := av_one (es := []) h hs
  refine ⟨pe_join (X := X) (o := .Constant (.str z) j cp) (apos := apos) (pos := pos) pe_str h.pe hs hbase hline, fun F H e σ A Q R p => ?_⟩
  have := SX.call (W := W) (p_join (K := X.K) (z := z)) av.se F H e σ A Q R p
  exact ⟨⟨z, rfl⟩, this⟩
end
theorem wp_asL {s : M Rv} {e : Sl} {P : List Rv → Sl → Prop} : Wp (asL s) e P = Wp s e fun r e1 => P [r] e1 := by
  unfold asL; rw [wp_bind]; rfl
theorem ok_join {z : Str} {k : Option Nat} {ys : List Str} {P : Rv → Prop} : OkP (flatN (fJoin z) [(k, .lst (ys.map D.str))]) P = ((ys.map (·.length)).sum + ys.length * z.length ≤ 1000000 ∧ P (some 0, .str (Txt.join z ys))) := by
  unfold flatN fJoin
  simp only [List.map_cons, List.map_nil]
  rw [allS_map]
  simp only [Option.bind_some]
  by_cases h : (ys.map (·.length)).sum + ys.length * z.length ≤ 1000000
  · simp [h, OkP]
  · simp [h, OkP]

/-! ### sorting (number, text) pairs whose numbers tell them apart -/
abbrev IS := Int × Str
def isD (p : IS) : D := .tup [.int p.1, .str p.2]
def IsIS (h : Heap) (v : Value) (x : Int) (y : Str) : Prop := ∃ a o t u n, v = .ref a ∧ h.get? a = some o ∧ o.cls = .type "tuple" ∧ o.data = .seq #[.int x t, .str y u] n
theorem swo_fst (k : Value → IS) : SrtO.Swo fun v u => decide ((k v).1 < (k u).1) := by
  refine ⟨fun x y h => ?_, fun x y z h1 h2 => ?_⟩
  · simp only [decide_eq_true_eq, decide_eq_false_iff_not] at *; omega
  · simp only [decide_eq_false_iff_not] at *; omega
section
variable {prog : Program} {w : World} {A : Around} {E : Value → Shared → Prop} {s : Shared}
theorem is_cmp {vs : List Value} {k : Value → IS} (hp : ∀ v ∈ vs, IsIS s.heap v (k v).1 (k v).2) (hk : ∀ v ∈ vs, ∀ u ∈ vs, (k v).1 = (k u).1 → (k v).2 = (k u).2) : SrtO.Cmp prog w A s (tuples' true) (fun p => p.1 ∈ vs) (SrtO.lt2 fun v u => decide ((k v).1 < (k u).1)) := by
  intro p q hm hm'
  have h1 := hp _ hm
  have h2 := hp _ hm'
  have h3 := hk _ hm _ hm'
  show wpAny (model prog w) A (keyLt' (tuples' true) p.1 q.1) (fun r s' => s' = s ∧ r = decide ((k p.1).1 < (k q.1).1)) (fun _ _ => False) s
  generalize (k p.1).1 = x at h1 h3 ⊢
  generalize (k p.1).2 = y at h1 h3 ⊢
  generalize (k q.1).1 = x' at h2 h3 ⊢
  generalize (k q.1).2 = y' at h2 h3 ⊢
  obtain ⟨a, o, t, u, n, e, ho, hc, hd⟩ := h1
  obtain ⟨a', o', t', u', n', e', ho', hc', hd'⟩ := h2
  rw [e, e']
  refine PySem.W.kat_lt ho hd ho' hd' ?_
  show PySem.W.KatLex prog w A true (decide (2 < 2)) _ [(.int x t, .int x' t'), (.str y u, .str y' u')] 0 s
  refine PySem.W.kat_cons (SeqAt.EqAt.int_int x t x' t' prog w _ _ ?_)
  refine PySem.W.kat_go (fun e1 => ?_) (fun e1 => ?_)
  · have ex : x = x' := by simpa using e1
    obtain rfl := h3 ex
    refine PySem.W.kat_yes (PySem.W.kat_cons (SeqAt.EqAt.str_str y u y u' prog w _ _ ?_))
    refine PySem.W.kat_go (fun e2 => ?_) (fun e2 => ?_)
    · exact PySem.W.kat_yes (PySem.W.kat_nil ⟨rfl, by simp [ex]⟩)
    · simp at e2
  · exact PySem.W.kat_no (oneLt_int ⟨rfl, rfl⟩)
theorem is_firsts {h : Heap} : ∀ {vs : List Value}, (∀ v ∈ vs, ∃ x y, IsIS h v x y) → ∃ fs : List Value, PySem.W.KatTups h vs fs ∧ fs.length = vs.length ∧ ∀ f ∈ fs, ∃ x t, f = Value.int x t
  | [], _ => ⟨[], PySem.W.KatTups.nil, rfl, fun _ hm => by simp at hm⟩
  | v :: vs, hp => by
    obtain ⟨fs, h1, h2, h3⟩ := is_firsts (vs := vs) fun v' hm => hp v' (List.mem_cons_of_mem _ hm)
    obtain ⟨x, y, a, o, t, u, n, e, ho, hc, hd⟩ := hp v (List.mem_cons_self ..)
    subst e
    refine ⟨.int x t :: fs, PySem.W.KatTups.cons ho hc hd rfl h1, by simp [h2], fun f hm => ?_⟩
    rcases List.mem_cons.mp hm with rfl | hm
    · exact ⟨x, t, rfl⟩
    · exact h3 f hm
theorem is_sortable {a : Addr} {vs : List Value} {k : Value → IS} (h0 : 0 < vs.length) (hp : ∀ v ∈ vs, IsIS s.heap v (k v).1 (k v).2) (hk : ∀ v ∈ vs, ∀ u ∈ vs, (k v).1 = (k u).1 → (k v).2 = (k u).2) (ha : ∀ o, s.heap.get? a = some o → o.cls ≠ .type "tuple") : SrtO.SortableO prog w A s a vs fun v u => decide ((k v).1 < (k u).1) := by
  intro h' keep
  have hp' : ∀ v ∈ vs, IsIS h' v (k v).1 (k v).2 := fun v hm => by
    obtain ⟨b, o, t, u, n, e, ho, hc, hd⟩ := hp v hm
    exact ⟨b, o, t, u, n, e, keep b o (fun z => ha o (z ▸ ho) hc) ho, hc, hd⟩
  obtain ⟨fs, h1, h2, h3⟩ := is_firsts fun v hm => ⟨_, _, hp' v hm⟩
  refine ⟨tuples' true, fun Q E hq => ?_, is_cmp hp' hk⟩
  refine PySem.W.kat_kind (T := .type "int") h1 (by omega) (fun f hm => ?_) (by rfl) ?_
  · obtain ⟨x, t, rfl⟩ := h3 f hm
    exact PySem.W.Looks.now
  · have e : (Value.type "int" != Value.type "tuple") = true := by first | decide +kernel | rfl | decide
    rw [e]
    exact hq
end
def rSortedIS (K : PySem.W.Frag) : List V → Hp → VK → Prop := fun vs H Q => ∃ (a : Addr) (xs : List V) (k : V → IS), vs = [V.ref a] ∧ SqL K H a xs ∧ (∀ x ∈ xs, ∃ t, x = V.ref t ∧ H t = some (.tup [.int (k x).1, .str (k x).2])) ∧ (∀ x ∈ xs, ∀ y ∈ xs, (k x).1 = (k y).1 → (k x).2 = (k y).2) ∧
  ∀ ys p, ys.Pairwise (fun x y => (k x).1 ≤ (k y).1) → ys.Perm xs → H p = none → Q (.ref p) (upd H p (.lst ys))
theorem cr_sortedIS {X : Cx} : CallR X (.builtin "sorted") (rSortedIS X.K) := by
  intro pins s σ H vs us Q I r h
  obtain ⟨a, xs, k, rfl, hs, hx, hk, q⟩ := h
  obtain ⟨its, rv, hl, hz⟩ := I.list hs
  obtain ⟨u, rfl, ru⟩ := vals1 r
  obtain rfl : u = Value.ref a := ru
  obtain ⟨e1, e2⟩ := refs_back rv fun x m => by
    obtain ⟨t, e, _⟩ := hx x m
    exact ⟨t, e⟩
  have mem : ∀ v ∈ its, backV v ∈ xs := fun v hv => by rw [e1]; exact List.mem_map.mpr ⟨_, hv, rfl⟩
  have hp : ∀ v ∈ its, IsIS s.heap v (k (backV v)).1 (k (backV v)).2 := fun v hv => by
    obtain ⟨t, rfl⟩ := e2 v hv
    have hm : V.ref t ∈ xs := mem _ hv
    obtain ⟨t', e, ht⟩ := hx _ hm
    cases e
    obtain ⟨_, its2, r2, o, ho, hc, n, hd⟩ := I.hok _ _ ht
    obtain ⟨u1, u2, rfl, ri, rj⟩ := vals2 r2
    obtain ⟨t1, rfl⟩ := ri
    obtain ⟨t2, rfl⟩ := rj
    exact ⟨t, o, t1, t2, n, rfl, ho, hc, hd⟩
  refine SrtO.sorted_ord (swo_fst fun u => k (backV u)) hl.isList (by rw [← rv.length]; exact hz) (fun h2 h₁ b hb kk => ?_) fun out h1 h2 => ?_
  · refine is_sortable (s := { s with heap := h₁ }) (by omega) (fun v hm => ?_) (fun v hv u hu e => hk _ (mem v hv) _ (mem u hu) e) fun o e => ?_
    · obtain ⟨c, o, t, u, n, e, ho, hc, hd⟩ := hp v hm
      exact ⟨c, o, t, u, n, e, (kk c o ho).2, hc, hd⟩
    · have e' : some o = some (seqObj "list" its.toArray 0) := e.symm.trans hb
      cases e'
      intro c
      exact absurd (Value.type.inj c) (by decide)
  · have h3 : ∀ u ∈ out, ∃ a, u = Value.ref a := fun u hu => e2 u (h2.perm.mem_iff.mp hu)
    obtain ⟨n, hn⟩ := PyProof.Rows.sortedAll_at s.heap its out.toArray
    have hb : (out.map backV).Perm xs := by rw [e1]; exact h2.perm.map backV
    refine ⟨.ref _, upd H (s.heap.objs.size + 1) (.lst (out.map backV)), I.laid (t' := s.toks) (fun _ _ => PyProof.Rows.sortedAll_old) (Nat.le_succ _) ⟨?_, out, n, vals_back h3, hn⟩, rfl, q _ _ ?_ hb (I.hok.fresh (Nat.le_succ _))⟩
    · rw [hb.length_eq]; exact hz
    · rw [List.pairwise_map]
      refine List.Pairwise.imp (fun {a b} hab => ?_) h1
      simp only [decide_eq_false_iff_not] at hab
      omega
def asIS : D → Option IS
  | .tup [.int a, .str b] => some (a, b)
  | _ => none
theorem asIS_some {d : D} {p : IS} (h : asIS d = some p) : d = isD p := by
  unfold asIS at h
  split at h
  · rw [← Option.some.inj h]; rfl
  · cases h
def allIS : List D → Option (List IS)
  | [] => some []
  | d :: ds => (asIS d).bind fun p => (allIS ds).map (p :: ·)
theorem allIS_eq : ∀ {ds : List D} {ps : List IS}, allIS ds = some ps → ds = ps.map isD
  | [], _, h => by simp only [allIS] at h; rw [← Option.some.inj h]; rfl
  | d :: ds, _, h => by
    simp only [allIS] at h
    cases hd : asIS d with
    | none => rw [hd] at h; cases h
    | some p =>
      rw [hd] at h
      simp only [Option.bind_some] at h
      cases hs : allIS ds with
      | none => rw [hs] at h; cases h
      | some ps =>
        rw [hs] at h
        rw [← Option.some.inj h, allIS_eq hs, asIS_some hd]; rfl
theorem allIS_map (ps : List IS) : allIS (ps.map isD) = some ps := by
  induction ps with
  | nil => rfl
  | cons p ps ih => simp [allIS, asIS, isD, ih]
def sortIS (ps : List IS) : List IS := ps.mergeSort fun p q => decide (p.1 ≤ q.1)
theorem sortIS_perm (ps : List IS) : (sortIS ps).Perm ps := List.mergeSort_perm _ _
theorem sortIS_sorted (ps : List IS) : (sortIS ps).Pairwise fun p q => p.1 ≤ q.1 := by
  have := List.pairwise_mergeSort (le := fun p q : IS => decide (p.1 ≤ q.1)) (fun a b c h1 h2 => by simp only [decide_eq_true_eq] at *; omega) (fun a b => by simp only [Bool.or_eq_true, decide_eq_true_eq]; omega) ps
  exact this.imp fun {a b} h => by simpa using h
theorem sortedIS_eq : ∀ {xs ys : List IS}, xs.Perm ys → xs.Pairwise (fun p q => p.1 ≤ q.1) → ys.Pairwise (fun p q => p.1 ≤ q.1) → (∀ p ∈ xs, ∀ q ∈ xs, p.1 = q.1 → p = q) → xs = ys
  | [], ys, h, _, _, _ => (List.Perm.nil_eq h)
  | x :: xs, [], h, _, _, _ => by have := h.length_eq; simp at this
  | x :: xs, y :: ys, h, h1, h2, hu => by
    rw [List.pairwise_cons] at h1 h2
    have e : x = y := by
      have m1 : x ∈ y :: ys := h.mem_iff.mp List.mem_cons_self
      have m2 : y ∈ x :: xs := h.mem_iff.mpr List.mem_cons_self
      rcases List.mem_cons.mp m1 with z | z
      · exact z
      · rcases List.mem_cons.mp m2 with w | w
        · exact w.symm
        · exact hu x List.mem_cons_self y m2 (Int.le_antisymm (h1.1 y w) (h2.1 x z))
    subst e
    rw [sortedIS_eq (List.Perm.cons_inv h) h1.2 h2.2 fun p hp q hq => hu p (by simp [hp]) q (by simp [hq])]
def sameIS (ps : List IS) : Bool := ps.all fun p => ps.all fun q => decide (p.1 = q.1 → p.2 = q.2)
def fSortIS : List Rv → Option Rv
  | [(_, .lst ds)] => (allIS ds).bind fun ps => if sameIS ps = true then some (some 1, .lst ((sortIS ps).map isD)) else none
  | _ => none
theorem depL_is (ps : List IS) : depL (ps.map isD) = 0 := by
  induction ps with
  | nil => rfl
  | cons p ps ih => simp [depL, isD, D.dep, ih]
def kIS (H : Hp) (v : V) : IS := match v with
  | .ref t => (match H t with
    | some (.tup [.int a, .str b]) => (a, b)
    | _ => (0, Str.empty))
  | _ => (0, Str.empty)
theorem FzL.iss {F : Hp} : ∀ {ps : List IS} {vs : List V}, FzL F (ps.map isD) vs → (∀ v ∈ vs, ∃ t, v = .ref t ∧ F t = some (.tup [.int (kIS F v).1, .str (kIS F v).2])) ∧ vs.map (kIS F) = ps
  | [], _, h => by
    simp only [List.map_nil, FzL] at h
    subst h
    exact ⟨fun v h => (by cases h), rfl⟩
  | p :: ps, _, h => by
    simp only [List.map_cons, FzL] at h
    obtain ⟨v, r, rfl, h1, h2⟩ := h
    obtain ⟨i1, i2⟩ := FzL.iss h2
    simp only [isD, Fz, FzL] at h1
    obtain ⟨t, ws, rfl, ht, a, q, rfl, ra, b, q', rfl, rb, rfl⟩ := h1
    subst ra rb
    have hk : kIS F (.ref t) = p := by simp [kIS, ht]
    refine ⟨fun u hu => ?_, by simp [hk, i2]⟩
    rcases List.mem_cons.mp hu with rfl | hu
    · exact ⟨t, rfl, by rw [hk]; exact ht⟩
    · exact i1 u hu
theorem FzL.ofIss {F : Hp} : ∀ {vs : List V}, (∀ v ∈ vs, ∃ t, v = .ref t ∧ F t = some (.tup [.int (kIS F v).1, .str (kIS F v).2])) → FzL F ((vs.map (kIS F)).map isD) vs
  | [], _ => rfl
  | v :: vs, h => by
    simp only [List.map_cons, FzL]
    refine ⟨v, vs, rfl, ?_, FzL.ofIss fun u hu => h u (by simp [hu])⟩
    obtain ⟨t, e, ht⟩ := h v (by simp)
    simp only [isD, Fz, FzL]
    exact ⟨t, _, e, ht, _, _, rfl, rfl, _, _, rfl, rfl, rfl⟩
theorem p_sortIS {K : PySem.W.Frag} : PcR (rSortedIS K) fSortIS := by
  intro q F H e σ A F1 H1 e1 A1 B vs as x Q g xa hf k
  unfold fSortIS at hf
  split at hf
  · rename_i k1 ds
    cases hx : allIS ds with
    | none => rw [hx] at hf; cases hf
    | some ps =>
      rw [hx] at hf
      simp only [Option.bind_some] at hf
      split at hf
      · rename_i hsame
        obtain rfl := Option.some.inj hf
        have hds := allIS_eq hx
        subst hds
        simp only [sameIS, List.all_eq_true, decide_eq_true_eq] at hsame
        obtain ⟨v, rfl, y⟩ := xa.one
        obtain ⟨F2, a, ws, g2, s2, n2, rfl, h2, f2⟩ := Got.items (C := []) (by rw [List.append_nil]; exact g) y (fun a h => by cases h) (by rw [depL_is]; simp)
        obtain ⟨i1, i2⟩ := f2.iss
        have hk : ∀ x ∈ ws, kIS F2 x ∈ ps := fun x hx => by rw [← i2]; exact List.mem_map.mpr ⟨x, hx, rfl⟩
        refine ⟨a, ws, kIS F2, rfl, .inl (.inl h2), fun v hv => ?_, fun x hx y hy e => hsame _ (hk x hx) _ (hk y hy) e, fun ys p h3 h4 hp => ?_⟩
        · obtain ⟨t, e, ht⟩ := i1 v hv
          exact ⟨t, e, g2.rel.sm _ _ ht⟩
        · have hm : ys.map (kIS F2) = sortIS ps := by
            refine sortedIS_eq ?_ (List.pairwise_map.mpr h3) (sortIS_sorted ps) fun p hp q hq e => ?_
            · refine List.Perm.trans ?_ (sortIS_perm ps).symm
              rw [← i2]
              exact h4.map _
            · obtain ⟨x, hx, rfl⟩ := List.mem_map.mp hp
              obtain ⟨y, hy, rfl⟩ := List.mem_map.mp hq
              have := hsame _ (hk x (h4.mem_iff.mp hx)) _ (hk y (h4.mem_iff.mp hy)) e
              exact Prod.ext e this
          have fz := FzL.ofIss (F := F2) (vs := ys) fun v hv => i1 v (h4.mem_iff.mp hv)
          rw [hm] at fz
          obtain ⟨g5, y5⟩ := g2.fin fz hp
          exact k _ _ _ _ g5 y5
      · cases hf
  · cases hf
section
variable {X : Cx} {W : WX} {qa : Bool} {a : Expr} {t : TA} {s : M (List Rv)} {pos p : Pos}
theorem ev_sortIS (hc : X.calm = true) (hm : X.mg "sorted" = none) (hg : Gl X "sorted") (ha : AV X W qa [a] t s) (he : starEach [a] X.env = (false, eval a X.env) :: starEach [] X.env := by rfl) (hpl : (backTo pos (starEach [] X.env)).any (·.1) = false := by rfl) {K : PySem.W.Frag} (hK : X.K = K := by rfl) : EV X W qa (.Call (.Name "sorted" p) [a] [] pos) (tCB (rSortedIS K) t) (sCall1 fSortIS s) := by
  subst hK; exact ev_callB cr_sortedIS p_sortIS hg hm (by decide +kernel) ha (by decide) (by decide) he hpl
end
theorem ok_sortIS {k : Option Nat} {ps : List IS} {P : Rv → Prop} (h : ∀ p ∈ ps, ∀ q ∈ ps, p.1 = q.1 → p.2 = q.2) : OkP (fSortIS [(k, .lst (ps.map isD))]) P = P (some 1, .lst ((sortIS ps).map isD)) := by
  unfold fSortIS
  dsimp only
  rw [allIS_map]
  simp only [Option.bind_some]
  rw [if_pos (by simp only [sameIS, List.all_eq_true, decide_eq_true_eq]; exact h)]
  rfl
end AR

set_option Elab.async false
set_option linter.all false
set_option maxRecDepth 100000
namespace AR
open PySem PySem.Spec PyProof.Rows L2

/-! ### list(range(i, j)) -/
def rRng2 : List V → Hp → VK → Prop := fun vs H Q => ∃ i j, vs = [V.int i, V.int j] ∧ ∀ p, H p = none → Q (.ref p) (upd H p (.rng i j))
def rLstR : List V → Hp → VK → Prop := fun vs H Q => ∃ (a : Addr) (lo hi : Int), vs = [V.ref a] ∧ H a = some (.rng lo hi) ∧ (-1000000 ≤ lo ∧ lo ≤ 1000000 ∧ -1000000 ≤ hi ∧ hi ≤ 1000000) ∧ ∀ p, H p = none → Q (.ref p) (upd H p (.lst ((List.range (hi - lo).toNat).map fun (i : Nat) => V.int (lo + (i : Nat)))))
theorem cr_lstR {X : Cx} (hc : X.calm = true) : CallR X (.type "list") rLstR := by
  intro pins s σ H vs us Q I r h
  obtain ⟨a, lo, hi, rfl, ha, ⟨h1, h2, h3, h4⟩, q⟩ := h
  rw [Vals.ref1 r]
  obtain ⟨t, u, v, ho⟩ := I.hok _ _ ha
  refine call_list_range (a := lo) (b := hi) (c := 1) (n := (hi - lo).toNat) (I.ok.hd hc) ho ?_ ?_ (by omega) fun h' tk acc c' hk e hi' => ?_
  · exact small_one (by omega) (by omega) (by omega) (by omega)
  · rw [rangeSize_one]; split <;> omega
  · refine ⟨.ref s.heap.objs.size, upd H s.heap.objs.size (.lst ((List.range (hi - lo).toNat).map fun (i : Nat) => V.int (lo + (i : Nat)))), I.laid hk (Nat.le_refl _) ⟨?_, acc.toList, c', ?_, by rw [Array.toArray_toList]; exact e⟩, rfl, q _ (I.hok.fresh (Nat.le_refl _))⟩
    · rw [List.length_map, List.length_range, sizeLine_eq]; omega
    · refine vals_of_idx _ _ (by rw [List.length_map, List.length_range, Array.length_toList]; exact hi'.1) fun j u hj => ?_
      have hj2 : acc[j]? = some u := by rw [← Array.getElem?_toList]; exact hj
      obtain ⟨t', rfl⟩ := hi'.2 j u hj2
      have hlt : j < (hi - lo).toNat := by
        have := (List.getElem?_eq_some_iff.mp hj).1
        rw [Array.length_toList, hi'.1] at this; exact this
      refine ⟨.int (lo + (j : Nat)), by rw [List.getElem?_map, List.getElem?_range hlt]; rfl, ⟨t', by simp⟩⟩
def fLstR : List Rv → Option Rv
  | [(_, .int i), (_, .int j)] => if (decide (-1000000 ≤ i) && decide (i ≤ 1000000) && decide (-1000000 ≤ j) && decide (j ≤ 1000000)) = true then some (some 1, .lst (upto i (j - i).toNat)) else none
  | _ => none
section
variable {X : Cx} {W : WX} {qa : Bool} {a b : Expr} {t : TA} {s : M (List Rv)} {pos p pos2 p2 : Pos}
theorem FzL.upto {F : Hp} {lo : Int} {n : Nat} : FzL F (AR.upto lo n) ((List.range n).map fun (i : Nat) => V.int (lo + (i : Nat))) := by
  unfold AR.upto
  induction List.range n with
  | nil => rfl
  | cons x l ih =>
    simp only [List.map_cons, FzL, Fz]
    exact ⟨_, _, rfl, rfl, ih⟩
def rFus : List V → Hp → VK → Prop := fun vs H Q => rRng2 vs H fun v H1 => rLstR [v] H1 Q
theorem p_lstR : PcR rFus fLstR := by
  intro q F H e σ A F1 H1 e1 A1 B vs as x Q g xa hf k
  unfold fLstR at hf
  split at hf
  · rename_i k1 i k2 j
    split at hf
    · rename_i c
      obtain rfl := Option.some.inj hf
      simp only [Bool.and_eq_true, decide_eq_true_eq] at c
      obtain ⟨v, w, rfl, f, f'⟩ := (IsRs.read g.rel.sm xa).two
      simp only [Fz] at f f'
      subst f f'
      refine ⟨i, j, rfl, fun p hp => ⟨p, i, j, rfl, upd_same, ⟨c.1.1.1, c.1.1.2, c.1.2, c.2⟩, fun p' hp' => ?_⟩⟩
      have g0 := g.sub (List.nil_sublist _)
      have g1 := (g0.newL (fun a h => by cases h) hp (.rng i j)).sub (List.nil_sublist _)
      obtain ⟨g5, y5⟩ := g1.fin FzL.upto hp'
      exact k _ _ _ _ g5 y5
    · cases hf
  · cases hf
theorem ev_lstR2 (hc : X.calm = true) (hg : Gl X "list") (hm : X.mg "list" = none) (hg2 : Gl X "range") (hm2 : X.mg "range" = none) (ha : AV X W qa [a, b] t s)
    (h2 : starEach [a, b] X.env = (false, eval a X.env) :: starEach [b] X.env := by rfl) (hpl2 : (backTo pos2 (starEach [b] X.env)).any (·.1) = false := by rfl)
    (he : starEach [.Call (.Name "range" p2) [a, b] [] pos2] X.env = (false, eval (.Call (.Name "range" p2) [a, b] [] pos2) X.env) :: starEach [] X.env := by rfl) (hpl : (backTo pos (starEach [] X.env)).any (·.1) = false := by rfl) :
    EV X W qa (.Call (.Name "list" p) [.Call (.Name "range" p2) [a, b] [] pos2] [] pos) (tCB rLstR (tCons (tCB rRng2 t) tNil)) (sCall1 fLstR s) := by
  have pr : PE X (.Call (.Name "range" p2) [a, b] [] pos2) (tCB rRng2 t) := pe_callTy cr_range2 hg2 hm2 (by decide +kernel) ha.pe (by decide) (by decide) h2 hpl2
  refine ⟨pe_callTy (cr_lstR hc) hg hm (by decide +kernel) (pa_cons pr pa_nil he) (by decide) (by decide) he hpl, ?_⟩
  exact SX.call (r := rFus) p_lstR ha.se
end
theorem ok_lstR {k l : Option Nat} {i j : Int} {P : Rv → Prop} : OkP (fLstR [(k, .int i), (l, .int j)]) P = ((-1000000 ≤ i ∧ i ≤ 1000000 ∧ -1000000 ≤ j ∧ j ≤ 1000000) ∧ P (some 1, .lst (upto i (j - i).toNat))) := by
  unfold fLstR; rw [okp_ite, okp_some]; simp only [Bool.and_eq_true, decide_eq_true_eq, and_assoc]
end AR

set_option Elab.async false
set_option linter.all false
set_option maxRecDepth 100000
namespace AR
open PySem PySem.Spec PyProof.Rows L2

/-! ### dict(a list of pairs (tuple of numbers, value)) -/
abbrev DQ := Addr × List Key × Addr × V
def foldQ (acc : List (List Key × V)) (qs : List DQ) : List (List Key × V) := qs.foldl (fun acc q => putK acc q.2.1 q.2.2.2) acc
def rDictT (K : PySem.W.Frag) : List V → Hp → VK → Prop := fun xs H Q => ∃ (a : Addr) (qs : List DQ), xs = [.ref a] ∧ SqL K H a (qs.map fun q => V.ref q.1) ∧ (∀ q ∈ qs, SqT K H q.1 [.ref q.2.2.1, q.2.2.2] ∧ H q.2.2.1 = some (.tup (q.2.1.map kV))) ∧
  ∀ p, H p = none → Q (.ref p) (upd H p (.dT (foldQ [] qs)))
def RQ (H : Hp) (h : Heap) (q : DQ) (p : List Key × Addr × Value) : Prop := p.1 = q.2.1 ∧ p.2.1 = q.2.2.1 ∧ RelV q.2.2.2 p.2.2 ∧ IsTup h q.1 #[.ref p.2.1, p.2.2] ∧ H p.2.1 = some (.tup (p.1.map kV))
theorem rq_of {X : Cx} {pins : List (Addr × Obj)} {σ : St} {H : Hp} {s : Shared} (I : Inv X pins σ H s) : ∀ {qs : List DQ}, (∀ q ∈ qs, SqT X.K H q.1 [.ref q.2.2.1, q.2.2.2] ∧ H q.2.2.1 = some (.tup (q.2.1.map kV))) → ∃ prs, Paired (RQ H s.heap) qs prs
  | [], _ => ⟨[], .nil⟩
  | q :: qs, h => by
    obtain ⟨prs, hp⟩ := rq_of I (qs := qs) fun x hx => h x (List.mem_cons_of_mem _ hx)
    obtain ⟨h1, h2⟩ := h q List.mem_cons_self
    obtain ⟨its, rv, ht, _⟩ := I.tuple h1
    obtain ⟨u, y, rfl, ru, ry⟩ := vals2 rv
    obtain rfl : u = Value.ref q.2.2.1 := ru
    exact ⟨(q.2.1, q.2.2.1, y) :: prs, .cons ⟨rfl, rfl, ry, ht, h2⟩ hp⟩
theorem rq_get {H : Hp} {h : Heap} : ∀ {qs : List DQ} {prs : List (List Key × Addr × Value)}, Paired (RQ H h) qs prs → ∀ {j : Nat} {p : List Key × Addr × Value}, prs[j]? = some p → ∃ q, qs[j]? = some q ∧ RQ H h q p
  | _, _, .nil, j, p, e => by simp at e
  | _, _, .cons (a := q) (b := p') r t, 0, p, e => by simp at e; subst e; exact ⟨q, rfl, r⟩
  | _, _, .cons r t, j + 1, p, e => by
    obtain ⟨q, h1, h2⟩ := rq_get t (j := j) (p := p) (by simpa using e)
    exact ⟨q, by simpa using h1, h2⟩
theorem rq_len {H : Hp} {h : Heap} : ∀ {qs : List DQ} {prs : List (List Key × Addr × Value)}, Paired (RQ H h) qs prs → qs.length = prs.length
  | _, _, .nil => rfl
  | _, _, .cons _ t => by simp [rq_len t]
theorem rq_mem {H : Hp} {h : Heap} {qs : List DQ} {prs : List (List Key × Addr × Value)} (r : Paired (RQ H h) qs prs) {p : List Key × Addr × Value} (hp : p ∈ prs) : H p.2.1 = some (.tup (p.1.map kV)) := by
  obtain ⟨j, hj⟩ := List.getElem?_of_mem hp
  obtain ⟨q, _, hq⟩ := rq_get r hj
  exact hq.2.2.2.2
theorem rq_kt {H : Hp} {h : Heap} : ∀ {qs : List DQ} {prs : List (List Key × Addr × Value)} {acc : List (List Key × V)} {xs : List (List Key × Addr × Value)}, Paired (RQ H h) qs prs → KT H acc xs → KT H (foldQ acc qs) (PySem.storedAllH xs prs)
  | _, _, acc, xs, .nil, k => k
  | _, _, acc, xs, .cons (a := q) (b := p) r t, k => by
    obtain ⟨e1, e2, ry, _, hb⟩ := r
    have := k.put (b := p.2.1) (y := q.2.2.2) (u := p.2.2) p.1 hb ry
    show KT H (foldQ (putK acc q.2.1 q.2.2.2) _) (PySem.storedAllH (storedH xs p.1 p.2.1 p.2.2) _)
    rw [← e1]
    exact rq_kt (acc := putK acc p.1 q.2.2.2) (xs := storedH xs p.1 p.2.1 p.2.2) t this
theorem foldQ_len : ∀ {qs : List DQ} {acc : List (List Key × V)}, (foldQ acc qs).length ≤ acc.length + qs.length
  | [], acc => by simp [foldQ]
  | q :: qs, acc => by
    have h := foldQ_len (qs := qs) (acc := putK acc q.2.1 q.2.2.2)
    have : (putK acc q.2.1 q.2.2.2).length ≤ acc.length + 1 := by unfold putK; split <;> simp
    show (foldQ (putK acc q.2.1 q.2.2.2) qs).length ≤ _
    simp only [List.length_cons]
    omega
theorem cr_dictT {X : Cx} (hc : X.calm = true) (hu : X.A.units + 65 < cLine) : CallR X (.type "dict") (rDictT X.K) := by
  intro pins s σ H vs us Q I r h
  obtain ⟨a, qs, rfl, hs, hq, k⟩ := h
  obtain ⟨its, rv, hl, hz⟩ := I.list hs
  rw [Vals.ref1 r]
  have ei : its = (qs.map (·.1)).map Value.ref := refs_at (by rw [List.map_map]; exact rv)
  rw [List.length_map] at hz
  obtain ⟨prs, hp⟩ := rq_of I hq
  have hlen := rq_len hp
  have hrefs : its.length = qs.length := by rw [ei]; simp
  have em : (prs.map fun p => (Value.ref p.2.1, p.2.2)).length = prs.length := List.length_map ..
  refine call_dict_pairsH (knd := tupleKind (mixKind X.prog X.w)) (ps := prs) (PairArg.list a its.toArray (fun j => (qs.map (·.1)).getD j 0) (prs.map fun p => (Value.ref p.2.1, p.2.2))) (I.ok.hd hc) (show X.A.units + 1 + 1 < cLine by omega) ⟨?_, ?_⟩ ⟨em.symm, fun i key v hr => ?_⟩ (fun h' hk x hx => ?_) (by rw [em, ← hlen]; exact hz) fun h' tk hd' hk => ?_
  · obtain ⟨o, n, e⟩ := hl
    exact ⟨o, n, e⟩
  · refine ⟨by rw [em, ← hlen, List.size_toArray]; exact hrefs, fun j kk v hj => ?_⟩
    rw [List.getElem?_map] at hj
    obtain ⟨p, hp1, hp2⟩ := Option.map_eq_some_iff.mp hj
    obtain ⟨q, hq1, hq2⟩ := rq_get hp hp1
    simp only [Prod.mk.injEq] at hp2
    obtain ⟨rfl, rfl⟩ := hp2
    have e0 : (qs.map (·.1)).getD j 0 = q.1 := by simp [List.getD_eq_getElem?_getD, hq1]
    show its.toArray[j]? = some (Value.ref ((qs.map (·.1)).getD j 0)) ∧ PairAt s.heap ((qs.map (·.1)).getD j 0) _ _
    rw [e0]
    refine ⟨?_, .inl ?_⟩
    · rw [List.getElem?_toArray, ei]
      simp [hq1]
    · obtain ⟨o, ho, hc', n, hd⟩ := hq2.2.2.2.1
      exact ⟨o, ho, hc', n, hd⟩
  · rw [PairRel, List.getElem?_map] at hr
    obtain ⟨p, hp1, hp2⟩ := Option.map_eq_some_iff.mp hr
    simp only [Prod.mk.injEq] at hp2
    obtain ⟨rfl, rfl⟩ := hp2
    exact ⟨p.1, p.2.1, hp1, rfl⟩
  · obtain ⟨o, its', n, h1, h2⟩ := key_of I.hok (rq_mem hp hx)
    exact ⟨o, its', n, hk _ _ (Nat.ne_of_lt (Heap.lt_size h1)) (by simp) h1, h2⟩
  · have hm : (s.heap.objs.size == sysModules) = false := beq_eq_false_iff_ne.mpr (Nat.ne_of_gt I.big)
    have hlen2 : (foldQ [] qs).length ≤ sizeLine := by
      have := foldQ_len (qs := qs) (acc := [])
      simp at this
      omega
    have kt := rq_kt (acc := []) (xs := []) hp .nil
    obtain ⟨o, es, ep, h1, h2, h3, h4, h5, h6⟩ := hd'
    have fr := I.hok.fresh (Nat.le_refl s.heap.objs.size)
    have kt2 : KT (upd H s.heap.objs.size (.dT (foldQ [] qs))) (foldQ [] qs) (PySem.storedAllH [] prs) := kt.keeps fun b ys hb => by
      rw [upd_ne (fun z => by rw [z, fr] at hb; cases hb)]; exact hb
    exact ⟨.ref s.heap.objs.size, upd H s.heap.objs.size (.dT (foldQ [] qs)), I.laid (t' := tk) (fun b o e => hk b o (by simp) e) (Nat.le_refl _) (show ObjOk X.prog X.w _ _ _ (.dT (foldQ [] qs)) from ⟨hlen2, hm, _, kt2, o, es, ep, h1, h2, h3, h4, h6⟩), rfl, k _ fr⟩
/-- the pairs (tuple of numbers, value without lists) -/
def asKV : D → Option (List Int × D)
  | .tup [k, v] => if v.dep = 0 then (keyOf k).map fun key => (key, v) else none
  | _ => none
def allKV : List D → Option (List (List Int × D))
  | [] => some []
  | d :: ds => (asKV d).bind fun p => (allKV ds).map (p :: ·)
def foldP (acc : List (List Int × D)) (ps : List (List Int × D)) : List (List Int × D) := ps.foldl (fun acc p => putD acc p.1 p.2) acc
def fDictT : List Rv → Option Rv
  | [(_, .lst ds)] => (allKV ds).map fun ps => (some 1, .dic (foldP [] ps))
  | _ => none
theorem asKV_some {d : D} {p : List Int × D} (h : asKV d = some p) : d = .tup [.tup (p.1.map D.int), p.2] ∧ p.2.dep = 0 := by
  unfold asKV at h
  split at h
  · rename_i k v
    split at h
    · rename_i hv
      cases hk : keyOf k with
      | none => rw [hk] at h; cases h
      | some key =>
        rw [hk] at h
        rw [← Option.some.inj h]
        exact ⟨by rw [keyOf_some hk], hv⟩
    · cases h
  · cases h
theorem allKV_dep : ∀ {ds : List D} {ps : List (List Int × D)}, allKV ds = some ps → depL ds = 0
  | [], _, _ => rfl
  | d :: ds, _, h => by
    simp only [allKV] at h
    cases hd : asKV d with
    | none => rw [hd] at h; cases h
    | some p =>
      rw [hd] at h
      simp only [Option.bind_some] at h
      cases hs : allKV ds with
      | none => rw [hs] at h; cases h
      | some ps =>
        have h1 := allKV_dep hs
        obtain ⟨h2, h3⟩ := asKV_some hd
        have h4 : depL (p.1.map D.int) = 0 := by
          induction p.1 with
          | nil => rfl
          | cons x l ih => simp [depL, D.dep, ih]
        rw [h2]
        simp only [depL, D.dep, h1, h3, h4]
        rfl
theorem dq_of {F : Hp} : ∀ {ds : List D} {ps : List (List Int × D)} {ws : List V}, allKV ds = some ps → FzL F ds ws → ∃ qs : List DQ, ws = qs.map (fun q => V.ref q.1) ∧ (∀ q ∈ qs, F q.1 = some (.tup [.ref q.2.2.1, q.2.2.2]) ∧ F q.2.2.1 = some (.tup (q.2.1.map kV))) ∧ ∀ acc accw, FzK F acc accw → FzK F (foldP acc ps) (foldQ accw qs)
  | [], ps, ws, h, f => by
    simp only [allKV] at h
    obtain rfl := Option.some.inj h
    simp only [FzL] at f
    subst f
    exact ⟨[], rfl, fun q hq => (by cases hq), fun acc accw k => k⟩
  | d :: ds, ps, ws, h, f => by
    simp only [allKV] at h
    cases hd : asKV d with
    | none => rw [hd] at h; cases h
    | some p =>
      rw [hd] at h
      simp only [Option.bind_some] at h
      cases hs : allKV ds with
      | none => rw [hs] at h; cases h
      | some ps' =>
        rw [hs] at h
        obtain rfl := Option.some.inj h
        simp only [FzL] at f
        obtain ⟨v, r, rfl, f1, f2⟩ := f
        obtain ⟨qs, e1, e2, e3⟩ := dq_of hs f2
        obtain ⟨h2, h3⟩ := asKV_some hd
        rw [h2] at f1
        simp only [Fz, FzL] at f1
        obtain ⟨t, vs, rfl, ht, kv, q1, rfl, ⟨b, kvs, rfl, hb, fk⟩, y, q2, rfl, fy, rfl⟩ := f1
        have ek := fk.ints
        subst ek
        have e5 : p.1.map V.int = (kI p.1).map kV := by simp [kI, kV, List.map_map]
        refine ⟨(t, kI p.1, b, y) :: qs, by simp [e1], fun q hq => ?_, fun acc accw k => ?_⟩
        · rcases List.mem_cons.mp hq with rfl | hq
          · exact ⟨ht, by rw [← e5]; exact hb⟩
          · exact e2 q hq
        · exact e3 _ _ (k.put fy)
theorem p_dictT {K : PySem.W.Frag} : PcR (rDictT K) fDictT := by
  intro q F H e σ A F1 H1 e1 A1 B vs as x Q g xa hf k
  unfold fDictT at hf
  split at hf
  · rename_i k1 ds
    cases hx : allKV ds with
    | none => rw [hx] at hf; cases hf
    | some ps =>
      rw [hx] at hf
      obtain rfl := Option.some.inj hf
      obtain ⟨v, rfl, y⟩ := xa.one
      obtain ⟨F2, a, ws, g2, s2, n2, rfl, h2, f2⟩ := Got.items (C := []) (by rw [List.append_nil]; exact g) y (fun a h => by cases h) (by rw [allKV_dep hx]; simp)
      obtain ⟨qs, rfl, e2, e3⟩ := dq_of hx f2
      refine ⟨a, qs, rfl, .inl (.inl h2), fun q hq => ⟨.inl (.inl (g2.rel.sm _ _ (e2 q hq).1)), g2.rel.sm _ _ (e2 q hq).2⟩, fun p hp => ?_⟩
      have g5 := g2.newL (fun a h => by cases h) hp (.dT (foldQ [] qs))
      refine k _ _ _ _ g5 ?_
      show Is F2 _ (.dic (foldP [] ps)) 1 (.ref p) [p]
      have fz := e3 [] [] (by simp [FzK])
      simp only [Is]
      exact ⟨p, _, [], rfl, rfl, (g2.rel.fresh hp).1, upd_same, FzK.is fz⟩
  · cases hf
section
variable {X : Cx} {W : WX} {qa : Bool} {a : Expr} {t : TA} {s : M (List Rv)} {pos p : Pos}
theorem ev_dictT {n : Nat} (hr : Room n X.A) (hc : X.calm = true) (hm : X.mg "dict" = none) (hg : Gl X "dict") (ha : AV X W qa [a] t s) (he : starEach [a] X.env = (false, eval a X.env) :: starEach [] X.env := by rfl) (hpl : (backTo pos (starEach [] X.env)).any (·.1) = false := by rfl) {K : PySem.W.Frag} (hK : X.K = K := by rfl) : EV X W qa (.Call (.Name "dict" p) [a] [] pos) (tCB (rDictT K) t) (sCall1 fDictT s) := by
  subst hK; exact ev_callTy (cr_dictT hc (hu65 hr)) p_dictT hg hm (by decide +kernel) ha (by decide) (by decide) he hpl
end
end AR

set_option Elab.async false
set_option linter.all false
set_option maxRecDepth 100000
namespace AR
open PySem PySem.Spec PyProof.Rows L2

/-! ### t[::-1] of a tuple -/
section
variable {prog : Program} {w : World} {A : Around} {E : Value → Shared → Prop} {s : Shared}
theorem rev_applied {sl : Addr} {t : Tok} {n : Nat} {Q : Int × Int × Nat → Shared → Prop} (hs : s.heap.IsSliceOf sl .none .none (.int (-1) t)) (h : Q ((n : Int) - 1, -1, n) s) : wpAny (model prog w) A (Builtin.Slice.sliceApplied (.ref sl) (pure (n : Int))) Q E s := by
  obtain ⟨os, hos, hcs, hds⟩ := id hs
  unfold Builtin.Slice.sliceApplied Builtin.Slice.sliceFields
  refine wpAny_bind (wpAny_bind (wpAny_field hos hds (x := .none) rfl (wpAny_bind (wpAny_field hos hds (x := .none) rfl (wpAny_bind (wpAny_field hos hds (x := .int (-1) t) rfl (wpAny_pure ?_)))))))
  refine wpAny_bind (slicePart_int ?_)
  show wpAny _ _ (if ((-1 : Int) == 0) = true then _ else _) _ _ s
  rw [if_neg (by decide)]
  refine wpAny_bind (slicePart_none (wpAny_bind (slicePart_none (wpAny_bind (wpAny_pure ?_)))))
  show wpAny _ _ (pure ((n : Int) - 1, (-1 : Int), Builtin.Slice.slicePlaces ((n : Int) - 1) (-1) (-1))) _ _ s
  have e : Builtin.Slice.slicePlaces ((n : Int) - 1) (-1) (-1) = n := by
    unfold Builtin.Slice.slicePlaces
    rw [if_neg (by decide)]
    split
    · rw [show (- -1 : Int) = 1 by decide, Int.ediv_one]; omega
    · omega
  rw [e]
  exact wpAny_pure h
theorem rev_pick (xs : Array Value) : ((List.range xs.size).filterMap fun (m : Nat) => xs[(((xs.size : Int) - 1) + (m : Int) * (-1)).toNat]?).toArray = xs.toList.reverse.toArray := by
  congr 1
  have e : ∀ m ∈ List.range xs.size, xs[(((xs.size : Int) - 1) + (m : Int) * (-1)).toNat]? = some (xs.toList.reverse.getD m .none) := fun m hm => by
    have hm' := List.mem_range.mp hm
    have e1 : (((xs.size : Int) - 1) + (m : Int) * (-1)).toNat = xs.size - 1 - m := by omega
    rw [e1, List.getD_eq_getElem?_getD, List.getElem?_reverse (by simpa using hm'), Array.length_toList, ← Array.getElem?_toList]
    rw [List.getElem?_eq_getElem (by rw [Array.length_toList]; omega)]
    rfl
  have e2 : ∀ {l : List Nat} {f : Nat → Option Value} {g : Nat → Value}, (∀ m ∈ l, f m = some (g m)) → l.filterMap f = l.map g := fun {l f g} h => by
    induction l with
    | nil => rfl
    | cons x l ih => rw [List.filterMap_cons, h x (by simp), List.map_cons, ih fun m hm => h m (by simp [hm])]
  rw [e2 e]
  refine List.ext_getElem (by simp) fun i h1 h2 => ?_
  rw [List.getElem_map, List.getElem_range, List.getD_eq_getElem?_getD, List.getElem?_eq_getElem h2]
  rfl
theorem rev_get {t sl : Addr} {items : Array Value} {tk : Tok} {Q : Value → Shared → Prop} (ht : IsTup s.heap t items) (hs : s.heap.IsSliceOf sl .none .none (.int (-1) tk))
    (h : Q (.ref s.heap.objs.size) { s with heap := s.heap.push { cls := .type "tuple", data := .seq items.toList.reverse.toArray } }) (hsz : items.size ≤ sizeLine) : wpAny (model prog w) A (getItem (.ref t) (.ref sl)) Q E s := by
  have htake : sizeOk (.seq items.toList.reverse.toArray) := by
    show items.toList.reverse.toArray.size ≤ sizeLine
    rw [List.size_toArray, List.length_reverse, Array.length_toList]
    exact hsz
  obtain ⟨os, hos, hcs, hds⟩ := id hs
  have hTs : s.TypeIs (.ref sl) "slice" := ⟨os, hos, hcs⟩
  unfold getItem
  try with_reducible refine wpAny_holding ?_
  first | refine wpAny_bind (wpAny_pure ?_) | skip
  refine wpAny_bind (wpAny_sequenceKey ht.typeIs (by decide) ?_)
  refine wpAny_bind (wpAny_callSpecial?_slot (name := Str.ofString "__getitem__") ht.typeIs PyProof.Rows.slot_tuple_getitem
    (wpAny_call_entry PyProof.Rows.slot_tuple_getitem ht.typeIs entry_tuple_getitem ?_ (args_tuple_getitem _ _)))
  show wpAny _ _ (Builtin.Tuple.tupleItemsOf (.ref t) >>= _) _ _ s
  refine wpAny_bind (tupleItemsOf_ ht ?_)
  refine wpAny_bind (wpAny_typeOf hTs ?_)
  rw [if_pos (by decide)]
  refine wpAny_bind (rev_applied hs ?_)
  show wpAny _ _ (if (((items.size : Int) - 1) == 0 && (-1 : Int) == 1 && items.size == items.size) = true then _ else _) _ _ s
  rw [if_neg (by simp), rev_pick]
  first
    | exact wpAny_bind (m := Builtin.Tuple.tupleExact _) (wpAny_newObj_type (wpAny_pure ⟨_, rfl, wpAny_pure h⟩) htake)
    | exact wpAny_bind (m := Builtin.Tuple.tupleExact _) (wpAny_newObj_type (wpAny_bind (wpAny_pure (wpAny_pure ⟨_, rfl, wpAny_pure h⟩))) htake)
    | exact wpAny_bind (wpAny_bind (m := Builtin.Tuple.tupleExact _) (wpAny_newObj_type (wpAny_pure (wpAny_pure ⟨_, rfl, wpAny_pure h⟩)) htake))
    | exact wpAny_bind (wpAny_bind (m := Builtin.Tuple.tupleExact _) (wpAny_newObj_type (wpAny_pure ⟨_, rfl, wpAny_pure h⟩) htake))
end
def rRevT (K : PySem.W.Frag) : R2 := fun x y H Q => ∃ a xs, x = .ref a ∧ y = .int (-1) ∧ SqT K H a xs ∧ ∀ p, H p = none → Q (.ref p) (upd H p (.tup xs.reverse))
section
variable {X : Cx} {W : WX} {qa qb : Bool} {e st : Expr} {te ts : TE} {sa sb : M Rv} {pos p2 : Pos}
theorem Vals.rev : ∀ {xs : List V} {us : List Value}, Vals xs us → Vals xs.reverse us.reverse
  | _, _, .nil => .nil
  | _, _, .cons r t => by
    rw [List.reverse_cons, List.reverse_cons]
    exact Vals.append (Vals.rev t) (.cons r .nil)
theorem pe_revT (he : PE X e te) (hst : PE X st ts) : PE X (.Subscript e (.Slice none none (some st) p2) pos) (tOp (rRevT X.K) te ts) := by
  refine ⟨fun pins s σ H Q I h => ?_⟩
  refine Subscript_ (thn (he.run pins s σ H _ I h) fun v s1 ⟨x, H1, I1, r1, q1⟩ => ?_)
  refine wpAny_Slice ?_
  rw [evalPart_none]
  refine wpAny_pure ?_
  refine wpAny_pure ?_
  rw [evalPart_some]
  refine thn (hst.run pins s1 σ H1 _ I1 q1) fun vs s3 ⟨y, H3, I3, r3, q3⟩ => ?_
  obtain ⟨a, xs, rfl, rfl, hx, q⟩ := q3
  cases r1
  obtain ⟨tk, rfl⟩ := r3
  have I4 : Inv X pins σ H3 { s3 with heap := s3.heap.push { cls := .type "slice", data := .fields #[.none, .none, .int (-1) tk] } } := I3.kept (t' := s3.toks) fun b ob q => Heap.get?_push_of_some _ q
  obtain ⟨its, r, ht, hz⟩ := I4.tuple hx
  have hlen : its.toArray.size = xs.length := by rw [List.size_toArray]; exact r.length.symm
  show wpAny (model X.prog X.w) X.A (subscriptTail e (.Slice none none (some st) p2) (.ref a) (.ref s3.heap.objs.size)) (EP X pins σ Q) X.xe { s3 with heap := s3.heap.push { cls := .type "slice", data := .fields #[.none, .none, .int (-1) tk] } }
  refine tail_any (ops := [.ref a, .ref s3.heap.objs.size]) (T := "tuple") ht.typeIs PyProof.Rows.slot_tuple_getitem.lookup (rev_get ht (Heap.IsSliceOf.new ..) ?_ (by rw [hlen]; exact hz)) (by with_unfolding_all rfl)
  refine ⟨.ref _, upd H3 _ (.tup xs.reverse), I4.laid (t' := s3.toks) (o := .tup xs.reverse) (fun b ob q => Heap.get?_push_of_some _ q) (Nat.le_refl _) ?_, rfl, q _ (I4.hok.fresh (Nat.le_refl _))⟩
  exact ⟨by rw [List.length_reverse]; exact hz, its.reverse, Vals.rev r, IsTup.new _ _⟩
end
def fRevD (d e : D) : Option Rv := match d, e with
  | .tup ds, .int z => if (decide (z = -1) && depL ds == 0) = true then some (some 0, .tup ds.reverse) else none
  | _, _ => none
def fRev (a b : Rv) : Option Rv := fRevD a.2 b.2
theorem FzL.rev {F : Hp} : ∀ {ds : List D} {vs : List V}, FzL F ds vs → FzL F ds.reverse vs.reverse
  | [], _, h => by simp only [FzL] at h; subst h; rfl
  | d :: ds, _, h => by
    simp only [FzL] at h
    obtain ⟨v, r, rfl, h1, h2⟩ := h
    rw [List.reverse_cons, List.reverse_cons]
    refine FzL.append (FzL.rev h2) ?_
    simp only [FzL]
    exact ⟨v, [], rfl, h1, rfl⟩
theorem p_revT {K : PySem.W.Frag} : P2R (rRevT K) fRev := by
  intro q F H e σ A F1 H1 e1 A1 B C v w a b x Q g xa xb hf k
  obtain ⟨ka, da⟩ := a
  obtain ⟨kb, db⟩ := b
  unfold fRev fRevD at hf
  dsimp only at hf
  split at hf
  · rename_i ds z
    split at hf
    · rename_i c
      obtain rfl := Option.some.inj hf
      simp only [Bool.and_eq_true, decide_eq_true_eq, beq_iff_eq] at c
      obtain ⟨rfl, hdep⟩ := c
      have ra := IsR.read g.rel.sm xa
      have rb := IsR.read g.rel.sm xb
      simp only [Fz] at rb
      subst rb
      have g2 := (g.sub (List.nil_sublist _)).tups
      have fz := Fz.flat (fun a vs h => tupd_tup g.rel.sm h) _ _ (show (D.tup ds).dep = 0 from hdep) ra
      simp only [Fz] at fz
      obtain ⟨a, vs, rfl, h1, h2⟩ := fz
      refine ⟨a, vs, rfl, rfl, .inl (.inl (g2.rel.sm _ _ h1)), fun p hp => ?_⟩
      have g3 := g2.newT (fun a h => by cases h) hp vs.reverse
      have sF := (Step.newTup (vs := vs.reverse) g2.rel.sm hp).2.fz
      refine k _ _ _ _ g3 ?_
      show Is _ _ (.tup ds.reverse) 0 (.ref p) []
      refine Fz.is ?_
      simp only [Fz]
      exact ⟨p, vs.reverse, rfl, upd_same, FzL.mono sF _ _ (FzL.rev h2)⟩
    · cases hf
  · cases hf
theorem ok_rev {k l : Option Nat} {ds : List D} {P : Rv → Prop} (h : depL ds = 0) : OkP (fRev (k, .tup ds) (l, .int (-1))) P = P (some 0, .tup ds.reverse) := by
  unfold fRev fRevD
  dsimp only
  rw [if_pos (by simp [h])]; rfl
section
variable {X : Cx} {W : WX} {qa qb : Bool} {e st : Expr} {te ts : TE} {sa sb : M Rv} {pos p2 : Pos}
theorem ev_revT (he : EV X W qa e te sa) (hst : EV X W qb st ts sb) {K : PySem.W.Frag} (hK : X.K = K := by rfl) : EV X W (qa && qb) (.Subscript e (.Slice none none (some st) p2) pos) (tOp (rRevT K) te ts) (sOp fRev qb sa sb) := by
  subst hK; exact ⟨pe_revT he.pe hst.pe, SX.op p_revT he.se hst.se⟩
end
end AR

set_option Elab.async false
set_option linter.all false
set_option maxRecDepth 100000
namespace AR
open PySem PySem.Spec PyProof.Rows L2

/-! ### min of a list of data (lists of numbers, lists of pairs of numbers) -/
def rMinD (K : PySem.W.Frag) : List V → Hp → VK → Prop := fun vs H Q => ∃ (a : Addr) (xs : List V) (x : PyData) (ys : List PyData), vs = [V.ref a] ∧ SqL K H a xs ∧ DpAll K H xs (x :: ys) ∧ PySem.W.AlikeAll (x :: ys) ∧ PyData.depthAll (x :: ys) ≤ 50 ∧
  ∀ (i : Nat) (v : V), xs[i]? = some v → (x :: ys)[i]? = some (PySem.W.minD x ys) → Q v H
theorem cr_minD {X : Cx} (hc : X.calm = true) (hu : X.A.units + 65 < cLine) : CallR X (.builtin "min") (rMinD X.K) := by
  intro pins s σ H vs us Q I r h
  obtain ⟨a, xs, x, ys, rfl, hs, hd, ha, hdep, q⟩ := h
  obtain ⟨its, rv, hl, _⟩ := I.list hs
  rw [Vals.ref1 r]
  obtain ⟨as, hr⟩ := Dp.readsAll I _ _ _ hd rv
  have hr' : ReadsAll s.heap its.toArray.toList (x :: ys) as := by simpa using hr
  have hn : its.toArray.size = ys.length + 1 := PySem.W.readsAll_len hr'
  refine call_min_walkH (PySem.W.iter_listW (A := X.A.in1) (I.ok.hd hc) hl.isList fun s₂ e W st hfp hw hk => ?_)
  refine ⟨_, _, _, _, _, _, _, s.heap, _, rfl, W, st, hfp, by omega, hw, hk, PySem.W.cmpIn_lt (A := X.A.in1) hr' ha (by show X.A.units + 1 + _ < _; omega), fun v s' hP m => ?_⟩
  obtain ⟨h', tk, rfl, hk'⟩ := PySem.W.moved_old e rfl m
  have e1 : its.toArray.size - 1 = ys.length := by omega
  obtain ⟨e3, e2⟩ := PySem.W.argBest_fold PySem.W.dataLt PyData.none x ys ys.length (Nat.le_refl _)
  rw [List.take_length] at e2
  rw [e1] at hP
  generalize argBest (fun i j => PySem.W.dataLt ((x :: ys).getD i .none) ((x :: ys).getD j .none)) ys.length = m0 at hP e2 e3
  have hm : m0 < its.length := by
    have : its.toArray.size = its.length := by simp
    omega
  have hx : xs.length = its.length := rv.length
  obtain ⟨u, e4, e5⟩ := rv.get (List.getElem?_eq_getElem (by omega : m0 < xs.length))
  rw [List.getElem?_toArray, e4] at hP
  obtain rfl := Option.some.inj hP
  refine ⟨_, H, I.kept hk', e5, q m0 _ (List.getElem?_eq_getElem _) ?_⟩
  rw [List.getD_eq_getElem?_getD] at e2
  have : m0 < (x :: ys).length := by simp; omega
  rw [List.getElem?_eq_getElem this] at e2 ⊢
  rw [Option.getD_some] at e2
  rw [e2]; rfl
/-- data of a Lean type with an order -/
class DecD (α : Type) [DecidableEq α] [PySem.W.DatumOrd α] where
  dec : D → Option α
  enc : α → D
  dec_eq : ∀ {d a}, dec d = some a → d = enc a
  dec_enc : ∀ a, dec (enc a) = some a
  py : ∀ a, toPy (enc a) = PySem.W.Datum.toD a
  lay : ∀ a, (toPy (enc a)).canLay0 = true
  dep : PySem.W.Datum.depth α ≤ 50
section
variable {α : Type} [DecidableEq α] [PySem.W.DatumOrd α] [DecD α]
def decL : List D → Option (List α)
  | [] => some []
  | d :: ds => (DecD.dec d).bind fun a => (decL ds).map (a :: ·)
theorem decL_eq : ∀ {ds : List D} {as : List α}, decL ds = some as → ds = as.map DecD.enc
  | [], _, h => by simp only [decL] at h; rw [← Option.some.inj h]; rfl
  | d :: ds, _, h => by
    simp only [decL] at h
    cases hd : DecD.dec (α := α) d with
    | none => rw [hd] at h; cases h
    | some p =>
      rw [hd] at h
      simp only [Option.bind_some] at h
      cases hx : decL (α := α) ds with
      | none => rw [hx] at h; cases h
      | some ps =>
        rw [hx] at h
        rw [← Option.some.inj h, DecD.dec_eq hd, decL_eq hx]; rfl
theorem decL_map : ∀ as : List α, decL (as.map DecD.enc) = some as
  | [] => rfl
  | a :: as => by simp only [List.map_cons, decL, DecD.dec_enc, decL_map as, Option.bind_some, Option.map_some]
def minL : List α → Option α
  | [] => none
  | a :: as => some (PySem.W.minOf a as)
variable (α) in
def fMinD : List Rv → Option Rv
  | [(k, .lst ds)] => if k.isSome = true then (decL (α := α) ds).bind fun as => (minL as).map fun m => (some 0, DecD.enc m) else none
  | _ => none
theorem toPyL_enc : ∀ as : List α, toPyL (as.map DecD.enc) = as.map PySem.W.Datum.toD
  | [] => rfl
  | a :: as => by simp only [List.map_cons, toPyL, DecD.py, toPyL_enc as]
theorem layL_enc : ∀ as : List α, PyData.canLayAll0 (toPyL (as.map DecD.enc)) = true
  | [] => rfl
  | a :: as => by simp only [List.map_cons, toPyL, PyData.canLayAll0, DecD.lay, layL_enc as, Bool.and_self]
theorem minOf_mem (a : α) : ∀ as : List α, PySem.W.minOf a as ∈ a :: as := fun as => by
  unfold PySem.W.minOf
  induction as generalizing a with
  | nil => simp
  | cons b bs ih =>
    rw [List.foldl_cons]
    have := ih (if PySem.W.DatumOrd.lt b a = true then b else a)
    rcases List.mem_cons.mp this with h | h
    · rw [h]; split <;> simp
    · simp [h]
theorem toD_inj {a b : α} (h : PySem.W.Datum.toD a = PySem.W.Datum.toD b) : a = b := by
  have := PySem.W.Datum.eqv a b
  rw [h, PySem.W.Datum.eqv b b] at this
  simpa using this.symm
theorem p_minD {K : PySem.W.Frag} : PcR (rMinD K) (fMinD α) := by
  intro q F H e σ A F1 H1 e1 A1 B vs as x Q g xa hf k
  unfold fMinD at hf
  split at hf
  · rename_i k1 ds
    split at hf
    · rename_i ok
      simp only [IsRs] at xa
      obtain ⟨v, w, C, E, rfl, rfl, x1, rfl, rfl⟩ := xa
      cases hx : decL (α := α) ds with
      | none => rw [hx] at hf; cases hf
      | some as =>
        rw [hx] at hf
        simp only [Option.bind_some] at hf
        cases as with
        | nil => cases hf
        | cons a as =>
          obtain rfl := Option.some.inj hf
          obtain ⟨F2, g2, s2, n2, f2⟩ := Got.toFz (C := []) g x1 (fun a h => by cases h) (by unfold canFz; simp [ok])
          rw [decL_eq hx] at f2
          simp only [Fz] at f2
          obtain ⟨b, ws, rfl, h1, h2⟩ := f2
          have h3 := h2.dp (K := K) (layL_enc (a :: as))
          have h4 : FzL H1 ((a :: as).map DecD.enc) ws := h2.mono g2.rel.sm
          refine ⟨b, ws, PySem.W.Datum.toD a, as.map PySem.W.Datum.toD, rfl, .inl (.inl (g2.rel.sm _ _ h1)), ?_, PySem.W.alikeAll_datum (a :: as), ?_, fun i v hv hi => ?_⟩
          · have := h4.dp (K := K) (layL_enc (a :: as))
            rw [toPyL_enc] at this
            exact this
          · exact Nat.le_trans (PySem.W.depthAll_map (a :: as)) (DecD.dep (α := α))
          · refine k F2 H1 [] v g2 (Fz.is ?_)
            rw [PySem.W.minD_map, ← List.map_cons, List.getElem?_map] at hi
            cases hc : (a :: as)[i]? with
            | none => rw [hc] at hi; cases hi
            | some c =>
              rw [hc] at hi
              have hc2 : c = PySem.W.minOf a as := toD_inj (Option.some.inj hi)
              obtain ⟨v', e1, e2⟩ := h2.get (i := i) (d := DecD.enc c) (by rw [List.getElem?_map, hc]; rfl)
              rw [hv] at e1
              obtain rfl := Option.some.inj e1
              rw [← hc2]; exact e2
    · cases hf
  · cases hf
end
section
variable {X : Cx} {W : WX} {qa : Bool} {a : Expr} {t : TA} {s : M (List Rv)} {pos : Pos}
theorem ev_minD (α : Type) [DecidableEq α] [PySem.W.DatumOrd α] [DecD α] {p : Pos} {n : Nat} (hr : Room n X.A) (hc : X.calm = true) (hm : X.mg "min" = none) (hg : Gl X "min") (ha : AV X W qa [a] t s) (he : starEach [a] X.env = (false, eval a X.env) :: starEach [] X.env := by rfl) (hpl : (backTo pos (starEach [] X.env)).any (·.1) = false := by rfl) {K : PySem.W.Frag} (hK : X.K = K := by rfl) : EV X W qa (.Call (.Name "min" p) [a] [] pos) (tCB (rMinD K) t) (sCall1 (fMinD α) s) := by
  subst hK; exact ev_callB (cr_minD hc (hu65 hr)) p_minD hg hm (by decide +kernel) ha (by decide) (by decide) he hpl
end
/-! the two kinds: lists of numbers, lists of pairs -/
theorem toPyL_ints : ∀ as : List Int, toPyL (as.map D.int) = as.map PySem.W.Datum.toD
  | [] => rfl
  | a :: as => by simp only [List.map_cons, toPyL, toPy, toPyL_ints as]; rfl
theorem layL_ints : ∀ as : List Int, PyData.canLayAll0 (toPyL (as.map D.int)) = true
  | [] => rfl
  | a :: as => by simp only [List.map_cons, toPyL, toPy, PyData.canLayAll0, PyData.canLay0, layL_ints as, Bool.and_self]
theorem toPyL_pairs : ∀ as : List Pr, toPyL (as.map pairD) = as.map PySem.W.Datum.toD
  | [] => rfl
  | a :: as => by simp only [List.map_cons, toPyL, toPyL_pairs as]; rfl
theorem layL_pairs : ∀ as : List Pr, PyData.canLayAll0 (toPyL (as.map pairD)) = true
  | [] => rfl
  | a :: as => by simp only [List.map_cons, toPyL, pairD, toPy, PyData.canLayAll0, PyData.canLay0, layL_pairs as, Bool.and_self]
theorem allP_map' : ∀ as : List Pr, allP (as.map pairD) = some as
  | [] => rfl
  | a :: as => by simp only [List.map_cons, allP, allP_map' as, pairD, asP, Option.bind_some, Option.map_some]
def decIL : D → Option (List Int)
  | .lst ds => allI ds
  | _ => none
def decPL : D → Option (List Pr)
  | .lst ds => allP ds
  | _ => none
instance : DecD (List Int) where
  dec := decIL
  enc := fun ns => .lst (ns.map D.int)
  dec_eq := fun {d a} h => by
    unfold decIL at h
    split at h
    · rw [allI_eq h]
    · cases h
  dec_enc := fun a => allI_map (ns := a)
  py := fun a => by simp only [toPy, toPyL_ints]; rfl
  lay := fun a => by simp only [toPy, PyData.canLay0, layL_ints]
  dep := by decide
instance : DecD (List Pr) where
  dec := decPL
  enc := fun ns => .lst (ns.map pairD)
  dec_eq := fun {d a} h => by
    unfold decPL at h
    split at h
    · rw [allP_eq h]
    · cases h
  dec_enc := fun a => allP_map' a
  py := fun a => by simp only [toPy, toPyL_pairs]; rfl
  lay := fun a => by simp only [toPy, PyData.canLay0, layL_pairs]
  dep := by decide
/-! readings -/
theorem ok_minD {α : Type} [DecidableEq α] [PySem.W.DatumOrd α] [DecD α] {m : Nat} {ds : List D} {as : List α} {x : α} (h : ds = as.map DecD.enc) (hx : minL as = some x) : fMinD α [(some m, .lst ds)] = some (some 0, DecD.enc x) := by
  subst h
  simp only [fMinD, Option.isSome_some, if_true, decL_map, Option.bind_some, hx, Option.map_some]
end AR

set_option Elab.async false
set_option linter.all false
set_option maxRecDepth 100000
namespace AR
open PySem PySem.Spec PyProof.Rows L2

/-! ### set(list): everything but the turns -/
abbrev setO0 (w : World) : Obj := { cls := .type "set", dict := none, data := .set #[] 0 (.fresh 0 0 (!w.params.followText "set-order")) }
abbrev setH1 (w : World) (s : Shared) (l : Addr) : Heap := (s.heap.push (setO0 w)).push { cls := .type "list_iterator", data := .fields #[.ref l, .int 0 0] }
section
variable {P : Program} {w : World} {A : Around} {E : Value → Shared → Prop} {s : Shared}
set_option maxHeartbeats 3200000 in
theorem call_set_l {l : Addr} {items : Array Value} {Q : Value → Shared → Prop} (hl : s.heap.IsList l items) (T : Shared → Prop)
    (loop : ∀ (R : Result → Shared → Prop), (∀ s', T s' → R (.ok (.ret .none)) s') → codeAny (model P w) A.in1.in1 (.builtin "set.update.loop" ⟨[.ref s.heap.objs.size, .ref (s.heap.push (setO0 w)).objs.size], []⟩) R { s with heap := setH1 w s l })
    (h : ∀ s', T s' → Q (.ref s.heap.objs.size) s') (ht : ∀ s', T s' → ∃ o, s'.heap.get? s.heap.objs.size = some o ∧ o.cls = .type "set") :
    wpAny (model P w) A (call (.type "set") [.ref l]) Q E s := by
  obtain ⟨c, tl, hmro⟩ := F.called_set.mro
  have hmade := F.called_set.made
  have hsub := F.called_set.sub
  refine wpAny_call (codeAny_of_tree ?_)
  show wpAny _ _ (callAny (.type "set") _) _ _ _
  refine wpAny_pure ⟨Code.quiet_builtin _ (by decide +kernel), codeAny_builtin F.entry_type_call ?_⟩
  rw [Around.under_plain (weight_type_call_type "set" [.ref l] []) rfl]
  have h1 := F.called_set.notType
  have h2 := F.called_set.canCreate
  have hct := F.typeCall_set_1 (.ref l)
  repeat (any_goals (first | assumption | wp_step))
  refine codeAny_mono (code_set_led1 (.ref l) (E := E) (Q₁ := fun obj s₁ => obj = .ref s.heap.objs.size ∧ s₁ = { s with heap := s.heap.push (setO0 w) }) ⟨rfl, rfl⟩) fun r s₁ hr => ?_
  cases r with
  | error e => exact hr
  | ok fl =>
    cases fl with
    | ret obj =>
      obtain ⟨rfl, rfl⟩ := hr
      have hS : (s.heap.push (setO0 w)).get? s.heap.objs.size = some (setO0 w) := Heap.get?_push_size _ rfl
      have hT : Shared.TypeIs { s with heap := s.heap.push (setO0 w) } (.ref s.heap.objs.size) "set" := ⟨_, hS, rfl⟩
      have hli := F.called_set.init.lookup
      have hbi := F.called_set.init.bind (.ref s.heap.objs.size)
      repeat (any_goals (first | assumption | wp_step))
      refine codeAny_mono (codeAny_call_builtin (R := wants (fun r s₂ => r = .none ∧ T s₂) E) F.called_set.init.plain F.entry_set_init (check_set_init_1 hT ?_)) fun r₂ s₂ hr₂ => ?_
      · obtain ⟨ol, hol, hcl, nl, hdl⟩ := hl
        obtain ⟨ocls, odict, odata, oslots⟩ := ol
        simp only at hcl hdl
        subst hcl; subst hdl
        have hol' : (s.heap.push (setO0 w)).get? l = some { cls := .type "list", dict := odict, data := .seq items nl, slots := oslots } := Heap.get?_push_of_some _ hol
        have hsls := F.sub_list_set
        have hslf := F.sub_list_frozenset
        have hne : (Value.type "list" == Value.type "dict") = false := by decide
        have hl1 : (s.heap.push (setO0 w)).IsList l items := ⟨_, hol', rfl, nl, rfl⟩
        unfold Builtin.«set.__init__» noKeywords Builtin.Frozenset.updateFrom
        generalize hPI : pyIter = PI
        wp_walk
        subst hPI
        refine wpAny_pyIter_list hl1 ?_
        refine wpAny_bind (wpAny_runValue ?_)
        refine loop _ fun s' hs' => ?_
        show wpAny _ _ _ _ _ _
        refine wpAny_pure ?_
        show wpAny _ _ (ret Value.none) _ _ _
        exact wpAny_pure ⟨rfl, hs'⟩
      · cases r₂ with
        | error e => exact hr₂
        | ok fl₂ =>
          cases fl₂ with
          | ret r =>
            obtain ⟨rfl, hs'⟩ := hr₂
            repeat (any_goals (first | assumption | wp_step))
            exact h _ hs'
          | _ => exact hr₂.elim
    | _ => exact hr.elim
/-- set(list of ints) -/
theorem call_set_listI {l : Addr} {items : Array Value} (ns : List Int) {Q : Value → Shared → Prop} (hh : A.handled = none) (hl : s.heap.IsList l items) (hit : IntsAre items.toList ns) (hb : ns.length + 1 < scanBound)
    (h : ∀ (h' : Heap) (tk c : Nat), SetR w h' s.heap.objs.size (fun j => decide (j ∈ ns)) c → (∀ b o, s.heap.get? b = some o → h'.get? b = some o) → Q (.ref s.heap.objs.size) { s with heap := h', toks := tk }) :
    wpAny (model P w) A (call (.type "set") [.ref l]) Q E s := by
  have hisz : items.size = ns.length := by
    have q := IntsAre.length hit
    rw [Array.length_toList] at q
    exact q
  have hlS : l < s.heap.objs.size := by obtain ⟨o, e, _⟩ := hl; exact Heap.lt_size e
  have hz1 : (s.heap.push (setO0 w)).objs.size = s.heap.objs.size + 1 := Heap.size_push ..
  have hl1 : (s.heap.push (setO0 w)).IsList l items := hl.push _
  refine call_set_l hl (fun s' => ∃ h' tk c, s' = { s with heap := h', toks := tk } ∧ SetR w h' s.heap.objs.size (fun j => decide (j ∈ ns)) c ∧ ∀ b o, s.heap.get? b = some o → h'.get? b = some o) (fun R hR => ?_) (fun s' hs' => ?_) fun s' hs' => ?_
  · have hh3 : A.in1.in1.in1.handled = none := by simp [hh]
    have hneI : l ≠ (s.heap.push (setO0 w)).objs.size := by rw [hz1]; exact Nat.ne_of_lt (Nat.lt_succ_of_lt hlS)
    have hSf : s.heap.objs.size ∉ [(s.heap.push (setO0 w)).objs.size, l] := by
      rw [hz1]; simp only [List.mem_cons, List.not_mem_nil, or_false, not_or]
      exact ⟨Nat.ne_of_lt (Nat.lt_succ_self _), Nat.ne_of_gt hlS⟩
    have hval : ∀ (i : Nat) (v : Value), items[i]? = some v → ∃ k t, ns[i]? = some k ∧ v = .int k t := fun i v hv => by
      have hi : i < ns.length := by rw [← hisz]; exact (Array.getElem?_eq_some_iff.mp hv).1
      obtain ⟨t, e⟩ := PyProof.Rows.IntsAre.int_at hit i v (by rw [Array.getElem?_toList]; exact hv)
      refine ⟨ns[i], t, List.getElem?_eq_getElem hi, ?_⟩
      rw [e, List.getD_eq_getElem?_getD, List.getElem?_eq_getElem hi] <;> rfl
    have hS : (setH1 w s l).get? s.heap.objs.size = some (setO0 w) := Heap.get?_push_of_some _ (Heap.get?_push_size _ rfl)
    refine set_update_ints ((Walks.list hh3 _ l hneI items).toS) s.heap.objs.size hSf ns hisz hb hval (items.size - 0) 0 _ (by omega) (Nat.zero_le _) ⟨⟨_, Heap.get?_push_size _ rfl, rfl, rfl⟩, hl1.push _⟩ ⟨0, Nat.le_refl 0, setR_new_at hS⟩ fun s' c' hm hc' hS' => hR _ ?_
    obtain ⟨h', g2, d', tk', os'⟩ := s'
    have eg : g2 = s.gens := hm.gens
    have ed : d' = s.drawn := hm.drawn
    have eo : os' = s.os := hm.os
    subst eg; subst ed; subst eo
    refine ⟨h', tk', c', rfl, hS', fun b o e => ?_⟩
    have hb0 : b < s.heap.objs.size := Heap.lt_size e
    exact hm.heap b o (by rw [hz1]; simp only [List.mem_cons, List.not_mem_nil, or_false, not_or]; exact ⟨Nat.ne_of_lt hb0, Nat.ne_of_lt (Nat.lt_succ_of_lt hb0)⟩) (Heap.get?_push_of_some _ (Heap.get?_push_of_some _ e))
  · obtain ⟨h', tk, c, rfl, hS, hk⟩ := hs'
    exact h _ _ _ hS hk
  · obtain ⟨h', tk, c, rfl, hS, hk⟩ := hs'
    obtain ⟨o, _, _, _, e, ex, _⟩ := hS
    exact ⟨o, e, ex.1⟩
end
/-! ### the members, rising -/
def insU (x : Int) : List Int → List Int
  | [] => [x]
  | y :: ys => if x < y then x :: y :: ys else if x = y then y :: ys else y :: insU x ys
def sortU (ns : List Int) : List Int := ns.foldr insU []
theorem mem_insU {x k : Int} : ∀ {l : List Int}, k ∈ insU x l ↔ k = x ∨ k ∈ l
  | [] => by simp [insU]
  | y :: ys => by
    unfold insU
    split
    · simp
    · split
      · rename_i h; subst h; simp
      · simp only [List.mem_cons, mem_insU]
        constructor
        · rintro (h | h | h) <;> simp [h]
        · rintro (h | h | h) <;> simp [h]
theorem insU_up {x : Int} : ∀ {l : List Int}, l.Pairwise (· < ·) → (insU x l).Pairwise (· < ·)
  | [], _ => by simp [insU]
  | y :: ys, h => by
    obtain ⟨h1, h2⟩ := List.pairwise_cons.mp h
    unfold insU
    split
    · rename_i hx
      refine List.pairwise_cons.mpr ⟨fun z hz => ?_, h⟩
      rcases List.mem_cons.mp hz with rfl | hz
      · exact hx
      · have := h1 z hz; omega
    · split
      · exact h
      · rename_i hx hy
        refine List.pairwise_cons.mpr ⟨fun z hz => ?_, insU_up h2⟩
        rcases mem_insU.mp hz with rfl | hz
        · omega
        · exact h1 z hz
theorem mem_sortU {k : Int} : ∀ {ns : List Int}, k ∈ sortU ns ↔ k ∈ ns
  | [] => by simp [sortU]
  | n :: ns => by
    show k ∈ insU n (sortU ns) ↔ _
    rw [mem_insU, mem_sortU, List.mem_cons]
theorem sortU_up : ∀ {ns : List Int}, (sortU ns).Pairwise (· < ·)
  | [] => by simp [sortU]
  | n :: ns => insU_up sortU_up
theorem up_nodup {l : List Int} (h : l.Pairwise (· < ·)) : l.Nodup := h.imp fun h => by omega
theorem up_unique : ∀ {l m : List Int}, l.Pairwise (· < ·) → m.Pairwise (· < ·) → (∀ k, k ∈ l ↔ k ∈ m) → l = m
  | [], [], _, _, _ => rfl
  | [], y :: ys, _, _, h => by have := (h y).mpr (by simp); cases this
  | x :: xs, [], _, _, h => by have := (h x).mp (by simp); cases this
  | x :: xs, y :: ys, hx, hy, h => by
    obtain ⟨a1, a2⟩ := List.pairwise_cons.mp hx
    obtain ⟨b1, b2⟩ := List.pairwise_cons.mp hy
    have e : x = y := by
      rcases List.mem_cons.mp ((h x).mp (by simp)) with e | e
      · exact e
      · rcases List.mem_cons.mp ((h y).mpr (by simp)) with e' | e'
        · exact e'.symm
        · have := b1 x e; have := a1 y e'; omega
    subst e
    rw [up_unique a2 b2 fun k => ?_]
    constructor
    · intro hk
      rcases List.mem_cons.mp ((h k).mp (by simp [hk])) with e | e
      · have := a1 k hk; omega
      · exact e
    · intro hk
      rcases List.mem_cons.mp ((h k).mpr (by simp [hk])) with e | e
      · have := b1 k hk; omega
      · exact e
/-! ### the rule -/
def rSetI (K : PySem.W.Frag) (w : World) : List V → Hp → VK → Prop := fun xs H Q => ∃ (l : Addr) (ns : List Int), xs = [V.ref l] ∧ SqL K H l (ns.map V.int) ∧ ns.length ≤ 4000 ∧
  ∀ p, H p = none → Q (.ref p) (upd H p (SetO w p (fun j => decide (j ∈ ns)) (sortU ns).length))
theorem cr_setI {X : Cx} (hc : X.calm = true) : CallR X (.type "set") (rSetI X.K X.w) := by
  intro pins s σ H xs us Q I r h
  obtain ⟨l, ns, rfl, hl, hb, q⟩ := h
  rw [Vals.ref1 r]
  obtain ⟨its, rv, pl, hz⟩ := I.list hl
  have hi : IntsAre its.toArray.toList ns := intsAre_of (ns := ns) (by simpa using rv)
  refine call_set_listI (P := X.prog) (w := X.w) ns (I.ok.hd hc) pl.isList hi (by unfold scanBound; omega) fun h' tk c R k => ?_
  have hn : H s.heap.objs.size = none := I.hok.fresh (Nat.le_refl _)
  have hcc : c = (sortU ns).length := by
    obtain ⟨o, es, ep, t, ho, hex, hd, g, nd, hm, _, _, hs, _, _⟩ := R
    have pm : (es.toList.map L2.keyOf).Perm (sortU ns) := (List.perm_ext_iff_of_nodup nd (up_nodup sortU_up)).mpr fun k => by
      rw [← hm k, mem_sortU]; simp
    have := pm.length_eq
    rw [List.length_map, Array.length_toList, hs] at this
    exact this
  subst hcc
  exact ⟨.ref s.heap.objs.size, _, I.laid (t' := tk) k (Nat.le_refl _) (setO_new R), rfl, q _ hn⟩
def fSortSet : List Rv → Option Rv
  | [(_, .lst ds)] => (allI ds).bind fun ns => if (decide (ns.length ≤ 4000) && decide ((sortU ns).length < 64)) = true then some (some 1, .lst ((sortU ns).map D.int)) else none
  | _ => none
def rFusS (K : PySem.W.Frag) (w : World) : List V → Hp → VK → Prop := fun vs H Q => rSetI K w vs H fun v H1 => rSortedSet w [v] H1 Q
theorem fzl_ints' {F : Hp} : ∀ ns : List Int, FzL F (ns.map D.int) (ns.map V.int)
  | [] => rfl
  | n :: ns => by simp only [List.map_cons, FzL]; exact ⟨_, _, rfl, by simp only [Fz], fzl_ints' ns⟩
theorem p_sortSet {K : PySem.W.Frag} {w : World} : PcR (rFusS K w) fSortSet := by
  intro q F H e σ A F1 H1 e1 A1 B vs as x Q g xa hf k
  unfold fSortSet at hf
  split at hf
  · rename_i k1 ds
    cases hx : allI ds with
    | none => rw [hx] at hf; cases hf
    | some ns =>
      rw [hx] at hf
      simp only [Option.bind_some] at hf
      split at hf
      · rename_i c
        obtain rfl := Option.some.inj hf
        simp only [Bool.and_eq_true, decide_eq_true_eq] at c
        obtain ⟨v, rfl, f⟩ := (IsRs.read g.rel.sm xa).one
        rw [allI_eq hx] at f
        simp only [Fz] at f
        obtain ⟨a, ws, rfl, h1, h2⟩ := f
        rw [h2.ints] at h1
        refine ⟨a, ns, rfl, .inl (.inl h1), c.1, fun p hp => ⟨p, _, _, rfl, upd_same, c.2, fun ms p' hup hm hln hp' => ?_⟩⟩
        have he : ms = sortU ns := up_unique hup sortU_up fun z => by rw [hm z, mem_sortU]; simp
        subst he
        have g0 := g.sub (List.nil_sublist _)
        have g1 := (g0.newL (fun a h => by cases h) hp (SetO w p (fun j => decide (j ∈ ns)) (sortU ns).length)).sub (List.nil_sublist _)
        obtain ⟨g5, y5⟩ := g1.fin (fzl_ints' (sortU ns)) hp'
        exact k _ _ _ _ g5 y5
      · cases hf
  · cases hf
section
variable {X : Cx} {W : WX} {qa : Bool} {a : Expr} {t : TA} {s : M (List Rv)} {pos p pos2 p2 : Pos}
theorem ev_sortSet (hc : X.calm = true) (hg : Gl X "sorted") (hm : X.mg "sorted" = none) (hg2 : Gl X "set") (hm2 : X.mg "set" = none) (ha : AV X W qa [a] t s)
    (h2 : starEach [a] X.env = (false, eval a X.env) :: starEach [] X.env := by rfl) (hpl2 : (backTo pos2 (starEach [] X.env)).any (·.1) = false := by rfl)
    (he : starEach [.Call (.Name "set" p2) [a] [] pos2] X.env = (false, eval (.Call (.Name "set" p2) [a] [] pos2) X.env) :: starEach [] X.env := by rfl) (hpl : (backTo pos (starEach [] X.env)).any (·.1) = false := by rfl)
    {K : PySem.W.Frag} (hK : X.K = K := by rfl) {w : World} (hw : X.w = w := by rfl) :
    EV X W qa (.Call (.Name "sorted" p) [.Call (.Name "set" p2) [a] [] pos2] [] pos) (tCB (rSortedSet w) (tCons (tCB (rSetI K w) t) tNil)) (sCall1 fSortSet s) := by
  subst hK hw
  have pr : PE X (.Call (.Name "set" p2) [a] [] pos2) (tCB (rSetI X.K X.w) t) := pe_callTy (cr_setI hc) hg2 hm2 (by decide +kernel) ha.pe (by decide) (by decide) h2 hpl2
  refine ⟨pe_callB (cr_sortedSet hc) hg hm (by decide +kernel) (pa_cons pr pa_nil he) (by decide) (by decide) he hpl, ?_⟩
  exact SX.call (r := rFusS X.K X.w) p_sortSet ha.se
end
theorem ok_sortSet {k : Option Nat} {ns : List Int} {P : Rv → Prop} : OkP (fSortSet [(k, .lst (ns.map D.int))]) P = ((ns.length ≤ 4000 ∧ (sortU ns).length < 64) ∧ P (some 1, .lst ((sortU ns).map D.int))) := by
  unfold fSortSet
  simp only [allI_map, Option.bind_some]
  rw [okp_ite, okp_some]; simp only [Bool.and_eq_true, decide_eq_true_eq]
end AR

set_option Elab.async false
set_option linter.all false
set_option maxRecDepth 100000
namespace AR
open PySem PySem.Spec PyProof.Rows L2

/-! ### x ↦ 5 x + 1 goes round through all, for every power of two -/
def fv : Nat → Nat
  | 0 => 0
  | k + 1 => fv k * 5 + 1
theorem fv_add (a : Nat) : ∀ b, fv (a + b) = 5 ^ b * fv a + fv b
  | 0 => by simp [fv]
  | b + 1 => by
    show fv (a + b) * 5 + 1 = 5 ^ (b + 1) * fv a + (fv b * 5 + 1)
    rw [fv_add a b, Nat.pow_succ, Nat.add_mul, Nat.mul_right_comm]; omega
theorem pow5 : ∀ k : Nat, ∃ r, 5 ^ k = 4 * r + 1
  | 0 => ⟨0, rfl⟩
  | k + 1 => by
    obtain ⟨r, h⟩ := pow5 k
    exact ⟨5 * r + 1, by rw [Nat.pow_succ, h]; omega⟩
theorem odd_mul (p q : Nat) : (2 * p + 1) * (2 * q + 1) = 2 * (2 * (p * q) + p + q) + 1 := by
  rw [Nat.add_mul, Nat.mul_add, Nat.one_mul, Nat.mul_one]
  have : 2 * p * (2 * q) = 4 * (p * q) := by rw [Nat.mul_mul_mul_comm]
  omega
theorem fv_pow : ∀ e : Nat, ∃ q, fv (2 ^ e) = 2 ^ e * (2 * q + 1)
  | 0 => ⟨0, rfl⟩
  | e + 1 => by
    obtain ⟨q, h⟩ := fv_pow e
    obtain ⟨r, hr⟩ := pow5 (2 ^ e)
    refine ⟨2 * (r * q) + r + q, ?_⟩
    have e2 : 2 ^ (e + 1) = 2 ^ e + 2 ^ e := by rw [Nat.pow_succ]; omega
    rw [← odd_mul, show fv (2 ^ (e + 1)) = fv (2 ^ e + 2 ^ e) by rw [e2], fv_add, hr, h, Nat.pow_succ]
    have : 2 ^ e * 2 * ((2 * r + 1) * (2 * q + 1)) = (2 * (2 * r + 1)) * (2 ^ e * (2 * q + 1)) := by
      simp only [Nat.mul_assoc, Nat.mul_comm, Nat.mul_left_comm]
    rw [this]
    generalize 2 ^ e * (2 * q + 1) = z
    rw [show 2 * (2 * r + 1) = (4 * r + 1) + 1 by omega, Nat.add_mul (4 * r + 1) 1 z, Nat.one_mul]
theorem fv_all : ∀ (e j : Nat), j < 2 ^ e → ∃ k, k < 2 ^ e ∧ fv k % 2 ^ e = j
  | 0, j, h => ⟨0, by decide, by simp at h ⊢; omega⟩
  | e + 1, j, h => by
    have e2 : 2 ^ (e + 1) = 2 ^ e * 2 := Nat.pow_succ ..
    have hN : 0 < 2 ^ e := Nat.pow_pos (by decide)
    obtain ⟨k, hk, hm⟩ := fv_all e (j % 2 ^ e) (Nat.mod_lt _ hN)
    obtain ⟨q, hq⟩ := fv_pow e
    obtain ⟨r, hr⟩ := pow5 k
    have hY : fv (2 ^ e + k) = fv k + 2 ^ e * (2 * (2 * (2 * r * q) + 2 * r + q) + 1) := by
      rw [fv_add, hr, hq, ← odd_mul, show 2 * (2 * r) + 1 = 4 * r + 1 by omega, Nat.mul_left_comm]; omega
    rw [e2] at h ⊢
    have hj : j = j % 2 ^ e + 2 ^ e * (j / 2 ^ e % 2) := by
      have := Nat.mod_mul (a := 2 ^ e) (b := 2) (x := j)
      rw [Nat.mod_eq_of_lt h] at this
      exact this
    have hX := Nat.mod_mul (a := 2 ^ e) (b := 2) (x := fv k)
    have hZ := Nat.mod_mul (a := 2 ^ e) (b := 2) (x := fv (2 ^ e + k))
    rw [hm] at hX
    rw [hY, Nat.add_mul_mod_self_left, hm, Nat.add_mul_div_left _ _ hN] at hZ
    rw [← hY] at hZ
    by_cases hc : fv k / 2 ^ e % 2 = j / 2 ^ e % 2
    · exact ⟨k, by omega, by rw [hX, hc]; exact hj.symm⟩
    · refine ⟨2 ^ e + k, by omega, ?_⟩
      rw [hZ]
      generalize 2 * (2 * r * q) + 2 * r + q = s at *
      have : (fv k / 2 ^ e + (2 * s + 1)) % 2 = j / 2 ^ e % 2 := by omega
      rw [this]; exact hj.symm
/-- masks: a power of two less one -/
def PM (m : Nat) : Prop := ∃ e, 3 ≤ e ∧ m + 1 = 2 ^ e
theorem PM.odd {m : Nat} (h : PM m) : m % 2 = 1 := by
  obtain ⟨e, h1, h2⟩ := h
  obtain ⟨k, rfl⟩ : ∃ k, e = k + 1 := ⟨e - 1, by omega⟩
  rw [Nat.pow_succ] at h2; omega
theorem lcgN_fv (m : Nat) : ∀ k, lcgN m k = fv k % (m + 1)
  | 0 => by simp [lcgN, fv]
  | k + 1 => by
    show (lcgN m k * 5 + 1) % (m + 1) = (fv k * 5 + 1) % (m + 1)
    rw [lcgN_fv m k, Nat.add_mod, Nat.mod_mul_mod, ← Nat.add_mod]
theorem lcg_turn {m : Nat} (hm : PM m) (k : Nat) : lcgN m (m + 1 + k) = lcgN m k := by
  obtain ⟨e, _, h⟩ := hm
  obtain ⟨q, hq⟩ := fv_pow e
  rw [lcgN_fv, lcgN_fv, fv_add, h, hq, Nat.mul_left_comm, Nat.mul_add_mod]
theorem round_all {m : Nat} (hm : PM m) {i j : Nat} (hi : i ≤ m) (hj : j ≤ m) : ∃ k, k ≤ m ∧ lcgI m i k = j := by
  have hm' := hm
  obtain ⟨e, _, h⟩ := hm'
  obtain ⟨a, ha, ea⟩ := fv_all e i (by omega)
  obtain ⟨b, hb, eb⟩ := fv_all e j (by omega)
  rw [← h, ← lcgN_fv] at ea eb
  rw [← ea]
  by_cases c : a ≤ b
  · exact ⟨b - a, by omega, by rw [lcgN_add, show a + (b - a) = b by omega, eb]⟩
  · exact ⟨b + (m + 1) - a, by omega, by rw [lcgN_add, show a + (b + (m + 1) - a) = m + 1 + b by omega, lcg_turn hm, eb]⟩
theorem runs_meet {m : Nat} (hm : PM m) (h : Int) {j : Nat} (hj : j ≤ m) : ∃ n, n ≤ m + 12 ∧ runI m (SetTable.bits h) n = j := by
  obtain ⟨k, hk, e⟩ := round_all hm (runI_le m (SetTable.bits h) 12) hj
  exact ⟨12 + k, by omega, by rw [runI_tail (bits_lt h), e]⟩
theorem way_meets {m : Nat} (hm : PM m) (h : Int) {j : Nat} (hj : j ≤ m) : ∃ k, k < 10 * SetTable.turns m ∧ way m h k = j := by
  obtain ⟨n, hn, e⟩ := runs_meet hm h hj
  obtain ⟨k, hk, e2⟩ := run_nth m (SetTable.bits h) n
  refine ⟨k, by unfold SetTable.turns; omega, ?_⟩
  show (nth m (runAt m (SetTable.bits h % (m + 1)) (SetTable.bits h)) k).j = j
  rw [e2]; exact e
theorem way_in {m : Nat} {h : Int} {k : Nat} : way m h k ≤ m := by
  have hi : SetTable.bits h % (m + 1) ≤ m := Nat.le_of_lt_succ (Nat.mod_lt _ (Nat.succ_pos _))
  have r := runEnd_bd hi
  have q := nth_in (m := m) k (runAt m (SetTable.bits h % (m + 1)) (SetTable.bits h)) (by simp only [runAt]; omega)
  show (nth m (runAt m (SetTable.bits h % (m + 1)) (SetTable.bits h)) k).j ≤ m
  omega
/-! ### a table in which each hash is found from its own way -/
structure Tb (t : SetTable) (hs : List Int) : Prop where
  ris : Ris t.place.toList
  dm : t.dummies = #[]
  sz : t.place.size = hs.length
  pm : PM t.mask
  bd : ∀ x ∈ t.place.toList, x ≤ t.mask
  reach : ∀ (i : Nat) (h : Int) (j : Nat), hs[i]? = some h → t.place.toList[i]? = some j → ∃ k, way t.mask h k = j ∧ ∀ k', k' < k → way t.mask h k' ∈ t.place.toList
theorem Tb.first {t : SetTable} {hs : List Int} (T : Tb t hs) (hl : hs.length ≤ t.mask) (h : Int) : ∃ K, K < 10 * SetTable.turns t.mask ∧ way t.mask h K ∉ t.place.toList ∧ ∀ k, k < K → way t.mask h k ∈ t.place.toList := by
  obtain ⟨j, hj, hn⟩ := st_missing t.place.toList (t.mask + 1) (by rw [Array.length_toList, T.sz]; omega)
  obtain ⟨k, hk, e⟩ := way_meets T.pm h (Nat.le_of_lt_succ hj)
  obtain ⟨K, h1, h2, h3⟩ := st_least (p := fun k => way t.mask h k ∉ t.place.toList) k (fun hc => hn (by rw [← e]; exact hc))
  exact ⟨K, by omega, h2, fun k' hk' => Classical.byContradiction fun c => h3 k' hk' c⟩
theorem Tb.before {t : SetTable} {hs : List Int} (T : Tb t hs) {h : Int} {K i j : Nat} (hK : way t.mask h K ∉ t.place.toList) (hi : hs[i]? = some h) (hj : t.place.toList[i]? = some j) : ∃ k, k < K ∧ way t.mask h k = j := by
  obtain ⟨k, e, hb⟩ := T.reach i h j hi hj
  refine ⟨k, ?_, e⟩
  rcases Nat.lt_trichotomy k K with c | c | c
  · exact c
  · subst c; rw [e] at hK; exact absurd (List.mem_of_getElem? hj) hK
  · exact absurd (hb K c) hK
theorem Tb.put {t : SetTable} {hs : List Int} (T : Tb t hs) {h : Int} {K : Nat} (hK : way t.mask h K ∉ t.place.toList) (hb : ∀ k, k < K → way t.mask h k ∈ t.place.toList) :
    SetTable.below t.place (way t.mask h K) ≤ hs.length ∧ Tb (t.put (way t.mask h K)).1 (hs.take (SetTable.below t.place (way t.mask h K)) ++ h :: hs.drop (SetTable.below t.place (way t.mask h K))) ∧ (t.put (way t.mask h K)).1.fill = hs.length + 1 := by
  have hjm := way_in (m := t.mask) (h := h) (k := K)
  generalize hj : way t.mask h K = j at hK hjm ⊢
  obtain ⟨c1, _, _⟩ := below_cut T.ris j
  have hsz : t.place.toList.length = hs.length := T.sz
  have hph : SetTable.below t.place j ≤ hs.length := by rw [← T.sz]; exact c1
  have hpl : SetTable.below t.place j ≤ t.place.toList.length := by rw [hsz]; exact hph
  have hpp := put_place t j
  have hsize : (t.put j).1.place.size = hs.length + 1 := by rw [← Array.length_toList, hpp, len_ins _ hpl, hsz]
  have up : ∀ {x : Nat}, x ∈ t.place.toList → x ∈ (t.put j).1.place.toList := fun hx => by rw [hpp]; exact mem_ins.mpr (.inr hx)
  refine ⟨hph, ⟨ris_insert T.ris fun e => hK (List.mem_of_getElem? (by rw [Array.getElem?_toList]; exact e)), put_dm T.dm j, by rw [len_ins _ hph]; exact hsize, T.pm, fun x hx => ?_, fun i h' j' h1 h2 => ?_⟩, ?_⟩
  · rw [hpp] at hx
    rcases mem_ins.mp hx with rfl | z
    · exact hjm
    · exact T.bd x z
  · show ∃ k, way t.mask h' k = j' ∧ ∀ k', k' < k → way t.mask h' k' ∈ (t.put j).1.place.toList
    rw [tins_get hs hph] at h1
    rw [hpp, tins_get _ hpl] at h2
    by_cases c : i < SetTable.below t.place j
    · rw [if_pos c] at h1 h2
      obtain ⟨k, e, z⟩ := T.reach i h' j' h1 h2
      exact ⟨k, e, fun k' hk' => up (z k' hk')⟩
    · rw [if_neg c] at h1 h2
      by_cases d : i = SetTable.below t.place j
      · rw [if_pos d] at h1 h2
        obtain rfl := Option.some.inj h1
        obtain rfl := Option.some.inj h2
        exact ⟨K, hj, fun k' hk' => up (hb k' hk')⟩
      · rw [if_neg d] at h1 h2
        obtain ⟨k, e, z⟩ := T.reach (i - 1) h' j' h1 h2
        exact ⟨k, e, fun k' hk' => up (z k' hk')⟩
  · show (t.put j).1.place.size + (t.put j).1.dummies.size = hs.length + 1
    rw [hsize, put_dm T.dm j]; rfl
/-! ### laid anew -/
theorem free_at {m : Nat} (hm : PM m) (owner : Array (Option Nat)) (h : Int) {j : Nat} (hj : j ≤ m) (hf : oAt owner j = none) :
    ∃ K, SetTable.layClean.free m owner (SetTable.turns m) (SetTable.bits h % (m + 1)) (SetTable.bits h) = some (way m h K) ∧ oAt owner (way m h K) = none ∧ ∀ k, k < K → oAt owner (way m h k) ≠ none := by
  obtain ⟨n, hn, e⟩ := runs_meet hm h hj
  have hw : way m h (off m (SetTable.bits h % (m + 1)) (SetTable.bits h) n) = j := by
    show (nth m (runAt m (SetTable.bits h % (m + 1)) (SetTable.bits h)) (off m (SetTable.bits h % (m + 1)) (SetTable.bits h) n)).j = j
    rw [nth_off, itL_run]; exact e
  obtain ⟨K, k1, k2, k3⟩ := st_least (p := fun k => oAt owner (way m h k) = none) _ (show oAt owner (way m h (off m (SetTable.bits h % (m + 1)) (SetTable.bits h) n)) = none by rw [hw]; exact hf)
  refine ⟨K, free_spec m owner (SetTable.turns m) n _ _ K (by unfold SetTable.turns; omega) k1 (fun k hk => ?_) ?_, k2, k3⟩
  · cases z : oAt owner (way m h k) with
    | none => exact absurd z (k3 k hk)
    | some x => rfl
  · show (oAt owner (way m h K)).isNone = true
    rw [k2]; rfl
theorem own_next {m : Nat} (hm : PM m) {done : List Int} {owner : Array (Option Nat)} (W : Own m done owner) (hl : done.length ≤ m) (h : Int) :
    ∃ j, SetTable.layClean.free m owner (SetTable.turns m) (SetTable.bits h % (m + 1)) (SetTable.bits h) = some j ∧ Own m (done ++ [h]) (owner.setIfInBounds j (some done.length)) := by
  obtain ⟨ps, hps, hin⟩ := W.ps
  obtain ⟨j0, h0, hn0⟩ := st_missing ps (m + 1) (by omega)
  have hj0 : oAt owner j0 = none := Classical.byContradiction fun c => hn0 (hin j0 (by omega) c)
  obtain ⟨K, e1, e2, e3⟩ := free_at hm owner h (Nat.le_of_lt_succ h0) hj0
  have hjm := way_in (m := m) (h := h) (k := K)
  refine ⟨way m h K, e1, ?_⟩
  have hself : oAt (owner.setIfInBounds (way m h K) (some done.length)) (way m h K) = some done.length := oAt_set_self _ (by rw [W.sz]; omega)
  have oth : ∀ {i : Nat}, i ≠ way m h K → oAt (owner.setIfInBounds (way m h K) (some done.length)) i = oAt owner i := fun c => oAt_set_ne _ c
  have hsz : (owner.setIfInBounds (way m h K) (some done.length)).size = m + 1 := by rw [Array.size_setIfInBounds]; exact W.sz
  generalize owner.setIfInBounds (way m h K) (some done.length) = o2 at hself oth hsz ⊢
  have mono : ∀ {i : Nat}, oAt owner i ≠ none → oAt o2 i ≠ none := fun {i} hi => by
    by_cases c : i = way m h K
    · rw [c, hself]; exact fun e => nomatch e
    · rw [oth c]; exact hi
  refine ⟨hsz, fun j k hj e => ?_, fun k hk => ?_, ⟨way m h K :: ps, by simp [hps], fun j hj e => ?_⟩⟩
  · by_cases c : j = way m h K
    · rw [c, hself] at e
      obtain rfl := Option.some.inj e
      exact ⟨h, K, by simp, c.symm, fun k' hk' => mono (e3 k' hk')⟩
    · rw [oth c] at e
      obtain ⟨h', K', a1, a2, a3⟩ := W.at_ j k hj e
      exact ⟨h', K', by rw [List.getElem?_append_left (List.getElem?_eq_some_iff.mp a1).1]; exact a1, a2, fun k' hk' => mono (a3 k' hk')⟩
  · by_cases c : k < done.length
    · obtain ⟨j, hj, e⟩ := W.all k c
      exact ⟨j, hj, by rw [oth (fun z => by rw [z, e2] at e; cases e)]; exact e⟩
    · exact ⟨way m h K, hjm, by rw [hself]; simp at hk; congr 1; omega⟩
  · by_cases c : j = way m h K
    · simp [c]
    · rw [oth c] at e
      exact List.mem_cons_of_mem _ (hin j hj e)
theorem lay_fold {m : Nat} (hm : PM m) : ∀ (rest done : List Int) (owner : Array (Option Nat)), Own m done owner → done.length + rest.length ≤ m →
    ∃ owner', rest.foldl (stepF m) (some (owner, done.length)) = some (owner', (done ++ rest).length) ∧ Own m (done ++ rest) owner'
  | [], done, owner, W, _ => ⟨owner, by simp, by simpa using W⟩
  | h :: rest, done, owner, W, hl => by
    rw [List.length_cons] at hl
    obtain ⟨j, e, W'⟩ := own_next hm W (by omega) h
    obtain ⟨owner', f, W2⟩ := lay_fold hm rest (done ++ [h]) _ W' (by simp; omega)
    rw [List.append_assoc] at f W2
    refine ⟨owner', ?_, W2⟩
    rw [List.foldl_cons, stepF_some e]
    simpa using f
theorem lay_ok {m : Nat} (hm : PM m) {hs : Array Int} (hn : hs.size ≤ m) : ∃ owner, SetTable.layClean m hs = some owner ∧ Own m hs.toList owner := by
  obtain ⟨owner, f, W⟩ := lay_fold hm hs.toList [] _ (Own.init m) (by simpa using hn)
  refine ⟨owner, ?_, by simpa using W⟩
  rw [layClean_eq]
  simp only [List.length_nil] at f
  rw [f]; rfl
theorem relaid_tb (t : SetTable) {hs : Array Int} {wanted M : Nat} (hw : SetTable.sizeAbove wanted - 1 = M) (hM : PM M) (hn : hs.size ≤ M) :
    ∃ t' order, t.relaid hs wanted = some (t', order) ∧ order.toList.Perm (List.range hs.size) ∧ Tb t' (order.toList.map fun i => hs.getD i 0) ∧ t'.mask = M ∧ t'.led = t.led ∧ t'.plain = t.plain := by
  obtain ⟨owner, e, W⟩ := lay_ok hM hn
  have hr : t.relaid hs wanted = some (tabOf t M owner, ((liveOf M owner).map (·.2)).toArray) := by rw [relaid_eq, hw, e]; rfl
  obtain ⟨r1, r2⟩ := ris_live (fun j => owner.getD j none) (List.range (M + 1)) List.pairwise_lt_range
  have r1 : Ris ((liveOf M owner).map (·.1)) := r1
  have r2 : ∀ x ∈ (liveOf M owner).map (·.1), x ∈ List.range (M + 1) := r2
  have ml := fun {j k : Nat} => mem_live W.sz (j := j) (k := k)
  have hall : ∀ k, k < hs.size → k ∈ (liveOf M owner).map (·.2) := fun k hk => by
    obtain ⟨j, b1, b2⟩ := W.all k (by simpa using hk)
    exact List.mem_map.mpr ⟨(j, k), ml.mpr ⟨b1, b2⟩, rfl⟩
  have hlen : (liveOf M owner).length = hs.size := by
    obtain ⟨ps, p1, p2⟩ := W.ps
    have nd : ((liveOf M owner).map (·.1)).Nodup := List.Pairwise.imp (fun h => Nat.ne_of_lt h) r1
    have a := nat_nodup_len _ ps nd fun x hx => by
      obtain ⟨⟨y, k⟩, hq, rfl⟩ := List.mem_map.mp hx
      obtain ⟨b1, b2⟩ := ml.mp hq
      exact p2 y b1 (by rw [b2]; exact fun z => nomatch z)
    have b := nat_nodup_len (List.range hs.size) ((liveOf M owner).map (·.2)) List.nodup_range fun k hk => hall k (List.mem_range.mp hk)
    rw [List.length_map, p1] at a
    rw [List.length_map, List.length_range] at b
    have hz : hs.toList.length = hs.size := rfl
    omega
  refine ⟨_, _, hr, perm_range hs.size _ (by simpa using hlen) fun k hk => by simpa using hall k hk, ⟨r1, rfl, ?_, hM, fun x hx => Nat.le_of_lt_succ (List.mem_range.mp (r2 x hx)), fun i h j h1 h2 => ?_⟩, rfl, rfl, rfl⟩
  · show ((liveOf M owner).map (·.1)).toArray.size = (((liveOf M owner).map (·.2)).map fun i => hs.getD i 0).length
    simp
  · have h1' : (((liveOf M owner).map (·.2)).map fun i => hs.getD i 0)[i]? = some h := h1
    have h2' : ((liveOf M owner).map (·.1))[i]? = some j := h2
    rw [List.getElem?_map, List.getElem?_map] at h1'
    rw [List.getElem?_map] at h2'
    cases hq : (liveOf M owner)[i]? with
    | none => rw [hq] at h2'; cases h2'
    | some q =>
      obtain ⟨y, k⟩ := q
      rw [hq] at h1' h2'
      obtain rfl : y = j := Option.some.inj h2'
      have eh : hs.getD k 0 = h := Option.some.inj h1'
      obtain ⟨b1, b2⟩ := ml.mp (List.mem_of_getElem? hq)
      obtain ⟨h0, K, a1, a2, a3⟩ := W.at_ y k b1 b2
      have e0 : hs.getD k 0 = h0 := by rw [Array.getD_eq_getD_getElem?, ← Array.getElem?_toList, a1]; rfl
      obtain rfl : h0 = h := e0.symm.trans eh
      refine ⟨K, a2, fun k' hk' => ?_⟩
      show way M h0 k' ∈ (liveOf M owner).map (·.1)
      cases z : oAt owner (way M h0 k') with
      | none => exact absurd z (a3 k' hk')
      | some k2 => exact List.mem_map.mpr ⟨(way M h0 k', k2), ml.mpr ⟨way_in, z⟩, rfl⟩
/-! ### how large -/
theorem size_go (n : Nat) : ∀ (f e : Nat), n < 2 ^ (e + f) → ∃ e', e ≤ e' ∧ SetTable.sizeAbove.go n f (2 ^ e) = 2 ^ e' ∧ n < 2 ^ e' ∧ (e' = e ∨ 2 ^ e' ≤ 2 * n)
  | 0, e, h => ⟨e, Nat.le_refl _, rfl, h, .inl rfl⟩
  | f + 1, e, h => by
    unfold SetTable.sizeAbove.go
    split
    · rename_i hc
      obtain ⟨e', h1, h2, h3, h4⟩ := size_go n f (e + 1) (by rw [show e + 1 + f = e + (f + 1) by omega]; exact h)
      rw [Nat.pow_succ] at h2
      refine ⟨e', by omega, h2, h3, .inr ?_⟩
      rcases h4 with rfl | h4
      · rw [Nat.pow_succ]; omega
      · exact h4
    · exact ⟨e, Nat.le_refl _, rfl, by omega, .inl rfl⟩
theorem size_above {n : Nat} (h : n ≤ 100000) : ∃ M, SetTable.sizeAbove n = M + 1 ∧ PM M ∧ n ≤ M ∧ (M = 7 ∨ M < 2 * n) := by
  obtain ⟨e, h1, h2, h3, h4⟩ := size_go n 64 3 (Nat.lt_of_le_of_lt h (by decide))
  have hp : 0 < 2 ^ e := Nat.pow_pos (by decide)
  refine ⟨2 ^ e - 1, ?_, ⟨e, h1, by omega⟩, by omega, ?_⟩
  · show SetTable.sizeAbove.go n 64 8 = _
    rw [show (8 : Nat) = 2 ^ 3 from rfl, h2]; omega
  · rcases h4 with rfl | h4
    · exact .inl rfl
    · exact .inr (by omega)
end AR

set_option Elab.async false
set_option linter.all false
set_option maxRecDepth 100000
namespace AR
open PySem PySem.Spec PyProof.Rows L2

/-! ### a set of tuples of ints, of any table -/
structure SB (P : Program) (w : World) (h : Heap) (a : Addr) (L : List (Addr × List Int)) (es : Array (Int × Value)) (ep : Nat) (t : SetTable) : Prop where
  ob : ∃ o, h.get? a = some o ∧ o.ExactSet ∧ o.data = .set es ep t
  rows : es.toList = rowsOf P w L
  tab : Tb t (L.map fun p => thash P w p.2)
  nd : (L.map (·.2)).Nodup
  tup : ∀ p ∈ L, IsT P w h p.2 p.1
  plain : t.plain = true
  led : w.params.followText "set-order" = true ∨ t.led = true
  room : L.length * 5 < t.mask * 3
  big : t.mask ≤ 8191
section
variable {P : Program} {w : World} {A : Around} {E : Value → Shared → Prop} {s : Shared} {a : Addr} {L : List (Addr × List Int)} {es : Array (Int × Value)} {ep : Nat} {t : SetTable}
theorem rows_len {L : List (Addr × List Int)} {es : Array (Int × Value)} (h : es.toList = rowsOf P w L) : es.size = L.length := by
  have := congrArg List.length h
  simpa [rowsOf] using this
theorem SB.size {h : Heap} (R : SB P w h a L es ep t) : es.size = L.length := rows_len R.rows
theorem SB.psz {h : Heap} (R : SB P w h a L es ep t) : t.place.size = L.length := by have := R.tab.sz; rwa [List.length_map] at this
theorem SB.fits {h : Heap} (R : SB P w h a L es ep t) : t.fits es.size = true := by
  have h1 := R.psz
  have h2 := R.size
  have h3 := R.room
  unfold SetTable.fits SetTable.fill
  rw [R.tab.dm, Bool.and_eq_true, beq_iff_eq, decide_eq_true_eq]
  show t.place.size = es.size ∧ t.place.size + 0 ≤ t.mask
  omega
theorem SB.entry {h : Heap} (R : SB P w h a L es ep t) {i : Nat} {p : Addr × List Int} (hp : L[i]? = some p) : es[i]? = some (thash P w p.2, Value.ref p.1) := by
  rw [← Array.getElem?_toList, R.rows]
  unfold rowsOf
  rw [List.getElem?_map, hp]; rfl
theorem SB.gw {h : Heap} (R : SB P w h a L es ep t) : ¬ t.gaveWay = true := by
  unfold SetTable.gaveWay
  rw [R.tab.pm.odd]; decide
theorem nth_dummy {m : Nat} : ∀ (n : Nat) (p : SetTable.Probe), p.dummy = none → (nth m p n).dummy = none
  | 0, _, h => h
  | n + 1, p, h => nth_dummy n (adv m p) (by unfold adv; split <;> exact h)
abbrev startP (m : Nat) (h : Int) : SetTable.Probe := runAt m (SetTable.bits h % (m + 1)) (SetTable.bits h)
theorem sb_search (R : SB P w s.heap a L es ep t) {x : Addr} {k : List Int} (hx : IsT P w s.heap k x) (hu : A.units < cLine) {K : Nat} (hKf : K < 10 * SetTable.turns t.mask)
    (hK : way t.mask (thash P w k) K ∉ t.place.toList) (hKb : ∀ c, c < K → way t.mask (thash P w k) c ∈ t.place.toList) {Q : SetFound → Shared → Prop}
    (hin : k ∈ L.map (·.2) → Q (.there none) s) (hout : k ∉ L.map (·.2) → Q (.free (way t.mask (thash P w k) K) false) s) :
    ∀ (f c : Nat) (stand : Option SetTable.Probe), stand.getD (t.probeStart (thash P w k)) = nth t.mask (startP t.mask (thash P w k)) c → c ≤ K → K - c < f →
      (∀ (i : Nat) p, L[i]? = some p → p.2 = k → ∃ c', c ≤ c' ∧ c' < K ∧ t.place.toList[i]? = some (way t.mask (thash P w k) c')) →
      wpAny (model P w) A (setSearchFrom a (.ref x) (thash P w k) true f stand) Q E s
  | 0, c, stand, _, _, hf, _ => absurd hf (Nat.not_lt_zero _)
  | f + 1, c, stand, hst, hc, hf, hre => by
    obtain ⟨o, ho, hex, hd⟩ := R.ob
    have e1 : ∀ q, (nth t.mask (nth t.mask (startP t.mask (thash P w k)) c) q).j = way t.mask (thash P w k) (c + q) := fun q => by rw [← nth_add]
    have hashAt : ∀ (i : Nat) p, L[i]? = some p → (fun i => (es[i]?.map (·.1)).getD 0) i = thash P w p.2 := fun i p hp => by
      show (es[i]?.map (·.1)).getD 0 = _
      rw [R.entry hp]; rfl
    -- what has been passed has another hash
    have past : ∀ {q : Nat}, (∀ k' i' : Nat, k' < q → t.place.toList[i']? = some (nth t.mask (nth t.mask (startP t.mask (thash P w k)) c) k').j → (fun i : Nat => (es[i]?.map (·.1)).getD 0) i' ≠ thash P w k) → ∀ (i0 : Nat) (p0 : Addr × List Int) (c' : Nat), L[i0]? = some p0 → p0.2 = k → c ≤ c' → t.place.toList[i0]? = some (way t.mask (thash P w k) c') → c + q ≤ c' := fun {q} hno i0 p0 c' h0 hk0 hle hpl => by
      refine Nat.le_of_not_lt fun hlt => hno (c' - c) i0 (by omega) (by rw [e1, show c + (c' - c) = c' by omega]; exact hpl) ?_
      rw [hashAt i0 p0 h0, hk0]
    rw [setSearchFrom_succ]
    refine wpAny_bind (wpAny_setState_of ho hd R.fits ?_)
    dsimp only
    refine wp_if_neg R.gw ?_
    try refine wpAny_bind (wpAny_pure ?_)
    rcases go_spec t R.tab.ris R.tab.dm (fun i => (es[i]?.map (·.1)).getD 0) (thash P w k) (10 * SetTable.turns t.mask) (K - c) _ (nth_dummy c _ rfl) (by omega)
      (fun q hq => by rw [e1]; exact hKb (c + q) (by omega)) (by rw [e1, show c + (K - c) = K by omega]; exact hK) with ⟨q, i, hq, hi, hh, hno, hpr⟩ | ⟨hno, hpr⟩
    · have hpr' : t.probe (fun i => (es[i]?.map (·.1)).getD 0) (thash P w k) (stand.getD (t.probeStart (thash P w k))) = some (.candidate (way t.mask (thash P w k) (c + q)) i (nth t.mask (startP t.mask (thash P w k)) (c + (q + 1)))) := by
        rw [hst, ← e1, nth_add t.mask c]
        exact hpr
      rw [hpr']
      dsimp only
      rw [e1] at hi
      have hil : i < L.length := by
        have h1 : i < t.place.toList.length := (List.getElem?_eq_some_iff.mp hi).1
        rw [Array.length_toList, R.psz] at h1
        exact h1
      obtain ⟨p, hp⟩ : ∃ p, L[i]? = some p := ⟨_, List.getElem?_eq_getElem hil⟩
      have hmem := List.mem_of_getElem? hp
      have rest : wpAny (model P w) A (searchRest a (.ref x) (thash P w k) true f es t (way t.mask (thash P w k) (c + q)) i (nth t.mask (startP t.mask (thash P w k)) (c + (q + 1)))) Q E s := by
        unfold searchRest
        rw [R.entry hp]
        dsimp only
        refine wpAny_bind (wpAny_holding (wpAny_eqBool_tuple hu (R.tup p hmem) hx ?_))
        refine wpAny_bind (wpAny_setState_of ho hd R.fits ?_)
        dsimp only
        by_cases hkk : p.2 = k
        · refine wp_if_pos (by simp [hkk]) (wpAny_pure (hin ?_))
          exact List.mem_map.mpr ⟨p, hmem, hkk⟩
        · refine wp_if_neg (by simp [hkk]) ?_
          try refine wpAny_bind (wpAny_pure ?_)
          rw [sameMem]
          dsimp only
          have hsl : t.slot (way t.mask (thash P w k) (c + q)) = .live i := slot_live R.tab.ris hi
          simp only [if_true, hsl, R.entry hp]
          refine wpAny_bind (wpAny_isSame_ref_self (wpAny_bind (wpAny_pure ?_)))
          simp only [if_true]
          refine wp_if_neg (by simp [hkk]) ?_
          refine sb_search R hx hu hKf hK hKb hin hout f (c + (q + 1)) _ rfl (by omega) (by omega) fun i0 p0 h0 hk0 => ?_
          obtain ⟨c', a1, a2, a3⟩ := hre i0 p0 h0 hk0
          have := past hno i0 p0 c' h0 hk0 a1 a3
          refine ⟨c', Nat.le_of_not_lt fun hlt => ?_, a2, a3⟩
          have ec : c' = c + q := by omega
          rw [ec] at a3
          have s0 := slot_live R.tab.ris a3
          rw [hsl] at s0
          injection s0 with s0
          rw [← s0, hp] at h0
          exact hkk (by rw [Option.some.inj h0]; exact hk0)
      by_cases hl : t.led = true
      · refine wp_if_neg (by simp [hl]) ?_
        try refine wpAny_bind (wpAny_pure ?_)
        exact rest
      · refine wp_if_pos (by simp [hl]) ?_
        refine wpAny_bind (seen_tup hx (fun y hy => ?_) ?_)
        · obtain ⟨e, he, ee⟩ := List.mem_map.mp hy
          have he1 : e ∈ es ∧ e.1 = thash P w k := by simpa using he
          have he2 : e ∈ es.toList := by simpa using he1.1
          rw [R.rows] at he2
          obtain ⟨p2, hp2, e2⟩ := List.mem_map.mp he2
          exact ⟨p2.2, p2.1, by rw [← ee, ← e2], R.tup p2 hp2⟩
        · refine wp_if_neg (by decide) ?_
          try refine wpAny_bind (wpAny_pure ?_)
          exact rest
    · have hpr' : t.probe (fun i => (es[i]?.map (·.1)).getD 0) (thash P w k) (stand.getD (t.probeStart (thash P w k))) = some (.empty (way t.mask (thash P w k) K) none) := by
        rw [hst, show way t.mask (thash P w k) K = way t.mask (thash P w k) (c + (K - c)) by rw [show c + (K - c) = K by omega], ← e1]
        exact hpr
      rw [hpr']
      dsimp only
      refine wpAny_pure (hout fun hm => ?_)
      obtain ⟨p0, h0, hk0⟩ := List.mem_map.mp hm
      obtain ⟨i0, e0⟩ := List.getElem?_of_mem h0
      obtain ⟨c', a1, a2, a3⟩ := hre i0 p0 e0 hk0
      have := past hno i0 p0 c' e0 hk0 a1 a3
      omega
theorem sb_find (R : SB P w s.heap a L es ep t) {x : Addr} {k : List Int} (hx : IsT P w s.heap k x) (hu : A.units < cLine) {Q : SetFound → Shared → Prop}
    (hin : k ∈ L.map (·.2) → Q (.there none) s)
    (hout : ∀ K, k ∉ L.map (·.2) → way t.mask (thash P w k) K ∉ t.place.toList → (∀ c, c < K → way t.mask (thash P w k) c ∈ t.place.toList) → Q (.free (way t.mask (thash P w k) K) false) s) :
    wpAny (model P w) A (setSearch a (.ref x) (thash P w k) true) Q E s := by
  have hroom := R.room
  have hbig := R.big
  obtain ⟨K, hKf, hK, hKb⟩ := R.tab.first (by rw [List.length_map]; omega) (thash P w k)
  have hK2 : K < 100000 := by unfold SetTable.turns at hKf; omega
  unfold setSearch
  refine sb_search R hx hu hKf hK hKb hin (fun hn => hout K hn hK hKb) 100000 0 none rfl (Nat.zero_le _) (by omega) fun i p hp hk => ?_
  have hi : (L.map fun p => thash P w p.2)[i]? = some (thash P w k) := by rw [List.getElem?_map, hp, ← hk]; rfl
  have hil : i < t.place.toList.length := by
    rw [Array.length_toList, R.psz]; exact (List.getElem?_eq_some_iff.mp hp).1
  have hj := List.getElem?_eq_getElem hil
  obtain ⟨c, hc, e⟩ := R.tab.before hK hi hj
  exact ⟨c, Nat.zero_le _, hc, by rw [hj, e]⟩
theorem SB.keep {h h' : Heap} (R : SB P w h a L es ep t) (ha : ∀ o, h.get? a = some o → h'.get? a = some o) (ht : ∀ p ∈ L, IsT P w h' p.2 p.1) : SB P w h' a L es ep t := by
  obtain ⟨o, ho, r⟩ := R.ob
  exact ⟨⟨o, ha o ho, r⟩, R.rows, R.tab, R.nd, ht, R.plain, R.led, R.room, R.big⟩
theorem sb_relay {o : Obj} (ho : s.heap.get? a = some o) (hex : o.ExactSet) (hd : o.data = .set es ep t) (hrows : es.toList = rowsOf P w L) (hsz : t.place.size = es.size) (hdm : t.dummies = #[]) (hfl : es.size ≤ t.mask)
    (nd : (L.map (·.2)).Nodup) (tup : ∀ p ∈ L, IsT P w s.heap p.2 p.1) (pl : t.plain = true) (ld : w.params.followText "set-order" = true ∨ t.led = true) (h1 : 1 ≤ L.length) (few : L.length ≤ 1000) {Q : Unit → Shared → Prop}
    (hQ : ∀ h' L' es' ep' t', Heap.SameBut a s.heap h' → SB P w h' a L' es' ep' t' → L'.Perm L → Q () { s with heap := h' }) : wpAny (model P w) A (setRelay a (SetTable.grown L.length)) Q E s := by
  have hsl := rows_len hrows
  have hg : SetTable.grown L.length = L.length * 4 := by unfold SetTable.grown; rw [if_neg (by omega)]
  obtain ⟨M, hw, hM, hlow, hup⟩ := size_above (n := L.length * 4) (by omega)
  have hfits : t.fits es.size = true := by
    unfold SetTable.fits SetTable.fill
    rw [hdm, Bool.and_eq_true, beq_iff_eq, decide_eq_true_eq]
    show t.place.size = es.size ∧ t.place.size + 0 ≤ t.mask
    omega
  obtain ⟨t', order, e, hp, T, em, el, ep'⟩ := relaid_tb t (hs := es.map (·.1)) (wanted := L.length * 4) (M := M) (by omega) hM (by rw [Array.size_map, hsl]; omega)
  rw [Array.size_map, hsl] at hp
  obtain ⟨L2, r1, r2, r3⟩ := order_rows L es order hrows hp
  rw [← r3] at T
  have hs2 : (order.filterMap (es[·]?)).size = es.size := by rw [rows_len r1, r2.length_eq, hsl]
  rw [hg, setRelay_eq]
  refine wpAny_bind (wpAny_setState_of ho hd hfits ?_)
  dsimp only
  refine wp_if_neg (by rw [sizeLine_eq]; omega) ?_
  try refine wpAny_bind (wpAny_pure ?_)
  rw [e]
  dsimp only
  refine wpAny_bind ?_
  refine wp_if_neg (by rw [hs2]; simp) ?_
  try refine wpAny_bind (wpAny_pure ?_)
  refine wpAny_pure ?_
  dsimp only
  refine wpAny_storeSet_of ho hd ?_ (by rw [hs2, hsl, sizeLine_eq]; omega)
  have sb : Heap.SameBut a s.heap (s.heap.update a (Obj.putSet (order.filterMap (es[·]?)) t')) := Heap.SameBut.update ..
  refine hQ _ L2 (order.filterMap (es[·]?)) (ep + 1) t' sb ⟨⟨_, store_at ho hd, ⟨hex.1, hex.2.1, hex.2.2⟩, rfl⟩, r1, T, (r2.map (·.2)).nodup_iff.mpr nd, fun p hpm => isT_same (tup p (r2.mem_iff.mp hpm)) ho hd sb, by rw [ep']; exact pl, by rw [el]; exact ld, ?_, ?_⟩ r2
  · rw [r2.length_eq, em]; omega
  · rw [em]; omega
theorem sb_add (R : SB P w s.heap a L es ep t) {x : Addr} {k : List Int} (hx : IsT P w s.heap k x) (hu : A.units < cLine) (hfew : k ∉ L.map (·.2) → L.length < 1000) {Q : Bool → Shared → Prop}
    (hQ : ∀ b h' L' es' ep' t', Heap.SameBut a s.heap h' → SB P w h' a L' es' ep' t' → (k ∈ L.map (·.2) → L' = L) → (k ∉ L.map (·.2) → L'.Perm ((x, k) :: L)) → Q b { s with heap := h' }) :
    wpAny (model P w) A (setAddHashed a (.ref x) (thash P w k)) Q E s := by
  obtain ⟨o, ho, hex, hd⟩ := R.ob
  have hroom := R.room
  unfold setAddHashed
  refine wpAny_holding ?_
  rw [show (100000 : Nat) = 99999 + 1 from rfl, setAddHashedIn_succ]
  refine wpAny_bind (wpAny_setState_of ho hd R.fits ?_)
  dsimp only
  refine wp_if_neg (by simp [byScan, Value.scannable]) ?_
  try refine wpAny_bind (wpAny_pure ?_)
  refine wpAny_bind (sb_find R hx hu (fun hm => ?_) fun K hm hK hb => ?_)
  · dsimp only
    exact wpAny_pure (hQ false s.heap L es ep t (Heap.SameBut.refl a s.heap) R (fun _ => rfl) fun z => absurd hm z)
  · dsimp only
    have hfew := hfew hm
    refine wpAny_bind (wpAny_setState_of ho hd R.fits ?_)
    dsimp only
    obtain ⟨q2, q3, q9⟩ := R.tab.put hK hb
    have q1 : (t.put (way t.mask (thash P w k) K)).2 = SetTable.below t.place (way t.mask (thash P w k) K) := rfl
    have q4 : (t.put (way t.mask (thash P w k) K)).1.mask = t.mask := rfl
    have q5 : (t.put (way t.mask (thash P w k) K)).1.led = t.led := rfl
    have hp1 : (t.put (way t.mask (thash P w k) K)).1.plain = true := R.plain
    generalize t.put (way t.mask (thash P w k) K) = pt at q1 q3 q4 q5 q9 hp1 ⊢
    obtain ⟨t1, p⟩ := pt
    dsimp only at q1 q3 q4 q5 q9 hp1 ⊢
    subst q1
    first
      | (refine wpAny_bind ?_; refine wp_if_pos hp1 ?_; refine hashBy_tup hx ?_)
      | refine wp_if_pos hp1 (wpAny_bind (hashBy_tup hx ?_))
    simp only [if_true]
    generalize SetTable.below t.place (way t.mask (thash P w k) K) = p at q2 q3 ⊢
    have hin : (SetTable.insertAt es p (thash P w k, Value.ref x)).toList = rowsOf P w (L.take p ++ (x, k) :: L.drop p) := by rw [SetTable.toList_insertAt, rows_put, R.rows]
    have pm := put_perm L p (x, k)
    have hlen : (L.take p ++ (x, k) :: L.drop p).length = L.length + 1 := pm.length_eq
    have hhs : (L.take p ++ (x, k) :: L.drop p).map (fun p => thash P w p.2) = (L.map fun p => thash P w p.2).take p ++ thash P w k :: (L.map fun p => thash P w p.2).drop p := by
      rw [List.map_append, List.map_cons, List.map_take, List.map_drop]
    rw [← hhs] at q3
    have nd1 : ((L.take p ++ (x, k) :: L.drop p).map (·.2)).Nodup := (pm.map (·.2)).nodup_iff.mpr (by rw [List.map_cons]; exact List.nodup_cons.mpr ⟨hm, R.nd⟩)
    have hes := rows_len hin
    rw [hlen] at hes
    generalize SetTable.insertAt es p (thash P w k, Value.ref x) = es1 at hin hes ⊢
    generalize L.take p ++ (x, k) :: L.drop p = L1 at pm hlen q3 nd1 hin
    refine wpAny_bind (wpAny_storeSet_of ho hd ?_ (by rw [hes, sizeLine_eq]; omega))
    have sb : Heap.SameBut a s.heap (s.heap.update a (Obj.putSet es1 t1)) := Heap.SameBut.update ..
    have ho1 := store_at (es' := es1) (t' := t1) ho hd
    generalize s.heap.update a (Obj.putSet es1 t1) = h1 at sb ho1 ⊢
    have tup1 : ∀ p ∈ L1, IsT P w h1 p.2 p.1 := fun p hp => by
      rcases List.mem_cons.mp (pm.mem_iff.mp hp) with e | hp
      · rw [e]; exact isT_same hx ho hd sb
      · exact isT_same (R.tup p hp) ho hd sb
    have ld1 : w.params.followText "set-order" = true ∨ t1.led = true := by rw [q5]; exact R.led
    rw [List.length_map] at q9
    by_cases hf : t1.tooFull = true
    · first
        | (refine wpAny_bind ?_; refine wp_if_pos (by simp [hf]) ?_)
        | (refine wp_if_pos (by simp [hf]) ?_; refine wpAny_bind ?_)
      rw [R.size, ← hlen]
      have hsz1 : t1.place.size = es1.size := by
        have h := q3.sz
        rw [List.length_map, hlen] at h
        rw [h, hes]
      refine sb_relay (s := { s with heap := h1 }) ho1 ⟨hex.1, hex.2.1, hex.2.2⟩ rfl hin hsz1 q3.dm (by rw [hes, q4]; omega) nd1 tup1 hp1 ld1 (by omega) (by omega) ?_
      intro h2 L2 es2 ep2 t2 sb2 R2 pm2
      exact wpAny_pure (hQ true h2 L2 es2 ep2 t2 (sb.trans sb2) R2 (fun z => absurd z hm) fun _ => pm2.trans pm)
    · first
        | refine wp_if_neg (by simp [hf]) ?_
        | (refine wpAny_bind ?_; refine wp_if_neg (by simp [hf]) ?_; refine wpAny_pure ?_)
      refine wpAny_pure (hQ true h1 L1 es1 (ep + 1) t1 sb ⟨⟨_, ho1, ⟨hex.1, hex.2.1, hex.2.2⟩, rfl⟩, hin, q3, nd1, tup1, hp1, ld1, ?_, by rw [q4]; exact R.big⟩ (fun z => absurd z hm) fun _ => pm)
      have h := hf
      unfold SetTable.tooFull at h
      rw [decide_eq_true_eq, q9] at h
      rw [hlen]; omega
end
end AR

set_option Elab.async false
set_option linter.all false
set_option maxRecDepth 100000
namespace AR
open PySem PySem.Spec PyProof.Rows L2

/-! ### set(list of tuples of ints), as many as you like -/
section
variable {P : Program} {w : World} {A : Around} {E : Value → Shared → Prop} {s : Shared}
theorem sb_fresh {h : Heap} {a : Addr} (ho : h.get? a = some (setO0 w)) : SB P w h a [] #[] 0 (.fresh 0 0 (!w.params.followText "set-order")) where
  ob := ⟨_, ho, ⟨rfl, rfl, rfl⟩, rfl⟩
  rows := rfl
  tab := ⟨List.Pairwise.nil, rfl, rfl, ⟨3, Nat.le_refl _, rfl⟩, fun x hx => (by cases hx), fun i h j hi => (by simp at hi)⟩
  nd := List.nodup_nil
  tup := fun p hp => (by cases hp)
  plain := rfl
  led := by
    show _ ∨ (!w.params.followText "set-order") = true
    cases w.params.followText "set-order"
    · exact .inr rfl
    · exact .inl rfl
  room := by show 0 * 5 < 7 * 3; decide
  big := by show 7 ≤ 8191; decide
/-- what was met: L holds each key of the first i items once -/
structure Met (ks : List (Addr × List Int)) (i : Nat) (L : List (Addr × List Int)) : Prop where
  sub : ∀ p ∈ L, p ∈ ks
  all : ∀ p ∈ ks.take i, p.2 ∈ L.map (·.2)
theorem sb_loop {I : Addr} {fp wr : List Addr} {G : Array GenState → Array GenState → Prop} {n : Nat} {Pv : Nat → Value → Prop} {St : Nat → Shared → Prop} {R : Result → Shared → Prop}
    (W : WalksS P w A.in1 I fp wr G n Pv St) (S : Addr) (hSf : S ∉ fp) (ks : List (Addr × List Int)) (hn : n = ks.length) (hval : ∀ i v, Pv i v → ∃ p, ks[i]? = some p ∧ v = .ref p.1)
    (hfew : ∀ l : List (List Int), l.Nodup → (∀ x ∈ l, x ∈ ks.map (·.2)) → l.length ≤ 1000)
    (h0 : Heap) (hk : ∀ p ∈ ks, IsT P w h0 p.2 p.1) (hS0 : h0.get? S = none) (hw0 : ∀ b ∈ wr, h0.get? b = none) (hu : A.in1.units < cLine) :
    ∀ (k i : Nat) (s : Shared), n - i = k → i ≤ n → St i s → (∀ b o, h0.get? b = some o → s.heap.get? b = some o) → (∃ L es ep t, SB P w s.heap S L es ep t ∧ Met ks i L) →
      (∀ s' L es ep t, Moved (S :: wr) G s s' → SB P w s'.heap S L es ep t → Met ks n L → (∀ b o, h0.get? b = some o → s'.heap.get? b = some o) → R (.ok (.ret .none)) s') →
      codeAny (model P w) A (.builtin "set.update.loop" ⟨[.ref S, .ref I], []⟩) R s := by
  have hSw : S ∉ wr := fun h => hSf (W.sub _ h)
  have hsub : ∀ b ∈ wr, b ∈ S :: wr := fun b hb => List.mem_cons_of_mem _ hb
  have keepM : ∀ {s s' : Shared}, Moved wr G s s' → (∀ b o, h0.get? b = some o → s.heap.get? b = some o) → ∀ b o, h0.get? b = some o → s'.heap.get? b = some o := fun hm hkp b o e =>
    hm.heap b o (fun hb => by rw [hw0 b hb] at e; cases e) (hkp b o e)
  intro k
  induction k with
  | zero =>
    intro i s hk' hi hst hkp ⟨L, es, ep, t, hS, g⟩ hR
    obtain rfl : i = n := by omega
    refine codeAny_builtin F.entry_set_update_loop ?_
    rw [Around.under_plainId F.plain_set_update_loop _]
    show wpAny _ A.in1 (pyNext (.ref I) >>= _) _ _ s
    refine wpAny_bind (W.done s _ _ hst fun s' hm => ?_)
    show wpAny _ A.in1 (ret Value.none) _ _ s'
    have hkp' := keepM hm hkp
    exact wpAny_pure (hR s' L es ep t (hm.mono hsub) (hS.keep (fun o e => hm.heap S o hSw e) fun p hp => isT_keep (hk p (g.sub p hp)) hkp') g hkp')
  | succ k ih =>
    intro i s hk' hi hst hkp ⟨L, es, ep, t, hS, g⟩ hR
    have hlt : i < n := by omega
    refine codeAny_builtin F.entry_set_update_loop ?_
    rw [Around.under_plainId F.plain_set_update_loop _]
    show wpAny _ A.in1 (pyNext (.ref I) >>= _) _ _ s
    refine wpAny_bind (W.item i s _ _ hlt hst fun v s' hP hst' hm => ?_)
    obtain ⟨p, hp, rfl⟩ := hval i v hP
    have hpk := List.mem_of_getElem? hp
    have hkp' := keepM hm hkp
    have hS' : SB P w s'.heap S L es ep t := hS.keep (fun o e => hm.heap S o hSw e) fun q hq => isT_keep (hk q (g.sub q hq)) hkp'
    have hx : IsT P w s'.heap p.2 p.1 := isT_keep (hk p hpk) hkp'
    show wpAny _ A.in1 (holding [Value.ref p.1] (setAdd S (.ref p.1)) >>= _) _ _ s'
    refine wpAny_bind (wpAny_holding ?_)
    unfold setAdd
    refine wpAny_holding ?_
    refine wpAny_bind (wpAny_pyHash_tuple hu hx ?_)
    refine sb_add (s := { s' with toks := s'.toks + (p.2.length + 1) }) hS' hx hu (fun hc => ?_) fun b h' L' es' ep' t' hsb hS2 c1 c2 => ?_
    · have := hfew (p.2 :: L.map (·.2)) (List.nodup_cons.mpr ⟨hc, hS.nd⟩) fun x hx => by
        rcases List.mem_cons.mp hx with rfl | hx
        · exact List.mem_map.mpr ⟨p, hpk, rfl⟩
        · obtain ⟨q, hq, rfl⟩ := List.mem_map.mp hx
          exact List.mem_map.mpr ⟨q, g.sub q hq, rfl⟩
      rw [List.length_cons, List.length_map] at this
      omega
    have g' : Met ks (i + 1) L' := by
      have tk : ks.take (i + 1) = ks.take i ++ [p] := by rw [List.take_add_one, hp]; rfl
      rcases Classical.em (p.2 ∈ L.map (·.2)) with c | c
      · rw [c1 c]
        refine ⟨g.sub, fun q hq => ?_⟩
        rw [tk] at hq
        rcases List.mem_append.mp hq with z | z
        · exact g.all q z
        · rw [List.mem_singleton.mp z]; exact c
      · have pm := c2 c
        refine ⟨fun q hq => ?_, fun q hq => ?_⟩
        · rcases List.mem_cons.mp (pm.mem_iff.mp hq) with rfl | z
          · exact hpk
          · exact g.sub q z
        · rw [(pm.map (·.2)).mem_iff, List.map_cons]
          rw [tk] at hq
          rcases List.mem_append.mp hq with z | z
          · exact List.mem_cons_of_mem _ (g.all q z)
          · rw [List.mem_singleton.mp z]; exact List.mem_cons_self
    have hkp2 : ∀ b o, h0.get? b = some o → h'.get? b = some o := fun b o e => (hsb.2 b (fun z => by rw [z, hS0] at e; cases e)).trans (hkp' b o e)
    refine wpAny_pure ⟨plainId_quiet F.plain_set_update_loop _, ih (i + 1) _ (by omega) hlt (W.frame _ s' _ _ hst' (Nat.le_add_right _ _) fun b hb o e => ?_) hkp2 ⟨L', es', ep', t', hS2, g'⟩ fun s'' L2 es2 ep2 t2 hm'' hS'' g'' hkp'' => ?_⟩
    · rw [hsb.2 b (fun h : b = S => hSf (by rw [← h]; exact hb))]; exact e
    · refine hR s'' L2 es2 ep2 t2 (Moved.trans W.gtrans ((hm.mono hsub).then_heap (Nat.le_add_right _ _) fun b o hb e => ?_) hm'') hS'' g'' hkp''
      rw [hsb.2 b (fun h : b = S => hb (by rw [h]; exact List.mem_cons_self))]; exact e
theorem call_set_big {l : Addr} {items : Array Value} (ks : List (Addr × List Int)) {Q : Value → Shared → Prop} (hh : A.handled = none) (hl : s.heap.IsList l items) (hit : items.toList = ks.map fun p => Value.ref p.1)
    (hfew : ∀ l : List (List Int), l.Nodup → (∀ x ∈ l, x ∈ ks.map (·.2)) → l.length ≤ 1000) (hk : ∀ p ∈ ks, IsT P w s.heap p.2 p.1) (hu : A.units + 3 < cLine)
    (h : ∀ (h' : Heap) (tk : Nat) L es ep t, SB P w h' s.heap.objs.size L es ep t → Met ks ks.length L → (∀ b o, s.heap.get? b = some o → h'.get? b = some o) → Q (.ref s.heap.objs.size) { s with heap := h', toks := tk }) :
    wpAny (model P w) A (call (.type "set") [.ref l]) Q E s := by
  have hisz : items.size = ks.length := by
    have q := congrArg List.length hit
    simpa using q
  have hlS : l < s.heap.objs.size := by obtain ⟨o, e, _⟩ := hl; exact Heap.lt_size e
  have hz1 : (s.heap.push (setO0 w)).objs.size = s.heap.objs.size + 1 := Heap.size_push ..
  have hl1 : (s.heap.push (setO0 w)).IsList l items := hl.push _
  have none_of : ∀ b, s.heap.objs.size ≤ b → s.heap.get? b = none := fun b hb => by
    cases q : s.heap.get? b with
    | none => rfl
    | some o => exact absurd (Nat.lt_of_lt_of_le (Heap.lt_size q) hb) (Nat.lt_irrefl _)
  refine call_set_l hl (fun s' => ∃ h' tk L es ep t, s' = { s with heap := h', toks := tk } ∧ SB P w h' s.heap.objs.size L es ep t ∧ Met ks ks.length L ∧ ∀ b o, s.heap.get? b = some o → h'.get? b = some o) (fun R hR => ?_) (fun s' hs' => ?_) fun s' hs' => ?_
  · have hh3 : A.in1.in1.in1.handled = none := by simp [hh]
    have hneI : l ≠ (s.heap.push (setO0 w)).objs.size := by rw [hz1]; exact Nat.ne_of_lt (Nat.lt_succ_of_lt hlS)
    have hSf : s.heap.objs.size ∉ [(s.heap.push (setO0 w)).objs.size, l] := by
      rw [hz1]; simp only [List.mem_cons, List.not_mem_nil, or_false, not_or]
      exact ⟨Nat.ne_of_lt (Nat.lt_succ_self _), Nat.ne_of_gt hlS⟩
    have hval : ∀ (i : Nat) (v : Value), items[i]? = some v → ∃ p, ks[i]? = some p ∧ v = .ref p.1 := fun i v hv => by
      have q : items.toList[i]? = some v := by rw [Array.getElem?_toList]; exact hv
      rw [hit, List.getElem?_map] at q
      obtain ⟨p, h1, h2⟩ := Option.map_eq_some_iff.mp q
      exact ⟨p, h1, h2.symm⟩
    have hS : (setH1 w s l).get? s.heap.objs.size = some (setO0 w) := Heap.get?_push_of_some _ (Heap.get?_push_size _ rfl)
    refine sb_loop ((Walks.list hh3 _ l hneI items).toS) s.heap.objs.size hSf ks hisz hval hfew s.heap hk (none_of _ (Nat.le_refl _)) (fun b hb => none_of b (by rw [List.mem_singleton.mp hb, hz1]; exact Nat.le_succ _)) hu (items.size - 0) 0 _ (by omega) (Nat.zero_le _) ⟨⟨_, Heap.get?_push_size _ rfl, rfl, rfl⟩, hl1.push _⟩
      (fun b o e => Heap.get?_push_of_some _ (Heap.get?_push_of_some _ e)) ⟨[], #[], 0, _, sb_fresh hS, ⟨fun p h => (by cases h), fun p h => (by simp at h)⟩⟩ fun s' L es ep t hm hS' g hkp => hR _ ?_
    obtain ⟨h', g2, d', tk', os'⟩ := s'
    have eg : g2 = s.gens := hm.gens
    have ed : d' = s.drawn := hm.drawn
    have eo : os' = s.os := hm.os
    subst eg; subst ed; subst eo
    rw [hisz] at g
    exact ⟨h', tk', L, es, ep, t, rfl, hS', g, hkp⟩
  · obtain ⟨h', tk, L, es, ep, t, rfl, hS, g, hkp⟩ := hs'
    exact h _ _ _ _ _ _ hS g hkp
  · obtain ⟨h', tk, L, es, ep, t, rfl, hS, g, hkp⟩ := hs'
    obtain ⟨o, e, ex, _⟩ := hS.ob
    exact ⟨o, e, ex.1⟩
/-! ### sorted -/
theorem sorted_big {a : Addr} {L : List (Addr × List Int)} {es : Array (Int × Value)} {ep : Nat} {t : SetTable} {Q : Value → Shared → Prop} (R : SB P w s.heap a L es ep t) (hh : A.handled = none) (few : L.length ≤ 1000) (k : Value → Pr) (hk : ∀ q ∈ L, q.2 = [(k (.ref q.1)).1, (k (.ref q.1)).2])
    (hQ : ∀ s' p (out : List Value) (c : Nat), (∀ b o, s.heap.get? b = some o → s'.heap.get? b = some o) → s'.gens = s.gens → s'.os = s.os → s.heap.objs.size ≤ p →
      s'.heap.get? p = some (seqObj "list" out.toArray c) → out.Perm (L.map fun q => Value.ref q.1) → SrtO.Srtd (fun v u => SrtO.lexB (k v) (k u)) out → Q (.ref p) s') :
    wpAny (model P w) A (call (.builtin "sorted") [.ref a]) Q E s := by
  obtain ⟨o, ho, hex, hd⟩ := R.ob
  have hsz := R.size
  refine Calls.call_function_entry kind_sorted plain_sorted entry_sorted (args_sorted1 _) ?_
  unfold Builtin.«sorted»
  refine wpAny_bind (m := checkCount "sorted" 1 1 _) (wpAny_pure ?_)
  refine wpAny_bind (collect_set (A := A.in1) hh ⟨o, ho, hex.1, hd⟩ R.fits (by unfold scanBound; omega) R.tab.ris R.led fun s1 vs k1 hz g1 o1 pm => ?_)
  have hes : es.toList.map (·.2) = L.map fun q => Value.ref q.1 := by
    rw [R.rows]; unfold rowsOf
    rw [List.map_map]; rfl
  rw [hes] at pm
  have hvl : vs.length ≤ 1000 := by rw [pm.length_eq, List.length_map]; exact few
  refine wpAny_bind (wpAny_newList ?_ (by rw [sizeLine_eq]; omega))
  have hoL : (s1.heap.push (seqObj "list" vs.toArray 0)).get? s1.heap.objs.size = some (seqObj "list" vs.toArray 0) := Heap.get?_push_size _ rfl
  have hpr : ∀ v ∈ vs, Srt.IsPair (s1.heap.push (seqObj "list" vs.toArray 0)) v (k v).1 (k v).2 := fun v hv => by
    obtain ⟨q, hq, rfl⟩ := List.mem_map.mp (pm.mem_iff.mp hv)
    obtain ⟨o', its, n', ho', hc', hd', hi'⟩ := R.tup q hq
    rw [hk q hq] at hi'
    have hi2 := ints_of_items hi'
    obtain ⟨t1, t2, e⟩ : ∃ t1 t2, its.toList = [.int (k (.ref q.1)).1 t1, .int (k (.ref q.1)).2 t2] := by
      generalize its.toList = l at hi2
      cases hi2 with
      | cons _ t1 h2 => cases h2 with
        | cons _ t2 h3 => cases h3; exact ⟨t1, t2, rfl⟩
    have e2 : its = #[.int (k (.ref q.1)).1 t1, .int (k (.ref q.1)).2 t2] := by rw [← Array.toList_inj, e]
    exact ⟨q.1, o', t1, t2, n', rfl, Heap.get?_push_of_some _ (k1 _ _ ho'), hc', by rw [hd', e2]⟩
  refine wpAny_bind (wpAny_holding (wpAny_call_entry slot_list_sort ⟨_, hoL, rfl⟩ entry_list_sort (SrtO.list_sort_ord (SrtO.swo_lex k) hoL (by rw [sizeLine_eq]; omega) (fun h2 => SrtO.pairs_sortableO (s := { s1 with heap := s1.heap.push (seqObj "list" vs.toArray 0) }) (by omega) hpr fun o e => ?_) fun out hs hb => ⟨_, rfl, ?_⟩) (args_list_sort _)))
  · have e' : some o = some (seqObj "list" vs.toArray 0) := e.symm.trans hoL
    cases e'
    intro c
    exact absurd (Value.type.inj c) (by decide)
  · obtain ⟨c, hc⟩ := sortedHeap_at (vs := vs) (out := out.toArray) hoL
    refine wpAny_pure ⟨_, rfl, hQ _ s1.heap.objs.size out c (fun b u e => ?_) g1 o1 hz hc (hb.perm.trans pm) hs⟩
    have q := k1 b u e
    have hlt := Heap.lt_size q
    show (sortedHeap (s1.heap.push (seqObj "list" vs.toArray 0)) s1.heap.objs.size vs out.toArray).get? b = some u
    rw [sortedHeap_old (Nat.ne_of_lt hlt) (by rw [size_push']; exact Nat.lt_succ_of_lt hlt)]
    exact Heap.get?_push_of_some _ q
end

/-! ### as rules -/
def SB0 (P : Program) (w : World) (h : Heap) (a : Addr) (L : List (Addr × List Int)) : Prop :=
  ∃ (es : Array (Int × Value)) (ep : Nat) (t : SetTable), (∃ o, h.get? a = some o ∧ o.ExactSet ∧ o.data = .set es ep t) ∧ es.toList = rowsOf P w L ∧ Tb t (L.map fun p => thash P w p.2) ∧ (L.map (·.2)).Nodup ∧ t.plain = true ∧
    (w.params.followText "set-order" = true ∨ t.led = true) ∧ L.length * 5 < t.mask * 3 ∧ t.mask ≤ 8191
def SetBO (P : Program) (w : World) (a : Addr) (L : List (Addr × List Int)) : HO := .ext fun h => SB0 P w h a L
theorem SB.zero {P : Program} {w : World} {h : Heap} {a : Addr} {L : List (Addr × List Int)} {es : Array (Int × Value)} {ep : Nat} {t : SetTable} (R : SB P w h a L es ep t) : SB0 P w h a L :=
  ⟨es, ep, t, R.ob, R.rows, R.tab, R.nd, R.plain, R.led, R.room, R.big⟩
theorem SB0.full {P : Program} {w : World} {h : Heap} {a : Addr} {L : List (Addr × List Int)} (R : SB0 P w h a L) (ht : ∀ p ∈ L, IsT P w h p.2 p.1) : ∃ es ep t, SB P w h a L es ep t := by
  obtain ⟨es, ep, t, h1, h2, h3, h4, h5, h6, h7, h8⟩ := R
  exact ⟨es, ep, t, h1, h2, h3, h4, ht, h5, h6, h7, h8⟩
theorem setBO_new {P : Program} {w : World} {H : Hp} {h : Heap} {a : Addr} {L : List (Addr × List Int)} (R : SB0 P w h a L) : ObjOk P w H h a (SetBO P w a L) := by
  have ⟨es, ep, t, ⟨o, ho, r⟩, q⟩ := R
  refine ⟨R, ⟨o, ho⟩, fun h1 h2 p k => ?_⟩
  have ⟨es', ep', t', ⟨o', ho', r'⟩, q'⟩ := (p : SB0 P w h1 a L)
  exact ⟨es', ep', t', ⟨o', k o' ho', r'⟩, q'⟩
def toK (k : V → Pr) (v : V) : Addr × List Int := match v with
  | .ref a => (a, [(k v).1, (k v).2])
  | _ => (0, [])
def PairsAt (K : PySem.W.Frag) (H : Hp) (k : V → Pr) (xs : List V) : Prop := ∀ x ∈ xs, ∃ t, x = V.ref t ∧ SqT K H t [.int (k x).1, .int (k x).2]
def rSetP (K : PySem.W.Frag) (P : Program) (w : World) : List V → Hp → VK → Prop := fun vs H Q => ∃ (l : Addr) (xs : List V) (k : V → Pr), vs = [V.ref l] ∧ SqL K H l xs ∧ PairsAt K H k xs ∧ (∀ l : List Pr, l.Nodup → (∀ z ∈ l, z ∈ xs.map k) → l.length ≤ 1000) ∧
  ∀ (p : Addr) (ys : List V), H p = none → (∀ y ∈ ys, y ∈ xs) → (ys.map k).Nodup → (∀ x ∈ xs, k x ∈ ys.map k) → Q (.ref p) (upd H p (SetBO P w p (ys.map (toK k))))
def rSortB (K : PySem.W.Frag) (P : Program) (w : World) : List V → Hp → VK → Prop := fun vs H Q => ∃ (a : Addr) (ys : List V) (k : V → Pr), vs = [V.ref a] ∧ H a = some (SetBO P w a (ys.map (toK k))) ∧ PairsAt K H k ys ∧ ys.length ≤ 1000 ∧
  ∀ (zs : List V) (p : Addr), zs.Perm ys → (zs.map k).Pairwise LeP → H p = none → Q (.ref p) (upd H p (.lst zs))
theorem nodup_map {α β : Type} {f : α → β} : ∀ {l : List α}, l.Nodup → (∀ x ∈ l, ∀ y ∈ l, f x = f y → x = y) → (l.map f).Nodup
  | [], _, _ => List.nodup_nil
  | x :: l, h, hi => by
    obtain ⟨h1, h2⟩ := List.nodup_cons.mp h
    refine List.nodup_cons.mpr ⟨fun hm => ?_, nodup_map h2 fun a ha b hb => hi a (by simp [ha]) b (by simp [hb])⟩
    obtain ⟨y, hy, e⟩ := List.mem_map.mp hm
    exact h1 (hi y (by simp [hy]) x (by simp) e ▸ hy)
theorem keys_of {k : V → Pr} {xs : List V} (h : ∀ x ∈ xs, ∃ t, x = V.ref t) : (xs.map (toK k)).map (·.2) = (xs.map k).map fun p => [p.1, p.2] := by
  rw [List.map_map, List.map_map]
  refine List.map_congr_left fun x hx => ?_
  obtain ⟨t, rfl⟩ := h x hx
  rfl
theorem cr_setP {X : Cx} (hc : X.calm = true) (hu : X.A.units + 65 < cLine) : CallR X (.type "set") (rSetP X.K X.prog X.w) := by
  intro pins s σ H vs us Q I r h
  obtain ⟨l, xs, k, rfl, hl, hp, hfew, q⟩ := h
  rw [Vals.ref1 r]
  obtain ⟨its, rv, pl, hz⟩ := I.list hl
  have hn : H s.heap.objs.size = none := I.hok.fresh (Nat.le_refl _)
  have hr : ∀ x ∈ xs, ∃ t, x = V.ref t := fun x hx => by obtain ⟨t, e, _⟩ := hp x hx; exact ⟨t, e⟩
  have hxs : xs = (xs.map (toK k)).map fun p => V.ref p.1 := by
    rw [List.map_map]
    conv => lhs; rw [← List.map_id xs]
    refine List.map_congr_left fun x hx => ?_
    obtain ⟨t, rfl⟩ := hr x hx
    rfl
  have hit : its.toArray.toList = (xs.map (toK k)).map fun p => Value.ref p.1 := by
    rw [hxs] at rv
    simpa using refs_of_vals rv
  have hkeys := keys_of (k := k) hr
  refine call_set_big (P := X.prog) (w := X.w) (xs.map (toK k)) (I.ok.hd hc) pl.isList hit (fun l hnd hs => ?_) (fun p hp' => ?_) (by omega) fun h' tk L es ep t R g kk => ?_
  · rw [hkeys] at hs
    have := hfew (l.map fun z => (z.getD 0 0, z.getD 1 0)) (nodup_map hnd fun a ha b hb e => ?_) fun z hz => ?_
    · simpa using this
    · obtain ⟨p, _, rfl⟩ := List.mem_map.mp (hs a ha)
      obtain ⟨q, _, rfl⟩ := List.mem_map.mp (hs b hb)
      injection e with e1 e2
      simp at e1 e2
      rw [e1, e2]
    · obtain ⟨a, ha, rfl⟩ := List.mem_map.mp hz
      obtain ⟨p, hp', rfl⟩ := List.mem_map.mp (hs a ha)
      simpa using hp'
  · obtain ⟨x, hx, rfl⟩ := List.mem_map.mp hp'
    obtain ⟨t, rfl, ht⟩ := hp x hx
    exact I.isT (k := [(k (.ref t)).1, (k (.ref t)).2]) ht
  · -- the met ones, as values
    have hL : L = (L.map fun p => V.ref p.1).map (toK k) := by
      rw [List.map_map]
      conv => lhs; rw [← List.map_id L]
      refine List.map_congr_left fun p hp' => ?_
      obtain ⟨x, hx, e⟩ := List.mem_map.mp (g.sub p hp')
      obtain ⟨t, rfl⟩ := hr x hx
      rw [← e]; rfl
    have hys : ∀ y ∈ L.map (fun p => V.ref p.1), y ∈ xs := fun y hy => by
      obtain ⟨p, hp', rfl⟩ := List.mem_map.mp hy
      obtain ⟨x, hx, e⟩ := List.mem_map.mp (g.sub p hp')
      obtain ⟨t, rfl⟩ := hr x hx
      rw [← e]; exact hx
    have hkL : L.map (·.2) = ((L.map fun p => V.ref p.1).map k).map fun p => [p.1, p.2] := by
      conv => lhs; rw [hL]
      exact keys_of fun y hy => hr y (hys y hy)
    have q2 := q s.heap.objs.size (L.map fun p => V.ref p.1) hn hys ?_ ?_
    · rw [← hL] at q2
      exact ⟨.ref s.heap.objs.size, _, I.laid (t' := tk) kk (Nat.le_refl _) (setBO_new R.zero), rfl, q2⟩
    · have := R.nd
      rw [hkL] at this
      exact nodup_of_map this
    · intro x hx
      have := g.all (toK k x) (by rw [List.take_length]; exact List.mem_map.mpr ⟨x, hx, rfl⟩)
      rw [hkL] at this
      obtain ⟨p, hp', e⟩ := List.mem_map.mp this
      obtain ⟨t, rfl⟩ := hr x hx
      have e' : [p.1, p.2] = [(k (.ref t)).1, (k (.ref t)).2] := e
      injection e' with e1 e2
      injection e2 with e2
      have : p = k (.ref t) := Prod.ext e1 e2
      rw [← this]; exact hp'
theorem cr_sortB {X : Cx} (hc : X.calm = true) : CallR X (.builtin "sorted") (rSortB X.K X.prog X.w) := by
  intro pins s σ H vs us Q I r h
  obtain ⟨a, ys, k, rfl, ha, hp, few, q⟩ := h
  rw [Vals.ref1 r]
  have hr : ∀ x ∈ ys, ∃ t, x = V.ref t := fun x hx => by obtain ⟨t, e, _⟩ := hp x hx; exact ⟨t, e⟩
  have R0 : SB0 X.prog X.w s.heap a (ys.map (toK k)) := (I.hok a _ ha).1
  obtain ⟨es, ep, t, R⟩ := R0.full fun p hp' => by
    obtain ⟨x, hx, rfl⟩ := List.mem_map.mp hp'
    obtain ⟨t, rfl, ht⟩ := hp x hx
    exact I.isT (k := [(k (.ref t)).1, (k (.ref t)).2]) ht
  refine sorted_big R (I.ok.hd hc) (by rw [List.length_map]; exact few) (fun u => k (backV u)) (fun p hp' => ?_) fun s' p out c kk g o hps hg pm hs => ?_
  · obtain ⟨x, hx, rfl⟩ := List.mem_map.mp hp'
    obtain ⟨t, rfl⟩ := hr x hx
    rfl
  · have hrefs : ∀ u ∈ out, ∃ a, u = Value.ref a := fun u hu => by
      obtain ⟨z, _, e⟩ := List.mem_map.mp (pm.mem_iff.mp hu)
      exact ⟨_, e.symm⟩
    have pmv : (out.map backV).Perm ys := by
      have := pm.map backV
      rw [List.map_map, List.map_map] at this
      rw [show ys.map ((backV ∘ fun q : Addr × List Int => Value.ref q.1) ∘ toK k) = ys from ?_] at this
      · exact this
      · conv => rhs; rw [← List.map_id ys]
        refine List.map_congr_left fun x hx => ?_
        obtain ⟨t, rfl⟩ := hr x hx
        rfl
    have hlen : (out.map backV).length ≤ sizeLine := by rw [pmv.length_eq, sizeLine_eq]; omega
    have hn : H p = none := I.hok.fresh hps
    have J : Inv X pins σ (upd H p (.lst (out.map backV))) { s with heap := s'.heap, gens := s'.gens, drawn := s'.drawn, toks := s'.toks } :=
      I.call (ch := []) (Un.laid kk hps hn) (I.hok.laid kk hps ⟨hlen, out, c, vals_back hrefs, hg⟩) (by rw [g]; exact I.bare) (fun _ z => nomatch z)
    have e : s' = { s with heap := s'.heap, gens := s'.gens, drawn := s'.drawn, toks := s'.toks } := by
      cases s'; cases s; cases o; rfl
    rw [e]
    refine ⟨.ref p, _, J, rfl, q _ p pmv ?_ hn⟩
    rw [List.map_map, List.pairwise_map]
    refine List.Pairwise.imp (fun {x y} hxy => ?_) hs
    have := SrtO.lexB_no.mp hxy
    show LeP (k (backV x)) (k (backV y))
    unfold LeP
    omega
/-! ### the members, rising -/
def insPU (x : Pr) : List Pr → List Pr
  | [] => [x]
  | y :: ys => if ltPB x y = true then x :: y :: ys else if x = y then y :: ys else y :: insPU x ys
def sortPU (ps : List Pr) : List Pr := ps.foldr insPU []
theorem ltPB_iff {p q : Pr} : ltPB p q = true ↔ LtP p q := by unfold ltPB LtP; exact decide_eq_true_iff
theorem mem_insPU {x k : Pr} : ∀ {l : List Pr}, k ∈ insPU x l ↔ k = x ∨ k ∈ l
  | [] => by simp [insPU]
  | y :: ys => by
    unfold insPU
    split
    · simp
    · split
      · rename_i h; subst h; simp
      · simp only [List.mem_cons, mem_insPU]
        constructor
        · rintro (h | h | h) <;> simp [h]
        · rintro (h | h | h) <;> simp [h]
theorem insPU_up {x : Pr} : ∀ {l : List Pr}, l.Pairwise LtP → (insPU x l).Pairwise LtP
  | [], _ => by simp [insPU]
  | y :: ys, h => by
    obtain ⟨h1, h2⟩ := List.pairwise_cons.mp h
    unfold insPU
    split
    · rename_i hx
      have hx := ltPB_iff.mp hx
      refine List.pairwise_cons.mpr ⟨fun z hz => ?_, h⟩
      rcases List.mem_cons.mp hz with rfl | hz
      · exact hx
      · have := h1 z hz; unfold LtP at *; omega
    · split
      · exact h
      · rename_i hx hy
        refine List.pairwise_cons.mpr ⟨fun z hz => ?_, insPU_up h2⟩
        rcases mem_insPU.mp hz with rfl | hz
        · have hx : ¬ LtP z y := fun c => hx (ltPB_iff.mpr c)
          have hy : ¬ (z.1 = y.1 ∧ z.2 = y.2) := fun c => hy (Prod.ext c.1 c.2)
          unfold LtP at *; omega
        · exact h1 z hz
theorem mem_sortPU {k : Pr} : ∀ {ns : List Pr}, k ∈ sortPU ns ↔ k ∈ ns
  | [] => by simp [sortPU]
  | n :: ns => by
    show k ∈ insPU n (sortPU ns) ↔ _
    rw [mem_insPU, mem_sortPU, List.mem_cons]
theorem sortPU_up : ∀ {ns : List Pr}, (sortPU ns).Pairwise LtP
  | [] => by simp [sortPU]
  | n :: ns => insPU_up sortPU_up
theorem upP_nodup {l : List Pr} (h : l.Pairwise LtP) : l.Nodup := h.imp fun {a b} h e => by subst e; unfold LtP at h; omega
theorem upP_unique : ∀ {l m : List Pr}, l.Pairwise LtP → m.Pairwise LtP → (∀ k, k ∈ l ↔ k ∈ m) → l = m
  | [], [], _, _, _ => rfl
  | [], y :: ys, _, _, h => by have := (h y).mpr (by simp); cases this
  | x :: xs, [], _, _, h => by have := (h x).mp (by simp); cases this
  | x :: xs, y :: ys, hx, hy, h => by
    obtain ⟨a1, a2⟩ := List.pairwise_cons.mp hx
    obtain ⟨b1, b2⟩ := List.pairwise_cons.mp hy
    have e : x = y := by
      rcases List.mem_cons.mp ((h x).mp (by simp)) with e | e
      · exact e
      · rcases List.mem_cons.mp ((h y).mpr (by simp)) with e' | e'
        · exact e'.symm
        · have := b1 x e; have := a1 y e'; unfold LtP at *; omega
    subst e
    rw [upP_unique a2 b2 fun k => ?_]
    constructor
    · intro hk
      rcases List.mem_cons.mp ((h k).mp (by simp [hk])) with rfl | e
      · have := a1 _ hk; unfold LtP at this; omega
      · exact e
    · intro hk
      rcases List.mem_cons.mp ((h k).mpr (by simp [hk])) with rfl | e
      · have := b1 _ hk; unfold LtP at this; omega
      · exact e
theorem leP_nodup {l : List Pr} (h : l.Pairwise LeP) (hn : l.Nodup) : l.Pairwise LtP := by
  refine List.Pairwise.imp (fun {a b} ⟨h1, h2⟩ => ?_) (List.Pairwise.and h hn)
  have : ¬ (a.1 = b.1 ∧ a.2 = b.2) := fun c => h2 (Prod.ext c.1 c.2)
  unfold LeP at h1; unfold LtP; omega
theorem len_subP : ∀ {l m : List Pr}, l.Nodup → (∀ x ∈ l, x ∈ m) → l.length ≤ m.length
  | [], m, _, _ => Nat.zero_le _
  | x :: l, m, h, hs => by
    obtain ⟨h1, h2⟩ := List.nodup_cons.mp h
    have hx := hs x (by simp)
    have := len_subP (l := l) (m := m.erase x) h2 fun y hy => (List.mem_erase_of_ne (fun e => h1 (by rw [← e]; exact hy))).mpr (hs y (by simp [hy]))
    rw [List.length_erase_of_mem hx] at this
    have := List.length_pos_of_mem hx
    rw [List.length_cons]; omega
def fSortSetP : List Rv → Option Rv
  | [(_, .lst ds)] => (allP ds).bind fun ps => if decide ((sortPU ps).length ≤ 1000) = true then some (some 1, .lst ((sortPU ps).map pairD)) else none
  | _ => none
def rFusP (K : PySem.W.Frag) (P : Program) (w : World) : List V → Hp → VK → Prop := fun vs H Q => rSetP K P w vs H fun v H1 => rSortB K P w [v] H1 Q
theorem p_sortSetP {K : PySem.W.Frag} {P : Program} {w : World} : PcR (rFusP K P w) fSortSetP := by
  intro q F H e σ A F1 H1 e1 A1 B vs as x Q g xa hf k
  unfold fSortSetP at hf
  split at hf
  · rename_i k1 ds
    cases hx : allP ds with
    | none => rw [hx] at hf; cases hf
    | some ps =>
      rw [hx] at hf
      simp only [Option.bind_some] at hf
      split at hf
      · rename_i c
        obtain rfl := Option.some.inj hf
        have c := of_decide_eq_true c
        have hds := allP_eq hx
        subst hds
        obtain ⟨v, rfl, y⟩ := xa.one
        obtain ⟨F2, a, ws, g2, s2, n2, rfl, h2, f2⟩ := Got.items (C := []) (by rw [List.append_nil]; exact g) y (fun a h => by cases h) (by rw [depL_pairs]; simp)
        obtain ⟨i1, i2⟩ := f2.pairs
        have hpa : PairsAt K H1 (kOf F2) ws := fun v hv => by
          obtain ⟨t, e, ht⟩ := i1 v hv
          exact ⟨t, e, .inl (.inl (g2.rel.sm _ _ ht))⟩
        have hfew : ∀ l : List Pr, l.Nodup → (∀ z ∈ l, z ∈ ws.map (kOf F2)) → l.length ≤ 1000 := fun l hn hs => by
          refine Nat.le_trans (len_subP hn fun z hz => ?_) c
          rw [mem_sortPU, ← i2]; exact hs z hz
        refine ⟨a, ws, kOf F2, rfl, .inl (.inl h2), hpa, hfew, fun p ys hp hsub hnd hall => ?_⟩
        have hlen : ys.length ≤ 1000 := by
          have := hfew (ys.map (kOf F2)) hnd fun z hz => by
            obtain ⟨y, hy, rfl⟩ := List.mem_map.mp hz
            exact List.mem_map.mpr ⟨y, hsub y hy, rfl⟩
          rwa [List.length_map] at this
        refine ⟨p, ys, kOf F2, rfl, upd_same, fun v hv => ?_, hlen, fun zs p' hpm hso hp' => ?_⟩
        · obtain ⟨t, e, ht⟩ := i1 v (hsub v hv)
          exact ⟨t, e, .inl (.inl (by rw [upd_ne (fun z => by subst z; rw [g2.rel.sm _ _ ht] at hp; cases hp)]; exact g2.rel.sm _ _ ht))⟩
        · have hm : zs.map (kOf F2) = sortPU ps := by
            refine upP_unique (leP_nodup hso ((hpm.map _).nodup_iff.mpr hnd)) sortPU_up fun z => ?_
            rw [mem_sortPU, (hpm.map (kOf F2)).mem_iff, ← i2]
            constructor
            · intro h
              obtain ⟨y, hy, rfl⟩ := List.mem_map.mp h
              exact List.mem_map.mpr ⟨y, hsub y hy, rfl⟩
            · intro h
              obtain ⟨y, hy, rfl⟩ := List.mem_map.mp h
              exact hall y hy
          have fz := FzL.ofPairs (F := F2) (vs := zs) fun v hv => i1 v (hsub v (hpm.mem_iff.mp hv))
          rw [hm] at fz
          have g1 := ((g2.sub (List.nil_sublist _)).newL (fun a h => by cases h) hp (SetBO P w p (ys.map (toK (kOf F2))))).sub (List.nil_sublist _)
          obtain ⟨g5, y5⟩ := g1.fin fz hp'
          exact k _ _ _ _ g5 y5
      · cases hf
  · cases hf
section
variable {X : Cx} {W : WX} {qa : Bool} {a : Expr} {t : TA} {s : M (List Rv)} {pos p pos2 p2 : Pos}
theorem ev_sortSetP {n : Nat} (hr : Room n X.A) (hc : X.calm = true) (hg : Gl X "sorted") (hm : X.mg "sorted" = none) (hg2 : Gl X "set") (hm2 : X.mg "set" = none) (ha : AV X W qa [a] t s)
    (h2 : starEach [a] X.env = (false, eval a X.env) :: starEach [] X.env := by rfl) (hpl2 : (backTo pos2 (starEach [] X.env)).any (·.1) = false := by rfl)
    (he : starEach [.Call (.Name "set" p2) [a] [] pos2] X.env = (false, eval (.Call (.Name "set" p2) [a] [] pos2) X.env) :: starEach [] X.env := by rfl) (hpl : (backTo pos (starEach [] X.env)).any (·.1) = false := by rfl)
    {K : PySem.W.Frag} (hK : X.K = K := by rfl) {P : Program} (hP : X.prog = P := by rfl) {w : World} (hw : X.w = w := by rfl) :
    EV X W qa (.Call (.Name "sorted" p) [.Call (.Name "set" p2) [a] [] pos2] [] pos) (tCB (rSortB K P w) (tCons (tCB (rSetP K P w) t) tNil)) (sCall1 fSortSetP s) := by
  subst hK hP hw
  have pr : PE X (.Call (.Name "set" p2) [a] [] pos2) (tCB (rSetP X.K X.prog X.w) t) := pe_callTy (cr_setP hc (hu65 hr)) hg2 hm2 (by decide +kernel) ha.pe (by decide) (by decide) h2 hpl2
  refine ⟨pe_callB (cr_sortB hc) hg hm (by decide +kernel) (pa_cons pr pa_nil he) (by decide) (by decide) he hpl, ?_⟩
  exact SX.call (r := rFusP X.K X.prog X.w) p_sortSetP ha.se
end
theorem ok_sortSetP {k : Option Nat} {ps : List Pr} {P : Rv → Prop} : OkP (fSortSetP [(k, .lst (ps.map pairD))]) P = ((sortPU ps).length ≤ 1000 ∧ P (some 1, .lst ((sortPU ps).map pairD))) := by
  unfold fSortSetP
  simp only [allP_map', Option.bind_some]
  rw [okp_ite, okp_some]; simp only [decide_eq_true_eq]
end AR

set_option Elab.async false
set_option linter.all false
namespace AR
/-! ### sums -/
def sumN (n : Nat) (f : Nat → Nat) : Nat := match n with
  | 0 => 0
  | n + 1 => sumN n f + f n
theorem sumN_congr {n : Nat} {f g : Nat → Nat} (h : ∀ k, k < n → f k = g k) : sumN n f = sumN n g := by
  induction n with
  | zero => rfl
  | succ n ih => simp only [sumN]; rw [ih fun k hk => h k (by omega), h n (by omega)]
theorem sumN_add {n : Nat} {f g : Nat → Nat} : sumN n (fun k => f k + g k) = sumN n f + sumN n g := by
  induction n with
  | zero => rfl
  | succ n ih => simp only [sumN, ih]; omega
theorem sumN_zero {n : Nat} {f : Nat → Nat} (h : ∀ k, k < n → f k = 0) : sumN n f = 0 := by
  induction n with
  | zero => rfl
  | succ n ih => simp only [sumN]; rw [ih fun k hk => h k (by omega), h n (by omega)]
theorem sumN_first {n : Nat} {f : Nat → Nat} : sumN (n + 1) f = f 0 + sumN n (fun k => f (k + 1)) := by
  induction n with
  | zero => simp [sumN]
  | succ n ih => rw [sumN, ih]; simp only [sumN]; omega
theorem sumN_mul {n c : Nat} {f : Nat → Nat} : sumN n f * c = sumN n (fun k => f k * c) := by
  induction n with
  | zero => simp [sumN]
  | succ n ih => simp only [sumN, Nat.add_mul, ih]
theorem sumN_mulL {n c : Nat} {f : Nat → Nat} : c * sumN n f = sumN n (fun k => c * f k) := by
  rw [Nat.mul_comm, sumN_mul]
  exact sumN_congr fun k _ => Nat.mul_comm _ _
theorem sumN_le {n : Nat} {f g : Nat → Nat} (h : ∀ k, k < n → f k ≤ g k) : sumN n f ≤ sumN n g := by
  induction n with
  | zero => exact Nat.le_refl _
  | succ n ih => simp only [sumN]; have := ih fun k hk => h k (by omega); have := h n (by omega); omega
theorem sumN_const {n c : Nat} : sumN n (fun _ => c) = n * c := by
  induction n with
  | zero => simp [sumN]
  | succ n ih => simp only [sumN, ih, Nat.succ_mul]
/-- a triangle, by rows and by its other side -/
theorem tri {G : Nat → Nat → Nat} : ∀ N, sumN N (fun k => sumN (N - 1 - k) (fun m => G k m)) = sumN N (fun q => sumN q (fun k => G k (q - 1 - k)))
  | 0 => rfl
  | N + 1 => by
    have ih := tri (G := G) N
    conv => rhs; rw [sumN]
    rw [← ih, sumN]
    have e1 : sumN (N + 1 - 1 - N) (fun m => G N m) = 0 := by
      rw [show N + 1 - 1 - N = 0 by omega]; rfl
    rw [e1, Nat.add_zero, ← sumN_add]
    refine sumN_congr fun k hk => ?_
    rw [show N + 1 - 1 - k = (N - 1 - k) + 1 by omega, sumN]
/-! ### how many sets tie every point of a stretch: from i on, l points -/
def wc (t : Nat → Nat → Nat) (l i : Nat) : Nat := match l with
  | 0 => 1
  | l + 1 => sumN l fun k => if h : k < l then t i (i + 1 + k) * wc t k (i + 1) * wc t (l - 1 - k) (i + 2 + k) else 0
termination_by l
decreasing_by all_goals omega
theorem wc_zero {t : Nat → Nat → Nat} {i : Nat} : wc t 0 i = 1 := by unfold wc; rfl
theorem wc_succ {t : Nat → Nat → Nat} {l i : Nat} : wc t (l + 1) i = sumN l fun k => t i (i + 1 + k) * wc t k (i + 1) * wc t (l - 1 - k) (i + 2 + k) := by
  rw [wc]
  exact sumN_congr fun k hk => by rw [dif_pos hk]
/-- by the last point -/
theorem wc_last {t : Nat → Nat → Nat} : ∀ (l i : Nat), wc t (l + 1) i = sumN l fun k => t (i + k) (i + l) * wc t k i * wc t (l - 1 - k) (i + k + 1) := by
  intro l
  induction l using Nat.strongRecOn with
  | _ l ih =>
    intro i
    cases l with
    | zero => rw [wc_succ]; rfl
    | succ N =>
      rw [wc_succ]
      -- left: the last term apart
      rw [sumN]
      have eL : sumN N (fun k => t i (i + 1 + k) * wc t k (i + 1) * wc t (N + 1 - 1 - k) (i + 2 + k)) = sumN N (fun k => sumN (N - 1 - k) fun m => t i (i + 1 + k) * wc t k (i + 1) * (t (i + 2 + k + m) (i + (N + 1)) * wc t m (i + 2 + k) * wc t (N - 2 - k - m) (i + 3 + k + m))) := by
        refine sumN_congr fun k hk => ?_
        rw [show N + 1 - 1 - k = (N - 1 - k) + 1 by omega, ih (N - 1 - k) (by omega) (i + 2 + k), sumN_mulL]
        refine sumN_congr fun m hm => ?_
        rw [show i + 2 + k + (N - 1 - k) = i + (N + 1) by omega, show N - 1 - k - 1 - m = N - 2 - k - m by omega, show i + 2 + k + m + 1 = i + 3 + k + m by omega]
      rw [eL, tri]
      -- right: the first term apart
      rw [sumN_first]
      have eR : sumN N (fun k => t (i + (k + 1)) (i + (N + 1)) * wc t (k + 1) i * wc t (N + 1 - 1 - (k + 1)) (i + (k + 1) + 1)) = sumN N (fun q => sumN q fun k => t i (i + 1 + k) * wc t k (i + 1) * (t (i + 2 + k + (q - 1 - k)) (i + (N + 1)) * wc t (q - 1 - k) (i + 2 + k) * wc t (N - 2 - k - (q - 1 - k)) (i + 3 + k + (q - 1 - k)))) := by
        refine sumN_congr fun q hq => ?_
        rw [wc_succ, sumN_mulL, sumN_mul]
        refine sumN_congr fun k hk => ?_
        rw [show i + 2 + k + (q - 1 - k) = i + (q + 1) by omega, show N - 2 - k - (q - 1 - k) = N + 1 - 1 - (q + 1) by omega, show i + 3 + k + (q - 1 - k) = i + (q + 1) + 1 by omega]
        simp only [Nat.mul_assoc, Nat.mul_left_comm, Nat.mul_comm]
      rw [eR]
      have e0 : t (i + 0) (i + (N + 1)) * wc t 0 i * wc t (N + 1 - 1 - 0) (i + 0 + 1) = t i (i + 1 + N) * wc t N (i + 1) * wc t (N + 1 - 1 - N) (i + 2 + N) := by
        rw [show N + 1 - 1 - N = 0 by omega, wc_zero, wc_zero, show N + 1 - 1 - 0 = N by omega, show i + (N + 1) = i + 1 + N by omega]
        simp
      rw [e0]
      omega
theorem wc_le {t : Nat → Nat → Nat} (ht : ∀ i k, t i k ≤ 1) : ∀ (l i : Nat), l ≤ 40 → wc t l i ≤ 41 ^ l := by
  intro l
  induction l using Nat.strongRecOn with
  | _ l ih =>
    intro i hl
    cases l with
    | zero => rw [wc_zero]; exact Nat.le_refl _
    | succ l =>
      rw [wc_succ]
      have h1 : sumN l (fun k => t i (i + 1 + k) * wc t k (i + 1) * wc t (l - 1 - k) (i + 2 + k)) ≤ sumN l (fun _ => 41 ^ (l - 1)) := by
        refine sumN_le fun k hk => ?_
        have a := ih k (by omega) (i + 1) (by omega)
        have b := ih (l - 1 - k) (by omega) (i + 2 + k) (by omega)
        calc t i (i + 1 + k) * wc t k (i + 1) * wc t (l - 1 - k) (i + 2 + k) ≤ 1 * 41 ^ k * 41 ^ (l - 1 - k) := Nat.mul_le_mul (Nat.mul_le_mul (ht _ _) a) b
          _ = 41 ^ (l - 1) := by rw [Nat.one_mul, ← Nat.pow_add, show k + (l - 1 - k) = l - 1 by omega]
      refine Nat.le_trans h1 ?_
      rw [sumN_const]
      cases l with
      | zero => simp
      | succ l =>
        rw [show l + 1 - 1 = l by omega, show (41 : Nat) ^ (l + 1 + 1) = 41 * (41 * 41 ^ l) by rw [Nat.pow_succ, Nat.pow_succ, Nat.mul_comm, Nat.mul_comm (41 ^ l)]]
        have : 0 < 41 ^ l := Nat.pow_pos (by decide)
        calc (l + 1) * 41 ^ l ≤ 41 * 41 ^ l := Nat.mul_le_mul_right _ (by omega)
          _ ≤ 41 * (41 * 41 ^ l) := Nat.le_mul_of_pos_left _ (by decide)
/-! sums over lists of numbers below n -/
theorem sumL_append (xs ys : List Int) : (xs ++ ys).sum = xs.sum + ys.sum := by simp [List.sum_append]
end AR
namespace AR
theorem sumN_shift {a n : Nat} {f : Nat → Nat} : sumN (a + n) f = sumN a f + sumN n (fun k => f (a + k)) := by
  induction n with
  | zero => simp [sumN]
  | succ n ih => rw [show a + (n + 1) = (a + n) + 1 by omega, sumN, ih, sumN]; omega
theorem sumN_one {E x c : Nat} (h : x < E) : sumN E (fun k => if k = x then c else 0) = c := by
  induction E with
  | zero => omega
  | succ E ih =>
    rw [sumN]
    by_cases hx : x = E
    · subst hx
      rw [sumN_zero fun k hk => by rw [if_neg (by omega)]]; simp
    · rw [ih (by omega), if_neg (by omega)]; rfl
theorem sum_list (c : Int → Bool) (E : Nat) (g : Nat → Nat) : ∀ (L : List Int), L.Nodup → (∀ x ∈ L, 0 ≤ x) → (∀ x ∈ L, c x = true → x < E) →
    (L.filterMap fun k => if c k = true then some ((g k.toNat : Nat) : Int) else none).sum = ((sumN E fun k => if (k : Int) ∈ L ∧ c k = true then g k else 0 : Nat) : Int)
  | [], _, _, _ => by simp [sumN_zero]
  | x :: L, nd, h0, hE => by
    rw [List.nodup_cons] at nd
    have ih := sum_list c E g L nd.2 (fun y hy => h0 y (by simp [hy])) (fun y hy => hE y (by simp [hy]))
    have hx0 := h0 x (by simp)
    rw [List.filterMap_cons]
    by_cases hc : c x = true
    · have hxE := hE x (by simp) hc
      simp only [hc, if_true]
      rw [List.sum_cons, ih]
      have : (sumN E fun k => if (k : Int) ∈ x :: L ∧ c k = true then g k else 0) = g x.toNat + sumN E fun k => if (k : Int) ∈ L ∧ c k = true then g k else 0 := by
        rw [← sumN_one (E := E) (x := x.toNat) (c := g x.toNat) (by omega), ← sumN_add]
        refine sumN_congr fun k hk => ?_
        by_cases hk' : k = x.toNat
        · have e : (k : Int) = x := by omega
          have n1 : ¬ ((k : Int) ∈ L ∧ c k = true) := fun z => nd.1 (e ▸ z.1)
          rw [if_pos ⟨by simp [e], by rw [e]; exact hc⟩, if_pos hk', if_neg n1, hk']; rfl
        · have e : ¬ (k : Int) = x := by omega
          simp only [List.mem_cons, e, false_or, hk', if_false, Nat.zero_add]
      rw [this]; omega
    · simp only [hc, Bool.false_eq_true, if_false]
      rw [ih]
      congr 1
      refine sumN_congr fun k hk => ?_
      by_cases e : (k : Int) = x
      · have n1 : ¬ ((k : Int) ∈ x :: L ∧ c k = true) := fun z => hc (e ▸ z.2)
        have n2 : ¬ ((k : Int) ∈ L ∧ c k = true) := fun z => hc (e ▸ z.2)
        rw [if_neg n1, if_neg n2]
      · simp only [List.mem_cons, e, false_or]
/-! ### rows -/
def LtS (ts : List Pr) : Prop := ts.Pairwise LtP
structure RowOk (n : Nat) (ts : List Pr) : Prop where
  n40 : n ≤ 40
  pt : ∀ p ∈ ts, 0 ≤ p.1 ∧ p.1 < p.2 ∧ p.2 < n
  st : ts.Pairwise LtP
theorem LtP.irrefl {p : Pr} : ¬ LtP p p := by unfold LtP; omega
theorem RowOk.nodup {n : Nat} {ts : List Pr} (h : RowOk n ts) : ts.Nodup := by
  refine h.st.imp fun {a b} hab e => ?_
  subst e; exact LtP.irrefl hab
def rowD (n : Nat) (ts : List Pr) : D := .tup [.int n, .lst (ts.map pairD)]
open Classical in
noncomputable def tie (ts : List Pr) (i k : Nat) : Nat := if ((i : Int), (k : Int)) ∈ ts then 1 else 0
theorem tie_le {ts : List Pr} : ∀ i k, tie ts i k ≤ 1 := fun i k => by unfold tie; split <;> omega
def nearF (ts : List Pr) (i : Int) : List Int := (ts.filter fun p => p.1 == i).map (·.2)
def nearL (ts : List Pr) (j : Int) : List Int := (ts.filter fun p => p.2 == j).map (·.1)
theorem mem_nearF {ts : List Pr} {i k : Int} : k ∈ nearF ts i ↔ (i, k) ∈ ts := by
  unfold nearF
  simp only [List.mem_map, List.mem_filter, beq_iff_eq]
  constructor
  · rintro ⟨p, ⟨h1, h2⟩, h3⟩
    have : p = (i, k) := Prod.ext h2 h3
    exact this ▸ h1
  · intro h; exact ⟨(i, k), ⟨h, rfl⟩, rfl⟩
theorem mem_nearL {ts : List Pr} {j k : Int} : k ∈ nearL ts j ↔ (k, j) ∈ ts := by
  unfold nearL
  simp only [List.mem_map, List.mem_filter, beq_iff_eq]
  constructor
  · rintro ⟨p, ⟨h1, h2⟩, h3⟩
    have : p = (k, j) := Prod.ext h3 h2
    exact this ▸ h1
  · intro h; exact ⟨(k, j), ⟨h, rfl⟩, rfl⟩
theorem nodup_nearF {ts : List Pr} {i : Int} (h : ts.Nodup) : (nearF ts i).Nodup := by
  unfold nearF
  refine List.Pairwise.map _ (fun a b hab => hab) ?_ |> id
  · have := h.filter fun p => p.1 == i
    refine (List.Pairwise.and_mem.mp this).imp fun {a b} ⟨ha, hb, hne⟩ e => hne ?_
    have h1 : a.1 = i := by simpa using (List.mem_filter.mp ha).2
    have h2 : b.1 = i := by simpa using (List.mem_filter.mp hb).2
    exact Prod.ext (h1.trans h2.symm) e
theorem nodup_nearL {ts : List Pr} {j : Int} (h : ts.Nodup) : (nearL ts j).Nodup := by
  unfold nearL
  refine List.Pairwise.map _ (fun a b hab => hab) ?_ |> id
  · have := h.filter fun p => p.2 == j
    refine (List.Pairwise.and_mem.mp this).imp fun {a b} ⟨ha, hb, hne⟩ e => hne ?_
    have h1 : a.2 = j := by simpa using (List.mem_filter.mp ha).2
    have h2 : b.2 = j := by simpa using (List.mem_filter.mp hb).2
    exact Prod.ext e (h1.trans h2.symm)
/-- whole sets of the stretch from i to before j -/
noncomputable def W (ts : List Pr) (i j : Nat) : Nat := wc (tie ts) (j - i) i
theorem W_self {ts : List Pr} {i : Nat} : W ts i i = 1 := by unfold W; rw [Nat.sub_self, wc_zero]
theorem W_first {n : Nat} {ts : List Pr} (R : RowOk n ts) {i j : Nat} (h : i < j) : ((nearF ts i).filterMap fun k => if decide (k < (j : Int)) = true then some ((W ts (i + 1) k.toNat * W ts (k.toNat + 1) j : Nat) : Int) else none).sum = (W ts i j : Int) := by
  rw [sum_list (fun k => decide (k < (j : Int))) j (fun k => W ts (i + 1) k * W ts (k + 1) j) (nearF ts i) (nodup_nearF R.nodup) (fun x hx => by have := R.pt _ (mem_nearF.mp hx); simp only at this; omega) (fun x _ hc => of_decide_eq_true hc)]
  congr 1
  obtain ⟨l, rfl⟩ : ∃ l, j = i + 1 + l := ⟨j - i - 1, by omega⟩
  rw [sumN_shift, sumN_zero fun k hk => ?_, Nat.zero_add]
  · unfold W
    rw [show i + 1 + l - i = l + 1 by omega, wc_succ]
    refine sumN_congr fun k hk => ?_
    have hlt : ((i + 1 + k : Nat) : Int) < ((i + 1 + l : Nat) : Int) := by omega
    simp only [mem_nearF, decide_eq_true_eq, hlt, and_true]
    unfold tie
    rw [show i + 1 + k - (i + 1) = k by omega, show i + 1 + l - (i + 1 + k + 1) = l - 1 - k by omega, show i + 1 + k + 1 = i + 2 + k by omega]
    split <;> simp
  · rw [if_neg]
    rintro ⟨h1, _⟩
    have := R.pt _ (mem_nearF.mp h1)
    simp only at this
    omega
theorem W_last {n : Nat} {ts : List Pr} (R : RowOk n ts) {i j : Nat} (h : i < j) : ((nearL ts ((j : Int) - 1)).filterMap fun k => if decide ((i : Int) ≤ k) = true then some ((W ts i k.toNat * W ts (k.toNat + 1) (j - 1) : Nat) : Int) else none).sum = (W ts i j : Int) := by
  rw [sum_list (fun k => decide ((i : Int) ≤ k)) (j - 1) (fun k => W ts i k * W ts (k + 1) (j - 1)) (nearL ts ((j : Int) - 1)) (nodup_nearL R.nodup) (fun x hx => by have := R.pt _ (mem_nearL.mp hx); simp only at this; omega) (fun x hx _ => by have := R.pt _ (mem_nearL.mp hx); simp only at this; omega)]
  congr 1
  obtain ⟨l, rfl⟩ : ∃ l, j = i + l + 1 := ⟨j - i - 1, by omega⟩
  rw [show i + l + 1 - 1 = i + l by omega, sumN_shift, sumN_zero fun k hk => ?_, Nat.zero_add]
  · unfold W
    rw [show i + l + 1 - i = l + 1 by omega, wc_last]
    refine sumN_congr fun k hk => ?_
    have hle : (i : Int) ≤ ((i + k : Nat) : Int) := by omega
    have e : ((i + l + 1 : Nat) : Int) - 1 = ((i + l : Nat) : Int) := by omega
    simp only [mem_nearL, decide_eq_true_eq, hle, and_true, e]
    unfold tie
    rw [show i + k - i = k by omega, show i + l - (i + k + 1) = l - 1 - k by omega]
    split <;> simp
  · rw [if_neg]
    rintro ⟨_, h2⟩
    have := of_decide_eq_true h2
    omega
theorem W_le {ts : List Pr} {i j : Nat} (h : j ≤ 40) : W ts i j ≤ 41 ^ 40 := by
  unfold W
  refine Nat.le_trans (wc_le tie_le _ _ (by omega)) (Nat.pow_le_pow_right (by decide) (by omega))
end AR

set_option Elab.async false
set_option linter.all false
set_option maxRecDepth 100000
set_option maxHeartbeats 400000
namespace AR
open PySem PySem.Spec PyProof.Rows L2
theorem lg {x : Int} {k : Nat} (h0 : 0 ≤ x) (h : x < 2 ^ k) : x.natAbs.log2 ≤ k := by
  by_cases hx : x.natAbs = 0
  · rw [hx]; simp
  · refine Nat.le_of_lt ((Nat.log2_lt hx).mpr ?_)
    have : ((x.natAbs : Nat) : Int) < ((2 ^ k : Nat) : Int) := by
      rw [Int.natAbs_of_nonneg h0]; simpa using h
    exact Int.ofNat_lt.mp this
theorem lg2 {x y : Int} {k : Nat} (h0 : 0 ≤ x) (h : x ≤ y) (hk : y < 2 ^ k) (hb : k < 9000) : x.natAbs.log2 < 9000 := Nat.lt_of_le_of_lt (lg h0 (Int.lt_of_le_of_lt h hk)) hb
theorem modw {x m : Int} (h0 : 0 ≤ x) (h1 : x < 2 * m) : x % m = if x < m then x else x - m := by
  split
  · exact Int.emod_eq_of_lt h0 (by assumption)
  · rw [← Int.sub_emod_right x m]
    exact Int.emod_eq_of_lt (by omega) (by omega)
theorem ws_mid {s r : MS} {e : Sl} {N : Sl → Prop} {R : Nat → D → Sl → Prop} (M : Sl → Prop) (h1 : Ws s e M R) (h2 : ∀ e, M e → Ws r e N R) : Ws (sSeq s r) e N R := by
  rw [ws_seq]; exact h1.mono h2 (fun _ _ _ h => h)
theorem inR_small {i : Int} (h0 : -1000000 ≤ i) (h1 : i ≤ 1000000) : inR i = true := by unfold inR; rw [Nat.ble_eq]; omega
theorem shp_ints (xs : List Int) : shp (.lst (xs.map D.int)) = true := by
  have h : ∀ xs : List Int, PyData.canLayAll0 (toPyL (xs.map D.int)) = true ∧ PyData.depthAll (toPyL (xs.map D.int)) = 0 := fun xs => by
    induction xs with
    | nil => exact ⟨rfl, rfl⟩
    | cons x xs ih => simp only [List.map_cons, toPyL, toPy, PyData.canLayAll0, PyData.depthAll, PyData.canLay0, PyData.depth, ih, Bool.and_self, Nat.max_self, and_self]
  simp only [shp, SeqAt.shaped, toPy, PyData.canLay0, PyData.depth, h xs]; decide
theorem lay_pairs (ts : List Pr) : PyData.canLayAll0 (toPyL (ts.map pairD)) = true ∧ PyData.depthAll (toPyL (ts.map pairD)) ≤ 1 := by
  induction ts with
  | nil => exact ⟨rfl, Nat.zero_le _⟩
  | cons x xs ih =>
    simp only [List.map_cons, pairD, toPyL, toPy, PyData.canLayAll0, PyData.depthAll, PyData.canLay0, PyData.depth, Bool.and_self, Bool.true_and]
    refine ⟨ih.1, ?_⟩
    have := ih.2
    omega
theorem shp_row (n : Nat) (ts : List Pr) : shp (rowD n ts) = true := by
  have h := lay_pairs ts
  simp only [shp, SeqAt.shaped, rowD, toPy, toPyL, PyData.canLay0, PyData.canLayAll0, PyData.depth, PyData.depthAll, h.1, Bool.and_self, Bool.true_and, decide_eq_true_eq]
  omega
theorem pl_ints (xs : List Int) : (D.lst (xs.map D.int)).pl = true := plL_map _ _ fun _ _ => rfl
theorem pl_row (n : Nat) (ts : List Pr) : (rowD n ts).pl = true := by
  simp only [rowD, D.pl, plL, plL_map pairD ts fun _ _ => rfl, Bool.and_self]
theorem shp_nil : shp (.lst []) = true := by decide
open Classical in
theorem ok_neNil {k l : Option Nat} {xs : List Int} {P : Rv → Prop} : OkP (fNe (k, .lst (xs.map D.int)) (l, .lst [])) P = P (some 0, .bl (!decide (xs = []))) := by
  rw [ok_neD (pl_ints xs) rfl (shp_ints xs) shp_nil]
  congr 5
  simp
theorem last_get {ys : List Int} {y : Int} : ((ys ++ [y]).map D.int)[((ys ++ [y]).map D.int).length - 1]? = some (.int y) := by
  have e : (ys ++ [y]).map D.int = ys.map D.int ++ [D.int y] := by simp
  have l : (ys.map D.int ++ [D.int y]).length - 1 = (ys.map D.int).length := by simp
  rw [e, l, List.getElem?_append_right (Nat.le_refl _)]
  simp only [Nat.sub_self, List.getElem?_cons_zero]
theorem last_cut {ys : List Int} {y : Int} : ((ys ++ [y]).map D.int).eraseIdx (((ys ++ [y]).map D.int).length - 1) = ys.map D.int := by
  have e : (ys ++ [y]).map D.int = ys.map D.int ++ [D.int y] := by simp
  have l : (ys.map D.int ++ [D.int y]).length - 1 = (ys.map D.int).length := by simp
  rw [e, l, List.eraseIdx_append_of_length_le (Nat.le_refl _)]
  simp
def PilOk (j : Nat) (xs : List Int) : Prop := ∀ x ∈ xs, 0 ≤ x ∧ x < j
def TieOk (j : Nat) (ts : List Pr) : Prop := ∀ p ∈ ts, 0 ≤ p.1 ∧ p.1 < p.2 ∧ p.2 < j
theorem map_app_pair {ts : List Pr} {a b : Int} : ts.map pairD ++ [D.tup [.int a, .int b]] = (ts ++ [(a, b)]).map pairD := by simp [pairD]
theorem map_app_int {ts : List Int} {a : Int} : ts.map D.int ++ [D.int a] = (ts ++ [a]).map D.int := by simp
theorem lc_inv {q : Bool} {vs : List Nat} {m : Nat} {sg : TgS} {st : M Bool} {se : M Rv} {Q : List D → Sl → Prop} (I : Nat → List D → Sl → Prop) : ∀ {ds : List D} {n : Nat} {acc : List D} {e : Sl}, I n acc e →
    (∀ k d acc e, ds[k]? = some d → I (n + k) acc e → OkP (sg (0, d) e) fun e3 => Wp st e3 fun b e4 => if b = true then Wp se e4 fun r e5 => accOk m r = true ∧ I (n + k + 1) (acc ++ [r.2]) (lcNext q vs e e5) else I (n + k + 1) acc (lcNext q vs e e4)) →
    (∀ acc e, I (n + ds.length) acc e → Q acc e) → OutP (lcLoop q vs m sg st se ds acc e) Q
  | [], n, acc, e, h0, _, hd => by
    have := hd acc e (by simpa using h0)
    simpa [OutP, lcLoop] using this
  | d :: ds, n, acc, e, h0, ht, hd => by
    rw [lc_cons]
    have h1 := ht 0 d acc e (by simp) (by simpa using h0)
    have hr : ∀ acc' e', I (n + 1) acc' e' → OutP (lcLoop q vs m sg st se ds acc' e') Q := fun acc' e' hi => lc_inv I hi (fun k d acc e hk hi => by
      have := ht (k + 1) d acc e (by simpa using hk) (by rw [show n + (k + 1) = n + 1 + k by omega]; exact hi)
      rw [show n + (k + 1) + 1 = n + 1 + k + 1 by omega] at this
      exact this) (fun acc e hi => hd acc e (by rw [List.length_cons, show n + (ds.length + 1) = n + 1 + ds.length by omega]; exact hi))
    unfold OkP at h1 ⊢
    cases hs : sg (0, d) e with
    | none => rw [hs] at h1; exact h1
    | some e3 =>
      rw [hs] at h1
      dsimp only at h1 ⊢
      refine h1.mono fun b e4 h2 => ?_
      cases b with
      | true =>
        simp only [if_true] at h2 ⊢
        exact h2.mono fun r e5 ⟨h3, h4⟩ => ⟨h3, hr _ _ h4⟩
      | false =>
        simp only [Bool.false_eq_true, if_false] at h2 ⊢
        exact hr _ _ h2
theorem ok_popAt {ks : List Nat} {k : Option Nat} {j m : Nat} {ds : List D} {d : D} {P : Rv × List D → Prop} (hd : ds[j]? = some d) (hl : ds.length ≤ 1000000) : OkP (fPopAt ks [(k, .int j)] m ds) P = P ((some m, d), ds.eraseIdx j) := by
  have hi := (List.getElem?_eq_some_iff.mp hd).1
  unfold fPopAt
  dsimp only
  rw [if_pos (decide_eq_true hl), ixN_nat hi]
  simp only [Option.bind_some, hd]
  rfl
theorem erase_map {α β : Type} {f : α → β} : ∀ {l : List α} {i : Nat}, (l.map f).eraseIdx i = (l.eraseIdx i).map f
  | [], i => by simp
  | x :: l, 0 => rfl
  | x :: l, i + 1 => by simp [erase_map (l := l) (i := i)]
theorem at_nat {α : Type} {xs : List α} {i : Nat} {x : α} (h : xs[i]? = some x) : atI xs (i : Int) = some x := by
  have hi := (List.getElem?_eq_some_iff.mp h).1
  unfold atI
  rw [ixN_nat hi]
  simpa using h
theorem pick2 {x y r lo hi : Int} (h0 : 0 ≤ r) (h1 : r < 2) (hx : lo ≤ x ∧ x ≤ hi) (hy : lo ≤ y ∧ y ≤ hi) : ∃ d : Int, atI [D.int x, D.int y] r = some (.int d) ∧ lo ≤ d ∧ d ≤ hi := by
  obtain h | h : r = 0 ∨ r = 1 := by omega
  · subst h; exact ⟨x, at0, hx⟩
  · subst h; exact ⟨y, at1, hy⟩
theorem ok_extend {ks : List Nat} {k : Option Nat} {ds es : List D} {P : Rv × List D → Prop} : OkP (fExtend ks [(k, .lst es)] 0 ds) P = (((k.isSome || depL es == 0) = true ∧ ds.length + es.length ≤ 1000000) ∧ P ((some 0, .non), ds ++ es)) := by
  unfold fExtend; rw [okp_ite, okp_some]; simp
theorem ints_get {c : Int} {ns : List Int} {j : Nat} {d : D} (h : (D.int c :: ns.map D.int)[j]? = some d) : ∃ i, d = .int i := by
  cases j with
  | zero => simp at h; exact ⟨c, h.symm⟩
  | succ j =>
    simp only [List.getElem?_cons_succ, List.getElem?_map] at h
    cases hn : ns[j]? with
    | none => rw [hn] at h; cases h
    | some n => rw [hn] at h; exact ⟨n, (Option.some.inj h).symm⟩
theorem cut_len {ns : List Int} {h : Int} : (cutD ns none (some h)).length ≤ ns.length := by
  unfold cutD
  rw [List.length_take, List.length_drop]; omega
theorem shp_pairs (ts : List Pr) : shp (.lst (ts.map pairD)) = true := by
  have h := lay_pairs ts
  simp only [shp, SeqAt.shaped, toPy, PyData.canLay0, PyData.depth, h.1, Bool.and_self, Bool.true_and, decide_eq_true_eq]
  omega
theorem pl_pairs (ts : List Pr) : (D.lst (ts.map pairD)).pl = true := plL_map pairD ts fun _ _ => rfl
theorem pairD_inj {p q : Pr} (h : pairD p = pairD q) : p = q := by
  unfold pairD at h; injection h with h; injection h with h1 h2; injection h2 with h2 h3; injection h1 with h1; injection h2 with h2
  exact Prod.ext h1 h2
theorem pairsD_inj : ∀ {ps qs : List Pr}, ps.map pairD = qs.map pairD → ps = qs
  | [], [], _ => rfl
  | [], _ :: _, h => by cases h
  | _ :: _, [], h => by cases h
  | p :: ps, q :: qs, h => by
    simp only [List.map_cons, List.cons.injEq] at h
    rw [pairD_inj h.1, pairsD_inj h.2]
open Classical in
theorem ok_neP {k l : Option Nat} {xs ys : List Pr} {P : Rv → Prop} : OkP (fNe (k, .lst (xs.map pairD)) (l, .lst (ys.map pairD))) P = P (some 0, .bl (!decide (xs = ys))) := by
  rw [ok_neD (pl_pairs xs) (pl_pairs ys) (shp_pairs xs) (shp_pairs ys)]
  congr 5
  simp only [D.lst.injEq, eq_iff_iff]
  exact ⟨pairsD_inj, fun h => by rw [h]⟩
open Classical in
theorem ok_neNilP {k l : Option Nat} {xs : List Pr} {P : Rv → Prop} : OkP (fNe (k, .lst (xs.map pairD)) (l, .lst [])) P = P (some 0, .bl (!decide (xs = []))) := ok_neP (ys := [])
theorem ok_neSelf {k l : Option Nat} {d : D} {P : Rv → Prop} (h1 : d.pl = true) (h2 : shp d = true) : OkP (fNe (k, d) (l, d)) P = P (some 0, .bl false) := by
  have := ok_neD (k := k) (l := l) (P := P) h1 h1 h2 h2
  simpa using this
theorem ok_eqSelf {k l : Option Nat} {d : D} {P : Rv → Prop} (h1 : d.pl = true) (h2 : shp d = true) : OkP (fEq (k, d) (l, d)) P = P (some 0, .bl true) := by
  have := ok_eqD (k := k) (l := l) (P := P) h1 h1 h2 h2
  simpa using this
/-- slices of lists of anything flat -/
theorem cut_toD {ds : List D} {pl : Nat} {k : Nat} {P : Rv → Prop} : OkP (fSl (some k, .lst ds) none (some (pl : Int))) P = P (some 1, .lst (ds.take pl)) := by
  unfold fSl
  dsimp only
  rw [if_pos (by simp)]
  have : cutD ds none (some (pl : Int)) = ds.take pl := by
    unfold cutD
    rw [HT.sIx_nat, HT.sIx_none, List.drop_zero, Nat.sub_zero]
    by_cases h : pl ≤ ds.length
    · rw [show min pl ds.length = pl by omega]
    · rw [show min pl ds.length = ds.length by omega, List.take_of_length_le (Nat.le_refl _), List.take_of_length_le (by omega)]
  rw [this]; rfl
theorem cut_fromD {ds : List D} {pl : Nat} {k : Nat} {P : Rv → Prop} : OkP (fSl (some k, .lst ds) (some (pl : Int)) none) P = P (some 1, .lst (ds.drop pl)) := by
  unfold fSl
  dsimp only
  rw [if_pos (by simp)]
  have : cutD ds (some (pl : Int)) none = ds.drop pl := by
    unfold cutD
    rw [HT.sIx_nat, HT.sIx_none]
    by_cases h : pl ≤ ds.length
    · rw [show min pl ds.length = pl by omega, List.take_of_length_le (by rw [List.length_drop]; omega)]
    · rw [show min pl ds.length = ds.length by omega, List.drop_of_length_le (Nat.le_refl _), List.drop_of_length_le (by omega), List.take_nil]
  rw [this]; rfl
theorem sortPU_len {ps : List Pr} : (sortPU ps).length ≤ ps.length := len_subP (upP_nodup sortPU_up) fun x hx => mem_sortPU.mp hx

theorem outp_inv {o : Out AR.Tm} {a : AR.Tm} {es : Sl} (h : OutP o fun r e => r = a ∧ e = es) : o = .ok a es := by
  unfold OutP at h
  cases o with
  | ok r e => obtain ⟨rfl, rfl⟩ := h; rfl
  | exc c e => exact h.elim
  | bad => exact h.elim
theorem putD_len {kvs : List (List Int × D)} {k : List Int} {d : D} : (putD kvs k d).length ≤ kvs.length + 1 := by
  unfold putD; split <;> simp
theorem ok_rIxP {s : Sl → Option (List Nat)} {sb : M Rv} {e : Sl} {P : List Nat → Prop} : OkP (rIxP s sb e) P = OkP (s e) fun ks => OkP (ixOf sb e) fun z => OkP (natI z) fun k => P (ks ++ [k]) := by
  unfold rIxP; simp only [okp_bind, okp_map]
end AR

set_option Elab.async false
set_option linter.all false
set_option maxRecDepth 100000
set_option maxHeartbeats 4000000
namespace LW
open PySem PySem.Spec PyProof.Rows L2 AR

/-! ### _law_hand: 0 cell -/
def b__law_hand : MS :=
  (sRet (sLst (sCons true (sCall1 (flatN fMax2) (sCons true (sC (.int 0)) (sCons true (sOp fSub true (sName 0) (sOp fPow true (sC (.int 10)) (sC (.int 18)))) (mret [])))) (sCons true (sOp fMulI true (sOp fAdd true (sOp fMod true (sName 0) (sC (.int 2147483629))) (sC (.int 1))) (sCall1 (flatN fInt1) (sCons true (sOp fNe true (sName 0) (sOp fPow true (sC (.int 10)) (sC (.int 18)))) (mret [])))) (mret [])))))
def S__law_hand : Fs := fDef 0 none (b__law_hand)

/-! ### _law_take: 0 hand 1 many 2 taken -/
def b__law_take : MS :=
  (sSeq (sIf (asB (sOp fGt true (sIxN 0 (sC (.int 0))) (sC (.int 0))))
  (sSeq (sAsg (gNm 2) (sOp fMod true (sIxN 0 (sC (.int 0))) (sName 1)))
  (sSeq (sSetI 0 (fun _ => some []) (sC (.int 0)) (sOp fDiv true (sIxN 0 (sC (.int 0))) (sName 1)))
  (sRet (sMove 2))))
  sNext)
  (sSeq (sSetI 0 (fun _ => some []) (sC (.int 1)) (sOp fMod true (sOp fMulI true (sIxN 0 (sC (.int 1))) (sC (.int 48271))) (sC (.int 2147483647))))
  (sRet (sOp fMod true (sOp fDiv true (sOp fPow true (sOp fAdd true (sIxN 0 (sC (.int 1))) (sC (.int 1))) (sC (.int 7))) (sC (.int 8))) (sName 1)))))
def S__law_take : Fs := fDef 1 (some 0) (b__law_take)

/-! ### _law_arcs: 0 hand 1 many 2 found 3 piled 4 point 5 way -/
def L__law_arcs_1 : MS :=
  (sSeq (sPost 5 (sAsg (gNm 5) (sCallIO 2 S__law_take 0 (sCons true (sC (.int 3)) (mret [])))))
  (sSeq (sIf (asB (sOp fEq true (sName 5) (sC (.int 1))))
  (sExpr (sRecv 3 (fun _ => some []) true (sCons true (sName 4) (mret [])) fAppend))
  sNext)
  (sIf (sAnd (asB (sOp fEq true (sName 5) (sC (.int 2)))) (asB (sOp fNe true (sName 3) (sLst (mret [])))))
  (sExpr (sRecv 2 (fun _ => some []) false (sCons true (sTup (sCons true (sRecv 3 (fun _ => some []) true (mret []) fPop) (sCons true (sName 4) (mret [])))) (mret [])) fAppend))
  sNext)))
def b__law_arcs : MS :=
  (sSeq (sAsg (gNm 2) (sLst (mret [])))
  (sSeq (sAsg (gNm 3) (sLst (mret [])))
  (sSeq (sFor (mbind (sCons true (sName 1) (mret [])) fun r => mopt (itR1 r)) (gNm 4)
  L__law_arcs_1)
  (sRet (sCall1 fSortP (sCons true (sName 2) (mret [])))))))
def S__law_arcs : Fs := fDef 4 (some 0) (b__law_arcs)

/-! ### _law_ties: 0 hand 1 many 2 way 3 found 4 k 5 one 6 other 7 reach 8 kinds 9 point 10 wide -/
def L__law_ties_1 : MS :=
  (sSeq (sPost 5 (sAsg (gNm 5) (sCallIO 2 S__law_take 0 (sCons true (sName 1) (mret [])))))
  (sSeq (sPost 6 (sAsg (gNm 6) (sOp fMod true (sOp fAdd false (sOp fAdd true (sName 5) (sC (.int 1))) (sCallIO 2 S__law_take 0 (sCons true (sOp fSub true (sName 1) (sC (.int 1))) (mret [])))) (sName 1))))
  (sExpr (sRecv 3 (fun _ => some []) true (sCons true (sTup (sCons true (sCall1 (flatN fMin2) (sCons true (sName 5) (sCons true (sName 6) (mret [])))) (sCons true (sCall1 (flatN fMax2) (sCons true (sName 5) (sCons true (sName 6) (mret [])))) (mret [])))) (mret [])) fAppend))))
def L__law_ties_2 : MS :=
  (sIf (asB (sOp fGt true (sCallIO 2 S__law_take 0 (sCons true (sC (.int 3)) (mret []))) (sC (.int 0))))
  (sExpr (sRecv 3 (fun _ => some []) true (sCons true (sTup (sCons true (sName 5) (sCons true (sName 6) (mret [])))) (mret [])) fAppend))
  sNext)
def L__law_ties_3 : MS :=
  (sFor (mbind (sCons true (sOp fAdd true (sName 5) (sC (.int 1))) (sCons true (sCall1 (flatN fMin2) (sCons true (sName 1) (sCons true (sOp fAdd true (sOp fAdd true (sName 5) (sC (.int 1))) (sName 7)) (mret [])))) (mret []))) fun r => mopt (itR2 r)) (gNm 6)
  L__law_ties_2)
def L__law_ties_4 : MS :=
  (sExpr (sRecv 3 (fun _ => some []) true (sCons true (sLc true [4] 0 (mbind (sCons true (sOp fAdd true (sName 5) (sC (.int 1))) (sCons true (sCall1 (flatN fMin2) (sCons true (sName 1) (sCons true (sOp fAdd true (sName 5) (sName 10)) (mret [])))) (mret []))) fun r => mopt (itR2 r)) (gNm 4) (asB (sOp fEq true (sOp fAdd true (sIxN 8 (sName 5)) (sIxN 8 (sName 4))) (sC (.int 2)))) (sTup (sCons true (sName 5) (sCons true (sName 4) (mret []))))) (mret [])) fExtend))
def b__law_ties : MS :=
  (sSeq (sPost 2 (sAsg (gNm 2) (sCallIO 2 S__law_take 0 (sCons true (sC (.int 5)) (mret [])))))
  (sSeq (sAsg (gNm 3) (sLst (mret [])))
  (sSeq (sIf (sOr (asB (sOp fEq true (sName 2) (sC (.int 1)))) (asB (sOp fEq true (sName 2) (sC (.int 4)))))
  (sFor (mbind (sCons true (sCallIO 2 S__law_take 0 (sCons true (sOp fIx false (sLst (sCons true (sC (.int 5)) (sCons true (sC (.int 12)) (sCons true (sC (.int 301)) (mret []))))) (sCallIO 2 S__law_take 0 (sCons true (sC (.int 3)) (mret [])))) (mret []))) (mret [])) fun r => mopt (itR1 r)) (gNm 4)
  L__law_ties_1)
  sNext)
  (sSeq (sPost 7 (sAsg (gNm 7) (sOp fAdd false (sC (.int 1)) (sCallIO 2 S__law_take 0 (sCons true (sC (.int 6)) (mret []))))))
  (sSeq (sIf (asB (sOp fEq true (sName 2) (sC (.int 2))))
  (sFor (mbind (sCons true (sName 1) (mret [])) fun r => mopt (itR1 r)) (gNm 5)
  L__law_ties_3)
  sNext)
  (sSeq (sIf (asB (sOp fEq true (sName 2) (sC (.int 3))))
  (sSeq (sPost 8 (sAsg (gNm 8) (sLc false [9] 0 (mbind (sCons true (sName 1) (mret [])) fun r => mopt (itR1 r)) (gNm 9) (mret true) (sCallIO 2 S__law_take 0 (sCons true (sC (.int 3)) (mret []))))))
  (sSeq (sPost 10 (sAsg (gNm 10) (sOp fIx true (sLst (sCons true (sName 1) (sCons true (sC (.int 14)) (mret [])))) (sCall1 (flatN fInt1) (sCons true (sOp fGt true (sName 1) (sC (.int 24))) (mret []))))))
  (sFor (mbind (sCons true (sName 1) (mret [])) fun r => mopt (itR1 r)) (gNm 5)
  L__law_ties_4)))
  sNext)
  (sSeq (sIf (asB (sOp fEq true (sName 2) (sC (.int 4))))
  (sFz 3 (sAsg (gNm 3) (sOp fAdd false (sName 3) (sCallIO 2 S__law_arcs 0 (sCons true (sName 1) (mret []))))))
  sNext)
  (sRet (sSl true (sCall1 fSortSetP (sCons true (sName 3) (mret []))) (mret none) (mbind (sBI (sC (.int 300))) fun i => mret (some i)))))))))))
def S__law_ties : Fs := fDef 9 (some 0) (b__law_ties)

/-! ### _law_row: 0 hand 1 many -/
def b__law_row : MS :=
  (sSeq (sAsg (gNm 1) (sCallIO 2 S__law_take 0 (sCons true (sOp fIx false (sLst (sCons true (sC (.int 7)) (sCons true (sC (.int 7)) (sCons true (sC (.int 11)) (sCons true (sC (.int 41)) (mret [])))))) (sCallIO 2 S__law_take 0 (sCons true (sC (.int 4)) (mret [])))) (mret []))))
  (sSeq (sIf (asB (sOp fLt true (sName 1) (sC (.int 2))))
  (sRet (sTup (sCons true (sMove 1) (sCons true (sLst (mret [])) (mret [])))))
  sNext)
  (sRet (sTup (sCons false (sName 1) (sCons true (sCallIO 2 S__law_ties 0 (sCons true (sName 1) (mret []))) (mret [])))))))
def S__law_row : Fs := fDef 1 (some 0) (b__law_row)

/-! ### _law_given: 0 hand 1 ties 2 left 3 k 4 found 5 one 6 other -/
def L__law_given_1 : MS :=
  (sSeq (sPost 6 (sPost 5 (sAsg (gTp 2 (gCo (gNm 5) (gCo (gNm 6) gNo))) (sRecv 2 (fun _ => some []) false (sCons true (sCallIO 2 S__law_take 0 (sCons true (sCall1 (flatN fLenD) (sCons true (sName 2) (mret []))) (mret []))) (mret [])) fPopAt))))
  (sExpr (sRecv 4 (fun _ => some []) false (sCons true (sOp fIx false (sLst (sCons true (sTup (sCons true (sName 5) (sCons true (sName 6) (mret [])))) (sCons true (sTup (sCons true (sName 6) (sCons true (sName 5) (mret [])))) (mret [])))) (sCallIO 2 S__law_take 0 (sCons true (sC (.int 2)) (mret [])))) (mret [])) fAppend)))
def b__law_given : MS :=
  (sSeq (sAsg (gNm 2) (sOp fAdd false (sName 1) (sLc false [3] 0 (mbind (sCons true (sOp fMulI true (sCallIO 2 S__law_take 0 (sCons true (sC (.int 101)) (mret []))) (sCall1 (flatN fInt1) (sCons true (sOp fNe true (sName 1) (sLst (mret []))) (mret [])))) (mret [])) fun r => mopt (itR1 r)) (gNm 3) (mret true) (sIxN 1 (sCallIO 2 S__law_take 0 (sCons true (sCall1 (flatN fLenD) (sCons true (sName 1) (mret []))) (mret [])))))))
  (sSeq (sAsg (gNm 4) (sLst (mret [])))
  (sSeq (sFor (mbind (sCons true (sCall1 (flatN fLenD) (sCons true (sName 2) (mret []))) (mret [])) fun r => mopt (itR1 r)) (gNm 3)
  L__law_given_1)
  (sRet (sMove 4)))))
def S__law_given : Fs := fDef 5 (some 0) (b__law_given)

/-! ### row_of: 0 many 1 ties 2 found 3 one 4 other -/
def L_row_of_1 : MS :=
  (sSeq (sIf (sOr (asB (sOp fEq true (sName 3) (sName 4))) (sOr (sNot (sChain (sC (.int 0)) (sChN (fun i j => decide (i ≤ j)) (sName 3) (sChL (fun i j => decide (i < j)) (sName 0))))) (sNot (sChain (sC (.int 0)) (sChN (fun i j => decide (i ≤ j)) (sName 4) (sChL (fun i j => decide (i < j)) (sName 0)))))))
  (sRaise "NoRow")
  sNext)
  (sExpr (sRecv 2 (fun _ => some []) true (sCons true (sTup (sCons true (sCall1 (flatN fMin2) (sCons true (sName 3) (sCons true (sName 4) (mret [])))) (sCons true (sCall1 (flatN fMax2) (sCons true (sName 3) (sCons true (sName 4) (mret [])))) (mret [])))) (mret [])) fAppend)))
def b_row_of : MS :=
  (sSeq (sIf (asB (sOp fLt true (sName 0) (sC (.int 0))))
  (sRaise "NoRow")
  sNext)
  (sSeq (sAsg (gNm 2) (sLst (mret [])))
  (sSeq (sFor (mbind (sName 1) fun r => mopt (itL r)) (gTp 2 (gCo (gNm 3) (gCo (gNm 4) gNo)))
  L_row_of_1)
  (sRet (sTup (sCons true (sMove 0) (sCons true (sCall1 fSortSetP (sCons true (sName 2) (mret []))) (mret []))))))))
def S_row_of : Fs := fDef 3 none (b_row_of)

/-! ### _law_same: 0 found 1 due 2 one 3 other -/
def b__law_same (Sr : Fs) : MS :=
  (sSeq (sIf (asB (sIsi (fun d => isT "list" d || isT "tuple" d) (sName 1)))
  (sSeq (sIf (sOr (sNot (asB (sIsi (fun d => isT "list" d || isT "tuple" d) (sName 0)))) (asB (sOp fNe true (sIsi (isT "list") (sName 0)) (sIsi (isT "list") (sName 1)))))
  (sRet (sC (.bl false)))
  sNext)
  (sSeq (sIf (asB (sOp fNe true (sCall1 (flatN fLenD) (sCons true (sName 0) (mret []))) (sCall1 (flatN fLenD) (sCons true (sName 1) (mret [])))))
  (sRet (sC (.bl false)))
  sNext)
  (sRet (sOp fEq true (sLc true [2, 3] 0 (mbind (sCons true (sName 0) (sCons true (sName 1) (mret []))) fun r => mopt (itZip r)) (gTp 2 (gCo (gNm 2) (gCo (gNm 3) gNo))) (sNot (asB (sCallF 2 Sr (sCons true (sName 2) (sCons true (sName 3) (mret [])))))) (sC (.int 1))) (sLst (mret []))))))
  sNext)
  (sSeq (sIf (asB (sIsi (isT "str") (sName 1)))
  (sRet (mbind (asB (sIsi (isT "str") (sName 0))) fun c => if c = true then (sOp fEq true (sName 0) (sName 1)) else sC (.bl false)))
  sNext)
  (sSeq (sIf (asB (sIsN false (sName 1)))
  (sRet (sIsN false (sName 0)))
  sNext)
  (sRet (mbind (asB (sIsi (isT "int") (sName 0))) fun c => if c = true then (mbind (asB (mbind (asB (sIsi (isT "bool") (sName 0))) fun c => sC (.bl (!c)))) fun c => if c = true then (sOp fEq true (sName 0) (sName 1)) else sC (.bl false)) else sC (.bl false))))))
def S__law_same : Nat → Fs
  | 0 => fun _ => .bad
  | n + 1 => fDef 2 none (b__law_same (S__law_same n))

/-! ### law: 0 script 1 cell 2 hand 3 many 4 ties 5 given 6 handed 7 again 8 found -/
def L_law_1 : MS :=
  (sSeq (sAsg (gNm 8) (sCallF 2 S_row_of (sCons true (sName 3) (sCons true (sName 6) (mret [])))))
  (sSeq (sIf (sOr (sNot (asB (sCallF 2 (S__law_same 4) (sCons true (sName 8) (sCons true (sTup (sCons true (sName 3) (sCons true (sName 4) (mret [])))) (mret [])))))) (asB (sOp fNe true (sName 6) (sName 5))))
  (sRet (sC (.bl false)))
  sNext)
  (sExpr (sRecv 8 (rIxP (fun _ => some []) (sC (.int 1))) true (sCons true (sTup (sCons true (sC (.int 0)) (sCons true (sC (.int 1)) (mret [])))) (mret [])) fAppend))))
def L_law_2 : MS :=
  (sSeq (sAsg (gNm 2) (sCallF 1 S__law_hand (sCons true (sName 1) (mret []))))
  (sSeq (sPost 4 (sPost 3 (sAsg (gTp 2 (gCo (gNm 3) (gCo (gNm 4) gNo))) (sCallIO 1 S__law_row 2 (mret [])))))
  (sSeq (sPost 5 (sAsg (gNm 5) (sCallIO 2 S__law_given 2 (sCons true (sName 4) (mret [])))))
  (sSeq (sAsg (gNm 6) (sCall1 (fLstOf) (sCons true (sName 5) (mret []))))
  (sSeq (sFor (mbind (sCons true (sC (.int 2)) (mret [])) fun r => mopt (itR1 r)) (gNm 7)
  L_law_1)
  (sSeq (sAsg (gNm 8) (sCallF 2 S_row_of (sCons true (sName 3) (sCons true (sName 6) (mret [])))))
  (sSeq (sExpr (sRecv 6 (fun _ => some []) true (sCons true (sTup (sCons true (sC (.int 0)) (sCons true (sC (.int 1)) (mret [])))) (mret [])) fAppend))
  (sIf (asB (sOp fNe true (sName 8) (sTup (sCons true (sName 3) (sCons true (sName 4) (mret []))))))
  (sRet (sC (.bl false)))
  sNext))))))))
noncomputable def b_law (K : PySem.W.Frag) : MS :=
  (sSeq (sFor (mbind (sOp fAdd true (sLst (sCons true (sOp fPow true (sC (.int 10)) (sC (.int 18))) (mret []))) (sScrSl K (sName 0) (mbind (sBI (sC (.int 10))) fun i => mret (some i)))) fun r => mopt (itL r)) (gNm 1)
  L_law_2)
  (sRet (sC (.bl true))))
noncomputable def S_law (K : PySem.W.Frag) : Fs := fDef 8 none (b_law K)
end LW

set_option Elab.async false
set_option linter.all false
set_option maxRecDepth 100000
set_option maxHeartbeats 400000
namespace LW
open PySem L2 AR
/-! ### the law's draws -/
def HandOk (b : Int) : Prop := 0 ≤ b ∧ b < 2147483648
abbrev hd (a b : Int) : D := .lst [.int a, .int b]
theorem lg {x : Int} {k : Nat} (h0 : 0 ≤ x) (h : x < 2 ^ k) : x.natAbs.log2 ≤ k := by
  by_cases hx : x.natAbs = 0
  · rw [hx]; simp
  · refine Nat.le_of_lt ((Nat.log2_lt hx).mpr ?_)
    have : ((x.natAbs : Nat) : Int) < ((2 ^ k : Nat) : Int) := by
      rw [Int.natAbs_of_nonneg h0]; simpa using h
    exact Int.ofNat_lt.mp this
theorem lg2 {x y : Int} {k : Nat} (h0 : 0 ≤ x) (h : x ≤ y) (hk : y < 2 ^ k) (hb : k < 9000) : x.natAbs.log2 < 9000 := Nat.lt_of_le_of_lt (lg h0 (Int.lt_of_le_of_lt h hk)) hb
theorem out_take {a b n : Int} {Q : AR.Tm → Sl → Prop} (hb : HandOk b) (hn : 0 < n) (hl : n.natAbs.log2 < 9000) (k : ∀ r a' b', 0 ≤ r → r < n → HandOk b' → Q (0, .int r) [some (1, hd a' b')]) : OutP (S__law_take [(1, hd a b), (0, .int n)]) Q := by
  refine def_of ?_
  simp only [b__law_take, hd, ↓wp_R1, ↓wp_R2, ↓wp_R3, wp_ret, wp_bind, wp_mif, wp_mopt, okp_some, okp_none, okp_map, okp_bind, okp_ite, slp_some, wp_c, kind0, wp_name, wp_move, wp_op, wp_asB, wp_neg, wp_bi, wp_cons, wp_tup, wp_lst, wp_call1, wp_isi, wp_isN, wp_and, wp_or, wp_not, wp_ofB, wp_ite, wp_ifE, wp_chain, wp_chL, wp_chN, wp_ixN, there_cons0, there_succ, wp_sl, wp_scrSl, outp_ok, wp_callF, wp_callIO, wp_recv, ws_seq, ws_next, ws_expr, ws_ret, ws_retN, ws_if, ws_asg, ws_post, ws_fz, ws_drop, ws_par, ws_setI, ws_aug, ws_for, ws_loop_nil, wp_lc, lc_nil, okp_ixL, okp_ixT, okp_gixL, okp_gixT, kidN_0, kidN_1L, kidN_int, kidN_bl, kidN_str, kidN_pair, kid_some, kid_int, kid_pair, kind_int, kind_bl, kind_str, kind_non, kind_pair, kind_lst, kind_lst1, at0, at1, at2, at3, ok_gNm, ok_gTp, ok_gLs0, ok_gLs1, ok_gCo, ok_gNo, ok_slot, getP_nil, setP_nil, ok_ixOf, ixN0, ixN1, acc_int, acc_pair, acc_str, acc_same, AR.acc_zero, frz_cons0, frz_none, frz_succ, ok_scrSl, ok_tupOf, ok_lstOf, wp_dgetN, wp_dnew, ws_dput, ok_dicAt, ok_keyAt, keyOf_pair, keyOf_pairD, ok_lenD, ok_sortP, ok_sumL, ok_itZipL, ok_itZipT, ok_itEn, wp_callIOT, join_i1, ok_geA, ok_geP, ok_ltA, ok_ltP, ok_append, ok_pop, join_z1, join_z2, join_z3, join_z4, ws_raise, join_pair, AR.join_nil, pick_some, pick_none, itL_some, itT_some, hold_t, hold_s, canFz_s, ok_add, ok_addS, ok_cat, ok_sub, ok_mul, ok_div, ok_mod, ok_pow, ok_lt, ok_le, ok_gt, ok_ge, ok_toB, ok_toI, ok_max2, ok_min2, ok_int, ok_intB, ok_lenL, ok_lenT, ok_lenS, ok_eqI, ok_neI, ok_eqB, ok_neB, List.getElem?_cons_zero, List.getElem?_cons_succ, List.set_cons_zero, List.set_cons_succ, List.map_cons, List.map_nil, List.length_cons, List.length_nil, List.all_cons, List.all_nil, List.length_set, List.cons_append, List.nil_append, List.replicate, Nat.zero_add, Nat.reduceAdd, Nat.reduceLT, Nat.reduceLeDiff, Nat.reduceEqDiff, decide_eq_true_eq, Bool.false_eq_true, if_false, true_and, and_true, Bool.and_true, Bool.true_and, Bool.and_self, Bool.or_true, Bool.true_or, Option.isSome_some, if_true, Option.map_some, Option.join_some]
  have m1 := Int.emod_nonneg a (show n ≠ 0 by omega)
  have m2 := Int.emod_lt_of_pos a hn
  split
  · exact ⟨hn, ⟨hn, hl⟩, k _ _ _ m1 m2 hb⟩
  · have b1 := Int.emod_nonneg (b * 48271) (show (2147483647 : Int) ≠ 0 by omega)
    have b2 := Int.emod_lt_of_pos (b * 48271) (show (0 : Int) < 2147483647 by omega)
    refine ⟨?_, by omega, ⟨by omega, by omega, by omega⟩, ⟨by omega, by decide⟩, hn, k _ _ _ (Int.emod_nonneg _ (by omega)) (Int.emod_lt_of_pos _ hn) ⟨b1, by omega⟩⟩
    have l1 := lg hb.1 (k := 31) (by simpa using hb.2)
    have l2 : (Int.natAbs 48271).log2 = 15 := by decide
    omega
theorem out_hand {c : Int} {Q : AR.Tm → Sl → Prop} (k : ∀ a b, HandOk b → Q (1, hd a b) []) : OutP (S__law_hand [(0, .int c)]) Q := by
  refine def_of ?_
  simp only [b__law_hand, ↓wp_R1, ↓wp_R2, ↓wp_R3, wp_ret, wp_bind, wp_mif, wp_mopt, okp_some, okp_none, okp_map, okp_bind, okp_ite, slp_some, wp_c, kind0, wp_name, wp_move, wp_op, wp_asB, wp_neg, wp_bi, wp_cons, wp_tup, wp_lst, wp_call1, wp_isi, wp_isN, wp_and, wp_or, wp_not, wp_ofB, wp_ite, wp_ifE, wp_chain, wp_chL, wp_chN, wp_ixN, there_cons0, there_succ, wp_sl, wp_scrSl, outp_ok, wp_callF, wp_callIO, wp_recv, ws_seq, ws_next, ws_expr, ws_ret, ws_retN, ws_if, ws_asg, ws_post, ws_fz, ws_drop, ws_par, ws_setI, ws_aug, ws_for, ws_loop_nil, wp_lc, lc_nil, okp_ixL, okp_ixT, okp_gixL, okp_gixT, kidN_0, kidN_1L, kidN_int, kidN_bl, kidN_str, kidN_pair, kid_some, kid_int, kid_pair, kind_int, kind_bl, kind_str, kind_non, kind_pair, kind_lst, kind_lst1, at0, at1, at2, at3, ok_gNm, ok_gTp, ok_gLs0, ok_gLs1, ok_gCo, ok_gNo, ok_slot, getP_nil, setP_nil, ok_ixOf, ixN0, ixN1, acc_int, acc_pair, acc_str, acc_same, AR.acc_zero, frz_cons0, frz_none, frz_succ, ok_scrSl, ok_tupOf, ok_lstOf, wp_dgetN, wp_dnew, ws_dput, ok_dicAt, ok_keyAt, keyOf_pair, keyOf_pairD, ok_lenD, ok_sortP, ok_sumL, ok_itZipL, ok_itZipT, ok_itEn, wp_callIOT, join_i1, ok_geA, ok_geP, ok_ltA, ok_ltP, ok_append, ok_pop, join_z1, join_z2, join_z3, join_z4, ws_raise, join_pair, AR.join_nil, pick_some, pick_none, itL_some, itT_some, hold_t, hold_s, canFz_s, ok_add, ok_addS, ok_cat, ok_sub, ok_mul, ok_div, ok_mod, ok_pow, ok_lt, ok_le, ok_gt, ok_ge, ok_toB, ok_toI, ok_max2, ok_min2, ok_int, ok_intB, ok_lenL, ok_lenT, ok_lenS, ok_eqI, ok_neI, ok_eqB, ok_neB, List.getElem?_cons_zero, List.getElem?_cons_succ, List.set_cons_zero, List.set_cons_succ, List.map_cons, List.map_nil, List.length_cons, List.length_nil, List.all_cons, List.all_nil, List.length_set, List.cons_append, List.nil_append, List.replicate, Nat.zero_add, Nat.reduceAdd, Nat.reduceLT, Nat.reduceLeDiff, Nat.reduceEqDiff, decide_eq_true_eq, Bool.false_eq_true, if_false, true_and, and_true, Bool.and_true, Bool.true_and, Bool.and_self, Bool.or_true, Bool.true_or, Option.isSome_some, if_true, Option.map_some, Option.join_some]
  have m1 := Int.emod_nonneg c (show (2147483629 : Int) ≠ 0 by omega)
  have m2 := Int.emod_lt_of_pos c (show (0 : Int) < 2147483629 by omega)
  have l1 := lg (x := c % 2147483629 + 1) (k := 31) (by omega) (by omega)
  refine ⟨⟨by omega, by omega, by decide⟩, by omega, ⟨by omega, by omega, by decide⟩, ?_, k _ _ ?_⟩
  · have z1 : Nat.log2 1 = 0 := by decide
    cases (!decide (c = 10 ^ Int.toNat 18)) <;> simp <;> omega
  · cases (!decide (c = 10 ^ Int.toNat 18)) <;> simp [HandOk] <;> omega
theorem modw {x m : Int} (h0 : 0 ≤ x) (h1 : x < 2 * m) : x % m = if x < m then x else x - m := by
  split
  · exact Int.emod_eq_of_lt h0 (by assumption)
  · rw [← Int.sub_emod_right x m]
    exact Int.emod_eq_of_lt (by omega) (by omega)

/-! ### the law's rows -/
theorem out_arcs {a b : Int} {m : Nat} {Q : AR.Tm → Sl → Prop} (hb : HandOk b) (hm : m ≤ 40) (k : ∀ ts a b, HandOk b → TieOk m ts → ts.length ≤ 40 → Q (1, .lst (ts.map pairD)) [some (1, hd a b)]) : OutP (S__law_arcs [(1, hd a b), (0, .int m)]) Q := by
  refine def_of ?_
  unfold b__law_arcs
  simp only [↓wp_R1, ↓wp_R2, ↓wp_R3, wp_ret, wp_bind, wp_mif, wp_mopt, okp_some, okp_none, okp_map, okp_bind, okp_ite, slp_some, wp_c, kind0, wp_name, wp_move, wp_op, wp_asB, wp_neg, wp_bi, wp_cons, wp_tup, wp_lst, wp_call1, wp_isi, wp_isN, wp_and, wp_or, wp_not, wp_ofB, wp_ite, wp_ifE, wp_chain, wp_chL, wp_chN, wp_ixN, there_cons0, there_succ, wp_sl, wp_scrSl, outp_ok, wp_callF, wp_callIO, wp_recv, ws_seq, ws_next, ws_expr, ws_ret, ws_retN, ws_if, ws_asg, ws_post, ws_fz, ws_drop, ws_par, ws_setI, ws_aug, ws_for, ws_loop_nil, wp_lc, lc_nil, okp_ixL, okp_ixT, okp_gixL, okp_gixT, kidN_0, kidN_1L, kidN_int, kidN_bl, kidN_str, kidN_pair, kid_some, kid_int, kid_pair, kind_int, kind_bl, kind_str, kind_non, kind_pair, kind_lst, kind_lst1, at0, at1, at2, at3, ok_gNm, ok_gTp, ok_gLs0, ok_gLs1, ok_gCo, ok_gNo, ok_slot, getP_nil, setP_nil, ok_ixOf, ixN0, ixN1, acc_int, acc_pair, acc_str, acc_same, AR.acc_zero, frz_cons0, frz_none, frz_succ, ok_scrSl, ok_tupOf, ok_lstOf, wp_dgetN, wp_dnew, ws_dput, ok_dicAt, ok_keyAt, keyOf_pair, keyOf_pairD, ok_lenD, ok_sortP, ok_sumL, ok_itZipL, ok_itZipT, ok_itEn, wp_callIOT, join_i1, ok_geA, ok_geP, ok_ltA, ok_ltP, ok_append, ok_pop, join_z1, join_z2, join_z3, join_z4, ws_raise, join_pair, AR.join_nil, pick_some, pick_none, itL_some, itT_some, hold_t, hold_s, canFz_s, ok_add, ok_addS, ok_cat, ok_sub, ok_mul, ok_div, ok_mod, ok_pow, ok_lt, ok_le, ok_gt, ok_ge, ok_toB, ok_toI, ok_max2, ok_min2, ok_int, ok_intB, ok_lenL, ok_lenT, ok_lenS, ok_eqI, ok_neI, ok_eqB, ok_neB, List.getElem?_cons_zero, List.getElem?_cons_succ, List.set_cons_zero, List.set_cons_succ, List.map_cons, List.map_nil, List.length_cons, List.length_nil, List.all_cons, List.all_nil, List.length_set, List.cons_append, List.nil_append, List.replicate, Nat.zero_add, Nat.reduceAdd, Nat.reduceLT, Nat.reduceLeDiff, Nat.reduceEqDiff, decide_eq_true_eq, Bool.false_eq_true, if_false, true_and, and_true, Bool.and_true, Bool.true_and, Bool.and_self, Bool.or_true, Bool.true_or, Option.isSome_some, if_true, Option.map_some, Option.join_some]
  refine ⟨inR_small (by omega) (by omega), ?_⟩
  refine ws_loop (fun j e => ∃ xs ts a b x4 x5, e = [some (1, hd a b), some (0, .int m), some (1, .lst (ts.map pairD)), some (1, .lst (xs.map D.int)), x4, x5] ∧ HandOk b ∧ PilOk j xs ∧ xs.length ≤ j ∧ TieOk j ts ∧ ts.length ≤ j) (n := 0) ⟨[], [], a, b, _, _, rfl, hb, by simp [PilOk], by simp, by simp [TieOk], by simp⟩ (fun j d e hj he => ?_) fun e he => ?_
  · obtain ⟨xs, ts, a, b, x4, x5, rfl, hb, hx, hl, ht, hl2⟩ := he
    have hj' : j < m := by
      have := (List.getElem?_eq_some_iff.mp hj).1
      rw [upto_length] at this; omega
    rw [upto_get hj]
    simp only [L__law_arcs_1, Int.zero_add, ↓wp_R1, ↓wp_R2, ↓wp_R3, wp_ret, wp_bind, wp_mif, wp_mopt, okp_some, okp_none, okp_map, okp_bind, okp_ite, slp_some, wp_c, kind0, wp_name, wp_move, wp_op, wp_asB, wp_neg, wp_bi, wp_cons, wp_tup, wp_lst, wp_call1, wp_isi, wp_isN, wp_and, wp_or, wp_not, wp_ofB, wp_ite, wp_ifE, wp_chain, wp_chL, wp_chN, wp_ixN, there_cons0, there_succ, wp_sl, wp_scrSl, outp_ok, wp_callF, wp_callIO, wp_recv, ws_seq, ws_next, ws_expr, ws_ret, ws_retN, ws_if, ws_asg, ws_post, ws_fz, ws_drop, ws_par, ws_setI, ws_aug, ws_for, ws_loop_nil, wp_lc, lc_nil, okp_ixL, okp_ixT, okp_gixL, okp_gixT, kidN_0, kidN_1L, kidN_int, kidN_bl, kidN_str, kidN_pair, kid_some, kid_int, kid_pair, kind_int, kind_bl, kind_str, kind_non, kind_pair, kind_lst, kind_lst1, at0, at1, at2, at3, ok_gNm, ok_gTp, ok_gLs0, ok_gLs1, ok_gCo, ok_gNo, ok_slot, getP_nil, setP_nil, ok_ixOf, ixN0, ixN1, acc_int, acc_pair, acc_str, acc_same, AR.acc_zero, frz_cons0, frz_none, frz_succ, ok_scrSl, ok_tupOf, ok_lstOf, wp_dgetN, wp_dnew, ws_dput, ok_dicAt, ok_keyAt, keyOf_pair, keyOf_pairD, ok_lenD, ok_sortP, ok_sumL, ok_itZipL, ok_itZipT, ok_itEn, wp_callIOT, join_i1, ok_geA, ok_geP, ok_ltA, ok_ltP, ok_append, ok_pop, join_z1, join_z2, join_z3, join_z4, ws_raise, join_pair, AR.join_nil, pick_some, pick_none, itL_some, itT_some, hold_t, hold_s, canFz_s, ok_add, ok_addS, ok_cat, ok_sub, ok_mul, ok_div, ok_mod, ok_pow, ok_lt, ok_le, ok_gt, ok_ge, ok_toB, ok_toI, ok_max2, ok_min2, ok_int, ok_intB, ok_lenL, ok_lenT, ok_lenS, ok_eqI, ok_neI, ok_eqB, ok_neB, List.getElem?_cons_zero, List.getElem?_cons_succ, List.set_cons_zero, List.set_cons_succ, List.map_cons, List.map_nil, List.length_cons, List.length_nil, List.all_cons, List.all_nil, List.length_set, List.cons_append, List.nil_append, List.replicate, Nat.zero_add, Nat.reduceAdd, Nat.reduceLT, Nat.reduceLeDiff, Nat.reduceEqDiff, decide_eq_true_eq, Bool.false_eq_true, if_false, true_and, and_true, Bool.and_true, Bool.true_and, Bool.and_self, Bool.or_true, Bool.true_or, Option.isSome_some, if_true, Option.map_some, Option.join_some] at hx hl ht hl2 ⊢
    have pmono : ∀ {ts}, TieOk j ts → TieOk (j + 1) ts := fun h p hm => by have := h p hm; omega
    have xmono : ∀ {xs}, PilOk j xs → PilOk (j + 1) xs := fun h p hm => by have := h p hm; omega
    refine out_take hb (by omega) (by decide) fun r a1 b1 r0 r1 hb1 => ?_
    simp only [hd, ok_neNil, map_app_int, List.isEmpty_nil, ↓wp_R1, ↓wp_R2, ↓wp_R3, wp_ret, wp_bind, wp_mif, wp_mopt, okp_some, okp_none, okp_map, okp_bind, okp_ite, slp_some, wp_c, kind0, wp_name, wp_move, wp_op, wp_asB, wp_neg, wp_bi, wp_cons, wp_tup, wp_lst, wp_call1, wp_isi, wp_isN, wp_and, wp_or, wp_not, wp_ofB, wp_ite, wp_ifE, wp_chain, wp_chL, wp_chN, wp_ixN, there_cons0, there_succ, wp_sl, wp_scrSl, outp_ok, wp_callF, wp_callIO, wp_recv, ws_seq, ws_next, ws_expr, ws_ret, ws_retN, ws_if, ws_asg, ws_post, ws_fz, ws_drop, ws_par, ws_setI, ws_aug, ws_for, ws_loop_nil, wp_lc, lc_nil, okp_ixL, okp_ixT, okp_gixL, okp_gixT, kidN_0, kidN_1L, kidN_int, kidN_bl, kidN_str, kidN_pair, kid_some, kid_int, kid_pair, kind_int, kind_bl, kind_str, kind_non, kind_pair, kind_lst, kind_lst1, at0, at1, at2, at3, ok_gNm, ok_gTp, ok_gLs0, ok_gLs1, ok_gCo, ok_gNo, ok_slot, getP_nil, setP_nil, ok_ixOf, ixN0, ixN1, acc_int, acc_pair, acc_str, acc_same, AR.acc_zero, frz_cons0, frz_none, frz_succ, ok_scrSl, ok_tupOf, ok_lstOf, wp_dgetN, wp_dnew, ws_dput, ok_dicAt, ok_keyAt, keyOf_pair, keyOf_pairD, ok_lenD, ok_sortP, ok_sumL, ok_itZipL, ok_itZipT, ok_itEn, wp_callIOT, join_i1, ok_geA, ok_geP, ok_ltA, ok_ltP, ok_append, ok_pop, join_z1, join_z2, join_z3, join_z4, ws_raise, join_pair, AR.join_nil, pick_some, pick_none, itL_some, itT_some, hold_t, hold_s, canFz_s, ok_add, ok_addS, ok_cat, ok_sub, ok_mul, ok_div, ok_mod, ok_pow, ok_lt, ok_le, ok_gt, ok_ge, ok_toB, ok_toI, ok_max2, ok_min2, ok_int, ok_intB, ok_lenL, ok_lenT, ok_lenS, ok_eqI, ok_neI, ok_eqB, ok_neB, List.getElem?_cons_zero, List.getElem?_cons_succ, List.set_cons_zero, List.set_cons_succ, List.map_cons, List.map_nil, List.length_cons, List.length_nil, List.all_cons, List.all_nil, List.length_set, List.cons_append, List.nil_append, List.replicate, Nat.zero_add, Nat.reduceAdd, Nat.reduceLT, Nat.reduceLeDiff, Nat.reduceEqDiff, decide_eq_true_eq, Bool.false_eq_true, if_false, true_and, and_true, Bool.and_true, Bool.true_and, Bool.and_self, Bool.or_true, Bool.true_or, Option.isSome_some, if_true, Option.map_some, Option.join_some]
    by_cases e1 : r = 1
    · have e2 : ¬ r = 2 := by omega
      simp only [e1, decide_true, decide_false, if_true, if_false, Bool.false_eq_true, ↓wp_R1, ↓wp_R2, ↓wp_R3, wp_ret, wp_bind, wp_mif, wp_mopt, okp_some, okp_none, okp_map, okp_bind, okp_ite, slp_some, wp_c, kind0, wp_name, wp_move, wp_op, wp_asB, wp_neg, wp_bi, wp_cons, wp_tup, wp_lst, wp_call1, wp_isi, wp_isN, wp_and, wp_or, wp_not, wp_ofB, wp_ite, wp_ifE, wp_chain, wp_chL, wp_chN, wp_ixN, there_cons0, there_succ, wp_sl, wp_scrSl, outp_ok, wp_callF, wp_callIO, wp_recv, ws_seq, ws_next, ws_expr, ws_ret, ws_retN, ws_if, ws_asg, ws_post, ws_fz, ws_drop, ws_par, ws_setI, ws_aug, ws_for, ws_loop_nil, wp_lc, lc_nil, okp_ixL, okp_ixT, okp_gixL, okp_gixT, kidN_0, kidN_1L, kidN_int, kidN_bl, kidN_str, kidN_pair, kid_some, kid_int, kid_pair, kind_int, kind_bl, kind_str, kind_non, kind_pair, kind_lst, kind_lst1, at0, at1, at2, at3, ok_gNm, ok_gTp, ok_gLs0, ok_gLs1, ok_gCo, ok_gNo, ok_slot, getP_nil, setP_nil, ok_ixOf, ixN0, ixN1, acc_int, acc_pair, acc_str, acc_same, AR.acc_zero, frz_cons0, frz_none, frz_succ, ok_scrSl, ok_tupOf, ok_lstOf, wp_dgetN, wp_dnew, ws_dput, ok_dicAt, ok_keyAt, keyOf_pair, keyOf_pairD, ok_lenD, ok_sortP, ok_sumL, ok_itZipL, ok_itZipT, ok_itEn, wp_callIOT, join_i1, ok_geA, ok_geP, ok_ltA, ok_ltP, ok_append, ok_pop, join_z1, join_z2, join_z3, join_z4, ws_raise, join_pair, AR.join_nil, pick_some, pick_none, itL_some, itT_some, hold_t, hold_s, canFz_s, ok_add, ok_addS, ok_cat, ok_sub, ok_mul, ok_div, ok_mod, ok_pow, ok_lt, ok_le, ok_gt, ok_ge, ok_toB, ok_toI, ok_max2, ok_min2, ok_int, ok_intB, ok_lenL, ok_lenT, ok_lenS, ok_eqI, ok_neI, ok_eqB, ok_neB, List.getElem?_cons_zero, List.getElem?_cons_succ, List.set_cons_zero, List.set_cons_succ, List.map_cons, List.map_nil, List.length_cons, List.length_nil, List.all_cons, List.all_nil, List.length_set, List.cons_append, List.nil_append, List.replicate, Nat.zero_add, Nat.reduceAdd, Nat.reduceLT, Nat.reduceLeDiff, Nat.reduceEqDiff, decide_eq_true_eq, Bool.false_eq_true, if_false, true_and, and_true, Bool.and_true, Bool.true_and, Bool.and_self, Bool.or_true, Bool.true_or, Option.isSome_some, if_true, Option.map_some, Option.join_some]
      refine ⟨by simp; omega, ?_⟩
      rw [if_neg (by decide)]
      refine ⟨_, _, _, _, _, _, rfl, hb1, fun p hm => ?_, by simp; omega, pmono ht, by omega⟩
      rcases List.mem_append.mp hm with h | h
      · exact xmono hx p h
      · simp at h; subst h; omega
    · by_cases e2 : r = 2
      · simp only [e1, e2, decide_true, decide_false, if_true, if_false, Bool.false_eq_true, ↓wp_R1, ↓wp_R2, ↓wp_R3, wp_ret, wp_bind, wp_mif, wp_mopt, okp_some, okp_none, okp_map, okp_bind, okp_ite, slp_some, wp_c, kind0, wp_name, wp_move, wp_op, wp_asB, wp_neg, wp_bi, wp_cons, wp_tup, wp_lst, wp_call1, wp_isi, wp_isN, wp_and, wp_or, wp_not, wp_ofB, wp_ite, wp_ifE, wp_chain, wp_chL, wp_chN, wp_ixN, there_cons0, there_succ, wp_sl, wp_scrSl, outp_ok, wp_callF, wp_callIO, wp_recv, ws_seq, ws_next, ws_expr, ws_ret, ws_retN, ws_if, ws_asg, ws_post, ws_fz, ws_drop, ws_par, ws_setI, ws_aug, ws_for, ws_loop_nil, wp_lc, lc_nil, okp_ixL, okp_ixT, okp_gixL, okp_gixT, kidN_0, kidN_1L, kidN_int, kidN_bl, kidN_str, kidN_pair, kid_some, kid_int, kid_pair, kind_int, kind_bl, kind_str, kind_non, kind_pair, kind_lst, kind_lst1, at0, at1, at2, at3, ok_gNm, ok_gTp, ok_gLs0, ok_gLs1, ok_gCo, ok_gNo, ok_slot, getP_nil, setP_nil, ok_ixOf, ixN0, ixN1, acc_int, acc_pair, acc_str, acc_same, AR.acc_zero, frz_cons0, frz_none, frz_succ, ok_scrSl, ok_tupOf, ok_lstOf, wp_dgetN, wp_dnew, ws_dput, ok_dicAt, ok_keyAt, keyOf_pair, keyOf_pairD, ok_lenD, ok_sortP, ok_sumL, ok_itZipL, ok_itZipT, ok_itEn, wp_callIOT, join_i1, ok_geA, ok_geP, ok_ltA, ok_ltP, ok_append, ok_pop, join_z1, join_z2, join_z3, join_z4, ws_raise, join_pair, AR.join_nil, pick_some, pick_none, itL_some, itT_some, hold_t, hold_s, canFz_s, ok_add, ok_addS, ok_cat, ok_sub, ok_mul, ok_div, ok_mod, ok_pow, ok_lt, ok_le, ok_gt, ok_ge, ok_toB, ok_toI, ok_max2, ok_min2, ok_int, ok_intB, ok_lenL, ok_lenT, ok_lenS, ok_eqI, ok_neI, ok_eqB, ok_neB, List.getElem?_cons_zero, List.getElem?_cons_succ, List.set_cons_zero, List.set_cons_succ, List.map_cons, List.map_nil, List.length_cons, List.length_nil, List.all_cons, List.all_nil, List.length_set, List.cons_append, List.nil_append, List.replicate, Nat.zero_add, Nat.reduceAdd, Nat.reduceLT, Nat.reduceLeDiff, Nat.reduceEqDiff, decide_eq_true_eq, Bool.false_eq_true, if_false, true_and, and_true, Bool.and_true, Bool.true_and, Bool.and_self, Bool.or_true, Bool.true_or, Option.isSome_some, if_true, Option.map_some, Option.join_some]
        rw [if_neg (by decide)]
        by_cases hne : xs = []
        · subst hne
          simp only [decide_true, Bool.not_true, Bool.false_eq_true, if_false]
          exact ⟨[], _, _, _, _, _, rfl, hb1, xmono hx, by omega, pmono ht, by omega⟩
        · simp only [hne, decide_false, Bool.not_false, if_true]
          obtain ⟨ys, y, rfl⟩ := (List.eq_nil_or_concat xs).resolve_left hne
          rw [List.concat_eq_append] at *
          simp only [last_get, last_cut, map_app_pair, List.isEmpty_nil, ↓wp_R1, ↓wp_R2, ↓wp_R3, wp_ret, wp_bind, wp_mif, wp_mopt, okp_some, okp_none, okp_map, okp_bind, okp_ite, slp_some, wp_c, kind0, wp_name, wp_move, wp_op, wp_asB, wp_neg, wp_bi, wp_cons, wp_tup, wp_lst, wp_call1, wp_isi, wp_isN, wp_and, wp_or, wp_not, wp_ofB, wp_ite, wp_ifE, wp_chain, wp_chL, wp_chN, wp_ixN, there_cons0, there_succ, wp_sl, wp_scrSl, outp_ok, wp_callF, wp_callIO, wp_recv, ws_seq, ws_next, ws_expr, ws_ret, ws_retN, ws_if, ws_asg, ws_post, ws_fz, ws_drop, ws_par, ws_setI, ws_aug, ws_for, ws_loop_nil, wp_lc, lc_nil, okp_ixL, okp_ixT, okp_gixL, okp_gixT, kidN_0, kidN_1L, kidN_int, kidN_bl, kidN_str, kidN_pair, kid_some, kid_int, kid_pair, kind_int, kind_bl, kind_str, kind_non, kind_pair, kind_lst, kind_lst1, at0, at1, at2, at3, ok_gNm, ok_gTp, ok_gLs0, ok_gLs1, ok_gCo, ok_gNo, ok_slot, getP_nil, setP_nil, ok_ixOf, ixN0, ixN1, acc_int, acc_pair, acc_str, acc_same, AR.acc_zero, frz_cons0, frz_none, frz_succ, ok_scrSl, ok_tupOf, ok_lstOf, wp_dgetN, wp_dnew, ws_dput, ok_dicAt, ok_keyAt, keyOf_pair, keyOf_pairD, ok_lenD, ok_sortP, ok_sumL, ok_itZipL, ok_itZipT, ok_itEn, wp_callIOT, join_i1, ok_geA, ok_geP, ok_ltA, ok_ltP, ok_append, ok_pop, join_z1, join_z2, join_z3, join_z4, ws_raise, join_pair, AR.join_nil, pick_some, pick_none, itL_some, itT_some, hold_t, hold_s, canFz_s, ok_add, ok_addS, ok_cat, ok_sub, ok_mul, ok_div, ok_mod, ok_pow, ok_lt, ok_le, ok_gt, ok_ge, ok_toB, ok_toI, ok_max2, ok_min2, ok_int, ok_intB, ok_lenL, ok_lenT, ok_lenS, ok_eqI, ok_neI, ok_eqB, ok_neB, List.getElem?_cons_zero, List.getElem?_cons_succ, List.set_cons_zero, List.set_cons_succ, List.map_cons, List.map_nil, List.length_cons, List.length_nil, List.all_cons, List.all_nil, List.length_set, List.cons_append, List.nil_append, List.replicate, Nat.zero_add, Nat.reduceAdd, Nat.reduceLT, Nat.reduceLeDiff, Nat.reduceEqDiff, decide_eq_true_eq, Bool.false_eq_true, if_false, true_and, and_true, Bool.and_true, Bool.true_and, Bool.and_self, Bool.or_true, Bool.true_or, Option.isSome_some, if_true, Option.map_some, Option.join_some]
          have h1 := hx y (by simp)
          refine ⟨?_, ys, _, a1, b1, _, _, rfl, hb1, xmono fun p hm => hx p (by simp [hm]), by simp at hl; omega, fun p hm => ?_, by simp; omega⟩
          · simp; omega
          · rcases List.mem_append.mp hm with h | h
            · exact pmono ht p h
            · simp at h; subst h; simp only; omega
      · simp only [e1, e2, decide_false, if_false, Bool.false_eq_true, ↓wp_R1, ↓wp_R2, ↓wp_R3, wp_ret, wp_bind, wp_mif, wp_mopt, okp_some, okp_none, okp_map, okp_bind, okp_ite, slp_some, wp_c, kind0, wp_name, wp_move, wp_op, wp_asB, wp_neg, wp_bi, wp_cons, wp_tup, wp_lst, wp_call1, wp_isi, wp_isN, wp_and, wp_or, wp_not, wp_ofB, wp_ite, wp_ifE, wp_chain, wp_chL, wp_chN, wp_ixN, there_cons0, there_succ, wp_sl, wp_scrSl, outp_ok, wp_callF, wp_callIO, wp_recv, ws_seq, ws_next, ws_expr, ws_ret, ws_retN, ws_if, ws_asg, ws_post, ws_fz, ws_drop, ws_par, ws_setI, ws_aug, ws_for, ws_loop_nil, wp_lc, lc_nil, okp_ixL, okp_ixT, okp_gixL, okp_gixT, kidN_0, kidN_1L, kidN_int, kidN_bl, kidN_str, kidN_pair, kid_some, kid_int, kid_pair, kind_int, kind_bl, kind_str, kind_non, kind_pair, kind_lst, kind_lst1, at0, at1, at2, at3, ok_gNm, ok_gTp, ok_gLs0, ok_gLs1, ok_gCo, ok_gNo, ok_slot, getP_nil, setP_nil, ok_ixOf, ixN0, ixN1, acc_int, acc_pair, acc_str, acc_same, AR.acc_zero, frz_cons0, frz_none, frz_succ, ok_scrSl, ok_tupOf, ok_lstOf, wp_dgetN, wp_dnew, ws_dput, ok_dicAt, ok_keyAt, keyOf_pair, keyOf_pairD, ok_lenD, ok_sortP, ok_sumL, ok_itZipL, ok_itZipT, ok_itEn, wp_callIOT, join_i1, ok_geA, ok_geP, ok_ltA, ok_ltP, ok_append, ok_pop, join_z1, join_z2, join_z3, join_z4, ws_raise, join_pair, AR.join_nil, pick_some, pick_none, itL_some, itT_some, hold_t, hold_s, canFz_s, ok_add, ok_addS, ok_cat, ok_sub, ok_mul, ok_div, ok_mod, ok_pow, ok_lt, ok_le, ok_gt, ok_ge, ok_toB, ok_toI, ok_max2, ok_min2, ok_int, ok_intB, ok_lenL, ok_lenT, ok_lenS, ok_eqI, ok_neI, ok_eqB, ok_neB, List.getElem?_cons_zero, List.getElem?_cons_succ, List.set_cons_zero, List.set_cons_succ, List.map_cons, List.map_nil, List.length_cons, List.length_nil, List.all_cons, List.all_nil, List.length_set, List.cons_append, List.nil_append, List.replicate, Nat.zero_add, Nat.reduceAdd, Nat.reduceLT, Nat.reduceLeDiff, Nat.reduceEqDiff, decide_eq_true_eq, Bool.false_eq_true, if_false, true_and, and_true, Bool.and_true, Bool.true_and, Bool.and_self, Bool.or_true, Bool.true_or, Option.isSome_some, if_true, Option.map_some, Option.join_some]
        exact ⟨_, _, _, _, _, _, rfl, hb1, xmono hx, by omega, pmono ht, by omega⟩
  · obtain ⟨xs, ts, a, b, x4, x5, rfl, hb, hx, hl, ht, hl2⟩ := he
    rw [upto_length] at hl ht hl2 hx
    simp only [↓wp_R1, ↓wp_R2, ↓wp_R3, wp_ret, wp_bind, wp_mif, wp_mopt, okp_some, okp_none, okp_map, okp_bind, okp_ite, slp_some, wp_c, kind0, wp_name, wp_move, wp_op, wp_asB, wp_neg, wp_bi, wp_cons, wp_tup, wp_lst, wp_call1, wp_isi, wp_isN, wp_and, wp_or, wp_not, wp_ofB, wp_ite, wp_ifE, wp_chain, wp_chL, wp_chN, wp_ixN, there_cons0, there_succ, wp_sl, wp_scrSl, outp_ok, wp_callF, wp_callIO, wp_recv, ws_seq, ws_next, ws_expr, ws_ret, ws_retN, ws_if, ws_asg, ws_post, ws_fz, ws_drop, ws_par, ws_setI, ws_aug, ws_for, ws_loop_nil, wp_lc, lc_nil, okp_ixL, okp_ixT, okp_gixL, okp_gixT, kidN_0, kidN_1L, kidN_int, kidN_bl, kidN_str, kidN_pair, kid_some, kid_int, kid_pair, kind_int, kind_bl, kind_str, kind_non, kind_pair, kind_lst, kind_lst1, at0, at1, at2, at3, ok_gNm, ok_gTp, ok_gLs0, ok_gLs1, ok_gCo, ok_gNo, ok_slot, getP_nil, setP_nil, ok_ixOf, ixN0, ixN1, acc_int, acc_pair, acc_str, acc_same, AR.acc_zero, frz_cons0, frz_none, frz_succ, ok_scrSl, ok_tupOf, ok_lstOf, wp_dgetN, wp_dnew, ws_dput, ok_dicAt, ok_keyAt, keyOf_pair, keyOf_pairD, ok_lenD, ok_sortP, ok_sumL, ok_itZipL, ok_itZipT, ok_itEn, wp_callIOT, join_i1, ok_geA, ok_geP, ok_ltA, ok_ltP, ok_append, ok_pop, join_z1, join_z2, join_z3, join_z4, ws_raise, join_pair, AR.join_nil, pick_some, pick_none, itL_some, itT_some, hold_t, hold_s, canFz_s, ok_add, ok_addS, ok_cat, ok_sub, ok_mul, ok_div, ok_mod, ok_pow, ok_lt, ok_le, ok_gt, ok_ge, ok_toB, ok_toI, ok_max2, ok_min2, ok_int, ok_intB, ok_lenL, ok_lenT, ok_lenS, ok_eqI, ok_neI, ok_eqB, ok_neB, List.getElem?_cons_zero, List.getElem?_cons_succ, List.set_cons_zero, List.set_cons_succ, List.map_cons, List.map_nil, List.length_cons, List.length_nil, List.all_cons, List.all_nil, List.length_set, List.cons_append, List.nil_append, List.replicate, Nat.zero_add, Nat.reduceAdd, Nat.reduceLT, Nat.reduceLeDiff, Nat.reduceEqDiff, decide_eq_true_eq, Bool.false_eq_true, if_false, true_and, and_true, Bool.and_true, Bool.true_and, Bool.and_self, Bool.or_true, Bool.true_or, Option.isSome_some, if_true, Option.map_some, Option.join_some]
    have e : 0 + Int.toNat (m : Int) = m := by omega
    rw [e] at hl ht hl2
    exact k _ _ _ hb (fun p h => ht p ((sortP_perm ts).mem_iff.mp h)) (by rw [(sortP_perm ts).length_eq]; omega)

end LW

set_option Elab.async false
set_option linter.all false
set_option maxRecDepth 100000
set_option maxHeartbeats 400000
namespace LW
open PySem L2 AR
theorem tie_drawn {m : Nat} {r s : Int} (h2 : 2 ≤ m) (r0 : 0 ≤ r) (r1 : r < m) (s0 : 0 ≤ s) (s1 : s < (m : Int) - 1) : 0 ≤ min r ((r + 1 + s) % m) ∧ min r ((r + 1 + s) % m) < max r ((r + 1 + s) % m) ∧ max r ((r + 1 + s) % m) < m := by
  rw [modw (by omega) (by omega)]
  split <;> omega
theorem tieOk_app {m : Nat} {ts us : List Pr} (h : TieOk m ts) (g : TieOk m us) : TieOk m (ts ++ us) := fun p hp => (List.mem_append.mp hp).elim (h p) (g p)
theorem tieOk_one {m : Nat} {p : Pr} (h : 0 ≤ p.1 ∧ p.1 < p.2 ∧ p.2 < m) : TieOk m [p] := fun q hq => by simp at hq; subst hq; exact h
theorem pick5 {r : Int} (h0 : 0 ≤ r) (h1 : r < 3) : ∃ d : Int, atI [D.int 5, D.int 12, D.int 301] r = some (.int d) ∧ 0 < d ∧ d ≤ 301 := by
  obtain h | h | h : r = 0 ∨ r = 1 ∨ r = 2 := by omega
  · subst h; exact ⟨_, at0, by decide, by decide⟩
  · subst h; exact ⟨_, at1, by decide, by decide⟩
  · subst h; exact ⟨_, at2, by decide, by decide⟩
theorem ties_one {m : Nat} {w : Int} (h2 : 2 ≤ m) (hm : m ≤ 40) {a b : Int} {ts : List Pr} {x4 x5 x6 x7 x8 x9 x10 : Option AR.Tm} {N : Sl → Prop} {R : Nat → D → Sl → Prop} (hb : HandOk b) (hl : ts.length ≤ 1000) (ht : TieOk m ts)
    (k : ∀ p a b x5 x6, HandOk b → TieOk m (ts ++ [p]) → N [some (1, hd a b), some (0, .int m), some (0, .int w), some (1, .lst ((ts ++ [p]).map pairD)), x4, x5, x6, x7, x8, x9, x10]) :
    Ws L__law_ties_1 [some (1, hd a b), some (0, .int m), some (0, .int w), some (1, .lst (ts.map pairD)), x4, x5, x6, x7, x8, x9, x10] N R := by
  simp only [L__law_ties_1, ↓wp_R1, ↓wp_R2, ↓wp_R3, wp_ret, wp_bind, wp_mif, wp_mopt, okp_some, okp_none, okp_map, okp_bind, okp_ite, slp_some, wp_c, kind0, wp_name, wp_move, wp_op, wp_asB, wp_neg, wp_bi, wp_cons, wp_tup, wp_lst, wp_call1, wp_isi, wp_isN, wp_and, wp_or, wp_not, wp_ofB, wp_ite, wp_ifE, wp_chain, wp_chL, wp_chN, wp_ixN, there_cons0, there_succ, wp_sl, wp_scrSl, outp_ok, wp_callF, wp_callIO, wp_recv, ws_seq, ws_next, ws_expr, ws_ret, ws_retN, ws_if, ws_asg, ws_post, ws_fz, ws_drop, ws_par, ws_setI, ws_aug, ws_for, ws_loop_nil, wp_lc, lc_nil, okp_ixL, okp_ixT, okp_gixL, okp_gixT, kidN_0, kidN_1L, kidN_int, kidN_bl, kidN_str, kidN_pair, kid_some, kid_int, kid_pair, kind_int, kind_bl, kind_str, kind_non, kind_pair, kind_lst, kind_lst1, at0, at1, at2, at3, ok_gNm, ok_gTp, ok_gLs0, ok_gLs1, ok_gCo, ok_gNo, ok_slot, getP_nil, setP_nil, ok_ixOf, ixN0, ixN1, acc_int, acc_pair, acc_str, acc_same, AR.acc_zero, frz_cons0, frz_none, frz_succ, ok_scrSl, ok_tupOf, ok_lstOf, wp_dgetN, wp_dnew, ws_dput, ok_dicAt, ok_keyAt, keyOf_pair, keyOf_pairD, ok_lenD, ok_sortP, ok_sumL, ok_itZipL, ok_itZipT, ok_itEn, wp_callIOT, join_i1, ok_geA, ok_geP, ok_ltA, ok_ltP, ok_append, ok_pop, join_z1, join_z2, join_z3, join_z4, ws_raise, join_pair, AR.join_nil, pick_some, pick_none, itL_some, itT_some, hold_t, hold_s, canFz_s, ok_add, ok_addS, ok_cat, ok_sub, ok_mul, ok_div, ok_mod, ok_pow, ok_lt, ok_le, ok_gt, ok_ge, ok_toB, ok_toI, ok_max2, ok_min2, ok_int, ok_intB, ok_lenL, ok_lenT, ok_lenS, ok_eqI, ok_neI, ok_eqB, ok_neB, List.getElem?_cons_zero, List.getElem?_cons_succ, List.set_cons_zero, List.set_cons_succ, List.map_cons, List.map_nil, List.length_cons, List.length_nil, List.all_cons, List.all_nil, List.length_set, List.cons_append, List.nil_append, List.replicate, Nat.zero_add, Nat.reduceAdd, Nat.reduceLT, Nat.reduceLeDiff, Nat.reduceEqDiff, decide_eq_true_eq, Bool.false_eq_true, if_false, true_and, and_true, Bool.and_true, Bool.true_and, Bool.and_self, Bool.or_true, Bool.true_or, Option.isSome_some, if_true, Option.map_some, Option.join_some]
  refine out_take hb (by omega) (lg2 (y := 41) (k := 10) (by omega) (by omega) (by decide) (by decide)) fun r a1 b1 r0 r1 hb1 => ?_
  simp only [↓wp_R1, ↓wp_R2, ↓wp_R3, wp_ret, wp_bind, wp_mif, wp_mopt, okp_some, okp_none, okp_map, okp_bind, okp_ite, slp_some, wp_c, kind0, wp_name, wp_move, wp_op, wp_asB, wp_neg, wp_bi, wp_cons, wp_tup, wp_lst, wp_call1, wp_isi, wp_isN, wp_and, wp_or, wp_not, wp_ofB, wp_ite, wp_ifE, wp_chain, wp_chL, wp_chN, wp_ixN, there_cons0, there_succ, wp_sl, wp_scrSl, outp_ok, wp_callF, wp_callIO, wp_recv, ws_seq, ws_next, ws_expr, ws_ret, ws_retN, ws_if, ws_asg, ws_post, ws_fz, ws_drop, ws_par, ws_setI, ws_aug, ws_for, ws_loop_nil, wp_lc, lc_nil, okp_ixL, okp_ixT, okp_gixL, okp_gixT, kidN_0, kidN_1L, kidN_int, kidN_bl, kidN_str, kidN_pair, kid_some, kid_int, kid_pair, kind_int, kind_bl, kind_str, kind_non, kind_pair, kind_lst, kind_lst1, at0, at1, at2, at3, ok_gNm, ok_gTp, ok_gLs0, ok_gLs1, ok_gCo, ok_gNo, ok_slot, getP_nil, setP_nil, ok_ixOf, ixN0, ixN1, acc_int, acc_pair, acc_str, acc_same, AR.acc_zero, frz_cons0, frz_none, frz_succ, ok_scrSl, ok_tupOf, ok_lstOf, wp_dgetN, wp_dnew, ws_dput, ok_dicAt, ok_keyAt, keyOf_pair, keyOf_pairD, ok_lenD, ok_sortP, ok_sumL, ok_itZipL, ok_itZipT, ok_itEn, wp_callIOT, join_i1, ok_geA, ok_geP, ok_ltA, ok_ltP, ok_append, ok_pop, join_z1, join_z2, join_z3, join_z4, ws_raise, join_pair, AR.join_nil, pick_some, pick_none, itL_some, itT_some, hold_t, hold_s, canFz_s, ok_add, ok_addS, ok_cat, ok_sub, ok_mul, ok_div, ok_mod, ok_pow, ok_lt, ok_le, ok_gt, ok_ge, ok_toB, ok_toI, ok_max2, ok_min2, ok_int, ok_intB, ok_lenL, ok_lenT, ok_lenS, ok_eqI, ok_neI, ok_eqB, ok_neB, List.getElem?_cons_zero, List.getElem?_cons_succ, List.set_cons_zero, List.set_cons_succ, List.map_cons, List.map_nil, List.length_cons, List.length_nil, List.all_cons, List.all_nil, List.length_set, List.cons_append, List.nil_append, List.replicate, Nat.zero_add, Nat.reduceAdd, Nat.reduceLT, Nat.reduceLeDiff, Nat.reduceEqDiff, decide_eq_true_eq, Bool.false_eq_true, if_false, true_and, and_true, Bool.and_true, Bool.true_and, Bool.and_self, Bool.or_true, Bool.true_or, Option.isSome_some, if_true, Option.map_some, Option.join_some]
  refine out_take hb1 (by omega) (lg2 (y := 41) (k := 10) (by omega) (by omega) (by decide) (by decide)) fun s a2 b2 s0 s1 hb2 => ?_
  simp only [map_app_pair, List.isEmpty_nil, List.length_map, ↓wp_R1, ↓wp_R2, ↓wp_R3, wp_ret, wp_bind, wp_mif, wp_mopt, okp_some, okp_none, okp_map, okp_bind, okp_ite, slp_some, wp_c, kind0, wp_name, wp_move, wp_op, wp_asB, wp_neg, wp_bi, wp_cons, wp_tup, wp_lst, wp_call1, wp_isi, wp_isN, wp_and, wp_or, wp_not, wp_ofB, wp_ite, wp_ifE, wp_chain, wp_chL, wp_chN, wp_ixN, there_cons0, there_succ, wp_sl, wp_scrSl, outp_ok, wp_callF, wp_callIO, wp_recv, ws_seq, ws_next, ws_expr, ws_ret, ws_retN, ws_if, ws_asg, ws_post, ws_fz, ws_drop, ws_par, ws_setI, ws_aug, ws_for, ws_loop_nil, wp_lc, lc_nil, okp_ixL, okp_ixT, okp_gixL, okp_gixT, kidN_0, kidN_1L, kidN_int, kidN_bl, kidN_str, kidN_pair, kid_some, kid_int, kid_pair, kind_int, kind_bl, kind_str, kind_non, kind_pair, kind_lst, kind_lst1, at0, at1, at2, at3, ok_gNm, ok_gTp, ok_gLs0, ok_gLs1, ok_gCo, ok_gNo, ok_slot, getP_nil, setP_nil, ok_ixOf, ixN0, ixN1, acc_int, acc_pair, acc_str, acc_same, AR.acc_zero, frz_cons0, frz_none, frz_succ, ok_scrSl, ok_tupOf, ok_lstOf, wp_dgetN, wp_dnew, ws_dput, ok_dicAt, ok_keyAt, keyOf_pair, keyOf_pairD, ok_lenD, ok_sortP, ok_sumL, ok_itZipL, ok_itZipT, ok_itEn, wp_callIOT, join_i1, ok_geA, ok_geP, ok_ltA, ok_ltP, ok_append, ok_pop, join_z1, join_z2, join_z3, join_z4, ws_raise, join_pair, AR.join_nil, pick_some, pick_none, itL_some, itT_some, hold_t, hold_s, canFz_s, ok_add, ok_addS, ok_cat, ok_sub, ok_mul, ok_div, ok_mod, ok_pow, ok_lt, ok_le, ok_gt, ok_ge, ok_toB, ok_toI, ok_max2, ok_min2, ok_int, ok_intB, ok_lenL, ok_lenT, ok_lenS, ok_eqI, ok_neI, ok_eqB, ok_neB, List.getElem?_cons_zero, List.getElem?_cons_succ, List.set_cons_zero, List.set_cons_succ, List.map_cons, List.map_nil, List.length_cons, List.length_nil, List.all_cons, List.all_nil, List.length_set, List.cons_append, List.nil_append, List.replicate, Nat.zero_add, Nat.reduceAdd, Nat.reduceLT, Nat.reduceLeDiff, Nat.reduceEqDiff, decide_eq_true_eq, Bool.false_eq_true, if_false, true_and, and_true, Bool.and_true, Bool.true_and, Bool.and_self, Bool.or_true, Bool.true_or, Option.isSome_some, if_true, Option.map_some, Option.join_some]
  exact ⟨by omega, by omega, k _ _ _ _ _ hb2 (tieOk_app ht (tieOk_one (tie_drawn h2 r0 r1 s0 s1)))⟩
theorem ties_near {m : Nat} {w h : Int} {j : Nat} (hj : j < m) (hm : m ≤ 40) (h0 : 1 ≤ h) (h6 : h ≤ 6) {a b : Int} {ts : List Pr} {x4 x6 x8 x9 x10 : Option AR.Tm} {N : Sl → Prop} {R : Nat → D → Sl → Prop} (hb : HandOk b) (hl : ts.length ≤ 6 * j) (ht : TieOk m ts)
    (k : ∀ us a b x6, HandOk b → TieOk m us → us.length ≤ 6 * (j + 1) → N [some (1, hd a b), some (0, .int m), some (0, .int w), some (1, .lst (us.map pairD)), x4, some (0, .int j), x6, some (0, .int h), x8, x9, x10]) :
    Ws L__law_ties_3 [some (1, hd a b), some (0, .int m), some (0, .int w), some (1, .lst (ts.map pairD)), x4, some (0, .int j), x6, some (0, .int h), x8, x9, x10] N R := by
  simp only [L__law_ties_3, ↓wp_R1, ↓wp_R2, ↓wp_R3, wp_ret, wp_bind, wp_mif, wp_mopt, okp_some, okp_none, okp_map, okp_bind, okp_ite, slp_some, wp_c, kind0, wp_name, wp_move, wp_op, wp_asB, wp_neg, wp_bi, wp_cons, wp_tup, wp_lst, wp_call1, wp_isi, wp_isN, wp_and, wp_or, wp_not, wp_ofB, wp_ite, wp_ifE, wp_chain, wp_chL, wp_chN, wp_ixN, there_cons0, there_succ, wp_sl, wp_scrSl, outp_ok, wp_callF, wp_callIO, wp_recv, ws_seq, ws_next, ws_expr, ws_ret, ws_retN, ws_if, ws_asg, ws_post, ws_fz, ws_drop, ws_par, ws_setI, ws_aug, ws_for, ws_loop_nil, wp_lc, lc_nil, okp_ixL, okp_ixT, okp_gixL, okp_gixT, kidN_0, kidN_1L, kidN_int, kidN_bl, kidN_str, kidN_pair, kid_some, kid_int, kid_pair, kind_int, kind_bl, kind_str, kind_non, kind_pair, kind_lst, kind_lst1, at0, at1, at2, at3, ok_gNm, ok_gTp, ok_gLs0, ok_gLs1, ok_gCo, ok_gNo, ok_slot, getP_nil, setP_nil, ok_ixOf, ixN0, ixN1, acc_int, acc_pair, acc_str, acc_same, AR.acc_zero, frz_cons0, frz_none, frz_succ, ok_scrSl, ok_tupOf, ok_lstOf, wp_dgetN, wp_dnew, ws_dput, ok_dicAt, ok_keyAt, keyOf_pair, keyOf_pairD, ok_lenD, ok_sortP, ok_sumL, ok_itZipL, ok_itZipT, ok_itEn, wp_callIOT, join_i1, ok_geA, ok_geP, ok_ltA, ok_ltP, ok_append, ok_pop, join_z1, join_z2, join_z3, join_z4, ws_raise, join_pair, AR.join_nil, pick_some, pick_none, itL_some, itT_some, hold_t, hold_s, canFz_s, ok_add, ok_addS, ok_cat, ok_sub, ok_mul, ok_div, ok_mod, ok_pow, ok_lt, ok_le, ok_gt, ok_ge, ok_toB, ok_toI, ok_max2, ok_min2, ok_int, ok_intB, ok_lenL, ok_lenT, ok_lenS, ok_eqI, ok_neI, ok_eqB, ok_neB, List.getElem?_cons_zero, List.getElem?_cons_succ, List.set_cons_zero, List.set_cons_succ, List.map_cons, List.map_nil, List.length_cons, List.length_nil, List.all_cons, List.all_nil, List.length_set, List.cons_append, List.nil_append, List.replicate, Nat.zero_add, Nat.reduceAdd, Nat.reduceLT, Nat.reduceLeDiff, Nat.reduceEqDiff, decide_eq_true_eq, Bool.false_eq_true, if_false, true_and, and_true, Bool.and_true, Bool.true_and, Bool.and_self, Bool.or_true, Bool.true_or, Option.isSome_some, if_true, Option.map_some, Option.join_some]
  refine ⟨⟨inR_small (by omega) (by omega), inR_small (by omega) (by omega)⟩, ?_⟩
  refine ws_loop (fun i e => ∃ us a b x6, e = [some (1, hd a b), some (0, .int m), some (0, .int w), some (1, .lst (us.map pairD)), x4, some (0, .int j), x6, some (0, .int h), x8, x9, x10] ∧ HandOk b ∧ TieOk m us ∧ us.length ≤ 6 * j + i) (n := 0) ⟨ts, a, b, _, rfl, hb, ht, by omega⟩ (fun i d e hi he => ?_) fun e he => ?_
  · obtain ⟨us, a, b, x6, rfl, hb, ht, hl⟩ := he
    have hi' := (List.getElem?_eq_some_iff.mp hi).1
    rw [upto_length] at hi'
    rw [upto_get hi]
    simp only [L__law_ties_2, ↓wp_R1, ↓wp_R2, ↓wp_R3, wp_ret, wp_bind, wp_mif, wp_mopt, okp_some, okp_none, okp_map, okp_bind, okp_ite, slp_some, wp_c, kind0, wp_name, wp_move, wp_op, wp_asB, wp_neg, wp_bi, wp_cons, wp_tup, wp_lst, wp_call1, wp_isi, wp_isN, wp_and, wp_or, wp_not, wp_ofB, wp_ite, wp_ifE, wp_chain, wp_chL, wp_chN, wp_ixN, there_cons0, there_succ, wp_sl, wp_scrSl, outp_ok, wp_callF, wp_callIO, wp_recv, ws_seq, ws_next, ws_expr, ws_ret, ws_retN, ws_if, ws_asg, ws_post, ws_fz, ws_drop, ws_par, ws_setI, ws_aug, ws_for, ws_loop_nil, wp_lc, lc_nil, okp_ixL, okp_ixT, okp_gixL, okp_gixT, kidN_0, kidN_1L, kidN_int, kidN_bl, kidN_str, kidN_pair, kid_some, kid_int, kid_pair, kind_int, kind_bl, kind_str, kind_non, kind_pair, kind_lst, kind_lst1, at0, at1, at2, at3, ok_gNm, ok_gTp, ok_gLs0, ok_gLs1, ok_gCo, ok_gNo, ok_slot, getP_nil, setP_nil, ok_ixOf, ixN0, ixN1, acc_int, acc_pair, acc_str, acc_same, AR.acc_zero, frz_cons0, frz_none, frz_succ, ok_scrSl, ok_tupOf, ok_lstOf, wp_dgetN, wp_dnew, ws_dput, ok_dicAt, ok_keyAt, keyOf_pair, keyOf_pairD, ok_lenD, ok_sortP, ok_sumL, ok_itZipL, ok_itZipT, ok_itEn, wp_callIOT, join_i1, ok_geA, ok_geP, ok_ltA, ok_ltP, ok_append, ok_pop, join_z1, join_z2, join_z3, join_z4, ws_raise, join_pair, AR.join_nil, pick_some, pick_none, itL_some, itT_some, hold_t, hold_s, canFz_s, ok_add, ok_addS, ok_cat, ok_sub, ok_mul, ok_div, ok_mod, ok_pow, ok_lt, ok_le, ok_gt, ok_ge, ok_toB, ok_toI, ok_max2, ok_min2, ok_int, ok_intB, ok_lenL, ok_lenT, ok_lenS, ok_eqI, ok_neI, ok_eqB, ok_neB, List.getElem?_cons_zero, List.getElem?_cons_succ, List.set_cons_zero, List.set_cons_succ, List.map_cons, List.map_nil, List.length_cons, List.length_nil, List.all_cons, List.all_nil, List.length_set, List.cons_append, List.nil_append, List.replicate, Nat.zero_add, Nat.reduceAdd, Nat.reduceLT, Nat.reduceLeDiff, Nat.reduceEqDiff, decide_eq_true_eq, Bool.false_eq_true, if_false, true_and, and_true, Bool.and_true, Bool.true_and, Bool.and_self, Bool.or_true, Bool.true_or, Option.isSome_some, if_true, Option.map_some, Option.join_some] at hl ⊢
    refine out_take hb (by omega) (lg2 (y := 41) (k := 10) (by omega) (by omega) (by decide) (by decide)) fun r a1 b1 r0 r1 hb1 => ?_
    simp only [map_app_pair, List.isEmpty_nil, List.length_map, ↓wp_R1, ↓wp_R2, ↓wp_R3, wp_ret, wp_bind, wp_mif, wp_mopt, okp_some, okp_none, okp_map, okp_bind, okp_ite, slp_some, wp_c, kind0, wp_name, wp_move, wp_op, wp_asB, wp_neg, wp_bi, wp_cons, wp_tup, wp_lst, wp_call1, wp_isi, wp_isN, wp_and, wp_or, wp_not, wp_ofB, wp_ite, wp_ifE, wp_chain, wp_chL, wp_chN, wp_ixN, there_cons0, there_succ, wp_sl, wp_scrSl, outp_ok, wp_callF, wp_callIO, wp_recv, ws_seq, ws_next, ws_expr, ws_ret, ws_retN, ws_if, ws_asg, ws_post, ws_fz, ws_drop, ws_par, ws_setI, ws_aug, ws_for, ws_loop_nil, wp_lc, lc_nil, okp_ixL, okp_ixT, okp_gixL, okp_gixT, kidN_0, kidN_1L, kidN_int, kidN_bl, kidN_str, kidN_pair, kid_some, kid_int, kid_pair, kind_int, kind_bl, kind_str, kind_non, kind_pair, kind_lst, kind_lst1, at0, at1, at2, at3, ok_gNm, ok_gTp, ok_gLs0, ok_gLs1, ok_gCo, ok_gNo, ok_slot, getP_nil, setP_nil, ok_ixOf, ixN0, ixN1, acc_int, acc_pair, acc_str, acc_same, AR.acc_zero, frz_cons0, frz_none, frz_succ, ok_scrSl, ok_tupOf, ok_lstOf, wp_dgetN, wp_dnew, ws_dput, ok_dicAt, ok_keyAt, keyOf_pair, keyOf_pairD, ok_lenD, ok_sortP, ok_sumL, ok_itZipL, ok_itZipT, ok_itEn, wp_callIOT, join_i1, ok_geA, ok_geP, ok_ltA, ok_ltP, ok_append, ok_pop, join_z1, join_z2, join_z3, join_z4, ws_raise, join_pair, AR.join_nil, pick_some, pick_none, itL_some, itT_some, hold_t, hold_s, canFz_s, ok_add, ok_addS, ok_cat, ok_sub, ok_mul, ok_div, ok_mod, ok_pow, ok_lt, ok_le, ok_gt, ok_ge, ok_toB, ok_toI, ok_max2, ok_min2, ok_int, ok_intB, ok_lenL, ok_lenT, ok_lenS, ok_eqI, ok_neI, ok_eqB, ok_neB, List.getElem?_cons_zero, List.getElem?_cons_succ, List.set_cons_zero, List.set_cons_succ, List.map_cons, List.map_nil, List.length_cons, List.length_nil, List.all_cons, List.all_nil, List.length_set, List.cons_append, List.nil_append, List.replicate, Nat.zero_add, Nat.reduceAdd, Nat.reduceLT, Nat.reduceLeDiff, Nat.reduceEqDiff, decide_eq_true_eq, Bool.false_eq_true, if_false, true_and, and_true, Bool.and_true, Bool.true_and, Bool.and_self, Bool.or_true, Bool.true_or, Option.isSome_some, if_true, Option.map_some, Option.join_some]
    split
    · refine ⟨by omega, _, _, _, _, rfl, hb1, tieOk_app ht (tieOk_one ?_), by simp; omega⟩
      simp only; omega
    · exact ⟨_, _, _, _, rfl, hb1, ht, by omega⟩
  · obtain ⟨us, a, b, x6, rfl, hb, ht, hl⟩ := he
    rw [upto_length] at hl
    exact k _ _ _ _ hb ht (by omega)
theorem ties_kinds {m : Nat} {w wd : Int} {j : Nat} (hj : j < m) (hm : m ≤ 40) (h0 : 1 ≤ wd) (h6 : wd ≤ 24) {a b : Int} {ts : List Pr} {ks : List Int} (hk : ks.length = m) {x4 x6 x7 x9 : Option AR.Tm} {N : Sl → Prop} {R : Nat → D → Sl → Prop} (hl : ts.length ≤ 24 * j) (ht : TieOk m ts)
    (k : ∀ us, TieOk m us → us.length ≤ 24 * (j + 1) → N [some (1, hd a b), some (0, .int m), some (0, .int w), some (1, .lst (us.map pairD)), x4, some (0, .int j), x6, x7, some (0, .lst (ks.map D.int)), x9, some (0, .int wd)]) :
    Ws L__law_ties_4 [some (1, hd a b), some (0, .int m), some (0, .int w), some (1, .lst (ts.map pairD)), x4, some (0, .int j), x6, x7, some (0, .lst (ks.map D.int)), x9, some (0, .int wd)] N R := by
  have at' : ∀ i : Nat, i < m → ∃ p : Int, atI (ks.map D.int) (i : Int) = some (.int p) := fun i hi => by
    obtain ⟨p, hp⟩ : ∃ p, ks[i]? = some p := ⟨_, List.getElem?_eq_getElem (by omega)⟩
    exact ⟨p, at_nat (by rw [List.getElem?_map, hp]; rfl)⟩
  obtain ⟨p, hp⟩ := at' j hj
  simp only [L__law_ties_4, List.isEmpty_nil, ↓wp_R1, ↓wp_R2, ↓wp_R3, wp_ret, wp_bind, wp_mif, wp_mopt, okp_some, okp_none, okp_map, okp_bind, okp_ite, slp_some, wp_c, kind0, wp_name, wp_move, wp_op, wp_asB, wp_neg, wp_bi, wp_cons, wp_tup, wp_lst, wp_call1, wp_isi, wp_isN, wp_and, wp_or, wp_not, wp_ofB, wp_ite, wp_ifE, wp_chain, wp_chL, wp_chN, wp_ixN, there_cons0, there_succ, wp_sl, wp_scrSl, outp_ok, wp_callF, wp_callIO, wp_recv, ws_seq, ws_next, ws_expr, ws_ret, ws_retN, ws_if, ws_asg, ws_post, ws_fz, ws_drop, ws_par, ws_setI, ws_aug, ws_for, ws_loop_nil, wp_lc, lc_nil, okp_ixL, okp_ixT, okp_gixL, okp_gixT, kidN_0, kidN_1L, kidN_int, kidN_bl, kidN_str, kidN_pair, kid_some, kid_int, kid_pair, kind_int, kind_bl, kind_str, kind_non, kind_pair, kind_lst, kind_lst1, at0, at1, at2, at3, ok_gNm, ok_gTp, ok_gLs0, ok_gLs1, ok_gCo, ok_gNo, ok_slot, getP_nil, setP_nil, ok_ixOf, ixN0, ixN1, acc_int, acc_pair, acc_str, acc_same, AR.acc_zero, frz_cons0, frz_none, frz_succ, ok_scrSl, ok_tupOf, ok_lstOf, wp_dgetN, wp_dnew, ws_dput, ok_dicAt, ok_keyAt, keyOf_pair, keyOf_pairD, ok_lenD, ok_sortP, ok_sumL, ok_itZipL, ok_itZipT, ok_itEn, wp_callIOT, join_i1, ok_geA, ok_geP, ok_ltA, ok_ltP, ok_append, ok_pop, join_z1, join_z2, join_z3, join_z4, ws_raise, join_pair, AR.join_nil, pick_some, pick_none, itL_some, itT_some, hold_t, hold_s, canFz_s, ok_add, ok_addS, ok_cat, ok_sub, ok_mul, ok_div, ok_mod, ok_pow, ok_lt, ok_le, ok_gt, ok_ge, ok_toB, ok_toI, ok_max2, ok_min2, ok_int, ok_intB, ok_lenL, ok_lenT, ok_lenS, ok_eqI, ok_neI, ok_eqB, ok_neB, List.getElem?_cons_zero, List.getElem?_cons_succ, List.set_cons_zero, List.set_cons_succ, List.map_cons, List.map_nil, List.length_cons, List.length_nil, List.all_cons, List.all_nil, List.length_set, List.cons_append, List.nil_append, List.replicate, Nat.zero_add, Nat.reduceAdd, Nat.reduceLT, Nat.reduceLeDiff, Nat.reduceEqDiff, decide_eq_true_eq, Bool.false_eq_true, if_false, true_and, and_true, Bool.and_true, Bool.true_and, Bool.and_self, Bool.or_true, Bool.true_or, Option.isSome_some, if_true, Option.map_some, Option.join_some]
  refine ⟨⟨inR_small (by omega) (by omega), inR_small (by omega) (by omega)⟩, by rw [upto_length]; omega, ?_⟩
  refine lc_inv (fun i acc e => e = [some (1, hd a b), some (0, .int m), some (0, .int w), some (1, .lst (ts.map pairD)), none, some (0, .int j), x6, x7, some (0, .lst (ks.map D.int)), x9, some (0, .int wd)] ∧ ∃ us : List Pr, acc = us.map pairD ∧ TieOk m us ∧ us.length ≤ i) (n := 0) ⟨rfl, [], rfl, by simp [TieOk], by simp⟩ (fun i d acc e hi he => ?_) fun acc e he => ?_
  · obtain ⟨rfl, us, rfl, hu, hul⟩ := he
    have hi' := (List.getElem?_eq_some_iff.mp hi).1
    rw [upto_length] at hi'
    rw [upto_get hi]
    obtain ⟨q, hq⟩ := at' (j + 1 + i) (by omega)
    rw [show (((j + 1 + i : Nat)) : Int) = (j : Int) + 1 + (i : Int) by omega] at hq
    simp only [hp, hq, lcNext, ↓wp_R1, ↓wp_R2, ↓wp_R3, wp_ret, wp_bind, wp_mif, wp_mopt, okp_some, okp_none, okp_map, okp_bind, okp_ite, slp_some, wp_c, kind0, wp_name, wp_move, wp_op, wp_asB, wp_neg, wp_bi, wp_cons, wp_tup, wp_lst, wp_call1, wp_isi, wp_isN, wp_and, wp_or, wp_not, wp_ofB, wp_ite, wp_ifE, wp_chain, wp_chL, wp_chN, wp_ixN, there_cons0, there_succ, wp_sl, wp_scrSl, outp_ok, wp_callF, wp_callIO, wp_recv, ws_seq, ws_next, ws_expr, ws_ret, ws_retN, ws_if, ws_asg, ws_post, ws_fz, ws_drop, ws_par, ws_setI, ws_aug, ws_for, ws_loop_nil, wp_lc, lc_nil, okp_ixL, okp_ixT, okp_gixL, okp_gixT, kidN_0, kidN_1L, kidN_int, kidN_bl, kidN_str, kidN_pair, kid_some, kid_int, kid_pair, kind_int, kind_bl, kind_str, kind_non, kind_pair, kind_lst, kind_lst1, at0, at1, at2, at3, ok_gNm, ok_gTp, ok_gLs0, ok_gLs1, ok_gCo, ok_gNo, ok_slot, getP_nil, setP_nil, ok_ixOf, ixN0, ixN1, acc_int, acc_pair, acc_str, acc_same, AR.acc_zero, frz_cons0, frz_none, frz_succ, ok_scrSl, ok_tupOf, ok_lstOf, wp_dgetN, wp_dnew, ws_dput, ok_dicAt, ok_keyAt, keyOf_pair, keyOf_pairD, ok_lenD, ok_sortP, ok_sumL, ok_itZipL, ok_itZipT, ok_itEn, wp_callIOT, join_i1, ok_geA, ok_geP, ok_ltA, ok_ltP, ok_append, ok_pop, join_z1, join_z2, join_z3, join_z4, ws_raise, join_pair, AR.join_nil, pick_some, pick_none, itL_some, itT_some, hold_t, hold_s, canFz_s, ok_add, ok_addS, ok_cat, ok_sub, ok_mul, ok_div, ok_mod, ok_pow, ok_lt, ok_le, ok_gt, ok_ge, ok_toB, ok_toI, ok_max2, ok_min2, ok_int, ok_intB, ok_lenL, ok_lenT, ok_lenS, ok_eqI, ok_neI, ok_eqB, ok_neB, List.getElem?_cons_zero, List.getElem?_cons_succ, List.set_cons_zero, List.set_cons_succ, List.map_cons, List.map_nil, List.length_cons, List.length_nil, List.all_cons, List.all_nil, List.length_set, List.cons_append, List.nil_append, List.replicate, Nat.zero_add, Nat.reduceAdd, Nat.reduceLT, Nat.reduceLeDiff, Nat.reduceEqDiff, decide_eq_true_eq, Bool.false_eq_true, if_false, true_and, and_true, Bool.and_true, Bool.true_and, Bool.and_self, Bool.or_true, Bool.true_or, Option.isSome_some, if_true, Option.map_some, Option.join_some]
    split
    · refine ⟨_, map_app_pair, tieOk_app hu (tieOk_one ?_), by simp; omega⟩
      simp only; omega
    · exact ⟨us, rfl, hu, by omega⟩
  · obtain ⟨rfl, us, rfl, hu, hul⟩ := he
    rw [upto_length] at hul
    rw [ok_extend, ← List.map_append]
    refine ⟨⟨rfl, by simp only [List.length_map]; omega⟩, ?_⟩
    simp only [↓wp_R1, ↓wp_R2, ↓wp_R3, wp_ret, wp_bind, wp_mif, wp_mopt, okp_some, okp_none, okp_map, okp_bind, okp_ite, slp_some, wp_c, kind0, wp_name, wp_move, wp_op, wp_asB, wp_neg, wp_bi, wp_cons, wp_tup, wp_lst, wp_call1, wp_isi, wp_isN, wp_and, wp_or, wp_not, wp_ofB, wp_ite, wp_ifE, wp_chain, wp_chL, wp_chN, wp_ixN, there_cons0, there_succ, wp_sl, wp_scrSl, outp_ok, wp_callF, wp_callIO, wp_recv, ws_seq, ws_next, ws_expr, ws_ret, ws_retN, ws_if, ws_asg, ws_post, ws_fz, ws_drop, ws_par, ws_setI, ws_aug, ws_for, ws_loop_nil, wp_lc, lc_nil, okp_ixL, okp_ixT, okp_gixL, okp_gixT, kidN_0, kidN_1L, kidN_int, kidN_bl, kidN_str, kidN_pair, kid_some, kid_int, kid_pair, kind_int, kind_bl, kind_str, kind_non, kind_pair, kind_lst, kind_lst1, at0, at1, at2, at3, ok_gNm, ok_gTp, ok_gLs0, ok_gLs1, ok_gCo, ok_gNo, ok_slot, getP_nil, setP_nil, ok_ixOf, ixN0, ixN1, acc_int, acc_pair, acc_str, acc_same, AR.acc_zero, frz_cons0, frz_none, frz_succ, ok_scrSl, ok_tupOf, ok_lstOf, wp_dgetN, wp_dnew, ws_dput, ok_dicAt, ok_keyAt, keyOf_pair, keyOf_pairD, ok_lenD, ok_sortP, ok_sumL, ok_itZipL, ok_itZipT, ok_itEn, wp_callIOT, join_i1, ok_geA, ok_geP, ok_ltA, ok_ltP, ok_append, ok_pop, join_z1, join_z2, join_z3, join_z4, ws_raise, join_pair, AR.join_nil, pick_some, pick_none, itL_some, itT_some, hold_t, hold_s, canFz_s, ok_add, ok_addS, ok_cat, ok_sub, ok_mul, ok_div, ok_mod, ok_pow, ok_lt, ok_le, ok_gt, ok_ge, ok_toB, ok_toI, ok_max2, ok_min2, ok_int, ok_intB, ok_lenL, ok_lenT, ok_lenS, ok_eqI, ok_neI, ok_eqB, ok_neB, List.getElem?_cons_zero, List.getElem?_cons_succ, List.set_cons_zero, List.set_cons_succ, List.map_cons, List.map_nil, List.length_cons, List.length_nil, List.all_cons, List.all_nil, List.length_set, List.cons_append, List.nil_append, List.replicate, Nat.zero_add, Nat.reduceAdd, Nat.reduceLT, Nat.reduceLeDiff, Nat.reduceEqDiff, decide_eq_true_eq, Bool.false_eq_true, if_false, true_and, and_true, Bool.and_true, Bool.true_and, Bool.and_self, Bool.or_true, Bool.true_or, Option.isSome_some, if_true, Option.map_some, Option.join_some]
    exact k _ (tieOk_app ht hu) (by simp; omega)

end LW

set_option Elab.async false
set_option linter.all false
set_option maxRecDepth 100000
set_option maxHeartbeats 400000
namespace LW
open PySem L2 AR
theorem cutP {ps : List Pr} {k : Nat} {P : Rv → Prop} : OkP (fSl (some k, .lst (ps.map pairD)) none (some 300)) P = P (some 1, .lst ((ps.take 300).map pairD)) := by
  have := cut_toD (ds := ps.map pairD) (pl := 300) (k := k) (P := P)
  rw [List.map_take]
  exact this
theorem out_ties {a b : Int} {m : Nat} {Q : AR.Tm → Sl → Prop} (hb : HandOk b) (h2 : 2 ≤ m) (hm : m ≤ 40) (k : ∀ ts a b, HandOk b → RowOk m ts → ts.length ≤ 300 → Q (1, .lst (ts.map pairD)) [some (1, hd a b)]) : OutP (S__law_ties [(1, hd a b), (0, .int m)]) Q := by
  refine def_of ?_
  unfold b__law_ties
  refine ws_mid (fun e => ∃ (a b w : Int), e = [some (1, hd a b), some (0, .int m), some (0, .int w), none, none, none, none, none, none, none, none] ∧ HandOk b ∧ 0 ≤ w ∧ w < 5) ?_ fun e he => ?_
  · simp only [↓wp_R1, ↓wp_R2, ↓wp_R3, wp_ret, wp_bind, wp_mif, wp_mopt, okp_some, okp_none, okp_map, okp_bind, okp_ite, slp_some, wp_c, kind0, wp_name, wp_move, wp_op, wp_asB, wp_neg, wp_bi, wp_cons, wp_tup, wp_lst, wp_call1, wp_isi, wp_isN, wp_and, wp_or, wp_not, wp_ofB, wp_ite, wp_ifE, wp_chain, wp_chL, wp_chN, wp_ixN, there_cons0, there_succ, wp_sl, wp_scrSl, outp_ok, wp_callF, wp_callIO, wp_recv, ws_seq, ws_next, ws_expr, ws_ret, ws_retN, ws_if, ws_asg, ws_post, ws_fz, ws_drop, ws_par, ws_setI, ws_aug, ws_for, ws_loop_nil, wp_lc, lc_nil, okp_ixL, okp_ixT, okp_gixL, okp_gixT, kidN_0, kidN_1L, kidN_int, kidN_bl, kidN_str, kidN_pair, kid_some, kid_int, kid_pair, kind_int, kind_bl, kind_str, kind_non, kind_pair, kind_lst, kind_lst1, at0, at1, at2, at3, ok_gNm, ok_gTp, ok_gLs0, ok_gLs1, ok_gCo, ok_gNo, ok_slot, getP_nil, setP_nil, ok_ixOf, ixN0, ixN1, acc_int, acc_pair, acc_str, acc_same, AR.acc_zero, frz_cons0, frz_none, frz_succ, ok_scrSl, ok_tupOf, ok_lstOf, wp_dgetN, wp_dnew, ws_dput, ok_dicAt, ok_keyAt, keyOf_pair, keyOf_pairD, ok_lenD, ok_sortP, ok_sumL, ok_itZipL, ok_itZipT, ok_itEn, wp_callIOT, join_i1, ok_geA, ok_geP, ok_ltA, ok_ltP, ok_append, ok_pop, join_z1, join_z2, join_z3, join_z4, ws_raise, join_pair, AR.join_nil, pick_some, pick_none, itL_some, itT_some, hold_t, hold_s, canFz_s, ok_add, ok_addS, ok_cat, ok_sub, ok_mul, ok_div, ok_mod, ok_pow, ok_lt, ok_le, ok_gt, ok_ge, ok_toB, ok_toI, ok_max2, ok_min2, ok_int, ok_intB, ok_lenL, ok_lenT, ok_lenS, ok_eqI, ok_neI, ok_eqB, ok_neB, List.getElem?_cons_zero, List.getElem?_cons_succ, List.set_cons_zero, List.set_cons_succ, List.map_cons, List.map_nil, List.length_cons, List.length_nil, List.all_cons, List.all_nil, List.length_set, List.cons_append, List.nil_append, List.replicate, Nat.zero_add, Nat.reduceAdd, Nat.reduceLT, Nat.reduceLeDiff, Nat.reduceEqDiff, decide_eq_true_eq, Bool.false_eq_true, if_false, true_and, and_true, Bool.and_true, Bool.true_and, Bool.and_self, Bool.or_true, Bool.true_or, Option.isSome_some, if_true, Option.map_some, Option.join_some]
    refine out_take hb (by omega) (by decide) fun r a1 b1 r0 r1 hb1 => ?_
    simp only [↓wp_R1, ↓wp_R2, ↓wp_R3, wp_ret, wp_bind, wp_mif, wp_mopt, okp_some, okp_none, okp_map, okp_bind, okp_ite, slp_some, wp_c, kind0, wp_name, wp_move, wp_op, wp_asB, wp_neg, wp_bi, wp_cons, wp_tup, wp_lst, wp_call1, wp_isi, wp_isN, wp_and, wp_or, wp_not, wp_ofB, wp_ite, wp_ifE, wp_chain, wp_chL, wp_chN, wp_ixN, there_cons0, there_succ, wp_sl, wp_scrSl, outp_ok, wp_callF, wp_callIO, wp_recv, ws_seq, ws_next, ws_expr, ws_ret, ws_retN, ws_if, ws_asg, ws_post, ws_fz, ws_drop, ws_par, ws_setI, ws_aug, ws_for, ws_loop_nil, wp_lc, lc_nil, okp_ixL, okp_ixT, okp_gixL, okp_gixT, kidN_0, kidN_1L, kidN_int, kidN_bl, kidN_str, kidN_pair, kid_some, kid_int, kid_pair, kind_int, kind_bl, kind_str, kind_non, kind_pair, kind_lst, kind_lst1, at0, at1, at2, at3, ok_gNm, ok_gTp, ok_gLs0, ok_gLs1, ok_gCo, ok_gNo, ok_slot, getP_nil, setP_nil, ok_ixOf, ixN0, ixN1, acc_int, acc_pair, acc_str, acc_same, AR.acc_zero, frz_cons0, frz_none, frz_succ, ok_scrSl, ok_tupOf, ok_lstOf, wp_dgetN, wp_dnew, ws_dput, ok_dicAt, ok_keyAt, keyOf_pair, keyOf_pairD, ok_lenD, ok_sortP, ok_sumL, ok_itZipL, ok_itZipT, ok_itEn, wp_callIOT, join_i1, ok_geA, ok_geP, ok_ltA, ok_ltP, ok_append, ok_pop, join_z1, join_z2, join_z3, join_z4, ws_raise, join_pair, AR.join_nil, pick_some, pick_none, itL_some, itT_some, hold_t, hold_s, canFz_s, ok_add, ok_addS, ok_cat, ok_sub, ok_mul, ok_div, ok_mod, ok_pow, ok_lt, ok_le, ok_gt, ok_ge, ok_toB, ok_toI, ok_max2, ok_min2, ok_int, ok_intB, ok_lenL, ok_lenT, ok_lenS, ok_eqI, ok_neI, ok_eqB, ok_neB, List.getElem?_cons_zero, List.getElem?_cons_succ, List.set_cons_zero, List.set_cons_succ, List.map_cons, List.map_nil, List.length_cons, List.length_nil, List.all_cons, List.all_nil, List.length_set, List.cons_append, List.nil_append, List.replicate, Nat.zero_add, Nat.reduceAdd, Nat.reduceLT, Nat.reduceLeDiff, Nat.reduceEqDiff, decide_eq_true_eq, Bool.false_eq_true, if_false, true_and, and_true, Bool.and_true, Bool.true_and, Bool.and_self, Bool.or_true, Bool.true_or, Option.isSome_some, if_true, Option.map_some, Option.join_some]
    exact ⟨_, _, _, rfl, hb1, r0, r1⟩
  obtain ⟨a, b, w, rfl, hb, w0, w5⟩ : ∃ (a b w : Int), e = [some (1, hd a b), some (0, .int m), some (0, .int w), none, none, none, none, none, none, none, none] ∧ HandOk b ∧ 0 ≤ w ∧ w < 5 := he
  refine ws_mid (fun e => e = [some (1, hd a b), some (0, .int m), some (0, .int w), some (1, .lst []), none, none, none, none, none, none, none]) (by simp only [↓wp_R1, ↓wp_R2, ↓wp_R3, wp_ret, wp_bind, wp_mif, wp_mopt, okp_some, okp_none, okp_map, okp_bind, okp_ite, slp_some, wp_c, kind0, wp_name, wp_move, wp_op, wp_asB, wp_neg, wp_bi, wp_cons, wp_tup, wp_lst, wp_call1, wp_isi, wp_isN, wp_and, wp_or, wp_not, wp_ofB, wp_ite, wp_ifE, wp_chain, wp_chL, wp_chN, wp_ixN, there_cons0, there_succ, wp_sl, wp_scrSl, outp_ok, wp_callF, wp_callIO, wp_recv, ws_seq, ws_next, ws_expr, ws_ret, ws_retN, ws_if, ws_asg, ws_post, ws_fz, ws_drop, ws_par, ws_setI, ws_aug, ws_for, ws_loop_nil, wp_lc, lc_nil, okp_ixL, okp_ixT, okp_gixL, okp_gixT, kidN_0, kidN_1L, kidN_int, kidN_bl, kidN_str, kidN_pair, kid_some, kid_int, kid_pair, kind_int, kind_bl, kind_str, kind_non, kind_pair, kind_lst, kind_lst1, at0, at1, at2, at3, ok_gNm, ok_gTp, ok_gLs0, ok_gLs1, ok_gCo, ok_gNo, ok_slot, getP_nil, setP_nil, ok_ixOf, ixN0, ixN1, acc_int, acc_pair, acc_str, acc_same, AR.acc_zero, frz_cons0, frz_none, frz_succ, ok_scrSl, ok_tupOf, ok_lstOf, wp_dgetN, wp_dnew, ws_dput, ok_dicAt, ok_keyAt, keyOf_pair, keyOf_pairD, ok_lenD, ok_sortP, ok_sumL, ok_itZipL, ok_itZipT, ok_itEn, wp_callIOT, join_i1, ok_geA, ok_geP, ok_ltA, ok_ltP, ok_append, ok_pop, join_z1, join_z2, join_z3, join_z4, ws_raise, join_pair, AR.join_nil, pick_some, pick_none, itL_some, itT_some, hold_t, hold_s, canFz_s, ok_add, ok_addS, ok_cat, ok_sub, ok_mul, ok_div, ok_mod, ok_pow, ok_lt, ok_le, ok_gt, ok_ge, ok_toB, ok_toI, ok_max2, ok_min2, ok_int, ok_intB, ok_lenL, ok_lenT, ok_lenS, ok_eqI, ok_neI, ok_eqB, ok_neB, List.getElem?_cons_zero, List.getElem?_cons_succ, List.set_cons_zero, List.set_cons_succ, List.map_cons, List.map_nil, List.length_cons, List.length_nil, List.all_cons, List.all_nil, List.length_set, List.cons_append, List.nil_append, List.replicate, Nat.zero_add, Nat.reduceAdd, Nat.reduceLT, Nat.reduceLeDiff, Nat.reduceEqDiff, decide_eq_true_eq, Bool.false_eq_true, if_false, true_and, and_true, Bool.and_true, Bool.true_and, Bool.and_self, Bool.or_true, Bool.true_or, Option.isSome_some, if_true, Option.map_some, Option.join_some]) fun e he => ?_
  obtain rfl : e = [some (1, hd a b), some (0, .int m), some (0, .int w), some (1, .lst []), none, none, none, none, none, none, none] := he
  refine ws_mid (fun e => ∃ (a b : Int) (ts : List Pr) (x4 x5 x6 : Option AR.Tm), e = [some (1, hd a b), some (0, .int m), some (0, .int w), some (1, .lst (ts.map pairD)), x4, x5, x6, none, none, none, none] ∧ HandOk b ∧ TieOk m ts ∧ ts.length ≤ 300 ∧ (w = 2 ∨ w = 3 → ts = [])) ?_ fun e he => ?_
  · have big : Ws (sFor (mbind (sCons true (sCallIO 2 S__law_take 0 (sCons true (sOp fIx false (sLst (sCons true (sC (.int 5)) (sCons true (sC (.int 12)) (sCons true (sC (.int 301)) (mret []))))) (sCallIO 2 S__law_take 0 (sCons true (sC (.int 3)) (mret [])))) (mret []))) (mret [])) fun r => mopt (itR1 r)) (gNm 4) L__law_ties_1) [some (1, hd a b), some (0, .int m), some (0, .int w), some (1, .lst []), none, none, none, none, none, none, none] (fun e => ∃ (a b : Int) (ts : List Pr) (x4 x5 x6 : Option AR.Tm), e = [some (1, hd a b), some (0, .int m), some (0, .int w), some (1, .lst (ts.map pairD)), x4, x5, x6, none, none, none, none] ∧ HandOk b ∧ TieOk m ts ∧ ts.length ≤ 300) (fun m d e => Q (m, d) (pick (some 0) e)) := by
      simp only [↓wp_R1, ↓wp_R2, ↓wp_R3, wp_ret, wp_bind, wp_mif, wp_mopt, okp_some, okp_none, okp_map, okp_bind, okp_ite, slp_some, wp_c, kind0, wp_name, wp_move, wp_op, wp_asB, wp_neg, wp_bi, wp_cons, wp_tup, wp_lst, wp_call1, wp_isi, wp_isN, wp_and, wp_or, wp_not, wp_ofB, wp_ite, wp_ifE, wp_chain, wp_chL, wp_chN, wp_ixN, there_cons0, there_succ, wp_sl, wp_scrSl, outp_ok, wp_callF, wp_callIO, wp_recv, ws_seq, ws_next, ws_expr, ws_ret, ws_retN, ws_if, ws_asg, ws_post, ws_fz, ws_drop, ws_par, ws_setI, ws_aug, ws_for, ws_loop_nil, wp_lc, lc_nil, okp_ixL, okp_ixT, okp_gixL, okp_gixT, kidN_0, kidN_1L, kidN_int, kidN_bl, kidN_str, kidN_pair, kid_some, kid_int, kid_pair, kind_int, kind_bl, kind_str, kind_non, kind_pair, kind_lst, kind_lst1, at0, at1, at2, at3, ok_gNm, ok_gTp, ok_gLs0, ok_gLs1, ok_gCo, ok_gNo, ok_slot, getP_nil, setP_nil, ok_ixOf, ixN0, ixN1, acc_int, acc_pair, acc_str, acc_same, AR.acc_zero, frz_cons0, frz_none, frz_succ, ok_scrSl, ok_tupOf, ok_lstOf, wp_dgetN, wp_dnew, ws_dput, ok_dicAt, ok_keyAt, keyOf_pair, keyOf_pairD, ok_lenD, ok_sortP, ok_sumL, ok_itZipL, ok_itZipT, ok_itEn, wp_callIOT, join_i1, ok_geA, ok_geP, ok_ltA, ok_ltP, ok_append, ok_pop, join_z1, join_z2, join_z3, join_z4, ws_raise, join_pair, AR.join_nil, pick_some, pick_none, itL_some, itT_some, hold_t, hold_s, canFz_s, ok_add, ok_addS, ok_cat, ok_sub, ok_mul, ok_div, ok_mod, ok_pow, ok_lt, ok_le, ok_gt, ok_ge, ok_toB, ok_toI, ok_max2, ok_min2, ok_int, ok_intB, ok_lenL, ok_lenT, ok_lenS, ok_eqI, ok_neI, ok_eqB, ok_neB, List.getElem?_cons_zero, List.getElem?_cons_succ, List.set_cons_zero, List.set_cons_succ, List.map_cons, List.map_nil, List.length_cons, List.length_nil, List.all_cons, List.all_nil, List.length_set, List.cons_append, List.nil_append, List.replicate, Nat.zero_add, Nat.reduceAdd, Nat.reduceLT, Nat.reduceLeDiff, Nat.reduceEqDiff, decide_eq_true_eq, Bool.false_eq_true, if_false, true_and, and_true, Bool.and_true, Bool.true_and, Bool.and_self, Bool.or_true, Bool.true_or, Option.isSome_some, if_true, Option.map_some, Option.join_some]
      refine out_take hb (by omega) (by decide) fun r a1 b1 r0 r1 hb1 => ?_
      obtain ⟨o, ho, ho2⟩ := pick5 r0 r1
      simp only [ho, ↓wp_R1, ↓wp_R2, ↓wp_R3, wp_ret, wp_bind, wp_mif, wp_mopt, okp_some, okp_none, okp_map, okp_bind, okp_ite, slp_some, wp_c, kind0, wp_name, wp_move, wp_op, wp_asB, wp_neg, wp_bi, wp_cons, wp_tup, wp_lst, wp_call1, wp_isi, wp_isN, wp_and, wp_or, wp_not, wp_ofB, wp_ite, wp_ifE, wp_chain, wp_chL, wp_chN, wp_ixN, there_cons0, there_succ, wp_sl, wp_scrSl, outp_ok, wp_callF, wp_callIO, wp_recv, ws_seq, ws_next, ws_expr, ws_ret, ws_retN, ws_if, ws_asg, ws_post, ws_fz, ws_drop, ws_par, ws_setI, ws_aug, ws_for, ws_loop_nil, wp_lc, lc_nil, okp_ixL, okp_ixT, okp_gixL, okp_gixT, kidN_0, kidN_1L, kidN_int, kidN_bl, kidN_str, kidN_pair, kid_some, kid_int, kid_pair, kind_int, kind_bl, kind_str, kind_non, kind_pair, kind_lst, kind_lst1, at0, at1, at2, at3, ok_gNm, ok_gTp, ok_gLs0, ok_gLs1, ok_gCo, ok_gNo, ok_slot, getP_nil, setP_nil, ok_ixOf, ixN0, ixN1, acc_int, acc_pair, acc_str, acc_same, AR.acc_zero, frz_cons0, frz_none, frz_succ, ok_scrSl, ok_tupOf, ok_lstOf, wp_dgetN, wp_dnew, ws_dput, ok_dicAt, ok_keyAt, keyOf_pair, keyOf_pairD, ok_lenD, ok_sortP, ok_sumL, ok_itZipL, ok_itZipT, ok_itEn, wp_callIOT, join_i1, ok_geA, ok_geP, ok_ltA, ok_ltP, ok_append, ok_pop, join_z1, join_z2, join_z3, join_z4, ws_raise, join_pair, AR.join_nil, pick_some, pick_none, itL_some, itT_some, hold_t, hold_s, canFz_s, ok_add, ok_addS, ok_cat, ok_sub, ok_mul, ok_div, ok_mod, ok_pow, ok_lt, ok_le, ok_gt, ok_ge, ok_toB, ok_toI, ok_max2, ok_min2, ok_int, ok_intB, ok_lenL, ok_lenT, ok_lenS, ok_eqI, ok_neI, ok_eqB, ok_neB, List.getElem?_cons_zero, List.getElem?_cons_succ, List.set_cons_zero, List.set_cons_succ, List.map_cons, List.map_nil, List.length_cons, List.length_nil, List.all_cons, List.all_nil, List.length_set, List.cons_append, List.nil_append, List.replicate, Nat.zero_add, Nat.reduceAdd, Nat.reduceLT, Nat.reduceLeDiff, Nat.reduceEqDiff, decide_eq_true_eq, Bool.false_eq_true, if_false, true_and, and_true, Bool.and_true, Bool.true_and, Bool.and_self, Bool.or_true, Bool.true_or, Option.isSome_some, if_true, Option.map_some, Option.join_some]
      refine out_take hb1 (by omega) (lg2 (y := 301) (k := 10) (by omega) (by omega) (by decide) (by decide)) fun s a2 b2 s0 s1 hb2 => ?_
      simp only [↓wp_R1, ↓wp_R2, ↓wp_R3, wp_ret, wp_bind, wp_mif, wp_mopt, okp_some, okp_none, okp_map, okp_bind, okp_ite, slp_some, wp_c, kind0, wp_name, wp_move, wp_op, wp_asB, wp_neg, wp_bi, wp_cons, wp_tup, wp_lst, wp_call1, wp_isi, wp_isN, wp_and, wp_or, wp_not, wp_ofB, wp_ite, wp_ifE, wp_chain, wp_chL, wp_chN, wp_ixN, there_cons0, there_succ, wp_sl, wp_scrSl, outp_ok, wp_callF, wp_callIO, wp_recv, ws_seq, ws_next, ws_expr, ws_ret, ws_retN, ws_if, ws_asg, ws_post, ws_fz, ws_drop, ws_par, ws_setI, ws_aug, ws_for, ws_loop_nil, wp_lc, lc_nil, okp_ixL, okp_ixT, okp_gixL, okp_gixT, kidN_0, kidN_1L, kidN_int, kidN_bl, kidN_str, kidN_pair, kid_some, kid_int, kid_pair, kind_int, kind_bl, kind_str, kind_non, kind_pair, kind_lst, kind_lst1, at0, at1, at2, at3, ok_gNm, ok_gTp, ok_gLs0, ok_gLs1, ok_gCo, ok_gNo, ok_slot, getP_nil, setP_nil, ok_ixOf, ixN0, ixN1, acc_int, acc_pair, acc_str, acc_same, AR.acc_zero, frz_cons0, frz_none, frz_succ, ok_scrSl, ok_tupOf, ok_lstOf, wp_dgetN, wp_dnew, ws_dput, ok_dicAt, ok_keyAt, keyOf_pair, keyOf_pairD, ok_lenD, ok_sortP, ok_sumL, ok_itZipL, ok_itZipT, ok_itEn, wp_callIOT, join_i1, ok_geA, ok_geP, ok_ltA, ok_ltP, ok_append, ok_pop, join_z1, join_z2, join_z3, join_z4, ws_raise, join_pair, AR.join_nil, pick_some, pick_none, itL_some, itT_some, hold_t, hold_s, canFz_s, ok_add, ok_addS, ok_cat, ok_sub, ok_mul, ok_div, ok_mod, ok_pow, ok_lt, ok_le, ok_gt, ok_ge, ok_toB, ok_toI, ok_max2, ok_min2, ok_int, ok_intB, ok_lenL, ok_lenT, ok_lenS, ok_eqI, ok_neI, ok_eqB, ok_neB, List.getElem?_cons_zero, List.getElem?_cons_succ, List.set_cons_zero, List.set_cons_succ, List.map_cons, List.map_nil, List.length_cons, List.length_nil, List.all_cons, List.all_nil, List.length_set, List.cons_append, List.nil_append, List.replicate, Nat.zero_add, Nat.reduceAdd, Nat.reduceLT, Nat.reduceLeDiff, Nat.reduceEqDiff, decide_eq_true_eq, Bool.false_eq_true, if_false, true_and, and_true, Bool.and_true, Bool.true_and, Bool.and_self, Bool.or_true, Bool.true_or, Option.isSome_some, if_true, Option.map_some, Option.join_some]
      refine ⟨inR_small (by omega) (by omega), ?_⟩
      refine ws_loop (fun j e => ∃ (a b : Int) (ts : List Pr) (x4 x5 x6 : Option AR.Tm), e = [some (1, hd a b), some (0, .int m), some (0, .int w), some (1, .lst (ts.map pairD)), x4, x5, x6, none, none, none, none] ∧ HandOk b ∧ TieOk m ts ∧ ts.length = j) (n := 0) ⟨_, _, [], _, _, _, rfl, hb2, by simp [TieOk], rfl⟩ (fun j d e hj he => ?_) fun e he => ?_
      · obtain ⟨a, b, ts, x4, x5, x6, rfl, hb, ht, hl⟩ := he
        have hj' := (List.getElem?_eq_some_iff.mp hj).1
        rw [upto_length] at hj'
        simp only [↓wp_R1, ↓wp_R2, ↓wp_R3, wp_ret, wp_bind, wp_mif, wp_mopt, okp_some, okp_none, okp_map, okp_bind, okp_ite, slp_some, wp_c, kind0, wp_name, wp_move, wp_op, wp_asB, wp_neg, wp_bi, wp_cons, wp_tup, wp_lst, wp_call1, wp_isi, wp_isN, wp_and, wp_or, wp_not, wp_ofB, wp_ite, wp_ifE, wp_chain, wp_chL, wp_chN, wp_ixN, there_cons0, there_succ, wp_sl, wp_scrSl, outp_ok, wp_callF, wp_callIO, wp_recv, ws_seq, ws_next, ws_expr, ws_ret, ws_retN, ws_if, ws_asg, ws_post, ws_fz, ws_drop, ws_par, ws_setI, ws_aug, ws_for, ws_loop_nil, wp_lc, lc_nil, okp_ixL, okp_ixT, okp_gixL, okp_gixT, kidN_0, kidN_1L, kidN_int, kidN_bl, kidN_str, kidN_pair, kid_some, kid_int, kid_pair, kind_int, kind_bl, kind_str, kind_non, kind_pair, kind_lst, kind_lst1, at0, at1, at2, at3, ok_gNm, ok_gTp, ok_gLs0, ok_gLs1, ok_gCo, ok_gNo, ok_slot, getP_nil, setP_nil, ok_ixOf, ixN0, ixN1, acc_int, acc_pair, acc_str, acc_same, AR.acc_zero, frz_cons0, frz_none, frz_succ, ok_scrSl, ok_tupOf, ok_lstOf, wp_dgetN, wp_dnew, ws_dput, ok_dicAt, ok_keyAt, keyOf_pair, keyOf_pairD, ok_lenD, ok_sortP, ok_sumL, ok_itZipL, ok_itZipT, ok_itEn, wp_callIOT, join_i1, ok_geA, ok_geP, ok_ltA, ok_ltP, ok_append, ok_pop, join_z1, join_z2, join_z3, join_z4, ws_raise, join_pair, AR.join_nil, pick_some, pick_none, itL_some, itT_some, hold_t, hold_s, canFz_s, ok_add, ok_addS, ok_cat, ok_sub, ok_mul, ok_div, ok_mod, ok_pow, ok_lt, ok_le, ok_gt, ok_ge, ok_toB, ok_toI, ok_max2, ok_min2, ok_int, ok_intB, ok_lenL, ok_lenT, ok_lenS, ok_eqI, ok_neI, ok_eqB, ok_neB, List.getElem?_cons_zero, List.getElem?_cons_succ, List.set_cons_zero, List.set_cons_succ, List.map_cons, List.map_nil, List.length_cons, List.length_nil, List.all_cons, List.all_nil, List.length_set, List.cons_append, List.nil_append, List.replicate, Nat.zero_add, Nat.reduceAdd, Nat.reduceLT, Nat.reduceLeDiff, Nat.reduceEqDiff, decide_eq_true_eq, Bool.false_eq_true, if_false, true_and, and_true, Bool.and_true, Bool.true_and, Bool.and_self, Bool.or_true, Bool.true_or, Option.isSome_some, if_true, Option.map_some, Option.join_some] at hl ⊢
        exact ties_one h2 hm hb (by omega) ht fun p a b x5 x6 hb ht => ⟨_, _, _, _, _, _, rfl, hb, ht, by simp; omega⟩
      · obtain ⟨a, b, ts, x4, x5, x6, rfl, hb, ht, hl⟩ := he
        rw [upto_length] at hl
        exact ⟨_, _, _, _, _, _, rfl, hb, ht, by omega⟩
    rw [ws_if]
    simp only [wp_or, wp_asB, wp_op, wp_name, wp_c, ↓wp_R1, ↓wp_R2, ↓wp_R3, wp_ret, wp_bind, wp_mif, wp_mopt, okp_some, okp_none, okp_map, okp_bind, okp_ite, slp_some, wp_c, kind0, wp_name, wp_move, wp_op, wp_asB, wp_neg, wp_bi, wp_cons, wp_tup, wp_lst, wp_call1, wp_isi, wp_isN, wp_and, wp_or, wp_not, wp_ofB, wp_ite, wp_ifE, wp_chain, wp_chL, wp_chN, wp_ixN, there_cons0, there_succ, wp_sl, wp_scrSl, outp_ok, wp_callF, wp_callIO, wp_recv, ws_seq, ws_next, ws_expr, ws_ret, ws_retN, ws_if, ws_asg, ws_post, ws_fz, ws_drop, ws_par, ws_setI, ws_aug, ws_for, ws_loop_nil, wp_lc, lc_nil, okp_ixL, okp_ixT, okp_gixL, okp_gixT, kidN_0, kidN_1L, kidN_int, kidN_bl, kidN_str, kidN_pair, kid_some, kid_int, kid_pair, kind_int, kind_bl, kind_str, kind_non, kind_pair, kind_lst, kind_lst1, at0, at1, at2, at3, ok_gNm, ok_gTp, ok_gLs0, ok_gLs1, ok_gCo, ok_gNo, ok_slot, getP_nil, setP_nil, ok_ixOf, ixN0, ixN1, acc_int, acc_pair, acc_str, acc_same, AR.acc_zero, frz_cons0, frz_none, frz_succ, ok_scrSl, ok_tupOf, ok_lstOf, wp_dgetN, wp_dnew, ws_dput, ok_dicAt, ok_keyAt, keyOf_pair, keyOf_pairD, ok_lenD, ok_sortP, ok_sumL, ok_itZipL, ok_itZipT, ok_itEn, wp_callIOT, join_i1, ok_geA, ok_geP, ok_ltA, ok_ltP, ok_append, ok_pop, join_z1, join_z2, join_z3, join_z4, ws_raise, join_pair, AR.join_nil, pick_some, pick_none, itL_some, itT_some, hold_t, hold_s, canFz_s, ok_add, ok_addS, ok_cat, ok_sub, ok_mul, ok_div, ok_mod, ok_pow, ok_lt, ok_le, ok_gt, ok_ge, ok_toB, ok_toI, ok_max2, ok_min2, ok_int, ok_intB, ok_lenL, ok_lenT, ok_lenS, ok_eqI, ok_neI, ok_eqB, ok_neB, List.getElem?_cons_zero, List.getElem?_cons_succ, List.set_cons_zero, List.set_cons_succ, List.map_cons, List.map_nil, List.length_cons, List.length_nil, List.all_cons, List.all_nil, List.length_set, List.cons_append, List.nil_append, List.replicate, Nat.zero_add, Nat.reduceAdd, Nat.reduceLT, Nat.reduceLeDiff, Nat.reduceEqDiff, decide_eq_true_eq, Bool.false_eq_true, if_false, true_and, and_true, Bool.and_true, Bool.true_and, Bool.and_self, Bool.or_true, Bool.true_or, Option.isSome_some, if_true, Option.map_some, Option.join_some]
    have none' : ∃ (a' b' : Int) (ts : List Pr) (x4 x5 x6 : Option AR.Tm), [some (1, hd a b), some (0, D.int m), some (0, D.int w), some (1, D.lst []), none, none, none, none, none, none, none] = [some (1, hd a' b'), some (0, .int m), some (0, .int w), some (1, .lst (ts.map pairD)), x4, x5, x6, none, none, none, none] ∧ HandOk b' ∧ TieOk m ts ∧ ts.length ≤ 300 ∧ (w = 2 ∨ w = 3 → ts = []) := ⟨a, b, [], none, none, none, rfl, hb, by simp [TieOk], by simp, fun _ => rfl⟩
    have big' := fun (hw : ¬ (w = 2 ∨ w = 3)) => big.mono (N' := fun e => ∃ (a b : Int) (ts : List Pr) (x4 x5 x6 : Option AR.Tm), e = [some (1, hd a b), some (0, .int m), some (0, .int w), some (1, .lst (ts.map pairD)), x4, x5, x6, none, none, none, none] ∧ HandOk b ∧ TieOk m ts ∧ ts.length ≤ 300 ∧ (w = 2 ∨ w = 3 → ts = [])) (R' := fun m d e => Q (m, d) (pick (some 0) e)) (fun e ⟨a, b, ts, x4, x5, x6, h1, h2, h3, h4⟩ => ⟨a, b, ts, x4, x5, x6, h1, h2, h3, h4, fun h => absurd h hw⟩) (fun _ _ _ h => h)
    simp only [↓wp_R1, ↓wp_R2, ↓wp_R3, wp_ret, wp_bind, wp_mif, wp_mopt, okp_some, okp_none, okp_map, okp_bind, okp_ite, slp_some, wp_c, kind0, wp_name, wp_move, wp_op, wp_asB, wp_neg, wp_bi, wp_cons, wp_tup, wp_lst, wp_call1, wp_isi, wp_isN, wp_and, wp_or, wp_not, wp_ofB, wp_ite, wp_ifE, wp_chain, wp_chL, wp_chN, wp_ixN, there_cons0, there_succ, wp_sl, wp_scrSl, outp_ok, wp_callF, wp_callIO, wp_recv, ws_seq, ws_next, ws_expr, ws_ret, ws_retN, ws_if, ws_asg, ws_post, ws_fz, ws_drop, ws_par, ws_setI, ws_aug, ws_for, ws_loop_nil, wp_lc, lc_nil, okp_ixL, okp_ixT, okp_gixL, okp_gixT, kidN_0, kidN_1L, kidN_int, kidN_bl, kidN_str, kidN_pair, kid_some, kid_int, kid_pair, kind_int, kind_bl, kind_str, kind_non, kind_pair, kind_lst, kind_lst1, at0, at1, at2, at3, ok_gNm, ok_gTp, ok_gLs0, ok_gLs1, ok_gCo, ok_gNo, ok_slot, getP_nil, setP_nil, ok_ixOf, ixN0, ixN1, acc_int, acc_pair, acc_str, acc_same, AR.acc_zero, frz_cons0, frz_none, frz_succ, ok_scrSl, ok_tupOf, ok_lstOf, wp_dgetN, wp_dnew, ws_dput, ok_dicAt, ok_keyAt, keyOf_pair, keyOf_pairD, ok_lenD, ok_sortP, ok_sumL, ok_itZipL, ok_itZipT, ok_itEn, wp_callIOT, join_i1, ok_geA, ok_geP, ok_ltA, ok_ltP, ok_append, ok_pop, join_z1, join_z2, join_z3, join_z4, ws_raise, join_pair, AR.join_nil, pick_some, pick_none, itL_some, itT_some, hold_t, hold_s, canFz_s, ok_add, ok_addS, ok_cat, ok_sub, ok_mul, ok_div, ok_mod, ok_pow, ok_lt, ok_le, ok_gt, ok_ge, ok_toB, ok_toI, ok_max2, ok_min2, ok_int, ok_intB, ok_lenL, ok_lenT, ok_lenS, ok_eqI, ok_neI, ok_eqB, ok_neB, List.getElem?_cons_zero, List.getElem?_cons_succ, List.set_cons_zero, List.set_cons_succ, List.map_cons, List.map_nil, List.length_cons, List.length_nil, List.all_cons, List.all_nil, List.length_set, List.cons_append, List.nil_append, List.replicate, Nat.zero_add, Nat.reduceAdd, Nat.reduceLT, Nat.reduceLeDiff, Nat.reduceEqDiff, decide_eq_true_eq, Bool.false_eq_true, if_false, true_and, and_true, Bool.and_true, Bool.true_and, Bool.and_self, Bool.or_true, Bool.true_or, Option.isSome_some, if_true, Option.map_some, Option.join_some] at big'
    by_cases h1 : w = 1
    · simp only [h1, decide_true, if_true]
      rw [h1] at big'
      exact big' (by omega)
    · by_cases h4 : w = 4
      · simp only [h4, decide_true, if_true]
        rw [h4] at big'
        simpa using big' (by omega)
      · simp only [h1, h4, decide_false, Bool.false_eq_true, if_false]
        exact none'
  obtain ⟨a, b, ts, x4, x5, x6, rfl, hb, ht, hl, hw⟩ : ∃ (a b : Int) (ts : List Pr) (x4 x5 x6 : Option AR.Tm), e = [some (1, hd a b), some (0, .int m), some (0, .int w), some (1, .lst (ts.map pairD)), x4, x5, x6, none, none, none, none] ∧ HandOk b ∧ TieOk m ts ∧ ts.length ≤ 300 ∧ (w = 2 ∨ w = 3 → ts = []) := he
  refine ws_mid (fun e => ∃ (a b h : Int), e = [some (1, hd a b), some (0, .int m), some (0, .int w), some (1, .lst (ts.map pairD)), x4, x5, x6, some (0, .int h), none, none, none] ∧ HandOk b ∧ 1 ≤ h ∧ h ≤ 6) ?_ fun e he => ?_
  · simp only [↓wp_R1, ↓wp_R2, ↓wp_R3, wp_ret, wp_bind, wp_mif, wp_mopt, okp_some, okp_none, okp_map, okp_bind, okp_ite, slp_some, wp_c, kind0, wp_name, wp_move, wp_op, wp_asB, wp_neg, wp_bi, wp_cons, wp_tup, wp_lst, wp_call1, wp_isi, wp_isN, wp_and, wp_or, wp_not, wp_ofB, wp_ite, wp_ifE, wp_chain, wp_chL, wp_chN, wp_ixN, there_cons0, there_succ, wp_sl, wp_scrSl, outp_ok, wp_callF, wp_callIO, wp_recv, ws_seq, ws_next, ws_expr, ws_ret, ws_retN, ws_if, ws_asg, ws_post, ws_fz, ws_drop, ws_par, ws_setI, ws_aug, ws_for, ws_loop_nil, wp_lc, lc_nil, okp_ixL, okp_ixT, okp_gixL, okp_gixT, kidN_0, kidN_1L, kidN_int, kidN_bl, kidN_str, kidN_pair, kid_some, kid_int, kid_pair, kind_int, kind_bl, kind_str, kind_non, kind_pair, kind_lst, kind_lst1, at0, at1, at2, at3, ok_gNm, ok_gTp, ok_gLs0, ok_gLs1, ok_gCo, ok_gNo, ok_slot, getP_nil, setP_nil, ok_ixOf, ixN0, ixN1, acc_int, acc_pair, acc_str, acc_same, AR.acc_zero, frz_cons0, frz_none, frz_succ, ok_scrSl, ok_tupOf, ok_lstOf, wp_dgetN, wp_dnew, ws_dput, ok_dicAt, ok_keyAt, keyOf_pair, keyOf_pairD, ok_lenD, ok_sortP, ok_sumL, ok_itZipL, ok_itZipT, ok_itEn, wp_callIOT, join_i1, ok_geA, ok_geP, ok_ltA, ok_ltP, ok_append, ok_pop, join_z1, join_z2, join_z3, join_z4, ws_raise, join_pair, AR.join_nil, pick_some, pick_none, itL_some, itT_some, hold_t, hold_s, canFz_s, ok_add, ok_addS, ok_cat, ok_sub, ok_mul, ok_div, ok_mod, ok_pow, ok_lt, ok_le, ok_gt, ok_ge, ok_toB, ok_toI, ok_max2, ok_min2, ok_int, ok_intB, ok_lenL, ok_lenT, ok_lenS, ok_eqI, ok_neI, ok_eqB, ok_neB, List.getElem?_cons_zero, List.getElem?_cons_succ, List.set_cons_zero, List.set_cons_succ, List.map_cons, List.map_nil, List.length_cons, List.length_nil, List.all_cons, List.all_nil, List.length_set, List.cons_append, List.nil_append, List.replicate, Nat.zero_add, Nat.reduceAdd, Nat.reduceLT, Nat.reduceLeDiff, Nat.reduceEqDiff, decide_eq_true_eq, Bool.false_eq_true, if_false, true_and, and_true, Bool.and_true, Bool.true_and, Bool.and_self, Bool.or_true, Bool.true_or, Option.isSome_some, if_true, Option.map_some, Option.join_some]
    refine out_take hb (by omega) (by decide) fun r a1 b1 r0 r1 hb1 => ?_
    simp only [↓wp_R1, ↓wp_R2, ↓wp_R3, wp_ret, wp_bind, wp_mif, wp_mopt, okp_some, okp_none, okp_map, okp_bind, okp_ite, slp_some, wp_c, kind0, wp_name, wp_move, wp_op, wp_asB, wp_neg, wp_bi, wp_cons, wp_tup, wp_lst, wp_call1, wp_isi, wp_isN, wp_and, wp_or, wp_not, wp_ofB, wp_ite, wp_ifE, wp_chain, wp_chL, wp_chN, wp_ixN, there_cons0, there_succ, wp_sl, wp_scrSl, outp_ok, wp_callF, wp_callIO, wp_recv, ws_seq, ws_next, ws_expr, ws_ret, ws_retN, ws_if, ws_asg, ws_post, ws_fz, ws_drop, ws_par, ws_setI, ws_aug, ws_for, ws_loop_nil, wp_lc, lc_nil, okp_ixL, okp_ixT, okp_gixL, okp_gixT, kidN_0, kidN_1L, kidN_int, kidN_bl, kidN_str, kidN_pair, kid_some, kid_int, kid_pair, kind_int, kind_bl, kind_str, kind_non, kind_pair, kind_lst, kind_lst1, at0, at1, at2, at3, ok_gNm, ok_gTp, ok_gLs0, ok_gLs1, ok_gCo, ok_gNo, ok_slot, getP_nil, setP_nil, ok_ixOf, ixN0, ixN1, acc_int, acc_pair, acc_str, acc_same, AR.acc_zero, frz_cons0, frz_none, frz_succ, ok_scrSl, ok_tupOf, ok_lstOf, wp_dgetN, wp_dnew, ws_dput, ok_dicAt, ok_keyAt, keyOf_pair, keyOf_pairD, ok_lenD, ok_sortP, ok_sumL, ok_itZipL, ok_itZipT, ok_itEn, wp_callIOT, join_i1, ok_geA, ok_geP, ok_ltA, ok_ltP, ok_append, ok_pop, join_z1, join_z2, join_z3, join_z4, ws_raise, join_pair, AR.join_nil, pick_some, pick_none, itL_some, itT_some, hold_t, hold_s, canFz_s, ok_add, ok_addS, ok_cat, ok_sub, ok_mul, ok_div, ok_mod, ok_pow, ok_lt, ok_le, ok_gt, ok_ge, ok_toB, ok_toI, ok_max2, ok_min2, ok_int, ok_intB, ok_lenL, ok_lenT, ok_lenS, ok_eqI, ok_neI, ok_eqB, ok_neB, List.getElem?_cons_zero, List.getElem?_cons_succ, List.set_cons_zero, List.set_cons_succ, List.map_cons, List.map_nil, List.length_cons, List.length_nil, List.all_cons, List.all_nil, List.length_set, List.cons_append, List.nil_append, List.replicate, Nat.zero_add, Nat.reduceAdd, Nat.reduceLT, Nat.reduceLeDiff, Nat.reduceEqDiff, decide_eq_true_eq, Bool.false_eq_true, if_false, true_and, and_true, Bool.and_true, Bool.true_and, Bool.and_self, Bool.or_true, Bool.true_or, Option.isSome_some, if_true, Option.map_some, Option.join_some]
    exact ⟨_, _, _, rfl, hb1, by omega, by omega⟩
  obtain ⟨a, b, h, rfl, hb, h1, h6⟩ : ∃ (a b h : Int), e = [some (1, hd a b), some (0, .int m), some (0, .int w), some (1, .lst (ts.map pairD)), x4, x5, x6, some (0, .int h), none, none, none] ∧ HandOk b ∧ 1 ≤ h ∧ h ≤ 6 := he
  refine ws_mid (fun e => ∃ (a b : Int) (ts : List Pr) (x5 x6 : Option AR.Tm), e = [some (1, hd a b), some (0, .int m), some (0, .int w), some (1, .lst (ts.map pairD)), x4, x5, x6, some (0, .int h), none, none, none] ∧ HandOk b ∧ TieOk m ts ∧ ts.length ≤ 300 ∧ (w = 3 → ts = [])) ?_ fun e he => ?_
  · simp only [↓wp_R1, ↓wp_R2, ↓wp_R3, wp_ret, wp_bind, wp_mif, wp_mopt, okp_some, okp_none, okp_map, okp_bind, okp_ite, slp_some, wp_c, kind0, wp_name, wp_move, wp_op, wp_asB, wp_neg, wp_bi, wp_cons, wp_tup, wp_lst, wp_call1, wp_isi, wp_isN, wp_and, wp_or, wp_not, wp_ofB, wp_ite, wp_ifE, wp_chain, wp_chL, wp_chN, wp_ixN, there_cons0, there_succ, wp_sl, wp_scrSl, outp_ok, wp_callF, wp_callIO, wp_recv, ws_seq, ws_next, ws_expr, ws_ret, ws_retN, ws_if, ws_asg, ws_post, ws_fz, ws_drop, ws_par, ws_setI, ws_aug, ws_for, ws_loop_nil, wp_lc, lc_nil, okp_ixL, okp_ixT, okp_gixL, okp_gixT, kidN_0, kidN_1L, kidN_int, kidN_bl, kidN_str, kidN_pair, kid_some, kid_int, kid_pair, kind_int, kind_bl, kind_str, kind_non, kind_pair, kind_lst, kind_lst1, at0, at1, at2, at3, ok_gNm, ok_gTp, ok_gLs0, ok_gLs1, ok_gCo, ok_gNo, ok_slot, getP_nil, setP_nil, ok_ixOf, ixN0, ixN1, acc_int, acc_pair, acc_str, acc_same, AR.acc_zero, frz_cons0, frz_none, frz_succ, ok_scrSl, ok_tupOf, ok_lstOf, wp_dgetN, wp_dnew, ws_dput, ok_dicAt, ok_keyAt, keyOf_pair, keyOf_pairD, ok_lenD, ok_sortP, ok_sumL, ok_itZipL, ok_itZipT, ok_itEn, wp_callIOT, join_i1, ok_geA, ok_geP, ok_ltA, ok_ltP, ok_append, ok_pop, join_z1, join_z2, join_z3, join_z4, ws_raise, join_pair, AR.join_nil, pick_some, pick_none, itL_some, itT_some, hold_t, hold_s, canFz_s, ok_add, ok_addS, ok_cat, ok_sub, ok_mul, ok_div, ok_mod, ok_pow, ok_lt, ok_le, ok_gt, ok_ge, ok_toB, ok_toI, ok_max2, ok_min2, ok_int, ok_intB, ok_lenL, ok_lenT, ok_lenS, ok_eqI, ok_neI, ok_eqB, ok_neB, List.getElem?_cons_zero, List.getElem?_cons_succ, List.set_cons_zero, List.set_cons_succ, List.map_cons, List.map_nil, List.length_cons, List.length_nil, List.all_cons, List.all_nil, List.length_set, List.cons_append, List.nil_append, List.replicate, Nat.zero_add, Nat.reduceAdd, Nat.reduceLT, Nat.reduceLeDiff, Nat.reduceEqDiff, decide_eq_true_eq, Bool.false_eq_true, if_false, true_and, and_true, Bool.and_true, Bool.true_and, Bool.and_self, Bool.or_true, Bool.true_or, Option.isSome_some, if_true, Option.map_some, Option.join_some]
    split
    · rename_i hw2
      obtain rfl := hw (.inl hw2)
      refine ⟨inR_small (by omega) (by omega), ?_⟩
      refine ws_loop (fun j e => ∃ (a b : Int) (ts : List Pr) (x5 x6 : Option AR.Tm), e = [some (1, hd a b), some (0, .int m), some (0, .int w), some (1, .lst (ts.map pairD)), x4, x5, x6, some (0, .int h), none, none, none] ∧ HandOk b ∧ TieOk m ts ∧ ts.length ≤ 6 * j) (n := 0) ⟨_, _, [], _, _, rfl, hb, by simp [TieOk], by simp⟩ (fun j d e hj he => ?_) fun e he => ?_
      · obtain ⟨a, b, ts, x5, x6, rfl, hb, ht, hl⟩ := he
        have hj' := (List.getElem?_eq_some_iff.mp hj).1
        rw [upto_length] at hj'
        rw [upto_get hj]
        simp only [Int.zero_add, ↓wp_R1, ↓wp_R2, ↓wp_R3, wp_ret, wp_bind, wp_mif, wp_mopt, okp_some, okp_none, okp_map, okp_bind, okp_ite, slp_some, wp_c, kind0, wp_name, wp_move, wp_op, wp_asB, wp_neg, wp_bi, wp_cons, wp_tup, wp_lst, wp_call1, wp_isi, wp_isN, wp_and, wp_or, wp_not, wp_ofB, wp_ite, wp_ifE, wp_chain, wp_chL, wp_chN, wp_ixN, there_cons0, there_succ, wp_sl, wp_scrSl, outp_ok, wp_callF, wp_callIO, wp_recv, ws_seq, ws_next, ws_expr, ws_ret, ws_retN, ws_if, ws_asg, ws_post, ws_fz, ws_drop, ws_par, ws_setI, ws_aug, ws_for, ws_loop_nil, wp_lc, lc_nil, okp_ixL, okp_ixT, okp_gixL, okp_gixT, kidN_0, kidN_1L, kidN_int, kidN_bl, kidN_str, kidN_pair, kid_some, kid_int, kid_pair, kind_int, kind_bl, kind_str, kind_non, kind_pair, kind_lst, kind_lst1, at0, at1, at2, at3, ok_gNm, ok_gTp, ok_gLs0, ok_gLs1, ok_gCo, ok_gNo, ok_slot, getP_nil, setP_nil, ok_ixOf, ixN0, ixN1, acc_int, acc_pair, acc_str, acc_same, AR.acc_zero, frz_cons0, frz_none, frz_succ, ok_scrSl, ok_tupOf, ok_lstOf, wp_dgetN, wp_dnew, ws_dput, ok_dicAt, ok_keyAt, keyOf_pair, keyOf_pairD, ok_lenD, ok_sortP, ok_sumL, ok_itZipL, ok_itZipT, ok_itEn, wp_callIOT, join_i1, ok_geA, ok_geP, ok_ltA, ok_ltP, ok_append, ok_pop, join_z1, join_z2, join_z3, join_z4, ws_raise, join_pair, AR.join_nil, pick_some, pick_none, itL_some, itT_some, hold_t, hold_s, canFz_s, ok_add, ok_addS, ok_cat, ok_sub, ok_mul, ok_div, ok_mod, ok_pow, ok_lt, ok_le, ok_gt, ok_ge, ok_toB, ok_toI, ok_max2, ok_min2, ok_int, ok_intB, ok_lenL, ok_lenT, ok_lenS, ok_eqI, ok_neI, ok_eqB, ok_neB, List.getElem?_cons_zero, List.getElem?_cons_succ, List.set_cons_zero, List.set_cons_succ, List.map_cons, List.map_nil, List.length_cons, List.length_nil, List.all_cons, List.all_nil, List.length_set, List.cons_append, List.nil_append, List.replicate, Nat.zero_add, Nat.reduceAdd, Nat.reduceLT, Nat.reduceLeDiff, Nat.reduceEqDiff, decide_eq_true_eq, Bool.false_eq_true, if_false, true_and, and_true, Bool.and_true, Bool.true_and, Bool.and_self, Bool.or_true, Bool.true_or, Option.isSome_some, if_true, Option.map_some, Option.join_some] at hl ⊢
        exact ties_near (by omega) hm h1 h6 hb hl ht fun us a b x6 q1 q2 q3 => ⟨_, _, _, _, _, rfl, q1, q2, q3⟩
      · obtain ⟨a, b, ts, x5, x6, rfl, hb, ht, hl⟩ := he
        rw [upto_length] at hl
        exact ⟨_, _, _, _, _, rfl, hb, ht, by omega, fun h => by omega⟩
    · exact ⟨_, _, _, _, _, rfl, hb, ht, hl, fun h => hw (.inr h)⟩
  clear hw hl ht hb
  obtain ⟨a, b, ts, x5, x6, rfl, hb, ht, hl, hw⟩ : ∃ (a b : Int) (ts : List Pr) (x5 x6 : Option AR.Tm), e = [some (1, hd a b), some (0, .int m), some (0, .int w), some (1, .lst (ts.map pairD)), x4, x5, x6, some (0, .int h), none, none, none] ∧ HandOk b ∧ TieOk m ts ∧ ts.length ≤ 300 ∧ (w = 3 → ts = []) := he
  refine ws_mid (fun e => ∃ (a b : Int) (ts : List Pr) (x4 x5 x6 x8 x9 x10 : Option AR.Tm), e = [some (1, hd a b), some (0, .int m), some (0, .int w), some (1, .lst (ts.map pairD)), x4, x5, x6, some (0, .int h), x8, x9, x10] ∧ HandOk b ∧ TieOk m ts ∧ ts.length ≤ 960 ∧ (w = 4 → ts.length ≤ 300)) ?_ fun e he => ?_
  · simp only [↓wp_R1, ↓wp_R2, ↓wp_R3, wp_ret, wp_bind, wp_mif, wp_mopt, okp_some, okp_none, okp_map, okp_bind, okp_ite, slp_some, wp_c, kind0, wp_name, wp_move, wp_op, wp_asB, wp_neg, wp_bi, wp_cons, wp_tup, wp_lst, wp_call1, wp_isi, wp_isN, wp_and, wp_or, wp_not, wp_ofB, wp_ite, wp_ifE, wp_chain, wp_chL, wp_chN, wp_ixN, there_cons0, there_succ, wp_sl, wp_scrSl, outp_ok, wp_callF, wp_callIO, wp_recv, ws_seq, ws_next, ws_expr, ws_ret, ws_retN, ws_if, ws_asg, ws_post, ws_fz, ws_drop, ws_par, ws_setI, ws_aug, ws_for, ws_loop_nil, wp_lc, lc_nil, okp_ixL, okp_ixT, okp_gixL, okp_gixT, kidN_0, kidN_1L, kidN_int, kidN_bl, kidN_str, kidN_pair, kid_some, kid_int, kid_pair, kind_int, kind_bl, kind_str, kind_non, kind_pair, kind_lst, kind_lst1, at0, at1, at2, at3, ok_gNm, ok_gTp, ok_gLs0, ok_gLs1, ok_gCo, ok_gNo, ok_slot, getP_nil, setP_nil, ok_ixOf, ixN0, ixN1, acc_int, acc_pair, acc_str, acc_same, AR.acc_zero, frz_cons0, frz_none, frz_succ, ok_scrSl, ok_tupOf, ok_lstOf, wp_dgetN, wp_dnew, ws_dput, ok_dicAt, ok_keyAt, keyOf_pair, keyOf_pairD, ok_lenD, ok_sortP, ok_sumL, ok_itZipL, ok_itZipT, ok_itEn, wp_callIOT, join_i1, ok_geA, ok_geP, ok_ltA, ok_ltP, ok_append, ok_pop, join_z1, join_z2, join_z3, join_z4, ws_raise, join_pair, AR.join_nil, pick_some, pick_none, itL_some, itT_some, hold_t, hold_s, canFz_s, ok_add, ok_addS, ok_cat, ok_sub, ok_mul, ok_div, ok_mod, ok_pow, ok_lt, ok_le, ok_gt, ok_ge, ok_toB, ok_toI, ok_max2, ok_min2, ok_int, ok_intB, ok_lenL, ok_lenT, ok_lenS, ok_eqI, ok_neI, ok_eqB, ok_neB, List.getElem?_cons_zero, List.getElem?_cons_succ, List.set_cons_zero, List.set_cons_succ, List.map_cons, List.map_nil, List.length_cons, List.length_nil, List.all_cons, List.all_nil, List.length_set, List.cons_append, List.nil_append, List.replicate, Nat.zero_add, Nat.reduceAdd, Nat.reduceLT, Nat.reduceLeDiff, Nat.reduceEqDiff, decide_eq_true_eq, Bool.false_eq_true, if_false, true_and, and_true, Bool.and_true, Bool.true_and, Bool.and_self, Bool.or_true, Bool.true_or, Option.isSome_some, if_true, Option.map_some, Option.join_some]
    split
    · rename_i hw3
      obtain rfl := hw hw3
      refine ⟨inR_small (by omega) (by omega), by rw [upto_length]; omega, ?_⟩
      simp only [wipeE, ↓wp_R1, ↓wp_R2, ↓wp_R3, wp_ret, wp_bind, wp_mif, wp_mopt, okp_some, okp_none, okp_map, okp_bind, okp_ite, slp_some, wp_c, kind0, wp_name, wp_move, wp_op, wp_asB, wp_neg, wp_bi, wp_cons, wp_tup, wp_lst, wp_call1, wp_isi, wp_isN, wp_and, wp_or, wp_not, wp_ofB, wp_ite, wp_ifE, wp_chain, wp_chL, wp_chN, wp_ixN, there_cons0, there_succ, wp_sl, wp_scrSl, outp_ok, wp_callF, wp_callIO, wp_recv, ws_seq, ws_next, ws_expr, ws_ret, ws_retN, ws_if, ws_asg, ws_post, ws_fz, ws_drop, ws_par, ws_setI, ws_aug, ws_for, ws_loop_nil, wp_lc, lc_nil, okp_ixL, okp_ixT, okp_gixL, okp_gixT, kidN_0, kidN_1L, kidN_int, kidN_bl, kidN_str, kidN_pair, kid_some, kid_int, kid_pair, kind_int, kind_bl, kind_str, kind_non, kind_pair, kind_lst, kind_lst1, at0, at1, at2, at3, ok_gNm, ok_gTp, ok_gLs0, ok_gLs1, ok_gCo, ok_gNo, ok_slot, getP_nil, setP_nil, ok_ixOf, ixN0, ixN1, acc_int, acc_pair, acc_str, acc_same, AR.acc_zero, frz_cons0, frz_none, frz_succ, ok_scrSl, ok_tupOf, ok_lstOf, wp_dgetN, wp_dnew, ws_dput, ok_dicAt, ok_keyAt, keyOf_pair, keyOf_pairD, ok_lenD, ok_sortP, ok_sumL, ok_itZipL, ok_itZipT, ok_itEn, wp_callIOT, join_i1, ok_geA, ok_geP, ok_ltA, ok_ltP, ok_append, ok_pop, join_z1, join_z2, join_z3, join_z4, ws_raise, join_pair, AR.join_nil, pick_some, pick_none, itL_some, itT_some, hold_t, hold_s, canFz_s, ok_add, ok_addS, ok_cat, ok_sub, ok_mul, ok_div, ok_mod, ok_pow, ok_lt, ok_le, ok_gt, ok_ge, ok_toB, ok_toI, ok_max2, ok_min2, ok_int, ok_intB, ok_lenL, ok_lenT, ok_lenS, ok_eqI, ok_neI, ok_eqB, ok_neB, List.getElem?_cons_zero, List.getElem?_cons_succ, List.set_cons_zero, List.set_cons_succ, List.map_cons, List.map_nil, List.length_cons, List.length_nil, List.all_cons, List.all_nil, List.length_set, List.cons_append, List.nil_append, List.replicate, Nat.zero_add, Nat.reduceAdd, Nat.reduceLT, Nat.reduceLeDiff, Nat.reduceEqDiff, decide_eq_true_eq, Bool.false_eq_true, if_false, true_and, and_true, Bool.and_true, Bool.true_and, Bool.and_self, Bool.or_true, Bool.true_or, Option.isSome_some, if_true, Option.map_some, Option.join_some]
      refine lc_inv (fun j acc e => ∃ (a b : Int) (ks : List Int), e = [some (1, hd a b), some (0, .int m), some (0, .int w), some (1, .lst []), x4, x5, x6, some (0, .int h), none, none, none] ∧ acc = ks.map D.int ∧ ks.length = j ∧ HandOk b) (n := 0) ⟨a, b, [], rfl, rfl, rfl, hb⟩ (fun j d acc e hj he => ?_) fun acc e he => ?_
      · obtain ⟨a, b, ks, rfl, rfl, hk, hb⟩ := he
        simp only [↓wp_R1, ↓wp_R2, ↓wp_R3, wp_ret, wp_bind, wp_mif, wp_mopt, okp_some, okp_none, okp_map, okp_bind, okp_ite, slp_some, wp_c, kind0, wp_name, wp_move, wp_op, wp_asB, wp_neg, wp_bi, wp_cons, wp_tup, wp_lst, wp_call1, wp_isi, wp_isN, wp_and, wp_or, wp_not, wp_ofB, wp_ite, wp_ifE, wp_chain, wp_chL, wp_chN, wp_ixN, there_cons0, there_succ, wp_sl, wp_scrSl, outp_ok, wp_callF, wp_callIO, wp_recv, ws_seq, ws_next, ws_expr, ws_ret, ws_retN, ws_if, ws_asg, ws_post, ws_fz, ws_drop, ws_par, ws_setI, ws_aug, ws_for, ws_loop_nil, wp_lc, lc_nil, okp_ixL, okp_ixT, okp_gixL, okp_gixT, kidN_0, kidN_1L, kidN_int, kidN_bl, kidN_str, kidN_pair, kid_some, kid_int, kid_pair, kind_int, kind_bl, kind_str, kind_non, kind_pair, kind_lst, kind_lst1, at0, at1, at2, at3, ok_gNm, ok_gTp, ok_gLs0, ok_gLs1, ok_gCo, ok_gNo, ok_slot, getP_nil, setP_nil, ok_ixOf, ixN0, ixN1, acc_int, acc_pair, acc_str, acc_same, AR.acc_zero, frz_cons0, frz_none, frz_succ, ok_scrSl, ok_tupOf, ok_lstOf, wp_dgetN, wp_dnew, ws_dput, ok_dicAt, ok_keyAt, keyOf_pair, keyOf_pairD, ok_lenD, ok_sortP, ok_sumL, ok_itZipL, ok_itZipT, ok_itEn, wp_callIOT, join_i1, ok_geA, ok_geP, ok_ltA, ok_ltP, ok_append, ok_pop, join_z1, join_z2, join_z3, join_z4, ws_raise, join_pair, AR.join_nil, pick_some, pick_none, itL_some, itT_some, hold_t, hold_s, canFz_s, ok_add, ok_addS, ok_cat, ok_sub, ok_mul, ok_div, ok_mod, ok_pow, ok_lt, ok_le, ok_gt, ok_ge, ok_toB, ok_toI, ok_max2, ok_min2, ok_int, ok_intB, ok_lenL, ok_lenT, ok_lenS, ok_eqI, ok_neI, ok_eqB, ok_neB, List.getElem?_cons_zero, List.getElem?_cons_succ, List.set_cons_zero, List.set_cons_succ, List.map_cons, List.map_nil, List.length_cons, List.length_nil, List.all_cons, List.all_nil, List.length_set, List.cons_append, List.nil_append, List.replicate, Nat.zero_add, Nat.reduceAdd, Nat.reduceLT, Nat.reduceLeDiff, Nat.reduceEqDiff, decide_eq_true_eq, Bool.false_eq_true, if_false, true_and, and_true, Bool.and_true, Bool.true_and, Bool.and_self, Bool.or_true, Bool.true_or, Option.isSome_some, if_true, Option.map_some, Option.join_some]
        refine out_take hb (by omega) (by decide) fun r a1 b1 r0 r1 hb1 => ?_
        simp only [lcNext, wipeE, ↓wp_R1, ↓wp_R2, ↓wp_R3, wp_ret, wp_bind, wp_mif, wp_mopt, okp_some, okp_none, okp_map, okp_bind, okp_ite, slp_some, wp_c, kind0, wp_name, wp_move, wp_op, wp_asB, wp_neg, wp_bi, wp_cons, wp_tup, wp_lst, wp_call1, wp_isi, wp_isN, wp_and, wp_or, wp_not, wp_ofB, wp_ite, wp_ifE, wp_chain, wp_chL, wp_chN, wp_ixN, there_cons0, there_succ, wp_sl, wp_scrSl, outp_ok, wp_callF, wp_callIO, wp_recv, ws_seq, ws_next, ws_expr, ws_ret, ws_retN, ws_if, ws_asg, ws_post, ws_fz, ws_drop, ws_par, ws_setI, ws_aug, ws_for, ws_loop_nil, wp_lc, lc_nil, okp_ixL, okp_ixT, okp_gixL, okp_gixT, kidN_0, kidN_1L, kidN_int, kidN_bl, kidN_str, kidN_pair, kid_some, kid_int, kid_pair, kind_int, kind_bl, kind_str, kind_non, kind_pair, kind_lst, kind_lst1, at0, at1, at2, at3, ok_gNm, ok_gTp, ok_gLs0, ok_gLs1, ok_gCo, ok_gNo, ok_slot, getP_nil, setP_nil, ok_ixOf, ixN0, ixN1, acc_int, acc_pair, acc_str, acc_same, AR.acc_zero, frz_cons0, frz_none, frz_succ, ok_scrSl, ok_tupOf, ok_lstOf, wp_dgetN, wp_dnew, ws_dput, ok_dicAt, ok_keyAt, keyOf_pair, keyOf_pairD, ok_lenD, ok_sortP, ok_sumL, ok_itZipL, ok_itZipT, ok_itEn, wp_callIOT, join_i1, ok_geA, ok_geP, ok_ltA, ok_ltP, ok_append, ok_pop, join_z1, join_z2, join_z3, join_z4, ws_raise, join_pair, AR.join_nil, pick_some, pick_none, itL_some, itT_some, hold_t, hold_s, canFz_s, ok_add, ok_addS, ok_cat, ok_sub, ok_mul, ok_div, ok_mod, ok_pow, ok_lt, ok_le, ok_gt, ok_ge, ok_toB, ok_toI, ok_max2, ok_min2, ok_int, ok_intB, ok_lenL, ok_lenT, ok_lenS, ok_eqI, ok_neI, ok_eqB, ok_neB, List.getElem?_cons_zero, List.getElem?_cons_succ, List.set_cons_zero, List.set_cons_succ, List.map_cons, List.map_nil, List.length_cons, List.length_nil, List.all_cons, List.all_nil, List.length_set, List.cons_append, List.nil_append, List.replicate, Nat.zero_add, Nat.reduceAdd, Nat.reduceLT, Nat.reduceLeDiff, Nat.reduceEqDiff, decide_eq_true_eq, Bool.false_eq_true, if_false, true_and, and_true, Bool.and_true, Bool.true_and, Bool.and_self, Bool.or_true, Bool.true_or, Option.isSome_some, if_true, Option.map_some, Option.join_some]
        exact ⟨_, _, ks ++ [r], rfl, by simp, by simp; omega, hb1⟩
      · obtain ⟨a, b, ks, rfl, rfl, hk, hb⟩ := he
        rw [upto_length] at hk
        have hk' : ks.length = m := by omega
        simp only [↓wp_R1, ↓wp_R2, ↓wp_R3, wp_ret, wp_bind, wp_mif, wp_mopt, okp_some, okp_none, okp_map, okp_bind, okp_ite, slp_some, wp_c, kind0, wp_name, wp_move, wp_op, wp_asB, wp_neg, wp_bi, wp_cons, wp_tup, wp_lst, wp_call1, wp_isi, wp_isN, wp_and, wp_or, wp_not, wp_ofB, wp_ite, wp_ifE, wp_chain, wp_chL, wp_chN, wp_ixN, there_cons0, there_succ, wp_sl, wp_scrSl, outp_ok, wp_callF, wp_callIO, wp_recv, ws_seq, ws_next, ws_expr, ws_ret, ws_retN, ws_if, ws_asg, ws_post, ws_fz, ws_drop, ws_par, ws_setI, ws_aug, ws_for, ws_loop_nil, wp_lc, lc_nil, okp_ixL, okp_ixT, okp_gixL, okp_gixT, kidN_0, kidN_1L, kidN_int, kidN_bl, kidN_str, kidN_pair, kid_some, kid_int, kid_pair, kind_int, kind_bl, kind_str, kind_non, kind_pair, kind_lst, kind_lst1, at0, at1, at2, at3, ok_gNm, ok_gTp, ok_gLs0, ok_gLs1, ok_gCo, ok_gNo, ok_slot, getP_nil, setP_nil, ok_ixOf, ixN0, ixN1, acc_int, acc_pair, acc_str, acc_same, AR.acc_zero, frz_cons0, frz_none, frz_succ, ok_scrSl, ok_tupOf, ok_lstOf, wp_dgetN, wp_dnew, ws_dput, ok_dicAt, ok_keyAt, keyOf_pair, keyOf_pairD, ok_lenD, ok_sortP, ok_sumL, ok_itZipL, ok_itZipT, ok_itEn, wp_callIOT, join_i1, ok_geA, ok_geP, ok_ltA, ok_ltP, ok_append, ok_pop, join_z1, join_z2, join_z3, join_z4, ws_raise, join_pair, AR.join_nil, pick_some, pick_none, itL_some, itT_some, hold_t, hold_s, canFz_s, ok_add, ok_addS, ok_cat, ok_sub, ok_mul, ok_div, ok_mod, ok_pow, ok_lt, ok_le, ok_gt, ok_ge, ok_toB, ok_toI, ok_max2, ok_min2, ok_int, ok_intB, ok_lenL, ok_lenT, ok_lenS, ok_eqI, ok_neI, ok_eqB, ok_neB, List.getElem?_cons_zero, List.getElem?_cons_succ, List.set_cons_zero, List.set_cons_succ, List.map_cons, List.map_nil, List.length_cons, List.length_nil, List.all_cons, List.all_nil, List.length_set, List.cons_append, List.nil_append, List.replicate, Nat.zero_add, Nat.reduceAdd, Nat.reduceLT, Nat.reduceLeDiff, Nat.reduceEqDiff, decide_eq_true_eq, Bool.false_eq_true, if_false, true_and, and_true, Bool.and_true, Bool.true_and, Bool.and_self, Bool.or_true, Bool.true_or, Option.isSome_some, if_true, Option.map_some, Option.join_some]
        obtain ⟨wd, hwd, hw1, hw2⟩ : ∃ d : Int, atI [D.int m, D.int 14] (if decide ((24 : Int) < m) = true then 1 else 0) = some (.int d) ∧ 1 ≤ d ∧ d ≤ 24 := by
          by_cases h : (24 : Int) < m
          · exact ⟨14, by simp [h, at1], by omega, by omega⟩
          · exact ⟨m, by simp [h, at0], by omega, by omega⟩
        simp only [decide_eq_true_eq] at hwd
        simp only [hwd, ↓wp_R1, ↓wp_R2, ↓wp_R3, wp_ret, wp_bind, wp_mif, wp_mopt, okp_some, okp_none, okp_map, okp_bind, okp_ite, slp_some, wp_c, kind0, wp_name, wp_move, wp_op, wp_asB, wp_neg, wp_bi, wp_cons, wp_tup, wp_lst, wp_call1, wp_isi, wp_isN, wp_and, wp_or, wp_not, wp_ofB, wp_ite, wp_ifE, wp_chain, wp_chL, wp_chN, wp_ixN, there_cons0, there_succ, wp_sl, wp_scrSl, outp_ok, wp_callF, wp_callIO, wp_recv, ws_seq, ws_next, ws_expr, ws_ret, ws_retN, ws_if, ws_asg, ws_post, ws_fz, ws_drop, ws_par, ws_setI, ws_aug, ws_for, ws_loop_nil, wp_lc, lc_nil, okp_ixL, okp_ixT, okp_gixL, okp_gixT, kidN_0, kidN_1L, kidN_int, kidN_bl, kidN_str, kidN_pair, kid_some, kid_int, kid_pair, kind_int, kind_bl, kind_str, kind_non, kind_pair, kind_lst, kind_lst1, at0, at1, at2, at3, ok_gNm, ok_gTp, ok_gLs0, ok_gLs1, ok_gCo, ok_gNo, ok_slot, getP_nil, setP_nil, ok_ixOf, ixN0, ixN1, acc_int, acc_pair, acc_str, acc_same, AR.acc_zero, frz_cons0, frz_none, frz_succ, ok_scrSl, ok_tupOf, ok_lstOf, wp_dgetN, wp_dnew, ws_dput, ok_dicAt, ok_keyAt, keyOf_pair, keyOf_pairD, ok_lenD, ok_sortP, ok_sumL, ok_itZipL, ok_itZipT, ok_itEn, wp_callIOT, join_i1, ok_geA, ok_geP, ok_ltA, ok_ltP, ok_append, ok_pop, join_z1, join_z2, join_z3, join_z4, ws_raise, join_pair, AR.join_nil, pick_some, pick_none, itL_some, itT_some, hold_t, hold_s, canFz_s, ok_add, ok_addS, ok_cat, ok_sub, ok_mul, ok_div, ok_mod, ok_pow, ok_lt, ok_le, ok_gt, ok_ge, ok_toB, ok_toI, ok_max2, ok_min2, ok_int, ok_intB, ok_lenL, ok_lenT, ok_lenS, ok_eqI, ok_neI, ok_eqB, ok_neB, List.getElem?_cons_zero, List.getElem?_cons_succ, List.set_cons_zero, List.set_cons_succ, List.map_cons, List.map_nil, List.length_cons, List.length_nil, List.all_cons, List.all_nil, List.length_set, List.cons_append, List.nil_append, List.replicate, Nat.zero_add, Nat.reduceAdd, Nat.reduceLT, Nat.reduceLeDiff, Nat.reduceEqDiff, decide_eq_true_eq, Bool.false_eq_true, if_false, true_and, and_true, Bool.and_true, Bool.true_and, Bool.and_self, Bool.or_true, Bool.true_or, Option.isSome_some, if_true, Option.map_some, Option.join_some]
        refine ⟨inR_small (by omega) (by omega), ?_⟩
        refine ws_loop (fun j e => ∃ (ts : List Pr) (x5 x6 : Option AR.Tm), e = [some (1, hd a b), some (0, .int m), some (0, .int w), some (1, .lst (ts.map pairD)), x4, x5, x6, some (0, .int h), some (0, .lst (ks.map D.int)), none, some (0, .int wd)] ∧ TieOk m ts ∧ ts.length ≤ 24 * j) (n := 0) ⟨[], _, _, rfl, by simp [TieOk], by simp⟩ (fun j d e hj he => ?_) fun e he => ?_
        · obtain ⟨ts, x5, x6, rfl, ht, hl⟩ := he
          have hj' := (List.getElem?_eq_some_iff.mp hj).1
          rw [upto_length] at hj'
          rw [upto_get hj]
          simp only [Int.zero_add, ↓wp_R1, ↓wp_R2, ↓wp_R3, wp_ret, wp_bind, wp_mif, wp_mopt, okp_some, okp_none, okp_map, okp_bind, okp_ite, slp_some, wp_c, kind0, wp_name, wp_move, wp_op, wp_asB, wp_neg, wp_bi, wp_cons, wp_tup, wp_lst, wp_call1, wp_isi, wp_isN, wp_and, wp_or, wp_not, wp_ofB, wp_ite, wp_ifE, wp_chain, wp_chL, wp_chN, wp_ixN, there_cons0, there_succ, wp_sl, wp_scrSl, outp_ok, wp_callF, wp_callIO, wp_recv, ws_seq, ws_next, ws_expr, ws_ret, ws_retN, ws_if, ws_asg, ws_post, ws_fz, ws_drop, ws_par, ws_setI, ws_aug, ws_for, ws_loop_nil, wp_lc, lc_nil, okp_ixL, okp_ixT, okp_gixL, okp_gixT, kidN_0, kidN_1L, kidN_int, kidN_bl, kidN_str, kidN_pair, kid_some, kid_int, kid_pair, kind_int, kind_bl, kind_str, kind_non, kind_pair, kind_lst, kind_lst1, at0, at1, at2, at3, ok_gNm, ok_gTp, ok_gLs0, ok_gLs1, ok_gCo, ok_gNo, ok_slot, getP_nil, setP_nil, ok_ixOf, ixN0, ixN1, acc_int, acc_pair, acc_str, acc_same, AR.acc_zero, frz_cons0, frz_none, frz_succ, ok_scrSl, ok_tupOf, ok_lstOf, wp_dgetN, wp_dnew, ws_dput, ok_dicAt, ok_keyAt, keyOf_pair, keyOf_pairD, ok_lenD, ok_sortP, ok_sumL, ok_itZipL, ok_itZipT, ok_itEn, wp_callIOT, join_i1, ok_geA, ok_geP, ok_ltA, ok_ltP, ok_append, ok_pop, join_z1, join_z2, join_z3, join_z4, ws_raise, join_pair, AR.join_nil, pick_some, pick_none, itL_some, itT_some, hold_t, hold_s, canFz_s, ok_add, ok_addS, ok_cat, ok_sub, ok_mul, ok_div, ok_mod, ok_pow, ok_lt, ok_le, ok_gt, ok_ge, ok_toB, ok_toI, ok_max2, ok_min2, ok_int, ok_intB, ok_lenL, ok_lenT, ok_lenS, ok_eqI, ok_neI, ok_eqB, ok_neB, List.getElem?_cons_zero, List.getElem?_cons_succ, List.set_cons_zero, List.set_cons_succ, List.map_cons, List.map_nil, List.length_cons, List.length_nil, List.all_cons, List.all_nil, List.length_set, List.cons_append, List.nil_append, List.replicate, Nat.zero_add, Nat.reduceAdd, Nat.reduceLT, Nat.reduceLeDiff, Nat.reduceEqDiff, decide_eq_true_eq, Bool.false_eq_true, if_false, true_and, and_true, Bool.and_true, Bool.true_and, Bool.and_self, Bool.or_true, Bool.true_or, Option.isSome_some, if_true, Option.map_some, Option.join_some] at hl ⊢
          exact ties_kinds (by omega) hm hw1 hw2 hk' hl ht fun us q2 q3 => ⟨_, _, _, rfl, q2, q3⟩
        · obtain ⟨ts, x5, x6, rfl, ht, hl⟩ := he
          rw [upto_length] at hl
          exact ⟨_, _, _, _, _, _, _, _, _, rfl, hb, ht, by omega, fun h => by omega⟩
    · exact ⟨_, _, _, _, _, _, _, _, _, rfl, hb, ht, by omega, fun _ => hl⟩
  clear hw hl ht hb
  obtain ⟨a, b, ts, x4, x5, x6, x8, x9, x10, rfl, hb, ht, hl, hw⟩ : ∃ (a b : Int) (ts : List Pr) (x4 x5 x6 x8 x9 x10 : Option AR.Tm), e = [some (1, hd a b), some (0, .int m), some (0, .int w), some (1, .lst (ts.map pairD)), x4, x5, x6, some (0, .int h), x8, x9, x10] ∧ HandOk b ∧ TieOk m ts ∧ ts.length ≤ 960 ∧ (w = 4 → ts.length ≤ 300) := he
  refine ws_mid (fun e => ∃ (a b : Int) (ts : List Pr), e = [some (1, hd a b), some (0, .int m), some (0, .int w), some (1, .lst (ts.map pairD)), x4, x5, x6, some (0, .int h), x8, x9, x10] ∧ HandOk b ∧ TieOk m ts ∧ ts.length ≤ 960) ?_ fun e he => ?_
  · simp only [↓wp_R1, ↓wp_R2, ↓wp_R3, wp_ret, wp_bind, wp_mif, wp_mopt, okp_some, okp_none, okp_map, okp_bind, okp_ite, slp_some, wp_c, kind0, wp_name, wp_move, wp_op, wp_asB, wp_neg, wp_bi, wp_cons, wp_tup, wp_lst, wp_call1, wp_isi, wp_isN, wp_and, wp_or, wp_not, wp_ofB, wp_ite, wp_ifE, wp_chain, wp_chL, wp_chN, wp_ixN, there_cons0, there_succ, wp_sl, wp_scrSl, outp_ok, wp_callF, wp_callIO, wp_recv, ws_seq, ws_next, ws_expr, ws_ret, ws_retN, ws_if, ws_asg, ws_post, ws_fz, ws_drop, ws_par, ws_setI, ws_aug, ws_for, ws_loop_nil, wp_lc, lc_nil, okp_ixL, okp_ixT, okp_gixL, okp_gixT, kidN_0, kidN_1L, kidN_int, kidN_bl, kidN_str, kidN_pair, kid_some, kid_int, kid_pair, kind_int, kind_bl, kind_str, kind_non, kind_pair, kind_lst, kind_lst1, at0, at1, at2, at3, ok_gNm, ok_gTp, ok_gLs0, ok_gLs1, ok_gCo, ok_gNo, ok_slot, getP_nil, setP_nil, ok_ixOf, ixN0, ixN1, acc_int, acc_pair, acc_str, acc_same, AR.acc_zero, frz_cons0, frz_none, frz_succ, ok_scrSl, ok_tupOf, ok_lstOf, wp_dgetN, wp_dnew, ws_dput, ok_dicAt, ok_keyAt, keyOf_pair, keyOf_pairD, ok_lenD, ok_sortP, ok_sumL, ok_itZipL, ok_itZipT, ok_itEn, wp_callIOT, join_i1, ok_geA, ok_geP, ok_ltA, ok_ltP, ok_append, ok_pop, join_z1, join_z2, join_z3, join_z4, ws_raise, join_pair, AR.join_nil, pick_some, pick_none, itL_some, itT_some, hold_t, hold_s, canFz_s, ok_add, ok_addS, ok_cat, ok_sub, ok_mul, ok_div, ok_mod, ok_pow, ok_lt, ok_le, ok_gt, ok_ge, ok_toB, ok_toI, ok_max2, ok_min2, ok_int, ok_intB, ok_lenL, ok_lenT, ok_lenS, ok_eqI, ok_neI, ok_eqB, ok_neB, List.getElem?_cons_zero, List.getElem?_cons_succ, List.set_cons_zero, List.set_cons_succ, List.map_cons, List.map_nil, List.length_cons, List.length_nil, List.all_cons, List.all_nil, List.length_set, List.cons_append, List.nil_append, List.replicate, Nat.zero_add, Nat.reduceAdd, Nat.reduceLT, Nat.reduceLeDiff, Nat.reduceEqDiff, decide_eq_true_eq, Bool.false_eq_true, if_false, true_and, and_true, Bool.and_true, Bool.true_and, Bool.and_self, Bool.or_true, Bool.true_or, Option.isSome_some, if_true, Option.map_some, Option.join_some]
    split
    · rename_i hw4
      have := hw hw4
      refine out_arcs hb hm fun us a b hb hu hul => ?_
      simp only [↓wp_R1, ↓wp_R2, ↓wp_R3, wp_ret, wp_bind, wp_mif, wp_mopt, okp_some, okp_none, okp_map, okp_bind, okp_ite, slp_some, wp_c, kind0, wp_name, wp_move, wp_op, wp_asB, wp_neg, wp_bi, wp_cons, wp_tup, wp_lst, wp_call1, wp_isi, wp_isN, wp_and, wp_or, wp_not, wp_ofB, wp_ite, wp_ifE, wp_chain, wp_chL, wp_chN, wp_ixN, there_cons0, there_succ, wp_sl, wp_scrSl, outp_ok, wp_callF, wp_callIO, wp_recv, ws_seq, ws_next, ws_expr, ws_ret, ws_retN, ws_if, ws_asg, ws_post, ws_fz, ws_drop, ws_par, ws_setI, ws_aug, ws_for, ws_loop_nil, wp_lc, lc_nil, okp_ixL, okp_ixT, okp_gixL, okp_gixT, kidN_0, kidN_1L, kidN_int, kidN_bl, kidN_str, kidN_pair, kid_some, kid_int, kid_pair, kind_int, kind_bl, kind_str, kind_non, kind_pair, kind_lst, kind_lst1, at0, at1, at2, at3, ok_gNm, ok_gTp, ok_gLs0, ok_gLs1, ok_gCo, ok_gNo, ok_slot, getP_nil, setP_nil, ok_ixOf, ixN0, ixN1, acc_int, acc_pair, acc_str, acc_same, AR.acc_zero, frz_cons0, frz_none, frz_succ, ok_scrSl, ok_tupOf, ok_lstOf, wp_dgetN, wp_dnew, ws_dput, ok_dicAt, ok_keyAt, keyOf_pair, keyOf_pairD, ok_lenD, ok_sortP, ok_sumL, ok_itZipL, ok_itZipT, ok_itEn, wp_callIOT, join_i1, ok_geA, ok_geP, ok_ltA, ok_ltP, ok_append, ok_pop, join_z1, join_z2, join_z3, join_z4, ws_raise, join_pair, AR.join_nil, pick_some, pick_none, itL_some, itT_some, hold_t, hold_s, canFz_s, ok_add, ok_addS, ok_cat, ok_sub, ok_mul, ok_div, ok_mod, ok_pow, ok_lt, ok_le, ok_gt, ok_ge, ok_toB, ok_toI, ok_max2, ok_min2, ok_int, ok_intB, ok_lenL, ok_lenT, ok_lenS, ok_eqI, ok_neI, ok_eqB, ok_neB, List.getElem?_cons_zero, List.getElem?_cons_succ, List.set_cons_zero, List.set_cons_succ, List.map_cons, List.map_nil, List.length_cons, List.length_nil, List.all_cons, List.all_nil, List.length_set, List.cons_append, List.nil_append, List.replicate, Nat.zero_add, Nat.reduceAdd, Nat.reduceLT, Nat.reduceLeDiff, Nat.reduceEqDiff, decide_eq_true_eq, Bool.false_eq_true, if_false, true_and, and_true, Bool.and_true, Bool.true_and, Bool.and_self, Bool.or_true, Bool.true_or, Option.isSome_some, if_true, Option.map_some, Option.join_some]
      rw [← List.map_append]
      refine ⟨by simp only [List.length_map]; omega, ?_⟩
      exact ⟨_, _, _, rfl, hb, tieOk_app ht hu, by simp; omega⟩
    · exact ⟨_, _, _, rfl, hb, ht, hl⟩
  clear hw hl ht hb
  obtain ⟨a, b, ts, rfl, hb, ht, hl⟩ : ∃ (a b : Int) (ts : List Pr), e = [some (1, hd a b), some (0, .int m), some (0, .int w), some (1, .lst (ts.map pairD)), x4, x5, x6, some (0, .int h), x8, x9, x10] ∧ HandOk b ∧ TieOk m ts ∧ ts.length ≤ 960 := he
  simp only [ok_sortSetP, cutP, ↓wp_R1, ↓wp_R2, ↓wp_R3, wp_ret, wp_bind, wp_mif, wp_mopt, okp_some, okp_none, okp_map, okp_bind, okp_ite, slp_some, wp_c, kind0, wp_name, wp_move, wp_op, wp_asB, wp_neg, wp_bi, wp_cons, wp_tup, wp_lst, wp_call1, wp_isi, wp_isN, wp_and, wp_or, wp_not, wp_ofB, wp_ite, wp_ifE, wp_chain, wp_chL, wp_chN, wp_ixN, there_cons0, there_succ, wp_sl, wp_scrSl, outp_ok, wp_callF, wp_callIO, wp_recv, ws_seq, ws_next, ws_expr, ws_ret, ws_retN, ws_if, ws_asg, ws_post, ws_fz, ws_drop, ws_par, ws_setI, ws_aug, ws_for, ws_loop_nil, wp_lc, lc_nil, okp_ixL, okp_ixT, okp_gixL, okp_gixT, kidN_0, kidN_1L, kidN_int, kidN_bl, kidN_str, kidN_pair, kid_some, kid_int, kid_pair, kind_int, kind_bl, kind_str, kind_non, kind_pair, kind_lst, kind_lst1, at0, at1, at2, at3, ok_gNm, ok_gTp, ok_gLs0, ok_gLs1, ok_gCo, ok_gNo, ok_slot, getP_nil, setP_nil, ok_ixOf, ixN0, ixN1, acc_int, acc_pair, acc_str, acc_same, AR.acc_zero, frz_cons0, frz_none, frz_succ, ok_scrSl, ok_tupOf, ok_lstOf, wp_dgetN, wp_dnew, ws_dput, ok_dicAt, ok_keyAt, keyOf_pair, keyOf_pairD, ok_lenD, ok_sortP, ok_sumL, ok_itZipL, ok_itZipT, ok_itEn, wp_callIOT, join_i1, ok_geA, ok_geP, ok_ltA, ok_ltP, ok_append, ok_pop, join_z1, join_z2, join_z3, join_z4, ws_raise, join_pair, AR.join_nil, pick_some, pick_none, itL_some, itT_some, hold_t, hold_s, canFz_s, ok_add, ok_addS, ok_cat, ok_sub, ok_mul, ok_div, ok_mod, ok_pow, ok_lt, ok_le, ok_gt, ok_ge, ok_toB, ok_toI, ok_max2, ok_min2, ok_int, ok_intB, ok_lenL, ok_lenT, ok_lenS, ok_eqI, ok_neI, ok_eqB, ok_neB, List.getElem?_cons_zero, List.getElem?_cons_succ, List.set_cons_zero, List.set_cons_succ, List.map_cons, List.map_nil, List.length_cons, List.length_nil, List.all_cons, List.all_nil, List.length_set, List.cons_append, List.nil_append, List.replicate, Nat.zero_add, Nat.reduceAdd, Nat.reduceLT, Nat.reduceLeDiff, Nat.reduceEqDiff, decide_eq_true_eq, Bool.false_eq_true, if_false, true_and, and_true, Bool.and_true, Bool.true_and, Bool.and_self, Bool.or_true, Bool.true_or, Option.isSome_some, if_true, Option.map_some, Option.join_some]
  refine ⟨Nat.le_trans sortPU_len (by omega), ?_⟩
  refine k _ _ _ hb ⟨hm, fun p hp => ht p (mem_sortPU.mp (List.mem_of_mem_take hp)), sortPU_up.sublist (List.take_sublist _ _)⟩ (by rw [List.length_take]; omega)
theorem pick7 {r : Int} (h0 : 0 ≤ r) (h1 : r < 4) : ∃ d : Int, atI [D.int 7, D.int 7, D.int 11, D.int 41] r = some (.int d) ∧ 0 < d ∧ d ≤ 41 := by
  obtain h | h | h | h : r = 0 ∨ r = 1 ∨ r = 2 ∨ r = 3 := by omega
  · subst h; exact ⟨_, at0, by decide, by decide⟩
  · subst h; exact ⟨_, at1, by decide, by decide⟩
  · subst h; exact ⟨_, at2, by decide, by decide⟩
  · subst h; exact ⟨_, at3, by decide, by decide⟩
theorem out_row {a b : Int} {Q : AR.Tm → Sl → Prop} (hb : HandOk b) (k : ∀ n ts a b, HandOk b → RowOk n ts → ts.length ≤ 300 → Q (1, rowD n ts) [some (1, hd a b)]) : OutP (S__law_row [(1, hd a b)]) Q := by
  refine def_of ?_
  unfold b__law_row
  simp only [↓wp_R1, ↓wp_R2, ↓wp_R3, wp_ret, wp_bind, wp_mif, wp_mopt, okp_some, okp_none, okp_map, okp_bind, okp_ite, slp_some, wp_c, kind0, wp_name, wp_move, wp_op, wp_asB, wp_neg, wp_bi, wp_cons, wp_tup, wp_lst, wp_call1, wp_isi, wp_isN, wp_and, wp_or, wp_not, wp_ofB, wp_ite, wp_ifE, wp_chain, wp_chL, wp_chN, wp_ixN, there_cons0, there_succ, wp_sl, wp_scrSl, outp_ok, wp_callF, wp_callIO, wp_recv, ws_seq, ws_next, ws_expr, ws_ret, ws_retN, ws_if, ws_asg, ws_post, ws_fz, ws_drop, ws_par, ws_setI, ws_aug, ws_for, ws_loop_nil, wp_lc, lc_nil, okp_ixL, okp_ixT, okp_gixL, okp_gixT, kidN_0, kidN_1L, kidN_int, kidN_bl, kidN_str, kidN_pair, kid_some, kid_int, kid_pair, kind_int, kind_bl, kind_str, kind_non, kind_pair, kind_lst, kind_lst1, at0, at1, at2, at3, ok_gNm, ok_gTp, ok_gLs0, ok_gLs1, ok_gCo, ok_gNo, ok_slot, getP_nil, setP_nil, ok_ixOf, ixN0, ixN1, acc_int, acc_pair, acc_str, acc_same, AR.acc_zero, frz_cons0, frz_none, frz_succ, ok_scrSl, ok_tupOf, ok_lstOf, wp_dgetN, wp_dnew, ws_dput, ok_dicAt, ok_keyAt, keyOf_pair, keyOf_pairD, ok_lenD, ok_sortP, ok_sumL, ok_itZipL, ok_itZipT, ok_itEn, wp_callIOT, join_i1, ok_geA, ok_geP, ok_ltA, ok_ltP, ok_append, ok_pop, join_z1, join_z2, join_z3, join_z4, ws_raise, join_pair, AR.join_nil, pick_some, pick_none, itL_some, itT_some, hold_t, hold_s, canFz_s, ok_add, ok_addS, ok_cat, ok_sub, ok_mul, ok_div, ok_mod, ok_pow, ok_lt, ok_le, ok_gt, ok_ge, ok_toB, ok_toI, ok_max2, ok_min2, ok_int, ok_intB, ok_lenL, ok_lenT, ok_lenS, ok_eqI, ok_neI, ok_eqB, ok_neB, List.getElem?_cons_zero, List.getElem?_cons_succ, List.set_cons_zero, List.set_cons_succ, List.map_cons, List.map_nil, List.length_cons, List.length_nil, List.all_cons, List.all_nil, List.length_set, List.cons_append, List.nil_append, List.replicate, Nat.zero_add, Nat.reduceAdd, Nat.reduceLT, Nat.reduceLeDiff, Nat.reduceEqDiff, decide_eq_true_eq, Bool.false_eq_true, if_false, true_and, and_true, Bool.and_true, Bool.true_and, Bool.and_self, Bool.or_true, Bool.true_or, Option.isSome_some, if_true, Option.map_some, Option.join_some]
  refine out_take hb (by omega) (by decide) fun r a1 b1 r0 r1 hb1 => ?_
  obtain ⟨o, ho, ho2⟩ := pick7 r0 r1
  simp only [ho, ↓wp_R1, ↓wp_R2, ↓wp_R3, wp_ret, wp_bind, wp_mif, wp_mopt, okp_some, okp_none, okp_map, okp_bind, okp_ite, slp_some, wp_c, kind0, wp_name, wp_move, wp_op, wp_asB, wp_neg, wp_bi, wp_cons, wp_tup, wp_lst, wp_call1, wp_isi, wp_isN, wp_and, wp_or, wp_not, wp_ofB, wp_ite, wp_ifE, wp_chain, wp_chL, wp_chN, wp_ixN, there_cons0, there_succ, wp_sl, wp_scrSl, outp_ok, wp_callF, wp_callIO, wp_recv, ws_seq, ws_next, ws_expr, ws_ret, ws_retN, ws_if, ws_asg, ws_post, ws_fz, ws_drop, ws_par, ws_setI, ws_aug, ws_for, ws_loop_nil, wp_lc, lc_nil, okp_ixL, okp_ixT, okp_gixL, okp_gixT, kidN_0, kidN_1L, kidN_int, kidN_bl, kidN_str, kidN_pair, kid_some, kid_int, kid_pair, kind_int, kind_bl, kind_str, kind_non, kind_pair, kind_lst, kind_lst1, at0, at1, at2, at3, ok_gNm, ok_gTp, ok_gLs0, ok_gLs1, ok_gCo, ok_gNo, ok_slot, getP_nil, setP_nil, ok_ixOf, ixN0, ixN1, acc_int, acc_pair, acc_str, acc_same, AR.acc_zero, frz_cons0, frz_none, frz_succ, ok_scrSl, ok_tupOf, ok_lstOf, wp_dgetN, wp_dnew, ws_dput, ok_dicAt, ok_keyAt, keyOf_pair, keyOf_pairD, ok_lenD, ok_sortP, ok_sumL, ok_itZipL, ok_itZipT, ok_itEn, wp_callIOT, join_i1, ok_geA, ok_geP, ok_ltA, ok_ltP, ok_append, ok_pop, join_z1, join_z2, join_z3, join_z4, ws_raise, join_pair, AR.join_nil, pick_some, pick_none, itL_some, itT_some, hold_t, hold_s, canFz_s, ok_add, ok_addS, ok_cat, ok_sub, ok_mul, ok_div, ok_mod, ok_pow, ok_lt, ok_le, ok_gt, ok_ge, ok_toB, ok_toI, ok_max2, ok_min2, ok_int, ok_intB, ok_lenL, ok_lenT, ok_lenS, ok_eqI, ok_neI, ok_eqB, ok_neB, List.getElem?_cons_zero, List.getElem?_cons_succ, List.set_cons_zero, List.set_cons_succ, List.map_cons, List.map_nil, List.length_cons, List.length_nil, List.all_cons, List.all_nil, List.length_set, List.cons_append, List.nil_append, List.replicate, Nat.zero_add, Nat.reduceAdd, Nat.reduceLT, Nat.reduceLeDiff, Nat.reduceEqDiff, decide_eq_true_eq, Bool.false_eq_true, if_false, true_and, and_true, Bool.and_true, Bool.true_and, Bool.and_self, Bool.or_true, Bool.true_or, Option.isSome_some, if_true, Option.map_some, Option.join_some]
  refine out_take hb1 (by omega) (lg2 (y := 41) (k := 10) (by omega) (by omega) (by decide) (by decide)) fun s a2 b2 s0 s1 hb2 => ?_
  obtain ⟨n, rfl⟩ : ∃ n : Nat, s = n := ⟨s.toNat, by omega⟩
  simp only [↓wp_R1, ↓wp_R2, ↓wp_R3, wp_ret, wp_bind, wp_mif, wp_mopt, okp_some, okp_none, okp_map, okp_bind, okp_ite, slp_some, wp_c, kind0, wp_name, wp_move, wp_op, wp_asB, wp_neg, wp_bi, wp_cons, wp_tup, wp_lst, wp_call1, wp_isi, wp_isN, wp_and, wp_or, wp_not, wp_ofB, wp_ite, wp_ifE, wp_chain, wp_chL, wp_chN, wp_ixN, there_cons0, there_succ, wp_sl, wp_scrSl, outp_ok, wp_callF, wp_callIO, wp_recv, ws_seq, ws_next, ws_expr, ws_ret, ws_retN, ws_if, ws_asg, ws_post, ws_fz, ws_drop, ws_par, ws_setI, ws_aug, ws_for, ws_loop_nil, wp_lc, lc_nil, okp_ixL, okp_ixT, okp_gixL, okp_gixT, kidN_0, kidN_1L, kidN_int, kidN_bl, kidN_str, kidN_pair, kid_some, kid_int, kid_pair, kind_int, kind_bl, kind_str, kind_non, kind_pair, kind_lst, kind_lst1, at0, at1, at2, at3, ok_gNm, ok_gTp, ok_gLs0, ok_gLs1, ok_gCo, ok_gNo, ok_slot, getP_nil, setP_nil, ok_ixOf, ixN0, ixN1, acc_int, acc_pair, acc_str, acc_same, AR.acc_zero, frz_cons0, frz_none, frz_succ, ok_scrSl, ok_tupOf, ok_lstOf, wp_dgetN, wp_dnew, ws_dput, ok_dicAt, ok_keyAt, keyOf_pair, keyOf_pairD, ok_lenD, ok_sortP, ok_sumL, ok_itZipL, ok_itZipT, ok_itEn, wp_callIOT, join_i1, ok_geA, ok_geP, ok_ltA, ok_ltP, ok_append, ok_pop, join_z1, join_z2, join_z3, join_z4, ws_raise, join_pair, AR.join_nil, pick_some, pick_none, itL_some, itT_some, hold_t, hold_s, canFz_s, ok_add, ok_addS, ok_cat, ok_sub, ok_mul, ok_div, ok_mod, ok_pow, ok_lt, ok_le, ok_gt, ok_ge, ok_toB, ok_toI, ok_max2, ok_min2, ok_int, ok_intB, ok_lenL, ok_lenT, ok_lenS, ok_eqI, ok_neI, ok_eqB, ok_neB, List.getElem?_cons_zero, List.getElem?_cons_succ, List.set_cons_zero, List.set_cons_succ, List.map_cons, List.map_nil, List.length_cons, List.length_nil, List.all_cons, List.all_nil, List.length_set, List.cons_append, List.nil_append, List.replicate, Nat.zero_add, Nat.reduceAdd, Nat.reduceLT, Nat.reduceLeDiff, Nat.reduceEqDiff, decide_eq_true_eq, Bool.false_eq_true, if_false, true_and, and_true, Bool.and_true, Bool.true_and, Bool.and_self, Bool.or_true, Bool.true_or, Option.isSome_some, if_true, Option.map_some, Option.join_some]
  split
  · exact k n [] _ _ hb2 ⟨by omega, by simp, by simp⟩ (by simp)
  · rename_i hn
    simp only [Int.not_lt] at hn
    refine out_ties hb2 (by omega) (by omega) fun ts a b hb ht hl => ?_
    simp only [↓wp_R1, ↓wp_R2, ↓wp_R3, wp_ret, wp_bind, wp_mif, wp_mopt, okp_some, okp_none, okp_map, okp_bind, okp_ite, slp_some, wp_c, kind0, wp_name, wp_move, wp_op, wp_asB, wp_neg, wp_bi, wp_cons, wp_tup, wp_lst, wp_call1, wp_isi, wp_isN, wp_and, wp_or, wp_not, wp_ofB, wp_ite, wp_ifE, wp_chain, wp_chL, wp_chN, wp_ixN, there_cons0, there_succ, wp_sl, wp_scrSl, outp_ok, wp_callF, wp_callIO, wp_recv, ws_seq, ws_next, ws_expr, ws_ret, ws_retN, ws_if, ws_asg, ws_post, ws_fz, ws_drop, ws_par, ws_setI, ws_aug, ws_for, ws_loop_nil, wp_lc, lc_nil, okp_ixL, okp_ixT, okp_gixL, okp_gixT, kidN_0, kidN_1L, kidN_int, kidN_bl, kidN_str, kidN_pair, kid_some, kid_int, kid_pair, kind_int, kind_bl, kind_str, kind_non, kind_pair, kind_lst, kind_lst1, at0, at1, at2, at3, ok_gNm, ok_gTp, ok_gLs0, ok_gLs1, ok_gCo, ok_gNo, ok_slot, getP_nil, setP_nil, ok_ixOf, ixN0, ixN1, acc_int, acc_pair, acc_str, acc_same, AR.acc_zero, frz_cons0, frz_none, frz_succ, ok_scrSl, ok_tupOf, ok_lstOf, wp_dgetN, wp_dnew, ws_dput, ok_dicAt, ok_keyAt, keyOf_pair, keyOf_pairD, ok_lenD, ok_sortP, ok_sumL, ok_itZipL, ok_itZipT, ok_itEn, wp_callIOT, join_i1, ok_geA, ok_geP, ok_ltA, ok_ltP, ok_append, ok_pop, join_z1, join_z2, join_z3, join_z4, ws_raise, join_pair, AR.join_nil, pick_some, pick_none, itL_some, itT_some, hold_t, hold_s, canFz_s, ok_add, ok_addS, ok_cat, ok_sub, ok_mul, ok_div, ok_mod, ok_pow, ok_lt, ok_le, ok_gt, ok_ge, ok_toB, ok_toI, ok_max2, ok_min2, ok_int, ok_intB, ok_lenL, ok_lenT, ok_lenS, ok_eqI, ok_neI, ok_eqB, ok_neB, List.getElem?_cons_zero, List.getElem?_cons_succ, List.set_cons_zero, List.set_cons_succ, List.map_cons, List.map_nil, List.length_cons, List.length_nil, List.all_cons, List.all_nil, List.length_set, List.cons_append, List.nil_append, List.replicate, Nat.zero_add, Nat.reduceAdd, Nat.reduceLT, Nat.reduceLeDiff, Nat.reduceEqDiff, decide_eq_true_eq, Bool.false_eq_true, if_false, true_and, and_true, Bool.and_true, Bool.true_and, Bool.and_self, Bool.or_true, Bool.true_or, Option.isSome_some, if_true, Option.map_some, Option.join_some]
    exact k n ts _ _ hb ht hl

end LW

set_option Elab.async false
set_option linter.all false
set_option maxRecDepth 100000
set_option maxHeartbeats 400000
namespace LW
open PySem L2 AR
/-! ### the ties handed in -/
def nrm (p : Pr) : Pr := (min p.1 p.2, max p.1 p.2)
structure Giv (n : Nat) (ts gs : List Pr) : Prop where
  tie : ∀ p ∈ gs, p.1 ≠ p.2 ∧ 0 ≤ p.1 ∧ p.1 < n ∧ 0 ≤ p.2 ∧ p.2 < n
  sub : ∀ p ∈ gs, nrm p ∈ ts
  all : ∀ t ∈ ts, t ∈ gs.map nrm
theorem nrm_tie {p : Pr} (h : p.1 < p.2) : nrm p = p := by unfold nrm; rw [show min p.1 p.2 = p.1 by omega, show max p.1 p.2 = p.2 by omega]
theorem nrm_turn {p : Pr} : nrm (p.2, p.1) = nrm p := by unfold nrm; simp only; rw [show min p.2 p.1 = min p.1 p.2 by omega, show max p.2 p.1 = max p.1 p.2 by omega]
theorem pickP {x y : Pr} {r : Int} (h0 : 0 ≤ r) (h1 : r < 2) : ∃ p, atI [pairD x, pairD y] r = some (pairD p) ∧ (p = x ∨ p = y) := by
  obtain h | h : r = 0 ∨ r = 1 := by omega
  · subst h; exact ⟨x, at0, .inl rfl⟩
  · subst h; exact ⟨y, at1, .inr rfl⟩
theorem kid_pairD {k : Option Nat} {p : Pr} : kid k (pairD p) = (some 0, pairD p) := by unfold kid; simp [pairD, D.dep, depL]
theorem acc_pairD {m : Nat} {k : Option Nat} {p : Pr} : accOk m (k, pairD p) = true := acc_pair
theorem map_app_pD {ts : List Pr} {p : Pr} : ts.map pairD ++ [pairD p] = (ts ++ [p]).map pairD := by simp
theorem mem_erase {α : Type} : ∀ {l : List α} {i : Nat} {p x : α}, l[i]? = some p → x ∈ l → x = p ∨ x ∈ l.eraseIdx i
  | y :: l, 0, p, x, h, hx => by
    simp at h; subst h
    rcases List.mem_cons.mp hx with e | e
    · exact .inl e
    · exact .inr (by simpa using e)
  | y :: l, i + 1, p, x, h, hx => by
    rcases List.mem_cons.mp hx with e | e
    · exact .inr (by simp [e])
    · rcases mem_erase (l := l) (i := i) (by simpa using h) e with e | e
      · exact .inl e
      · exact .inr (by simp [e])
theorem turn_given {n : Nat} {ts L F : List Pr} {a b : Int} {x1 x3 x5 x6 : Option AR.Tm} {N : Sl → Prop} {R : Nat → D → Sl → Prop} (hr : RowOk n ts) (hb : HandOk b) (hL : ∀ p ∈ L, p ∈ ts) (hne : 0 < L.length) (hl : L.length ≤ 400) (hF : Giv n (F.map nrm) F) (hfl : F.length ≤ 400) (hFs : ∀ p ∈ F, nrm p ∈ ts)
    (hall : ∀ t ∈ ts, t ∈ L ∨ t ∈ F.map nrm)
    (k : ∀ (L' F' : List Pr) (a b : Int) (x5 x6 : Option AR.Tm), HandOk b → (∀ p ∈ L', p ∈ ts) → L'.length + 1 = L.length → Giv n (F'.map nrm) F' → (∀ p ∈ F', nrm p ∈ ts) → F'.length = F.length + 1 → (∀ t ∈ ts, t ∈ L' ∨ t ∈ F'.map nrm) → N [some (1, hd a b), x1, some (1, .lst (L'.map pairD)), x3, some (1, .lst (F'.map pairD)), x5, x6]) :
    Ws L__law_given_1 [some (1, hd a b), x1, some (1, .lst (L.map pairD)), x3, some (1, .lst (F.map pairD)), x5, x6] N R := by
  simp only [L__law_given_1, List.isEmpty_nil, List.length_map, ↓wp_R1, ↓wp_R2, ↓wp_R3, wp_ret, wp_bind, wp_mif, wp_mopt, okp_some, okp_none, okp_map, okp_bind, okp_ite, slp_some, wp_c, kind0, wp_name, wp_move, wp_op, wp_asB, wp_neg, wp_bi, wp_cons, wp_tup, wp_lst, wp_call1, wp_isi, wp_isN, wp_and, wp_or, wp_not, wp_ofB, wp_ite, wp_ifE, wp_chain, wp_chL, wp_chN, wp_ixN, there_cons0, there_succ, wp_sl, wp_scrSl, outp_ok, wp_callF, wp_callIO, wp_recv, ws_seq, ws_next, ws_expr, ws_ret, ws_retN, ws_if, ws_asg, ws_post, ws_fz, ws_drop, ws_par, ws_setI, ws_aug, ws_for, ws_loop_nil, wp_lc, lc_nil, okp_ixL, okp_ixT, okp_gixL, okp_gixT, kidN_0, kidN_1L, kidN_int, kidN_bl, kidN_str, kidN_pair, kid_some, kid_int, kid_pair, kind_int, kind_bl, kind_str, kind_non, kind_pair, kind_lst, kind_lst1, at0, at1, at2, at3, ok_gNm, ok_gTp, ok_gLs0, ok_gLs1, ok_gCo, ok_gNo, ok_slot, getP_nil, setP_nil, ok_ixOf, ixN0, ixN1, acc_int, acc_pair, acc_str, acc_same, AR.acc_zero, frz_cons0, frz_none, frz_succ, ok_scrSl, ok_tupOf, ok_lstOf, wp_dgetN, wp_dnew, ws_dput, ok_dicAt, ok_keyAt, keyOf_pair, keyOf_pairD, ok_lenD, ok_sortP, ok_sumL, ok_itZipL, ok_itZipT, ok_itEn, wp_callIOT, join_i1, ok_geA, ok_geP, ok_ltA, ok_ltP, ok_append, ok_pop, join_z1, join_z2, join_z3, join_z4, ws_raise, join_pair, AR.join_nil, pick_some, pick_none, itL_some, itT_some, hold_t, hold_s, canFz_s, ok_add, ok_addS, ok_cat, ok_sub, ok_mul, ok_div, ok_mod, ok_pow, ok_lt, ok_le, ok_gt, ok_ge, ok_toB, ok_toI, ok_max2, ok_min2, ok_int, ok_intB, ok_lenL, ok_lenT, ok_lenS, ok_eqI, ok_neI, ok_eqB, ok_neB, List.getElem?_cons_zero, List.getElem?_cons_succ, List.set_cons_zero, List.set_cons_succ, List.map_cons, List.map_nil, List.length_cons, List.length_nil, List.all_cons, List.all_nil, List.length_set, List.cons_append, List.nil_append, List.replicate, Nat.zero_add, Nat.reduceAdd, Nat.reduceLT, Nat.reduceLeDiff, Nat.reduceEqDiff, decide_eq_true_eq, Bool.false_eq_true, if_false, true_and, and_true, Bool.and_true, Bool.true_and, Bool.and_self, Bool.or_true, Bool.true_or, Option.isSome_some, if_true, Option.map_some, Option.join_some]
  refine out_take hb (by omega) (lg2 (y := 400) (k := 10) (by omega) (by omega) (by decide) (by decide)) fun r a1 b1 r0 r1 hb1 => ?_
  obtain ⟨r', rfl⟩ : ∃ r' : Nat, r = r' := ⟨r.toNat, by omega⟩
  obtain ⟨p, hp⟩ : ∃ p, L[r']? = some p := ⟨_, List.getElem?_eq_getElem (by omega)⟩
  have hd' : (L.map pairD)[r']? = some (pairD p) := by rw [List.getElem?_map, hp]; rfl
  have hpt := hL p (List.mem_of_getElem? hp)
  have hq := hr.pt p hpt
  simp only [hd, ok_popAt hd' (by rw [List.length_map]; omega), erase_map, ↓wp_R1, ↓wp_R2, ↓wp_R3, wp_ret, wp_bind, wp_mif, wp_mopt, okp_some, okp_none, okp_map, okp_bind, okp_ite, slp_some, wp_c, kind0, wp_name, wp_move, wp_op, wp_asB, wp_neg, wp_bi, wp_cons, wp_tup, wp_lst, wp_call1, wp_isi, wp_isN, wp_and, wp_or, wp_not, wp_ofB, wp_ite, wp_ifE, wp_chain, wp_chL, wp_chN, wp_ixN, there_cons0, there_succ, wp_sl, wp_scrSl, outp_ok, wp_callF, wp_callIO, wp_recv, ws_seq, ws_next, ws_expr, ws_ret, ws_retN, ws_if, ws_asg, ws_post, ws_fz, ws_drop, ws_par, ws_setI, ws_aug, ws_for, ws_loop_nil, wp_lc, lc_nil, okp_ixL, okp_ixT, okp_gixL, okp_gixT, kidN_0, kidN_1L, kidN_int, kidN_bl, kidN_str, kidN_pair, kid_some, kid_int, kid_pair, kind_int, kind_bl, kind_str, kind_non, kind_pair, kind_lst, kind_lst1, at0, at1, at2, at3, ok_gNm, ok_gTp, ok_gLs0, ok_gLs1, ok_gCo, ok_gNo, ok_slot, getP_nil, setP_nil, ok_ixOf, ixN0, ixN1, acc_int, acc_pair, acc_str, acc_same, AR.acc_zero, frz_cons0, frz_none, frz_succ, ok_scrSl, ok_tupOf, ok_lstOf, wp_dgetN, wp_dnew, ws_dput, ok_dicAt, ok_keyAt, keyOf_pair, keyOf_pairD, ok_lenD, ok_sortP, ok_sumL, ok_itZipL, ok_itZipT, ok_itEn, wp_callIOT, join_i1, ok_geA, ok_geP, ok_ltA, ok_ltP, ok_append, ok_pop, join_z1, join_z2, join_z3, join_z4, ws_raise, join_pair, AR.join_nil, pick_some, pick_none, itL_some, itT_some, hold_t, hold_s, canFz_s, ok_add, ok_addS, ok_cat, ok_sub, ok_mul, ok_div, ok_mod, ok_pow, ok_lt, ok_le, ok_gt, ok_ge, ok_toB, ok_toI, ok_max2, ok_min2, ok_int, ok_intB, ok_lenL, ok_lenT, ok_lenS, ok_eqI, ok_neI, ok_eqB, ok_neB, List.getElem?_cons_zero, List.getElem?_cons_succ, List.set_cons_zero, List.set_cons_succ, List.map_cons, List.map_nil, List.length_cons, List.length_nil, List.all_cons, List.all_nil, List.length_set, List.cons_append, List.nil_append, List.replicate, Nat.zero_add, Nat.reduceAdd, Nat.reduceLT, Nat.reduceLeDiff, Nat.reduceEqDiff, decide_eq_true_eq, Bool.false_eq_true, if_false, true_and, and_true, Bool.and_true, Bool.true_and, Bool.and_self, Bool.or_true, Bool.true_or, Option.isSome_some, if_true, Option.map_some, Option.join_some]
  rw [show pairD p = .tup [.int p.1, .int p.2] from rfl]
  simp only [↓wp_R1, ↓wp_R2, ↓wp_R3, wp_ret, wp_bind, wp_mif, wp_mopt, okp_some, okp_none, okp_map, okp_bind, okp_ite, slp_some, wp_c, kind0, wp_name, wp_move, wp_op, wp_asB, wp_neg, wp_bi, wp_cons, wp_tup, wp_lst, wp_call1, wp_isi, wp_isN, wp_and, wp_or, wp_not, wp_ofB, wp_ite, wp_ifE, wp_chain, wp_chL, wp_chN, wp_ixN, there_cons0, there_succ, wp_sl, wp_scrSl, outp_ok, wp_callF, wp_callIO, wp_recv, ws_seq, ws_next, ws_expr, ws_ret, ws_retN, ws_if, ws_asg, ws_post, ws_fz, ws_drop, ws_par, ws_setI, ws_aug, ws_for, ws_loop_nil, wp_lc, lc_nil, okp_ixL, okp_ixT, okp_gixL, okp_gixT, kidN_0, kidN_1L, kidN_int, kidN_bl, kidN_str, kidN_pair, kid_some, kid_int, kid_pair, kind_int, kind_bl, kind_str, kind_non, kind_pair, kind_lst, kind_lst1, at0, at1, at2, at3, ok_gNm, ok_gTp, ok_gLs0, ok_gLs1, ok_gCo, ok_gNo, ok_slot, getP_nil, setP_nil, ok_ixOf, ixN0, ixN1, acc_int, acc_pair, acc_str, acc_same, AR.acc_zero, frz_cons0, frz_none, frz_succ, ok_scrSl, ok_tupOf, ok_lstOf, wp_dgetN, wp_dnew, ws_dput, ok_dicAt, ok_keyAt, keyOf_pair, keyOf_pairD, ok_lenD, ok_sortP, ok_sumL, ok_itZipL, ok_itZipT, ok_itEn, wp_callIOT, join_i1, ok_geA, ok_geP, ok_ltA, ok_ltP, ok_append, ok_pop, join_z1, join_z2, join_z3, join_z4, ws_raise, join_pair, AR.join_nil, pick_some, pick_none, itL_some, itT_some, hold_t, hold_s, canFz_s, ok_add, ok_addS, ok_cat, ok_sub, ok_mul, ok_div, ok_mod, ok_pow, ok_lt, ok_le, ok_gt, ok_ge, ok_toB, ok_toI, ok_max2, ok_min2, ok_int, ok_intB, ok_lenL, ok_lenT, ok_lenS, ok_eqI, ok_neI, ok_eqB, ok_neB, List.getElem?_cons_zero, List.getElem?_cons_succ, List.set_cons_zero, List.set_cons_succ, List.map_cons, List.map_nil, List.length_cons, List.length_nil, List.all_cons, List.all_nil, List.length_set, List.cons_append, List.nil_append, List.replicate, Nat.zero_add, Nat.reduceAdd, Nat.reduceLT, Nat.reduceLeDiff, Nat.reduceEqDiff, decide_eq_true_eq, Bool.false_eq_true, if_false, true_and, and_true, Bool.and_true, Bool.true_and, Bool.and_self, Bool.or_true, Bool.true_or, Option.isSome_some, if_true, Option.map_some, Option.join_some]
  refine out_take hb1 (by omega) (by decide) fun s a2 b2 s0 s1 hb2 => ?_
  obtain ⟨q, hq1, hq2⟩ := pickP (x := p) (y := (p.2, p.1)) s0 s1
  rw [show [D.tup [.int p.1, .int p.2], D.tup [.int p.2, .int p.1]] = [pairD p, pairD (p.2, p.1)] from rfl]
  have hn : nrm q = p := by
    rcases hq2 with rfl | rfl
    · exact nrm_tie hq.2.1
    · rw [nrm_turn, nrm_tie hq.2.1]
  have hq3 : q.1 ≠ q.2 ∧ 0 ≤ q.1 ∧ q.1 < n ∧ 0 ≤ q.2 ∧ q.2 < n := by
    rcases hq2 with rfl | rfl
    · omega
    · simp only; omega
  simp only [hd, hq1, kid_pairD, acc_pairD, map_app_pD, List.length_map, List.isEmpty_nil, ↓wp_R1, ↓wp_R2, ↓wp_R3, wp_ret, wp_bind, wp_mif, wp_mopt, okp_some, okp_none, okp_map, okp_bind, okp_ite, slp_some, wp_c, kind0, wp_name, wp_move, wp_op, wp_asB, wp_neg, wp_bi, wp_cons, wp_tup, wp_lst, wp_call1, wp_isi, wp_isN, wp_and, wp_or, wp_not, wp_ofB, wp_ite, wp_ifE, wp_chain, wp_chL, wp_chN, wp_ixN, there_cons0, there_succ, wp_sl, wp_scrSl, outp_ok, wp_callF, wp_callIO, wp_recv, ws_seq, ws_next, ws_expr, ws_ret, ws_retN, ws_if, ws_asg, ws_post, ws_fz, ws_drop, ws_par, ws_setI, ws_aug, ws_for, ws_loop_nil, wp_lc, lc_nil, okp_ixL, okp_ixT, okp_gixL, okp_gixT, kidN_0, kidN_1L, kidN_int, kidN_bl, kidN_str, kidN_pair, kid_some, kid_int, kid_pair, kind_int, kind_bl, kind_str, kind_non, kind_pair, kind_lst, kind_lst1, at0, at1, at2, at3, ok_gNm, ok_gTp, ok_gLs0, ok_gLs1, ok_gCo, ok_gNo, ok_slot, getP_nil, setP_nil, ok_ixOf, ixN0, ixN1, acc_int, acc_pair, acc_str, acc_same, AR.acc_zero, frz_cons0, frz_none, frz_succ, ok_scrSl, ok_tupOf, ok_lstOf, wp_dgetN, wp_dnew, ws_dput, ok_dicAt, ok_keyAt, keyOf_pair, keyOf_pairD, ok_lenD, ok_sortP, ok_sumL, ok_itZipL, ok_itZipT, ok_itEn, wp_callIOT, join_i1, ok_geA, ok_geP, ok_ltA, ok_ltP, ok_append, ok_pop, join_z1, join_z2, join_z3, join_z4, ws_raise, join_pair, AR.join_nil, pick_some, pick_none, itL_some, itT_some, hold_t, hold_s, canFz_s, ok_add, ok_addS, ok_cat, ok_sub, ok_mul, ok_div, ok_mod, ok_pow, ok_lt, ok_le, ok_gt, ok_ge, ok_toB, ok_toI, ok_max2, ok_min2, ok_int, ok_intB, ok_lenL, ok_lenT, ok_lenS, ok_eqI, ok_neI, ok_eqB, ok_neB, List.getElem?_cons_zero, List.getElem?_cons_succ, List.set_cons_zero, List.set_cons_succ, List.map_cons, List.map_nil, List.length_cons, List.length_nil, List.all_cons, List.all_nil, List.length_set, List.cons_append, List.nil_append, List.replicate, Nat.zero_add, Nat.reduceAdd, Nat.reduceLT, Nat.reduceLeDiff, Nat.reduceEqDiff, decide_eq_true_eq, Bool.false_eq_true, if_false, true_and, and_true, Bool.and_true, Bool.true_and, Bool.and_self, Bool.or_true, Bool.true_or, Option.isSome_some, if_true, Option.map_some, Option.join_some]
  refine ⟨by omega, k _ (F ++ [q]) _ _ _ _ hb2 (fun x hx => hL x (List.mem_of_mem_eraseIdx hx)) ?_ ⟨fun x hx => ?_, fun x hx => List.mem_map_of_mem hx, fun t ht => ht⟩ (fun x hx => ?_) (by simp) fun t ht => ?_⟩
  · rw [List.length_eraseIdx_of_lt (by omega)]; omega
  · rcases List.mem_append.mp hx with h | h
    · exact hF.tie x h
    · simp at h; subst h; exact hq3
  · rcases List.mem_append.mp hx with h | h
    · exact hFs x h
    · simp at h; subst h; rw [hn]; exact hpt
  · rcases hall t ht with h | h
    · rcases mem_erase hp h with e | e
      · right; subst e; rw [List.map_append]; simp [hn]
      · exact .inl e
    · right; rw [List.map_append]; exact List.mem_append_left _ h
theorem out_given {n : Nat} {ts : List Pr} {a b : Int} {Q : AR.Tm → Sl → Prop} (hr : RowOk n ts) (hb : HandOk b) (hl : ts.length ≤ 300) (k : ∀ gs a b, HandOk b → Giv n ts gs → gs.length ≤ 400 → Q (1, .lst (gs.map pairD)) [some (1, hd a b)]) : OutP (S__law_given [(1, hd a b), (0, .lst (ts.map pairD))]) Q := by
  refine def_of ?_
  unfold b__law_given
  refine ws_mid (fun e => ∃ (a b : Int) (L : List Pr), e = [some (1, hd a b), some (0, .lst (ts.map pairD)), some (1, .lst (L.map pairD)), none, none, none, none] ∧ HandOk b ∧ (∀ p ∈ L, p ∈ ts) ∧ (∀ p ∈ ts, p ∈ L) ∧ L.length ≤ 400) ?_ fun e he => ?_
  · simp only [↓wp_R1, ↓wp_R2, ↓wp_R3, wp_ret, wp_bind, wp_mif, wp_mopt, okp_some, okp_none, okp_map, okp_bind, okp_ite, slp_some, wp_c, kind0, wp_name, wp_move, wp_op, wp_asB, wp_neg, wp_bi, wp_cons, wp_tup, wp_lst, wp_call1, wp_isi, wp_isN, wp_and, wp_or, wp_not, wp_ofB, wp_ite, wp_ifE, wp_chain, wp_chL, wp_chN, wp_ixN, there_cons0, there_succ, wp_sl, wp_scrSl, outp_ok, wp_callF, wp_callIO, wp_recv, ws_seq, ws_next, ws_expr, ws_ret, ws_retN, ws_if, ws_asg, ws_post, ws_fz, ws_drop, ws_par, ws_setI, ws_aug, ws_for, ws_loop_nil, wp_lc, lc_nil, okp_ixL, okp_ixT, okp_gixL, okp_gixT, kidN_0, kidN_1L, kidN_int, kidN_bl, kidN_str, kidN_pair, kid_some, kid_int, kid_pair, kind_int, kind_bl, kind_str, kind_non, kind_pair, kind_lst, kind_lst1, at0, at1, at2, at3, ok_gNm, ok_gTp, ok_gLs0, ok_gLs1, ok_gCo, ok_gNo, ok_slot, getP_nil, setP_nil, ok_ixOf, ixN0, ixN1, acc_int, acc_pair, acc_str, acc_same, AR.acc_zero, frz_cons0, frz_none, frz_succ, ok_scrSl, ok_tupOf, ok_lstOf, wp_dgetN, wp_dnew, ws_dput, ok_dicAt, ok_keyAt, keyOf_pair, keyOf_pairD, ok_lenD, ok_sortP, ok_sumL, ok_itZipL, ok_itZipT, ok_itEn, wp_callIOT, join_i1, ok_geA, ok_geP, ok_ltA, ok_ltP, ok_append, ok_pop, join_z1, join_z2, join_z3, join_z4, ws_raise, join_pair, AR.join_nil, pick_some, pick_none, itL_some, itT_some, hold_t, hold_s, canFz_s, ok_add, ok_addS, ok_cat, ok_sub, ok_mul, ok_div, ok_mod, ok_pow, ok_lt, ok_le, ok_gt, ok_ge, ok_toB, ok_toI, ok_max2, ok_min2, ok_int, ok_intB, ok_lenL, ok_lenT, ok_lenS, ok_eqI, ok_neI, ok_eqB, ok_neB, List.getElem?_cons_zero, List.getElem?_cons_succ, List.set_cons_zero, List.set_cons_succ, List.map_cons, List.map_nil, List.length_cons, List.length_nil, List.all_cons, List.all_nil, List.length_set, List.cons_append, List.nil_append, List.replicate, Nat.zero_add, Nat.reduceAdd, Nat.reduceLT, Nat.reduceLeDiff, Nat.reduceEqDiff, decide_eq_true_eq, Bool.false_eq_true, if_false, true_and, and_true, Bool.and_true, Bool.true_and, Bool.and_self, Bool.or_true, Bool.true_or, Option.isSome_some, if_true, Option.map_some, Option.join_some]
    refine out_take hb (by omega) (by decide) fun r a1 b1 r0 r1 hb1 => ?_
    simp only [ok_neNilP, ↓wp_R1, ↓wp_R2, ↓wp_R3, wp_ret, wp_bind, wp_mif, wp_mopt, okp_some, okp_none, okp_map, okp_bind, okp_ite, slp_some, wp_c, kind0, wp_name, wp_move, wp_op, wp_asB, wp_neg, wp_bi, wp_cons, wp_tup, wp_lst, wp_call1, wp_isi, wp_isN, wp_and, wp_or, wp_not, wp_ofB, wp_ite, wp_ifE, wp_chain, wp_chL, wp_chN, wp_ixN, there_cons0, there_succ, wp_sl, wp_scrSl, outp_ok, wp_callF, wp_callIO, wp_recv, ws_seq, ws_next, ws_expr, ws_ret, ws_retN, ws_if, ws_asg, ws_post, ws_fz, ws_drop, ws_par, ws_setI, ws_aug, ws_for, ws_loop_nil, wp_lc, lc_nil, okp_ixL, okp_ixT, okp_gixL, okp_gixT, kidN_0, kidN_1L, kidN_int, kidN_bl, kidN_str, kidN_pair, kid_some, kid_int, kid_pair, kind_int, kind_bl, kind_str, kind_non, kind_pair, kind_lst, kind_lst1, at0, at1, at2, at3, ok_gNm, ok_gTp, ok_gLs0, ok_gLs1, ok_gCo, ok_gNo, ok_slot, getP_nil, setP_nil, ok_ixOf, ixN0, ixN1, acc_int, acc_pair, acc_str, acc_same, AR.acc_zero, frz_cons0, frz_none, frz_succ, ok_scrSl, ok_tupOf, ok_lstOf, wp_dgetN, wp_dnew, ws_dput, ok_dicAt, ok_keyAt, keyOf_pair, keyOf_pairD, ok_lenD, ok_sortP, ok_sumL, ok_itZipL, ok_itZipT, ok_itEn, wp_callIOT, join_i1, ok_geA, ok_geP, ok_ltA, ok_ltP, ok_append, ok_pop, join_z1, join_z2, join_z3, join_z4, ws_raise, join_pair, AR.join_nil, pick_some, pick_none, itL_some, itT_some, hold_t, hold_s, canFz_s, ok_add, ok_addS, ok_cat, ok_sub, ok_mul, ok_div, ok_mod, ok_pow, ok_lt, ok_le, ok_gt, ok_ge, ok_toB, ok_toI, ok_max2, ok_min2, ok_int, ok_intB, ok_lenL, ok_lenT, ok_lenS, ok_eqI, ok_neI, ok_eqB, ok_neB, List.getElem?_cons_zero, List.getElem?_cons_succ, List.set_cons_zero, List.set_cons_succ, List.map_cons, List.map_nil, List.length_cons, List.length_nil, List.all_cons, List.all_nil, List.length_set, List.cons_append, List.nil_append, List.replicate, Nat.zero_add, Nat.reduceAdd, Nat.reduceLT, Nat.reduceLeDiff, Nat.reduceEqDiff, decide_eq_true_eq, Bool.false_eq_true, if_false, true_and, and_true, Bool.and_true, Bool.true_and, Bool.and_self, Bool.or_true, Bool.true_or, Option.isSome_some, if_true, Option.map_some, Option.join_some]
    obtain ⟨c, hc, hc0, hc1, hc2⟩ : ∃ c : Nat, r * (if (!decide (ts = [])) = true then 1 else 0) = c ∧ (ts = [] → c = 0) ∧ c ≤ 100 ∧ (r.natAbs.log2 + (if (!decide (ts = [])) = true then (1 : Int) else 0).natAbs.log2 < 1000000) := by
      have l1 := lg (x := r) (k := 10) (by omega) (by omega)
      have z1 : Nat.log2 1 = 0 := by decide
      have z0 : Nat.log2 0 = 0 := by decide
      by_cases h : ts = []
      · exact ⟨0, by simp [h], fun _ => rfl, by omega, by simp [h]; omega⟩
      · exact ⟨r.toNat, by simp [h]; omega, fun x => absurd x h, by omega, by simp [h]; omega⟩
    refine ⟨hc2, ?_⟩
    rw [hc]
    refine ⟨inR_small (by omega) (by omega), by rw [upto_length]; omega, ?_⟩
    simp only [wipeE, ↓wp_R1, ↓wp_R2, ↓wp_R3, wp_ret, wp_bind, wp_mif, wp_mopt, okp_some, okp_none, okp_map, okp_bind, okp_ite, slp_some, wp_c, kind0, wp_name, wp_move, wp_op, wp_asB, wp_neg, wp_bi, wp_cons, wp_tup, wp_lst, wp_call1, wp_isi, wp_isN, wp_and, wp_or, wp_not, wp_ofB, wp_ite, wp_ifE, wp_chain, wp_chL, wp_chN, wp_ixN, there_cons0, there_succ, wp_sl, wp_scrSl, outp_ok, wp_callF, wp_callIO, wp_recv, ws_seq, ws_next, ws_expr, ws_ret, ws_retN, ws_if, ws_asg, ws_post, ws_fz, ws_drop, ws_par, ws_setI, ws_aug, ws_for, ws_loop_nil, wp_lc, lc_nil, okp_ixL, okp_ixT, okp_gixL, okp_gixT, kidN_0, kidN_1L, kidN_int, kidN_bl, kidN_str, kidN_pair, kid_some, kid_int, kid_pair, kind_int, kind_bl, kind_str, kind_non, kind_pair, kind_lst, kind_lst1, at0, at1, at2, at3, ok_gNm, ok_gTp, ok_gLs0, ok_gLs1, ok_gCo, ok_gNo, ok_slot, getP_nil, setP_nil, ok_ixOf, ixN0, ixN1, acc_int, acc_pair, acc_str, acc_same, AR.acc_zero, frz_cons0, frz_none, frz_succ, ok_scrSl, ok_tupOf, ok_lstOf, wp_dgetN, wp_dnew, ws_dput, ok_dicAt, ok_keyAt, keyOf_pair, keyOf_pairD, ok_lenD, ok_sortP, ok_sumL, ok_itZipL, ok_itZipT, ok_itEn, wp_callIOT, join_i1, ok_geA, ok_geP, ok_ltA, ok_ltP, ok_append, ok_pop, join_z1, join_z2, join_z3, join_z4, ws_raise, join_pair, AR.join_nil, pick_some, pick_none, itL_some, itT_some, hold_t, hold_s, canFz_s, ok_add, ok_addS, ok_cat, ok_sub, ok_mul, ok_div, ok_mod, ok_pow, ok_lt, ok_le, ok_gt, ok_ge, ok_toB, ok_toI, ok_max2, ok_min2, ok_int, ok_intB, ok_lenL, ok_lenT, ok_lenS, ok_eqI, ok_neI, ok_eqB, ok_neB, List.getElem?_cons_zero, List.getElem?_cons_succ, List.set_cons_zero, List.set_cons_succ, List.map_cons, List.map_nil, List.length_cons, List.length_nil, List.all_cons, List.all_nil, List.length_set, List.cons_append, List.nil_append, List.replicate, Nat.zero_add, Nat.reduceAdd, Nat.reduceLT, Nat.reduceLeDiff, Nat.reduceEqDiff, decide_eq_true_eq, Bool.false_eq_true, if_false, true_and, and_true, Bool.and_true, Bool.true_and, Bool.and_self, Bool.or_true, Bool.true_or, Option.isSome_some, if_true, Option.map_some, Option.join_some]
    refine lc_inv (fun j acc e => ∃ (a b : Int) (us : List Pr), e = [some (1, hd a b), some (0, .lst (ts.map pairD)), none, none, none, none, none] ∧ acc = us.map pairD ∧ us.length = j ∧ HandOk b ∧ ∀ p ∈ us, p ∈ ts) (n := 0) ⟨a1, b1, [], rfl, rfl, rfl, hb1, by simp⟩ (fun j d acc e hj he => ?_) fun acc e he => ?_
    · obtain ⟨a, b, us, rfl, rfl, hu, hb, hs⟩ := he
      have hj' := (List.getElem?_eq_some_iff.mp hj).1
      rw [upto_length] at hj'
      have hne : ts ≠ [] := fun h => by have := hc0 h; omega
      have hpos := List.length_pos_iff.mpr hne
      simp only [List.length_map, ↓wp_R1, ↓wp_R2, ↓wp_R3, wp_ret, wp_bind, wp_mif, wp_mopt, okp_some, okp_none, okp_map, okp_bind, okp_ite, slp_some, wp_c, kind0, wp_name, wp_move, wp_op, wp_asB, wp_neg, wp_bi, wp_cons, wp_tup, wp_lst, wp_call1, wp_isi, wp_isN, wp_and, wp_or, wp_not, wp_ofB, wp_ite, wp_ifE, wp_chain, wp_chL, wp_chN, wp_ixN, there_cons0, there_succ, wp_sl, wp_scrSl, outp_ok, wp_callF, wp_callIO, wp_recv, ws_seq, ws_next, ws_expr, ws_ret, ws_retN, ws_if, ws_asg, ws_post, ws_fz, ws_drop, ws_par, ws_setI, ws_aug, ws_for, ws_loop_nil, wp_lc, lc_nil, okp_ixL, okp_ixT, okp_gixL, okp_gixT, kidN_0, kidN_1L, kidN_int, kidN_bl, kidN_str, kidN_pair, kid_some, kid_int, kid_pair, kind_int, kind_bl, kind_str, kind_non, kind_pair, kind_lst, kind_lst1, at0, at1, at2, at3, ok_gNm, ok_gTp, ok_gLs0, ok_gLs1, ok_gCo, ok_gNo, ok_slot, getP_nil, setP_nil, ok_ixOf, ixN0, ixN1, acc_int, acc_pair, acc_str, acc_same, AR.acc_zero, frz_cons0, frz_none, frz_succ, ok_scrSl, ok_tupOf, ok_lstOf, wp_dgetN, wp_dnew, ws_dput, ok_dicAt, ok_keyAt, keyOf_pair, keyOf_pairD, ok_lenD, ok_sortP, ok_sumL, ok_itZipL, ok_itZipT, ok_itEn, wp_callIOT, join_i1, ok_geA, ok_geP, ok_ltA, ok_ltP, ok_append, ok_pop, join_z1, join_z2, join_z3, join_z4, ws_raise, join_pair, AR.join_nil, pick_some, pick_none, itL_some, itT_some, hold_t, hold_s, canFz_s, ok_add, ok_addS, ok_cat, ok_sub, ok_mul, ok_div, ok_mod, ok_pow, ok_lt, ok_le, ok_gt, ok_ge, ok_toB, ok_toI, ok_max2, ok_min2, ok_int, ok_intB, ok_lenL, ok_lenT, ok_lenS, ok_eqI, ok_neI, ok_eqB, ok_neB, List.getElem?_cons_zero, List.getElem?_cons_succ, List.set_cons_zero, List.set_cons_succ, List.map_cons, List.map_nil, List.length_cons, List.length_nil, List.all_cons, List.all_nil, List.length_set, List.cons_append, List.nil_append, List.replicate, Nat.zero_add, Nat.reduceAdd, Nat.reduceLT, Nat.reduceLeDiff, Nat.reduceEqDiff, decide_eq_true_eq, Bool.false_eq_true, if_false, true_and, and_true, Bool.and_true, Bool.true_and, Bool.and_self, Bool.or_true, Bool.true_or, Option.isSome_some, if_true, Option.map_some, Option.join_some]
      refine out_take hb (by omega) (lg2 (y := 400) (k := 10) (by omega) (by omega) (by decide) (by decide)) fun r a1 b1 r0 r1 hb1 => ?_
      obtain ⟨r', rfl⟩ : ∃ r' : Nat, r = r' := ⟨r.toNat, by omega⟩
      obtain ⟨p, hp⟩ : ∃ p, ts[r']? = some p := ⟨_, List.getElem?_eq_getElem (by omega)⟩
      have hd' : atI (ts.map pairD) (r' : Int) = some (pairD p) := at_nat (by rw [List.getElem?_map, hp]; rfl)
      simp only [hd', lcNext, wipeE, kidN_0, acc_pairD, ↓wp_R1, ↓wp_R2, ↓wp_R3, wp_ret, wp_bind, wp_mif, wp_mopt, okp_some, okp_none, okp_map, okp_bind, okp_ite, slp_some, wp_c, kind0, wp_name, wp_move, wp_op, wp_asB, wp_neg, wp_bi, wp_cons, wp_tup, wp_lst, wp_call1, wp_isi, wp_isN, wp_and, wp_or, wp_not, wp_ofB, wp_ite, wp_ifE, wp_chain, wp_chL, wp_chN, wp_ixN, there_cons0, there_succ, wp_sl, wp_scrSl, outp_ok, wp_callF, wp_callIO, wp_recv, ws_seq, ws_next, ws_expr, ws_ret, ws_retN, ws_if, ws_asg, ws_post, ws_fz, ws_drop, ws_par, ws_setI, ws_aug, ws_for, ws_loop_nil, wp_lc, lc_nil, okp_ixL, okp_ixT, okp_gixL, okp_gixT, kidN_0, kidN_1L, kidN_int, kidN_bl, kidN_str, kidN_pair, kid_some, kid_int, kid_pair, kind_int, kind_bl, kind_str, kind_non, kind_pair, kind_lst, kind_lst1, at0, at1, at2, at3, ok_gNm, ok_gTp, ok_gLs0, ok_gLs1, ok_gCo, ok_gNo, ok_slot, getP_nil, setP_nil, ok_ixOf, ixN0, ixN1, acc_int, acc_pair, acc_str, acc_same, AR.acc_zero, frz_cons0, frz_none, frz_succ, ok_scrSl, ok_tupOf, ok_lstOf, wp_dgetN, wp_dnew, ws_dput, ok_dicAt, ok_keyAt, keyOf_pair, keyOf_pairD, ok_lenD, ok_sortP, ok_sumL, ok_itZipL, ok_itZipT, ok_itEn, wp_callIOT, join_i1, ok_geA, ok_geP, ok_ltA, ok_ltP, ok_append, ok_pop, join_z1, join_z2, join_z3, join_z4, ws_raise, join_pair, AR.join_nil, pick_some, pick_none, itL_some, itT_some, hold_t, hold_s, canFz_s, ok_add, ok_addS, ok_cat, ok_sub, ok_mul, ok_div, ok_mod, ok_pow, ok_lt, ok_le, ok_gt, ok_ge, ok_toB, ok_toI, ok_max2, ok_min2, ok_int, ok_intB, ok_lenL, ok_lenT, ok_lenS, ok_eqI, ok_neI, ok_eqB, ok_neB, List.getElem?_cons_zero, List.getElem?_cons_succ, List.set_cons_zero, List.set_cons_succ, List.map_cons, List.map_nil, List.length_cons, List.length_nil, List.all_cons, List.all_nil, List.length_set, List.cons_append, List.nil_append, List.replicate, Nat.zero_add, Nat.reduceAdd, Nat.reduceLT, Nat.reduceLeDiff, Nat.reduceEqDiff, decide_eq_true_eq, Bool.false_eq_true, if_false, true_and, and_true, Bool.and_true, Bool.true_and, Bool.and_self, Bool.or_true, Bool.true_or, Option.isSome_some, if_true, Option.map_some, Option.join_some]
      exact ⟨_, _, us ++ [p], rfl, by simp, by simp; omega, hb1, fun x hx => (List.mem_append.mp hx).elim (hs x) fun h => by simp at h; subst h; exact List.mem_of_getElem? hp⟩
    · obtain ⟨a, b, us, rfl, rfl, hu, hb, hs⟩ := he
      rw [upto_length] at hu
      simp only [↓wp_R1, ↓wp_R2, ↓wp_R3, wp_ret, wp_bind, wp_mif, wp_mopt, okp_some, okp_none, okp_map, okp_bind, okp_ite, slp_some, wp_c, kind0, wp_name, wp_move, wp_op, wp_asB, wp_neg, wp_bi, wp_cons, wp_tup, wp_lst, wp_call1, wp_isi, wp_isN, wp_and, wp_or, wp_not, wp_ofB, wp_ite, wp_ifE, wp_chain, wp_chL, wp_chN, wp_ixN, there_cons0, there_succ, wp_sl, wp_scrSl, outp_ok, wp_callF, wp_callIO, wp_recv, ws_seq, ws_next, ws_expr, ws_ret, ws_retN, ws_if, ws_asg, ws_post, ws_fz, ws_drop, ws_par, ws_setI, ws_aug, ws_for, ws_loop_nil, wp_lc, lc_nil, okp_ixL, okp_ixT, okp_gixL, okp_gixT, kidN_0, kidN_1L, kidN_int, kidN_bl, kidN_str, kidN_pair, kid_some, kid_int, kid_pair, kind_int, kind_bl, kind_str, kind_non, kind_pair, kind_lst, kind_lst1, at0, at1, at2, at3, ok_gNm, ok_gTp, ok_gLs0, ok_gLs1, ok_gCo, ok_gNo, ok_slot, getP_nil, setP_nil, ok_ixOf, ixN0, ixN1, acc_int, acc_pair, acc_str, acc_same, AR.acc_zero, frz_cons0, frz_none, frz_succ, ok_scrSl, ok_tupOf, ok_lstOf, wp_dgetN, wp_dnew, ws_dput, ok_dicAt, ok_keyAt, keyOf_pair, keyOf_pairD, ok_lenD, ok_sortP, ok_sumL, ok_itZipL, ok_itZipT, ok_itEn, wp_callIOT, join_i1, ok_geA, ok_geP, ok_ltA, ok_ltP, ok_append, ok_pop, join_z1, join_z2, join_z3, join_z4, ws_raise, join_pair, AR.join_nil, pick_some, pick_none, itL_some, itT_some, hold_t, hold_s, canFz_s, ok_add, ok_addS, ok_cat, ok_sub, ok_mul, ok_div, ok_mod, ok_pow, ok_lt, ok_le, ok_gt, ok_ge, ok_toB, ok_toI, ok_max2, ok_min2, ok_int, ok_intB, ok_lenL, ok_lenT, ok_lenS, ok_eqI, ok_neI, ok_eqB, ok_neB, List.getElem?_cons_zero, List.getElem?_cons_succ, List.set_cons_zero, List.set_cons_succ, List.map_cons, List.map_nil, List.length_cons, List.length_nil, List.all_cons, List.all_nil, List.length_set, List.cons_append, List.nil_append, List.replicate, Nat.zero_add, Nat.reduceAdd, Nat.reduceLT, Nat.reduceLeDiff, Nat.reduceEqDiff, decide_eq_true_eq, Bool.false_eq_true, if_false, true_and, and_true, Bool.and_true, Bool.true_and, Bool.and_self, Bool.or_true, Bool.true_or, Option.isSome_some, if_true, Option.map_some, Option.join_some]
      rw [← List.map_append]
      refine ⟨by simp only [List.length_map]; omega, _, _, _, rfl, hb, fun p hp => (List.mem_append.mp hp).elim id (hs p), fun p hp => List.mem_append_left _ hp, by simp; omega⟩
  obtain ⟨a, b, L, rfl, hb, hL, hL2, hll⟩ : ∃ (a b : Int) (L : List Pr), e = [some (1, hd a b), some (0, .lst (ts.map pairD)), some (1, .lst (L.map pairD)), none, none, none, none] ∧ HandOk b ∧ (∀ p ∈ L, p ∈ ts) ∧ (∀ p ∈ ts, p ∈ L) ∧ L.length ≤ 400 := he
  simp only [List.length_map, ↓wp_R1, ↓wp_R2, ↓wp_R3, wp_ret, wp_bind, wp_mif, wp_mopt, okp_some, okp_none, okp_map, okp_bind, okp_ite, slp_some, wp_c, kind0, wp_name, wp_move, wp_op, wp_asB, wp_neg, wp_bi, wp_cons, wp_tup, wp_lst, wp_call1, wp_isi, wp_isN, wp_and, wp_or, wp_not, wp_ofB, wp_ite, wp_ifE, wp_chain, wp_chL, wp_chN, wp_ixN, there_cons0, there_succ, wp_sl, wp_scrSl, outp_ok, wp_callF, wp_callIO, wp_recv, ws_seq, ws_next, ws_expr, ws_ret, ws_retN, ws_if, ws_asg, ws_post, ws_fz, ws_drop, ws_par, ws_setI, ws_aug, ws_for, ws_loop_nil, wp_lc, lc_nil, okp_ixL, okp_ixT, okp_gixL, okp_gixT, kidN_0, kidN_1L, kidN_int, kidN_bl, kidN_str, kidN_pair, kid_some, kid_int, kid_pair, kind_int, kind_bl, kind_str, kind_non, kind_pair, kind_lst, kind_lst1, at0, at1, at2, at3, ok_gNm, ok_gTp, ok_gLs0, ok_gLs1, ok_gCo, ok_gNo, ok_slot, getP_nil, setP_nil, ok_ixOf, ixN0, ixN1, acc_int, acc_pair, acc_str, acc_same, AR.acc_zero, frz_cons0, frz_none, frz_succ, ok_scrSl, ok_tupOf, ok_lstOf, wp_dgetN, wp_dnew, ws_dput, ok_dicAt, ok_keyAt, keyOf_pair, keyOf_pairD, ok_lenD, ok_sortP, ok_sumL, ok_itZipL, ok_itZipT, ok_itEn, wp_callIOT, join_i1, ok_geA, ok_geP, ok_ltA, ok_ltP, ok_append, ok_pop, join_z1, join_z2, join_z3, join_z4, ws_raise, join_pair, AR.join_nil, pick_some, pick_none, itL_some, itT_some, hold_t, hold_s, canFz_s, ok_add, ok_addS, ok_cat, ok_sub, ok_mul, ok_div, ok_mod, ok_pow, ok_lt, ok_le, ok_gt, ok_ge, ok_toB, ok_toI, ok_max2, ok_min2, ok_int, ok_intB, ok_lenL, ok_lenT, ok_lenS, ok_eqI, ok_neI, ok_eqB, ok_neB, List.getElem?_cons_zero, List.getElem?_cons_succ, List.set_cons_zero, List.set_cons_succ, List.map_cons, List.map_nil, List.length_cons, List.length_nil, List.all_cons, List.all_nil, List.length_set, List.cons_append, List.nil_append, List.replicate, Nat.zero_add, Nat.reduceAdd, Nat.reduceLT, Nat.reduceLeDiff, Nat.reduceEqDiff, decide_eq_true_eq, Bool.false_eq_true, if_false, true_and, and_true, Bool.and_true, Bool.true_and, Bool.and_self, Bool.or_true, Bool.true_or, Option.isSome_some, if_true, Option.map_some, Option.join_some]
  refine ⟨inR_small (by omega) (by omega), ?_⟩
  refine ws_loop (fun j e => ∃ (a b : Int) (L' F : List Pr) (x3 x5 x6 : Option AR.Tm), e = [some (1, hd a b), some (0, .lst (ts.map pairD)), some (1, .lst (L'.map pairD)), x3, some (1, .lst (F.map pairD)), x5, x6] ∧ HandOk b ∧ (∀ p ∈ L', p ∈ ts) ∧ L'.length + j = L.length ∧ F.length = j ∧ Giv n (F.map nrm) F ∧ (∀ p ∈ F, nrm p ∈ ts) ∧ ∀ t ∈ ts, t ∈ L' ∨ t ∈ F.map nrm) (n := 0) ⟨a, b, L, [], _, _, _, rfl, hb, hL, rfl, rfl, ⟨by simp, by simp, by simp⟩, by simp, fun t ht => .inl (hL2 t ht)⟩ (fun j d e hj he => ?_) fun e he => ?_
  · obtain ⟨a, b, L', F, x3, x5, x6, rfl, hb, h1, h2, h3, h4, h5, h6⟩ := he
    have hj' := (List.getElem?_eq_some_iff.mp hj).1
    rw [upto_length] at hj'
    simp only [↓wp_R1, ↓wp_R2, ↓wp_R3, wp_ret, wp_bind, wp_mif, wp_mopt, okp_some, okp_none, okp_map, okp_bind, okp_ite, slp_some, wp_c, kind0, wp_name, wp_move, wp_op, wp_asB, wp_neg, wp_bi, wp_cons, wp_tup, wp_lst, wp_call1, wp_isi, wp_isN, wp_and, wp_or, wp_not, wp_ofB, wp_ite, wp_ifE, wp_chain, wp_chL, wp_chN, wp_ixN, there_cons0, there_succ, wp_sl, wp_scrSl, outp_ok, wp_callF, wp_callIO, wp_recv, ws_seq, ws_next, ws_expr, ws_ret, ws_retN, ws_if, ws_asg, ws_post, ws_fz, ws_drop, ws_par, ws_setI, ws_aug, ws_for, ws_loop_nil, wp_lc, lc_nil, okp_ixL, okp_ixT, okp_gixL, okp_gixT, kidN_0, kidN_1L, kidN_int, kidN_bl, kidN_str, kidN_pair, kid_some, kid_int, kid_pair, kind_int, kind_bl, kind_str, kind_non, kind_pair, kind_lst, kind_lst1, at0, at1, at2, at3, ok_gNm, ok_gTp, ok_gLs0, ok_gLs1, ok_gCo, ok_gNo, ok_slot, getP_nil, setP_nil, ok_ixOf, ixN0, ixN1, acc_int, acc_pair, acc_str, acc_same, AR.acc_zero, frz_cons0, frz_none, frz_succ, ok_scrSl, ok_tupOf, ok_lstOf, wp_dgetN, wp_dnew, ws_dput, ok_dicAt, ok_keyAt, keyOf_pair, keyOf_pairD, ok_lenD, ok_sortP, ok_sumL, ok_itZipL, ok_itZipT, ok_itEn, wp_callIOT, join_i1, ok_geA, ok_geP, ok_ltA, ok_ltP, ok_append, ok_pop, join_z1, join_z2, join_z3, join_z4, ws_raise, join_pair, AR.join_nil, pick_some, pick_none, itL_some, itT_some, hold_t, hold_s, canFz_s, ok_add, ok_addS, ok_cat, ok_sub, ok_mul, ok_div, ok_mod, ok_pow, ok_lt, ok_le, ok_gt, ok_ge, ok_toB, ok_toI, ok_max2, ok_min2, ok_int, ok_intB, ok_lenL, ok_lenT, ok_lenS, ok_eqI, ok_neI, ok_eqB, ok_neB, List.getElem?_cons_zero, List.getElem?_cons_succ, List.set_cons_zero, List.set_cons_succ, List.map_cons, List.map_nil, List.length_cons, List.length_nil, List.all_cons, List.all_nil, List.length_set, List.cons_append, List.nil_append, List.replicate, Nat.zero_add, Nat.reduceAdd, Nat.reduceLT, Nat.reduceLeDiff, Nat.reduceEqDiff, decide_eq_true_eq, Bool.false_eq_true, if_false, true_and, and_true, Bool.and_true, Bool.true_and, Bool.and_self, Bool.or_true, Bool.true_or, Option.isSome_some, if_true, Option.map_some, Option.join_some] at h2 h3 ⊢
    exact turn_given hr hb h1 (by omega) (by omega) h4 (by omega) h5 h6 fun L' F' a b x5 x6 q1 q2 q3 q4 q5 q6 q7 => ⟨_, _, _, _, _, _, _, rfl, q1, q2, by omega, by omega, q4, q5, q7⟩
  · obtain ⟨a, b, L', F, x3, x5, x6, rfl, hb, h1, h2, h3, h4, h5, h6⟩ := he
    rw [upto_length] at h2 h3
    simp only [↓wp_R1, ↓wp_R2, ↓wp_R3, wp_ret, wp_bind, wp_mif, wp_mopt, okp_some, okp_none, okp_map, okp_bind, okp_ite, slp_some, wp_c, kind0, wp_name, wp_move, wp_op, wp_asB, wp_neg, wp_bi, wp_cons, wp_tup, wp_lst, wp_call1, wp_isi, wp_isN, wp_and, wp_or, wp_not, wp_ofB, wp_ite, wp_ifE, wp_chain, wp_chL, wp_chN, wp_ixN, there_cons0, there_succ, wp_sl, wp_scrSl, outp_ok, wp_callF, wp_callIO, wp_recv, ws_seq, ws_next, ws_expr, ws_ret, ws_retN, ws_if, ws_asg, ws_post, ws_fz, ws_drop, ws_par, ws_setI, ws_aug, ws_for, ws_loop_nil, wp_lc, lc_nil, okp_ixL, okp_ixT, okp_gixL, okp_gixT, kidN_0, kidN_1L, kidN_int, kidN_bl, kidN_str, kidN_pair, kid_some, kid_int, kid_pair, kind_int, kind_bl, kind_str, kind_non, kind_pair, kind_lst, kind_lst1, at0, at1, at2, at3, ok_gNm, ok_gTp, ok_gLs0, ok_gLs1, ok_gCo, ok_gNo, ok_slot, getP_nil, setP_nil, ok_ixOf, ixN0, ixN1, acc_int, acc_pair, acc_str, acc_same, AR.acc_zero, frz_cons0, frz_none, frz_succ, ok_scrSl, ok_tupOf, ok_lstOf, wp_dgetN, wp_dnew, ws_dput, ok_dicAt, ok_keyAt, keyOf_pair, keyOf_pairD, ok_lenD, ok_sortP, ok_sumL, ok_itZipL, ok_itZipT, ok_itEn, wp_callIOT, join_i1, ok_geA, ok_geP, ok_ltA, ok_ltP, ok_append, ok_pop, join_z1, join_z2, join_z3, join_z4, ws_raise, join_pair, AR.join_nil, pick_some, pick_none, itL_some, itT_some, hold_t, hold_s, canFz_s, ok_add, ok_addS, ok_cat, ok_sub, ok_mul, ok_div, ok_mod, ok_pow, ok_lt, ok_le, ok_gt, ok_ge, ok_toB, ok_toI, ok_max2, ok_min2, ok_int, ok_intB, ok_lenL, ok_lenT, ok_lenS, ok_eqI, ok_neI, ok_eqB, ok_neB, List.getElem?_cons_zero, List.getElem?_cons_succ, List.set_cons_zero, List.set_cons_succ, List.map_cons, List.map_nil, List.length_cons, List.length_nil, List.all_cons, List.all_nil, List.length_set, List.cons_append, List.nil_append, List.replicate, Nat.zero_add, Nat.reduceAdd, Nat.reduceLT, Nat.reduceLeDiff, Nat.reduceEqDiff, decide_eq_true_eq, Bool.false_eq_true, if_false, true_and, and_true, Bool.and_true, Bool.true_and, Bool.and_self, Bool.or_true, Bool.true_or, Option.isSome_some, if_true, Option.map_some, Option.join_some]
    have hL0 : L' = [] := List.eq_nil_of_length_eq_zero (by omega)
    subst hL0
    exact k _ _ _ hb ⟨h4.tie, h5, fun t ht => (h6 t ht).resolve_left (by simp)⟩ (by omega)
/-! ### row_of -/
theorem out_rowof {n : Nat} {ts gs : List Pr} {Q : AR.Tm → Sl → Prop} (hr : RowOk n ts) (hg : Giv n ts gs) (hl : gs.length ≤ 400) (k : Q (1, rowD n ts) []) : OutP (S_row_of [(0, .int n), (0, .lst (gs.map pairD))]) Q := by
  refine def_of ?_
  unfold b_row_of
  have h0 : ¬ (n : Int) < 0 := by omega
  simp only [h0, decide_false, Bool.false_eq_true, if_false, ↓wp_R1, ↓wp_R2, ↓wp_R3, wp_ret, wp_bind, wp_mif, wp_mopt, okp_some, okp_none, okp_map, okp_bind, okp_ite, slp_some, wp_c, kind0, wp_name, wp_move, wp_op, wp_asB, wp_neg, wp_bi, wp_cons, wp_tup, wp_lst, wp_call1, wp_isi, wp_isN, wp_and, wp_or, wp_not, wp_ofB, wp_ite, wp_ifE, wp_chain, wp_chL, wp_chN, wp_ixN, there_cons0, there_succ, wp_sl, wp_scrSl, outp_ok, wp_callF, wp_callIO, wp_recv, ws_seq, ws_next, ws_expr, ws_ret, ws_retN, ws_if, ws_asg, ws_post, ws_fz, ws_drop, ws_par, ws_setI, ws_aug, ws_for, ws_loop_nil, wp_lc, lc_nil, okp_ixL, okp_ixT, okp_gixL, okp_gixT, kidN_0, kidN_1L, kidN_int, kidN_bl, kidN_str, kidN_pair, kid_some, kid_int, kid_pair, kind_int, kind_bl, kind_str, kind_non, kind_pair, kind_lst, kind_lst1, at0, at1, at2, at3, ok_gNm, ok_gTp, ok_gLs0, ok_gLs1, ok_gCo, ok_gNo, ok_slot, getP_nil, setP_nil, ok_ixOf, ixN0, ixN1, acc_int, acc_pair, acc_str, acc_same, AR.acc_zero, frz_cons0, frz_none, frz_succ, ok_scrSl, ok_tupOf, ok_lstOf, wp_dgetN, wp_dnew, ws_dput, ok_dicAt, ok_keyAt, keyOf_pair, keyOf_pairD, ok_lenD, ok_sortP, ok_sumL, ok_itZipL, ok_itZipT, ok_itEn, wp_callIOT, join_i1, ok_geA, ok_geP, ok_ltA, ok_ltP, ok_append, ok_pop, join_z1, join_z2, join_z3, join_z4, ws_raise, join_pair, AR.join_nil, pick_some, pick_none, itL_some, itT_some, hold_t, hold_s, canFz_s, ok_add, ok_addS, ok_cat, ok_sub, ok_mul, ok_div, ok_mod, ok_pow, ok_lt, ok_le, ok_gt, ok_ge, ok_toB, ok_toI, ok_max2, ok_min2, ok_int, ok_intB, ok_lenL, ok_lenT, ok_lenS, ok_eqI, ok_neI, ok_eqB, ok_neB, List.getElem?_cons_zero, List.getElem?_cons_succ, List.set_cons_zero, List.set_cons_succ, List.map_cons, List.map_nil, List.length_cons, List.length_nil, List.all_cons, List.all_nil, List.length_set, List.cons_append, List.nil_append, List.replicate, Nat.zero_add, Nat.reduceAdd, Nat.reduceLT, Nat.reduceLeDiff, Nat.reduceEqDiff, decide_eq_true_eq, Bool.false_eq_true, if_false, true_and, and_true, Bool.and_true, Bool.true_and, Bool.and_self, Bool.or_true, Bool.true_or, Option.isSome_some, if_true, Option.map_some, Option.join_some]
  refine ws_loop (fun j e => ∃ x3 x4, e = [some (0, .int n), some (0, .lst (gs.map pairD)), some (1, .lst (((gs.take j).map nrm).map pairD)), x3, x4]) (n := 0) ⟨_, _, rfl⟩ (fun j d e hj he => ?_) fun e he => ?_
  · obtain ⟨x3, x4, rfl⟩ := he
    rw [List.getElem?_map] at hj
    obtain ⟨p, hp, rfl⟩ := Option.map_eq_some_iff.mp hj
    have hpl := (List.getElem?_eq_some_iff.mp hp).1
    obtain ⟨t1, t2, t3, t4, t5⟩ := hg.tie p (List.mem_of_getElem? hp)
    simp only [L_row_of_1, pairD, t1, t2, t3, t4, t5, decide_true, decide_false, Bool.not_true, Bool.false_eq_true, if_true, if_false, List.isEmpty_nil, ↓wp_R1, ↓wp_R2, ↓wp_R3, wp_ret, wp_bind, wp_mif, wp_mopt, okp_some, okp_none, okp_map, okp_bind, okp_ite, slp_some, wp_c, kind0, wp_name, wp_move, wp_op, wp_asB, wp_neg, wp_bi, wp_cons, wp_tup, wp_lst, wp_call1, wp_isi, wp_isN, wp_and, wp_or, wp_not, wp_ofB, wp_ite, wp_ifE, wp_chain, wp_chL, wp_chN, wp_ixN, there_cons0, there_succ, wp_sl, wp_scrSl, outp_ok, wp_callF, wp_callIO, wp_recv, ws_seq, ws_next, ws_expr, ws_ret, ws_retN, ws_if, ws_asg, ws_post, ws_fz, ws_drop, ws_par, ws_setI, ws_aug, ws_for, ws_loop_nil, wp_lc, lc_nil, okp_ixL, okp_ixT, okp_gixL, okp_gixT, kidN_0, kidN_1L, kidN_int, kidN_bl, kidN_str, kidN_pair, kid_some, kid_int, kid_pair, kind_int, kind_bl, kind_str, kind_non, kind_pair, kind_lst, kind_lst1, at0, at1, at2, at3, ok_gNm, ok_gTp, ok_gLs0, ok_gLs1, ok_gCo, ok_gNo, ok_slot, getP_nil, setP_nil, ok_ixOf, ixN0, ixN1, acc_int, acc_pair, acc_str, acc_same, AR.acc_zero, frz_cons0, frz_none, frz_succ, ok_scrSl, ok_tupOf, ok_lstOf, wp_dgetN, wp_dnew, ws_dput, ok_dicAt, ok_keyAt, keyOf_pair, keyOf_pairD, ok_lenD, ok_sortP, ok_sumL, ok_itZipL, ok_itZipT, ok_itEn, wp_callIOT, join_i1, ok_geA, ok_geP, ok_ltA, ok_ltP, ok_append, ok_pop, join_z1, join_z2, join_z3, join_z4, ws_raise, join_pair, AR.join_nil, pick_some, pick_none, itL_some, itT_some, hold_t, hold_s, canFz_s, ok_add, ok_addS, ok_cat, ok_sub, ok_mul, ok_div, ok_mod, ok_pow, ok_lt, ok_le, ok_gt, ok_ge, ok_toB, ok_toI, ok_max2, ok_min2, ok_int, ok_intB, ok_lenL, ok_lenT, ok_lenS, ok_eqI, ok_neI, ok_eqB, ok_neB, List.getElem?_cons_zero, List.getElem?_cons_succ, List.set_cons_zero, List.set_cons_succ, List.map_cons, List.map_nil, List.length_cons, List.length_nil, List.all_cons, List.all_nil, List.length_set, List.cons_append, List.nil_append, List.replicate, Nat.zero_add, Nat.reduceAdd, Nat.reduceLT, Nat.reduceLeDiff, Nat.reduceEqDiff, decide_eq_true_eq, Bool.false_eq_true, if_false, true_and, and_true, Bool.and_true, Bool.true_and, Bool.and_self, Bool.or_true, Bool.true_or, Option.isSome_some, if_true, Option.map_some, Option.join_some]
    refine ⟨by simp only [List.length_map, List.length_take]; omega, some (0, .int p.1), some (0, .int p.2), ?_⟩
    have e : (gs.take (j + 1)).map nrm = (gs.take j).map nrm ++ [nrm p] := by
      rw [List.take_add_one, hp]; simp
    rw [e, List.map_append]
    rfl
  · obtain ⟨x3, x4, rfl⟩ := he
    simp only [List.length_map, Nat.zero_add, List.take_of_length_le (Nat.le_refl _), ok_sortSetP, ↓wp_R1, ↓wp_R2, ↓wp_R3, wp_ret, wp_bind, wp_mif, wp_mopt, okp_some, okp_none, okp_map, okp_bind, okp_ite, slp_some, wp_c, kind0, wp_name, wp_move, wp_op, wp_asB, wp_neg, wp_bi, wp_cons, wp_tup, wp_lst, wp_call1, wp_isi, wp_isN, wp_and, wp_or, wp_not, wp_ofB, wp_ite, wp_ifE, wp_chain, wp_chL, wp_chN, wp_ixN, there_cons0, there_succ, wp_sl, wp_scrSl, outp_ok, wp_callF, wp_callIO, wp_recv, ws_seq, ws_next, ws_expr, ws_ret, ws_retN, ws_if, ws_asg, ws_post, ws_fz, ws_drop, ws_par, ws_setI, ws_aug, ws_for, ws_loop_nil, wp_lc, lc_nil, okp_ixL, okp_ixT, okp_gixL, okp_gixT, kidN_0, kidN_1L, kidN_int, kidN_bl, kidN_str, kidN_pair, kid_some, kid_int, kid_pair, kind_int, kind_bl, kind_str, kind_non, kind_pair, kind_lst, kind_lst1, at0, at1, at2, at3, ok_gNm, ok_gTp, ok_gLs0, ok_gLs1, ok_gCo, ok_gNo, ok_slot, getP_nil, setP_nil, ok_ixOf, ixN0, ixN1, acc_int, acc_pair, acc_str, acc_same, AR.acc_zero, frz_cons0, frz_none, frz_succ, ok_scrSl, ok_tupOf, ok_lstOf, wp_dgetN, wp_dnew, ws_dput, ok_dicAt, ok_keyAt, keyOf_pair, keyOf_pairD, ok_lenD, ok_sortP, ok_sumL, ok_itZipL, ok_itZipT, ok_itEn, wp_callIOT, join_i1, ok_geA, ok_geP, ok_ltA, ok_ltP, ok_append, ok_pop, join_z1, join_z2, join_z3, join_z4, ws_raise, join_pair, AR.join_nil, pick_some, pick_none, itL_some, itT_some, hold_t, hold_s, canFz_s, ok_add, ok_addS, ok_cat, ok_sub, ok_mul, ok_div, ok_mod, ok_pow, ok_lt, ok_le, ok_gt, ok_ge, ok_toB, ok_toI, ok_max2, ok_min2, ok_int, ok_intB, ok_lenL, ok_lenT, ok_lenS, ok_eqI, ok_neI, ok_eqB, ok_neB, List.getElem?_cons_zero, List.getElem?_cons_succ, List.set_cons_zero, List.set_cons_succ, List.map_cons, List.map_nil, List.length_cons, List.length_nil, List.all_cons, List.all_nil, List.length_set, List.cons_append, List.nil_append, List.replicate, Nat.zero_add, Nat.reduceAdd, Nat.reduceLT, Nat.reduceLeDiff, Nat.reduceEqDiff, decide_eq_true_eq, Bool.false_eq_true, if_false, true_and, and_true, Bool.and_true, Bool.true_and, Bool.and_self, Bool.or_true, Bool.true_or, Option.isSome_some, if_true, Option.map_some, Option.join_some]
    have e : sortPU (gs.map nrm) = ts := upP_unique sortPU_up hr.st fun q => by
      rw [mem_sortPU]
      refine ⟨fun h => ?_, hg.all q⟩
      obtain ⟨p, hp, rfl⟩ := List.mem_map.mp h
      exact hg.sub p hp
    refine ⟨Nat.le_trans sortPU_len (by simp; omega), ?_⟩
    rw [e]
    exact k

end LW

set_option Elab.async false
set_option linter.all false
set_option maxRecDepth 100000
set_option maxHeartbeats 400000
namespace LW
open PySem L2 AR
/-! ### _law_same of equal data -/
def SameOk : Nat → D → Prop
  | 0, d => d = .non ∨ (∃ i, d = .int i) ∨ ∃ s, d = .str s ∧ shp (.str s) = true
  | m + 1, d => (d = .non ∨ (∃ i, d = .int i) ∨ ∃ s, d = .str s ∧ shp (.str s) = true) ∨ ∃ ds, (d = .lst ds ∨ d = .tup ds) ∧ ds.length ≤ 1000000 ∧ ∀ x ∈ ds, SameOk m x
theorem zip_same : ∀ (ds : List D), zipD ds ds = ds.map fun d => D.tup [d, d]
  | [] => rfl
  | d :: ds => by simp [zipD, zip_same ds]
theorem fm_none {α β : Type} : ∀ {l : List α}, l.filterMap (fun _ => (none : Option β)) = []
  | [] => rfl
  | _ :: l => by rw [List.filterMap_cons]; exact fm_none
theorem lc_false {vs : List Nat} {m : Nat} {sg : TgS} {st : M Bool} {se : M Rv} {e : Sl} {Q : List D → Sl → Prop} {ds : List D} (h : ∀ d ∈ ds, OkP (sg (0, d) e) fun e3 => Wp st e3 fun b e4 => b = false) (hq : Q [] e) : OutP (lcLoop true vs m sg st se ds [] e) Q := by
  refine lc_fm (fun _ => none) (fun d hd => ?_) (by rw [List.nil_append, fm_none]; exact hq)
  have := h d hd
  unfold OkP at this ⊢
  cases hs : sg (0, d) e with
  | none => rw [hs] at this; exact this
  | some e3 =>
    rw [hs] at this
    dsimp only at this ⊢
    exact this.mono fun b e4 hb => by subst hb; simp
theorem same_flat {m : Nat} {d : D} {Q : AR.Tm → Sl → Prop} (h : d = .non ∨ (∃ i, d = .int i) ∨ ∃ s, d = .str s ∧ shp (.str s) = true) (k : Q (0, .bl true) []) : OutP (S__law_same (m + 1) [(0, d), (0, d)]) Q := by
  refine def_of ?_
  have hb : ∀ {k l : Option Nat} {d : D} {P : Rv → Prop}, d.pl = true → shp d = true → OkP (fEq (k, d) (l, d)) P = P (some 0, .bl true) := fun {k l d P} h1 h2 => by
    have := ok_eqD (k := k) (l := l) (d := d) (e := d) (P := P) h1 h1 h2 h2
    simpa using this
  rcases h with rfl | ⟨i, rfl⟩ | ⟨s, rfl, hs⟩
  · simp only [b__law_same, isT, tyN, noScr, D.isN, hb (d := .non) rfl rfl, ↓wp_R1, ↓wp_R2, ↓wp_R3, wp_ret, wp_bind, wp_mif, wp_mopt, okp_some, okp_none, okp_map, okp_bind, okp_ite, slp_some, wp_c, kind0, wp_name, wp_move, wp_op, wp_asB, wp_neg, wp_bi, wp_cons, wp_tup, wp_lst, wp_call1, wp_isi, wp_isN, wp_and, wp_or, wp_not, wp_ofB, wp_ite, wp_ifE, wp_chain, wp_chL, wp_chN, wp_ixN, there_cons0, there_succ, wp_sl, wp_scrSl, outp_ok, wp_callF, wp_callIO, wp_recv, ws_seq, ws_next, ws_expr, ws_ret, ws_retN, ws_if, ws_asg, ws_post, ws_fz, ws_drop, ws_par, ws_setI, ws_aug, ws_for, ws_loop_nil, wp_lc, lc_nil, okp_ixL, okp_ixT, okp_gixL, okp_gixT, kidN_0, kidN_1L, kidN_int, kidN_bl, kidN_str, kidN_pair, kid_some, kid_int, kid_pair, kind_int, kind_bl, kind_str, kind_non, kind_pair, kind_lst, kind_lst1, at0, at1, at2, at3, ok_gNm, ok_gTp, ok_gLs0, ok_gLs1, ok_gCo, ok_gNo, ok_slot, getP_nil, setP_nil, ok_ixOf, ixN0, ixN1, acc_int, acc_pair, acc_str, acc_same, AR.acc_zero, frz_cons0, frz_none, frz_succ, ok_scrSl, ok_tupOf, ok_lstOf, wp_dgetN, wp_dnew, ws_dput, ok_dicAt, ok_keyAt, keyOf_pair, keyOf_pairD, ok_lenD, ok_sortP, ok_sumL, ok_itZipL, ok_itZipT, ok_itEn, wp_callIOT, join_i1, ok_geA, ok_geP, ok_ltA, ok_ltP, ok_append, ok_pop, join_z1, join_z2, join_z3, join_z4, ws_raise, join_pair, AR.join_nil, pick_some, pick_none, itL_some, itT_some, hold_t, hold_s, canFz_s, ok_add, ok_addS, ok_cat, ok_sub, ok_mul, ok_div, ok_mod, ok_pow, ok_lt, ok_le, ok_gt, ok_ge, ok_toB, ok_toI, ok_max2, ok_min2, ok_int, ok_intB, ok_lenL, ok_lenT, ok_lenS, ok_eqI, ok_neI, ok_eqB, ok_neB, List.getElem?_cons_zero, List.getElem?_cons_succ, List.set_cons_zero, List.set_cons_succ, List.map_cons, List.map_nil, List.length_cons, List.length_nil, List.all_cons, List.all_nil, List.length_set, List.cons_append, List.nil_append, List.replicate, Nat.zero_add, Nat.reduceAdd, Nat.reduceLT, Nat.reduceLeDiff, Nat.reduceEqDiff, decide_eq_true_eq, Bool.false_eq_true, if_false, true_and, and_true, Bool.and_true, Bool.true_and, Bool.and_self, Bool.or_true, Bool.true_or, Option.isSome_some, if_true, Option.map_some, Option.join_some]
    simp
    exact k
  · simp only [b__law_same, isT, tyN, noScr, D.isN, ↓wp_R1, ↓wp_R2, ↓wp_R3, wp_ret, wp_bind, wp_mif, wp_mopt, okp_some, okp_none, okp_map, okp_bind, okp_ite, slp_some, wp_c, kind0, wp_name, wp_move, wp_op, wp_asB, wp_neg, wp_bi, wp_cons, wp_tup, wp_lst, wp_call1, wp_isi, wp_isN, wp_and, wp_or, wp_not, wp_ofB, wp_ite, wp_ifE, wp_chain, wp_chL, wp_chN, wp_ixN, there_cons0, there_succ, wp_sl, wp_scrSl, outp_ok, wp_callF, wp_callIO, wp_recv, ws_seq, ws_next, ws_expr, ws_ret, ws_retN, ws_if, ws_asg, ws_post, ws_fz, ws_drop, ws_par, ws_setI, ws_aug, ws_for, ws_loop_nil, wp_lc, lc_nil, okp_ixL, okp_ixT, okp_gixL, okp_gixT, kidN_0, kidN_1L, kidN_int, kidN_bl, kidN_str, kidN_pair, kid_some, kid_int, kid_pair, kind_int, kind_bl, kind_str, kind_non, kind_pair, kind_lst, kind_lst1, at0, at1, at2, at3, ok_gNm, ok_gTp, ok_gLs0, ok_gLs1, ok_gCo, ok_gNo, ok_slot, getP_nil, setP_nil, ok_ixOf, ixN0, ixN1, acc_int, acc_pair, acc_str, acc_same, AR.acc_zero, frz_cons0, frz_none, frz_succ, ok_scrSl, ok_tupOf, ok_lstOf, wp_dgetN, wp_dnew, ws_dput, ok_dicAt, ok_keyAt, keyOf_pair, keyOf_pairD, ok_lenD, ok_sortP, ok_sumL, ok_itZipL, ok_itZipT, ok_itEn, wp_callIOT, join_i1, ok_geA, ok_geP, ok_ltA, ok_ltP, ok_append, ok_pop, join_z1, join_z2, join_z3, join_z4, ws_raise, join_pair, AR.join_nil, pick_some, pick_none, itL_some, itT_some, hold_t, hold_s, canFz_s, ok_add, ok_addS, ok_cat, ok_sub, ok_mul, ok_div, ok_mod, ok_pow, ok_lt, ok_le, ok_gt, ok_ge, ok_toB, ok_toI, ok_max2, ok_min2, ok_int, ok_intB, ok_lenL, ok_lenT, ok_lenS, ok_eqI, ok_neI, ok_eqB, ok_neB, List.getElem?_cons_zero, List.getElem?_cons_succ, List.set_cons_zero, List.set_cons_succ, List.map_cons, List.map_nil, List.length_cons, List.length_nil, List.all_cons, List.all_nil, List.length_set, List.cons_append, List.nil_append, List.replicate, Nat.zero_add, Nat.reduceAdd, Nat.reduceLT, Nat.reduceLeDiff, Nat.reduceEqDiff, decide_eq_true_eq, Bool.false_eq_true, if_false, true_and, and_true, Bool.and_true, Bool.true_and, Bool.and_self, Bool.or_true, Bool.true_or, Option.isSome_some, if_true, Option.map_some, Option.join_some]
    simp
    exact k
  · simp only [b__law_same, isT, tyN, noScr, D.isN, hb (d := .str s) rfl hs, ↓wp_R1, ↓wp_R2, ↓wp_R3, wp_ret, wp_bind, wp_mif, wp_mopt, okp_some, okp_none, okp_map, okp_bind, okp_ite, slp_some, wp_c, kind0, wp_name, wp_move, wp_op, wp_asB, wp_neg, wp_bi, wp_cons, wp_tup, wp_lst, wp_call1, wp_isi, wp_isN, wp_and, wp_or, wp_not, wp_ofB, wp_ite, wp_ifE, wp_chain, wp_chL, wp_chN, wp_ixN, there_cons0, there_succ, wp_sl, wp_scrSl, outp_ok, wp_callF, wp_callIO, wp_recv, ws_seq, ws_next, ws_expr, ws_ret, ws_retN, ws_if, ws_asg, ws_post, ws_fz, ws_drop, ws_par, ws_setI, ws_aug, ws_for, ws_loop_nil, wp_lc, lc_nil, okp_ixL, okp_ixT, okp_gixL, okp_gixT, kidN_0, kidN_1L, kidN_int, kidN_bl, kidN_str, kidN_pair, kid_some, kid_int, kid_pair, kind_int, kind_bl, kind_str, kind_non, kind_pair, kind_lst, kind_lst1, at0, at1, at2, at3, ok_gNm, ok_gTp, ok_gLs0, ok_gLs1, ok_gCo, ok_gNo, ok_slot, getP_nil, setP_nil, ok_ixOf, ixN0, ixN1, acc_int, acc_pair, acc_str, acc_same, AR.acc_zero, frz_cons0, frz_none, frz_succ, ok_scrSl, ok_tupOf, ok_lstOf, wp_dgetN, wp_dnew, ws_dput, ok_dicAt, ok_keyAt, keyOf_pair, keyOf_pairD, ok_lenD, ok_sortP, ok_sumL, ok_itZipL, ok_itZipT, ok_itEn, wp_callIOT, join_i1, ok_geA, ok_geP, ok_ltA, ok_ltP, ok_append, ok_pop, join_z1, join_z2, join_z3, join_z4, ws_raise, join_pair, AR.join_nil, pick_some, pick_none, itL_some, itT_some, hold_t, hold_s, canFz_s, ok_add, ok_addS, ok_cat, ok_sub, ok_mul, ok_div, ok_mod, ok_pow, ok_lt, ok_le, ok_gt, ok_ge, ok_toB, ok_toI, ok_max2, ok_min2, ok_int, ok_intB, ok_lenL, ok_lenT, ok_lenS, ok_eqI, ok_neI, ok_eqB, ok_neB, List.getElem?_cons_zero, List.getElem?_cons_succ, List.set_cons_zero, List.set_cons_succ, List.map_cons, List.map_nil, List.length_cons, List.length_nil, List.all_cons, List.all_nil, List.length_set, List.cons_append, List.nil_append, List.replicate, Nat.zero_add, Nat.reduceAdd, Nat.reduceLT, Nat.reduceLeDiff, Nat.reduceEqDiff, decide_eq_true_eq, Bool.false_eq_true, if_false, true_and, and_true, Bool.and_true, Bool.true_and, Bool.and_self, Bool.or_true, Bool.true_or, Option.isSome_some, if_true, Option.map_some, Option.join_some]
    simp
    exact k
theorem out_same : ∀ {m : Nat} {d : D} {Q : AR.Tm → Sl → Prop}, SameOk m d → Q (0, .bl true) [] → OutP (S__law_same (m + 1) [(0, d), (0, d)]) Q
  | 0, d, Q, h, k => same_flat h k
  | m + 1, d, Q, .inl h, k => same_flat h k
  | m + 1, d, Q, .inr ⟨ds, hd, hl, hx⟩, k => by
    have hb : ∀ {k l : Option Nat} {P : Rv → Prop}, OkP (fEq (k, .lst []) (l, .lst [])) P = P (some 0, .bl true) := fun {k l P} => by
      have := ok_eqD (k := k) (l := l) (d := .lst []) (e := .lst []) (P := P) rfl rfl shp_nil shp_nil
      simpa using this
    have fin : ∀ {vs : List Nat} {mm : Nat} {e : Sl}, (∀ d ∈ ds, OkP (gTp 2 (gCo (gNm 2) (gCo (gNm 3) gNo)) (0, .tup [d, d]) e) fun e3 => Wp (sNot (asB (sCallF 2 (S__law_same (m + 1)) (sCons true (sName 2) (sCons true (sName 3) (mret [])))))) e3 fun b e4 => b = false) → OutP (lcLoop true vs mm (gTp 2 (gCo (gNm 2) (gCo (gNm 3) gNo))) (sNot (asB (sCallF 2 (S__law_same (m + 1)) (sCons true (sName 2) (sCons true (sName 3) (mret [])))))) (sC (.int 1)) (ds.map fun d => D.tup [d, d]) [] e) fun rs e2 => OkP (fEq (some 1, .lst rs) (some 1, .lst [])) fun x => OkP x.1 fun m => Q (m, x.2) [] := fun {vs mm e} h => by
      refine lc_false (fun d hd' => ?_) ?_
      · obtain ⟨x, hx', rfl⟩ := List.mem_map.mp hd'
        exact h x hx'
      · simp only [hb, ↓wp_R1, ↓wp_R2, ↓wp_R3, wp_ret, wp_bind, wp_mif, wp_mopt, okp_some, okp_none, okp_map, okp_bind, okp_ite, slp_some, wp_c, kind0, wp_name, wp_move, wp_op, wp_asB, wp_neg, wp_bi, wp_cons, wp_tup, wp_lst, wp_call1, wp_isi, wp_isN, wp_and, wp_or, wp_not, wp_ofB, wp_ite, wp_ifE, wp_chain, wp_chL, wp_chN, wp_ixN, there_cons0, there_succ, wp_sl, wp_scrSl, outp_ok, wp_callF, wp_callIO, wp_recv, ws_seq, ws_next, ws_expr, ws_ret, ws_retN, ws_if, ws_asg, ws_post, ws_fz, ws_drop, ws_par, ws_setI, ws_aug, ws_for, ws_loop_nil, wp_lc, lc_nil, okp_ixL, okp_ixT, okp_gixL, okp_gixT, kidN_0, kidN_1L, kidN_int, kidN_bl, kidN_str, kidN_pair, kid_some, kid_int, kid_pair, kind_int, kind_bl, kind_str, kind_non, kind_pair, kind_lst, kind_lst1, at0, at1, at2, at3, ok_gNm, ok_gTp, ok_gLs0, ok_gLs1, ok_gCo, ok_gNo, ok_slot, getP_nil, setP_nil, ok_ixOf, ixN0, ixN1, acc_int, acc_pair, acc_str, acc_same, AR.acc_zero, frz_cons0, frz_none, frz_succ, ok_scrSl, ok_tupOf, ok_lstOf, wp_dgetN, wp_dnew, ws_dput, ok_dicAt, ok_keyAt, keyOf_pair, keyOf_pairD, ok_lenD, ok_sortP, ok_sumL, ok_itZipL, ok_itZipT, ok_itEn, wp_callIOT, join_i1, ok_geA, ok_geP, ok_ltA, ok_ltP, ok_append, ok_pop, join_z1, join_z2, join_z3, join_z4, ws_raise, join_pair, AR.join_nil, pick_some, pick_none, itL_some, itT_some, hold_t, hold_s, canFz_s, ok_add, ok_addS, ok_cat, ok_sub, ok_mul, ok_div, ok_mod, ok_pow, ok_lt, ok_le, ok_gt, ok_ge, ok_toB, ok_toI, ok_max2, ok_min2, ok_int, ok_intB, ok_lenL, ok_lenT, ok_lenS, ok_eqI, ok_neI, ok_eqB, ok_neB, List.getElem?_cons_zero, List.getElem?_cons_succ, List.set_cons_zero, List.set_cons_succ, List.map_cons, List.map_nil, List.length_cons, List.length_nil, List.all_cons, List.all_nil, List.length_set, List.cons_append, List.nil_append, List.replicate, Nat.zero_add, Nat.reduceAdd, Nat.reduceLT, Nat.reduceLeDiff, Nat.reduceEqDiff, decide_eq_true_eq, Bool.false_eq_true, if_false, true_and, and_true, Bool.and_true, Bool.true_and, Bool.and_self, Bool.or_true, Bool.true_or, Option.isSome_some, if_true, Option.map_some, Option.join_some]
        exact k
    have sm : ∀ x ∈ ds, S__law_same (m + 1) [(0, x), (0, x)] = .ok (0, .bl true) [] := fun x hx' => by
      have h := @out_same m x (fun r e => r = ((0, .bl true) : AR.Tm) ∧ e = ([] : Sl)) (hx x hx') (And.intro rfl rfl)
      exact outp_inv h
    refine def_of ?_
    rcases hd with rfl | rfl
    · simp only [b__law_same, isT, tyN, noScr, D.isN, ↓wp_R1, ↓wp_R2, ↓wp_R3, wp_ret, wp_bind, wp_mif, wp_mopt, okp_some, okp_none, okp_map, okp_bind, okp_ite, slp_some, wp_c, kind0, wp_name, wp_move, wp_op, wp_asB, wp_neg, wp_bi, wp_cons, wp_tup, wp_lst, wp_call1, wp_isi, wp_isN, wp_and, wp_or, wp_not, wp_ofB, wp_ite, wp_ifE, wp_chain, wp_chL, wp_chN, wp_ixN, there_cons0, there_succ, wp_sl, wp_scrSl, outp_ok, wp_callF, wp_callIO, wp_recv, ws_seq, ws_next, ws_expr, ws_ret, ws_retN, ws_if, ws_asg, ws_post, ws_fz, ws_drop, ws_par, ws_setI, ws_aug, ws_for, ws_loop_nil, wp_lc, lc_nil, okp_ixL, okp_ixT, okp_gixL, okp_gixT, kidN_0, kidN_1L, kidN_int, kidN_bl, kidN_str, kidN_pair, kid_some, kid_int, kid_pair, kind_int, kind_bl, kind_str, kind_non, kind_pair, kind_lst, kind_lst1, at0, at1, at2, at3, ok_gNm, ok_gTp, ok_gLs0, ok_gLs1, ok_gCo, ok_gNo, ok_slot, getP_nil, setP_nil, ok_ixOf, ixN0, ixN1, acc_int, acc_pair, acc_str, acc_same, AR.acc_zero, frz_cons0, frz_none, frz_succ, ok_scrSl, ok_tupOf, ok_lstOf, wp_dgetN, wp_dnew, ws_dput, ok_dicAt, ok_keyAt, keyOf_pair, keyOf_pairD, ok_lenD, ok_sortP, ok_sumL, ok_itZipL, ok_itZipT, ok_itEn, wp_callIOT, join_i1, ok_geA, ok_geP, ok_ltA, ok_ltP, ok_append, ok_pop, join_z1, join_z2, join_z3, join_z4, ws_raise, join_pair, AR.join_nil, pick_some, pick_none, itL_some, itT_some, hold_t, hold_s, canFz_s, ok_add, ok_addS, ok_cat, ok_sub, ok_mul, ok_div, ok_mod, ok_pow, ok_lt, ok_le, ok_gt, ok_ge, ok_toB, ok_toI, ok_max2, ok_min2, ok_int, ok_intB, ok_lenL, ok_lenT, ok_lenS, ok_eqI, ok_neI, ok_eqB, ok_neB, List.getElem?_cons_zero, List.getElem?_cons_succ, List.set_cons_zero, List.set_cons_succ, List.map_cons, List.map_nil, List.length_cons, List.length_nil, List.all_cons, List.all_nil, List.length_set, List.cons_append, List.nil_append, List.replicate, Nat.zero_add, Nat.reduceAdd, Nat.reduceLT, Nat.reduceLeDiff, Nat.reduceEqDiff, decide_eq_true_eq, Bool.false_eq_true, if_false, true_and, and_true, Bool.and_true, Bool.true_and, Bool.and_self, Bool.or_true, Bool.true_or, Option.isSome_some, if_true, Option.map_some, Option.join_some]
      simp
      rw [zip_same]
      refine ⟨by simp only [List.length_map]; omega, ?_⟩
      refine fin fun d hd' => ?_
      simp only [wipeE, sm d hd', ↓wp_R1, ↓wp_R2, ↓wp_R3, wp_ret, wp_bind, wp_mif, wp_mopt, okp_some, okp_none, okp_map, okp_bind, okp_ite, slp_some, wp_c, kind0, wp_name, wp_move, wp_op, wp_asB, wp_neg, wp_bi, wp_cons, wp_tup, wp_lst, wp_call1, wp_isi, wp_isN, wp_and, wp_or, wp_not, wp_ofB, wp_ite, wp_ifE, wp_chain, wp_chL, wp_chN, wp_ixN, there_cons0, there_succ, wp_sl, wp_scrSl, outp_ok, wp_callF, wp_callIO, wp_recv, ws_seq, ws_next, ws_expr, ws_ret, ws_retN, ws_if, ws_asg, ws_post, ws_fz, ws_drop, ws_par, ws_setI, ws_aug, ws_for, ws_loop_nil, wp_lc, lc_nil, okp_ixL, okp_ixT, okp_gixL, okp_gixT, kidN_0, kidN_1L, kidN_int, kidN_bl, kidN_str, kidN_pair, kid_some, kid_int, kid_pair, kind_int, kind_bl, kind_str, kind_non, kind_pair, kind_lst, kind_lst1, at0, at1, at2, at3, ok_gNm, ok_gTp, ok_gLs0, ok_gLs1, ok_gCo, ok_gNo, ok_slot, getP_nil, setP_nil, ok_ixOf, ixN0, ixN1, acc_int, acc_pair, acc_str, acc_same, AR.acc_zero, frz_cons0, frz_none, frz_succ, ok_scrSl, ok_tupOf, ok_lstOf, wp_dgetN, wp_dnew, ws_dput, ok_dicAt, ok_keyAt, keyOf_pair, keyOf_pairD, ok_lenD, ok_sortP, ok_sumL, ok_itZipL, ok_itZipT, ok_itEn, wp_callIOT, join_i1, ok_geA, ok_geP, ok_ltA, ok_ltP, ok_append, ok_pop, join_z1, join_z2, join_z3, join_z4, ws_raise, join_pair, AR.join_nil, pick_some, pick_none, itL_some, itT_some, hold_t, hold_s, canFz_s, ok_add, ok_addS, ok_cat, ok_sub, ok_mul, ok_div, ok_mod, ok_pow, ok_lt, ok_le, ok_gt, ok_ge, ok_toB, ok_toI, ok_max2, ok_min2, ok_int, ok_intB, ok_lenL, ok_lenT, ok_lenS, ok_eqI, ok_neI, ok_eqB, ok_neB, List.getElem?_cons_zero, List.getElem?_cons_succ, List.set_cons_zero, List.set_cons_succ, List.map_cons, List.map_nil, List.length_cons, List.length_nil, List.all_cons, List.all_nil, List.length_set, List.cons_append, List.nil_append, List.replicate, Nat.zero_add, Nat.reduceAdd, Nat.reduceLT, Nat.reduceLeDiff, Nat.reduceEqDiff, decide_eq_true_eq, Bool.false_eq_true, if_false, true_and, and_true, Bool.and_true, Bool.true_and, Bool.and_self, Bool.or_true, Bool.true_or, Option.isSome_some, if_true, Option.map_some, Option.join_some]
      exact ⟨.inl trivial, rfl⟩
    · simp only [b__law_same, isT, tyN, noScr, D.isN, ↓wp_R1, ↓wp_R2, ↓wp_R3, wp_ret, wp_bind, wp_mif, wp_mopt, okp_some, okp_none, okp_map, okp_bind, okp_ite, slp_some, wp_c, kind0, wp_name, wp_move, wp_op, wp_asB, wp_neg, wp_bi, wp_cons, wp_tup, wp_lst, wp_call1, wp_isi, wp_isN, wp_and, wp_or, wp_not, wp_ofB, wp_ite, wp_ifE, wp_chain, wp_chL, wp_chN, wp_ixN, there_cons0, there_succ, wp_sl, wp_scrSl, outp_ok, wp_callF, wp_callIO, wp_recv, ws_seq, ws_next, ws_expr, ws_ret, ws_retN, ws_if, ws_asg, ws_post, ws_fz, ws_drop, ws_par, ws_setI, ws_aug, ws_for, ws_loop_nil, wp_lc, lc_nil, okp_ixL, okp_ixT, okp_gixL, okp_gixT, kidN_0, kidN_1L, kidN_int, kidN_bl, kidN_str, kidN_pair, kid_some, kid_int, kid_pair, kind_int, kind_bl, kind_str, kind_non, kind_pair, kind_lst, kind_lst1, at0, at1, at2, at3, ok_gNm, ok_gTp, ok_gLs0, ok_gLs1, ok_gCo, ok_gNo, ok_slot, getP_nil, setP_nil, ok_ixOf, ixN0, ixN1, acc_int, acc_pair, acc_str, acc_same, AR.acc_zero, frz_cons0, frz_none, frz_succ, ok_scrSl, ok_tupOf, ok_lstOf, wp_dgetN, wp_dnew, ws_dput, ok_dicAt, ok_keyAt, keyOf_pair, keyOf_pairD, ok_lenD, ok_sortP, ok_sumL, ok_itZipL, ok_itZipT, ok_itEn, wp_callIOT, join_i1, ok_geA, ok_geP, ok_ltA, ok_ltP, ok_append, ok_pop, join_z1, join_z2, join_z3, join_z4, ws_raise, join_pair, AR.join_nil, pick_some, pick_none, itL_some, itT_some, hold_t, hold_s, canFz_s, ok_add, ok_addS, ok_cat, ok_sub, ok_mul, ok_div, ok_mod, ok_pow, ok_lt, ok_le, ok_gt, ok_ge, ok_toB, ok_toI, ok_max2, ok_min2, ok_int, ok_intB, ok_lenL, ok_lenT, ok_lenS, ok_eqI, ok_neI, ok_eqB, ok_neB, List.getElem?_cons_zero, List.getElem?_cons_succ, List.set_cons_zero, List.set_cons_succ, List.map_cons, List.map_nil, List.length_cons, List.length_nil, List.all_cons, List.all_nil, List.length_set, List.cons_append, List.nil_append, List.replicate, Nat.zero_add, Nat.reduceAdd, Nat.reduceLT, Nat.reduceLeDiff, Nat.reduceEqDiff, decide_eq_true_eq, Bool.false_eq_true, if_false, true_and, and_true, Bool.and_true, Bool.true_and, Bool.and_self, Bool.or_true, Bool.true_or, Option.isSome_some, if_true, Option.map_some, Option.join_some]
      simp
      rw [zip_same]
      refine ⟨by simp only [List.length_map]; omega, ?_⟩
      refine fin fun d hd' => ?_
      simp only [wipeE, sm d hd', ↓wp_R1, ↓wp_R2, ↓wp_R3, wp_ret, wp_bind, wp_mif, wp_mopt, okp_some, okp_none, okp_map, okp_bind, okp_ite, slp_some, wp_c, kind0, wp_name, wp_move, wp_op, wp_asB, wp_neg, wp_bi, wp_cons, wp_tup, wp_lst, wp_call1, wp_isi, wp_isN, wp_and, wp_or, wp_not, wp_ofB, wp_ite, wp_ifE, wp_chain, wp_chL, wp_chN, wp_ixN, there_cons0, there_succ, wp_sl, wp_scrSl, outp_ok, wp_callF, wp_callIO, wp_recv, ws_seq, ws_next, ws_expr, ws_ret, ws_retN, ws_if, ws_asg, ws_post, ws_fz, ws_drop, ws_par, ws_setI, ws_aug, ws_for, ws_loop_nil, wp_lc, lc_nil, okp_ixL, okp_ixT, okp_gixL, okp_gixT, kidN_0, kidN_1L, kidN_int, kidN_bl, kidN_str, kidN_pair, kid_some, kid_int, kid_pair, kind_int, kind_bl, kind_str, kind_non, kind_pair, kind_lst, kind_lst1, at0, at1, at2, at3, ok_gNm, ok_gTp, ok_gLs0, ok_gLs1, ok_gCo, ok_gNo, ok_slot, getP_nil, setP_nil, ok_ixOf, ixN0, ixN1, acc_int, acc_pair, acc_str, acc_same, AR.acc_zero, frz_cons0, frz_none, frz_succ, ok_scrSl, ok_tupOf, ok_lstOf, wp_dgetN, wp_dnew, ws_dput, ok_dicAt, ok_keyAt, keyOf_pair, keyOf_pairD, ok_lenD, ok_sortP, ok_sumL, ok_itZipL, ok_itZipT, ok_itEn, wp_callIOT, join_i1, ok_geA, ok_geP, ok_ltA, ok_ltP, ok_append, ok_pop, join_z1, join_z2, join_z3, join_z4, ws_raise, join_pair, AR.join_nil, pick_some, pick_none, itL_some, itT_some, hold_t, hold_s, canFz_s, ok_add, ok_addS, ok_cat, ok_sub, ok_mul, ok_div, ok_mod, ok_pow, ok_lt, ok_le, ok_gt, ok_ge, ok_toB, ok_toI, ok_max2, ok_min2, ok_int, ok_intB, ok_lenL, ok_lenT, ok_lenS, ok_eqI, ok_neI, ok_eqB, ok_neB, List.getElem?_cons_zero, List.getElem?_cons_succ, List.set_cons_zero, List.set_cons_succ, List.map_cons, List.map_nil, List.length_cons, List.length_nil, List.all_cons, List.all_nil, List.length_set, List.cons_append, List.nil_append, List.replicate, Nat.zero_add, Nat.reduceAdd, Nat.reduceLT, Nat.reduceLeDiff, Nat.reduceEqDiff, decide_eq_true_eq, Bool.false_eq_true, if_false, true_and, and_true, Bool.and_true, Bool.true_and, Bool.and_self, Bool.or_true, Bool.true_or, Option.isSome_some, if_true, Option.map_some, Option.join_some]
      exact ⟨.inl trivial, rfl⟩

theorem same_told {z : Int} {ts : List Pr} (hl : ts.length ≤ 1000) : SameOk 3 (.tup [.int z, .lst (ts.map pairD)]) := by
  refine .inr ⟨_, .inr rfl, by simp, fun x hx => ?_⟩
  simp only [List.mem_cons, List.not_mem_nil, or_false] at hx
  rcases hx with rfl | rfl
  · exact .inl (.inr (.inl ⟨_, rfl⟩))
  · refine .inr ⟨_, .inl rfl, by rw [List.length_map]; omega, fun y hy => ?_⟩
    obtain ⟨p, _, rfl⟩ := List.mem_map.mp hy
    refine .inr ⟨_, .inr rfl, by simp, fun z hz => ?_⟩
    simp only [List.mem_cons, List.not_mem_nil, or_false] at hz
    rcases hz with rfl | rfl <;> exact .inr (.inl ⟨_, rfl⟩)
theorem turn_l1 {n : Nat} {ts gs : List Pr} {x0 x1 x2 x7 x8 : Option AR.Tm} {N : Sl → Prop} {R : Nat → D → Sl → Prop} (hr : RowOk n ts) (hts : ts.length ≤ 300) (hg : Giv n ts gs) (hl : gs.length ≤ 400)
    (k : ∀ x8, N [x0, x1, x2, some (0, .int n), some (0, .lst (ts.map pairD)), some (0, .lst (gs.map pairD)), some (1, .lst (gs.map pairD)), x7, x8]) :
    Ws L_law_1 [x0, x1, x2, some (0, .int n), some (0, .lst (ts.map pairD)), some (0, .lst (gs.map pairD)), some (1, .lst (gs.map pairD)), x7, x8] N R := by
  have g1 : ∀ {z : Int} {es : List D}, getP 1 (.tup [.int z, .lst es]) [1] = some (1, .lst es) := fun {z es} => rfl
  have t1 : ∀ {z : Int} {es : List D} {d : D}, setP (.tup [.int z, .lst es]) d [1] = .tup [.int z, d] := fun {z es d} => rfl
  have n1 : natI 1 = some 1 := rfl
  have hne : ∀ {k l : Option Nat} {P : Rv → Prop}, OkP (fNe (k, .lst (gs.map pairD)) (l, .lst (gs.map pairD))) P = P (some 0, .bl false) := fun {k l P} => ok_neSelf (pl_pairs gs) (shp_pairs gs)
  simp only [L_law_1, ↓wp_R1, ↓wp_R2, ↓wp_R3, wp_ret, wp_bind, wp_mif, wp_mopt, okp_some, okp_none, okp_map, okp_bind, okp_ite, slp_some, wp_c, kind0, wp_name, wp_move, wp_op, wp_asB, wp_neg, wp_bi, wp_cons, wp_tup, wp_lst, wp_call1, wp_isi, wp_isN, wp_and, wp_or, wp_not, wp_ofB, wp_ite, wp_ifE, wp_chain, wp_chL, wp_chN, wp_ixN, there_cons0, there_succ, wp_sl, wp_scrSl, outp_ok, wp_callF, wp_callIO, wp_recv, ws_seq, ws_next, ws_expr, ws_ret, ws_retN, ws_if, ws_asg, ws_post, ws_fz, ws_drop, ws_par, ws_setI, ws_aug, ws_for, ws_loop_nil, wp_lc, lc_nil, okp_ixL, okp_ixT, okp_gixL, okp_gixT, kidN_0, kidN_1L, kidN_int, kidN_bl, kidN_str, kidN_pair, kid_some, kid_int, kid_pair, kind_int, kind_bl, kind_str, kind_non, kind_pair, kind_lst, kind_lst1, at0, at1, at2, at3, ok_gNm, ok_gTp, ok_gLs0, ok_gLs1, ok_gCo, ok_gNo, ok_slot, getP_nil, setP_nil, ok_ixOf, ixN0, ixN1, acc_int, acc_pair, acc_str, acc_same, AR.acc_zero, frz_cons0, frz_none, frz_succ, ok_scrSl, ok_tupOf, ok_lstOf, wp_dgetN, wp_dnew, ws_dput, ok_dicAt, ok_keyAt, keyOf_pair, keyOf_pairD, ok_lenD, ok_sortP, ok_sumL, ok_itZipL, ok_itZipT, ok_itEn, wp_callIOT, join_i1, ok_geA, ok_geP, ok_ltA, ok_ltP, ok_append, ok_pop, join_z1, join_z2, join_z3, join_z4, ws_raise, join_pair, AR.join_nil, pick_some, pick_none, itL_some, itT_some, hold_t, hold_s, canFz_s, ok_add, ok_addS, ok_cat, ok_sub, ok_mul, ok_div, ok_mod, ok_pow, ok_lt, ok_le, ok_gt, ok_ge, ok_toB, ok_toI, ok_max2, ok_min2, ok_int, ok_intB, ok_lenL, ok_lenT, ok_lenS, ok_eqI, ok_neI, ok_eqB, ok_neB, List.getElem?_cons_zero, List.getElem?_cons_succ, List.set_cons_zero, List.set_cons_succ, List.map_cons, List.map_nil, List.length_cons, List.length_nil, List.all_cons, List.all_nil, List.length_set, List.cons_append, List.nil_append, List.replicate, Nat.zero_add, Nat.reduceAdd, Nat.reduceLT, Nat.reduceLeDiff, Nat.reduceEqDiff, decide_eq_true_eq, Bool.false_eq_true, if_false, true_and, and_true, Bool.and_true, Bool.true_and, Bool.and_self, Bool.or_true, Bool.true_or, Option.isSome_some, if_true, Option.map_some, Option.join_some]
  refine out_rowof hr hg hl ⟨.inr (by simp [rowD, D.dep, depL, depL_pairs]), ?_⟩
  simp only [rowD, ↓wp_R1, ↓wp_R2, ↓wp_R3, wp_ret, wp_bind, wp_mif, wp_mopt, okp_some, okp_none, okp_map, okp_bind, okp_ite, slp_some, wp_c, kind0, wp_name, wp_move, wp_op, wp_asB, wp_neg, wp_bi, wp_cons, wp_tup, wp_lst, wp_call1, wp_isi, wp_isN, wp_and, wp_or, wp_not, wp_ofB, wp_ite, wp_ifE, wp_chain, wp_chL, wp_chN, wp_ixN, there_cons0, there_succ, wp_sl, wp_scrSl, outp_ok, wp_callF, wp_callIO, wp_recv, ws_seq, ws_next, ws_expr, ws_ret, ws_retN, ws_if, ws_asg, ws_post, ws_fz, ws_drop, ws_par, ws_setI, ws_aug, ws_for, ws_loop_nil, wp_lc, lc_nil, okp_ixL, okp_ixT, okp_gixL, okp_gixT, kidN_0, kidN_1L, kidN_int, kidN_bl, kidN_str, kidN_pair, kid_some, kid_int, kid_pair, kind_int, kind_bl, kind_str, kind_non, kind_pair, kind_lst, kind_lst1, at0, at1, at2, at3, ok_gNm, ok_gTp, ok_gLs0, ok_gLs1, ok_gCo, ok_gNo, ok_slot, getP_nil, setP_nil, ok_ixOf, ixN0, ixN1, acc_int, acc_pair, acc_str, acc_same, AR.acc_zero, frz_cons0, frz_none, frz_succ, ok_scrSl, ok_tupOf, ok_lstOf, wp_dgetN, wp_dnew, ws_dput, ok_dicAt, ok_keyAt, keyOf_pair, keyOf_pairD, ok_lenD, ok_sortP, ok_sumL, ok_itZipL, ok_itZipT, ok_itEn, wp_callIOT, join_i1, ok_geA, ok_geP, ok_ltA, ok_ltP, ok_append, ok_pop, join_z1, join_z2, join_z3, join_z4, ws_raise, join_pair, AR.join_nil, pick_some, pick_none, itL_some, itT_some, hold_t, hold_s, canFz_s, ok_add, ok_addS, ok_cat, ok_sub, ok_mul, ok_div, ok_mod, ok_pow, ok_lt, ok_le, ok_gt, ok_ge, ok_toB, ok_toI, ok_max2, ok_min2, ok_int, ok_intB, ok_lenL, ok_lenT, ok_lenS, ok_eqI, ok_neI, ok_eqB, ok_neB, List.getElem?_cons_zero, List.getElem?_cons_succ, List.set_cons_zero, List.set_cons_succ, List.map_cons, List.map_nil, List.length_cons, List.length_nil, List.all_cons, List.all_nil, List.length_set, List.cons_append, List.nil_append, List.replicate, Nat.zero_add, Nat.reduceAdd, Nat.reduceLT, Nat.reduceLeDiff, Nat.reduceEqDiff, decide_eq_true_eq, Bool.false_eq_true, if_false, true_and, and_true, Bool.and_true, Bool.true_and, Bool.and_self, Bool.or_true, Bool.true_or, Option.isSome_some, if_true, Option.map_some, Option.join_some]
  refine out_same (m := 3) (same_told (by omega)) ⟨.inr (Nat.le_of_eq rfl), ?_⟩
  simp only [Bool.not_true, hne, ok_rIxP, n1, g1, t1, ↓wp_R1, ↓wp_R2, ↓wp_R3, wp_ret, wp_bind, wp_mif, wp_mopt, okp_some, okp_none, okp_map, okp_bind, okp_ite, slp_some, wp_c, kind0, wp_name, wp_move, wp_op, wp_asB, wp_neg, wp_bi, wp_cons, wp_tup, wp_lst, wp_call1, wp_isi, wp_isN, wp_and, wp_or, wp_not, wp_ofB, wp_ite, wp_ifE, wp_chain, wp_chL, wp_chN, wp_ixN, there_cons0, there_succ, wp_sl, wp_scrSl, outp_ok, wp_callF, wp_callIO, wp_recv, ws_seq, ws_next, ws_expr, ws_ret, ws_retN, ws_if, ws_asg, ws_post, ws_fz, ws_drop, ws_par, ws_setI, ws_aug, ws_for, ws_loop_nil, wp_lc, lc_nil, okp_ixL, okp_ixT, okp_gixL, okp_gixT, kidN_0, kidN_1L, kidN_int, kidN_bl, kidN_str, kidN_pair, kid_some, kid_int, kid_pair, kind_int, kind_bl, kind_str, kind_non, kind_pair, kind_lst, kind_lst1, at0, at1, at2, at3, ok_gNm, ok_gTp, ok_gLs0, ok_gLs1, ok_gCo, ok_gNo, ok_slot, getP_nil, setP_nil, ok_ixOf, ixN0, ixN1, acc_int, acc_pair, acc_str, acc_same, AR.acc_zero, frz_cons0, frz_none, frz_succ, ok_scrSl, ok_tupOf, ok_lstOf, wp_dgetN, wp_dnew, ws_dput, ok_dicAt, ok_keyAt, keyOf_pair, keyOf_pairD, ok_lenD, ok_sortP, ok_sumL, ok_itZipL, ok_itZipT, ok_itEn, wp_callIOT, join_i1, ok_geA, ok_geP, ok_ltA, ok_ltP, ok_append, ok_pop, join_z1, join_z2, join_z3, join_z4, ws_raise, join_pair, AR.join_nil, pick_some, pick_none, itL_some, itT_some, hold_t, hold_s, canFz_s, ok_add, ok_addS, ok_cat, ok_sub, ok_mul, ok_div, ok_mod, ok_pow, ok_lt, ok_le, ok_gt, ok_ge, ok_toB, ok_toI, ok_max2, ok_min2, ok_int, ok_intB, ok_lenL, ok_lenT, ok_lenS, ok_eqI, ok_neI, ok_eqB, ok_neB, List.getElem?_cons_zero, List.getElem?_cons_succ, List.set_cons_zero, List.set_cons_succ, List.map_cons, List.map_nil, List.length_cons, List.length_nil, List.all_cons, List.all_nil, List.length_set, List.cons_append, List.nil_append, List.replicate, Nat.zero_add, Nat.reduceAdd, Nat.reduceLT, Nat.reduceLeDiff, Nat.reduceEqDiff, decide_eq_true_eq, Bool.false_eq_true, if_false, true_and, and_true, Bool.and_true, Bool.true_and, Bool.and_self, Bool.or_true, Bool.true_or, Option.isSome_some, if_true, Option.map_some, Option.join_some]
  exact ⟨by rw [List.length_map]; omega, k _⟩
theorem law_holds (K : PySem.W.Frag) (ns : List Int) (hl : ns.length ≤ 63) : ∃ m outs, S_law K [(0, .scr ns K)] = .ok (m, .bl true) outs := by
  refine outp_ex (def_of ?_)
  simp only [b_law, ws_seq]
  refine ws_for_inv (fun _ e => ∃ x1 x2 x3 x4 x5 x6 x7 x8, e = [some (0, .scr ns K), x1, x2, x3, x4, x5, x6, x7, x8]) ?_
  simp only [↓wp_R1, ↓wp_R2, ↓wp_R3, wp_ret, wp_bind, wp_mif, wp_mopt, okp_some, okp_none, okp_map, okp_bind, okp_ite, slp_some, wp_c, kind0, wp_name, wp_move, wp_op, wp_asB, wp_neg, wp_bi, wp_cons, wp_tup, wp_lst, wp_call1, wp_isi, wp_isN, wp_and, wp_or, wp_not, wp_ofB, wp_ite, wp_ifE, wp_chain, wp_chL, wp_chN, wp_ixN, there_cons0, there_succ, wp_sl, wp_scrSl, outp_ok, wp_callF, wp_callIO, wp_recv, ws_seq, ws_next, ws_expr, ws_ret, ws_retN, ws_if, ws_asg, ws_post, ws_fz, ws_drop, ws_par, ws_setI, ws_aug, ws_for, ws_loop_nil, wp_lc, lc_nil, okp_ixL, okp_ixT, okp_gixL, okp_gixT, kidN_0, kidN_1L, kidN_int, kidN_bl, kidN_str, kidN_pair, kid_some, kid_int, kid_pair, kind_int, kind_bl, kind_str, kind_non, kind_pair, kind_lst, kind_lst1, at0, at1, at2, at3, ok_gNm, ok_gTp, ok_gLs0, ok_gLs1, ok_gCo, ok_gNo, ok_slot, getP_nil, setP_nil, ok_ixOf, ixN0, ixN1, acc_int, acc_pair, acc_str, acc_same, AR.acc_zero, frz_cons0, frz_none, frz_succ, ok_scrSl, ok_tupOf, ok_lstOf, wp_dgetN, wp_dnew, ws_dput, ok_dicAt, ok_keyAt, keyOf_pair, keyOf_pairD, ok_lenD, ok_sortP, ok_sumL, ok_itZipL, ok_itZipT, ok_itEn, wp_callIOT, join_i1, ok_geA, ok_geP, ok_ltA, ok_ltP, ok_append, ok_pop, join_z1, join_z2, join_z3, join_z4, ws_raise, join_pair, AR.join_nil, pick_some, pick_none, itL_some, itT_some, hold_t, hold_s, canFz_s, ok_add, ok_addS, ok_cat, ok_sub, ok_mul, ok_div, ok_mod, ok_pow, ok_lt, ok_le, ok_gt, ok_ge, ok_toB, ok_toI, ok_max2, ok_min2, ok_int, ok_intB, ok_lenL, ok_lenT, ok_lenS, ok_eqI, ok_neI, ok_eqB, ok_neB, List.getElem?_cons_zero, List.getElem?_cons_succ, List.set_cons_zero, List.set_cons_succ, List.map_cons, List.map_nil, List.length_cons, List.length_nil, List.all_cons, List.all_nil, List.length_set, List.cons_append, List.nil_append, List.replicate, Nat.zero_add, Nat.reduceAdd, Nat.reduceLT, Nat.reduceLeDiff, Nat.reduceEqDiff, decide_eq_true_eq, Bool.false_eq_true, if_false, true_and, and_true, Bool.and_true, Bool.true_and, Bool.and_self, Bool.or_true, Bool.true_or, Option.isSome_some, if_true, Option.map_some, Option.join_some]
  refine ⟨by decide, ?_, ⟨_, _, _, _, _, _, _, _, rfl⟩, fun j d e hdd he => ?_, fun e he => ?_⟩
  · have := cut_len (ns := ns) (h := 10)
    rw [List.length_map]; omega
  · obtain ⟨x1, x2, x3, x4, x5, x6, x7, x8, rfl⟩ := he
    obtain ⟨c, rfl⟩ := ints_get hdd
    simp only [L_law_2, ↓wp_R1, ↓wp_R2, ↓wp_R3, wp_ret, wp_bind, wp_mif, wp_mopt, okp_some, okp_none, okp_map, okp_bind, okp_ite, slp_some, wp_c, kind0, wp_name, wp_move, wp_op, wp_asB, wp_neg, wp_bi, wp_cons, wp_tup, wp_lst, wp_call1, wp_isi, wp_isN, wp_and, wp_or, wp_not, wp_ofB, wp_ite, wp_ifE, wp_chain, wp_chL, wp_chN, wp_ixN, there_cons0, there_succ, wp_sl, wp_scrSl, outp_ok, wp_callF, wp_callIO, wp_recv, ws_seq, ws_next, ws_expr, ws_ret, ws_retN, ws_if, ws_asg, ws_post, ws_fz, ws_drop, ws_par, ws_setI, ws_aug, ws_for, ws_loop_nil, wp_lc, lc_nil, okp_ixL, okp_ixT, okp_gixL, okp_gixT, kidN_0, kidN_1L, kidN_int, kidN_bl, kidN_str, kidN_pair, kid_some, kid_int, kid_pair, kind_int, kind_bl, kind_str, kind_non, kind_pair, kind_lst, kind_lst1, at0, at1, at2, at3, ok_gNm, ok_gTp, ok_gLs0, ok_gLs1, ok_gCo, ok_gNo, ok_slot, getP_nil, setP_nil, ok_ixOf, ixN0, ixN1, acc_int, acc_pair, acc_str, acc_same, AR.acc_zero, frz_cons0, frz_none, frz_succ, ok_scrSl, ok_tupOf, ok_lstOf, wp_dgetN, wp_dnew, ws_dput, ok_dicAt, ok_keyAt, keyOf_pair, keyOf_pairD, ok_lenD, ok_sortP, ok_sumL, ok_itZipL, ok_itZipT, ok_itEn, wp_callIOT, join_i1, ok_geA, ok_geP, ok_ltA, ok_ltP, ok_append, ok_pop, join_z1, join_z2, join_z3, join_z4, ws_raise, join_pair, AR.join_nil, pick_some, pick_none, itL_some, itT_some, hold_t, hold_s, canFz_s, ok_add, ok_addS, ok_cat, ok_sub, ok_mul, ok_div, ok_mod, ok_pow, ok_lt, ok_le, ok_gt, ok_ge, ok_toB, ok_toI, ok_max2, ok_min2, ok_int, ok_intB, ok_lenL, ok_lenT, ok_lenS, ok_eqI, ok_neI, ok_eqB, ok_neB, List.getElem?_cons_zero, List.getElem?_cons_succ, List.set_cons_zero, List.set_cons_succ, List.map_cons, List.map_nil, List.length_cons, List.length_nil, List.all_cons, List.all_nil, List.length_set, List.cons_append, List.nil_append, List.replicate, Nat.zero_add, Nat.reduceAdd, Nat.reduceLT, Nat.reduceLeDiff, Nat.reduceEqDiff, decide_eq_true_eq, Bool.false_eq_true, if_false, true_and, and_true, Bool.and_true, Bool.true_and, Bool.and_self, Bool.or_true, Bool.true_or, Option.isSome_some, if_true, Option.map_some, Option.join_some]
    refine out_hand fun a b hb => ⟨.inl trivial, ?_⟩
    simp only [↓wp_R1, ↓wp_R2, ↓wp_R3, wp_ret, wp_bind, wp_mif, wp_mopt, okp_some, okp_none, okp_map, okp_bind, okp_ite, slp_some, wp_c, kind0, wp_name, wp_move, wp_op, wp_asB, wp_neg, wp_bi, wp_cons, wp_tup, wp_lst, wp_call1, wp_isi, wp_isN, wp_and, wp_or, wp_not, wp_ofB, wp_ite, wp_ifE, wp_chain, wp_chL, wp_chN, wp_ixN, there_cons0, there_succ, wp_sl, wp_scrSl, outp_ok, wp_callF, wp_callIO, wp_recv, ws_seq, ws_next, ws_expr, ws_ret, ws_retN, ws_if, ws_asg, ws_post, ws_fz, ws_drop, ws_par, ws_setI, ws_aug, ws_for, ws_loop_nil, wp_lc, lc_nil, okp_ixL, okp_ixT, okp_gixL, okp_gixT, kidN_0, kidN_1L, kidN_int, kidN_bl, kidN_str, kidN_pair, kid_some, kid_int, kid_pair, kind_int, kind_bl, kind_str, kind_non, kind_pair, kind_lst, kind_lst1, at0, at1, at2, at3, ok_gNm, ok_gTp, ok_gLs0, ok_gLs1, ok_gCo, ok_gNo, ok_slot, getP_nil, setP_nil, ok_ixOf, ixN0, ixN1, acc_int, acc_pair, acc_str, acc_same, AR.acc_zero, frz_cons0, frz_none, frz_succ, ok_scrSl, ok_tupOf, ok_lstOf, wp_dgetN, wp_dnew, ws_dput, ok_dicAt, ok_keyAt, keyOf_pair, keyOf_pairD, ok_lenD, ok_sortP, ok_sumL, ok_itZipL, ok_itZipT, ok_itEn, wp_callIOT, join_i1, ok_geA, ok_geP, ok_ltA, ok_ltP, ok_append, ok_pop, join_z1, join_z2, join_z3, join_z4, ws_raise, join_pair, AR.join_nil, pick_some, pick_none, itL_some, itT_some, hold_t, hold_s, canFz_s, ok_add, ok_addS, ok_cat, ok_sub, ok_mul, ok_div, ok_mod, ok_pow, ok_lt, ok_le, ok_gt, ok_ge, ok_toB, ok_toI, ok_max2, ok_min2, ok_int, ok_intB, ok_lenL, ok_lenT, ok_lenS, ok_eqI, ok_neI, ok_eqB, ok_neB, List.getElem?_cons_zero, List.getElem?_cons_succ, List.set_cons_zero, List.set_cons_succ, List.map_cons, List.map_nil, List.length_cons, List.length_nil, List.all_cons, List.all_nil, List.length_set, List.cons_append, List.nil_append, List.replicate, Nat.zero_add, Nat.reduceAdd, Nat.reduceLT, Nat.reduceLeDiff, Nat.reduceEqDiff, decide_eq_true_eq, Bool.false_eq_true, if_false, true_and, and_true, Bool.and_true, Bool.true_and, Bool.and_self, Bool.or_true, Bool.true_or, Option.isSome_some, if_true, Option.map_some, Option.join_some]
    refine out_row hb fun n ts a b hb hr hts => ?_
    simp only [rowD, ↓wp_R1, ↓wp_R2, ↓wp_R3, wp_ret, wp_bind, wp_mif, wp_mopt, okp_some, okp_none, okp_map, okp_bind, okp_ite, slp_some, wp_c, kind0, wp_name, wp_move, wp_op, wp_asB, wp_neg, wp_bi, wp_cons, wp_tup, wp_lst, wp_call1, wp_isi, wp_isN, wp_and, wp_or, wp_not, wp_ofB, wp_ite, wp_ifE, wp_chain, wp_chL, wp_chN, wp_ixN, there_cons0, there_succ, wp_sl, wp_scrSl, outp_ok, wp_callF, wp_callIO, wp_recv, ws_seq, ws_next, ws_expr, ws_ret, ws_retN, ws_if, ws_asg, ws_post, ws_fz, ws_drop, ws_par, ws_setI, ws_aug, ws_for, ws_loop_nil, wp_lc, lc_nil, okp_ixL, okp_ixT, okp_gixL, okp_gixT, kidN_0, kidN_1L, kidN_int, kidN_bl, kidN_str, kidN_pair, kid_some, kid_int, kid_pair, kind_int, kind_bl, kind_str, kind_non, kind_pair, kind_lst, kind_lst1, at0, at1, at2, at3, ok_gNm, ok_gTp, ok_gLs0, ok_gLs1, ok_gCo, ok_gNo, ok_slot, getP_nil, setP_nil, ok_ixOf, ixN0, ixN1, acc_int, acc_pair, acc_str, acc_same, AR.acc_zero, frz_cons0, frz_none, frz_succ, ok_scrSl, ok_tupOf, ok_lstOf, wp_dgetN, wp_dnew, ws_dput, ok_dicAt, ok_keyAt, keyOf_pair, keyOf_pairD, ok_lenD, ok_sortP, ok_sumL, ok_itZipL, ok_itZipT, ok_itEn, wp_callIOT, join_i1, ok_geA, ok_geP, ok_ltA, ok_ltP, ok_append, ok_pop, join_z1, join_z2, join_z3, join_z4, ws_raise, join_pair, AR.join_nil, pick_some, pick_none, itL_some, itT_some, hold_t, hold_s, canFz_s, ok_add, ok_addS, ok_cat, ok_sub, ok_mul, ok_div, ok_mod, ok_pow, ok_lt, ok_le, ok_gt, ok_ge, ok_toB, ok_toI, ok_max2, ok_min2, ok_int, ok_intB, ok_lenL, ok_lenT, ok_lenS, ok_eqI, ok_neI, ok_eqB, ok_neB, List.getElem?_cons_zero, List.getElem?_cons_succ, List.set_cons_zero, List.set_cons_succ, List.map_cons, List.map_nil, List.length_cons, List.length_nil, List.all_cons, List.all_nil, List.length_set, List.cons_append, List.nil_append, List.replicate, Nat.zero_add, Nat.reduceAdd, Nat.reduceLT, Nat.reduceLeDiff, Nat.reduceEqDiff, decide_eq_true_eq, Bool.false_eq_true, if_false, true_and, and_true, Bool.and_true, Bool.true_and, Bool.and_self, Bool.or_true, Bool.true_or, Option.isSome_some, if_true, Option.map_some, Option.join_some]
    refine out_given hr hb hts fun gs a b hb hg hgl => ?_
    simp only [↓wp_R1, ↓wp_R2, ↓wp_R3, wp_ret, wp_bind, wp_mif, wp_mopt, okp_some, okp_none, okp_map, okp_bind, okp_ite, slp_some, wp_c, kind0, wp_name, wp_move, wp_op, wp_asB, wp_neg, wp_bi, wp_cons, wp_tup, wp_lst, wp_call1, wp_isi, wp_isN, wp_and, wp_or, wp_not, wp_ofB, wp_ite, wp_ifE, wp_chain, wp_chL, wp_chN, wp_ixN, there_cons0, there_succ, wp_sl, wp_scrSl, outp_ok, wp_callF, wp_callIO, wp_recv, ws_seq, ws_next, ws_expr, ws_ret, ws_retN, ws_if, ws_asg, ws_post, ws_fz, ws_drop, ws_par, ws_setI, ws_aug, ws_for, ws_loop_nil, wp_lc, lc_nil, okp_ixL, okp_ixT, okp_gixL, okp_gixT, kidN_0, kidN_1L, kidN_int, kidN_bl, kidN_str, kidN_pair, kid_some, kid_int, kid_pair, kind_int, kind_bl, kind_str, kind_non, kind_pair, kind_lst, kind_lst1, at0, at1, at2, at3, ok_gNm, ok_gTp, ok_gLs0, ok_gLs1, ok_gCo, ok_gNo, ok_slot, getP_nil, setP_nil, ok_ixOf, ixN0, ixN1, acc_int, acc_pair, acc_str, acc_same, AR.acc_zero, frz_cons0, frz_none, frz_succ, ok_scrSl, ok_tupOf, ok_lstOf, wp_dgetN, wp_dnew, ws_dput, ok_dicAt, ok_keyAt, keyOf_pair, keyOf_pairD, ok_lenD, ok_sortP, ok_sumL, ok_itZipL, ok_itZipT, ok_itEn, wp_callIOT, join_i1, ok_geA, ok_geP, ok_ltA, ok_ltP, ok_append, ok_pop, join_z1, join_z2, join_z3, join_z4, ws_raise, join_pair, AR.join_nil, pick_some, pick_none, itL_some, itT_some, hold_t, hold_s, canFz_s, ok_add, ok_addS, ok_cat, ok_sub, ok_mul, ok_div, ok_mod, ok_pow, ok_lt, ok_le, ok_gt, ok_ge, ok_toB, ok_toI, ok_max2, ok_min2, ok_int, ok_intB, ok_lenL, ok_lenT, ok_lenS, ok_eqI, ok_neI, ok_eqB, ok_neB, List.getElem?_cons_zero, List.getElem?_cons_succ, List.set_cons_zero, List.set_cons_succ, List.map_cons, List.map_nil, List.length_cons, List.length_nil, List.all_cons, List.all_nil, List.length_set, List.cons_append, List.nil_append, List.replicate, Nat.zero_add, Nat.reduceAdd, Nat.reduceLT, Nat.reduceLeDiff, Nat.reduceEqDiff, decide_eq_true_eq, Bool.false_eq_true, if_false, true_and, and_true, Bool.and_true, Bool.true_and, Bool.and_self, Bool.or_true, Bool.true_or, Option.isSome_some, if_true, Option.map_some, Option.join_some]
    refine ⟨inR_small (by omega) (by omega), ?_⟩
    refine ws_loop (fun _ e => ∃ x1 x2 x7 x8, e = [some (0, .scr ns K), x1, x2, some (0, .int n), some (0, .lst (ts.map pairD)), some (0, .lst (gs.map pairD)), some (1, .lst (gs.map pairD)), x7, x8]) (n := 0) ⟨_, _, _, _, rfl⟩ (fun q d e hq he => ?_) fun e he => ?_
    · obtain ⟨x1, x2, x7, x8, rfl⟩ := he
      simp only [↓wp_R1, ↓wp_R2, ↓wp_R3, wp_ret, wp_bind, wp_mif, wp_mopt, okp_some, okp_none, okp_map, okp_bind, okp_ite, slp_some, wp_c, kind0, wp_name, wp_move, wp_op, wp_asB, wp_neg, wp_bi, wp_cons, wp_tup, wp_lst, wp_call1, wp_isi, wp_isN, wp_and, wp_or, wp_not, wp_ofB, wp_ite, wp_ifE, wp_chain, wp_chL, wp_chN, wp_ixN, there_cons0, there_succ, wp_sl, wp_scrSl, outp_ok, wp_callF, wp_callIO, wp_recv, ws_seq, ws_next, ws_expr, ws_ret, ws_retN, ws_if, ws_asg, ws_post, ws_fz, ws_drop, ws_par, ws_setI, ws_aug, ws_for, ws_loop_nil, wp_lc, lc_nil, okp_ixL, okp_ixT, okp_gixL, okp_gixT, kidN_0, kidN_1L, kidN_int, kidN_bl, kidN_str, kidN_pair, kid_some, kid_int, kid_pair, kind_int, kind_bl, kind_str, kind_non, kind_pair, kind_lst, kind_lst1, at0, at1, at2, at3, ok_gNm, ok_gTp, ok_gLs0, ok_gLs1, ok_gCo, ok_gNo, ok_slot, getP_nil, setP_nil, ok_ixOf, ixN0, ixN1, acc_int, acc_pair, acc_str, acc_same, AR.acc_zero, frz_cons0, frz_none, frz_succ, ok_scrSl, ok_tupOf, ok_lstOf, wp_dgetN, wp_dnew, ws_dput, ok_dicAt, ok_keyAt, keyOf_pair, keyOf_pairD, ok_lenD, ok_sortP, ok_sumL, ok_itZipL, ok_itZipT, ok_itEn, wp_callIOT, join_i1, ok_geA, ok_geP, ok_ltA, ok_ltP, ok_append, ok_pop, join_z1, join_z2, join_z3, join_z4, ws_raise, join_pair, AR.join_nil, pick_some, pick_none, itL_some, itT_some, hold_t, hold_s, canFz_s, ok_add, ok_addS, ok_cat, ok_sub, ok_mul, ok_div, ok_mod, ok_pow, ok_lt, ok_le, ok_gt, ok_ge, ok_toB, ok_toI, ok_max2, ok_min2, ok_int, ok_intB, ok_lenL, ok_lenT, ok_lenS, ok_eqI, ok_neI, ok_eqB, ok_neB, List.getElem?_cons_zero, List.getElem?_cons_succ, List.set_cons_zero, List.set_cons_succ, List.map_cons, List.map_nil, List.length_cons, List.length_nil, List.all_cons, List.all_nil, List.length_set, List.cons_append, List.nil_append, List.replicate, Nat.zero_add, Nat.reduceAdd, Nat.reduceLT, Nat.reduceLeDiff, Nat.reduceEqDiff, decide_eq_true_eq, Bool.false_eq_true, if_false, true_and, and_true, Bool.and_true, Bool.true_and, Bool.and_self, Bool.or_true, Bool.true_or, Option.isSome_some, if_true, Option.map_some, Option.join_some]
      exact turn_l1 hr hts hg hgl fun x8 => ⟨_, _, _, _, rfl⟩
    · obtain ⟨x1, x2, x7, x8, rfl⟩ := he
      simp only [↓wp_R1, ↓wp_R2, ↓wp_R3, wp_ret, wp_bind, wp_mif, wp_mopt, okp_some, okp_none, okp_map, okp_bind, okp_ite, slp_some, wp_c, kind0, wp_name, wp_move, wp_op, wp_asB, wp_neg, wp_bi, wp_cons, wp_tup, wp_lst, wp_call1, wp_isi, wp_isN, wp_and, wp_or, wp_not, wp_ofB, wp_ite, wp_ifE, wp_chain, wp_chL, wp_chN, wp_ixN, there_cons0, there_succ, wp_sl, wp_scrSl, outp_ok, wp_callF, wp_callIO, wp_recv, ws_seq, ws_next, ws_expr, ws_ret, ws_retN, ws_if, ws_asg, ws_post, ws_fz, ws_drop, ws_par, ws_setI, ws_aug, ws_for, ws_loop_nil, wp_lc, lc_nil, okp_ixL, okp_ixT, okp_gixL, okp_gixT, kidN_0, kidN_1L, kidN_int, kidN_bl, kidN_str, kidN_pair, kid_some, kid_int, kid_pair, kind_int, kind_bl, kind_str, kind_non, kind_pair, kind_lst, kind_lst1, at0, at1, at2, at3, ok_gNm, ok_gTp, ok_gLs0, ok_gLs1, ok_gCo, ok_gNo, ok_slot, getP_nil, setP_nil, ok_ixOf, ixN0, ixN1, acc_int, acc_pair, acc_str, acc_same, AR.acc_zero, frz_cons0, frz_none, frz_succ, ok_scrSl, ok_tupOf, ok_lstOf, wp_dgetN, wp_dnew, ws_dput, ok_dicAt, ok_keyAt, keyOf_pair, keyOf_pairD, ok_lenD, ok_sortP, ok_sumL, ok_itZipL, ok_itZipT, ok_itEn, wp_callIOT, join_i1, ok_geA, ok_geP, ok_ltA, ok_ltP, ok_append, ok_pop, join_z1, join_z2, join_z3, join_z4, ws_raise, join_pair, AR.join_nil, pick_some, pick_none, itL_some, itT_some, hold_t, hold_s, canFz_s, ok_add, ok_addS, ok_cat, ok_sub, ok_mul, ok_div, ok_mod, ok_pow, ok_lt, ok_le, ok_gt, ok_ge, ok_toB, ok_toI, ok_max2, ok_min2, ok_int, ok_intB, ok_lenL, ok_lenT, ok_lenS, ok_eqI, ok_neI, ok_eqB, ok_neB, List.getElem?_cons_zero, List.getElem?_cons_succ, List.set_cons_zero, List.set_cons_succ, List.map_cons, List.map_nil, List.length_cons, List.length_nil, List.all_cons, List.all_nil, List.length_set, List.cons_append, List.nil_append, List.replicate, Nat.zero_add, Nat.reduceAdd, Nat.reduceLT, Nat.reduceLeDiff, Nat.reduceEqDiff, decide_eq_true_eq, Bool.false_eq_true, if_false, true_and, and_true, Bool.and_true, Bool.true_and, Bool.and_self, Bool.or_true, Bool.true_or, Option.isSome_some, if_true, Option.map_some, Option.join_some]
      refine out_rowof hr hg hgl ⟨.inr (by simp [rowD, D.dep, depL, depL_pairs]), ?_⟩
      simp only [rowD, List.length_map, ↓wp_R1, ↓wp_R2, ↓wp_R3, wp_ret, wp_bind, wp_mif, wp_mopt, okp_some, okp_none, okp_map, okp_bind, okp_ite, slp_some, wp_c, kind0, wp_name, wp_move, wp_op, wp_asB, wp_neg, wp_bi, wp_cons, wp_tup, wp_lst, wp_call1, wp_isi, wp_isN, wp_and, wp_or, wp_not, wp_ofB, wp_ite, wp_ifE, wp_chain, wp_chL, wp_chN, wp_ixN, there_cons0, there_succ, wp_sl, wp_scrSl, outp_ok, wp_callF, wp_callIO, wp_recv, ws_seq, ws_next, ws_expr, ws_ret, ws_retN, ws_if, ws_asg, ws_post, ws_fz, ws_drop, ws_par, ws_setI, ws_aug, ws_for, ws_loop_nil, wp_lc, lc_nil, okp_ixL, okp_ixT, okp_gixL, okp_gixT, kidN_0, kidN_1L, kidN_int, kidN_bl, kidN_str, kidN_pair, kid_some, kid_int, kid_pair, kind_int, kind_bl, kind_str, kind_non, kind_pair, kind_lst, kind_lst1, at0, at1, at2, at3, ok_gNm, ok_gTp, ok_gLs0, ok_gLs1, ok_gCo, ok_gNo, ok_slot, getP_nil, setP_nil, ok_ixOf, ixN0, ixN1, acc_int, acc_pair, acc_str, acc_same, AR.acc_zero, frz_cons0, frz_none, frz_succ, ok_scrSl, ok_tupOf, ok_lstOf, wp_dgetN, wp_dnew, ws_dput, ok_dicAt, ok_keyAt, keyOf_pair, keyOf_pairD, ok_lenD, ok_sortP, ok_sumL, ok_itZipL, ok_itZipT, ok_itEn, wp_callIOT, join_i1, ok_geA, ok_geP, ok_ltA, ok_ltP, ok_append, ok_pop, join_z1, join_z2, join_z3, join_z4, ws_raise, join_pair, AR.join_nil, pick_some, pick_none, itL_some, itT_some, hold_t, hold_s, canFz_s, ok_add, ok_addS, ok_cat, ok_sub, ok_mul, ok_div, ok_mod, ok_pow, ok_lt, ok_le, ok_gt, ok_ge, ok_toB, ok_toI, ok_max2, ok_min2, ok_int, ok_intB, ok_lenL, ok_lenT, ok_lenS, ok_eqI, ok_neI, ok_eqB, ok_neB, List.getElem?_cons_zero, List.getElem?_cons_succ, List.set_cons_zero, List.set_cons_succ, List.map_cons, List.map_nil, List.length_cons, List.length_nil, List.all_cons, List.all_nil, List.length_set, List.cons_append, List.nil_append, List.replicate, Nat.zero_add, Nat.reduceAdd, Nat.reduceLT, Nat.reduceLeDiff, Nat.reduceEqDiff, decide_eq_true_eq, Bool.false_eq_true, if_false, true_and, and_true, Bool.and_true, Bool.true_and, Bool.and_self, Bool.or_true, Bool.true_or, Option.isSome_some, if_true, Option.map_some, Option.join_some]
      have hne : ∀ {k l : Option Nat} {P : Rv → Prop}, OkP (fNe (k, .tup [.int n, .lst (ts.map pairD)]) (l, .tup [.int n, .lst (ts.map pairD)])) P = P (some 0, .bl false) := fun {k l P} => ok_neSelf (pl_row n ts) (shp_row n ts)
      simp only [hne, ↓wp_R1, ↓wp_R2, ↓wp_R3, wp_ret, wp_bind, wp_mif, wp_mopt, okp_some, okp_none, okp_map, okp_bind, okp_ite, slp_some, wp_c, kind0, wp_name, wp_move, wp_op, wp_asB, wp_neg, wp_bi, wp_cons, wp_tup, wp_lst, wp_call1, wp_isi, wp_isN, wp_and, wp_or, wp_not, wp_ofB, wp_ite, wp_ifE, wp_chain, wp_chL, wp_chN, wp_ixN, there_cons0, there_succ, wp_sl, wp_scrSl, outp_ok, wp_callF, wp_callIO, wp_recv, ws_seq, ws_next, ws_expr, ws_ret, ws_retN, ws_if, ws_asg, ws_post, ws_fz, ws_drop, ws_par, ws_setI, ws_aug, ws_for, ws_loop_nil, wp_lc, lc_nil, okp_ixL, okp_ixT, okp_gixL, okp_gixT, kidN_0, kidN_1L, kidN_int, kidN_bl, kidN_str, kidN_pair, kid_some, kid_int, kid_pair, kind_int, kind_bl, kind_str, kind_non, kind_pair, kind_lst, kind_lst1, at0, at1, at2, at3, ok_gNm, ok_gTp, ok_gLs0, ok_gLs1, ok_gCo, ok_gNo, ok_slot, getP_nil, setP_nil, ok_ixOf, ixN0, ixN1, acc_int, acc_pair, acc_str, acc_same, AR.acc_zero, frz_cons0, frz_none, frz_succ, ok_scrSl, ok_tupOf, ok_lstOf, wp_dgetN, wp_dnew, ws_dput, ok_dicAt, ok_keyAt, keyOf_pair, keyOf_pairD, ok_lenD, ok_sortP, ok_sumL, ok_itZipL, ok_itZipT, ok_itEn, wp_callIOT, join_i1, ok_geA, ok_geP, ok_ltA, ok_ltP, ok_append, ok_pop, join_z1, join_z2, join_z3, join_z4, ws_raise, join_pair, AR.join_nil, pick_some, pick_none, itL_some, itT_some, hold_t, hold_s, canFz_s, ok_add, ok_addS, ok_cat, ok_sub, ok_mul, ok_div, ok_mod, ok_pow, ok_lt, ok_le, ok_gt, ok_ge, ok_toB, ok_toI, ok_max2, ok_min2, ok_int, ok_intB, ok_lenL, ok_lenT, ok_lenS, ok_eqI, ok_neI, ok_eqB, ok_neB, List.getElem?_cons_zero, List.getElem?_cons_succ, List.set_cons_zero, List.set_cons_succ, List.map_cons, List.map_nil, List.length_cons, List.length_nil, List.all_cons, List.all_nil, List.length_set, List.cons_append, List.nil_append, List.replicate, Nat.zero_add, Nat.reduceAdd, Nat.reduceLT, Nat.reduceLeDiff, Nat.reduceEqDiff, decide_eq_true_eq, Bool.false_eq_true, if_false, true_and, and_true, Bool.and_true, Bool.true_and, Bool.and_self, Bool.or_true, Bool.true_or, Option.isSome_some, if_true, Option.map_some, Option.join_some]
      exact ⟨by omega, _, _, _, _, _, _, _, _, rfl⟩
  · trivial

end LW

set_option Elab.async false
set_option linter.all false
set_option maxRecDepth 100000
set_option maxHeartbeats 4000000
namespace LW
open PySem PySem.Spec PyProof.Rows L2 AR
def topS (i : Nat) : Stmt := PySem.Challenge.pw_archrow_k01_rows_made.main.body.getD i (.Pass ⟨0, 0, 0, 0⟩)
/-- built-ins that the text leaves as they are -/
structure Bl (mg : Str → Option Value) : Prop where
  int_ : mg "int" = none
  max_ : mg "max" = none
  range_ : mg "range" = none
  sorted_ : mg "sorted" = none
  min_ : mg "min" = none
  set_ : mg "set" = none
  len_ : mg "len" = none
  isinstance_ : mg "isinstance" = none
  list_ : mg "list" = none
  tuple_ : mg "tuple" = none
  zip_ : mg "zip" = none
  str_ : mg "str" = none
  bool_ : mg "bool" = none
section
variable {P : Program} {w : World} {K : PySem.W.Frag} {mg : Str → Option Value} {base : Heap}

/-! ### _law_hand -/
abbrev s__law_hand : Stmt := topS 6
abbrev N__law_hand : List Str := ["cell"]
theorem sc__law_hand : FnScope N__law_hand ["cell"] (defScope s__law_hand) := ⟨rfl, rfl, rfl, by decide +kernel, rfl, by decide +kernel, by decide +kernel⟩
theorem ok__law_hand {f : Addr} {fd : FuncData} (F : Fun K "_law_hand" "_law_hand" s__law_hand f fd) (hm : mg "_law_hand" = some (.ref f)) (Bl : Bl mg) : Callee P w K mg base "_law_hand" 1 ["cell"] none (S__law_hand) f fd := by
  refine ⟨fn_ok F sc__law_hand rfl (by decide) fun cdv A outer s H E v hr => ?_, hm, F.kp, F.binds (ps := ["cell"]) fun _ _ _ _ _ _ us hl => match us, hl with | [_], _ => rfl⟩
  exact ⟨_, (by exact svs_one (by exact sv_ret (by exact ev_lst (by exact AV.qq (by exact av_cons (by exact ev_max2 rfl (Bl.max_) (by rfl) (by exact AV.qq (by exact av_cons ev_int (by exact AV.qq (by exact av_cons (by exact EV.qq (by exact ev_bin op_sub p_sub (by exact ev_name 0) (by exact EV.qq (by exact ev_bin op_pow p_pow ev_int ev_int)))) av_nil))))) (by exact AV.qq (by exact av_cons (by exact EV.qq (by exact ev_bin op_mulW p_mulI (by exact EV.qq (by exact ev_bin op_addA p_add (by exact EV.qq (by exact ev_bin op_mod p_mod (by exact ev_name 0) ev_int)) ev_int)) (by exact ev_int1 (Bl.int_) (by rfl) (by exact AV.qq (by exact av_cons (by exact EV.qq (by exact ev_cmp (op_neK (K := K) (hu64 hr)) p_ne (by exact ev_name 0) (by exact EV.qq (by exact ev_bin op_pow p_pow ev_int ev_int)) (nomark _))) av_nil))))) av_nil)))))))⟩

/-! ### _law_take -/
abbrev s__law_take : Stmt := topS 7
abbrev N__law_take : List Str := ["hand", "many", "taken"]
theorem sc__law_take : FnScope N__law_take ["hand", "many"] (defScope s__law_take) := ⟨rfl, rfl, rfl, by decide +kernel, rfl, by decide +kernel, by decide +kernel⟩
theorem ok__law_take {f : Addr} {fd : FuncData} (F : Fun K "_law_take" "_law_take" s__law_take f fd) (hm : mg "_law_take" = some (.ref f)) (Bl : Bl mg) : Callee P w K mg base "_law_take" 1 ["hand", "many"] (some 0) (S__law_take) f fd := by
  refine ⟨fn_ok F sc__law_take rfl (by decide) fun cdv A outer s H E v hr => ?_, hm, F.kp, F.binds (ps := ["hand", "many"]) fun _ _ _ _ _ _ us hl => match us, hl with | [_, _], _ => rfl⟩
  exact ⟨_, (by exact svs_cons (by exact sv_if (by exact TV.qq (by exact tv_cmp op_gt p_gt (by exact ev_ixN (K := K) 0 ev_int) ev_int (nomark _))) (by exact svs_cons (by exact sv_set (i := 2) sc__law_take.nd rfl (Or.inl rfl) (by intro _ h; cases h) (by exact EV.qq (by exact ev_bin op_mod p_mod (by exact ev_ixN (K := K) 0 ev_int) (by exact ev_name 1)))) (by exact svs_cons (by exact sv_setI (by exact EV.qq (by exact ev_bin op_fdivW p_div (by exact ev_ixN (K := K) 0 ev_int) (by exact ev_name 1))) (rv_name 0) ev_int) (by exact svs_one (by exact sv_ret (by exact ev_move 2))))) svs_nil) (by exact svs_cons (by exact sv_setI (by exact EV.qq (by exact ev_bin op_mod p_mod (by exact EV.qq (by exact ev_bin op_mulW p_mulI (by exact ev_ixN (K := K) 0 ev_int) ev_int)) ev_int)) (rv_name 0) ev_int) (by exact svs_one (by exact sv_ret (by exact EV.qq (by exact ev_bin op_mod p_mod (by exact EV.qq (by exact ev_bin op_fdivW p_div (by exact EV.qq (by exact ev_bin op_pow p_pow (by exact EV.qq (by exact ev_bin op_addA p_add (by exact ev_ixN (K := K) 0 ev_int) ev_int)) ev_int)) ev_int)) (by exact ev_name 1)))))))⟩

/-! ### _law_arcs -/
abbrev s__law_arcs : Stmt := topS 8
abbrev N__law_arcs : List Str := ["hand", "many", "found", "piled", "point", "way"]
theorem sc__law_arcs : FnScope N__law_arcs ["hand", "many"] (defScope s__law_arcs) := ⟨rfl, rfl, rfl, by decide +kernel, rfl, by decide +kernel, by decide +kernel⟩
theorem ok__law_arcs {f : Addr} {fd : FuncData} (F : Fun K "_law_arcs" "_law_arcs" s__law_arcs f fd) (hm : mg "_law_arcs" = some (.ref f)) (Bl : Bl mg) {f__law_take : Addr} {fd__law_take : FuncData} (C__law_take : Callee P w K mg base "_law_take" 1 ["hand", "many"] (some 0) S__law_take f__law_take fd__law_take) : Callee P w K mg base "_law_arcs" 2 ["hand", "many"] (some 0) (S__law_arcs) f fd := by
  refine ⟨fn_ok F sc__law_arcs rfl (by decide) fun cdv A outer s H E v hr => ?_, hm, F.kp, F.binds (ps := ["hand", "many"]) fun _ _ _ _ _ _ us hl => match us, hl with | [_, _], _ => rfl⟩
  exact ⟨_, (by exact svs_cons (by exact sv_set (i := 2) sc__law_arcs.nd rfl (Or.inl rfl) (by intro _ h; cases h) (by exact ev_lst av_nil)) (by exact svs_cons (by exact sv_set (i := 3) sc__law_arcs.nd rfl (Or.inl rfl) (by intro _ h; cases h) (by exact ev_lst av_nil)) (by exact svs_cons (by exact sv_for (passes_of rfl) rfl (by exact iv_range1 (by rfl) (Bl.range_) (by exact AV.qq (by exact av_cons (by exact ev_name 1) av_nil))) (by exact gv_name (i := 4) sc__law_arcs.nd rfl (Or.inl rfl) (by intro _ h; cases h)) (by exact svs_cons (by exact sv_post 5 (by exact sv_set (i := 5) sc__law_arcs.nd rfl (Or.inl rfl) (by intro _ h; cases h) (by exact ev_callIOC (mg := mg) C__law_take (hr.mono (by decide)) (takes_of rfl rfl rfl rfl) (by rfl) 0 (by exact AV.qq (by exact av_cons ev_int av_nil))))) (by exact svs_cons (by exact sv_if (by exact TV.qq (by exact tv_cmp (op_eqK (K := K) (hu64 hr)) p_eq (by exact ev_name 5) ev_int (nomark _))) (by exact svs_one (by exact sv_expr (by exact ev_meth (K := K) PySem.F.slot_list_append PySem.F.type_list_append mt_append m_append (rv_name 3) (by exact AV.qq (by exact av_cons (by exact ev_name 4) av_nil))))) svs_nil) (by exact svs_one (by exact sv_if (by exact WV.tv (by exact WV.qq (by exact wv_and (by exact TV.qq (by exact tv_cmp (op_eqK (K := K) (hu64 hr)) p_eq (by exact ev_name 5) ev_int (nomark _))) (by exact wv_and1 (by exact TV.qq (by exact tv_cmp (op_neK (K := K) (hu64 hr)) p_ne (by exact ev_name 3) (by exact ev_lst av_nil) (nomark _))))))) (by exact svs_one (by exact sv_expr (by exact ev_meth (K := K) PySem.F.slot_list_append PySem.F.type_list_append mt_append m_append (rv_name 2) (by exact AV.qq (by exact av_cons (by exact ev_tup (by exact AV.qq (by exact av_cons (by exact ev_meth0 (K := K) PySem.F.slot_list_pop PySem.F.type_list_pop mt_pop m_pop (rv_name 3)) (by exact AV.qq (by exact av_cons (by exact ev_name 4) av_nil))))) av_nil))))) svs_nil))))) (by exact svs_one (by exact sv_ret (by exact ev_sortP (K := K) rfl (Bl.sorted_) (by rfl) (by exact AV.qq (by exact av_cons (by exact ev_name 2) av_nil))))))))⟩

/-! ### _law_ties -/
abbrev s__law_ties : Stmt := topS 9
abbrev N__law_ties : List Str := ["hand", "many", "way", "found", "k", "one", "other", "reach", "kinds", "point", "wide"]
theorem sc__law_ties : FnScope N__law_ties ["hand", "many"] (defScope s__law_ties) := ⟨rfl, rfl, rfl, by decide +kernel, rfl, by decide +kernel, by decide +kernel⟩
theorem ok__law_ties {f : Addr} {fd : FuncData} (F : Fun K "_law_ties" "_law_ties" s__law_ties f fd) (hm : mg "_law_ties" = some (.ref f)) (Bl : Bl mg) {f__law_take : Addr} {fd__law_take : FuncData} (C__law_take : Callee P w K mg base "_law_take" 1 ["hand", "many"] (some 0) S__law_take f__law_take fd__law_take) {f__law_arcs : Addr} {fd__law_arcs : FuncData} (C__law_arcs : Callee P w K mg base "_law_arcs" 2 ["hand", "many"] (some 0) S__law_arcs f__law_arcs fd__law_arcs) : Callee P w K mg base "_law_ties" 3 ["hand", "many"] (some 0) (S__law_ties) f fd := by
  refine ⟨fn_ok F sc__law_ties rfl (by decide) fun cdv A outer s H E v hr => ?_, hm, F.kp, F.binds (ps := ["hand", "many"]) fun _ _ _ _ _ _ us hl => match us, hl with | [_, _], _ => rfl⟩
  exact ⟨_, (by exact svs_cons (by exact sv_post 2 (by exact sv_set (i := 2) sc__law_ties.nd rfl (Or.inl rfl) (by intro _ h; cases h) (by exact ev_callIOC (mg := mg) C__law_take (hr.mono (by decide)) (takes_of rfl rfl rfl rfl) (by rfl) 0 (by exact AV.qq (by exact av_cons ev_int av_nil))))) (by exact svs_cons (by exact sv_set (i := 3) sc__law_ties.nd rfl (Or.inl rfl) (by intro _ h; cases h) (by exact ev_lst av_nil)) (by exact svs_cons (by exact sv_if (by exact WV.tv (by exact WV.qq (by exact wv_or (by exact TV.qq (by exact tv_cmp (op_eqK (K := K) (hu64 hr)) p_eq (by exact ev_name 2) ev_int (nomark _))) (by exact wv_or1 (by exact TV.qq (by exact tv_cmp (op_eqK (K := K) (hu64 hr)) p_eq (by exact ev_name 2) ev_int (nomark _))))))) (by exact svs_one (by exact sv_for (passes_of rfl) rfl (by exact iv_range1 (by rfl) (Bl.range_) (by exact AV.qq (by exact av_cons (by exact ev_callIOC (mg := mg) C__law_take (hr.mono (by decide)) (takes_of rfl rfl rfl rfl) (by rfl) 0 (by exact AV.qq (by exact av_cons (by exact EV.qq (by exact ev_ix (K := K) (by exact ev_lst (by exact AV.qq (by exact av_cons ev_int (by exact AV.qq (by exact av_cons ev_int (by exact AV.qq (by exact av_cons ev_int av_nil))))))) (by exact ev_callIOC (mg := mg) C__law_take (hr.mono (by decide)) (takes_of rfl rfl rfl rfl) (by rfl) 0 (by exact AV.qq (by exact av_cons ev_int av_nil))))) av_nil))) av_nil))) (by exact gv_name (i := 4) sc__law_ties.nd rfl (Or.inl rfl) (by intro _ h; cases h)) (by exact svs_cons (by exact sv_post 5 (by exact sv_set (i := 5) sc__law_ties.nd rfl (Or.inr rfl) (by intro _ h; cases h) (by exact ev_callIOC (mg := mg) C__law_take (hr.mono (by decide)) (takes_of rfl rfl rfl rfl) (by rfl) 0 (by exact AV.qq (by exact av_cons (by exact ev_name 1) av_nil))))) (by exact svs_cons (by exact sv_post 6 (by exact sv_set (i := 6) sc__law_ties.nd rfl (Or.inl rfl) (by intro _ h; cases h) (by exact EV.qq (by exact ev_bin op_mod p_mod (by exact EV.qq (by exact ev_bin op_addA p_add (by exact EV.qq (by exact ev_bin op_addA p_add (by exact ev_name 5) ev_int)) (by exact ev_callIOC (mg := mg) C__law_take (hr.mono (by decide)) (takes_of rfl rfl rfl rfl) (by rfl) 0 (by exact AV.qq (by exact av_cons (by exact EV.qq (by exact ev_bin op_sub p_sub (by exact ev_name 1) ev_int)) av_nil))))) (by exact ev_name 1))))) (by exact svs_one (by exact sv_expr (by exact ev_meth (K := K) PySem.F.slot_list_append PySem.F.type_list_append mt_append m_append (rv_name 3) (by exact AV.qq (by exact av_cons (by exact ev_tup (by exact AV.qq (by exact av_cons (by exact ev_min2 rfl (Bl.min_) (by rfl) (by exact AV.qq (by exact av_cons (by exact ev_name 5) (by exact AV.qq (by exact av_cons (by exact ev_name 6) av_nil))))) (by exact AV.qq (by exact av_cons (by exact ev_max2 rfl (Bl.max_) (by rfl) (by exact AV.qq (by exact av_cons (by exact ev_name 5) (by exact AV.qq (by exact av_cons (by exact ev_name 6) av_nil))))) av_nil))))) av_nil))))))))) svs_nil) (by exact svs_cons (by exact sv_post 7 (by exact sv_set (i := 7) sc__law_ties.nd rfl (Or.inl rfl) (by intro _ h; cases h) (by exact EV.qq (by exact ev_bin op_addA p_add ev_int (by exact ev_callIOC (mg := mg) C__law_take (hr.mono (by decide)) (takes_of rfl rfl rfl rfl) (by rfl) 0 (by exact AV.qq (by exact av_cons ev_int av_nil))))))) (by exact svs_cons (by exact sv_if (by exact TV.qq (by exact tv_cmp (op_eqK (K := K) (hu64 hr)) p_eq (by exact ev_name 2) ev_int (nomark _))) (by exact svs_one (by exact sv_for (passes_of rfl) rfl (by exact iv_range1 (by rfl) (Bl.range_) (by exact AV.qq (by exact av_cons (by exact ev_name 1) av_nil))) (by exact gv_name (i := 5) sc__law_ties.nd rfl (Or.inr rfl) (by intro _ h; cases h)) (by exact svs_one (by exact sv_for (passes_of rfl) rfl (by exact iv_range2 (by rfl) (Bl.range_) (by exact AV.qq (by exact av_cons (by exact EV.qq (by exact ev_bin op_addA p_add (by exact ev_name 5) ev_int)) (by exact AV.qq (by exact av_cons (by exact ev_min2 rfl (Bl.min_) (by rfl) (by exact AV.qq (by exact av_cons (by exact ev_name 1) (by exact AV.qq (by exact av_cons (by exact EV.qq (by exact ev_bin op_addA p_add (by exact EV.qq (by exact ev_bin op_addA p_add (by exact ev_name 5) ev_int)) (by exact ev_name 7))) av_nil))))) av_nil))))) (by exact gv_name (i := 6) sc__law_ties.nd rfl (Or.inl rfl) (by intro _ h; cases h)) (by exact svs_one (by exact sv_if (by exact TV.qq (by exact tv_cmp op_gt p_gt (by exact ev_callIOC (mg := mg) C__law_take (hr.mono (by decide)) (takes_of rfl rfl rfl rfl) (by rfl) 0 (by exact AV.qq (by exact av_cons ev_int av_nil))) ev_int (nomark _))) (by exact svs_one (by exact sv_expr (by exact ev_meth (K := K) PySem.F.slot_list_append PySem.F.type_list_append mt_append m_append (rv_name 3) (by exact AV.qq (by exact av_cons (by exact ev_tup (by exact AV.qq (by exact av_cons (by exact ev_name 5) (by exact AV.qq (by exact av_cons (by exact ev_name 6) av_nil))))) av_nil))))) svs_nil)))))) svs_nil) (by exact svs_cons (by exact sv_if (by exact TV.qq (by exact tv_cmp (op_eqK (K := K) (hu64 hr)) p_eq (by exact ev_name 2) ev_int (nomark _))) (by exact svs_cons (by exact sv_post 8 (by exact sv_set (i := 8) sc__law_ties.nd rfl (Or.inr rfl) (by intro _ h; cases h) (by exact EV.qq (by exact ev_lc (own := [("point", 9)]) false 0 rfl sc__law_ties.nd (by exact iv_range1 (by rfl) (Bl.range_) (by exact AV.qq (by exact av_cons (by exact ev_name 1) av_nil))) (blkOk_by (N := N__law_ties) (sc := defScope s__law_ties) (own := [("point", 9)]) (by decide +kernel)) (fun _ _ _ _ _ => (by exact gv_name (i := 9) sc__law_ties.nd rfl (Or.inl rfl) (by intro _ h; cases h))) (by decide) (fun _ _ _ _ _ => tvs_nil) (fun _ _ _ _ _ => (by exact ev_callIOC (mg := mg) C__law_take (hr.mono (by decide)) takes0 (by rfl) 0 (by exact AV.qq (by exact av_cons ev_int av_nil)))) (fun h => by cases h))))) (by exact svs_cons (by exact sv_post 10 (by exact sv_set (i := 10) sc__law_ties.nd rfl (Or.inl rfl) (by intro _ h; cases h) (by exact EV.qq (by exact ev_ix (K := K) (by exact ev_lst (by exact AV.qq (by exact av_cons (by exact ev_name 1) (by exact AV.qq (by exact av_cons ev_int av_nil))))) (by exact ev_int1 (Bl.int_) (by rfl) (by exact AV.qq (by exact av_cons (by exact EV.qq (by exact ev_cmp op_gt p_gt (by exact ev_name 1) ev_int (nomark _))) av_nil))))))) (by exact svs_one (by exact sv_for (passes_of rfl) rfl (by exact iv_range1 (by rfl) (Bl.range_) (by exact AV.qq (by exact av_cons (by exact ev_name 1) av_nil))) (by exact gv_name (i := 5) sc__law_ties.nd rfl (Or.inr rfl) (by intro _ h; cases h)) (by exact svs_one (by exact sv_expr (by exact ev_meth (K := K) PySem.F.slot_list_extend PySem.F.type_list_extend mt_extend m_extend (rv_name 3) (by exact AV.qq (by exact av_cons (by exact EV.qq (by exact ev_lc (own := [("k", 4)]) true 0 rfl sc__law_ties.nd (by exact iv_range2 (by rfl) (Bl.range_) (by exact AV.qq (by exact av_cons (by exact EV.qq (by exact ev_bin op_addA p_add (by exact ev_name 5) ev_int)) (by exact AV.qq (by exact av_cons (by exact ev_min2 rfl (Bl.min_) (by rfl) (by exact AV.qq (by exact av_cons (by exact ev_name 1) (by exact AV.qq (by exact av_cons (by exact EV.qq (by exact ev_bin op_addA p_add (by exact ev_name 5) (by exact ev_name 10))) av_nil))))) av_nil))))) (blkOk_by (N := N__law_ties) (sc := defScope s__law_ties) (own := [("k", 4)]) (by decide +kernel)) (fun _ _ _ _ _ => (by exact gv_name (i := 4) sc__law_ties.nd rfl (Or.inl rfl) (by intro _ h; cases h))) (by decide) (fun _ _ _ _ _ => (by exact tvs_one (by exact TV.qq (by exact tv_cmp (op_eqK (K := K) (hu64 hr)) p_eq (by exact EV.qq (by exact ev_bin op_addA p_add (by exact ev_ixN (K := K) 8 (by exact ev_name 5)) (by exact ev_ixN (K := K) 8 (by exact ev_name 4)))) ev_int (nomark _))))) (fun _ _ _ _ _ => (by exact ev_tup (by exact AV.qq (by exact av_cons (by exact ev_name 5) (by exact AV.qq (by exact av_cons (by exact ev_name 4) av_nil)))))) (fun _ => ⟨rfl, rfl⟩))) av_nil))))))))) svs_nil) (by exact svs_cons (by exact sv_if (by exact TV.qq (by exact tv_cmp (op_eqK (K := K) (hu64 hr)) p_eq (by exact ev_name 2) ev_int (nomark _))) (by exact svs_one (by exact sv_fz 3 (by exact sv_set (i := 3) sc__law_ties.nd rfl (Or.inl rfl) (by intro _ h; cases h) (by exact EV.qq (by exact ev_bin op_addA p_add (by exact ev_name 3) (by exact ev_callIOC (mg := mg) C__law_arcs (hr.mono (by decide)) (takes_of rfl rfl rfl rfl) (by rfl) 0 (by exact AV.qq (by exact av_cons (by exact ev_name 1) av_nil)))))))) svs_nil) (by exact svs_one (by exact sv_ret (by exact EV.qq (by exact ev_slice (K := K) (by exact ev_sortSetP (K := K) hr rfl (by rfl) (Bl.sorted_) (by rfl) (Bl.set_) (by exact AV.qq (by exact av_cons (by exact ev_name 3) av_nil))) ov_none (by exact ov_some ev_int))))))))))))⟩

/-! ### _law_row -/
abbrev s__law_row : Stmt := topS 10
abbrev N__law_row : List Str := ["hand", "many"]
theorem sc__law_row : FnScope N__law_row ["hand"] (defScope s__law_row) := ⟨rfl, rfl, rfl, by decide +kernel, rfl, by decide +kernel, by decide +kernel⟩
theorem ok__law_row {f : Addr} {fd : FuncData} (F : Fun K "_law_row" "_law_row" s__law_row f fd) (hm : mg "_law_row" = some (.ref f)) (Bl : Bl mg) {f__law_take : Addr} {fd__law_take : FuncData} (C__law_take : Callee P w K mg base "_law_take" 1 ["hand", "many"] (some 0) S__law_take f__law_take fd__law_take) {f__law_ties : Addr} {fd__law_ties : FuncData} (C__law_ties : Callee P w K mg base "_law_ties" 3 ["hand", "many"] (some 0) S__law_ties f__law_ties fd__law_ties) : Callee P w K mg base "_law_row" 4 ["hand"] (some 0) (S__law_row) f fd := by
  refine ⟨fn_ok F sc__law_row rfl (by decide) fun cdv A outer s H E v hr => ?_, hm, F.kp, F.binds (ps := ["hand"]) fun _ _ _ _ _ _ us hl => match us, hl with | [_], _ => rfl⟩
  exact ⟨_, (by exact svs_cons (by exact sv_set (i := 1) sc__law_row.nd rfl (Or.inl rfl) (by intro _ h; cases h) (by exact ev_callIOC (mg := mg) C__law_take (hr.mono (by decide)) (takes_of rfl rfl rfl rfl) (by rfl) 0 (by exact AV.qq (by exact av_cons (by exact EV.qq (by exact ev_ix (K := K) (by exact ev_lst (by exact AV.qq (by exact av_cons ev_int (by exact AV.qq (by exact av_cons ev_int (by exact AV.qq (by exact av_cons ev_int (by exact AV.qq (by exact av_cons ev_int av_nil))))))))) (by exact ev_callIOC (mg := mg) C__law_take (hr.mono (by decide)) (takes_of rfl rfl rfl rfl) (by rfl) 0 (by exact AV.qq (by exact av_cons ev_int av_nil))))) av_nil)))) (by exact svs_cons (by exact sv_if (by exact TV.qq (by exact tv_cmp op_lt p_lt (by exact ev_name 1) ev_int (nomark _))) (by exact svs_one (by exact sv_ret (by exact ev_tup (by exact AV.qq (by exact av_cons (by exact ev_move 1) (by exact AV.qq (by exact av_cons (by exact ev_lst av_nil) av_nil))))))) svs_nil) (by exact svs_one (by exact sv_ret (by exact ev_tup (by exact AV.qq (by exact av_cons (by exact ev_name 1) (by exact AV.qq (by exact av_cons (by exact ev_callIOC (mg := mg) C__law_ties (hr.mono (by decide)) (takes_of rfl rfl rfl rfl) (by rfl) 0 (by exact AV.qq (by exact av_cons (by exact ev_name 1) av_nil))) av_nil)))))))))⟩

/-! ### _law_given -/
abbrev s__law_given : Stmt := topS 12
abbrev N__law_given : List Str := ["hand", "ties", "left", "k", "found", "one", "other"]
theorem sc__law_given : FnScope N__law_given ["hand", "ties"] (defScope s__law_given) := ⟨rfl, rfl, rfl, by decide +kernel, rfl, by decide +kernel, by decide +kernel⟩
theorem ok__law_given {f : Addr} {fd : FuncData} (F : Fun K "_law_given" "_law_given" s__law_given f fd) (hm : mg "_law_given" = some (.ref f)) (Bl : Bl mg) {f__law_take : Addr} {fd__law_take : FuncData} (C__law_take : Callee P w K mg base "_law_take" 1 ["hand", "many"] (some 0) S__law_take f__law_take fd__law_take) : Callee P w K mg base "_law_given" 2 ["hand", "ties"] (some 0) (S__law_given) f fd := by
  refine ⟨fn_ok F sc__law_given rfl (by decide) fun cdv A outer s H E v hr => ?_, hm, F.kp, F.binds (ps := ["hand", "ties"]) fun _ _ _ _ _ _ us hl => match us, hl with | [_, _], _ => rfl⟩
  exact ⟨_, (by exact svs_cons (by exact sv_set (i := 2) sc__law_given.nd rfl (Or.inl rfl) (by intro _ h; cases h) (by exact EV.qq (by exact ev_bin op_addA p_add (by exact ev_name 1) (by exact EV.qq (by exact ev_lc (own := [("k", 3)]) false 0 rfl sc__law_given.nd (by exact iv_range1 (by rfl) (Bl.range_) (by exact AV.qq (by exact av_cons (by exact EV.qq (by exact ev_bin op_mulW p_mulI (by exact ev_callIOC (mg := mg) C__law_take (hr.mono (by decide)) (takes_of rfl rfl rfl rfl) (by rfl) 0 (by exact AV.qq (by exact av_cons ev_int av_nil))) (by exact ev_int1 (Bl.int_) (by rfl) (by exact AV.qq (by exact av_cons (by exact EV.qq (by exact ev_cmp (op_neK (K := K) (hu64 hr)) p_ne (by exact ev_name 1) (by exact ev_lst av_nil) (nomark _))) av_nil))))) av_nil))) (blkOk_by (N := N__law_given) (sc := defScope s__law_given) (own := [("k", 3)]) (by decide +kernel)) (fun _ _ _ _ _ => (by exact gv_name (i := 3) sc__law_given.nd rfl (Or.inl rfl) (by intro _ h; cases h))) (by decide) (fun _ _ _ _ _ => tvs_nil) (fun _ _ _ _ _ => (by exact ev_ixN (K := K) 1 (by exact ev_callIOC (mg := mg) C__law_take (hr.mono (by decide)) takes0 (by rfl) 0 (by exact AV.qq (by exact av_cons (by exact ev_len (K := K) (Bl.len_) (by rfl) (by exact AV.qq (by exact av_cons (by exact ev_name 1) av_nil))) av_nil))))) (fun h => by cases h)))))) (by exact svs_cons (by exact sv_set (i := 4) sc__law_given.nd rfl (Or.inl rfl) (by intro _ h; cases h) (by exact ev_lst av_nil)) (by exact svs_cons (by exact sv_for (passes_of rfl) rfl (by exact iv_range1 (by rfl) (Bl.range_) (by exact AV.qq (by exact av_cons (by exact ev_len (K := K) (Bl.len_) (by rfl) (by exact AV.qq (by exact av_cons (by exact ev_name 2) av_nil))) av_nil))) (by exact gv_name (i := 3) sc__law_given.nd rfl (Or.inl rfl) (by intro _ h; cases h)) (by exact svs_cons (by exact sv_post 6 (by exact sv_post 5 (by exact sv_asg (by exact ev_meth (K := K) PySem.F.slot_list_pop PySem.F.type_list_pop mt_popAt m_popAt (rv_name 2) (by exact AV.qq (by exact av_cons (by exact ev_callIOC (mg := mg) C__law_take (hr.mono (by decide)) (takes_of rfl rfl rfl rfl) (by rfl) 0 (by exact AV.qq (by exact av_cons (by exact ev_len (K := K) (Bl.len_) (by rfl) (by exact AV.qq (by exact av_cons (by exact ev_name 2) av_nil))) av_nil))) av_nil))) (by exact gv_tup (K := K) rfl (by exact gvs_cons (by exact gv_name (i := 5) sc__law_given.nd rfl (Or.inl rfl) (by intro _ h; cases h)) (by exact gvs_cons (by exact gv_name (i := 6) sc__law_given.nd rfl (Or.inl rfl) (by intro _ h; cases h)) gvs_nil)))))) (by exact svs_one (by exact sv_expr (by exact ev_meth (K := K) PySem.F.slot_list_append PySem.F.type_list_append mt_append m_append (rv_name 4) (by exact AV.qq (by exact av_cons (by exact EV.qq (by exact ev_ix (K := K) (by exact ev_lst (by exact AV.qq (by exact av_cons (by exact ev_tup (by exact AV.qq (by exact av_cons (by exact ev_name 5) (by exact AV.qq (by exact av_cons (by exact ev_name 6) av_nil))))) (by exact AV.qq (by exact av_cons (by exact ev_tup (by exact AV.qq (by exact av_cons (by exact ev_name 6) (by exact AV.qq (by exact av_cons (by exact ev_name 5) av_nil))))) av_nil))))) (by exact ev_callIOC (mg := mg) C__law_take (hr.mono (by decide)) (takes_of rfl rfl rfl rfl) (by rfl) 0 (by exact AV.qq (by exact av_cons ev_int av_nil))))) av_nil))))))) (by exact svs_one (by exact sv_ret (by exact ev_move 4))))))⟩

/-! ### row_of -/
abbrev s_row_of : Stmt := topS 4
abbrev N_row_of : List Str := ["many", "ties", "found", "one", "other"]
theorem sc_row_of : FnScope N_row_of ["many", "ties"] (defScope s_row_of) := ⟨rfl, rfl, rfl, by decide +kernel, rfl, by decide +kernel, by decide +kernel⟩
theorem ok_row_of {f : Addr} {fd : FuncData} (F : Fun K "row_of" "row_of" s_row_of f fd) (hm : mg "row_of" = some (.ref f)) (Bl : Bl mg) {c_NoRow : Addr} (E_NoRow : ExcC K mg "NoRow" c_NoRow) : Callee P w K mg base "row_of" 1 ["many", "ties"] none (S_row_of) f fd := by
  refine ⟨fn_ok F sc_row_of rfl (by decide) fun cdv A outer s H E v hr => ?_, hm, F.kp, F.binds (ps := ["many", "ties"]) fun _ _ _ _ _ _ us hl => match us, hl with | [_, _], _ => rfl⟩
  exact ⟨_, (by exact svs_cons (by exact sv_if (by exact TV.qq (by exact tv_cmp op_lt p_lt (by exact ev_name 0) ev_int (nomark _))) (by exact svs_one (by exact sv_raiseC E_NoRow rfl (takes_of rfl rfl rfl rfl) (by rfl))) svs_nil) (by exact svs_cons (by exact sv_set (i := 2) sc_row_of.nd rfl (Or.inl rfl) (by intro _ h; cases h) (by exact ev_lst av_nil)) (by exact svs_cons (by exact sv_for (passes_of rfl) rfl (by exact iv_list (K := K) (by exact ev_name 1)) (by exact gv_tup (K := K) rfl (by exact gvs_cons (by exact gv_name (i := 3) sc_row_of.nd rfl (Or.inl rfl) (by intro _ h; cases h)) (by exact gvs_cons (by exact gv_name (i := 4) sc_row_of.nd rfl (Or.inl rfl) (by intro _ h; cases h)) gvs_nil))) (by exact svs_cons (by exact sv_if (by exact WV.tv (by exact WV.qq (by exact wv_or (by exact TV.qq (by exact tv_cmp (op_eqK (K := K) (hu64 hr)) p_eq (by exact ev_name 3) (by exact ev_name 4) (nomark _))) (by exact WV.qq (by exact wv_or (by exact tv_not (by exact TV.qq (by exact tv_chain ev_int (by exact CV.qq (by exact cv_next (c := fun i j => decide (i ≤ j)) op_le (by exact ev_name 3) (by exact cv_last (c := fun i j => decide (i < j)) op_lt (by exact ev_name 0))))))) (by exact wv_or1 (by exact tv_not (by exact TV.qq (by exact tv_chain ev_int (by exact CV.qq (by exact cv_next (c := fun i j => decide (i ≤ j)) op_le (by exact ev_name 4) (by exact cv_last (c := fun i j => decide (i < j)) op_lt (by exact ev_name 0))))))))))))) (by exact svs_one (by exact sv_raiseC E_NoRow rfl (takes_of rfl rfl rfl rfl) (by rfl))) svs_nil) (by exact svs_one (by exact sv_expr (by exact ev_meth (K := K) PySem.F.slot_list_append PySem.F.type_list_append mt_append m_append (rv_name 2) (by exact AV.qq (by exact av_cons (by exact ev_tup (by exact AV.qq (by exact av_cons (by exact ev_min2 rfl (Bl.min_) (by rfl) (by exact AV.qq (by exact av_cons (by exact ev_name 3) (by exact AV.qq (by exact av_cons (by exact ev_name 4) av_nil))))) (by exact AV.qq (by exact av_cons (by exact ev_max2 rfl (Bl.max_) (by rfl) (by exact AV.qq (by exact av_cons (by exact ev_name 3) (by exact AV.qq (by exact av_cons (by exact ev_name 4) av_nil))))) av_nil))))) av_nil))))))) (by exact svs_one (by exact sv_ret (by exact ev_tup (by exact AV.qq (by exact av_cons (by exact ev_move 0) (by exact AV.qq (by exact av_cons (by exact ev_sortSetP (K := K) hr rfl (by rfl) (Bl.sorted_) (by rfl) (Bl.set_) (by exact AV.qq (by exact av_cons (by exact ev_name 2) av_nil))) av_nil))))))))))⟩

/-! ### _law_same -/
abbrev s__law_same : Stmt := topS 11
abbrev N__law_same : List Str := ["found", "due", "one", "other"]
theorem sc__law_same : FnScope N__law_same ["found", "due"] (defScope s__law_same) := ⟨rfl, rfl, rfl, by decide +kernel, rfl, by decide +kernel, by decide +kernel⟩
theorem ok__law_same {f : Addr} {fd : FuncData} (F : Fun K "_law_same" "_law_same" s__law_same f fd) (hm : mg "_law_same" = some (.ref f)) (Bl : Bl mg) : ∀ n, n ≤ 4 → Callee P w K mg base "_law_same" (1 + n) ["found", "due"] none (S__law_same n) f fd
  | 0, _ => ⟨fn_bad, hm, F.kp, F.binds (ps := ["found", "due"]) fun _ _ _ _ _ _ us hl => match us, hl with | [_, _], _ => rfl⟩
  | n + 1, hn => by
    have Cr := ok__law_same F hm Bl  n (by omega)
    refine ⟨fn_ok (k := 1 + n) F sc__law_same rfl (by decide) fun cdv A outer s H E v hr => ?_, hm, F.kp, F.binds (ps := ["found", "due"]) fun _ _ _ _ _ _ us hl => match us, hl with | [_, _], _ => rfl⟩
    have hrr : Room (1 + n) _ := hr
    exact ⟨_, (by exact svs_cons (by exact sv_if (by exact tv_val (by exact ev_isi2 (K := K) okT_list okT_tuple (by exact ev_name 1) (by rfl) (Bl.isinstance_) (by rfl) (Bl.list_) (by decide +kernel) (by rfl) (Bl.tuple_) (by decide +kernel))) (by exact svs_cons (by exact sv_if (by exact WV.tv (by exact WV.qq (by exact wv_or (by exact tv_not (by exact tv_val (by exact ev_isi2 (K := K) okT_list okT_tuple (by exact ev_name 0) (by rfl) (Bl.isinstance_) (by rfl) (Bl.list_) (by decide +kernel) (by rfl) (Bl.tuple_) (by decide +kernel)))) (by exact wv_or1 (by exact TV.qq (by exact tv_cmp (op_neK (K := K) (hu64 hr)) p_ne (by exact ev_isi (K := K) okT_list (by exact ev_name 0) (by rfl) (Bl.isinstance_) (by rfl) (Bl.list_) (by decide +kernel)) (by exact ev_isi (K := K) okT_list (by exact ev_name 1) (by rfl) (Bl.isinstance_) (by rfl) (Bl.list_) (by decide +kernel)) (nomark _))))))) (by exact svs_one (by exact sv_ret ev_bl)) svs_nil) (by exact svs_cons (by exact sv_if (by exact TV.qq (by exact tv_cmp (op_neK (K := K) (hu64 hr)) p_ne (by exact ev_len (K := K) (Bl.len_) (by rfl) (by exact AV.qq (by exact av_cons (by exact ev_name 0) av_nil))) (by exact ev_len (K := K) (Bl.len_) (by rfl) (by exact AV.qq (by exact av_cons (by exact ev_name 1) av_nil))) (nomark _))) (by exact svs_one (by exact sv_ret ev_bl)) svs_nil) (by exact svs_one (by exact sv_ret (by exact EV.qq (by exact ev_cmp (op_eqK (K := K) (hu64 hr)) p_eq (by exact EV.qq (by exact ev_lc (own := [("one", 2), ("other", 3)]) true 0 rfl sc__law_same.nd (by exact iv_zip (K := K) (by rfl) (Bl.zip_) (by exact AV.qq (by exact av_cons (by exact ev_name 0) (by exact AV.qq (by exact av_cons (by exact ev_name 1) av_nil))))) (blkOk_by (N := N__law_same) (sc := defScope s__law_same) (own := [("one", 2), ("other", 3)]) (by decide +kernel)) (fun _ _ _ _ _ => (by exact gv_tup (K := K) rfl (by exact gvs_cons (by exact gv_name (i := 2) sc__law_same.nd rfl (Or.inl rfl) (by intro _ h; cases h)) (by exact gvs_cons (by exact gv_name (i := 3) sc__law_same.nd rfl (Or.inl rfl) (by intro _ h; cases h)) gvs_nil)))) (by decide) (fun _ _ _ _ _ => (by exact tvs_one (by exact tv_not (by exact tv_val (by exact ev_callC (mg := mg) Cr hrr takes0 (by rfl) (by exact AV.qq (by exact av_cons (by exact ev_name 2) (by exact AV.qq (by exact av_cons (by exact ev_name 3) av_nil))))))))) (fun _ _ _ _ _ => ev_int) (fun _ => ⟨rfl, rfl⟩))) (by exact ev_lst av_nil) (nomark _))))))) svs_nil) (by exact svs_cons (by exact sv_if (by exact tv_val (by exact ev_isi (K := K) okT_str (by exact ev_name 1) (by rfl) (Bl.isinstance_) (by rfl) (Bl.str_) (by decide +kernel))) (by exact svs_one (by exact sv_ret (by exact EV.qq (by exact ev_and (by exact ev_isi (K := K) okT_str (by exact ev_name 0) (by rfl) (Bl.isinstance_) (by rfl) (Bl.str_) (by decide +kernel)) (by exact ev_one (by exact EV.qq (by exact ev_cmp (op_eqK (K := K) (hu64 hr)) p_eq (by exact ev_name 0) (by exact ev_name 1) (nomark _)))))))) svs_nil) (by exact svs_cons (by exact sv_if (by exact tv_isN (by exact ev_name 1)) (by exact svs_one (by exact sv_ret (by exact ev_isN (by exact ev_name 0)))) svs_nil) (by exact svs_one (by exact sv_ret (by exact EV.qq (by exact ev_and (by exact ev_isi (K := K) okT_int (by exact ev_name 0) (by rfl) (Bl.isinstance_) (by rfl) (Bl.int_) (by decide +kernel)) (by exact EV.qq (by exact ev_and (by exact ev_not (by exact ev_isi (K := K) okT_bool (by exact ev_name 0) (by rfl) (Bl.isinstance_) (by rfl) (Bl.bool_) (by decide +kernel))) (by exact ev_one (by exact EV.qq (by exact ev_cmp (op_eqK (K := K) (hu64 hr)) p_eq (by exact ev_name 0) (by exact ev_name 1) (nomark _)))))))))))))⟩

/-! ### law -/
abbrev s_law : Stmt := topS 13
abbrev N_law : List Str := ["script", "cell", "hand", "many", "ties", "given", "handed", "again", "found"]
theorem sc_law : FnScope N_law ["script"] (defScope s_law) := ⟨rfl, rfl, rfl, by decide +kernel, rfl, by decide +kernel, by decide +kernel⟩
theorem ok_law {f : Addr} {fd : FuncData} (F : Fun K "law" "law" s_law f fd) (hm : mg "law" = some (.ref f)) (Bl : Bl mg) {f__law_hand : Addr} {fd__law_hand : FuncData} (C__law_hand : Callee P w K mg base "_law_hand" 1 ["cell"] none S__law_hand f__law_hand fd__law_hand) {f__law_row : Addr} {fd__law_row : FuncData} (C__law_row : Callee P w K mg base "_law_row" 4 ["hand"] (some 0) S__law_row f__law_row fd__law_row) {f__law_given : Addr} {fd__law_given : FuncData} (C__law_given : Callee P w K mg base "_law_given" 2 ["hand", "ties"] (some 0) S__law_given f__law_given fd__law_given) {f_row_of : Addr} {fd_row_of : FuncData} (C_row_of : Callee P w K mg base "row_of" 1 ["many", "ties"] none S_row_of f_row_of fd_row_of) {f__law_same : Addr} {fd__law_same : FuncData} (C__law_same : Callee P w K mg base "_law_same" 5 ["found", "due"] none (S__law_same 4) f__law_same fd__law_same) : Callee P w K mg base "law" 6 ["script"] none (S_law K) f fd := by
  refine ⟨fn_ok F sc_law rfl (by decide) fun cdv A outer s H E v hr => ?_, hm, F.kp, F.binds (ps := ["script"]) fun _ _ _ _ _ _ us hl => match us, hl with | [_], _ => rfl⟩
  exact ⟨_, (by exact svs_cons (by exact sv_for (passes_of rfl) rfl (by exact iv_list (K := K) (by exact EV.qq (by exact ev_bin op_addA p_add (by exact ev_lst (by exact AV.qq (by exact av_cons (by exact EV.qq (by exact ev_bin op_pow p_pow ev_int ev_int)) av_nil))) (by exact ev_scrSl (K := K) (by exact ev_name 0) (by exact ov_some ev_int))))) (by exact gv_name (i := 1) sc_law.nd rfl (Or.inl rfl) (by intro _ h; cases h)) (by exact svs_cons (by exact sv_set (i := 2) sc_law.nd rfl (Or.inl rfl) (by intro _ h; cases h) (by exact ev_callC (mg := mg) C__law_hand (hr.mono (by decide)) (takes_of rfl rfl rfl rfl) (by rfl) (by exact AV.qq (by exact av_cons (by exact ev_name 1) av_nil)))) (by exact svs_cons (by exact sv_post 4 (by exact sv_post 3 (by exact sv_asg (by exact ev_callIOC (mg := mg) C__law_row (hr.mono (by decide)) (takes_of rfl rfl rfl rfl) (by rfl) 2 av_nil) (by exact gv_tup (K := K) rfl (by exact gvs_cons (by exact gv_name (i := 3) sc_law.nd rfl (Or.inl rfl) (by intro _ h; cases h)) (by exact gvs_cons (by exact gv_name (i := 4) sc_law.nd rfl (Or.inl rfl) (by intro _ h; cases h)) gvs_nil)))))) (by exact svs_cons (by exact sv_post 5 (by exact sv_set (i := 5) sc_law.nd rfl (Or.inl rfl) (by intro _ h; cases h) (by exact ev_callIOC (mg := mg) C__law_given (hr.mono (by decide)) (takes_of rfl rfl rfl rfl) (by rfl) 2 (by exact AV.qq (by exact av_cons (by exact ev_name 4) av_nil))))) (by exact svs_cons (by exact sv_set (i := 6) sc_law.nd rfl (Or.inl rfl) (by intro _ h; cases h) (by exact ev_lstOf (K := K) (Bl.list_) (by rfl) (by exact AV.qq (by exact av_cons (by exact ev_name 5) av_nil)))) (by exact svs_cons (by exact sv_for (passes_of rfl) rfl (by exact iv_range1 (by rfl) (Bl.range_) (by exact AV.qq (by exact av_cons ev_int av_nil))) (by exact gv_name (i := 7) sc_law.nd rfl (Or.inl rfl) (by intro _ h; cases h)) (by exact svs_cons (by exact sv_set (i := 8) sc_law.nd rfl (Or.inl rfl) (by intro _ h; cases h) (by exact ev_callC (mg := mg) C_row_of (hr.mono (by decide)) (takes_of rfl rfl rfl rfl) (by rfl) (by exact AV.qq (by exact av_cons (by exact ev_name 3) (by exact AV.qq (by exact av_cons (by exact ev_name 6) av_nil)))))) (by exact svs_cons (by exact sv_if (by exact WV.tv (by exact WV.qq (by exact wv_or (by exact tv_not (by exact tv_val (by exact ev_callC (mg := mg) C__law_same (hr.mono (by decide)) (takes_of rfl rfl rfl rfl) (by rfl) (by exact AV.qq (by exact av_cons (by exact ev_name 8) (by exact AV.qq (by exact av_cons (by exact ev_tup (by exact AV.qq (by exact av_cons (by exact ev_name 3) (by exact AV.qq (by exact av_cons (by exact ev_name 4) av_nil))))) av_nil))))))) (by exact wv_or1 (by exact TV.qq (by exact tv_cmp (op_neK (K := K) (hu64 hr)) p_ne (by exact ev_name 6) (by exact ev_name 5) (nomark _))))))) (by exact svs_one (by exact sv_ret ev_bl)) svs_nil) (by exact svs_one (by exact sv_expr (by exact ev_meth (K := K) PySem.F.slot_list_append PySem.F.type_list_append mt_append m_append (by exact rv_ix (K := K) (rv_name 8) ev_int) (by exact AV.qq (by exact av_cons (by exact ev_tup (by exact AV.qq (by exact av_cons ev_int (by exact AV.qq (by exact av_cons ev_int av_nil))))) av_nil)))))))) (by exact svs_cons (by exact sv_set (i := 8) sc_law.nd rfl (Or.inl rfl) (by intro _ h; cases h) (by exact ev_callC (mg := mg) C_row_of (hr.mono (by decide)) (takes_of rfl rfl rfl rfl) (by rfl) (by exact AV.qq (by exact av_cons (by exact ev_name 3) (by exact AV.qq (by exact av_cons (by exact ev_name 6) av_nil)))))) (by exact svs_cons (by exact sv_expr (by exact ev_meth (K := K) PySem.F.slot_list_append PySem.F.type_list_append mt_append m_append (rv_name 6) (by exact AV.qq (by exact av_cons (by exact ev_tup (by exact AV.qq (by exact av_cons ev_int (by exact AV.qq (by exact av_cons ev_int av_nil))))) av_nil)))) (by exact svs_one (by exact sv_if (by exact TV.qq (by exact tv_cmp (op_neK (K := K) (hu64 hr)) p_ne (by exact ev_name 8) (by exact ev_tup (by exact AV.qq (by exact av_cons (by exact ev_name 3) (by exact AV.qq (by exact av_cons (by exact ev_name 4) av_nil))))) (nomark _))) (by exact svs_one (by exact sv_ret ev_bl)) svs_nil)))))))))) (by exact svs_one (by exact sv_ret ev_bl)))⟩
end
end LW

set_option Elab.async false
set_option linter.all false
set_option maxRecDepth 100000
namespace LW
open PySem PySem.Spec PyProof.Rows L2 AR
/-- the law's promise -/
def spLaw (K : PySem.W.Frag) : Sp := fun vs H Q _ => ∃ (a : Addr) (ns : List Int), vs = [.ref a] ∧ SqL K H a (ns.map V.int) ∧ ns.length ≤ 63 ∧ Only H ∧ ∀ H', Q (.bl true) H'
theorem all_mk {l : PySem.W.OpenLaw} {w : World} {K : PySem.W.Frag} {h : Heap} {mg : Str → Option Value} {fa : Addr} (X : K.In h) (G : h.Ns mainGlobals mg) (hfa : mg "law" = some (.ref fa))
    {f__law_hand : Addr} {od__law_hand an__law_hand : Option Addr} {sl__law_hand : Array (Option Value)} {oc__law_hand kV__law_hand dc__law_hand pm__law_hand cd__law_hand ct__law_hand : Value} (a__law_hand : PySem.W.nsIn K mainGlobals "_law_hand" = some (some (.ref f__law_hand))) (l__law_hand : K.lookup f__law_hand = some ⟨oc__law_hand, od__law_hand, .func (PySem.W.fnOf "_law_hand" "_law_hand" (defArgs s__law_hand) (defBody s__law_hand) (defScope s__law_hand) .none kV__law_hand dc__law_hand pm__law_hand an__law_hand cd__law_hand ct__law_hand), sl__law_hand⟩) (c__law_hand : PySem.W.codeIn K cd__law_hand "_law_hand" = true) (k__law_hand : PySem.W.keepIn K (.ref f__law_hand) = true)
    {f__law_take : Addr} {od__law_take an__law_take : Option Addr} {sl__law_take : Array (Option Value)} {oc__law_take kV__law_take dc__law_take pm__law_take cd__law_take ct__law_take : Value} (a__law_take : PySem.W.nsIn K mainGlobals "_law_take" = some (some (.ref f__law_take))) (l__law_take : K.lookup f__law_take = some ⟨oc__law_take, od__law_take, .func (PySem.W.fnOf "_law_take" "_law_take" (defArgs s__law_take) (defBody s__law_take) (defScope s__law_take) .none kV__law_take dc__law_take pm__law_take an__law_take cd__law_take ct__law_take), sl__law_take⟩) (c__law_take : PySem.W.codeIn K cd__law_take "_law_take" = true) (k__law_take : PySem.W.keepIn K (.ref f__law_take) = true)
    {f__law_arcs : Addr} {od__law_arcs an__law_arcs : Option Addr} {sl__law_arcs : Array (Option Value)} {oc__law_arcs kV__law_arcs dc__law_arcs pm__law_arcs cd__law_arcs ct__law_arcs : Value} (a__law_arcs : PySem.W.nsIn K mainGlobals "_law_arcs" = some (some (.ref f__law_arcs))) (l__law_arcs : K.lookup f__law_arcs = some ⟨oc__law_arcs, od__law_arcs, .func (PySem.W.fnOf "_law_arcs" "_law_arcs" (defArgs s__law_arcs) (defBody s__law_arcs) (defScope s__law_arcs) .none kV__law_arcs dc__law_arcs pm__law_arcs an__law_arcs cd__law_arcs ct__law_arcs), sl__law_arcs⟩) (c__law_arcs : PySem.W.codeIn K cd__law_arcs "_law_arcs" = true) (k__law_arcs : PySem.W.keepIn K (.ref f__law_arcs) = true)
    {f__law_ties : Addr} {od__law_ties an__law_ties : Option Addr} {sl__law_ties : Array (Option Value)} {oc__law_ties kV__law_ties dc__law_ties pm__law_ties cd__law_ties ct__law_ties : Value} (a__law_ties : PySem.W.nsIn K mainGlobals "_law_ties" = some (some (.ref f__law_ties))) (l__law_ties : K.lookup f__law_ties = some ⟨oc__law_ties, od__law_ties, .func (PySem.W.fnOf "_law_ties" "_law_ties" (defArgs s__law_ties) (defBody s__law_ties) (defScope s__law_ties) .none kV__law_ties dc__law_ties pm__law_ties an__law_ties cd__law_ties ct__law_ties), sl__law_ties⟩) (c__law_ties : PySem.W.codeIn K cd__law_ties "_law_ties" = true) (k__law_ties : PySem.W.keepIn K (.ref f__law_ties) = true)
    {f__law_row : Addr} {od__law_row an__law_row : Option Addr} {sl__law_row : Array (Option Value)} {oc__law_row kV__law_row dc__law_row pm__law_row cd__law_row ct__law_row : Value} (a__law_row : PySem.W.nsIn K mainGlobals "_law_row" = some (some (.ref f__law_row))) (l__law_row : K.lookup f__law_row = some ⟨oc__law_row, od__law_row, .func (PySem.W.fnOf "_law_row" "_law_row" (defArgs s__law_row) (defBody s__law_row) (defScope s__law_row) .none kV__law_row dc__law_row pm__law_row an__law_row cd__law_row ct__law_row), sl__law_row⟩) (c__law_row : PySem.W.codeIn K cd__law_row "_law_row" = true) (k__law_row : PySem.W.keepIn K (.ref f__law_row) = true)
    {f__law_given : Addr} {od__law_given an__law_given : Option Addr} {sl__law_given : Array (Option Value)} {oc__law_given kV__law_given dc__law_given pm__law_given cd__law_given ct__law_given : Value} (a__law_given : PySem.W.nsIn K mainGlobals "_law_given" = some (some (.ref f__law_given))) (l__law_given : K.lookup f__law_given = some ⟨oc__law_given, od__law_given, .func (PySem.W.fnOf "_law_given" "_law_given" (defArgs s__law_given) (defBody s__law_given) (defScope s__law_given) .none kV__law_given dc__law_given pm__law_given an__law_given cd__law_given ct__law_given), sl__law_given⟩) (c__law_given : PySem.W.codeIn K cd__law_given "_law_given" = true) (k__law_given : PySem.W.keepIn K (.ref f__law_given) = true)
    {f_row_of : Addr} {od_row_of an_row_of : Option Addr} {sl_row_of : Array (Option Value)} {oc_row_of kV_row_of dc_row_of pm_row_of cd_row_of ct_row_of : Value} (a_row_of : PySem.W.nsIn K mainGlobals "row_of" = some (some (.ref f_row_of))) (l_row_of : K.lookup f_row_of = some ⟨oc_row_of, od_row_of, .func (PySem.W.fnOf "row_of" "row_of" (defArgs s_row_of) (defBody s_row_of) (defScope s_row_of) .none kV_row_of dc_row_of pm_row_of an_row_of cd_row_of ct_row_of), sl_row_of⟩) (c_row_of : PySem.W.codeIn K cd_row_of "row_of" = true) (k_row_of : PySem.W.keepIn K (.ref f_row_of) = true)
    {f__law_same : Addr} {od__law_same an__law_same : Option Addr} {sl__law_same : Array (Option Value)} {oc__law_same kV__law_same dc__law_same pm__law_same cd__law_same ct__law_same : Value} (a__law_same : PySem.W.nsIn K mainGlobals "_law_same" = some (some (.ref f__law_same))) (l__law_same : K.lookup f__law_same = some ⟨oc__law_same, od__law_same, .func (PySem.W.fnOf "_law_same" "_law_same" (defArgs s__law_same) (defBody s__law_same) (defScope s__law_same) .none kV__law_same dc__law_same pm__law_same an__law_same cd__law_same ct__law_same), sl__law_same⟩) (c__law_same : PySem.W.codeIn K cd__law_same "_law_same" = true) (k__law_same : PySem.W.keepIn K (.ref f__law_same) = true)
    {f_law : Addr} {od_law an_law : Option Addr} {sl_law : Array (Option Value)} {oc_law kV_law dc_law pm_law cd_law ct_law : Value} (a_law : PySem.W.nsIn K mainGlobals "law" = some (some (.ref f_law))) (l_law : K.lookup f_law = some ⟨oc_law, od_law, .func (PySem.W.fnOf "law" "law" (defArgs s_law) (defBody s_law) (defScope s_law) .none kV_law dc_law pm_law an_law cd_law ct_law), sl_law⟩) (c_law : PySem.W.codeIn K cd_law "law" = true) (k_law : PySem.W.keepIn K (.ref f_law) = true)
    {x_NoRow : Addr} (xa_NoRow : PySem.W.nsIn K mainGlobals "NoRow" = some (some (.ref x_NoRow))) (xe_NoRow : PySem.W.excIn K x_NoRow [.type "ValueError", .type "Exception", .type "BaseException", .type "object"] "ValueError.__new__" = true) (xk_NoRow : PySem.W.keepIn K (.ref x_NoRow) = true) (xs_NoRow : PySem.W.subIn K (.ref x_NoRow) (.type "BaseException") = some true) (xt_NoRow : PySem.W.typeIn K (.ref x_NoRow) = some (.type "type")) (z_int : PySem.W.nsIn K mainGlobals "int" = some none) (z_max : PySem.W.nsIn K mainGlobals "max" = some none) (z_range : PySem.W.nsIn K mainGlobals "range" = some none) (z_sorted : PySem.W.nsIn K mainGlobals "sorted" = some none) (z_min : PySem.W.nsIn K mainGlobals "min" = some none) (z_set : PySem.W.nsIn K mainGlobals "set" = some none) (z_len : PySem.W.nsIn K mainGlobals "len" = some none) (z_isinstance : PySem.W.nsIn K mainGlobals "isinstance" = some none) (z_list : PySem.W.nsIn K mainGlobals "list" = some none) (z_tuple : PySem.W.nsIn K mainGlobals "tuple" = some none) (z_zip : PySem.W.nsIn K mainGlobals "zip" = some none) (z_str : PySem.W.nsIn K mainGlobals "str" = some none) (z_bool : PySem.W.nsIn K mainGlobals "bool" = some none) :
    ∃ fd : FuncData, (∀ (s : Shared) (v : Value), BindsTo s fd ⟨[v], []⟩ [("script", v)]) ∧ ∀ base : Heap, K.In base → base.Ns mainGlobals mg → FnOk l.prog w K mg base (L2.CX l.prog w) 6 fa fd ["script"] (spLaw K) := by
  have e := hfa.symm.trans (PySem.W.mg_of X G a_law)
  cases e
  have bl : Bl mg := ⟨PySem.W.mg_none_of X G z_int, PySem.W.mg_none_of X G z_max, PySem.W.mg_none_of X G z_range, PySem.W.mg_none_of X G z_sorted, PySem.W.mg_none_of X G z_min, PySem.W.mg_none_of X G z_set, PySem.W.mg_none_of X G z_len, PySem.W.mg_none_of X G z_isinstance, PySem.W.mg_none_of X G z_list, PySem.W.mg_none_of X G z_tuple, PySem.W.mg_none_of X G z_zip, PySem.W.mg_none_of X G z_str, PySem.W.mg_none_of X G z_bool⟩
  have e_NoRow : ExcC K mg "NoRow" x_NoRow := ⟨xe_NoRow, PySem.W.mg_of X G xa_NoRow, xk_NoRow, xs_NoRow, xt_NoRow⟩
  refine ⟨PySem.W.fnOf "law" "law" (defArgs s_law) (defBody s_law) (defScope s_law) .none kV_law dc_law pm_law an_law cd_law ct_law, fun s v => .of_eq rfl, fun base _ _ => ?_⟩
  have C__law_hand := ok__law_hand (P := l.prog) (w := w) (base := base) (fun_mk (st := s__law_hand) l__law_hand c__law_hand k__law_hand) (PySem.W.mg_of X G a__law_hand) bl 
  have C__law_take := ok__law_take (P := l.prog) (w := w) (base := base) (fun_mk (st := s__law_take) l__law_take c__law_take k__law_take) (PySem.W.mg_of X G a__law_take) bl 
  have C__law_arcs := ok__law_arcs (P := l.prog) (w := w) (base := base) (fun_mk (st := s__law_arcs) l__law_arcs c__law_arcs k__law_arcs) (PySem.W.mg_of X G a__law_arcs) bl C__law_take
  have C__law_ties := ok__law_ties (P := l.prog) (w := w) (base := base) (fun_mk (st := s__law_ties) l__law_ties c__law_ties k__law_ties) (PySem.W.mg_of X G a__law_ties) bl C__law_take C__law_arcs
  have C__law_row := ok__law_row (P := l.prog) (w := w) (base := base) (fun_mk (st := s__law_row) l__law_row c__law_row k__law_row) (PySem.W.mg_of X G a__law_row) bl C__law_take C__law_ties
  have C__law_given := ok__law_given (P := l.prog) (w := w) (base := base) (fun_mk (st := s__law_given) l__law_given c__law_given k__law_given) (PySem.W.mg_of X G a__law_given) bl C__law_take
  have C_row_of := ok_row_of (P := l.prog) (w := w) (base := base) (fun_mk (st := s_row_of) l_row_of c_row_of k_row_of) (PySem.W.mg_of X G a_row_of) bl e_NoRow
  have C__law_same := ok__law_same (P := l.prog) (w := w) (base := base) (fun_mk (st := s__law_same) l__law_same c__law_same k__law_same) (PySem.W.mg_of X G a__law_same) bl  4 (Nat.le_refl _)
  have C_law := ok_law (P := l.prog) (w := w) (base := base) (fun_mk (st := s_law) l_law c_law k_law) (PySem.W.mg_of X G a_law) bl C__law_hand C__law_row C__law_given C_row_of C__law_same
  refine C_law.ok.imp fun vs H Q E ⟨a, ns, e, hS, hl, hO, q⟩ => ?_
  exact law_sp e hS hO q (law_holds K ns hl)
end LW
open PySem PySem.W PyProof.Rows
set_option maxHeartbeats 0 in
theorem PySem.Challenge.cw_archrow_k01_rows_made_holds : PySem.Challenge.rw_archrow_k01_rows_made.Holds := by
  w_on; o_law; k_head; (case hw => w_witness2)
  k_fill
  refine L2.walk_of (l := PySem.Challenge.rw_archrow_k01_rows_made) (n := 63) (k := 6) (x := "script") (CX := fun w => L2.CX PySem.Challenge.rw_archrow_k01_rows_made.prog w) (sp := fun w => LW.spLaw _) rfl (by decide) rfl ⟨rfl, by decide, by decide⟩ (fun w h Y => PySem.W.kIn_of Y) ?F (fun _ _ a ns hl hO hS => ⟨a, ns, rfl, hS, hl, hO, fun _ => rfl⟩) (fun _ _ _ _ _ h => AR.cx_none h)
  case F =>
    intro w mg fa h KX G hmg
    refine' LW.all_mk KX G hmg ?a__law_hand ?l__law_hand ?c__law_hand ?k__law_hand ?a__law_take ?l__law_take ?c__law_take ?k__law_take ?a__law_arcs ?l__law_arcs ?c__law_arcs ?k__law_arcs ?a__law_ties ?l__law_ties ?c__law_ties ?k__law_ties ?a__law_row ?l__law_row ?c__law_row ?k__law_row ?a__law_given ?l__law_given ?c__law_given ?k__law_given ?a_row_of ?l_row_of ?c_row_of ?k_row_of ?a__law_same ?l__law_same ?c__law_same ?k__law_same ?a_law ?l_law ?c_law ?k_law ?xa_NoRow ?xe_NoRow ?xk_NoRow ?xs_NoRow ?xt_NoRow ?z_int ?z_max ?z_range ?z_sorted ?z_min ?z_set ?z_len ?z_isinstance ?z_list ?z_tuple ?z_zip ?z_str ?z_bool
    (case a__law_hand => k_is)
    (case l__law_hand => k_is)
    (case c__law_hand => k_is)
    (case k__law_hand => k_is)
    (case a__law_take => k_is)
    (case l__law_take => k_is)
    (case c__law_take => k_is)
    (case k__law_take => k_is)
    (case a__law_arcs => k_is)
    (case l__law_arcs => k_is)
    (case c__law_arcs => k_is)
    (case k__law_arcs => k_is)
    (case a__law_ties => k_is)
    (case l__law_ties => k_is)
    (case c__law_ties => k_is)
    (case k__law_ties => k_is)
    (case a__law_row => k_is)
    (case l__law_row => k_is)
    (case c__law_row => k_is)
    (case k__law_row => k_is)
    (case a__law_given => k_is)
    (case l__law_given => k_is)
    (case c__law_given => k_is)
    (case k__law_given => k_is)
    (case a_row_of => k_is)
    (case l_row_of => k_is)
    (case c_row_of => k_is)
    (case k_row_of => k_is)
    (case a__law_same => k_is)
    (case l__law_same => k_is)
    (case c__law_same => k_is)
    (case k__law_same => k_is)
    (case a_law => k_is)
    (case l_law => k_is)
    (case c_law => k_is)
    (case k_law => k_is)
    (case xa_NoRow => k_is)
    (case xe_NoRow => k_exc)
    (case xk_NoRow => k_is)
    (case xs_NoRow => k_is)
    (case xt_NoRow => k_is)
    (case z_int => k_is)
    (case z_max => k_is)
    (case z_range => k_is)
    (case z_sorted => k_is)
    (case z_min => k_is)
    (case z_set => k_is)
    (case z_len => k_is)
    (case z_isinstance => k_is)
    (case z_list => k_is)
    (case z_tuple => k_is)
    (case z_zip => k_is)
    (case z_str => k_is)
    (case z_bool => k_is)
