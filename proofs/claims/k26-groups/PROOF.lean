import PyProof.Rows.All
import Wide.All
import OpenK.AllK
import Wide.FinOn
import HandS.ForMost
import HandS.ForExc
import HandS.IsInst
import HandS.TupAny
import HandS.Style
import HandS.Deep
import HandS.Wide
import HandS.SortInts
import KE.SortData
import KE.DataFind
import KE.DataCmp
import KE.DataMinMax
import HandS.Set
import HandS.SetFor
import HandS.SetKeys
import HandS.Strs
import HandS.ExcValue
import HandS.Iter
import HandS.NoneIn
import KE.GoesEnum
import KE.GoesMore
import PySem.Challenge.RW_endsum_k26_groups
set_option Elab.async false
set_option linter.all false
set_option maxRecDepth 100000
set_option maxHeartbeats 400000
/-! DLa: plain data D, how it stands in a heap (Rep), what a def's slots hold (Sl, StOk), and the judgements Ev, Eo, Et, Ea, Es: a reading of the hand layer computes what a plain function of the slots' data computes. -/
namespace DL
open PySem L2

abbrev Fg := PySem.W.Frag
def LB : Nat := 1000000
theorem LB_size {n : Nat} (h : n ≤ LB) : n ≤ sizeLine := Nat.le_trans h (by decide)
theorem LB_lt {n : Nat} (h : n ≤ LB) : n < sizeLine := Nat.lt_of_le_of_lt h (by decide)

inductive D where
  | non
  | bl (b : Bool)
  | int (i : Int)
  | str (x : Str)
  | tup (xs : List D)
  | lst (xs : List D)
  | ins (C : Addr) (ns : List Str) (ds : List D)
  | dk (ks : List Key) (ds : List D)

/-- a tuple: its object is known (it has no dict of its own) -/
def TupR (K : Fg) (F : Hp) (a : Addr) (vs : List V) : Prop := (∃ o : Obj, o.dict = none ∧ F a = some (.frz o (.tup vs))) ∨
  ∃ (o : Obj) (its : Array Value) (n : Nat), K.lookup a = some o ∧ o.dict = none ∧ o.cls = .type "tuple" ∧ o.data = .seq its n ∧ its.size ≤ sizeLine ∧ Vals vs its.toList
theorem TupR.sq {K : Fg} {F : Hp} {a : Addr} {vs : List V} (h : TupR K F a vs) : SqT K F a vs := by
  rcases h with ⟨o, _, h⟩ | ⟨o, its, n, h1, _, h2, h3, h4, h5⟩
  · exact Or.inl (Or.inr ⟨o, h⟩)
  · exact Or.inr ⟨o, its, n, h1, h2, h3, h4, h5⟩
theorem TupR.mono {K : Fg} {F F' : Hp} (e : Same F F') {a : Addr} {vs : List V} (h : TupR K F a vs) : TupR K F' a vs := by
  rcases h with ⟨o, h1, h⟩ | h
  · exact Or.inl ⟨o, h1, e _ _ h⟩
  · exact Or.inr h
mutual
def Rep (K : Fg) (F : Hp) : D → V → Prop
  | .non, v => v = .non
  | .bl b, v => v = .bl b
  | .int i, v => v = .int i
  | .str x, v => v = .str x
  | .tup ds, v => ∃ a vs, v = .ref a ∧ TupR K F a vs ∧ ds.length ≤ LB ∧ Reps K F ds vs
  | .lst ds, v => ∃ a vs, v = .ref a ∧ F a = some (.lst vs) ∧ ds.length ≤ LB ∧ Reps K F ds vs
  | .ins C ns ds, v => ∃ a dx vs, v = .ref a ∧ F a = some (.ins C dx (ns.zip vs)) ∧ ns.length = ds.length ∧ Reps K F ds vs
  | .dk ks ds, v => ∃ a vs, v = .ref a ∧ Rd F a (.dK (ks.zip vs)) ∧ ks.length = ds.length ∧ ds.length ≤ LB ∧ Reps K F ds vs
def Reps (K : Fg) (F : Hp) : List D → List V → Prop
  | [], vs => vs = []
  | d :: ds, vs => ∃ v us, vs = v :: us ∧ Rep K F d v ∧ Reps K F ds us
end

theorem same_rd {F F' : Hp} (e : Same F F') {a : Addr} {u : HO} (h : Rd F a u) : Rd F' a u := by
  rcases h with h | ⟨o, h⟩
  · exact Or.inl (e _ _ h)
  · exact Or.inr ⟨o, e _ _ h⟩
theorem same_t {K : Fg} {F F' : Hp} (e : Same F F') {a : Addr} {xs : List V} (h : SqT K F a xs) : SqT K F' a xs := by
  rcases h with h | h
  · exact Or.inl (same_rd e h)
  · exact Or.inr h

mutual
theorem Rep.mono {K : Fg} {F F' : Hp} (e : Same F F') : ∀ {d : D} {v : V}, Rep K F d v → Rep K F' d v
  | .non, v, h => by simpa only [Rep] using h
  | .bl b, v, h => by simpa only [Rep] using h
  | .int i, v, h => by simpa only [Rep] using h
  | .str x, v, h => by simpa only [Rep] using h
  | .tup ds, v, h => by
    simp only [Rep] at h ⊢
    obtain ⟨a, vs, h1, h2, h3, h4⟩ := h
    exact ⟨a, vs, h1, h2.mono e, h3, Reps.mono e h4⟩
  | .lst ds, v, h => by
    simp only [Rep] at h ⊢
    obtain ⟨a, vs, h1, h2, h3, h4⟩ := h
    exact ⟨a, vs, h1, e _ _ h2, h3, Reps.mono e h4⟩
  | .ins C ns ds, v, h => by
    simp only [Rep] at h ⊢
    obtain ⟨a, dx, vs, h1, h2, h3, h4⟩ := h
    exact ⟨a, dx, vs, h1, e _ _ h2, h3, Reps.mono e h4⟩
  | .dk ks ds, v, h => by
    simp only [Rep] at h ⊢
    obtain ⟨a, vs, h1, h2, h3, h4, h5⟩ := h
    exact ⟨a, vs, h1, same_rd e h2, h3, h4, Reps.mono e h5⟩
theorem Reps.mono {K : Fg} {F F' : Hp} (e : Same F F') : ∀ {ds : List D} {vs : List V}, Reps K F ds vs → Reps K F' ds vs
  | [], vs, h => by simpa only [Reps] using h
  | d :: ds, vs, h => by
    simp only [Reps] at h ⊢
    obtain ⟨v, us, h1, h2, h3⟩ := h
    exact ⟨v, us, h1, Rep.mono e h2, Reps.mono e h3⟩
end

theorem reps_nil {K : Fg} {F : Hp} : Reps K F [] [] := by simp only [Reps]
theorem reps_cons {K : Fg} {F : Hp} {d : D} {ds : List D} {v : V} {vs : List V} (h : Rep K F d v) (t : Reps K F ds vs) : Reps K F (d :: ds) (v :: vs) := by
  simp only [Reps]
  exact ⟨v, vs, rfl, h, t⟩
theorem Reps.inv {K : Fg} {F : Hp} {d : D} {ds : List D} {vs : List V} (h : Reps K F (d :: ds) vs) : ∃ v us, vs = v :: us ∧ Rep K F d v ∧ Reps K F ds us := by simpa only [Reps] using h
theorem Reps.inv0 {K : Fg} {F : Hp} {vs : List V} (h : Reps K F [] vs) : vs = [] := by simpa only [Reps] using h
theorem Reps.len {K : Fg} {F : Hp} : ∀ {ds : List D} {vs : List V}, Reps K F ds vs → vs.length = ds.length
  | [], vs, h => by rw [h.inv0] <;> rfl
  | d :: ds, vs, h => by
    obtain ⟨v, us, rfl, _, h3⟩ := h.inv
    simp [Reps.len h3]
theorem Reps.app {K : Fg} {F : Hp} : ∀ {ds es : List D} {vs us : List V}, Reps K F ds vs → Reps K F es us → Reps K F (ds ++ es) (vs ++ us)
  | [], es, vs, us, h, g => by rw [h.inv0]; exact g
  | d :: ds, es, vs, us, h, g => by
    obtain ⟨v, ws, rfl, h2, h3⟩ := h.inv
    exact reps_cons h2 (Reps.app h3 g)
theorem Reps.get {K : Fg} {F : Hp} : ∀ {ds : List D} {vs : List V} {i : Nat} {d : D}, Reps K F ds vs → ds[i]? = some d → ∃ v, vs[i]? = some v ∧ Rep K F d v
  | [], vs, i, d, h, e => by simp at e
  | x :: ds, vs, 0, d, h, e => by
    obtain ⟨v, us, rfl, h2, h3⟩ := h.inv
    have e' : x = d := by simpa using e
    subst e'
    exact ⟨v, rfl, h2⟩
  | x :: ds, vs, i + 1, d, h, e => by
    obtain ⟨v, us, rfl, h2, h3⟩ := h.inv
    obtain ⟨u, h4, h5⟩ := Reps.get (i := i) h3 (by simpa using e)
    exact ⟨u, by simpa using h4, h5⟩
theorem Reps.getV {K : Fg} {F : Hp} : ∀ {ds : List D} {vs : List V} {i : Nat} {v : V}, Reps K F ds vs → vs[i]? = some v → ∃ d, ds[i]? = some d ∧ Rep K F d v
  | [], vs, i, v, h, e => by rw [h.inv0] at e; simp at e
  | x :: ds, vs, 0, v, h, e => by
    obtain ⟨u, us, rfl, h2, h3⟩ := h.inv
    have e' : u = v := by simpa using e
    subst e'
    exact ⟨x, rfl, h2⟩
  | x :: ds, vs, i + 1, v, h, e => by
    obtain ⟨u, us, rfl, h2, h3⟩ := h.inv
    obtain ⟨d, h4, h5⟩ := Reps.getV (i := i) h3 (by simpa using e)
    exact ⟨d, by simpa using h4, h5⟩
theorem Reps.take {K : Fg} {F : Hp} : ∀ {ds : List D} {vs : List V} (n : Nat), Reps K F ds vs → Reps K F (ds.take n) (vs.take n)
  | [], vs, n, h => by rw [h.inv0]; simp [Reps]
  | x :: ds, vs, 0, h => by simp [Reps]
  | x :: ds, vs, n + 1, h => by
    obtain ⟨u, us, rfl, h2, h3⟩ := h.inv
    exact reps_cons h2 (Reps.take n h3)
theorem Reps.drop {K : Fg} {F : Hp} : ∀ {ds : List D} {vs : List V} (n : Nat), Reps K F ds vs → Reps K F (ds.drop n) (vs.drop n)
  | [], vs, n, h => by rw [h.inv0]; simp [Reps]
  | x :: ds, vs, 0, h => h
  | x :: ds, vs, n + 1, h => by
    obtain ⟨u, us, rfl, h2, h3⟩ := h.inv
    exact Reps.drop n h3
theorem Reps.set {K : Fg} {F : Hp} {d : D} {v : V} (g : Rep K F d v) : ∀ {ds : List D} {vs : List V} (i : Nat), Reps K F ds vs → Reps K F (ds.set i d) (vs.set i v)
  | [], vs, i, h => by rw [h.inv0]; simp [Reps]
  | x :: ds, vs, 0, h => by
    obtain ⟨u, us, rfl, h2, h3⟩ := h.inv
    exact reps_cons g h3
  | x :: ds, vs, i + 1, h => by
    obtain ⟨u, us, rfl, h2, h3⟩ := h.inv
    exact reps_cons h2 (Reps.set g i h3)
theorem Reps.rev {K : Fg} {F : Hp} : ∀ {ds : List D} {vs : List V}, Reps K F ds vs → Reps K F ds.reverse vs.reverse
  | [], vs, h => by rw [h.inv0]; simp [Reps]
  | x :: ds, vs, h => by
    obtain ⟨u, us, rfl, h2, h3⟩ := h.inv
    rw [List.reverse_cons, List.reverse_cons]
    exact Reps.app (Reps.rev h3) (reps_cons h2 reps_nil)
theorem Reps.erase {K : Fg} {F : Hp} : ∀ {ds : List D} {vs : List V} (i : Nat), Reps K F ds vs → Reps K F (ds.eraseIdx i) (vs.eraseIdx i)
  | [], vs, i, h => by rw [h.inv0]; simp [Reps]
  | x :: ds, vs, 0, h => by
    obtain ⟨u, us, rfl, h2, h3⟩ := h.inv
    exact h3
  | x :: ds, vs, i + 1, h => by
    obtain ⟨u, us, rfl, h2, h3⟩ := h.inv
    exact reps_cons h2 (Reps.erase i h3)

/-! ### inversions -/
section
variable {K : Fg} {F : Hp} {v : V}
theorem Rep.non_iff : Rep K F .non v ↔ v = .non := by simp only [Rep]
theorem Rep.bl_iff {b : Bool} : Rep K F (.bl b) v ↔ v = .bl b := by simp only [Rep]
theorem Rep.int_iff {i : Int} : Rep K F (.int i) v ↔ v = .int i := by simp only [Rep]
theorem Rep.str_iff {x : Str} : Rep K F (.str x) v ↔ v = .str x := by simp only [Rep]
theorem Rep.tup_iff {ds : List D} : Rep K F (.tup ds) v ↔ ∃ a vs, v = .ref a ∧ TupR K F a vs ∧ ds.length ≤ LB ∧ Reps K F ds vs := by simp only [Rep]
theorem Rep.lst_iff {ds : List D} : Rep K F (.lst ds) v ↔ ∃ a vs, v = .ref a ∧ F a = some (.lst vs) ∧ ds.length ≤ LB ∧ Reps K F ds vs := by simp only [Rep]
theorem Rep.ins_iff {C : Addr} {ns : List Str} {ds : List D} : Rep K F (.ins C ns ds) v ↔ ∃ a dx vs, v = .ref a ∧ F a = some (.ins C dx (ns.zip vs)) ∧ ns.length = ds.length ∧ Reps K F ds vs := by simp only [Rep]
theorem Rep.dk_iff {ks : List Key} {ds : List D} : Rep K F (.dk ks ds) v ↔ ∃ a vs, v = .ref a ∧ Rd F a (.dK (ks.zip vs)) ∧ ks.length = ds.length ∧ ds.length ≤ LB ∧ Reps K F ds vs := by simp only [Rep]
end

/-- a tuple on the way to its parts: nothing but its parts is known -/
def RepW (K : Fg) (F : Hp) (d : D) (v : V) : Prop := match d with
  | .tup ds => ∃ a vs, v = .ref a ∧ SqT K F a vs ∧ Reps K F ds vs
  | d => Rep K F d v
theorem Rep.weak {K : Fg} {F : Hp} {d : D} {v : V} (h : Rep K F d v) : RepW K F d v := by
  cases d with
  | tup ds =>
    obtain ⟨a, vs, h1, h2, h3, h4⟩ := Rep.tup_iff.mp h
    exact ⟨a, vs, h1, h2.sq, h4⟩
  | _ => exact h
def Rq (K : Fg) : Bool → Hp → D → V → Prop
  | true => RepW K
  | false => Rep K
theorem Rq.tup {K : Fg} {F : Hp} {ds : List D} {v : V} : ∀ {b : Bool}, Rq K b F (.tup ds) v → ∃ a vs, v = .ref a ∧ SqT K F a vs ∧ Reps K F ds vs
  | true, h => h
  | false, h => Rep.weak h
/-- an object of one's own at a in H, its parts in F -/
def RepO (K : Fg) (F H : Hp) (a : Addr) : D → Prop
  | .lst ds => ∃ vs, H a = some (.lst vs) ∧ ds.length ≤ LB ∧ Reps K F ds vs
  | .ins C ns ds => ∃ dx vs, H a = some (.ins C dx (ns.zip vs)) ∧ ns.length = ds.length ∧ Reps K F ds vs
  | .dk ks ds => ∃ vs, H a = some (.dK (ks.zip vs)) ∧ ks.length = ds.length ∧ ds.length ≤ LB ∧ Reps K F ds vs
  | _ => False
theorem RepO.there {K : Fg} {F H : Hp} {a : Addr} {d : D} (h : RepO K F H a d) : ∃ o, H a = some o := by
  cases d with
  | lst ds => obtain ⟨vs, h, _⟩ := h; exact ⟨_, h⟩
  | ins C ns ds => obtain ⟨dx, vs, h, _⟩ := h; exact ⟨_, h⟩
  | dk ks ds => obtain ⟨vs, h, _⟩ := h; exact ⟨_, h⟩
  | _ => exact h.elim
theorem RepO.mono {K : Fg} {F F' H H' : Hp} {a : Addr} {d : D} (h : RepO K F H a d) (e : Same F F') (k : ∀ o, H a = some o → H' a = some o) : RepO K F' H' a d := by
  cases d with
  | lst ds => obtain ⟨vs, h1, h2, h3⟩ := h; exact ⟨vs, k _ h1, h2, Reps.mono e h3⟩
  | ins C ns ds => obtain ⟨dx, vs, h1, h2, h3⟩ := h; exact ⟨dx, vs, k _ h1, h2, Reps.mono e h3⟩
  | dk ks ds => obtain ⟨vs, h1, h2, h3, h4⟩ := h; exact ⟨vs, k _ h1, h2, h3, Reps.mono e h4⟩
  | _ => exact h.elim
/-- readable: frozen data, or an object of one's own -/
def RepR (K : Fg) (F H : Hp) (v : V) (d : D) : Prop := Rep K F d v ∨ ∃ a, v = .ref a ∧ RepO K F H a d
theorem RepR.mono {K : Fg} {F F' H H' : Hp} {v : V} {d : D} (h : RepR K F H v d) (e : Same F F') (k : Same H H') : RepR K F' H' v d := by
  rcases h with h | ⟨a, rfl, h⟩
  · exact Or.inl (h.mono e)
  · exact Or.inr ⟨a, rfl, h.mono e fun o q => k _ _ q⟩
/-- an own object is frozen -/
theorem RepO.freeze {K : Fg} {F H : Hp} {a : Addr} {d : D} (h : RepO K F H a d) (hn : F a = none) : ∃ o, H a = some o ∧ Rep K (upd F a o) d (.ref a) := by
  have e : ∀ o, Same F (upd F a o) := fun o b u q => by rw [upd_ne (ne_of_none q hn)]; exact q
  cases d with
  | lst ds =>
    obtain ⟨vs, h1, h2, h3⟩ := h
    exact ⟨_, h1, Rep.lst_iff.mpr ⟨a, vs, rfl, upd_same, h2, Reps.mono (e _) h3⟩⟩
  | ins C ns ds =>
    obtain ⟨dx, vs, h1, h2, h3⟩ := h
    exact ⟨_, h1, Rep.ins_iff.mpr ⟨a, dx, vs, rfl, upd_same, h2, Reps.mono (e _) h3⟩⟩
  | dk ks ds =>
    obtain ⟨vs, h1, h2, h3, h4⟩ := h
    exact ⟨_, h1, Rep.dk_iff.mpr ⟨a, vs, rfl, Or.inl upd_same, h2, h3, Reps.mono (e _) h4⟩⟩
  | _ => exact h.elim

/-! ### slots -/
/-- un: nothing known; fr: frozen data; bo: borrowed (another's object, read alone); ow: an object of this def's own; io: an object that the caller handed in to be changed; sc: the script -/
inductive Sl where
  | un | fr (d : D) | bo (d : D) | ow (d : D) | io (d : D) | sc (ns : List Int)
abbrev En := List Sl
/-- what is told of an error: its class, its own attributes -/
structure Xn where
  C : Addr
  ns : List Str
  ds : List D

structure Cn where
  K : Fg
  P : Hp
  B : Hp
  F0 : Hp
  bt : Nat → Addr
  W : WX

def Sl.own : Sl → Option D
  | .ow d => some d
  | .io d => some d
  | _ => none
def Sl.dat : Sl → Option D
  | .fr d => some d
  | .bo d => some d
  | .ow d => some d
  | .io d => some d
  | _ => none

structure StOk (C : Cn) (α : Nat → Addr) (F H : Hp) (σ : St) (δ : En) : Prop where
  fh : Same F H
  ph : Same C.P H
  bp : Same C.B C.P
  f0 : Same C.F0 F
  fp : ∀ a o, F a = some o → C.F0 a = some o ∨ C.P a = none
  len : σ.length = δ.length
  fr : ∀ (i : Nat) (d : D), δ[i]? = some (Sl.fr d) → ∃ v, σ[i]? = some (some v) ∧ Rep C.K F d v
  bo : ∀ (i : Nat) (d : D), δ[i]? = some (Sl.bo d) → ∃ v, σ[i]? = some (some v) ∧ RepR C.K F C.B v d
  ow : ∀ (i : Nat) (s : Sl) (d : D), δ[i]? = some s → s.own = some d → σ[i]? = some (some (V.ref (α i))) ∧ F (α i) = none ∧ C.P (α i) = none ∧ RepO C.K F H (α i) d
  io : ∀ (i : Nat) (d : D), δ[i]? = some (Sl.io d) → α i = C.bt i
  inj : ∀ (i j : Nat) (s t : Sl) (d e : D), δ[i]? = some s → δ[j]? = some t → s.own = some d → t.own = some e → α i = α j → i = j
  sc : ∀ (i : Nat) (ns : List Int), δ[i]? = some (Sl.sc ns) → ∃ a, σ[i]? = some (some (V.ref a)) ∧ SqL C.K C.B a (ns.map V.int)

/-- only new things are laid, and frozen -/
structure New (F H F' H' : Hp) : Prop where
  ff : Same F F'
  fh : Same F' H'
  hh : Same H H'
  nw : ∀ a o, F' a = some o → F a = some o ∨ H a = none
theorem New.refl {F H : Hp} (h : Same F H) : New F H F H := ⟨Same.refl _, h, Same.refl _, fun _ _ q => Or.inl q⟩
theorem New.trans {F H F1 H1 F2 H2 : Hp} (a : New F H F1 H1) (b : New F1 H1 F2 H2) : New F H F2 H2 :=
  ⟨a.ff.trans b.ff, b.fh, a.hh.trans b.hh, fun x o q => by
    rcases b.nw x o q with q | q
    · exact a.nw x o q
    · exact Or.inr (a.hh.free q)⟩
theorem same_upd {H : Hp} {p : Addr} {o : HO} (h : H p = none) : Same H (upd H p o) := fun a u e => by
  rw [upd_ne (ne_of_none e h)]
  exact e
/-- one new object, frozen at once -/
theorem New.lay {F H : Hp} {p : Addr} {o : HO} (fh : Same F H) (h : H p = none) : New F H (upd F p o) (upd H p o) :=
  ⟨same_upd (fh.free h), fun a u e => by
    by_cases q : a = p
    · subst q
      rw [upd_same] at e ⊢
      exact e
    · rw [upd_ne q] at e ⊢
      exact fh a u e, same_upd h, fun a u e => by
    by_cases q : a = p
    · subst q
      exact Or.inr h
    · rw [upd_ne q] at e
      exact Or.inl e⟩
/-- one new object, not frozen -/
theorem New.put {F H : Hp} {p : Addr} {o : HO} (fh : Same F H) (h : H p = none) : New F H F (upd H p o) :=
  ⟨Same.refl _, fh.trans (same_upd h), same_upd h, fun _ _ q => Or.inl q⟩

section
variable {C : Cn} {α : Nat → Addr} {F H F' H' : Hp} {σ : St} {δ : En}
theorem StOk.new (S : StOk C α F H σ δ) (n : New F H F' H') : StOk C α F' H' σ δ where
  fh := n.fh
  ph := S.ph.trans n.hh
  bp := S.bp
  f0 := S.f0.trans n.ff
  fp := fun a o q => by
    rcases n.nw a o q with q | q
    · exact S.fp a o q
    · exact Or.inr (S.ph.free q)
  len := S.len
  fr := fun i d q => let ⟨v, h1, h2⟩ := S.fr i d q; ⟨v, h1, h2.mono n.ff⟩
  bo := fun i d q => let ⟨v, h1, h2⟩ := S.bo i d q; ⟨v, h1, h2.mono n.ff (Same.refl _)⟩
  ow := fun i s d q r => by
    obtain ⟨h1, h2, h3, h4⟩ := S.ow i s d q r
    refine ⟨h1, ?_, h3, h4.mono n.ff fun o q => n.hh _ _ q⟩
    cases e : F' (α i) with
    | none => rfl
    | some o =>
      rcases n.nw _ _ e with z | z
      · rw [h2] at z; cases z
      · obtain ⟨u, hu⟩ := h4.there
        rw [hu] at z; cases z
  io := S.io
  inj := S.inj
  sc := S.sc
theorem StOk.look (S : StOk C α F H σ δ) {i : Nat} {s : Sl} {d : D} (h : δ[i]? = some s) (hd : s.dat = some d) : ∃ v, σ[i]? = some (some v) ∧ RepR C.K F H v d := by
  cases s with
  | un => cases hd
  | fr e =>
    cases hd
    obtain ⟨v, h1, h2⟩ := S.fr i d h
    exact ⟨v, h1, Or.inl h2⟩
  | bo e =>
    cases hd
    obtain ⟨v, h1, h2⟩ := S.bo i d h
    exact ⟨v, h1, h2.mono (Same.refl _) (S.bp.trans S.ph)⟩
  | ow e =>
    cases hd
    obtain ⟨h1, h2, h3, h4⟩ := S.ow i _ d h rfl
    exact ⟨_, h1, Or.inr ⟨_, rfl, h4⟩⟩
  | io e =>
    cases hd
    obtain ⟨h1, h2, h3, h4⟩ := S.ow i _ d h rfl
    exact ⟨_, h1, Or.inr ⟨_, rfl, h4⟩⟩
  | sc ns => cases hd
/-- a slot is stored: frozen data -/
theorem StOk.set (S : StOk C α F H σ δ) {i : Nat} {d : D} {v : V} (h : Rep C.K F d v) : StOk C α F H (σ.set i (some v)) (δ.set i (.fr d)) := by
  have key : ∀ (j : Nat) (s : Sl), (δ.set i (Sl.fr d))[j]? = some s → (j = i ∧ s = Sl.fr d ∧ i < δ.length) ∨ (j ≠ i ∧ δ[j]? = some s) := fun j s e => by
    by_cases q : j = i
    · subst q
      by_cases l : j < δ.length
      · rw [List.getElem?_set_self l] at e
        exact Or.inl ⟨rfl, (Option.some.inj e).symm, l⟩
      · rw [List.getElem?_eq_none (by rw [List.length_set]; omega)] at e
        cases e
    · rw [List.getElem?_set_ne (Ne.symm q)] at e
      exact Or.inr ⟨q, e⟩
  have sg : ∀ (j : Nat), j ≠ i → (σ.set i (some v))[j]? = σ[j]? := fun j q => List.getElem?_set_ne (Ne.symm q)
  refine ⟨S.fh, S.ph, S.bp, S.f0, S.fp, by rw [List.length_set, List.length_set]; exact S.len, fun j e q => ?_, fun j e q => ?_, fun j s e q r => ?_, fun j e q => ?_, fun j k s t e f q1 q2 r1 r2 => ?_, fun j ns q => ?_⟩
  · rcases key j _ q with ⟨rfl, z, l⟩ | ⟨n, q⟩
    · cases z
      exact ⟨v, by rw [List.getElem?_set_self (by rw [S.len]; exact l)], h⟩
    · rw [sg j n]
      exact S.fr j e q
  · rcases key j _ q with ⟨rfl, z, l⟩ | ⟨n, q⟩
    · cases z
    · rw [sg j n]
      exact S.bo j e q
  · rcases key j _ q with ⟨rfl, z, l⟩ | ⟨n, q⟩
    · subst z
      cases r
    · rw [sg j n]
      exact S.ow j s e q r
  · rcases key j _ q with ⟨rfl, z, l⟩ | ⟨n, q⟩
    · cases z
    · exact S.io j e q
  · rcases key j _ q1 with ⟨rfl, z, l⟩ | ⟨n, q1⟩
    · subst z
      cases r1
    · rcases key k _ q2 with ⟨rfl, z, l⟩ | ⟨n, q2⟩
      · subst z
        cases r2
      · exact S.inj j k s t e f q1 q2 r1 r2
  · rcases key j _ q with ⟨rfl, z, l⟩ | ⟨n, q⟩
    · cases z
    · rw [sg j n]
      exact S.sc j ns q
/-- a slot is stored: an own object, new at p -/
theorem StOk.setO (S : StOk C α F H σ δ) {i : Nat} {d : D} {p : Addr} (h : RepO C.K F H p d) (hF : F p = none) (hP : C.P p = none) (hne : ∀ (j : Nat) (s : Sl) (e : D), δ[j]? = some s → s.own = some e → j ≠ i → α j ≠ p) :
    StOk C (fun j => if j = i then p else α j) F H (σ.set i (some (.ref p))) (δ.set i (.ow d)) := by
  have key : ∀ (j : Nat) (s : Sl), (δ.set i (Sl.ow d))[j]? = some s → (j = i ∧ s = Sl.ow d ∧ i < δ.length) ∨ (j ≠ i ∧ δ[j]? = some s) := fun j s e => by
    by_cases q : j = i
    · subst q
      by_cases l : j < δ.length
      · rw [List.getElem?_set_self l] at e
        exact Or.inl ⟨rfl, (Option.some.inj e).symm, l⟩
      · rw [List.getElem?_eq_none (by rw [List.length_set]; omega)] at e
        cases e
    · rw [List.getElem?_set_ne (Ne.symm q)] at e
      exact Or.inr ⟨q, e⟩
  have sg : ∀ (j : Nat), j ≠ i → (σ.set i (some (V.ref p)))[j]? = σ[j]? := fun j q => List.getElem?_set_ne (Ne.symm q)
  refine ⟨S.fh, S.ph, S.bp, S.f0, S.fp, by rw [List.length_set, List.length_set]; exact S.len, fun j e q => ?_, fun j e q => ?_, fun j s e q r => ?_, fun j e q => ?_, fun j k s t e f q1 q2 r1 r2 r3 => ?_, fun j ns q => ?_⟩
  · rcases key j _ q with ⟨rfl, z, l⟩ | ⟨n, q⟩
    · cases z
    · rw [sg j n]
      exact S.fr j e q
  · rcases key j _ q with ⟨rfl, z, l⟩ | ⟨n, q⟩
    · cases z
    · rw [sg j n]
      exact S.bo j e q
  · rcases key j _ q with ⟨rfl, z, l⟩ | ⟨n, q⟩
    · subst z
      cases r
      rw [if_pos rfl]
      exact ⟨by rw [List.getElem?_set_self (by rw [S.len]; exact l)], hF, hP, h⟩
    · rw [sg j n, if_neg n]
      exact S.ow j s e q r
  · rcases key j _ q with ⟨rfl, z, l⟩ | ⟨n, q⟩
    · cases z
    · rw [if_neg n]
      exact S.io j e q
  · rcases key j _ q1 with ⟨ej, z, l⟩ | ⟨n, p1⟩
    · rcases key k _ q2 with ⟨ek, z2, l2⟩ | ⟨n2, p2⟩
      · rw [ej, ek]
      · rw [if_pos ej, if_neg n2] at r3
        exact absurd r3.symm (hne k t f p2 r2 n2)
    · rcases key k _ q2 with ⟨ek, z2, l2⟩ | ⟨n2, p2⟩
      · rw [if_neg n, if_pos ek] at r3
        exact absurd r3 (hne j s e p1 r1 n)
      · rw [if_neg n, if_neg n2] at r3
        exact S.inj j k s t e f p1 p2 r1 r2 r3
  · rcases key j _ q with ⟨rfl, z, l⟩ | ⟨n, q⟩
    · cases z
    · rw [sg j n]
      exact S.sc j ns q
/-- an object that is neither frozen, nor kept, nor another slot's own is changed -/
theorem StOk.poke (S : StOk C α F H σ δ) {p : Addr} {o : HO} (hF : F p = none) (hP : C.P p = none) (hne : ∀ (j : Nat) (s : Sl) (e : D), δ[j]? = some s → s.own = some e → α j ≠ p) : StOk C α F (upd H p o) σ δ where
  fh := fun a u q => by rw [upd_ne (ne_of_none q hF)]; exact S.fh a u q
  ph := fun a u q => by rw [upd_ne (ne_of_none q hP)]; exact S.ph a u q
  bp := S.bp
  f0 := S.f0
  fp := S.fp
  len := S.len
  fr := S.fr
  bo := S.bo
  ow := fun j s e q r => by
    obtain ⟨h1, h2, h3, h4⟩ := S.ow j s e q r
    refine ⟨h1, h2, h3, h4.mono (Same.refl _) fun u z => ?_⟩
    rw [upd_ne (hne j s e q r)]
    exact z
  io := S.io
  inj := S.inj
  sc := S.sc
/-- an own object is changed -/
theorem StOk.poke1 (S : StOk C α F H σ δ) {i : Nat} {s t : Sl} {d e : D} {o : HO} (hi : δ[i]? = some s) (hs : s.own = some d) (ht : t.own = some e) (hk : ∀ z, t = .io z → ∃ y, s = .io y) (ho : RepO C.K F (upd H (α i) o) (α i) e) : StOk C α F (upd H (α i) o) σ (δ.set i t) := by
  obtain ⟨h1, h2, h3, h4⟩ := S.ow i s d hi hs
  have li : i < δ.length := (List.getElem?_eq_some_iff.mp hi).1
  have key : ∀ (j : Nat) (u : Sl), (δ.set i t)[j]? = some u → (j = i ∧ u = t) ∨ (j ≠ i ∧ δ[j]? = some u) := fun j u e => by
    by_cases q : j = i
    · subst q
      rw [List.getElem?_set_self li] at e
      exact Or.inl ⟨rfl, (Option.some.inj e).symm⟩
    · rw [List.getElem?_set_ne (Ne.symm q)] at e
      exact Or.inr ⟨q, e⟩
  have tf : ∀ d, t ≠ .fr d := fun d z => by rw [z] at ht; cases ht
  have tb : ∀ d, t ≠ .bo d := fun d z => by rw [z] at ht; cases ht
  have tc : ∀ d, t ≠ .sc d := fun d z => by rw [z] at ht; cases ht
  refine ⟨fun a u q => ?_, fun a u q => ?_, S.bp, S.f0, S.fp, by rw [List.length_set]; exact S.len, fun j e q => ?_, fun j e q => ?_, fun j u e q r => ?_, fun j e q => ?_, fun j k u v e f q1 q2 r1 r2 r3 => ?_, fun j ns q => ?_⟩
  · rw [upd_ne (ne_of_none q h2)]; exact S.fh a u q
  · rw [upd_ne (ne_of_none q h3)]; exact S.ph a u q
  · rcases key j _ q with ⟨ej, z⟩ | ⟨n, q⟩
    · exact absurd z.symm (tf _)
    · exact S.fr j e q
  · rcases key j _ q with ⟨ej, z⟩ | ⟨n, q⟩
    · exact absurd z.symm (tb _)
    · exact S.bo j e q
  · rcases key j _ q with ⟨ej, z⟩ | ⟨n, q⟩
    · subst z
      rw [ht] at r
      cases r
      rw [ej]
      exact ⟨h1, h2, h3, ho⟩
    · obtain ⟨g1, g2, g3, g4⟩ := S.ow j u e q r
      refine ⟨g1, g2, g3, g4.mono (Same.refl _) fun w z => ?_⟩
      rw [upd_ne fun z => n (S.inj j i u s e d q hi r hs z)]
      exact z
  · rcases key j _ q with ⟨ej, z⟩ | ⟨n, q⟩
    · obtain ⟨y, hy⟩ := hk _ z.symm
      rw [ej]
      exact S.io i y (by rw [hi, hy])
    · exact S.io j e q
  · rcases key j _ q1 with ⟨ej, z⟩ | ⟨n, p1⟩
    · rcases key k _ q2 with ⟨ek, z2⟩ | ⟨n2, p2⟩
      · rw [ej, ek]
      · rw [ej] at r3 ⊢
        exact S.inj i k s v d f hi p2 hs r2 r3
    · rcases key k _ q2 with ⟨ek, z2⟩ | ⟨n2, p2⟩
      · rw [ek] at r3 ⊢
        exact S.inj j i u s e d p1 hi r1 hs r3
      · exact S.inj j k u v e f p1 p2 r1 r2 r3
  · rcases key j _ q with ⟨ej, z⟩ | ⟨n, q⟩
    · exact absurd z.symm (tc _)
    · exact S.sc j ns q
/-- slots forgotten -/
def wipeE (δ : En) : List Nat → En
  | [] => δ
  | v :: vs => (wipeE δ vs).set v .un
theorem wipeE_get {δ : En} {i : Nat} {s : Sl} : ∀ {vs : List Nat}, (wipeE δ vs)[i]? = some s → s = .un ∨ (i ∉ vs ∧ δ[i]? = some s)
  | [], h => Or.inr ⟨by simp, h⟩
  | v :: vs, h => by
    unfold wipeE at h
    by_cases q : i = v
    · subst q
      by_cases l : i < (wipeE δ vs).length
      · rw [List.getElem?_set_self l] at h
        exact Or.inl (Option.some.inj h).symm
      · rw [List.getElem?_eq_none (by rw [List.length_set]; omega)] at h
        cases h
    · rw [List.getElem?_set_ne (Ne.symm q)] at h
      rcases wipeE_get h with z | ⟨z1, z2⟩
      · exact Or.inl z
      · exact Or.inr ⟨by simp [q, z1], z2⟩
theorem wipeE_len {δ : En} : ∀ vs : List Nat, (wipeE δ vs).length = δ.length
  | [] => rfl
  | v :: vs => by unfold wipeE; rw [List.length_set, wipeE_len vs]
theorem wipe_get {σ : St} {i : Nat} : ∀ {vs : List Nat}, i ∉ vs → (wipe σ vs)[i]? = σ[i]?
  | [], _ => rfl
  | v :: vs, h => by
    unfold wipe
    rw [List.getElem?_set_ne fun z => h (by simp [z]), wipe_get fun z => h (by simp [z])]
/-- the same slots, but for the forgotten ones -/
theorem StOk.wiped (S : StOk C α F H σ δ) {vs : List Nat} {σ' : St} (hl : σ'.length = σ.length) (hs : ∀ i, i ∉ vs → σ'[i]? = σ[i]?) : StOk C α F H σ' (wipeE δ vs) where
  fh := S.fh
  ph := S.ph
  bp := S.bp
  f0 := S.f0
  fp := S.fp
  len := by rw [hl, wipeE_len]; exact S.len
  fr := fun j e q => by
    rcases wipeE_get q with z | ⟨z1, z2⟩
    · cases z
    · rw [hs j z1]; exact S.fr j e z2
  bo := fun j e q => by
    rcases wipeE_get q with z | ⟨z1, z2⟩
    · cases z
    · rw [hs j z1]; exact S.bo j e z2
  ow := fun j s e q r => by
    rcases wipeE_get q with z | ⟨z1, z2⟩
    · subst z; cases r
    · rw [hs j z1]; exact S.ow j s e z2 r
  io := fun j e q => by
    rcases wipeE_get q with z | ⟨z1, z2⟩
    · cases z
    · exact S.io j e z2
  inj := fun j k s t e f q1 q2 r1 r2 r3 => by
    rcases wipeE_get q1 with z | ⟨z1, z2⟩
    · subst z; cases r1
    · rcases wipeE_get q2 with z | ⟨y1, y2⟩
      · subst z; cases r2
      · exact S.inj j k s t e f z2 y2 r1 r2 r3
  sc := fun j ns q => by
    rcases wipeE_get q with z | ⟨z1, z2⟩
    · cases z
    · rw [hs j z1]; exact S.sc j ns z2
end
end DL

set_option Elab.async false
set_option linter.all false
set_option maxRecDepth 100000
set_option maxHeartbeats 400000
/-! DLb: the judgements. -/
namespace DL
open PySem L2

inductive R (α : Type) where
  | ok (a : α) (δ : En)
  | ex (x : Xn) (δ : En)
abbrev M (α : Type) := En → Option (R α)
def M.ret {α : Type} (a : α) : M α := fun δ => some (.ok a δ)
def M.bind {α β : Type} (m : M α) (f : α → M β) : M β := fun δ => match m δ with
  | none => none
  | some (.ex x δ') => some (.ex x δ')
  | some (.ok a δ') => f a δ'
def M.lift {α : Type} (o : Option α) : M α := fun δ => match o with
  | some a => some (.ok a δ)
  | none => none
theorem M.bind_ok {α β : Type} {m : M α} {f : α → M β} {δ δ' : En} {a : α} (h : m δ = some (.ok a δ')) : M.bind m f δ = f a δ' := by unfold M.bind; rw [h]
theorem M.bind_ex {α β : Type} {m : M α} {f : α → M β} {δ δ' : En} {x : Xn} (h : m δ = some (.ex x δ')) : M.bind m f δ = some (.ex x δ') := by unfold M.bind; rw [h]

def XRep (K : Fg) (F H : Hp) (x : Xn) (cls : Value) (dd : Option Addr) : Prop :=
  cls = .ref x.C ∧ ((x.ns = [] ∧ x.ds = [] ∧ dd = none) ∨ ∃ a vs, dd = some a ∧ H a = some (.xd (x.ns.zip vs)) ∧ x.ns.length = x.ds.length ∧ Reps K F x.ds vs)

abbrev Rl (β α : Type) := Hp → St → β → α → Prop
abbrev Pr := Hp → St → Prop
def relD (K : Fg) : Rl V D := fun F _ v d => Rep K F d v
def relB : Rl Bool Bool := fun _ _ b c => b = c

/-- t computes what m computes -/
def J {β α : Type} (K : Fg) (W : WX) (pre : Pr) (t : St → Hp → (β → Hp → Prop) → Prop) (rel : Rl β α) (m : M α) : Prop :=
  ∀ (C : Cn), C.K = K → C.W = W → ∀ (al : Nat → Addr) (F H : Hp) (σ : St) (δ : En), StOk C al F H σ δ → pre F σ → ∀ r, m δ = some r → ∀ Q : β → Hp → Prop,
    (∀ a δ', r = .ok a δ' → ∀ al' F' H' b, Same F F' → StOk C al' F' H' σ δ' → rel F' σ b a → Q b H') →
    (∀ x δ', r = .ex x δ' → ∀ al' F' H' cls dd, Same F F' → StOk C al' F' H' σ δ' → XRep K F' H' x cls dd → W cls dd σ H') → t σ H Q
/-- the same of a new object of one's own -/
def Jn (K : Fg) (W : WX) (pre : Pr) (t : TE) (m : M D) : Prop :=
  ∀ (C : Cn), C.K = K → C.W = W → ∀ (al : Nat → Addr) (F H : Hp) (σ : St) (δ : En), StOk C al F H σ δ → pre F σ → ∀ r, m δ = some r → ∀ Q : VK,
    (∀ d δ', r = .ok d δ' → ∀ al' F' H' p, Same F F' → StOk C al' F' H' σ δ' → F' p = none → C.P p = none → (∀ (j : Nat) s e, δ'[j]? = some s → Sl.own s = some e → al' j ≠ p) → RepO K F' H' p d → Q (.ref p) H') →
    (∀ x δ', r = .ex x δ' → ∀ al' F' H' cls dd, Same F F' → StOk C al' F' H' σ δ' → XRep K F' H' x cls dd → W cls dd σ H') → t σ H Q
def tru : Pr := fun _ _ => True
abbrev Ev (K : Fg) (W : WX) (te : TE) (m : M D) : Prop := J K W tru te (relD K) m
abbrev En1 (K : Fg) (W : WX) (te : TE) (m : M D) : Prop := Jn K W tru te m
abbrev Et (K : Fg) (W : WX) (tt : TT) (m : M Bool) : Prop := J K W tru tt relB m

def MonoP (pre : Pr) : Prop := ∀ F F' σ, Same F F' → pre F σ → pre F' σ
def MonoR {β α : Type} (rel : Rl β α) : Prop := ∀ F F' σ b a, Same F F' → rel F σ b a → rel F' σ b a
theorem monoT : MonoP tru := fun _ _ _ _ _ => trivial
theorem monoD {K : Fg} : MonoR (relD K) := fun _ _ _ _ _ e h => Rep.mono e h
theorem monoB : MonoR relB := fun _ _ _ _ _ _ h => h
theorem MonoP.and {p q : Pr} (a : MonoP p) (b : MonoP q) : MonoP fun F σ => p F σ ∧ q F σ := fun F F' σ e h => ⟨a F F' σ e h.1, b F F' σ e h.2⟩
theorem MonoR.at {β α : Type} {rel : Rl β α} (h : MonoR rel) {b : β} {a : α} : MonoP fun F σ => rel F σ b a := fun F F' σ e q => h F F' σ b a e q

section
variable {K : Fg} {W : WX} {pre : Pr}
theorem J.bind {β γ α ε : Type} {t1 : St → Hp → (β → Hp → Prop) → Prop} {t2 : β → St → Hp → (γ → Hp → Prop) → Prop} {rel1 : Rl β α} {rel2 : Rl γ ε} {m : M α} {f : α → M ε}
    (h1 : J K W pre t1 rel1 m) (mp : MonoP pre) (h2 : ∀ a b, J K W (fun F σ => pre F σ ∧ rel1 F σ b a) (t2 b) rel2 (f a)) : J K W pre (fun σ H Q => t1 σ H fun b H1 => t2 b σ H1 Q) rel2 (m.bind f) := by
  intro C hK hW al F H σ δ S hp r hr Q hok hex
  cases e : m δ with
  | none => unfold M.bind at hr; rw [e] at hr; cases hr
  | some r1 =>
    refine h1 C hK hW al F H σ δ S hp r1 e _ (fun a δ1 e1 al1 F1 H1 b s1 S1 rel => ?_) fun x δ1 e1 al1 F1 H1 cls dd s1 S1 xr => ?_
    · subst e1
      rw [M.bind_ok e] at hr
      exact h2 a b C hK hW al1 F1 H1 σ δ1 S1 ⟨mp _ _ _ s1 hp, rel⟩ r hr Q (fun a2 δ2 e2 al2 F2 H2 b2 s2 S2 rel2 => hok a2 δ2 e2 al2 F2 H2 b2 (s1.trans s2) S2 rel2)
        fun x δ2 e2 al2 F2 H2 cls dd s2 S2 xr => hex x δ2 e2 al2 F2 H2 cls dd (s1.trans s2) S2 xr
    · subst e1
      rw [M.bind_ex e] at hr
      cases hr
      exact hex x δ1 rfl al1 F1 H1 cls dd s1 S1 xr
theorem J.bindN {β α : Type} {t1 : St → Hp → (β → Hp → Prop) → Prop} {t2 : β → TE} {rel1 : Rl β α} {m : M α} {f : α → M D}
    (h1 : J K W pre t1 rel1 m) (mp : MonoP pre) (h2 : ∀ a b, Jn K W (fun F σ => pre F σ ∧ rel1 F σ b a) (t2 b) (f a)) : Jn K W pre (fun σ H Q => t1 σ H fun b H1 => t2 b σ H1 Q) (m.bind f) := by
  intro C hK hW al F H σ δ S hp r hr Q hok hex
  cases e : m δ with
  | none => unfold M.bind at hr; rw [e] at hr; cases hr
  | some r1 =>
    refine h1 C hK hW al F H σ δ S hp r1 e _ (fun a δ1 e1 al1 F1 H1 b s1 S1 rel => ?_) fun x δ1 e1 al1 F1 H1 cls dd s1 S1 xr => ?_
    · subst e1
      rw [M.bind_ok e] at hr
      exact h2 a b C hK hW al1 F1 H1 σ δ1 S1 ⟨mp _ _ _ s1 hp, rel⟩ r hr Q (fun a2 δ2 e2 al2 F2 H2 p s2 S2 a1 a2 a3 a4 => hok _ δ2 e2 al2 F2 H2 p (s1.trans s2) S2 a1 a2 a3 a4)
        fun x δ2 e2 al2 F2 H2 cls dd s2 S2 xr => hex x δ2 e2 al2 F2 H2 cls dd (s1.trans s2) S2 xr
    · subst e1
      rw [M.bind_ex e] at hr
      cases hr
      exact hex x δ1 rfl al1 F1 H1 cls dd s1 S1 xr
theorem J.wk {β α : Type} {t : St → Hp → (β → Hp → Prop) → Prop} {rel : Rl β α} {m : M α} {p q : Pr} (h : J K W p t rel m) (i : ∀ F σ, q F σ → p F σ) : J K W q t rel m :=
  fun C hK hW al F H σ δ S hp => h C hK hW al F H σ δ S (i _ _ hp)
/-- a new object frozen -/
theorem Jn.frz {t : TE} {m : M D} (h : Jn K W pre t m) : J K W pre t (relD K) m := by
  intro C hK hW al F H σ δ S hp r hr Q hok hex
  refine h C hK hW al F H σ δ S hp r hr Q (fun d δ' e al' F' H' p s S' n1 n2 n3 o => ?_) hex
  obtain ⟨u, hu, rp⟩ := o.freeze n1
  have fs : Same F' (upd F' p u) := same_upd n1
  refine hok d δ' e al' (upd F' p u) H' (.ref p) (s.trans fs) ⟨fun a v q => ?_, S'.ph, S'.bp, S'.f0.trans fs, fun a v q => ?_, S'.len, fun i d q => ?_, fun i d q => ?_, fun i s d q r => ?_, S'.io, S'.inj, S'.sc⟩ rp
  · by_cases z : a = p
    · subst z
      rw [upd_same] at q
      rw [← q]
      exact hu
    · rw [upd_ne z] at q
      exact S'.fh a v q
  · by_cases z : a = p
    · subst z
      exact Or.inr n2
    · rw [upd_ne z] at q
      exact S'.fp a v q
  · obtain ⟨v, h1, h2⟩ := S'.fr i d q
    exact ⟨v, h1, h2.mono fs⟩
  · obtain ⟨v, h1, h2⟩ := S'.bo i d q
    exact ⟨v, h1, h2.mono fs (Same.refl _)⟩
  · obtain ⟨h1, h2, h3, h4⟩ := S'.ow i s d q r
    refine ⟨h1, ?_, h3, h4.mono fs fun o z => z⟩
    rw [upd_ne (n3 i s d q r)]
    exact h2
end

/-! ### names, constants -/
def mVar (i : Nat) : M D := fun δ => match δ[i]? with
  | some (.fr d) => some (.ok d δ)
  | some (.ow d) => some (.ok d (δ.set i (.fr d)))
  | _ => none
def mC (d : D) : M D := M.ret d
section
variable {K : Fg} {W : WX}
/-- an own object is frozen in its slot -/
theorem StOk.frz {C : Cn} {al : Nat → Addr} {F H : Hp} {σ : St} {δ : En} {i : Nat} {d : D} (S : StOk C al F H σ δ) (h : δ[i]? = some (.ow d)) :
    ∃ F', Same F F' ∧ StOk C al F' H σ (δ.set i (.fr d)) ∧ σ[i]? = some (some (.ref (al i))) ∧ Rep C.K F' d (.ref (al i)) := by
  obtain ⟨h1, h2, h3, h4⟩ := S.ow i _ d h rfl
  obtain ⟨u, hu, rp⟩ := h4.freeze h2
  have fs : Same F (upd F (al i) u) := same_upd h2
  have li : i < δ.length := (List.getElem?_eq_some_iff.mp h).1
  have key : ∀ (j : Nat) (s : Sl), (δ.set i (Sl.fr d))[j]? = some s → (j = i ∧ s = Sl.fr d) ∨ (j ≠ i ∧ δ[j]? = some s) := fun j s e => by
    by_cases q : j = i
    · subst q
      rw [List.getElem?_set_self li] at e
      exact Or.inl ⟨rfl, (Option.some.inj e).symm⟩
    · rw [List.getElem?_set_ne (Ne.symm q)] at e
      exact Or.inr ⟨q, e⟩
  refine ⟨_, fs, ⟨fun a v q => ?_, S.ph, S.bp, S.f0.trans fs, fun a v q => ?_, by rw [List.length_set]; exact S.len, fun j e q => ?_, fun j e q => ?_, fun j s e q r => ?_, fun j e q => ?_, fun j k s t e f q1 q2 r1 r2 r3 => ?_, fun j ns q => ?_⟩, h1, rp⟩
  · by_cases z : a = al i
    · rw [z] at q ⊢
      rw [upd_same] at q
      rw [← q]
      exact hu
    · rw [upd_ne z] at q
      exact S.fh a v q
  · by_cases z : a = al i
    · rw [z]
      exact Or.inr h3
    · rw [upd_ne z] at q
      exact S.fp a v q
  · rcases key j _ q with ⟨ej, z⟩ | ⟨n, q⟩
    · cases z
      rw [ej]
      exact ⟨_, h1, rp⟩
    · obtain ⟨v, g1, g2⟩ := S.fr j e q
      exact ⟨v, g1, g2.mono fs⟩
  · rcases key j _ q with ⟨ej, z⟩ | ⟨n, q⟩
    · cases z
    · obtain ⟨v, g1, g2⟩ := S.bo j e q
      exact ⟨v, g1, g2.mono fs (Same.refl _)⟩
  · rcases key j _ q with ⟨ej, z⟩ | ⟨n, q⟩
    · subst z
      cases r
    · obtain ⟨g1, g2, g3, g4⟩ := S.ow j s e q r
      refine ⟨g1, ?_, g3, g4.mono fs fun o z => z⟩
      rw [upd_ne fun z => n (S.inj j i s _ e d q h r rfl z)]
      exact g2
  · rcases key j _ q with ⟨ej, z⟩ | ⟨n, q⟩
    · cases z
    · exact S.io j e q
  · rcases key j _ q1 with ⟨ej, z⟩ | ⟨n, p1⟩
    · subst z
      cases r1
    · rcases key k _ q2 with ⟨ek, z⟩ | ⟨n2, p2⟩
      · subst z
        cases r2
      · exact S.inj j k s t e f p1 p2 r1 r2 r3
  · rcases key j _ q with ⟨ej, z⟩ | ⟨n, q⟩
    · cases z
    · exact S.sc j ns q
theorem ev_var {i : Nat} : Ev K W (tVar i) (mVar i) := by
  intro C hK hW al F H σ δ S _ r hr Q hok hex
  subst hK
  unfold mVar at hr
  cases e : δ[i]? with
  | none => rw [e] at hr; cases hr
  | some s =>
    rw [e] at hr
    cases s with
    | fr d =>
      cases hr
      obtain ⟨v, h1, h2⟩ := S.fr i d e
      exact ⟨v, h1, hok d δ rfl al F H v (Same.refl _) S h2⟩
    | ow d =>
      cases hr
      obtain ⟨F', s, S', h1, h2⟩ := S.frz e
      exact ⟨_, h1, hok d _ rfl al F' H _ s S' h2⟩
    | _ => cases hr
theorem ev_c {v : V} {d : D} (h : ∀ F, Rep K F d v) : Ev K W (tC v) (mC d) := by
  intro C hK hW al F H σ δ S _ r hr Q hok hex
  cases hr
  exact hok d δ rfl al F H v (Same.refl _) S (h F)
end

/-! ### operands: a value, or a slot that is looked at when the operation is done -/
inductive Op where
  | val (d : D) | slot (i : Nat)
def rd : Op → En → Option D
  | .val d, _ => some d
  | .slot i, δ => match δ[i]? with
    | some s => s.dat
    | none => none
def relO (K : Fg) : Rl V Op := fun F σ v o => match o with
  | .val d => Rep K F d v
  | .slot i => σ[i]? = some (some v)
theorem monoO {K : Fg} : MonoR (relO K) := fun F F' σ v o e h => by
  cases o with
  | val d => exact Rep.mono e h
  | slot i => exact h
abbrev Eo (K : Fg) (W : WX) (te : TE) (m : M Op) : Prop := J K W tru te (relO K) m
def mVal (m : M D) : M Op := m.bind fun d => M.ret (.val d)
def mRd (o : Op) : M D := fun δ => match rd o δ with
  | some d => some (.ok d δ)
  | none => none
def mOv (i : Nat) : M Op := fun δ => match δ[i]? with
  | some s => match s.dat with
    | some _ => some (.ok (.slot i) δ)
    | none => none
  | none => none

theorem StOk.opd {C : Cn} {al : Nat → Addr} {F H : Hp} {σ : St} {δ : En} (S : StOk C al F H σ δ) {o : Op} {v : V} {d : D} (h : relO C.K F σ v o) (hd : rd o δ = some d) : RepR C.K F H v d := by
  cases o with
  | val e =>
    cases hd
    exact Or.inl h
  | slot i =>
    simp only [rd] at hd
    cases e : δ[i]? with
    | none => rw [e] at hd; cases hd
    | some s =>
      rw [e] at hd
      obtain ⟨u, h1, h2⟩ := S.look e hd
      have h' : σ[i]? = some (some v) := h
      rw [h1] at h'
      cases h'
      exact h2
section
variable {K : Fg} {W : WX} {ta tb : TE} {pre : Pr}
theorem eo_val {m : M D} (h : Ev K W ta m) : Eo K W ta (mVal m) := by
  have g := J.bind (t2 := fun b _ H Q => Q b H) (rel2 := relO K) (f := fun d => M.ret (.val d)) h monoT fun a b => by
    intro C hK hW al F H σ δ S hp r hr Q hok hex
    cases hr
    exact hok _ δ rfl al F H b (Same.refl _) S hp.2
  exact g
/-- a slot that holds something -/
theorem eo_var {i : Nat} : Eo K W (tVar i) (mOv i) := by
  intro C hK hW al F H σ δ S _ r hr Q hok hex
  unfold mOv at hr
  cases e : δ[i]? with
  | none => simp only [e] at hr; cases hr
  | some s =>
    cases e2 : s.dat with
    | none => simp only [e, e2] at hr; cases hr
    | some d =>
      simp only [e, e2] at hr
      cases hr
      obtain ⟨v, h1, h2⟩ := S.look e e2
      exact ⟨v, h1, hok _ δ rfl al F H v (Same.refl _) S h1⟩
end
/-! ### primitives -/
/-- r of readable data gives data (new things may be laid) -/
def Prim1 (K : Fg) (r : V → Hp → VK → Prop) (f : D → Option D) : Prop := ∀ (F H : Hp) (v : V) (d e : D), Same F H → RepR K F H v d → f d = some e → ∀ Q : VK, (∀ F' H' u, New F H F' H' → Rep K F' e u → Q u H') → r v H Q
def Prim2 (K : Fg) (r : R2) (f : D → D → Option D) : Prop := ∀ (F H : Hp) (v w : V) (d e z : D), Same F H → RepR K F H v d → RepR K F H w e → f d e = some z → ∀ Q : VK, (∀ F' H' u, New F H F' H' → Rep K F' z u → Q u H') → r v w H Q
def Prim3 (K : Fg) (r : V → V → V → Hp → VK → Prop) (f : D → D → D → Option D) : Prop := ∀ (F H : Hp) (v w x : V) (d e c z : D), Same F H → RepR K F H v d → RepR K F H w e → RepR K F H x c → f d e c = some z → ∀ Q : VK, (∀ F' H' u, New F H F' H' → Rep K F' z u → Q u H') → r v w x H Q
/-- .. gives a new list -/
def PrimN1 (K : Fg) (r : V → Hp → VK → Prop) (f : D → Option (List D)) : Prop := ∀ (F H : Hp) (v : V) (d : D) (ds : List D), Same F H → RepR K F H v d → f d = some ds → ∀ Q : VK, (∀ p H' vs, H p = none → Same H H' → H' p = some (.lst vs) → ds.length ≤ LB → Reps K F ds vs → Q (.ref p) H') → r v H Q
def PrimN2 (K : Fg) (r : R2) (f : D → D → Option (List D)) : Prop := ∀ (F H : Hp) (v w : V) (d e : D) (ds : List D), Same F H → RepR K F H v d → RepR K F H w e → f d e = some ds → ∀ Q : VK, (∀ p H' vs, H p = none → Same H H' → H' p = some (.lst vs) → ds.length ≤ LB → Reps K F ds vs → Q (.ref p) H') → r v w H Q

def m1 (f : D → Option D) (a : M Op) : M D := a.bind fun o => (mRd o).bind fun d => M.lift (f d)
def m2 (f : D → D → Option D) (a b : M Op) : M D := a.bind fun o => b.bind fun q => (mRd o).bind fun d => (mRd q).bind fun e => M.lift (f d e)
def mn1 (f : D → Option (List D)) (a : M Op) : M D := a.bind fun o => (mRd o).bind fun d => M.lift ((f d).map D.lst)
def mn2 (f : D → D → Option (List D)) (a b : M Op) : M D := a.bind fun o => b.bind fun q => (mRd o).bind fun d => (mRd q).bind fun e => M.lift ((f d e).map D.lst)
theorem rd_bind {β : Type} {o : Op} {δ : En} {f : D → M β} {r : R β} (h : (mRd o).bind f δ = some r) : ∃ d, rd o δ = some d ∧ f d δ = some r := by
  unfold M.bind mRd at h
  cases e : rd o δ with
  | none => simp only [e] at h; cases h
  | some d => simp only [e] at h; exact ⟨d, rfl, h⟩
theorem lift_some {β : Type} {o : Option β} {δ : En} {r : R β} (h : M.lift o δ = some r) : ∃ d, o = some d ∧ r = .ok d δ := by
  unfold M.lift at h
  cases o with
  | none => cases h
  | some d => cases h; exact ⟨d, rfl, rfl⟩
section
variable {K : Fg} {W : WX} {ta tb : TE} {pre : Pr}
theorem ev_1 {r : V → Hp → VK → Prop} {f : D → Option D} {a : M Op} (p : Prim1 K r f) (ha : Eo K W ta a) : Ev K W (fun σ H Q => ta σ H fun x H1 => r x H1 Q) (m1 f a) := by
  refine J.bind (t2 := fun x _ H Q => r x H Q) ha monoT fun o v => ?_
  intro C hK hW al F H σ δ S hp q hr Q hok hex
  subst hK
  obtain ⟨d, h1, hr⟩ := rd_bind hr
  obtain ⟨e, h2, rfl⟩ := lift_some hr
  exact p F H v d e S.fh (S.opd hp.2 h1) h2 Q fun F' H' u n ru => hok e δ rfl al F' H' u n.ff (S.new n) ru
theorem ev_2 {r : R2} {f : D → D → Option D} {a b : M Op} (p : Prim2 K r f) (ha : Eo K W ta a) (hb : Eo K W tb b) : Ev K W (tOp r ta tb) (m2 f a b) := by
  refine J.bind (t2 := fun x σ H Q => tb σ H fun y H2 => r x y H2 Q) ha monoT fun o v => ?_
  refine J.bind (t2 := fun y _ H Q => r v y H Q) (hb.wk fun _ _ _ => trivial) (monoT.and monoO.at) fun q w => ?_
  intro C hK hW al F H σ δ S hp r' hr Q hok hex
  subst hK
  obtain ⟨d, h1, hr⟩ := rd_bind hr
  obtain ⟨e, h2, hr⟩ := rd_bind hr
  obtain ⟨z, h3, rfl⟩ := lift_some hr
  exact p F H v w d e z S.fh (S.opd hp.1.2 h1) (S.opd hp.2 h2) h3 Q fun F' H' u n ru => hok z δ rfl al F' H' u n.ff (S.new n) ru
theorem newO {C : Cn} {al : Nat → Addr} {F H H' : Hp} {σ : St} {δ : En} {p : Addr} {vs : List V} {ds : List D} (S : StOk C al F H σ δ) (hp : H p = none) (hh : Same H H') (ho : H' p = some (.lst vs)) (hl : ds.length ≤ LB) (hr : Reps C.K F ds vs) :
    StOk C al F H' σ δ ∧ F p = none ∧ C.P p = none ∧ (∀ (j : Nat) s e, δ[j]? = some s → Sl.own s = some e → al j ≠ p) ∧ RepO C.K F H' p (.lst ds) := by
  refine ⟨S.new ⟨Same.refl _, S.fh.trans hh, hh, fun _ _ q => Or.inl q⟩, S.fh.free hp, S.ph.free hp, fun j s e q r z => ?_, vs, ho, hl, hr⟩
  obtain ⟨_, _, _, h4⟩ := S.ow j s e q r
  obtain ⟨u, hu⟩ := h4.there
  rw [z, hp] at hu
  cases hu
theorem en_1 {r : V → Hp → VK → Prop} {f : D → Option (List D)} {a : M Op} (p : PrimN1 K r f) (ha : Eo K W ta a) : En1 K W (fun σ H Q => ta σ H fun x H1 => r x H1 Q) (mn1 f a) := by
  refine J.bindN (t2 := fun x _ H Q => r x H Q) ha monoT fun o v => ?_
  intro C hK hW al F H σ δ S hp q hr Q hok hex
  subst hK
  obtain ⟨d, h1, hr⟩ := rd_bind hr
  obtain ⟨e, h2, rfl⟩ := lift_some hr
  cases h3 : f d with
  | none => rw [h3] at h2; cases h2
  | some ds =>
    rw [h3] at h2
    cases h2
    refine p F H v d ds S.fh (S.opd hp.2 h1) h3 Q fun x H' vs hx hh ho hl hr => ?_
    obtain ⟨g1, g2, g3, g4, g5⟩ := newO S hx hh ho hl hr
    exact hok _ δ rfl al F H' x (Same.refl _) g1 g2 g3 g4 g5
theorem en_2 {r : R2} {f : D → D → Option (List D)} {a b : M Op} (p : PrimN2 K r f) (ha : Eo K W ta a) (hb : Eo K W tb b) : En1 K W (tOp r ta tb) (mn2 f a b) := by
  refine J.bindN (t2 := fun x σ H Q => tb σ H fun y H2 => r x y H2 Q) ha monoT fun o v => ?_
  refine J.bindN (t2 := fun y _ H Q => r v y H Q) (hb.wk fun _ _ _ => trivial) (monoT.and monoO.at) fun q w => ?_
  intro C hK hW al F H σ δ S hp r' hr Q hok hex
  subst hK
  obtain ⟨d, h1, hr⟩ := rd_bind hr
  obtain ⟨e, h2, hr⟩ := rd_bind hr
  obtain ⟨z, h3, rfl⟩ := lift_some hr
  cases h4 : f d e with
  | none => rw [h4] at h3; cases h3
  | some ds =>
    rw [h4] at h3
    cases h3
    refine p F H v w d e ds S.fh (S.opd hp.1.2 h1) (S.opd hp.2 h2) h4 Q fun x H' vs hx hh ho hl hr => ?_
    obtain ⟨g1, g2, g3, g4, g5⟩ := newO S hx hh ho hl hr
    exact hok _ δ rfl al F H' x (Same.refl _) g1 g2 g3 g4 g5
end

/-! ### arguments -/
def relA (K : Fg) : Rl (List V) (List Op) := fun F σ vs os => Paired (fun v o => relO K F σ v o) vs os
theorem monoA {K : Fg} : MonoR (relA K) := fun F F' σ vs os e h => by
  induction h with
  | nil => exact .nil
  | cons r _ ih => exact .cons (monoO _ _ _ _ _ e r) ih
abbrev Ea (K : Fg) (W : WX) (ta : TA) (m : M (List Op)) : Prop := J K W tru ta (relA K) m
def maNil : M (List Op) := M.ret []
def maCons (a : M Op) (b : M (List Op)) : M (List Op) := a.bind fun o => b.bind fun os => M.ret (o :: os)
section
variable {K : Fg} {W : WX}
theorem ea_nil : Ea K W tNil maNil := by
  intro C hK hW al F H σ δ S hp r hr Q hok hex
  cases hr
  exact hok [] δ rfl al F H [] (Same.refl _) S .nil
theorem ea_cons {te : TE} {tr : TA} {a : M Op} {b : M (List Op)} (ha : Eo K W te a) (hb : Ea K W tr b) : Ea K W (tCons te tr) (maCons a b) := by
  refine J.bind (t2 := fun x σ H Q => tr σ H fun xs H2 => Q (x :: xs) H2) ha monoT fun o v => ?_
  refine J.bind (t2 := fun xs _ H Q => Q (v :: xs) H) (hb.wk fun _ _ _ => trivial) (monoT.and monoO.at) fun q w => ?_
  intro C hK hW al F H σ δ S hp r' hr Q hok hex
  cases hr
  exact hok _ δ rfl al F H _ (Same.refl _) S (.cons hp.1.2 hp.2)
/-- what arguments hold -/
def rds : List Op → En → Option (List D)
  | [], _ => some []
  | o :: os, δ => match rd o δ, rds os δ with
    | some d, some ds => some (d :: ds)
    | _, _ => none
theorem StOk.opds {C : Cn} {al : Nat → Addr} {F H : Hp} {σ : St} {δ : En} (S : StOk C al F H σ δ) : ∀ {os : List Op} {vs : List V} {ds : List D}, relA C.K F σ vs os → rds os δ = some ds → Paired (fun v d => RepR C.K F H v d) vs ds
  | [], _, ds, h, e => by
    cases h
    cases e
    exact .nil
  | o :: os, _, ds, h, e => by
    cases h with
    | cons r t =>
      unfold rds at e
      cases e1 : rd o δ with
      | none => rw [e1] at e; cases e
      | some d =>
        cases e2 : rds os δ with
        | none => rw [e1, e2] at e; cases e
        | some ds' =>
          rw [e1, e2] at e
          cases e
          exact .cons (S.opd r e1) (S.opds t e2)
def mRds (os : List Op) : M (List D) := fun δ => match rds os δ with
  | some ds => some (.ok ds δ)
  | none => none
theorem rds_bind {β : Type} {os : List Op} {δ : En} {f : List D → M β} {r : R β} (h : (mRds os).bind f δ = some r) : ∃ ds, rds os δ = some ds ∧ f ds δ = some r := by
  unfold M.bind mRds at h
  cases e : rds os δ with
  | none => simp only [e] at h; cases h
  | some d => simp only [e] at h; exact ⟨d, rfl, h⟩
def PrimA (K : Fg) (r : List V → Hp → VK → Prop) (f : List D → Option D) : Prop := ∀ (F H : Hp) (vs : List V) (ds : List D) (e : D), Same F H → Paired (fun v d => RepR K F H v d) vs ds → f ds = some e → ∀ Q : VK, (∀ F' H' u, New F H F' H' → Rep K F' e u → Q u H') → r vs H Q
def PrimNA (K : Fg) (r : List V → Hp → VK → Prop) (f : List D → Option (List D)) : Prop := ∀ (F H : Hp) (vs : List V) (ds es : List D), Same F H → Paired (fun v d => RepR K F H v d) vs ds → f ds = some es → ∀ Q : VK, (∀ p H' us, H p = none → Same H H' → H' p = some (.lst us) → es.length ≤ LB → Reps K F es us → Q (.ref p) H') → r vs H Q
def mA (f : List D → Option D) (a : M (List Op)) : M D := a.bind fun os => (mRds os).bind fun ds => M.lift (f ds)
def mnA (f : List D → Option (List D)) (a : M (List Op)) : M D := a.bind fun os => (mRds os).bind fun ds => M.lift ((f ds).map D.lst)
theorem ev_A {ta : TA} {r : List V → Hp → VK → Prop} {f : List D → Option D} {a : M (List Op)} (p : PrimA K r f) (ha : Ea K W ta a) : Ev K W (tCB r ta) (mA f a) := by
  refine J.bind (t2 := fun x _ H Q => r x H Q) ha monoT fun o v => ?_
  intro C hK hW al F H σ δ S hp q hr Q hok hex
  subst hK
  obtain ⟨d, h1, hr⟩ := rds_bind hr
  obtain ⟨e, h2, rfl⟩ := lift_some hr
  exact p F H v d e S.fh (S.opds hp.2 h1) h2 Q fun F' H' u n ru => hok e δ rfl al F' H' u n.ff (S.new n) ru
theorem en_A {ta : TA} {r : List V → Hp → VK → Prop} {f : List D → Option (List D)} {a : M (List Op)} (p : PrimNA K r f) (ha : Ea K W ta a) : En1 K W (tCB r ta) (mnA f a) := by
  refine J.bindN (t2 := fun x _ H Q => r x H Q) ha monoT fun o v => ?_
  intro C hK hW al F H σ δ S hp q hr Q hok hex
  subst hK
  obtain ⟨d, h1, hr⟩ := rds_bind hr
  obtain ⟨e, h2, rfl⟩ := lift_some hr
  cases h3 : f d with
  | none => rw [h3] at h2; cases h2
  | some ds =>
    rw [h3] at h2
    cases h2
    refine p F H v d ds S.fh (S.opds hp.2 h1) h3 Q fun x H' vs hx hh ho hl hr => ?_
    obtain ⟨g1, g2, g3, g4, g5⟩ := newO S hx hh ho hl hr
    exact hok _ δ rfl al F H' x (Same.refl _) g1 g2 g3 g4 g5
end

/-! ### displays: frozen values -/
def relS (K : Fg) : Rl (List V) (List D) := fun F _ vs ds => Reps K F ds vs
theorem monoS {K : Fg} : MonoR (relS K) := fun F F' σ vs ds e h => Reps.mono e h
abbrev Eds (K : Fg) (W : WX) (ta : TA) (m : M (List D)) : Prop := J K W tru ta (relS K) m
def mdNil : M (List D) := M.ret []
def mdCons (a : M D) (b : M (List D)) : M (List D) := a.bind fun d => b.bind fun ds => M.ret (d :: ds)
def mTup (a : M (List D)) : M D := a.bind fun ds => M.lift (if ds.length ≤ LB then some (.tup ds) else none)
def mLst (a : M (List D)) : M D := a.bind fun ds => M.lift (if ds.length ≤ LB then some (.lst ds) else none)
section
variable {K : Fg} {W : WX}
theorem ed_nil : Eds K W tNil mdNil := by
  intro C hK hW al F H σ δ S hp r hr Q hok hex
  cases hr
  exact hok [] δ rfl al F H [] (Same.refl _) S reps_nil
theorem ed_cons {te : TE} {tr : TA} {a : M D} {b : M (List D)} (ha : Ev K W te a) (hb : Eds K W tr b) : Eds K W (tCons te tr) (mdCons a b) := by
  refine J.bind (t2 := fun x σ H Q => tr σ H fun xs H2 => Q (x :: xs) H2) ha monoT fun o v => ?_
  refine J.bind (t2 := fun xs _ H Q => Q (v :: xs) H) (hb.wk fun _ _ _ => trivial) (monoT.and monoD.at) fun q w => ?_
  intro C hK hW al F H σ δ S hp r' hr Q hok hex
  cases hr
  exact hok _ δ rfl al F H _ (Same.refl _) S (reps_cons hp.1.2 hp.2)
theorem if_some {β : Type} {c : Prop} [Decidable c] {x y : β} (h : (if c then some x else none) = some y) : c ∧ x = y := by
  by_cases q : c
  · rw [if_pos q] at h
    exact ⟨q, Option.some.inj h⟩
  · rw [if_neg q] at h
    cases h
/-- a display of a tuple: its object is known -/
def tTupZ (t : TA) : TE := fun σ H Q => t σ H fun xs H1 => xs.length ≤ sizeLine ∧ ∀ p o, H1 p = none → o.dict = none → Q (V.ref p) (upd H1 p (.frz o (.tup xs)))
theorem pe_tupZ {X : Cx} {es : List Expr} {t : TA} {pos : Pos} {x1} (h : PA X es t) : PE X (.Tuple es x1 pos) (tTupZ t) := by
  refine ⟨fun pins s σ H Q I hq => ?_⟩
  refine wpAny_Tuple_spliced (thn (h.run pos pins s σ H _ I hq) fun us s1 ⟨xs, H1, I1, r, z, q⟩ => ⟨by rw [← r.length]; exact z, ?_⟩)
  have hf : H1 s1.heap.objs.size = none := I1.hok.fresh (Nat.le_refl _)
  refine ⟨.ref s1.heap.objs.size, upd H1 s1.heap.objs.size (.frz { cls := .type "tuple", data := .seq us.toArray } (.tup xs)), I1.laid (t' := s1.toks) (fun b u e => Heap.get?_push_of_some _ e) (Nat.le_refl _) ?_, rfl, q _ _ hf rfl⟩
  exact ⟨Heap.get?_push_size _ rfl, z, us, r, ⟨_, Heap.get?_push_size _ rfl, rfl, _, rfl⟩⟩
/-- a new tuple -/
theorem newT {K : Fg} {F H : Hp} {p : Addr} {o : Obj} {ds : List D} {vs : List V} (fh : Same F H) (hn : H p = none) (ho : o.dict = none) (hl : ds.length ≤ LB) (hs : Reps K F ds vs) : New F H (upd F p (.frz o (.tup vs))) (upd H p (.frz o (.tup vs))) ∧ Rep K (upd F p (.frz o (.tup vs))) (.tup ds) (.ref p) := by
  have n : New F H (upd F p (.frz o (.tup vs))) (upd H p (.frz o (.tup vs))) := New.lay fh hn
  exact ⟨n, Rep.tup_iff.mpr ⟨p, vs, rfl, Or.inl ⟨o, ho, upd_same⟩, hl, hs.mono n.ff⟩⟩
theorem ev_tup {ta : TA} {a : M (List D)} (ha : Eds K W ta a) : Ev K W (tTupZ ta) (mTup a) := by
  refine J.bind (t2 := fun (xs : List V) (_ : St) (H : Hp) (Q : VK) => xs.length ≤ sizeLine ∧ ∀ p o, H p = none → o.dict = none → Q (V.ref p) (upd H p (.frz o (.tup xs)))) ha monoT fun ds vs => ?_
  intro C hK hW al F H σ δ S hp r hr Q hok hex
  obtain ⟨e, h2, rfl⟩ := lift_some hr
  obtain ⟨hl, rfl⟩ := if_some h2
  have hs : Reps K F ds vs := hp.2
  refine ⟨by rw [hs.len]; exact LB_size hl, fun p o hn ho => ?_⟩
  obtain ⟨n, hr⟩ := newT S.fh hn ho hl hs
  exact hok _ δ rfl al _ _ _ n.ff (S.new n) hr
theorem en_lst {ta : TA} {a : M (List D)} (ha : Eds K W ta a) : En1 K W (tLst ta) (mLst a) := by
  refine J.bindN (t2 := fun (xs : List V) (_ : St) (H : Hp) (Q : VK) => xs.length ≤ sizeLine ∧ ∀ p, H p = none → Q (V.ref p) (upd H p (.lst xs))) ha monoT fun ds vs => ?_
  intro C hK hW al F H σ δ S hp r hr Q hok hex
  subst hK
  obtain ⟨e, h2, rfl⟩ := lift_some hr
  obtain ⟨hl, rfl⟩ := if_some h2
  have hs : Reps C.K F ds vs := hp.2
  refine ⟨by rw [hs.len]; exact LB_size hl, fun p hn => ?_⟩
  obtain ⟨g1, g2, g3, g4, g5⟩ := newO S hn (same_upd hn) upd_same hl hs
  exact hok _ δ rfl al F _ p (Same.refl _) g1 g2 g3 g4 g5
end
end DL

set_option Elab.async false
set_option linter.all false
set_option maxRecDepth 100000
set_option maxHeartbeats 400000
/-! DLc: statements, loops, comprehensions. -/
namespace DL
open PySem L2

inductive Ou where
  | nx (δ : En) | rt (d : D) (δ : En) | rn (d : D) (δ : En) | bk (δ : En) | ct (δ : En) | ex (x : Xn) (δ : En)
def EndOk (C : Cn) (F : Hp) (Z : Ends) : Ou → Prop
  | .nx δ' => ∀ al' F' H' σ', Same F F' → StOk C al' F' H' σ' δ' → Z.nx σ' H'
  | .rt d δ' => ∀ al' F' H' σ' v, Same F F' → StOk C al' F' H' σ' δ' → Rep C.K F' d v → Z.rt v H'
  | .rn d δ' => ∀ al' F' H' σ' p, Same F F' → StOk C al' F' H' σ' δ' → F' p = none → C.P p = none → RepO C.K F' H' p d → Z.rt (.ref p) H'
  | .bk δ' => ∀ al' F' H' σ', Same F F' → StOk C al' F' H' σ' δ' → Z.bk σ' H'
  | .ct δ' => ∀ al' F' H' σ', Same F F' → StOk C al' F' H' σ' δ' → Z.ct σ' H'
  | .ex x δ' => ∀ al' F' H' σ' cls dd, Same F F' → StOk C al' F' H' σ' δ' → XRep C.K F' H' x cls dd → C.W cls dd σ' H'
theorem EndOk.mono {C : Cn} {F F1 : Hp} {Z : Ends} {o : Ou} (e : Same F F1) (h : EndOk C F Z o) : EndOk C F1 Z o := by
  cases o with
  | nx δ' => exact fun al' F' H' σ' s => h al' F' H' σ' (e.trans s)
  | rt d δ' => exact fun al' F' H' σ' v s => h al' F' H' σ' v (e.trans s)
  | rn d δ' => exact fun al' F' H' σ' p s => h al' F' H' σ' p (e.trans s)
  | bk δ' => exact fun al' F' H' σ' s => h al' F' H' σ' (e.trans s)
  | ct δ' => exact fun al' F' H' σ' s => h al' F' H' σ' (e.trans s)
  | ex x δ' => exact fun al' F' H' σ' cls dd s => h al' F' H' σ' cls dd (e.trans s)
abbrev Ms := En → Option Ou
def Es (K : Fg) (W : WX) (ts : TS) (m : Ms) : Prop :=
  ∀ (C : Cn), C.K = K → C.W = W → ∀ (al : Nat → Addr) (F H : Hp) (σ : St) (δ : En), StOk C al F H σ δ → ∀ o, m δ = some o → ∀ Z : Ends, EndOk C F Z o → ts Z σ H
/-- an expression, then something -/
def mS {α : Type} (m : M α) (k : α → Ms) : Ms := fun δ => match m δ with
  | none => none
  | some (.ex x δ') => some (.ex x δ')
  | some (.ok a δ') => k a δ'
section
variable {K : Fg} {W : WX}
theorem es_of {β α : Type} {t1 : St → Hp → (β → Hp → Prop) → Prop} {rel : Rl β α} {u : β → TS} {m : M α} {k : α → Ms} (h : J K W tru t1 rel m)
    (hk : ∀ a b, ∀ (C : Cn), C.K = K → C.W = W → ∀ (al : Nat → Addr) (F H : Hp) (σ : St) (δ : En), StOk C al F H σ δ → rel F σ b a → ∀ o, k a δ = some o → ∀ Z : Ends, EndOk C F Z o → u b Z σ H) :
    Es K W (fun Z σ H => t1 σ H fun b H1 => u b Z σ H1) (mS m k) := by
  intro C hK hW al F H σ δ S o ho Z hZ
  cases e : m δ with
  | none => unfold mS at ho; rw [e] at ho; cases ho
  | some r =>
    refine h C hK hW al F H σ δ S trivial r e _ (fun a δ1 e1 al1 F1 H1 b s1 S1 rl => ?_) fun x δ1 e1 al1 F1 H1 cls dd s1 S1 xr => ?_
    · subst e1
      have ho' : k a δ1 = some o := by unfold mS at ho; rw [e] at ho; exact ho
      exact hk a b C hK hW al1 F1 H1 σ δ1 S1 rl o ho' Z (hZ.mono s1)
    · subst e1
      unfold mS at ho
      rw [e] at ho
      cases ho
      subst hK
      rw [← hW]
      exact hZ al1 F1 H1 σ cls dd s1 S1 xr
theorem es_ofN {t1 : TE} {u : V → TS} {m : M D} {k : D → Ms} (h : En1 K W t1 m)
    (hk : ∀ d p, ∀ (C : Cn), C.K = K → C.W = W → ∀ (al : Nat → Addr) (F H : Hp) (σ : St) (δ : En), StOk C al F H σ δ → F p = none → C.P p = none → (∀ (j : Nat) s e, δ[j]? = some s → Sl.own s = some e → al j ≠ p) → RepO K F H p d → ∀ o, k d δ = some o → ∀ Z : Ends, EndOk C F Z o → u (.ref p) Z σ H) :
    Es K W (fun Z σ H => t1 σ H fun b H1 => u b Z σ H1) (mS m k) := by
  intro C hK hW al F H σ δ S o ho Z hZ
  cases e : m δ with
  | none => unfold mS at ho; rw [e] at ho; cases ho
  | some r =>
    refine h C hK hW al F H σ δ S trivial r e _ (fun a δ1 e1 al1 F1 H1 p s1 S1 n1 n2 n3 n4 => ?_) fun x δ1 e1 al1 F1 H1 cls dd s1 S1 xr => ?_
    · subst e1
      have ho' : k a δ1 = some o := by unfold mS at ho; rw [e] at ho; exact ho
      exact hk a p C hK hW al1 F1 H1 σ δ1 S1 n1 n2 n3 n4 o ho' Z (hZ.mono s1)
    · subst e1
      unfold mS at ho
      rw [e] at ho
      cases ho
      subst hK
      rw [← hW]
      exact hZ al1 F1 H1 σ cls dd s1 S1 xr

/-! ### blocks -/
def mNext : Ms := fun δ => some (.nx δ)
def mSeq (a b : Ms) : Ms := fun δ => match a δ with
  | some (.nx δ') => b δ'
  | r => r
theorem es_next : Es K W tNext mNext := fun C hK hW al F H σ δ S o ho Z hZ => by
  cases ho
  exact hZ al F H σ (Same.refl _) S
theorem es_seq {t u : TS} {a b : Ms} (ha : Es K W t a) (hb : Es K W u b) : Es K W (tSeq t u) (mSeq a b) := by
  intro C hK hW al F H σ δ S o ho Z hZ
  cases e : a δ with
  | none => unfold mSeq at ho; rw [e] at ho; cases ho
  | some r =>
    refine ha C hK hW al F H σ δ S r e { Z with nx := u Z } ?_
    unfold mSeq at ho
    rw [e] at ho
    cases r with
    | nx δ1 => exact fun al1 F1 H1 σ1 s1 S1 => hb C hK hW al1 F1 H1 σ1 δ1 S1 o ho Z (hZ.mono s1)
    | rt d δ1 => cases ho; exact hZ
    | rn d δ1 => cases ho; exact hZ
    | bk δ1 => cases ho; exact hZ
    | ct δ1 => cases ho; exact hZ
    | ex x δ1 => cases ho; exact hZ
def mBrk : Ms := fun δ => some (.bk δ)
def mCnt : Ms := fun δ => some (.ct δ)
theorem es_break : Es K W tBreak mBrk := fun C hK hW al F H σ δ S o ho Z hZ => by
  cases ho
  exact hZ al F H σ (Same.refl _) S
theorem es_cont : Es K W tCont mCnt := fun C hK hW al F H σ δ S o ho Z hZ => by
  cases ho
  exact hZ al F H σ (Same.refl _) S
def mNever : Ms := fun _ => none
theorem es_never : Es K W tNever mNever := fun C hK hW al F H σ δ S o ho Z hZ => by cases ho
def mIf (c : M Bool) (a b : Ms) : Ms := mS c fun k => if k then a else b
theorem es_if {tc : TT} {t u : TS} {c : M Bool} {a b : Ms} (hc : Et K W tc c) (ha : Es K W t a) (hb : Es K W u b) : Es K W (tIfS tc t u) (mIf c a b) := by
  refine es_of (u := fun (b : Bool) Z σ H => if b = true then t Z σ H else u Z σ H) hc fun k b C hK hW al F H σ δ S rl o ho Z hZ => ?_
  have e : b = k := rl
  subst e
  cases b with
  | true => exact ha C hK hW al F H σ δ S o ho Z hZ
  | false => exact hb C hK hW al F H σ δ S o ho Z hZ
def mRet (m : M D) : Ms := mS m fun d δ => some (.rt d δ)
theorem es_ret {te : TE} {m : M D} (h : Ev K W te m) : Es K W (tRet te) (mRet m) := by
  refine es_of (u := fun (v : V) Z σ H => Z.rt v H) h fun d v C hK hW al F H σ δ S rl o ho Z hZ => ?_
  cases ho
  subst hK
  exact hZ al F H σ v (Same.refl _) S rl
/-- a new object of one's own is handed back -/
def mRetW (m : M D) : Ms := mS m fun d δ => some (.rn d δ)
theorem es_retW {te : TE} {m : M D} (h : En1 K W te m) : Es K W (tRet te) (mRetW m) := by
  refine es_ofN (u := fun (v : V) Z σ H => Z.rt v H) h fun d p C hK hW al F H σ δ S n1 n2 n3 n4 o ho Z hZ => ?_
  cases ho
  subst hK
  exact hZ al F H σ p (Same.refl _) S n1 n2 n4
def mRetO (i : Nat) : Ms := fun δ => match δ[i]? with
  | some (.ow d) => some (.rn d δ)
  | _ => none
theorem es_retO {i : Nat} : Es K W (tRet (tVar i)) (mRetO i) := fun C hK hW al F H σ δ S o ho Z hZ => by
  unfold mRetO at ho
  cases e : δ[i]? with
  | none => simp only [e] at ho; cases ho
  | some s =>
    cases s with
    | ow d =>
      simp only [e] at ho
      cases ho
      obtain ⟨h1, h2, h3, h4⟩ := S.ow i _ d e rfl
      exact ⟨_, h1, hZ al F H σ _ (Same.refl _) S h2 h3 h4⟩
    | _ => simp only [e] at ho; cases ho
def mRetN : Ms := fun δ => some (.rt .non δ)
theorem es_retN : Es K W tRetN mRetN := fun C hK hW al F H σ δ S o ho Z hZ => by
  cases ho
  exact hZ al F H σ .non (Same.refl _) S (Rep.non_iff.mpr rfl)
def mDrop (m : M D) : Ms := mS m fun _ δ => some (.nx δ)
theorem es_drop {te : TE} {m : M D} (h : Ev K W te m) : Es K W (tDrop te) (mDrop m) := by
  refine es_of (u := fun (v : V) Z σ H => Z.nx σ H) h fun d v C hK hW al F H σ δ S rl o ho Z hZ => ?_
  cases ho
  exact hZ al F H σ (Same.refl _) S

/-! ### targets -/
abbrev Mg := D → En → Option En
def Eg (K : Fg) (b : Bool) (g : TG) (m : Mg) : Prop :=
  ∀ (C : Cn), C.K = K → ∀ (al : Nat → Addr) (F H : Hp) (σ : St) (δ : En), StOk C al F H σ δ → ∀ d v δ', Rq K b F d v → m d δ = some δ' → ∀ Q : St → Hp → Prop, (∀ al' F' H' σ', Same F F' → StOk C al' F' H' σ' δ' → Q σ' H') → g v σ H Q
def Egs (K : Fg) (g : TGs) (m : List D → En → Option En) : Prop :=
  ∀ (C : Cn), C.K = K → ∀ (al : Nat → Addr) (F H : Hp) (σ : St) (δ : En), StOk C al F H σ δ → ∀ ds vs δ', Reps K F ds vs → m ds δ = some δ' → ∀ Q : St → Hp → Prop, (∀ al' F' H' σ', Same F F' → StOk C al' F' H' σ' δ' → Q σ' H') → g vs σ H Q
def gN (i : Nat) : Mg := fun d δ => some (δ.set i (.fr d))
theorem eg_name {i : Nat} : Eg K false (gName i) (gN i) := fun C hK al F H σ δ S d v δ' h e Q k => by
  cases e
  subst hK
  exact k al F H _ (Same.refl _) (S.set h)
def gs0 : List D → En → Option En := fun ds δ => match ds with
  | [] => some δ
  | _ => none
def gsC (a : Mg) (b : List D → En → Option En) : List D → En → Option En := fun ds δ => match ds with
  | d :: r => match a d δ with
    | some δ' => b r δ'
    | none => none
  | [] => none
def gT (m : List D → En → Option En) : Mg := fun d δ => match d with
  | .tup ds => m ds δ
  | _ => none
theorem egs_nil : Egs K gNil gs0 := fun C hK al F H σ δ S ds vs δ' h e Q k => by
  cases ds with
  | nil =>
    cases e
    exact ⟨h.inv0, k al F H σ (Same.refl _) S⟩
  | cons d r => cases e
theorem egs_cons {t : TG} {u : TGs} {a : Mg} {b : List D → En → Option En} (ha : Eg K false t a) (hb : Egs K u b) : Egs K (gCons t u) (gsC a b) := fun C hK al F H σ δ S ds vs δ' h e Q k => by
  cases ds with
  | nil => cases e
  | cons d r =>
    obtain ⟨v, us, rfl, h1, h2⟩ := h.inv
    cases e1 : a d δ with
    | none => simp only [gsC, e1] at e; cases e
    | some δ1 =>
      simp only [gsC, e1] at e
      exact ⟨v, us, rfl, ha C hK al F H σ δ S d v δ1 h1 e1 _ fun al1 F1 H1 σ1 s1 S1 => hb C hK al1 F1 H1 σ1 δ1 S1 r us δ' (h2.mono s1) e Q fun al2 F2 H2 σ2 s2 S2 => k al2 F2 H2 σ2 (s1.trans s2) S2⟩
/-- how many targets -/
def GsN (b : List D → En → Option En) (n : Nat) : Prop := ∀ ds δ δ', b ds δ = some δ' → ds.length = n
theorem gsn0 : GsN gs0 0 := fun ds δ δ' h => by cases ds with
  | nil => rfl
  | cons d r => cases h
theorem gsnC {a : Mg} {b : List D → En → Option En} {n : Nat} (h : GsN b n) : GsN (gsC a b) (n + 1) := fun ds δ δ' e => by cases ds with
  | nil => cases e
  | cons d r =>
    cases e1 : a d δ with
    | none => simp only [gsC, e1] at e; cases e
    | some δ1 =>
      simp only [gsC, e1] at e
      simp [h r δ1 δ' e]

theorem eg_tup {u : TGs} {b : List D → En → Option En} {n : Nat} {q : Bool} (hb : Egs K u b) (h : GsN b n) : Eg K q (gTup K n u) (gT b) := fun C hK al F H σ δ S d v δ' hr e Q k => by
  cases d with
  | tup ds =>
    obtain ⟨a, vs, rfl, h1, h3⟩ := Rq.tup hr
    have e' : b ds δ = some δ' := e
    exact ⟨a, vs, rfl, same_t S.fh h1, by rw [h3.len]; exact h ds δ δ' e', hb C hK al F H σ δ S ds vs δ' h3 e' Q k⟩
  | _ => cases e
def mAsg (g : Mg) (m : M D) : Ms := mS m fun d δ => match g d δ with
  | some δ' => some (.nx δ')
  | none => none
theorem es_asg {te : TE} {g : TG} {m : M D} {a : Mg} (h : Ev K W te m) (hg : Eg K false g a) : Es K W (tAsg te g) (mAsg a m) := by
  refine es_of (u := fun (v : V) Z σ H => g v σ H Z.nx) h fun d v C hK hW al F H σ δ S rl o ho Z hZ => ?_
  cases e : a d δ with
  | none => simp only [e] at ho; cases ho
  | some δ1 =>
    simp only [e] at ho
    cases ho
    exact hg C hK al F H σ δ S d v δ1 rl e Z.nx fun al' F' H' σ' s S' => hZ al' F' H' σ' s S'
/-- x = a new object of one's own -/
def mAsgO (i : Nat) (m : M D) : Ms := mS m fun d δ => some (.nx (δ.set i (.ow d)))
theorem es_asgO {te : TE} {i : Nat} {m : M D} (h : En1 K W te m) : Es K W (tAsg te (gName i)) (mAsgO i m) := by
  refine es_ofN (u := fun (v : V) Z σ H => gName i v σ H Z.nx) h fun d p C hK hW al F H σ δ S n1 n2 n3 n4 o ho Z hZ => ?_
  cases ho
  subst hK
  exact hZ _ F H _ (Same.refl _) (S.setO n4 n1 n2 fun j s e q r _ => n3 j s e q r)

/-! ### what a loop walks -/
def Walks (C : Cn) (b : Bool) (Fw : Hp) (I : It) (ds : List D) : Prop := ds.length ≤ LB ∧ ∀ F H, Same Fw F → Same F H → Same C.P H → ∀ i : Nat,
  (∀ d, ds[i]? = some d → I.go i H ∧ ∀ x H', I.yld i H x H' → ∃ F', New F H F' H' ∧ Rq C.K b F' d x) ∧ (ds.length ≤ i → I.stop i H)
def Ei (K : Fg) (W : WX) (b : Bool) (wi : TI) (m : M (List D)) : Prop :=
  ∀ (C : Cn), C.K = K → C.W = W → ∀ (al : Nat → Addr) (F H : Hp) (σ : St) (δ : En), StOk C al F H σ δ → ∀ r, m δ = some r → ∀ R : It → Hp → Prop,
    (∀ ds δ', r = .ok ds δ' → ∀ al' F' H' I, Same F F' → StOk C al' F' H' σ δ' → Walks C b F' I ds → R I H') →
    (∀ x δ', r = .ex x δ' → ∀ al' F' H' cls dd, Same F F' → StOk C al' F' H' σ δ' → XRep K F' H' x cls dd → W cls dd σ H') → wi σ H R
def mSeqOf (m : M D) : M (List D) := m.bind fun d => M.lift (match d with
  | .lst ds => some ds
  | _ => none)
def mTupOf (m : M D) : M (List D) := m.bind fun d => M.lift (match d with
  | .tup ds => some ds
  | _ => none)
theorem ei_list {tl : TE} {m : M D} (h : Ev K W tl m) : Ei K W false (iList K tl) (mSeqOf m) := by
  intro C hK hW al F H σ δ S r hr R hok hex
  cases e : m δ with
  | none => unfold mSeqOf M.bind at hr; rw [e] at hr; cases hr
  | some r1 =>
    refine h C hK hW al F H σ δ S trivial r1 e _ (fun d δ1 e1 al1 F1 H1 v s1 S1 rl => ?_) fun x δ1 e1 al1 F1 H1 cls dd s1 S1 xr => ?_
    · subst e1
      have hr' : mSeqOf m δ = some r := hr
      unfold mSeqOf at hr'
      rw [M.bind_ok e] at hr'
      obtain ⟨ds, h2, rfl⟩ := lift_some hr'
      cases d with
      | lst es =>
        cases h2
        subst hK
        obtain ⟨a, vs, rfl, g1, g2, g3⟩ := Rep.lst_iff.mp rl
        refine ⟨a, rfl, ⟨vs, Or.inl (Or.inl (S1.fh _ _ g1))⟩, hok _ δ1 rfl al1 F1 H1 _ s1 S1 ⟨g2, fun F2 H2 f1 f2 _ i => ⟨fun d hd => ?_, fun hl => ?_⟩⟩⟩
        · obtain ⟨u, hu, ru⟩ := g3.get hd
          have ha : H2 a = some (.lst vs) := f2 _ _ (f1 _ _ g1)
          refine ⟨⟨vs, u, Or.inl (Or.inl ha), hu⟩, fun x H' y => ?_⟩
          obtain ⟨rfl, y⟩ := y
          have q := y vs (Or.inl (Or.inl ha))
          rw [hu] at q
          cases q
          exact ⟨F2, New.refl f2, ru.mono f1⟩
        · exact ⟨vs, Or.inl (Or.inl (f2 _ _ (f1 _ _ g1))), by rw [g3.len]; exact hl⟩
      | _ => cases h2
    · subst e1
      unfold mSeqOf at hr
      rw [M.bind_ex e] at hr
      cases hr
      exact hex x δ1 rfl al1 F1 H1 cls dd s1 S1 xr
theorem ei_tup {tl : TE} {m : M D} (h : Ev K W tl m) : Ei K W false (iTup K tl) (mTupOf m) := by
  intro C hK hW al F H σ δ S r hr R hok hex
  cases e : m δ with
  | none => unfold mTupOf M.bind at hr; rw [e] at hr; cases hr
  | some r1 =>
    refine h C hK hW al F H σ δ S trivial r1 e _ (fun d δ1 e1 al1 F1 H1 v s1 S1 rl => ?_) fun x δ1 e1 al1 F1 H1 cls dd s1 S1 xr => ?_
    · subst e1
      have hr' : mTupOf m δ = some r := hr
      unfold mTupOf at hr'
      rw [M.bind_ok e] at hr'
      obtain ⟨ds, h2, rfl⟩ := lift_some hr'
      cases d with
      | tup es =>
        cases h2
        subst hK
        obtain ⟨a, vs, rfl, g1, g2, g3⟩ := Rep.tup_iff.mp rl
        refine ⟨a, rfl, ⟨vs, same_t S1.fh g1.sq⟩, hok _ δ1 rfl al1 F1 H1 _ s1 S1 ⟨g2, fun F2 H2 f1 f2 _ i => ⟨fun d hd => ?_, fun hl => ?_⟩⟩⟩
        · obtain ⟨u, hu, ru⟩ := g3.get hd
          have ha : SqT C.K H2 a vs := same_t f2 (same_t f1 g1.sq)
          refine ⟨⟨vs, u, ha, hu⟩, fun x H' y => ?_⟩
          obtain ⟨rfl, y⟩ := y
          have q := y vs ha
          rw [hu] at q
          cases q
          exact ⟨F2, New.refl f2, ru.mono f1⟩
        · exact ⟨vs, same_t f2 (same_t f1 g1.sq), by rw [g3.len]; exact hl⟩
      | _ => cases h2
    · subst e1
      unfold mTupOf at hr
      rw [M.bind_ex e] at hr
      cases hr
      exact hex x δ1 rfl al1 F1 H1 cls dd s1 S1 xr
/-- from an argument list of frozen values -/
theorem ei_args {ta : TA} {m : M (List D)} {u : List V → Hp → (It → Hp → Prop) → Prop} {f : List D → Option (List D)} {b : Bool} (h : Eds K W ta m)
    (hu : ∀ (C : Cn) (F H : Hp) (as : List D) (vs : List V) (ds : List D), C.K = K → Same F H → Reps K F as vs → f as = some ds → ∀ R : It → Hp → Prop, (∀ I, Walks C b F I ds → R I H) → u vs H R) :
    Ei K W b (fun σ H R => ta σ H fun vs H1 => u vs H1 R) (m.bind fun as => M.lift (f as)) := by
  intro C hK hW al F H σ δ S r hr R hok hex
  cases e : m δ with
  | none => unfold M.bind at hr; rw [e] at hr; cases hr
  | some r1 =>
    refine h C hK hW al F H σ δ S trivial r1 e _ (fun as δ1 e1 al1 F1 H1 vs s1 S1 rl => ?_) fun x δ1 e1 al1 F1 H1 cls dd s1 S1 xr => ?_
    · subst e1
      rw [M.bind_ok e] at hr
      obtain ⟨ds, h2, rfl⟩ := lift_some hr
      exact hu C F1 H1 as vs ds hK S1.fh rl h2 R fun I w => hok ds δ1 rfl al1 F1 H1 I s1 S1 w
    · subst e1
      rw [M.bind_ex e] at hr
      cases hr
      exact hex x δ1 rfl al1 F1 H1 cls dd s1 S1 xr
def rangeD (lo : Int) (n : Nat) : List D := (List.range n).map fun i => .int (lo + (i : Nat))
theorem rangeD_get {lo : Int} {n i : Nat} {d : D} (h : (rangeD lo n)[i]? = some d) : i < n ∧ d = .int (lo + (i : Nat)) := by
  unfold rangeD at h
  rw [List.getElem?_map] at h
  by_cases q : i < n
  · rw [List.getElem?_range q] at h
    exact ⟨q, (Option.some.inj h).symm⟩
  · rw [List.getElem?_eq_none (by rw [List.length_range]; omega)] at h
    cases h
theorem rangeD_len {lo : Int} {n : Nat} : (rangeD lo n).length = n := by unfold rangeD; rw [List.length_map, List.length_range]
theorem walks_range {C : Cn} {F : Hp} {lo : Int} {n : Nat} (hn : n ≤ LB) : Walks C false F (Itr lo n) (rangeD lo n) := ⟨by rw [rangeD_len]; exact hn, fun F2 H2 f1 f2 _ i => ⟨fun d hd => by
    obtain ⟨q, rfl⟩ := rangeD_get hd
    refine ⟨q, fun x H' y => ?_⟩
    obtain ⟨rfl, rfl⟩ := y
    exact ⟨F2, New.refl f2, (Rep.int_iff (K := C.K) (F := F2)).mpr rfl⟩, fun hl => by
    rw [rangeD_len] at hl
    exact hl⟩⟩
def rg1 : List D → Option (List D)
  | [.int j] => if -1000000 ≤ j ∧ j ≤ 1000000 then some (rangeD 0 j.toNat) else none
  | _ => none
def rg2 : List D → Option (List D)
  | [.int i, .int j] => if 0 ≤ i ∧ i ≤ 1000000 ∧ -1000000 ≤ j ∧ j ≤ 1000000 then some (rangeD i (j - i).toNat) else none
  | _ => none
def mIt (f : List D → Option (List D)) (m : M (List D)) : M (List D) := m.bind fun as => M.lift (f as)
theorem ei_range1 {ta : TA} {m : M (List D)} (h : Eds K W ta m) : Ei K W false (iRng1 ta) (mIt rg1 m) := by
  refine ei_args (u := fun vs H R => ∃ j : Int, vs = [.int j] ∧ -(2 ^ 62) ≤ j ∧ j < 2 ^ 62 ∧ R (Itr 0 j.toNat) H) h fun C F H as vs ds hK fh rs hf R hR => ?_
  match as, hf with
  | [.int j], hf =>
    obtain ⟨⟨h1, h2⟩, rfl⟩ := if_some hf
    obtain ⟨v, us, rfl, r1, r2⟩ := rs.inv
    cases r2.inv0
    exact ⟨j, by rw [Rep.int_iff.mp r1], by omega, by omega, hR _ (walks_range (by unfold LB; omega))⟩
theorem ei_range2 {ta : TA} {m : M (List D)} (h : Eds K W ta m) : Ei K W false (iRng2 ta) (mIt rg2 m) := by
  refine ei_args (u := fun vs H R => ∃ i j : Int, vs = [.int i, .int j] ∧ (-(2 ^ 62) ≤ i ∧ i < 2 ^ 62 ∧ -(2 ^ 62) ≤ j ∧ j < 2 ^ 62) ∧ R (Itr i (j - i).toNat) H) h fun C F H as vs ds hK fh rs hf R hR => ?_
  match as, hf with
  | [.int i, .int j], hf =>
    obtain ⟨h1, rfl⟩ := if_some hf
    obtain ⟨v, us, rfl, r1, r2⟩ := rs.inv
    obtain ⟨w, ws, rfl, r3, r4⟩ := r2.inv
    cases r4.inv0
    exact ⟨i, j, by rw [Rep.int_iff.mp r1, Rep.int_iff.mp r3], by omega, hR _ (walks_range (by unfold LB; omega))⟩
/-! ### for -/
def forL (g : Mg) (b : Ms) : List D → Ms
  | [], δ => some (.nx δ)
  | d :: ds, δ => match g d δ with
    | none => none
    | some δ1 => match b δ1 with
      | some (.nx δ2) => forL g b ds δ2
      | some (.ct δ2) => forL g b ds δ2
      | some (.bk δ2) => some (.nx δ2)
      | r => r
def mFor (it : M (List D)) (g : Mg) (b : Ms) : Ms := mS it fun ds => forL g b ds
theorem es_for {wi : TI} {g : TG} {tb : TS} {it : M (List D)} {a : Mg} {b : Ms} {q : Bool} (hi : Ei K W q wi it) (hg : Eg K q g a) (hb : Es K W tb b) : Es K W (tFor wi g tb) (mFor it a b) := by
  intro C hK hW al F H σ δ S o ho Z hZ
  cases e : it δ with
  | none => unfold mFor mS at ho; rw [e] at ho; cases ho
  | some r =>
    refine hi C hK hW al F H σ δ S r e _ (fun ds δ1 e1 al1 F1 H1 I s1 S1 wk => ?_) fun x δ1 e1 al1 F1 H1 cls dd s1 S1 xr => ?_
    · subst e1
      have ho' : forL a b ds δ1 = some o := by unfold mFor mS at ho; rw [e] at ho; exact ho
      refine ⟨fun i n σ2 H2 => n = ds.length - i ∧ i ≤ ds.length ∧ ∃ al2 F2 δ2, Same F1 F2 ∧ StOk C al2 F2 H2 σ2 δ2 ∧ forL a b (ds.drop i) δ2 = some o, ⟨ds.length, rfl, Nat.zero_le _, al1, F1, δ1, Same.refl _, S1, ho'⟩, ?_⟩
      rintro i n σ2 H2 ⟨rfl, hi, al2, F2, δ2, s2, S2, h2⟩
      by_cases hl : i < ds.length
      · have hd : ds[i]? = some ds[i] := List.getElem?_eq_getElem hl
        obtain ⟨go, yl⟩ := (wk.2 F2 H2 s2 S2.fh S2.ph i).1 _ hd
        have hdr : ds.drop i = ds[i] :: ds.drop (i + 1) := List.drop_eq_getElem_cons hl
        rw [hdr] at h2
        refine Or.inr ⟨go, fun σ3 H3 => ∃ al3 F3 δ3, Same F1 F3 ∧ StOk C al3 F3 H3 σ3 δ3 ∧ forL a b (ds.drop (i + 1)) δ3 = some o, fun σ3 H3 q => ⟨ds.length - (i + 1), by omega, rfl, hl, q⟩, fun x H3 y => ?_⟩
        obtain ⟨F3, nw, rx⟩ := yl x H3 y
        have S3 := S2.new nw
        cases e2 : a ds[i] δ2 with
        | none => simp only [forL, e2] at h2; cases h2
        | some δ3 =>
          subst hK
          refine hg C rfl al2 F3 H3 σ2 δ2 S3 _ x δ3 rx e2 _ fun al4 F4 H4 σ4 s4 S4 => ?_
          cases e3 : b δ3 with
          | none => simp only [forL, e2, e3] at h2; cases h2
          | some r3 =>
            have s14 : Same F1 F4 := s2.trans (nw.ff.trans s4)
            refine hb C rfl hW al4 F4 H4 σ4 δ3 S4 r3 e3 _ ?_
            cases r3 with
            | nx δ5 =>
              simp only [forL, e2, e3] at h2
              exact fun al5 F5 H5 σ5 s5 S5 => ⟨al5, F5, δ5, s14.trans s5, S5, h2⟩
            | ct δ5 =>
              simp only [forL, e2, e3] at h2
              exact fun al5 F5 H5 σ5 s5 S5 => ⟨al5, F5, δ5, s14.trans s5, S5, h2⟩
            | bk δ5 =>
              simp only [forL, e2, e3] at h2
              cases h2
              exact fun al5 F5 H5 σ5 s5 S5 => hZ al5 F5 H5 σ5 (s1.trans (s14.trans s5)) S5
            | rt d δ5 =>
              simp only [forL, e2, e3] at h2
              cases h2
              exact hZ.mono (s1.trans s14)
            | rn d δ5 =>
              simp only [forL, e2, e3] at h2
              cases h2
              exact hZ.mono (s1.trans s14)
            | ex x δ5 =>
              simp only [forL, e2, e3] at h2
              cases h2
              exact hZ.mono (s1.trans s14)
      · have hdr : ds.drop i = [] := List.drop_eq_nil_of_le (by omega)
        rw [hdr] at h2
        cases h2
        exact Or.inl ⟨(wk.2 F2 H2 s2 S2.fh S2.ph i).2 (by omega), hZ al2 F2 H2 σ2 (s1.trans s2) S2⟩
    · subst e1
      unfold mFor mS at ho
      rw [e] at ho
      cases ho
      subst hK
      rw [← hW]
      exact hZ al1 F1 H1 σ cls dd s1 S1 xr
/-! ### while -/
def whileF (c : M Bool) (b : Ms) : Nat → Ms
  | 0, _ => none
  | n + 1, δ => match c δ with
    | none => none
    | some (.ex x δ1) => some (.ex x δ1)
    | some (.ok false δ1) => some (.nx δ1)
    | some (.ok true δ1) => match b δ1 with
      | some (.nx δ2) => whileF c b n δ2
      | some (.ct δ2) => whileF c b n δ2
      | some (.bk δ2) => some (.nx δ2)
      | r => r
def mWhile (n : Nat) (c : M Bool) (b : Ms) : Ms := whileF c b n
theorem es_while {tc : TT} {tb : TS} {n : Nat} {c : M Bool} {b : Ms} (hc : Et K W tc c) (hb : Es K W tb b) : Es K W (tWhile tc tb) (mWhile n c b) := by
  intro C hK hW al F H σ δ S o ho Z hZ
  refine ⟨fun m σ1 H1 => ∃ al1 F1 δ1, Same F F1 ∧ StOk C al1 F1 H1 σ1 δ1 ∧ whileF c b m δ1 = some o, ⟨n, al, F, δ, Same.refl _, S, ho⟩, ?_⟩
  rintro m σ1 H1 ⟨al1, F1, δ1, s1, S1, h1⟩
  cases m with
  | zero => cases h1
  | succ m =>
    cases e : c δ1 with
    | none => simp only [whileF, e] at h1; cases h1
    | some r =>
      refine hc C hK hW al1 F1 H1 σ1 δ1 S1 trivial r e _ (fun k δ2 e2 al2 F2 H2 k' s2 S2 rl => ?_) fun x δ2 e2 al2 F2 H2 cls dd s2 S2 xr => ?_
      · subst e2
        have ek : k' = k := rl
        subst ek
        cases k' with
        | false =>
          simp only [whileF, e] at h1
          cases h1
          exact hZ al2 F2 H2 σ1 (s1.trans s2) S2
        | true =>
          refine ⟨fun σ3 H3 => ∃ al3 F3 δ3, Same F F3 ∧ StOk C al3 F3 H3 σ3 δ3 ∧ whileF c b m δ3 = some o, fun σ3 H3 q => ⟨m, Nat.lt_succ_self m, q⟩, ?_⟩
          cases e3 : b δ2 with
          | none => simp only [whileF, e, e3] at h1; cases h1
          | some r3 =>
            have s02 : Same F F2 := s1.trans s2
            refine hb C hK hW al2 F2 H2 σ1 δ2 S2 r3 e3 _ ?_
            cases r3 with
            | nx δ5 =>
              simp only [whileF, e, e3] at h1
              exact fun al5 F5 H5 σ5 s5 S5 => ⟨al5, F5, δ5, s02.trans s5, S5, h1⟩
            | ct δ5 =>
              simp only [whileF, e, e3] at h1
              exact fun al5 F5 H5 σ5 s5 S5 => ⟨al5, F5, δ5, s02.trans s5, S5, h1⟩
            | bk δ5 =>
              simp only [whileF, e, e3] at h1
              cases h1
              exact fun al5 F5 H5 σ5 s5 S5 => hZ al5 F5 H5 σ5 (s02.trans s5) S5
            | rt d δ5 =>
              simp only [whileF, e, e3] at h1
              cases h1
              exact hZ.mono s02
            | rn d δ5 =>
              simp only [whileF, e, e3] at h1
              cases h1
              exact hZ.mono s02
            | ex x δ5 =>
              simp only [whileF, e, e3] at h1
              cases h1
              exact hZ.mono s02
      · subst e2
        simp only [whileF, e] at h1
        cases h1
        subst hK
        rw [← hW]
        exact hZ al2 F2 H2 σ1 cls dd (s1.trans s2) S2 xr
end
end DL

set_option Elab.async false
set_option linter.all false
set_option maxRecDepth 100000
set_option maxHeartbeats 400000
/-! DLd: tests, comprehensions, calls, objects, changes of own objects. -/
namespace DL
open PySem L2
section
variable {K : Fg} {W : WX}
/-! ### tests -/
def mTest (m : M D) : M Bool := m.bind fun d => M.lift (match d with
  | .bl b => some b
  | _ => none)
theorem et_test {te : TE} {m : M D} (h : Ev K W te m) : Et K W (tTest te) (mTest m) := by
  refine J.bind (t2 := fun (x : V) (_ : St) (H : Hp) (Q : Bool → Hp → Prop) => ∃ k, x = V.bl k ∧ Q k H) h monoT fun d v => ?_
  intro C hK hW al F H σ δ S hp r hr Q hok hex
  obtain ⟨b, h2, rfl⟩ := lift_some hr
  cases d with
  | bl c =>
    cases h2
    have hv : Rep K F (.bl b) v := hp.2
    exact ⟨b, Rep.bl_iff.mp hv, hok b δ rfl al F H b (Same.refl _) S rfl⟩
  | _ => cases h2
theorem et_B {te : TE} {m : M D} (h : Ev K W te m) : Et K W (tB te) (mTest m) := et_test h
def mAnd (a b : M Bool) : M Bool := a.bind fun k => if k then b else M.ret false
def mOr (a b : M Bool) : M Bool := a.bind fun k => if k then M.ret true else b
def mNot (a : M Bool) : M Bool := a.bind fun k => M.ret (!k)
theorem et_and {t u : TT} {a b : M Bool} (ha : Et K W t a) (hb : Et K W u b) : Et K W (tAnd t u) (mAnd a b) := by
  refine J.bind (t2 := fun (c : Bool) σ H Q => if c = true then u σ H Q else Q false H) ha monoT fun k c => ?_
  intro C hK hW al F H σ δ S hp r hr Q hok hex
  have e : c = k := hp.2
  subst e
  cases c with
  | true => exact hb C hK hW al F H σ δ S trivial r hr Q hok hex
  | false =>
    cases hr
    exact hok false δ rfl al F H false (Same.refl _) S rfl
theorem et_or {t u : TT} {a b : M Bool} (ha : Et K W t a) (hb : Et K W u b) : Et K W (tOr t u) (mOr a b) := by
  refine J.bind (t2 := fun (c : Bool) σ H Q => if c = true then Q true H else u σ H Q) ha monoT fun k c => ?_
  intro C hK hW al F H σ δ S hp r hr Q hok hex
  have e : c = k := hp.2
  subst e
  cases c with
  | false => exact hb C hK hW al F H σ δ S trivial r hr Q hok hex
  | true =>
    cases hr
    exact hok true δ rfl al F H true (Same.refl _) S rfl
theorem et_not {t : TT} {a : M Bool} (ha : Et K W t a) : Et K W (tNot t) (mNot a) := by
  refine J.bind (t2 := fun (c : Bool) σ H Q => Q (!c) H) ha monoT fun k c => ?_
  intro C hK hW al F H σ δ S hp r hr Q hok hex
  have e : c = k := hp.2
  subst e
  cases hr
  exact hok _ δ rfl al F H _ (Same.refl _) S rfl
/-! values of and, or, not (truths) -/
def mAndV (a b : M D) : M D := a.bind fun d => match d with
  | .bl true => b
  | .bl false => M.ret (.bl false)
  | _ => fun _ => none
def mOrV (a b : M D) : M D := a.bind fun d => match d with
  | .bl true => M.ret (.bl true)
  | .bl false => b
  | _ => fun _ => none
def mNotV (a : M D) : M D := a.bind fun d => M.lift (match d with
  | .bl b => some (.bl (!b))
  | _ => none)
theorem ev_and {ta tb : TE} {a b : M D} (ha : Ev K W ta a) (hb : Ev K W tb b) : Ev K W (tAndV ta tb) (mAndV a b) := by
  refine J.bind (t2 := fun (x : V) σ H (Q : VK) => ∃ c, x = V.bl c ∧ if c = true then tb σ H Q else Q (.bl false) H) ha monoT fun d v => ?_
  intro C hK hW al F H σ δ S hp r hr Q hok hex
  cases d with
  | bl c =>
    have hv : Rep K F (.bl c) v := hp.2
    refine ⟨c, Rep.bl_iff.mp hv, ?_⟩
    cases c with
    | true => exact hb C hK hW al F H σ δ S trivial r hr Q hok hex
    | false =>
      cases hr
      exact hok _ δ rfl al F H _ (Same.refl _) S (Rep.bl_iff.mpr rfl)
  | _ => cases hr
theorem ev_or {ta tb : TE} {a b : M D} (ha : Ev K W ta a) (hb : Ev K W tb b) : Ev K W (tOrV ta tb) (mOrV a b) := by
  refine J.bind (t2 := fun (x : V) σ H (Q : VK) => ∃ c, x = V.bl c ∧ if c = true then Q (.bl true) H else tb σ H Q) ha monoT fun d v => ?_
  intro C hK hW al F H σ δ S hp r hr Q hok hex
  cases d with
  | bl c =>
    have hv : Rep K F (.bl c) v := hp.2
    refine ⟨c, Rep.bl_iff.mp hv, ?_⟩
    cases c with
    | false => exact hb C hK hW al F H σ δ S trivial r hr Q hok hex
    | true =>
      cases hr
      exact hok _ δ rfl al F H _ (Same.refl _) S (Rep.bl_iff.mpr rfl)
  | _ => cases hr
theorem ev_not {ta : TE} {a : M D} (ha : Ev K W ta a) : Ev K W (tNotV ta) (mNotV a) := by
  refine J.bind (t2 := fun (x : V) (_ : St) H (Q : VK) => ∃ c, x = V.bl c ∧ Q (.bl (!c)) H) ha monoT fun d v => ?_
  intro C hK hW al F H σ δ S hp r hr Q hok hex
  obtain ⟨b, h2, rfl⟩ := lift_some hr
  cases d with
  | bl c =>
    cases h2
    have hv : Rep K F (.bl c) v := hp.2
    exact ⟨c, Rep.bl_iff.mp hv, hok _ δ rfl al F H _ (Same.refl _) S (Rep.bl_iff.mpr rfl)⟩
  | _ => cases h2
def mIfE (c : M Bool) (a b : M D) : M D := c.bind fun k => if k then a else b
theorem ev_ifE {t : TT} {ta tb : TE} {c : M Bool} {a b : M D} (hc : Et K W t c) (ha : Ev K W ta a) (hb : Ev K W tb b) : Ev K W (tIf t ta tb) (mIfE c a b) := by
  refine J.bind (t2 := fun (c : Bool) σ H Q => if c = true then ta σ H Q else tb σ H Q) hc monoT fun k c => ?_
  intro C hK hW al F H σ δ S hp r hr Q hok hex
  have e : c = k := hp.2
  subst e
  cases c with
  | false => exact hb C hK hW al F H σ δ S trivial r hr Q hok hex
  | true => exact ha C hK hW al F H σ δ S trivial r hr Q hok hex
/-- a < b < c -/
def mChain (f g : D → D → Option D) (a b c : M Op) : M D := a.bind fun o => b.bind fun q => (mRd o).bind fun d => (mRd q).bind fun e => (M.lift (f d e)).bind fun z => match z with
  | .bl true => c.bind fun p => (mRd q).bind fun e => (mRd p).bind fun y => M.lift (g e y)
  | .bl false => M.ret (.bl false)
  | _ => fun _ => none
theorem ev_chain {r r' : R2} {f g : D → D → Option D} {ta tb tc : TE} {a b c : M Op} (p : Prim2 K r f) (p' : Prim2 K r' g) (ha : Eo K W ta a) (hb : Eo K W tb b) (hc : Eo K W tc c) : Ev K W (tChain r r' ta tb tc) (mChain f g a b c) := by
  refine J.bind (t2 := fun (x : V) σ H Q => tb σ H fun y H2 => r x y H2 fun z H3 => ∃ k, z = .bl k ∧ (if k = true then tc σ H3 fun w' H4 => r' y w' H4 Q else Q (.bl false) H3)) ha monoT fun o v => ?_
  refine J.bind (t2 := fun (y : V) σ H Q => r v y H fun z H3 => ∃ k, z = .bl k ∧ (if k = true then tc σ H3 fun w' H4 => r' y w' H4 Q else Q (.bl false) H3)) (hb.wk fun _ _ _ => trivial) (monoT.and monoO.at) fun q w => ?_
  intro C hK hW al F H σ δ S hp r0 hr Q hok hex
  subst hK
  obtain ⟨d, h1, hr⟩ := rd_bind hr
  obtain ⟨e, h2, hr⟩ := rd_bind hr
  cases h3 : f d e with
  | none => unfold M.bind M.lift at hr; rw [h3] at hr; cases hr
  | some z =>
    rw [M.bind_ok (show M.lift (f d e) δ = some (.ok z δ) by rw [h3]; rfl)] at hr
    refine p F H v w d e z S.fh (S.opd hp.1.2 h1) (S.opd hp.2 h2) h3 _ fun F1 H1 u n ru => ?_
    have S1 := S.new n
    cases z with
    | bl k =>
      refine ⟨k, Rep.bl_iff.mp ru, ?_⟩
      cases k with
      | false =>
        cases hr
        exact hok _ δ rfl al F1 H1 _ n.ff S1 (Rep.bl_iff.mpr rfl)
      | true =>
        have hr : (c.bind fun p => (mRd q).bind fun e => (mRd p).bind fun y => M.lift (g e y)) δ = some r0 := hr
        cases e1 : c δ with
        | none => unfold M.bind at hr; rw [e1] at hr; cases hr
        | some r1 =>
          refine hc C rfl hW al F1 H1 σ δ S1 trivial r1 e1 _ (fun o2 δ2 e2 al2 F2 H2 x s2 S2 rl => ?_) fun x δ2 e2 al2 F2 H2 cls dd s2 S2 xr => ?_
          · subst e2
            rw [M.bind_ok e1] at hr
            obtain ⟨e', h4, hr⟩ := rd_bind hr
            obtain ⟨y, h5, hr⟩ := rd_bind hr
            obtain ⟨z', h6, rfl⟩ := lift_some hr
            have hq : relO C.K F2 σ w q := monoO _ _ _ _ _ (n.ff.trans s2) hp.2
            exact p' F2 H2 w x e' y z' S2.fh (S2.opd hq h4) (S2.opd rl h5) h6 Q fun F' H' u n' ru => hok z' δ2 rfl al2 F' H' u ((n.ff.trans s2).trans n'.ff) (S2.new n') ru
          · subst e2
            rw [M.bind_ex e1] at hr
            cases hr
            exact hex x δ2 rfl al2 F2 H2 cls dd (n.ff.trans s2) S2 xr
    | _ => cases hr

/-! ### comprehensions -/
def lcL (g : Mg) (t : M Bool) (e : M D) (vs : List Nat) : List D → List D → En → Option (R (List D))
  | acc, [], δ => some (.ok acc δ)
  | acc, d :: ds, δ => match g d δ with
    | none => none
    | some δ1 => match t δ1 with
      | some (.ok false δ2) => lcL g t e vs acc ds (wipeE δ2 vs)
      | some (.ok true δ2) => match e δ2 with
        | some (.ok y δ3) => lcL g t e vs (acc ++ [y]) ds (wipeE δ3 vs)
        | _ => none
      | _ => none
def mLc (it : M (List D)) (g : Mg) (t : M Bool) (e : M D) (vs : List Nat) : M D := it.bind fun ds => fun δ => match lcL g t e vs [] ds (wipeE δ vs) with
  | some (.ok acc δ') => some (.ok (.lst acc) δ')
  | _ => none
/-- the target writes to these slots alone -/
def Gw (g : TG) (vs : List Nat) : Prop := ∀ v σ H Q, g v σ H Q → g v σ H fun σ2 H2 => wipe σ2 vs = wipe σ vs ∧ Q σ2 H2
theorem wipe_set {σ : St} {x : Option V} {j : Nat} : ∀ {vs : List Nat}, j ∈ vs → wipe (σ.set j x) vs = wipe σ vs
  | [], h => by simp at h
  | v :: vs, h => by
    unfold wipe
    by_cases q : j = v
    · subst q
      by_cases z : j ∈ vs
      · rw [wipe_set z]
      · have c : ∀ (us : List Nat) (τ : St), j ∉ us → wipe (τ.set j x) us = (wipe τ us).set j x := by
          intro us
          induction us with
          | nil => intro τ _; rfl
          | cons u us ih =>
            intro τ hu
            unfold wipe
            rw [ih τ (fun z => hu (by simp [z])), List.set_comm _ _ (fun z => hu (by simp [z]))]
        rw [c vs σ z, List.set_set]
    · rw [wipe_set (by simpa [q] using h)]
theorem gw_name {j : Nat} {vs : List Nat} (h : j ∈ vs) : Gw (gName j) vs := fun v σ H Q q => ⟨wipe_set h, q⟩
def Gws (g : TGs) (vs : List Nat) : Prop := ∀ us σ H Q, g us σ H Q → g us σ H fun σ2 H2 => wipe σ2 vs = wipe σ vs ∧ Q σ2 H2
theorem gw_nil {vs : List Nat} : Gws gNil vs := fun us σ H Q q => ⟨q.1, rfl, q.2⟩
theorem gw_cons {t : TG} {u : TGs} {vs : List Nat} (mo : ∀ v σ H (P Q : St → Hp → Prop), (∀ a b, P a b → Q a b) → t v σ H P → t v σ H Q) (ha : Gw t vs) (mu : ∀ us σ H (P Q : St → Hp → Prop), (∀ a b, P a b → Q a b) → u us σ H P → u us σ H Q) (hb : Gws u vs) : Gws (gCons t u) vs := fun us σ H Q q => by
  obtain ⟨v, r, e, q⟩ := q
  refine ⟨v, r, e, mo _ _ _ _ _ (fun σ1 H1 z => ?_) (ha v σ H _ q)⟩
  obtain ⟨z1, z2⟩ := z
  refine mu _ _ _ _ _ (fun σ2 H2 y => ?_) (hb r σ1 H1 Q z2)
  exact ⟨y.1.trans z1, y.2⟩
/-- readings are monotone -/
def Gm (t : TG) : Prop := ∀ v σ H (P Q : St → Hp → Prop), (∀ a b, P a b → Q a b) → t v σ H P → t v σ H Q
def Gms (t : TGs) : Prop := ∀ v σ H (P Q : St → Hp → Prop), (∀ a b, P a b → Q a b) → t v σ H P → t v σ H Q
theorem gm_name {i : Nat} : Gm (gName i) := fun v σ H P Q k h => k _ _ h
theorem gm_nil : Gms gNil := fun v σ H P Q k h => ⟨h.1, k _ _ h.2⟩
theorem gm_cons {t : TG} {u : TGs} (ht : Gm t) (hu : Gms u) : Gms (gCons t u) := fun v σ H P Q k h => by
  obtain ⟨a, r, e, h⟩ := h
  exact ⟨a, r, e, ht _ _ _ _ _ (fun σ1 H1 z => hu _ _ _ _ _ k z) h⟩
theorem gm_tup {n : Nat} {u : TGs} (hu : Gms u) : Gm (gTup K n u) := fun v σ H P Q k h => by
  obtain ⟨a, xs, e1, e2, e3, h⟩ := h
  exact ⟨a, xs, e1, e2, e3, hu _ _ _ _ _ k h⟩
theorem gw_tup {n : Nat} {u : TGs} {vs : List Nat} (hu : Gws u vs) : Gw (gTup K n u) vs := fun v σ H Q h => by
  obtain ⟨a, xs, e1, e2, e3, h⟩ := h
  exact ⟨a, xs, e1, e2, e3, hu _ _ _ _ h⟩
theorem wipe_wipe {σ : St} {vs : List Nat} : wipe (wipe σ vs) vs = wipe σ vs := by
  have h : ∀ (us : List Nat) (τ : St), (∀ u ∈ us, u ∈ vs) → wipe (wipe τ us) vs = wipe τ vs := by
    intro us
    induction us with
    | nil => intro τ _; rfl
    | cons u us ih =>
      intro τ hu
      show wipe ((wipe τ us).set u none) vs = wipe τ vs
      rw [wipe_set (hu u (by simp)), ih τ fun w hw => hu w (by simp [hw])]
  exact h vs σ fun _ z => z
theorem en_lc {wi : TI} {g : TG} {tt : TT} {te : TE} {vs : List Nat} {it : M (List D)} {a : Mg} {t : M Bool} {e : M D} {q : Bool} (hi : Ei K W q wi it) (hg : Eg K q g a) (gw : Gw g vs) (gm : Gm g) (ht : Et K W tt t) (he : Ev K W te e) :
    En1 K W (tLc wi g tt te vs) (mLc it a t e vs) := by
  intro C hK hW al F H σ δ S _ r hr Q hok hex
  cases e0 : it δ with
  | none => unfold mLc M.bind at hr; rw [e0] at hr; cases hr
  | some r0 =>
    refine hi C hK hW al F H σ δ S r0 e0 _ (fun ds δ1 e1 al1 F1 H1 I s1 S1 wk => ?_) fun x δ1 e1 al1 F1 H1 cls dd s1 S1 xr => ?_
    · subst e1
      unfold mLc at hr
      rw [M.bind_ok e0] at hr
      cases e2 : lcL a t e vs [] ds (wipeE δ1 vs) with
      | none => simp only [e2] at hr; cases hr
      | some r2 =>
        cases r2 with
        | ex x δx => simp only [e2] at hr; cases hr
        | ok acc δz =>
          simp only [e2] at hr
          cases hr
          subst hK
          intro Dl hD
          -- the invariant: the list at Dl holds what is made so far
          refine ⟨fun i n H2 => n = ds.length - i ∧ i ≤ ds.length ∧ ∃ al2 F2 δ2 as us, Same F1 F2 ∧ StOk C al2 F2 H2 (wipe σ vs) δ2 ∧ F2 Dl = none ∧ (∀ (j : Nat) s d, δ2[j]? = some s → Sl.own s = some d → al2 j ≠ Dl) ∧ H2 Dl = some (.lst us) ∧ as.length ≤ i ∧ Reps C.K F2 as us ∧ (∀ j, j ∈ vs → δ2[j]? = some .un ∨ δ2[j]? = none) ∧ lcL a t e vs as (ds.drop i) δ2 = some (.ok acc δz), ?_, ?_⟩
          · have n1 : C.P Dl = none := S1.ph.free hD
            have n2 : F1 Dl = none := S1.fh.free hD
            have n3 : ∀ (j : Nat) s d, δ1[j]? = some s → Sl.own s = some d → al1 j ≠ Dl := fun j s d q r z => by
              obtain ⟨_, _, _, h4⟩ := S1.ow j s d q r
              obtain ⟨u, hu⟩ := h4.there
              rw [z, hD] at hu
              cases hu
            refine ⟨ds.length, rfl, Nat.zero_le _, al1, F1, wipeE δ1 vs, [], [], Same.refl _, (S1.poke n2 n1 n3).wiped (wipe_length _ _) fun i hi => wipe_get hi, n2, fun j s d q r => ?_, upd_same, Nat.le_refl _, reps_nil, fun j hj => ?_, e2⟩
            · rcases wipeE_get q with z | ⟨z1, z2⟩
              · subst z; cases r
              · exact n3 j s d z2 r
            · cases q : (wipeE δ1 vs)[j]? with
              | none => exact Or.inr rfl
              | some s =>
                rcases wipeE_get q with z | ⟨z1, z2⟩
                · rw [z]; exact Or.inl rfl
                · exact absurd hj z1
          · rintro i n H2 ⟨rfl, hi, al2, F2, δ2, as, us, s2, S2, nF, nO, hDl, hla, hra, hun, h2⟩
            by_cases hl : i < ds.length
            · have hd : ds[i]? = some ds[i] := List.getElem?_eq_getElem hl
              obtain ⟨go, yl⟩ := (wk.2 F2 H2 s2 S2.fh S2.ph i).1 _ hd
              rw [List.drop_eq_getElem_cons hl] at h2
              refine Or.inr ⟨go, fun H3 => ∃ al3 F3 δ3 as3 us3, Same F1 F3 ∧ StOk C al3 F3 H3 (wipe σ vs) δ3 ∧ F3 Dl = none ∧ (∀ (j : Nat) s d, δ3[j]? = some s → Sl.own s = some d → al3 j ≠ Dl) ∧ H3 Dl = some (.lst us3) ∧ as3.length ≤ i + 1 ∧ Reps C.K F3 as3 us3 ∧ (∀ j, j ∈ vs → δ3[j]? = some .un ∨ δ3[j]? = none) ∧ lcL a t e vs as3 (ds.drop (i + 1)) δ3 = some (.ok acc δz), fun H3 q => ⟨ds.length - (i + 1), by omega, rfl, hl, q⟩, fun x H3 y => ?_⟩
              obtain ⟨F3, nw, rx⟩ := yl x H3 y
              -- the context in which Dl is kept
              let C' : Cn := { C with P := upd C.P Dl (.lst us), F0 := F3 }
              have cP : C.P Dl = none := by
                cases q : C.P Dl with
                | none => rfl
                | some o =>
                  exfalso
                  -- Dl was new
                  have := S1.ph.free hD
                  rw [q] at this
                  cases this
              have S3 := S2.new nw
              have hD3 : H3 Dl = some (.lst us) := nw.hh _ _ hDl
              have nF3 : F3 Dl = none := by
                cases q : F3 Dl with
                | none => rfl
                | some o =>
                  rcases nw.nw _ _ q with z | z
                  · rw [nF] at z; cases z
                  · rw [hDl] at z; cases z
              have S3' : StOk C' al2 F3 H3 (wipe σ vs) δ2 := by
                refine ⟨S3.fh, fun b o q => ?_, fun b o q => ?_, Same.refl _, fun b o q => Or.inl q, S3.len, S3.fr, S3.bo, fun j s d q r => ?_, S3.io, S3.inj, S3.sc⟩
                · by_cases z : b = Dl
                  · subst z
                    rw [show C'.P b = upd C.P b (.lst us) b from rfl, upd_same] at q
                    cases q
                    exact hD3
                  · rw [show C'.P b = upd C.P Dl (.lst us) b from rfl, upd_ne z] at q
                    exact S3.ph b o q
                · have q' := S3.bp b o q
                  show upd C.P Dl (.lst us) b = some o
                  rw [upd_ne (ne_of_none q' cP)]
                  exact q'
                · obtain ⟨g1, g2, g3, g4⟩ := S3.ow j s d q r
                  refine ⟨g1, g2, ?_, g4⟩
                  show upd C.P Dl (.lst us) (al2 j) = none
                  rw [upd_ne (nO j s d q r)]
                  exact g3
              -- back to C
              have back : ∀ {al4 : Nat → Addr} {F4 H4 : Hp} {σ4 : St} {δ4 : En}, StOk C' al4 F4 H4 σ4 δ4 → StOk C al4 F4 H4 σ4 δ4 ∧ F4 Dl = none ∧ H4 Dl = some (.lst us) ∧ ∀ (j : Nat) s d, δ4[j]? = some s → Sl.own s = some d → al4 j ≠ Dl := fun {al4 F4 H4 σ4 δ4} S4 => by
                have pD : C'.P Dl = some (.lst us) := upd_same
                have no : ∀ (j : Nat) s d, δ4[j]? = some s → Sl.own s = some d → al4 j ≠ Dl := fun j s d q r z => by
                  obtain ⟨_, _, g3, _⟩ := S4.ow j s d q r
                  rw [z, pD] at g3
                  cases g3
                refine ⟨⟨S4.fh, fun b o q => S4.ph b o ?_, S2.bp, S3.f0.trans S4.f0, fun b o q => ?_, S4.len, S4.fr, S4.bo, fun j s d q r => ?_, S4.io, S4.inj, S4.sc⟩, ?_, S4.ph _ _ pD, no⟩
                · show upd C.P Dl (.lst us) b = some o
                  rw [upd_ne (ne_of_none q cP)]
                  exact q
                · rcases S4.fp b o q with z | z
                  · exact S3.fp b o z
                  · refine Or.inr ?_
                    by_cases w : b = Dl
                    · rw [w]; exact cP
                    · have z' : upd C.P Dl (.lst us) b = none := z
                      rw [upd_ne w] at z'
                      exact z'
                · obtain ⟨g1, g2, g3, g4⟩ := S4.ow j s d q r
                  refine ⟨g1, g2, ?_, g4⟩
                  have z' : upd C.P Dl (.lst us) (al4 j) = none := g3
                  rw [upd_ne (no j s d q r)] at z'
                  exact z'
                · cases q : F4 Dl with
                  | none => rfl
                  | some o =>
                    rcases S4.fp _ _ q with z | z
                    · rw [show C'.F0 Dl = F3 Dl from rfl, nF3] at z; cases z
                    · rw [pD] at z; cases z
              cases e3 : a ds[i] δ2 with
              | none => simp only [lcL, e3] at h2; cases h2
              | some δ3 =>
                have G := hg C' rfl al2 F3 H3 (wipe σ vs) δ2 S3' _ x δ3 rx e3 (fun σ4 H4 => ∃ al4 F4, Same F3 F4 ∧ StOk C' al4 F4 H4 σ4 δ3) fun al4 F4 H4 σ4 s4 S4 => ⟨al4, F4, s4, S4⟩
                refine gm _ _ _ _ _ (fun σ4 H4 z => ?_) (gw _ _ _ _ G)
                obtain ⟨wz, al4, F4, s4, S4⟩ := z
                rw [wipe_wipe] at wz
                refine ⟨wz, ?_⟩
                -- slots are forgotten again
                have lw : (wipe σ vs).length = σ4.length := by rw [← wz, wipe_length]
                have gt : ∀ j, j ∉ vs → (wipe σ vs)[j]? = σ4[j]? := fun j hj => by rw [← wz]; exact wipe_get hj
                cases e4 : t δ3 with
                | none => simp only [lcL, e3, e4] at h2; cases h2
                | some r4 =>
                  refine ht C' rfl hW al4 F4 H4 σ4 δ3 S4 trivial r4 e4 _ (fun k δ5 e5 al5 F5 H5 k' s5 S5 rl => ?_) fun x δ5 e5 al5 F5 H5 cls dd s5 S5 xr => ?_
                  · subst e5
                    have ek : k' = k := rl
                    subst ek
                    cases k' with
                    | false =>
                      simp only [lcL, e3, e4] at h2
                      show ∃ _, _
                      obtain ⟨B1, B2, B3, B4⟩ := back S5
                      refine ⟨al5, F5, wipeE δ5 vs, as, us, ((s2.trans nw.ff).trans s4).trans s5, B1.wiped lw gt, B2, fun j s d q r => ?_, B3, by omega, hra.mono ((nw.ff.trans s4).trans s5), fun j hj => ?_, h2⟩
                      · rcases wipeE_get q with z | ⟨z1, z2⟩
                        · subst z; cases r
                        · exact B4 j s d z2 r
                      · cases q : (wipeE δ5 vs)[j]? with
                        | none => exact Or.inr rfl
                        | some s =>
                          rcases wipeE_get q with z | ⟨z1, z2⟩
                          · rw [z]; exact Or.inl rfl
                          · exact absurd hj z1
                    | true =>
                      cases e6 : e δ5 with
                      | none => simp only [lcL, e3, e4, e6] at h2; cases h2
                      | some r6 =>
                        cases r6 with
                        | ex x δx => simp only [lcL, e3, e4, e6] at h2; cases h2
                        | ok y δ7 =>
                          simp only [lcL, e3, e4, e6] at h2
                          show te σ4 H5 _
                          refine he C' rfl hW al5 F5 H5 σ4 δ5 S5 trivial _ e6 _ (fun y' δ8 e8 al8 F8 H8 v s8 S8 rl => ?_) fun x δ8 e8 => by cases e8
                          cases e8
                          obtain ⟨B1, B2, B3, B4⟩ := back S8
                          have sF : Same F2 F8 := ((nw.ff.trans s4).trans s5).trans s8
                          have l1 : us.length = as.length := hra.len
                          refine ⟨us, B3, by rw [l1]; exact LB_lt (by have := wk.1; omega), al8, F8, wipeE δ7 vs, as ++ [y], us ++ [v], s2.trans sF, (B1.poke B2 cP B4).wiped lw gt, B2, fun j s d q r => ?_, upd_same, by rw [List.length_append]; show as.length + 1 ≤ i + 1; omega, Reps.app (hra.mono sF) (reps_cons rl reps_nil), fun j hj => ?_, h2⟩
                          · rcases wipeE_get q with z | ⟨z1, z2⟩
                            · subst z; cases r
                            · exact B4 j s d z2 r
                          · cases q : (wipeE δ7 vs)[j]? with
                            | none => exact Or.inr rfl
                            | some s =>
                              rcases wipeE_get q with z | ⟨z1, z2⟩
                              · rw [z]; exact Or.inl rfl
                              · exact absurd hj z1
                  · subst e5
                    simp only [lcL, e3, e4] at h2
                    cases h2
            · have hdr : ds.drop i = [] := List.drop_eq_nil_of_le (by omega)
              rw [hdr] at h2
              cases h2
              refine Or.inl ⟨(wk.2 F2 H2 s2 S2.fh S2.ph i).2 (by omega), ?_⟩
              have hs : StOk C al2 F2 H2 σ δz := by
                refine ⟨S2.fh, S2.ph, S2.bp, S2.f0, S2.fp, by rw [← S2.len, wipe_length], fun j d q => ?_, fun j d q => ?_, fun j s d q r => ?_, S2.io, S2.inj, fun j ns q => ?_⟩
                · have hj : j ∉ vs := fun z => by rcases hun j z with w | w <;> rw [w] at q <;> cases q
                  rw [← wipe_get (σ := σ) hj]
                  exact S2.fr j d q
                · have hj : j ∉ vs := fun z => by rcases hun j z with w | w <;> rw [w] at q <;> cases q
                  rw [← wipe_get (σ := σ) hj]
                  exact S2.bo j d q
                · have hj : j ∉ vs := fun z => by
                    rcases hun j z with w | w
                    · rw [w] at q; cases q; cases r
                    · rw [w] at q; cases q
                  rw [← wipe_get (σ := σ) hj]
                  exact S2.ow j s d q r
                · have hj : j ∉ vs := fun z => by rcases hun j z with w | w <;> rw [w] at q <;> cases q
                  rw [← wipe_get (σ := σ) hj]
                  exact S2.sc j ns q
              have ll : acc.length ≤ LB := by have := wk.1; omega
              exact hok _ _ rfl al2 F2 H2 Dl (s1.trans s2) hs nF (S1.ph.free hD) nO ⟨us, hDl, ll, hra⟩
    · subst e1
      unfold mLc at hr
      rw [M.bind_ex e0] at hr
      cases hr
      exact hex x δ1 rfl al1 F1 H1 cls dd s1 S1 xr
def mYes : M Bool := M.ret true
theorem et_yes : Et K W tYes mYes := by
  intro C hK hW al F H σ δ S _ r hr Q hok hex
  cases hr
  exact hok true δ rfl al F H true (Same.refl _) S rfl
end
end DL

set_option Elab.async false
set_option linter.all false
set_option maxRecDepth 100000
set_option maxHeartbeats 400000
/-! DLe: the promises of defs, calls, objects, changes of own objects. -/
namespace DL
open PySem L2
inductive PK where
  | fr | bo | io
def PK.sl : PK → D → Sl
  | .fr, d => .fr d
  | .bo, d => .bo d
  | .io, d => .io d
def entry : List PK → List D → En
  | k :: ks, d :: ds => k.sl d :: entry ks ds
  | _, _ => []
/-- what a def promises: of frozen, borrowed, handed-in things ds it computes f ds (its result, and what its slots hold behind it) -/
def SpD (K : Fg) (ks : List PK) (f : List D → Option (R D)) : Sp := fun vs H Q E => ∃ (C : Cn) (al : Nat → Addr) (ds : List D) (r : R D), C.K = K ∧ vs.length = ks.length ∧ ds.length = ks.length ∧ StOk C al C.F0 H (vs.map some) (entry ks ds) ∧ f ds = some r ∧
  (∀ d δ', r = .ok d δ' → ∀ al' F' H' σ' v, Same C.F0 F' → StOk C al' F' H' σ' δ' → Rep K F' d v → Q v H') ∧
  (∀ x δ', r = .ex x δ' → ∀ al' F' H' σ' cls dd, Same C.F0 F' → StOk C al' F' H' σ' δ' → XRep K F' H' x cls dd → E cls dd H')
def startE (n : Nat) (es : En) : En := es ++ List.replicate (n - es.length) .un
/-- a body's outcome as a def's -/
def fnR (o : Option Ou) : Option (R D) := match o with
  | some (.rt d δ) => some (.ok d δ)
  | some (.nx δ) => some (.ok .non δ)
  | some (.ex x δ) => some (.ex x δ)
  | _ => none
/-- the def as a function of its arguments -/
def defF (n : Nat) (ks : List PK) (m : Ms) : List D → Option (R D) := fun ds => fnR (m (startE n (entry ks ds)))
theorem entry_len : ∀ {ks : List PK} {ds : List D}, ds.length = ks.length → (entry ks ds).length = ks.length
  | [], [], _ => rfl
  | k :: ks, d :: ds, h => by simp [entry, entry_len (ks := ks) (ds := ds) (by simpa using h)]
  | [], d :: ds, h => by simp at h
  | k :: ks, [], h => by simp at h
theorem StOk.begin {C : Cn} {al : Nat → Addr} {F H : Hp} {N : List Str} {vs : List V} {es : En} (S : StOk C al F H (vs.map some) es) : StOk C al F H (start N vs) (startE N.length es) := by
  have hl : vs.length = es.length := by simpa using S.len
  have gE : ∀ (j : Nat) s, (startE N.length es)[j]? = some s → s = .un ∨ es[j]? = some s := fun j s q => by
    unfold startE at q
    by_cases z : j < es.length
    · rw [List.getElem?_append_left z] at q
      exact Or.inr q
    · rw [List.getElem?_append_right (by omega)] at q
      rw [List.getElem?_replicate] at q
      split at q
      · exact Or.inl (Option.some.inj q).symm
      · cases q
  have gS : ∀ (j : Nat), j < es.length → (start N vs)[j]? = (vs.map some)[j]? := fun j z => by
    unfold L2.start
    rw [List.getElem?_append_left (by rw [List.length_map, hl]; exact z)]
  have lt : ∀ (j : Nat) s, es[j]? = some s → j < es.length := fun j s q => (List.getElem?_eq_some_iff.mp q).1
  refine ⟨S.fh, S.ph, S.bp, S.f0, S.fp, ?_, fun j e q => ?_, fun j e q => ?_, fun j s e q r => ?_, fun j e q => ?_, fun j k s t e f q1 q2 r1 r2 r3 => ?_, fun j ns q => ?_⟩
  · unfold L2.start startE
    rw [List.length_append, List.length_append, List.length_map, List.length_replicate, List.length_replicate, hl]
  · rcases gE j _ q with z | z
    · cases z
    · rw [gS j (lt j _ z)]; exact S.fr j e z
  · rcases gE j _ q with z | z
    · cases z
    · rw [gS j (lt j _ z)]; exact S.bo j e z
  · rcases gE j _ q with z | z
    · subst z; cases r
    · rw [gS j (lt j _ z)]; exact S.ow j s e z r
  · rcases gE j _ q with z | z
    · cases z
    · exact S.io j e z
  · rcases gE j _ q1 with z | z
    · subst z; cases r1
    · rcases gE k _ q2 with y | y
      · subst y; cases r2
      · exact S.inj j k s t e f z y r1 r2 r3
  · rcases gE j _ q with z | z
    · cases z
    · rw [gS j (lt j _ z)]; exact S.sc j ns z
abbrev W0 : WX := fun _ _ _ _ => False
/-- the context of a body with another wish -/
theorem StOk.wish {C : Cn} {al : Nat → Addr} {F H : Hp} {σ : St} {δ : En} (S : StOk C al F H σ δ) (W : WX) : StOk { C with W := W } al F H σ δ :=
  ⟨S.fh, S.ph, S.bp, S.f0, S.fp, S.len, S.fr, S.bo, S.ow, S.io, S.inj, S.sc⟩
theorem StOk.unwish {C : Cn} {al : Nat → Addr} {F H : Hp} {σ : St} {δ : En} {W : WX} (S : StOk { C with W := W } al F H σ δ) : StOk C al F H σ δ :=
  ⟨S.fh, S.ph, S.bp, S.f0, S.fp, S.len, S.fr, S.bo, S.ow, S.io, S.inj, S.sc⟩
section
variable {P : Program} {w : World} {K : Fg} {mg : Str → Option Value} {base : Heap}
/-- THE RULE for a def that lets no error out -/
theorem fn_ok {x qual : Str} {st : Stmt} {f : Addr} {fd : FuncData} {N ps : List Str} {k : Nat} {ks : List PK} {m : Ms} {t : TS} (F : Fun K x qual st f fd) (S : FnScope N ps (defScope st)) (hks : ks.length = ps.length) (he : Es K W0 t m)
    (hb : ∀ (cdv : Value) (A : Around) (outer : List Env) (s : Shared) (H : Hp) (E : XK), Room k (A.deeper (PyProof.Rows.envOfC qual (defScope st) s.heap.objs.size f cdv)) → PSs (cxOf CX0 P w K mg base N qual (defScope st) f cdv A outer s H E).nox (defBody st) t)
    (hx : ∀ ds x δ, fnR (m (startE N.length (entry ks ds))) ≠ some (.ex x δ)) :
    FnOk P w K mg base CX0 (k + 1) f fd ps (SpD K ks (defF N.length ks m)) := by
  refine F.ok S (fun vs H Q E h => ?_) (fun cdv A outer s H vs Q E hr h => ⟨t, hb cdv A outer s H E hr, ?_⟩)
  · obtain ⟨C, al, ds, r, _, h1, _⟩ := h
    rw [h1, hks]
  · obtain ⟨C, al, ds, r, hK, h1, h2, S0, hf, hok, _⟩ := h
    subst hK
    have S1 := (S0.wish W0).begin (N := N)
    unfold defF at hf
    cases e : m (startE N.length (entry ks ds)) with
    | none => rw [e] at hf; cases hf
    | some o =>
      refine he { C with W := W0 } rfl rfl al C.F0 H _ _ S1 o e _ ?_
      rw [e] at hf
      cases o with
      | nx δ => cases hf; exact fun al' F' H' σ' s' S' => hok _ δ rfl al' F' H' σ' .non s' S'.unwish (Rep.non_iff.mpr rfl)
      | rt d δ => cases hf; exact fun al' F' H' σ' v s' S' rv => hok d δ rfl al' F' H' σ' v s' S'.unwish rv
      | rn d δ => cases hf
      | bk δ => cases hf
      | ct δ => cases hf
      | ex x δ => exact absurd (by rw [e]; rfl) (hx ds x δ)
end

/-! ### calls -/
def frOk : List PK → List Op → Bool
  | [], [] => true
  | .fr :: ks, .val _ :: os => frOk ks os
  | .bo :: ks, _ :: os => frOk ks os
  | _, _ => false
/-- a call without a thing to be changed -/
def mCall (ks : List PK) (f : List D → Option (R D)) (a : M (List Op)) : M D := a.bind fun os => (mRds os).bind fun ds => fun δ => if frOk ks os then match f ds with
  | some (.ok d _) => some (.ok d δ)
  | some (.ex x _) => some (.ex x δ)
  | none => none else none
theorem entry_get : ∀ {ks : List PK} {ds : List D} {i : Nat} {s : Sl}, (entry ks ds)[i]? = some s → ∃ k d, ks[i]? = some k ∧ ds[i]? = some d ∧ s = k.sl d
  | [], ds, i, s, h => by simp [entry] at h
  | k :: ks, [], i, s, h => by simp [entry] at h
  | k :: ks, d :: ds, 0, s, h => ⟨k, d, rfl, rfl, by simpa [entry] using h.symm⟩
  | k :: ks, d :: ds, i + 1, s, h => by
    obtain ⟨k', d', h1, h2, h3⟩ := entry_get (ks := ks) (ds := ds) (i := i) (s := s) (by simpa [entry] using h)
    exact ⟨k', d', by simpa using h1, by simpa using h2, h3⟩
theorem frOk_get : ∀ {ks : List PK} {os : List Op} {i : Nat} {k : PK}, frOk ks os = true → ks[i]? = some k → k = .bo ∨ (k = .fr ∧ ∃ d, os[i]? = some (.val d))
  | [], os, i, k, h, e => by simp at e
  | .fr :: ks, .val d :: os, 0, k, h, e => by
    have : PK.fr = k := by simpa using e
    exact Or.inr ⟨this.symm, d, rfl⟩
  | .bo :: ks, o :: os, 0, k, h, e => by
    have : PK.bo = k := by simpa using e
    exact Or.inl this.symm
  | .fr :: ks, .val d :: os, i + 1, k, h, e => by
    rcases frOk_get (ks := ks) (os := os) (i := i) (k := k) h (by simpa using e) with z | ⟨z, d', z2⟩
    · exact Or.inl z
    · exact Or.inr ⟨z, d', by simpa using z2⟩
  | .bo :: ks, o :: os, i + 1, k, h, e => by
    rcases frOk_get (ks := ks) (os := os) (i := i) (k := k) h (by simpa using e) with z | ⟨z, d', z2⟩
    · exact Or.inl z
    · exact Or.inr ⟨z, d', by simpa using z2⟩
  | .io :: ks, o :: os, i, k, h, e => by simp [frOk] at h
  | .fr :: ks, .slot j :: os, i, k, h, e => by simp [frOk] at h
  | .fr :: ks, [], i, k, h, e => by simp [frOk] at h
  | .bo :: ks, [], i, k, h, e => by simp [frOk] at h
  | .io :: ks, [], i, k, h, e => by simp [frOk] at h
theorem frOk_len : ∀ {ks : List PK} {os : List Op}, frOk ks os = true → ks.length = os.length
  | [], [], h => rfl
  | .fr :: ks, .val d :: os, h => by simp [frOk_len (ks := ks) (os := os) h]
  | .bo :: ks, o :: os, h => by simp [frOk_len (ks := ks) (os := os) h]
  | .io :: ks, o :: os, h => by simp [frOk] at h
  | .fr :: ks, .slot j :: os, h => by simp [frOk] at h
  | .fr :: ks, [], h => by simp [frOk] at h
  | .bo :: ks, [], h => by simp [frOk] at h
  | .io :: ks, [], h => by simp [frOk] at h
  | [], o :: os, h => by simp [frOk] at h
theorem paired_get {α β : Type} {Rr : α → β → Prop} : ∀ {as : List α} {bs : List β} {i : Nat} {b : β}, Paired Rr as bs → bs[i]? = some b → ∃ a, as[i]? = some a ∧ Rr a b
  | _, _, i, b, .nil, e => by simp at e
  | _, _, 0, b, .cons r t, e => by simp at e; subst e; exact ⟨_, rfl, r⟩
  | _, _, i + 1, b, .cons r t, e => by
    obtain ⟨a, h1, h2⟩ := paired_get (i := i) t (by simpa using e)
    exact ⟨a, by simpa using h1, h2⟩
theorem rds_len : ∀ {os : List Op} {δ : En} {ds : List D}, rds os δ = some ds → ds.length = os.length
  | [], δ, ds, h => by cases h; rfl
  | o :: os, δ, ds, h => by
    simp only [rds] at h
    cases e1 : rd o δ with
    | none => simp only [e1] at h; cases h
    | some d =>
      cases e2 : rds os δ with
      | none => simp only [e1, e2] at h; cases h
      | some ds' =>
        simp only [e1, e2] at h
        cases h
        simp [rds_len e2]
theorem rds_get : ∀ {os : List Op} {δ : En} {ds : List D} {i : Nat} {o : Op}, rds os δ = some ds → os[i]? = some o → ∃ d, ds[i]? = some d ∧ rd o δ = some d
  | [], δ, ds, i, o, h, e => by simp at e
  | p :: os, δ, ds, i, o, h, e => by
    simp only [rds] at h
    cases e1 : rd p δ with
    | none => simp only [e1] at h; cases h
    | some d =>
      cases e2 : rds os δ with
      | none => simp only [e1, e2] at h; cases h
      | some ds' =>
        simp only [e1, e2] at h
        cases h
        cases i with
        | zero =>
          have : p = o := by simpa using e
          subst this
          exact ⟨d, rfl, e1⟩
        | succ i =>
          obtain ⟨d', h1, h2⟩ := rds_get (i := i) (o := o) e2 (by simpa using e)
          exact ⟨d', by simpa using h1, h2⟩
section
variable {K : Fg} {W : WX}
theorem ev_call {ks : List PK} {f : List D → Option (R D)} {a : M (List Op)} {ta : TA} {E : XK} (ha : Ea K W ta a) (hE : ∀ cls dd σ H, E cls dd H → W cls dd σ H) (hW : ∀ cls dd σ H, W cls dd σ H → E cls dd H) : Ev K W (tCall (SpD K ks f) [] E ta) (mCall ks f a) := by
  refine J.bind (t2 := fun (vs : List V) (_ : St) (H : Hp) (Q : VK) => SpD K ks f (vs ++ []) H Q E) ha monoT fun os vs => ?_
  intro C hK hWC al F H σ δ S hp r hr Q hok hex
  subst hK
  obtain ⟨ds, h1, hr⟩ := rds_bind hr
  by_cases hf : frOk ks os = true
  · simp only [hf, if_true] at hr
    have hrel : relA C.K F σ vs os := hp.2
    have hP : Paired (fun v d => RepR C.K F H v d) vs ds := S.opds hrel h1
    have lk := frOk_len hf
    have lv : vs.length = os.length := hrel.length
    have ld := rds_len h1
    cases e : f ds with
    | none => simp only [e] at hr; cases hr
    | some q =>
      have St1 : StOk { K := C.K, P := H, B := H, F0 := F, bt := fun _ => 0, W := C.W } (fun _ => 0) F H (vs.map some) (entry ks ds) := by
        have ge : ∀ (i : Nat) s, (entry ks ds)[i]? = some s → ∃ v d, (vs.map some)[i]? = some (some v) ∧ ((s = .bo d ∧ RepR C.K F H v d) ∨ (s = .fr d ∧ Rep C.K F d v)) := fun i s q => by
          obtain ⟨k, d, g1, g2, g3⟩ := entry_get q
          obtain ⟨v, g4, g5⟩ := paired_get hP g2
          refine ⟨v, d, by rw [List.getElem?_map, g4]; rfl, ?_⟩
          rcases frOk_get hf g1 with z | ⟨z, d', z2⟩
          · subst z; exact Or.inl ⟨g3, g5⟩
          · subst z
            refine Or.inr ⟨g3, ?_⟩
            obtain ⟨d2, g6, g7⟩ := rds_get h1 z2
            rw [g2] at g6
            cases g6
            cases g7
            obtain ⟨v', g8, g9⟩ := paired_get hrel z2
            rw [g4] at g8
            cases g8
            exact g9
        refine ⟨S.fh, Same.refl _, Same.refl _, Same.refl _, fun b o q => Or.inl q, by rw [List.length_map, entry_len (by omega)]; omega, fun i d q => ?_, fun i d q => ?_, fun i s d q r => ?_, fun i d q => ?_, fun i j s t d e q1 q2 r1 r2 => ?_, fun i ns q => ?_⟩
        · obtain ⟨v, d', g1, g2 | g2⟩ := ge i _ q
          · cases g2.1
          · cases g2.1; exact ⟨v, g1, g2.2⟩
        · obtain ⟨v, d', g1, g2 | g2⟩ := ge i _ q
          · cases g2.1; exact ⟨v, g1, g2.2⟩
          · cases g2.1
        · obtain ⟨v, d', g1, g2 | g2⟩ := ge i _ q
          · rw [g2.1] at r; cases r
          · rw [g2.1] at r; cases r
        · obtain ⟨v, d', g1, g2 | g2⟩ := ge i _ q
          · cases g2.1
          · cases g2.1
        · obtain ⟨v, d', g1, g2 | g2⟩ := ge i _ q1
          · rw [g2.1] at r1; cases r1
          · rw [g2.1] at r1; cases r1
        · obtain ⟨v, d', g1, g2 | g2⟩ := ge i _ q
          · cases g2.1
          · cases g2.1
      refine ⟨{ K := C.K, P := H, B := H, F0 := F, bt := fun _ => 0, W := C.W }, fun _ => 0, ds, q, rfl, by rw [List.append_nil]; omega, by omega, (by rw [List.append_nil]; exact St1), e, fun d δ' e1 al' F' H' σ' v s' S' rv => ?_, fun x δ' e1 al' F' H' σ' cls dd s' S' xr => ?_⟩
      · subst e1
        simp only [e] at hr
        cases hr
        have nw : New F H F' H' := ⟨s', S'.fh, S'.ph, S'.fp⟩
        exact hok d δ rfl al F' H' v s' (S.new nw) rv
      · subst e1
        simp only [e] at hr
        cases hr
        have nw : New F H F' H' := ⟨s', S'.fh, S'.ph, S'.fp⟩
        exact hW _ _ σ _ (hex x δ rfl al F' H' cls dd s' (S.new nw) xr)
  · simp only [hf] at hr
    cases hr
/-- a call whose first argument, the own object of slot i, is changed -/
def apart (i : Nat) : List Op → Bool
  | [] => true
  | .slot j :: os => j != i && apart i os
  | .val _ :: os => apart i os
def reown (s : Sl) (d : D) : Sl := match s with
  | .io _ => .io d
  | _ => .ow d
def ioOut (i : Nat) (s : Sl) (δ δ' : En) : Option En := match δ'[(0 : Nat)]? with
  | some (Sl.io e) => some (δ.set i (reown s e))
  | _ => none
def mCallS1 (i : Nat) (ks : List PK) (f : List D → Option (R D)) (a : M (List Op)) : M D := a.bind fun os => (mRds os).bind fun ds => fun δ => match δ[i]? with
  | some s => match s.own with
    | some c => if frOk ks os && apart i os then match f (c :: ds) with
      | some (.ok d δ') => match ioOut i s δ δ' with
        | some δ2 => some (.ok d δ2)
        | none => none
      | some (.ex x δ') => match ioOut i s δ δ' with
        | some δ2 => some (.ex x δ2)
        | none => none
      | none => none else none
    | none => none
  | none => none
def mCallS (i : Nat) (ks : List PK) (f : List D → Option (R D)) (a : M (List Op)) : M D := fun δ => match δ[i]? with
  | some s => match s.own with
    | some _ => mCallS1 i ks f a δ
    | none => none
  | none => none
theorem apart_get : ∀ {i : Nat} {os : List Op} {j k : Nat}, apart i os = true → os[k]? = some (.slot j) → j ≠ i
  | i, [], j, k, h, e => by simp at e
  | i, .slot l :: os, j, 0, h, e => by
    have : l = j := by simpa using e
    subst this
    simp only [apart, Bool.and_eq_true, bne_iff_ne] at h
    exact h.1
  | i, .val d :: os, j, 0, h, e => by simp at e
  | i, .slot l :: os, j, k + 1, h, e => by
    simp only [apart, Bool.and_eq_true] at h
    exact apart_get (os := os) (k := k) h.2 (by simpa using e)
  | i, .val d :: os, j, k + 1, h, e => apart_get (os := os) (k := k) h (by simpa using e)
theorem reown_own {s : Sl} {d : D} : (reown s d).own = some d := by cases s <;> rfl
theorem reown_io {s : Sl} {d z : D} (h : reown s d = .io z) : ∃ y, s = .io y := by
  cases s with
  | io y => exact ⟨y, rfl⟩
  | _ => cases h
/-- behind such a call -/
theorem StOk.back {C : Cn} {al : Nat → Addr} {F H F' H' : Hp} {σ : St} {δ : En} {i : Nat} {s : Sl} {c e : D} (S : StOk C al F H σ δ) (hi : δ[i]? = some s) (hs : s.own = some c)
    (ff : Same F F') (fh : Same F' H') (pc : ∀ a o, a ≠ al i → H a = some o → H' a = some o) (fp : ∀ a o, F' a = some o → F a = some o ∨ a = al i ∨ H a = none) (nF : F' (al i) = none) (ro : RepO C.K F' H' (al i) e) :
    StOk C al F' H' σ (δ.set i (reown s e)) := by
  obtain ⟨h1, h2, h3, h4⟩ := S.ow i s c hi hs
  have li : i < δ.length := (List.getElem?_eq_some_iff.mp hi).1
  have key : ∀ (j : Nat) (u : Sl), (δ.set i (reown s e))[j]? = some u → (j = i ∧ u = reown s e) ∨ (j ≠ i ∧ δ[j]? = some u) := fun j u e => by
    by_cases q : j = i
    · subst q
      rw [List.getElem?_set_self li] at e
      exact Or.inl ⟨rfl, (Option.some.inj e).symm⟩
    · rw [List.getElem?_set_ne (Ne.symm q)] at e
      exact Or.inr ⟨q, e⟩
  have ne : ∀ d, reown s e ≠ .fr d ∧ reown s e ≠ .bo d := fun d => ⟨fun z => (by
      have hz := reown_own (s := s) (d := e)
      rw [z] at hz
      cases hz), fun z => (by
      have hz := reown_own (s := s) (d := e)
      rw [z] at hz
      cases hz)⟩
  refine ⟨fh, fun a o q => pc a o (ne_of_none q h3) (S.ph a o q), S.bp, S.f0.trans ff, fun a o q => ?_, by rw [List.length_set]; exact S.len, fun j d q => ?_, fun j d q => ?_, fun j u d q r => ?_, fun j d q => ?_, fun j k u v d f q1 q2 r1 r2 r3 => ?_, fun j ns q => ?_⟩
  · rcases fp a o q with z | z | z
    · exact S.fp a o z
    · rw [z]; exact Or.inr h3
    · exact Or.inr (S.ph.free z)
  · rcases key j _ q with ⟨ej, z⟩ | ⟨n, q⟩
    · exact absurd z.symm (ne d).1
    · obtain ⟨v, g1, g2⟩ := S.fr j d q
      exact ⟨v, g1, g2.mono ff⟩
  · rcases key j _ q with ⟨ej, z⟩ | ⟨n, q⟩
    · exact absurd z.symm (ne d).2
    · obtain ⟨v, g1, g2⟩ := S.bo j d q
      exact ⟨v, g1, g2.mono ff (Same.refl _)⟩
  · rcases key j _ q with ⟨ej, z⟩ | ⟨n, q⟩
    · subst z
      rw [reown_own] at r
      cases r
      rw [ej]
      exact ⟨h1, nF, h3, ro⟩
    · obtain ⟨g1, g2, g3, g4⟩ := S.ow j u d q r
      have na : al j ≠ al i := fun z => n (S.inj j i u s d c q hi r hs z)
      refine ⟨g1, ?_, g3, g4.mono ff fun o z => pc _ o na z⟩
      cases z : F' (al j) with
      | none => rfl
      | some o =>
        rcases fp _ _ z with y | y | y
        · rw [g2] at y; cases y
        · exact absurd y na
        · obtain ⟨o', ho⟩ := g4.there
          rw [ho] at y; cases y
  · rcases key j _ q with ⟨ej, z⟩ | ⟨n, q⟩
    · obtain ⟨y, hy⟩ := reown_io z.symm
      rw [ej]
      exact S.io i y (by rw [hi, hy])
    · exact S.io j d q
  · rcases key j _ q1 with ⟨ej, z⟩ | ⟨n, p1⟩
    · rcases key k _ q2 with ⟨ek, z2⟩ | ⟨n2, p2⟩
      · rw [ej, ek]
      · rw [ej] at r3 ⊢
        exact S.inj i k s v c f hi p2 hs r2 r3
    · rcases key k _ q2 with ⟨ek, z2⟩ | ⟨n2, p2⟩
      · rw [ek] at r3 ⊢
        exact S.inj j i u s d c p1 hi r1 hs r3
      · exact S.inj j k u v d f p1 p2 r1 r2 r3
  · rcases key j _ q with ⟨ej, z⟩ | ⟨n, q⟩
    · have := reown_own (s := s) (d := e)
      rw [← z] at this
      cases this
    · exact S.sc j ns q
/-- at the entry of such a call -/
theorem StOk.enter {C : Cn} {al : Nat → Addr} {F H : Hp} {σ : St} {δ : En} {i : Nat} {s : Sl} {c : D} {ks : List PK} {os : List Op} {ds : List D} {vs : List V} (S : StOk C al F H σ δ) (hi : δ[i]? = some s) (hs : s.own = some c)
    (hf : frOk ks os = true) (ha : apart i os = true) (hrel : relA C.K F σ vs os) (h1 : rds os δ = some ds) :
    StOk { K := C.K, P := fun a => if a = al i then none else H a, B := fun a => if a = al i then none else H a, F0 := F, bt := fun _ => al i, W := C.W } (fun _ => al i) F H ((V.ref (al i) :: vs).map some) (entry (.io :: ks) (c :: ds)) := by
  obtain ⟨o1, o2, o3, o4⟩ := S.ow i s c hi hs
  have hP : Paired (fun v d => RepR C.K F H v d) vs ds := S.opds hrel h1
  have lk := frOk_len hf
  have lv : vs.length = os.length := hrel.length
  have ld := rds_len h1
  have pH : Same (fun a => if a = al i then none else H a) H := fun a o q => by
    by_cases z : a = al i
    · simp [z] at q
    · simpa [z] using q
  have ge : ∀ (i' : Nat) s, (entry ks ds)[i']? = some s → ∃ v d, (vs.map some)[i']? = some (some v) ∧ ((s = .bo d ∧ RepR C.K F (fun a => if a = al i then none else H a) v d) ∨ (s = .fr d ∧ Rep C.K F d v)) := fun i' s' q => by
    obtain ⟨k, d, g1, g2, g3⟩ := entry_get q
    obtain ⟨v, g4, g5⟩ := paired_get hP g2
    refine ⟨v, d, by rw [List.getElem?_map, g4]; rfl, ?_⟩
    rcases frOk_get hf g1 with z | ⟨z, d', z2⟩
    · subst z
      refine Or.inl ⟨g3, ?_⟩
      -- which operand is it
      have lo : i' < os.length := by have := (List.getElem?_eq_some_iff.mp g2).1; omega
      have ho : os[i']? = some os[i'] := List.getElem?_eq_getElem lo
      obtain ⟨d2, g6, g7⟩ := rds_get h1 ho
      rw [g2] at g6
      cases g6
      obtain ⟨v', g8, g9⟩ := paired_get hrel ho
      rw [g4] at g8
      cases g8
      cases e : os[i'] with
      | val d3 =>
        rw [e] at g7 g9
        cases g7
        exact Or.inl g9
      | slot j =>
        rw [e] at ho g7 g9
        have nj : j ≠ i := apart_get ha ho
        simp only [rd] at g7
        cases e2 : δ[j]? with
        | none => rw [e2] at g7; cases g7
        | some sj =>
          rw [e2] at g7
          have g9 : σ[j]? = some (some v) := g9
          cases sj with
          | un => cases g7
          | sc ns => cases g7
          | fr d3 =>
            cases g7
            obtain ⟨u, y1, y2⟩ := S.fr j d e2
            rw [g9] at y1; cases y1
            exact Or.inl y2
          | bo d3 =>
            cases g7
            obtain ⟨u, y1, y2⟩ := S.bo j d e2
            rw [g9] at y1; cases y1
            refine y2.mono (Same.refl _) fun a o q => ?_
            have q' := S.bp a o q
            have : a ≠ al i := ne_of_none q' o3
            simp only [this, if_false]
            exact S.ph a o q'
          | ow d3 =>
            cases g7
            obtain ⟨y1, y2, y3, y4⟩ := S.ow j _ d e2 rfl
            rw [g9] at y1; cases y1
            refine Or.inr ⟨al j, rfl, y4.mono (Same.refl _) fun o z => ?_⟩
            have : al j ≠ al i := fun w => nj (S.inj j i _ s d c e2 hi rfl hs w)
            simp only [this, if_false]
            exact z
          | io d3 =>
            cases g7
            obtain ⟨y1, y2, y3, y4⟩ := S.ow j _ d e2 rfl
            rw [g9] at y1; cases y1
            refine Or.inr ⟨al j, rfl, y4.mono (Same.refl _) fun o z => ?_⟩
            have : al j ≠ al i := fun w => nj (S.inj j i _ s d c e2 hi rfl hs w)
            simp only [this, if_false]
            exact z
    · subst z
      refine Or.inr ⟨g3, ?_⟩
      obtain ⟨d2, g6, g7⟩ := rds_get h1 z2
      rw [g2] at g6
      cases g6
      cases g7
      obtain ⟨v', g8, g9⟩ := paired_get hrel z2
      rw [g4] at g8
      cases g8
      exact g9
  have g0 : ∀ (j : Nat) s', (entry (.io :: ks) (c :: ds))[j]? = some s' → (j = 0 ∧ s' = .io c) ∨ ∃ v d, ((V.ref (al i) :: vs).map some)[j]? = some (some v) ∧ ((s' = .bo d ∧ RepR C.K F (fun a => if a = al i then none else H a) v d) ∨ (s' = .fr d ∧ Rep C.K F d v)) := fun j s' q => by
    cases j with
    | zero => exact Or.inl ⟨rfl, by simpa [entry, PK.sl] using q.symm⟩
    | succ j =>
      obtain ⟨v, d, y1, y2⟩ := ge j s' (by simpa [entry] using q)
      exact Or.inr ⟨v, d, by simpa using y1, y2⟩
  refine ⟨S.fh, pH, Same.refl _, Same.refl _, fun b o q => Or.inl q, ?_, fun j d q => ?_, fun j d q => ?_, fun j u d q r => ?_, fun j d q => rfl, fun j k u v d f q1 q2 r1 r2 r3 => ?_, fun j ns q => ?_⟩
  · show ((V.ref (al i) :: vs).map some).length = (PK.io.sl c :: entry ks ds).length
    rw [List.length_map, List.length_cons, List.length_cons, entry_len (by omega)]
    omega
  · rcases g0 j _ q with ⟨_, z⟩ | ⟨v, d', y1, y2 | y2⟩
    · cases z
    · cases y2.1
    · cases y2.1; exact ⟨v, y1, y2.2⟩
  · rcases g0 j _ q with ⟨_, z⟩ | ⟨v, d', y1, y2 | y2⟩
    · cases z
    · cases y2.1; exact ⟨v, y1, y2.2⟩
    · cases y2.1
  · rcases g0 j _ q with ⟨z1, z⟩ | ⟨v, d', y1, y2 | y2⟩
    · subst z
      cases r
      subst z1
      exact ⟨rfl, o2, by simp, o4⟩
    · rw [y2.1] at r; cases r
    · rw [y2.1] at r; cases r
  · rcases g0 j _ q1 with ⟨z1, z⟩ | ⟨v', d', y1, y2 | y2⟩
    · rcases g0 k _ q2 with ⟨z3, z4⟩ | ⟨v', d', y1, y2 | y2⟩
      · rw [z1, z3]
      · rw [y2.1] at r2; cases r2
      · rw [y2.1] at r2; cases r2
    · rw [y2.1] at r1; cases r1
    · rw [y2.1] at r1; cases r1
  · rcases g0 j _ q with ⟨_, z⟩ | ⟨v, d', y1, y2 | y2⟩
    · cases z
    · cases y2.1
    · cases y2.1
theorem io_behind {C : Cn} {al al' : Nat → Addr} {F H F' H' : Hp} {σ σ' : St} {δ δ' : En} {i : Nat} {s : Sl} {c e : D} {W' : WX} (S : StOk C al F H σ δ) (hi : δ[i]? = some s) (hs : s.own = some c)
    (S' : StOk { K := C.K, P := fun a => if a = al i then none else H a, B := fun a => if a = al i then none else H a, F0 := F, bt := fun _ => al i, W := W' } al' F' H' σ' δ') (he : δ'[0]? = some (.io e)) : StOk C al F' H' σ (δ.set i (reown s e)) := by
  obtain ⟨y1, y2, y3, y4⟩ := S'.ow 0 _ e he rfl
  have e0 : al' 0 = al i := S'.io 0 e he
  rw [e0] at y2 y4
  refine S.back hi hs S'.f0 S'.fh (fun a o n q => S'.ph a o ?_) (fun a o q => ?_) y2 y4
  · simp only [n, if_false]
    exact q
  · rcases S'.fp a o q with z | z
    · exact Or.inl z
    · by_cases w : a = al i
      · exact Or.inr (Or.inl w)
      · refine Or.inr (Or.inr ?_)
        have z' : (if a = al i then none else H a) = none := z
        simpa [w] using z'
theorem ev_callS {i : Nat} {ks : List PK} {f : List D → Option (R D)} {a : M (List Op)} {ta : TA} {E : XK} (ha : Ea K W ta a) (hW : ∀ cls dd σ H, W cls dd σ H → E cls dd H) :
    Ev K W (tCall (SpD K (.io :: ks) f) [] E (tCons (tVar i) ta)) (mCallS i ks f a) := by
  intro C hK hWC al F H σ δ S hp r hr Q hok hex
  subst hK
  unfold mCallS at hr
  cases q0 : δ[i]? with
  | none => simp only [q0] at hr; cases hr
  | some s0 =>
    cases q1 : s0.own with
    | none => simp only [q0, q1] at hr; cases hr
    | some c0 =>
      simp only [q0, q1] at hr
      obtain ⟨hv, _, _, _⟩ := S.ow i s0 c0 q0 q1
      refine ⟨_, hv, ?_⟩
      cases e0 : a δ with
      | none => unfold mCallS1 M.bind at hr; rw [e0] at hr; cases hr
      | some r0 =>
        refine ha C rfl hWC al F H σ δ S trivial r0 e0 _ (fun os δ1 e' al1 F1 H1 vs s1 S1 rl => ?_) fun x δ1 e' al1 F1 H1 cls dd s1 S1 xr => ?_
        · subst e'
          unfold mCallS1 at hr
          rw [M.bind_ok e0] at hr
          obtain ⟨ds, h1, hr⟩ := rds_bind hr
          cases e1 : δ1[i]? with
          | none => simp only [e1] at hr; cases hr
          | some s =>
            cases e2 : s.own with
            | none => simp only [e1, e2] at hr; cases hr
            | some c =>
              by_cases hf : (frOk ks os && apart i os) = true
              · simp only [e1, e2, hf, if_true] at hr
                obtain ⟨hf1, hf2⟩ := Bool.and_eq_true_iff.mp hf
                obtain ⟨o1, o2, o3, o4⟩ := S1.ow i s c e1 e2
                have ea : al i = al1 i := by
                  rw [hv] at o1
                  exact V.ref.inj (Option.some.inj (Option.some.inj o1))
                rw [ea]
                have St1 := S1.enter e1 e2 hf1 hf2 rl h1
                cases e3 : f (c :: ds) with
                | none => simp only [e3] at hr; cases hr
                | some q =>
                  have lk := frOk_len hf1
                  have lv : vs.length = os.length := rl.length
                  have ld := rds_len h1
                  refine ⟨{ K := C.K, P := fun a => if a = al1 i then none else H1 a, B := fun a => if a = al1 i then none else H1 a, F0 := F1, bt := fun _ => al1 i, W := C.W }, fun _ => al1 i, c :: ds, q, rfl, by rw [List.append_nil]; simp; omega, by simp; omega, (by rw [List.append_nil]; exact St1), e3, fun d δ2 e4 al' F' H' σ' v s' S' rv => ?_, fun x δ2 e4 al' F' H' σ' cls dd s' S' xr => ?_⟩
                  · subst e4
                    simp only [e3] at hr
                    unfold ioOut at hr
                    cases e5 : δ2[0]? with
                    | none => simp only [e5] at hr; cases hr
                    | some s0 =>
                      cases s0 with
                      | io e =>
                        simp only [e5] at hr
                        cases hr
                        exact hok d _ rfl al1 F' H' v (s1.trans s') (io_behind S1 e1 e2 S' e5) rv
                      | _ => simp only [e5] at hr; cases hr
                  · subst e4
                    simp only [e3] at hr
                    unfold ioOut at hr
                    cases e5 : δ2[0]? with
                    | none => simp only [e5] at hr; cases hr
                    | some s0 =>
                      cases s0 with
                      | io e =>
                        simp only [e5] at hr
                        cases hr
                        exact hW _ _ σ _ (hex x _ rfl al1 F' H' cls dd (s1.trans s') (io_behind S1 e1 e2 S' e5) xr)
                      | _ => simp only [e5] at hr; cases hr
              · simp only [e1, e2, hf] at hr
                cases hr
        · subst e'
          unfold mCallS1 at hr
          rw [M.bind_ex e0] at hr
          cases hr
          exact hex x δ1 rfl al1 F1 H1 cls dd s1 S1 xr
end
end DL

set_option Elab.async false
set_option linter.all false
set_option maxRecDepth 100000
set_option maxHeartbeats 400000
/-! DLf: the primitives. -/
namespace DL
open PySem L2
section
variable {K : Fg} {F H : Hp} {v w : V}
theorem RepR.non (h : RepR K F H v .non) : v = .non := by
  rcases h with h | ⟨a, _, h⟩
  · exact Rep.non_iff.mp h
  · exact h.elim
theorem RepR.bl {b : Bool} (h : RepR K F H v (.bl b)) : v = .bl b := by
  rcases h with h | ⟨a, _, h⟩
  · exact Rep.bl_iff.mp h
  · exact h.elim
theorem RepR.int {i : Int} (h : RepR K F H v (.int i)) : v = .int i := by
  rcases h with h | ⟨a, _, h⟩
  · exact Rep.int_iff.mp h
  · exact h.elim
theorem RepR.str {x : Str} (h : RepR K F H v (.str x)) : v = .str x := by
  rcases h with h | ⟨a, _, h⟩
  · exact Rep.str_iff.mp h
  · exact h.elim
theorem RepR.tup {ds : List D} (h : RepR K F H v (.tup ds)) : ∃ a vs, v = .ref a ∧ TupR K F a vs ∧ ds.length ≤ LB ∧ Reps K F ds vs := by
  rcases h with h | ⟨a, _, h⟩
  · exact Rep.tup_iff.mp h
  · exact h.elim
theorem RepR.lst {ds : List D} (h : RepR K F H v (.lst ds)) (fh : Same F H) : ∃ a vs, v = .ref a ∧ H a = some (.lst vs) ∧ ds.length ≤ LB ∧ Reps K F ds vs := by
  rcases h with h | ⟨a, e, vs, h1, h2, h3⟩
  · obtain ⟨a, vs, e, h1, h2, h3⟩ := Rep.lst_iff.mp h
    exact ⟨a, vs, e, fh _ _ h1, h2, h3⟩
  · exact ⟨a, vs, e, h1, h2, h3⟩
theorem RepR.ins {C : Addr} {ns : List Str} {ds : List D} (h : RepR K F H v (.ins C ns ds)) (fh : Same F H) : ∃ a dx vs, v = .ref a ∧ H a = some (.ins C dx (ns.zip vs)) ∧ ns.length = ds.length ∧ Reps K F ds vs := by
  rcases h with h | ⟨a, e, dx, vs, h1, h2, h3⟩
  · obtain ⟨a, dx, vs, e, h1, h2, h3⟩ := Rep.ins_iff.mp h
    exact ⟨a, dx, vs, e, fh _ _ h1, h2, h3⟩
  · exact ⟨a, dx, vs, e, h1, h2, h3⟩
theorem RepR.dk {ks : List Key} {ds : List D} (h : RepR K F H v (.dk ks ds)) (fh : Same F H) : ∃ a vs, v = .ref a ∧ Rd H a (.dK (ks.zip vs)) ∧ ks.length = ds.length ∧ ds.length ≤ LB ∧ Reps K F ds vs := by
  rcases h with h | ⟨a, e, vs, h1, h2, h3, h4⟩
  · obtain ⟨a, vs, e, h1, h2, h3, h4⟩ := Rep.dk_iff.mp h
    exact ⟨a, vs, e, same_rd fh h1, h2, h3, h4⟩
  · exact ⟨a, vs, e, Or.inl h1, h2, h3, h4⟩
/-- all is data in the heap as it stands -/
theorem RepR.full {d : D} (h : RepR K F H v d) (fh : Same F H) : Rep K H d v := by
  rcases h with h | ⟨a, e, h⟩
  · exact h.mono fh
  · cases d with
    | lst ds => obtain ⟨vs, h1, h2, h3⟩ := h; exact Rep.lst_iff.mpr ⟨a, vs, e, h1, h2, h3.mono fh⟩
    | ins C ns ds => obtain ⟨dx, vs, h1, h2, h3⟩ := h; exact Rep.ins_iff.mpr ⟨a, dx, vs, e, h1, h2, h3.mono fh⟩
    | dk ks ds => obtain ⟨vs, h1, h2, h3, h4⟩ := h; exact Rep.dk_iff.mpr ⟨a, vs, e, Or.inl h1, h2, h3, h4.mono fh⟩
    | _ => exact h.elim
end

/-! ### numbers -/
section
variable {K : Fg}
def fI (C : Int → Int → Bool) (g : Int → Int → D) : D → D → Option D
  | .int i, .int j => if C i j then some (g i j) else none
  | _, _ => none
theorem prim_I {C : Int → Int → Prop} {Cb : Int → Int → Bool} {gv : Int → Int → V} {gd : Int → Int → D} (hc : ∀ i j, Cb i j = true → C i j) (hg : ∀ i j F, Rep K F (gd i j) (gv i j)) : Prim2 K (rI C gv) (fI Cb gd) := by
  intro F H v w d e z fh hv hw hf Q k
  match d, e, hf with
  | .int i, .int j, hf =>
    have hf : (if Cb i j = true then some (gd i j) else none) = some z := hf
    obtain ⟨h1, rfl⟩ := if_some hf
    exact ⟨i, j, hv.int, hw.int, hc i j h1, k F H _ (New.refl fh) (hg i j F)⟩
def fI0 (g : Int → Int → D) : D → D → Option D
  | .int i, .int j => some (g i j)
  | _, _ => none
theorem prim_I0 {gv : Int → Int → V} {gd : Int → Int → D} (hg : ∀ i j F, Rep K F (gd i j) (gv i j)) : Prim2 K (rI0 gv) (fI0 gd) := by
  intro F H v w d e z fh hv hw hf Q k
  match d, e, hf with
  | .int i, .int j, hf =>
    cases hf
    exact ⟨i, j, hv.int, hw.int, k F H _ (New.refl fh) (hg i j F)⟩
theorem Prim2.or {r r' : R2} {f g : D → D → Option D} (h : Prim2 K r f) (h' : Prim2 K r' g) : Prim2 K (fun x y H Q => r x y H Q ∨ r' x y H Q) (fun d e => (f d e).or (g d e)) := by
  intro F H v w d e z fh hv hw hf Q k
  have hf : (f d e).or (g d e) = some z := hf
  cases q : f d e with
  | none => rw [q] at hf; exact Or.inr (h' F H v w d e z fh hv hw hf Q k)
  | some y =>
    rw [q] at hf
    have hy : y = z := Option.some.inj hf
    subst hy
    exact Or.inl (h F H v w d e y fh hv hw q Q k)
theorem Prim1.or {r r' : V → Hp → VK → Prop} {f g : D → Option D} (h : Prim1 K r f) (h' : Prim1 K r' g) : Prim1 K (fun x H Q => r x H Q ∨ r' x H Q) (fun d => (f d).or (g d)) := by
  intro F H v d z fh hv hf Q k
  have hf : (f d).or (g d) = some z := hf
  cases q : f d with
  | none => rw [q] at hf; exact Or.inr (h' F H v d z fh hv hf Q k)
  | some y =>
    rw [q] at hf
    have hy : y = z := Option.some.inj hf
    subst hy
    exact Or.inl (h F H v d y fh hv q Q k)
theorem PrimA.or {r r' : List V → Hp → VK → Prop} {f g : List D → Option D} (h : PrimA K r f) (h' : PrimA K r' g) : PrimA K (fun x H Q => r x H Q ∨ r' x H Q) (fun d => (f d).or (g d)) := by
  intro F H v d z fh hv hf Q k
  have hf : (f d).or (g d) = some z := hf
  cases q : f d with
  | none => rw [q] at hf; exact Or.inr (h' F H v d z fh hv hf Q k)
  | some y =>
    rw [q] at hf
    have hy : y = z := Option.some.inj hf
    subst hy
    exact Or.inl (h F H v d y fh hv q Q k)
def small64 (i : Int) : Bool := decide (-(2 ^ 64) < i) && decide (i < 2 ^ 64)
def mulOk (i j : Int) : Bool := small64 i || small64 j
theorem prim_mul : Prim2 K (rI CMul fun i j => .int (i * j)) (fI mulOk fun i j => .int (i * j)) := prim_I (fun i j h => by
  unfold mulOk small64 at h
  simp only [Bool.or_eq_true, Bool.and_eq_true, decide_eq_true_eq] at h
  exact h) fun i j F => Rep.int_iff.mpr rfl
def divOk (_ j : Int) : Bool := decide (0 < j) && decide (j < 1073741824)
theorem prim_div : Prim2 K (rI CDiv fun i j => .int (i / j)) (fI divOk fun i j => .int (i / j)) := prim_I (fun i j h => by
  unfold divOk at h
  simp only [Bool.and_eq_true, decide_eq_true_eq] at h
  exact h) fun i j F => Rep.int_iff.mpr rfl
def modOk (_ j : Int) : Bool := decide (0 < j)
theorem prim_mod : Prim2 K (rI (fun _ j => 0 < j) fun i j => .int (i % j)) (fI modOk fun i j => .int (i % j)) := prim_I (fun i j h => by
  unfold modOk at h
  simpa using h) fun i j F => Rep.int_iff.mpr rfl
def powOk (i j : Int) : Bool := decide (0 ≤ j) && (decide (j ≤ 1000000) && decide (i.natAbs < 2 ^ 64))
theorem prim_pow : Prim2 K (rI CPow fun i j => .int (i ^ j.toNat)) (fI powOk fun i j => .int (i ^ j.toNat)) := prim_I (fun i j h => by
  unfold powOk at h
  simp only [Bool.and_eq_true, decide_eq_true_eq] at h
  exact h) fun i j F => Rep.int_iff.mpr rfl
theorem prim_sub : Prim2 K (rI0 fun i j => .int (i - j)) (fI0 fun i j => .int (i - j)) := prim_I0 fun i j F => Rep.int_iff.mpr rfl
theorem prim_addI : Prim2 K (rI0 fun i j => .int (i + j)) (fI0 fun i j => .int (i + j)) := prim_I0 fun i j F => Rep.int_iff.mpr rfl
theorem prim_ltI : Prim2 K (rI0 fun i j => .bl (decide (i < j))) (fI0 fun i j => .bl (decide (i < j))) := prim_I0 fun i j F => Rep.bl_iff.mpr rfl
theorem prim_leI : Prim2 K (rI0 fun i j => .bl (decide (i ≤ j))) (fI0 fun i j => .bl (decide (i ≤ j))) := prim_I0 fun i j F => Rep.bl_iff.mpr rfl
theorem prim_gtI : Prim2 K (rI0 fun i j => .bl (decide (j < i))) (fI0 fun i j => .bl (decide (j < i))) := prim_I0 fun i j F => Rep.bl_iff.mpr rfl
theorem prim_geI : Prim2 K (rI0 fun i j => .bl (decide (j ≤ i))) (fI0 fun i j => .bl (decide (j ≤ i))) := prim_I0 fun i j F => Rep.bl_iff.mpr rfl

/-! ### + of numbers, texts, lists, tuples -/
def rStrCat : R2 := fun x y H Q => ∃ i j : Str, x = .str i ∧ y = .str j ∧ i.length + j.length ≤ sizeLine ∧ Q (.str (i ++ j)) H
def fStrCat : D → D → Option D
  | .str i, .str j => if i.length + j.length ≤ 1000000 then some (.str (i ++ j)) else none
  | _, _ => none
theorem prim_strCat : Prim2 K rStrCat fStrCat := by
  intro F H v w d e z fh hv hw hf Q k
  match d, e, hf with
  | .str i, .str j, hf =>
    obtain ⟨h1, rfl⟩ := if_some (show (if i.length + j.length ≤ 1000000 then some (D.str (i ++ j)) else none) = some z from hf)
    exact ⟨i, j, hv.str, hw.str, LB_size h1, k F H _ (New.refl fh) (Rep.str_iff.mpr rfl)⟩
def fCatL : D → D → Option D
  | .lst xs, .lst ys => if xs.length + ys.length ≤ 1000000 then some (.lst (xs ++ ys)) else none
  | _, _ => none
theorem prim_catL : Prim2 K rCat fCatL := by
  intro F H v w d e z fh hv hw hf Q k
  match d, e, hf with
  | .lst xs, .lst ys, hf =>
    obtain ⟨h1, rfl⟩ := if_some (show (if xs.length + ys.length ≤ 1000000 then some (D.lst (xs ++ ys)) else none) = some z from hf)
    obtain ⟨a, vs, rfl, g1, g2, g3⟩ := hv.lst fh
    obtain ⟨b, us, rfl, g4, g5, g6⟩ := hw.lst fh
    refine ⟨a, b, vs, us, rfl, rfl, g1, g4, by rw [g3.len, g6.len]; exact LB_size h1, fun p hp => ?_⟩
    have n : New F H (upd F p (.lst (vs ++ us))) (upd H p (.lst (vs ++ us))) := New.lay fh hp
    exact k _ _ _ n (Rep.lst_iff.mpr ⟨p, _, rfl, upd_same, by rw [List.length_append]; exact h1, (g3.app g6).mono n.ff⟩)
/-- t + u, the new tuple's object known -/
def rCatZ (K : Fg) : R2 := fun x y H Q => ∃ a b xs ys, x = .ref a ∧ y = .ref b ∧ SqT K H a xs ∧ SqT K H b ys ∧ xs.length + ys.length ≤ sizeLine ∧
  (xs = [] → Q (.ref b) H) ∧ (xs ≠ [] → ys = [] → Q (.ref a) H) ∧ (xs ≠ [] → ys ≠ [] → ∀ p o, H p = none → Obj.dict o = none → Q (.ref p) (upd H p (.frz o (.tup (xs ++ ys)))))
theorem op_catZ {X : Cx} : OpR X (binaryOp .Add) (rCatZ X.K) := by
  intro pins s σ H x y v u Q I rx ry h
  obtain ⟨a, b, xs, ys, rfl, rfl, ha, hb, hz, q0, q1, q2⟩ := h
  by_cases hx : xs = []
  · exact op_catA pins s σ H _ _ v u Q I rx ry ⟨a, b, xs, ys, rfl, rfl, ha, hb, hz, q0, fun h => absurd hx h, fun h => absurd hx h⟩
  · by_cases hy : ys = []
    · exact op_catA pins s σ H _ _ v u Q I rx ry ⟨a, b, xs, ys, rfl, rfl, ha, hb, hz, fun h => absurd h hx, fun _ h => q1 hx h, fun _ h => absurd hy h⟩
    · cases rx
      cases ry
      obtain ⟨us, r1, p1, _⟩ := I.tuple ha
      obtain ⟨ws, r2, p2, _⟩ := I.tuple hb
      refine HT.cat_tup p1 p2 (fun z => hx (r1.nil_iff.mp z)) (fun z => absurd (r2.nil_iff.mp z) hy) (fun _ => ?_) (by rw [← r1.length, ← r2.length]; exact hz)
      refine ⟨.ref s.heap.objs.size, upd H s.heap.objs.size (.frz { cls := .type "tuple", data := .seq (us ++ ws).toArray } (.tup (xs ++ ys))), I.laid (t' := s.toks) (fun b ob q => Heap.get?_push_of_some _ q) (Nat.le_refl _) ?_, rfl, q2 hx hy _ _ (I.hok.fresh (Nat.le_refl _)) rfl⟩
      exact ⟨Heap.get?_push_size _ rfl, by rw [List.length_append]; exact hz, _, r1.append r2, PyProof.Rows.IsTup.new _ _⟩
def fCatT : D → D → Option D
  | .tup xs, .tup ys => if xs.length + ys.length ≤ 1000000 then some (.tup (xs ++ ys)) else none
  | _, _ => none
theorem prim_catZ : Prim2 K (rCatZ K) fCatT := by
  intro F H v w d e z fh hv hw hf Q k
  match d, e, hf with
  | .tup xs, .tup ys, hf =>
    obtain ⟨h1, rfl⟩ := if_some (show (if xs.length + ys.length ≤ 1000000 then some (D.tup (xs ++ ys)) else none) = some z from hf)
    obtain ⟨a, vs, rfl, g1, g2, g3⟩ := hv.tup
    obtain ⟨b, us, rfl, g4, g5, g6⟩ := hw.tup
    have l1 := g3.len
    have l2 := g6.len
    refine ⟨a, b, vs, us, rfl, rfl, same_t fh g1.sq, same_t fh g4.sq, by rw [l1, l2]; exact LB_size h1, fun e1 => ?_, fun _ e1 => ?_, fun _ _ p o hp ho => ?_⟩
    · have : xs = [] := by
        cases xs with
        | nil => rfl
        | cons x xs => rw [e1] at l1; simp at l1
      subst this
      exact k F H _ (New.refl fh) (Rep.tup_iff.mpr ⟨b, us, rfl, g4, g5, g6⟩)
    · have : ys = [] := by
        cases ys with
        | nil => rfl
        | cons x xs => rw [e1] at l2; simp at l2
      subst this
      refine k F H _ (New.refl fh) ?_
      rw [List.append_nil]
      exact Rep.tup_iff.mpr ⟨a, vs, rfl, g1, g2, g3⟩
    · obtain ⟨n, hr⟩ := newT (K := K) fh hp ho (by rw [List.length_append]; exact h1) (g3.app g6)
      exact k _ _ _ n hr
def rAddA (K : Fg) : R2 := fun x y H Q => rI0 (fun i j => .int (i + j)) x y H Q ∨ (rStrCat x y H Q ∨ (rCat x y H Q ∨ rCatZ K x y H Q))
theorem op_addA {X : Cx} : OpR X (binaryOp .Add) (rAddA X.K) := op_add.or (op_add_str.or (op_cat.or op_catZ))
def addD (d e : D) : Option D := (fI0 (fun i j => .int (i + j)) d e).or ((fStrCat d e).or ((fCatL d e).or (fCatT d e)))
theorem prim_add : Prim2 K (rAddA K) addD := prim_addI.or (prim_strCat.or (prim_catL.or prim_catZ))

/-! ### == of data -/
mutual
def toPy : D → Option PyData
  | .non => some .none
  | .bl b => some (.bool b)
  | .int i => some (.int i)
  | .str x => some (.str x)
  | .tup ds => (toPys ds).map .tuple
  | .lst ds => (toPys ds).map .list
  | .ins _ _ _ => none
  | .dk _ _ => none
def toPys : List D → Option (List PyData)
  | [] => some []
  | d :: ds => match toPy d, toPys ds with
    | some p, some ps => some (p :: ps)
    | _, _ => none
end
mutual
theorem toPy_dp {K : Fg} {H : Hp} : ∀ {d : D} {v : V} {p : PyData}, Rep K H d v → toPy d = some p → Dp K H v p
  | .non, v, p, h, e => by cases e; rw [Rep.non_iff.mp h]; exact .non
  | .bl b, v, p, h, e => by cases e; rw [Rep.bl_iff.mp h]; exact .bl b
  | .int i, v, p, h, e => by cases e; rw [Rep.int_iff.mp h]; exact .int i
  | .str x, v, p, h, e => by cases e; rw [Rep.str_iff.mp h]; exact .str x
  | .tup ds, v, p, h, e => by
    obtain ⟨a, vs, rfl, g1, g2, g3⟩ := Rep.tup_iff.mp h
    simp only [toPy] at e
    cases q : toPys ds with
    | none => rw [q] at e; cases e
    | some ps => rw [q] at e; cases e; exact .tup g1.sq (toPys_dp g3 q)
  | .lst ds, v, p, h, e => by
    obtain ⟨a, vs, rfl, g1, g2, g3⟩ := Rep.lst_iff.mp h
    simp only [toPy] at e
    cases q : toPys ds with
    | none => rw [q] at e; cases e
    | some ps => rw [q] at e; cases e; exact .lst (Or.inl (Or.inl g1)) (toPys_dp g3 q)
  | .ins _ _ _, v, p, h, e => by cases e
  | .dk _ _, v, p, h, e => by cases e
theorem toPys_dp {K : Fg} {H : Hp} : ∀ {ds : List D} {vs : List V} {ps : List PyData}, Reps K H ds vs → toPys ds = some ps → DpAll K H vs ps
  | [], vs, ps, h, e => by cases e; rw [h.inv0]; exact .nil
  | d :: ds, vs, ps, h, e => by
    obtain ⟨v, us, rfl, h1, h2⟩ := h.inv
    simp only [toPys] at e
    cases q1 : toPy d with
    | none => simp only [q1] at e; cases e
    | some p =>
      cases q2 : toPys ds with
      | none => simp only [q1, q2] at e; cases e
      | some qs => simp only [q1, q2] at e; cases e; exact .cons (toPy_dp h1 q1) (toPys_dp h2 q2)
end
/-- whether two data are equal, as Python tells it -/
def pyEq (d e : D) : Option Bool := match toPy d, toPy e with
  | some p, some q => if SeqAt.shaped p && SeqAt.shaped q then some (PyData.eqv p q) else none
  | _, _ => none
def eqD (d e : D) : Option D := (pyEq d e).map D.bl
def neD (d e : D) : Option D := (pyEq d e).map fun b => D.bl (!b)
theorem pyEq_some {d e : D} {b : Bool} (h : pyEq d e = some b) : ∃ p q, toPy d = some p ∧ toPy e = some q ∧ SeqAt.shaped p = true ∧ SeqAt.shaped q = true ∧ b = PyData.eqv p q := by
  unfold pyEq at h
  cases e1 : toPy d with
  | none => simp only [e1] at h; cases h
  | some p =>
    cases e2 : toPy e with
    | none => simp only [e1, e2] at h; cases h
    | some q =>
      simp only [e1, e2] at h
      obtain ⟨h1, h2⟩ := if_some h
      obtain ⟨h3, h4⟩ := Bool.and_eq_true_iff.mp h1
      exact ⟨p, q, rfl, rfl, h3, h4, h2.symm⟩
theorem prim_eq : Prim2 K (rEqD K) eqD := by
  intro F H v w d e z fh hv hw hf Q k
  unfold eqD at hf
  cases h : pyEq d e with
  | none => rw [h] at hf; cases hf
  | some b =>
    rw [h] at hf
    cases hf
    obtain ⟨p, q, h1, h2, h3, h4, rfl⟩ := pyEq_some h
    exact ⟨p, q, toPy_dp (hv.full fh) h1, toPy_dp (hw.full fh) h2, h3, h4, k F H _ (New.refl fh) (Rep.bl_iff.mpr rfl)⟩
theorem prim_ne : Prim2 K (rNeD K) neD := by
  intro F H v w d e z fh hv hw hf Q k
  unfold neD at hf
  cases h : pyEq d e with
  | none => rw [h] at hf; cases hf
  | some b =>
    rw [h] at hf
    cases hf
    obtain ⟨p, q, h1, h2, h3, h4, rfl⟩ := pyEq_some h
    exact ⟨p, q, toPy_dp (hv.full fh) h1, toPy_dp (hw.full fh) h2, h3, h4, k F H _ (New.refl fh) (Rep.bl_iff.mpr rfl)⟩
/-- x in a list -/
def inLD (neg : Bool) : D → D → Option D
  | d, .lst es => match toPy d, toPys es with
    | some p, some qs => if SeqAt.shaped p && SeqAt.shaped (.list qs) then some (.bl (xor neg (qs.any fun z => PyData.eqv z p))) else none
    | _, _ => none
  | _, _ => none
theorem inLD_some {neg : Bool} {d : D} {es : List D} {z : D} (h : inLD neg d (.lst es) = some z) : ∃ p qs, toPy d = some p ∧ toPys es = some qs ∧ SeqAt.shaped p = true ∧ SeqAt.shaped (.list qs) = true ∧ z = .bl (xor neg (qs.any fun z => PyData.eqv z p)) := by
  unfold inLD at h
  cases e1 : toPy d with
  | none => simp only [e1] at h; cases h
  | some p =>
    cases e2 : toPys es with
    | none => simp only [e1, e2] at h; cases h
    | some q =>
      simp only [e1, e2] at h
      obtain ⟨h1, h2⟩ := if_some h
      obtain ⟨h3, h4⟩ := Bool.and_eq_true_iff.mp h1
      exact ⟨p, q, rfl, rfl, h3, h4, h2.symm⟩
theorem prim_inL : Prim2 K (rInD K) (inLD false) := by
  intro F H v w d e z fh hv hw hf Q k
  match e, hf with
  | .lst es, hf =>
    obtain ⟨p, qs, h1, h2, h3, h4, rfl⟩ := inLD_some hf
    refine ⟨p, qs, toPy_dp (hv.full fh) h1, toPy_dp (hw.full fh) (by simp only [toPy, h2]; rfl), h3, h4, k F H _ (New.refl fh) (Rep.bl_iff.mpr ?_)⟩
    rw [Bool.false_xor]
theorem prim_notInL : Prim2 K (rNotInD K) (inLD true) := by
  intro F H v w d e z fh hv hw hf Q k
  match e, hf with
  | .lst es, hf =>
    obtain ⟨p, qs, h1, h2, h3, h4, rfl⟩ := inLD_some hf
    refine ⟨p, qs, toPy_dp (hv.full fh) h1, toPy_dp (hw.full fh) (by simp only [toPy, h2]; rfl), h3, h4, k F H _ (New.refl fh) (Rep.bl_iff.mpr ?_)⟩
    rw [Bool.true_xor]
end
end DL

set_option Elab.async false
set_option linter.all false
set_option maxRecDepth 100000
set_option maxHeartbeats 400000
/-! DLg: more primitives: len, isinstance, items, slices, list(), tuple(), sorted, dicts, methods. -/
namespace DL
open PySem L2
section
variable {K : Fg}
theorem paired1 {α β : Type} {Rr : α → β → Prop} {as : List α} {b : β} (h : Paired Rr as [b]) : ∃ a, as = [a] ∧ Rr a b := by
  cases h with
  | cons r t => cases t; exact ⟨_, rfl, r⟩
theorem paired2 {α β : Type} {Rr : α → β → Prop} {as : List α} {b c : β} (h : Paired Rr as [b, c]) : ∃ a d, as = [a, d] ∧ Rr a b ∧ Rr d c := by
  cases h with
  | cons r t =>
    obtain ⟨x, rfl, q⟩ := paired1 t
    exact ⟨_, _, rfl, r, q⟩
/-- a primitive of one value from one of an argument list -/
def fA1 (f : D → Option D) : List D → Option D
  | [d] => f d
  | _ => none
def fA2 (f : D → D → Option D) : List D → Option D
  | [d, e] => f d e
  | _ => none
def fN1 (f : D → Option (List D)) : List D → Option (List D)
  | [d] => f d
  | _ => none
theorem primA1 {r : List V → Hp → VK → Prop} {f : D → Option D} (h : ∀ (F H : Hp) (v : V) (d e : D), Same F H → RepR K F H v d → f d = some e → ∀ Q : VK, (∀ F' H' u, New F H F' H' → Rep K F' e u → Q u H') → r [v] H Q) : PrimA K r (fA1 f) := by
  intro F H vs ds e fh hp hf Q k
  match ds, hp, hf with
  | [d], hp, hf =>
    obtain ⟨v, rfl, hv⟩ := paired1 hp
    exact h F H v d e fh hv hf Q k
theorem primN1 {r : List V → Hp → VK → Prop} {f : D → Option (List D)} (h : ∀ (F H : Hp) (v : V) (d : D) (es : List D), Same F H → RepR K F H v d → f d = some es → ∀ Q : VK, (∀ p H' us, H p = none → Same H H' → H' p = some (.lst us) → es.length ≤ LB → Reps K F es us → Q (.ref p) H') → r [v] H Q) : PrimNA K r (fN1 f) := by
  intro F H vs ds es fh hp hf Q k
  match ds, hp, hf with
  | [d], hp, hf =>
    obtain ⟨v, rfl, hv⟩ := paired1 hp
    exact h F H v d es fh hv hf Q k
/-! ### len -/
def rLen (K : Fg) : List V → Hp → VK → Prop := fun xs H Q => ∃ x n, xs = [x] ∧ LenV K x H n ∧ Q (.int n) H
def rLenDk : List V → Hp → VK → Prop := fun xs H Q => ∃ a kvs, xs = [V.ref a] ∧ H a = some (.dK kvs) ∧ Q (.int kvs.length) H
def lenD : D → Option D
  | .str x => if x.length ≤ 1000000 then some (.int x.length) else none
  | .lst ds => some (.int ds.length)
  | .tup ds => some (.int ds.length)
  | _ => none
theorem prim_len : PrimA K (rLen K) (fA1 lenD) := primA1 fun F H v d e fh hv hf Q k => by
  cases d with
  | str x =>
    obtain ⟨h1, rfl⟩ := if_some (show (if x.length ≤ 1000000 then some (D.int x.length) else none) = some e from hf)
    exact ⟨v, x.length, rfl, by rw [hv.str]; exact ⟨LB_size h1, rfl⟩, k F H _ (New.refl fh) (Rep.int_iff.mpr rfl)⟩
  | lst ds =>
    cases hf
    obtain ⟨a, vs, rfl, g1, g2, g3⟩ := hv.lst fh
    exact ⟨_, ds.length, rfl, Or.inl ⟨vs, Or.inl (Or.inl g1), g3.len.symm⟩, k F H _ (New.refl fh) (Rep.int_iff.mpr rfl)⟩
  | tup ds =>
    cases hf
    obtain ⟨a, vs, rfl, g1, g2, g3⟩ := hv.tup
    exact ⟨_, ds.length, rfl, Or.inr ⟨vs, same_t fh g1.sq, g3.len.symm⟩, k F H _ (New.refl fh) (Rep.int_iff.mpr rfl)⟩
  | _ => cases hf
/-! ### isinstance of a built-in class -/
def tyN : D → Option String
  | .non => some "NoneType"
  | .bl _ => some "bool"
  | .int _ => some "int"
  | .str _ => some "str"
  | .tup _ => some "tuple"
  | .lst _ => some "list"
  | .dk _ _ => some "dict"
  | .ins _ _ _ => none
theorem tyX_of {F H : Hp} {v : V} {d : D} {t : String} (fh : Same F H) (hv : RepR K F H v d) (ht : tyN d = some t) : TyX K H v (.type t) := by
  cases d with
  | non => cases ht; rw [hv.non]; exact .base .non
  | bl b => cases ht; rw [hv.bl]; exact .base (.bl b)
  | int i => cases ht; rw [hv.int]; exact .base (.int i)
  | str x => cases ht; rw [hv.str]; exact .base (.str x)
  | tup ds =>
    cases ht
    obtain ⟨a, vs, rfl, g1, g2, g3⟩ := hv.tup
    rcases g1 with ⟨o, _, h⟩ | ⟨o, its, n, h1, _, h2, _⟩
    · exact .fTuple (fh _ _ h)
    · exact .kTuple h1 h2
  | lst ds =>
    cases ht
    obtain ⟨a, vs, rfl, g1, g2, g3⟩ := hv.lst fh
    exact .base (.lst g1)
  | dk ks ds =>
    cases ht
    obtain ⟨a, vs, rfl, g1, _⟩ := hv.dk fh
    rcases g1 with g1 | ⟨o, g1⟩
    · exact .base (.dK g1)
    · exact .fDict g1
  | ins C ns ds => cases ht
/-- isinstance(x, T) -/
def isB (T : String) (d : D) : Option D := match tyN d with
  | some t => (kitB t T).map D.bl
  | none => none
def tIsi (K : Fg) (T : String) (te : TE) : TE := tCB (rIsi K) (tCons te (tCons (tC (.ty T)) tNil))
theorem prim_isB {T : String} : Prim1 K (fun x H Q => rIsi K [x, .ty T] H Q) (isB T) := by
  intro F H v d e fh hv hf Q k
  unfold isB at hf
  cases ht : tyN d with
  | none => simp only [ht] at hf; cases hf
  | some t =>
    simp only [ht] at hf
    cases hb : kitB t T with
    | none => rw [hb] at hf; cases hf
    | some b =>
      rw [hb] at hf
      cases hf
      exact ⟨v, .ty T, .type t, .type T, b, rfl, .ty T, tyX_of fh hv ht, kit_ty hb, k F H _ (New.refl fh) (Rep.bl_iff.mpr rfl)⟩
theorem ev_isi {W : WX} {T : String} {te : TE} {a : M Op} (h : Eo K W te a) : Ev K W (tIsi K T te) (m1 (isB T) a) := ev_1 (r := fun x H Q => rIsi K [x, .ty T] H Q) prim_isB h
/-! ### items -/
def ixD : D → D → Option D
  | .lst ds, .int i => atI ds i
  | .tup ds, .int i => atI ds i
  | .str x, .int i => if x.length ≤ 1000000 then (atI x.cps.toList i).map fun c => D.str ⟨#[c]⟩ else none
  | _, _ => none
theorem atI_len {α β : Type} {xs : List α} {ys : List β} {i : Int} {x : α} (hl : xs.length = ys.length) (h : atI xs i = some x) : ∃ j : Nat, xs[j]? = some x ∧ ∀ y, ys[j]? = some y → atI ys i = some y := by
  unfold atI at h ⊢
  cases e : ixN xs.length i with
  | none => rw [e] at h; cases h
  | some j =>
    rw [e] at h
    refine ⟨j, h, fun y hy => ?_⟩
    rw [← hl, e]
    exact hy
theorem prim_ix : Prim2 K (rIx K) ixD := by
  intro F H v w d e z fh hv hw hf Q k
  cases e with
  | int i =>
   cases d with
   | lst ds =>
    obtain ⟨a, vs, rfl, g1, g2, g3⟩ := hv.lst fh
    obtain ⟨j, h1, h2⟩ := atI_len g3.len.symm hf
    obtain ⟨u, h3, h4⟩ := g3.get h1
    exact Or.inl ⟨a, vs, i, u, rfl, hw.int, Or.inl (Or.inl g1), h2 u h3, k F H _ (New.refl fh) h4⟩
   | tup ds =>
    obtain ⟨a, vs, rfl, g1, g2, g3⟩ := hv.tup
    obtain ⟨j, h1, h2⟩ := atI_len g3.len.symm hf
    obtain ⟨u, h3, h4⟩ := g3.get h1
    exact Or.inr (Or.inl ⟨a, vs, i, u, rfl, hw.int, same_t fh g1.sq, h2 u h3, k F H _ (New.refl fh) h4⟩)
   | str x =>
    have hf : (if x.length ≤ 1000000 then (atI x.cps.toList i).map fun c => D.str ⟨#[c]⟩ else none) = some z := hf
    by_cases hl : x.length ≤ 1000000
    · rw [if_pos hl] at hf
      cases h1 : atI x.cps.toList i with
      | none => rw [h1] at hf; cases hf
      | some c =>
        rw [h1] at hf
        cases hf
        exact Or.inr (Or.inr ⟨x, i, c, hv.str, hw.int, LB_size hl, h1, k F H _ (New.refl fh) (Rep.str_iff.mpr rfl)⟩)
    · rw [if_neg hl] at hf; cases hf
   | _ => cases hf
  | _ => cases d <;> cases hf
/-! ### slices -/
/-- t[lo:hi], the new tuple's object known -/
def rSlZ (K : Fg) : V → Option Int → Option Int → Hp → VK → Prop := fun x lo hi H Q => ∃ a xs, x = .ref a ∧ SqT K H a xs ∧
  (HT.sIx xs.length 0 lo = 0 ∧ HT.sIx xs.length xs.length hi = xs.length → Q (.ref a) H) ∧ (¬ (HT.sIx xs.length 0 lo = 0 ∧ HT.sIx xs.length xs.length hi = xs.length) → ∀ p o, H p = none → Obj.dict o = none → Q (.ref p) (upd H p (.frz o (.tup (cutV xs lo hi)))))
theorem sl_tupZ {X : Cx} : SlR X (rSlZ X.K) := by
  intro pins s σ H x v vl vu lo hi sl Q I rx hs pl pu h
  obtain ⟨a, xs, rfl, hx, q1, q2⟩ := h
  by_cases hw : HT.sIx xs.length 0 lo = 0 ∧ HT.sIx xs.length xs.length hi = xs.length
  · exact sl_tupA pins s σ H _ v vl vu lo hi sl Q I rx hs pl pu ⟨a, xs, rfl, hx, q1, fun h => absurd hw h⟩
  · cases rx
    obtain ⟨us, r, ht, hz⟩ := I.tuple hx
    have hlen : us.toArray.size = xs.length := by rw [List.size_toArray]; exact r.length.symm
    refine ⟨"tuple", _, PyProof.Rows.slot_tuple_getitem.lookup, ht.typeIs, HT.getItem_tuple_cut ht hs pl pu (by rw [hlen]; exact hw) ?_ (by rw [hlen]; exact hz)⟩
    rw [hlen]
    refine ⟨.ref s.heap.objs.size, upd H s.heap.objs.size (.frz { cls := .type "tuple", data := .seq ((us.toArray.toList.drop (HT.sIx xs.length 0 lo)).take (HT.sIx xs.length xs.length hi - HT.sIx xs.length 0 lo)).toArray } (.tup (cutV xs lo hi))), I.laid (t' := s.toks) (fun b ob q => Heap.get?_push_of_some _ q) (Nat.le_refl _) ⟨Heap.get?_push_size _ rfl, ?_⟩, rfl, q2 hw _ _ (I.hok.fresh (Nat.le_refl _)) rfl⟩
    exact ⟨Nat.le_trans (cutV_length xs lo hi) hz, _, (r.drop (HT.sIx xs.length 0 lo)).take (HT.sIx xs.length xs.length hi - HT.sIx xs.length 0 lo), PyProof.Rows.IsTup.new _ _⟩
def PrimSl (K : Fg) (r : V → Option Int → Option Int → Hp → VK → Prop) (f : D → Option Int → Option Int → Option D) : Prop := ∀ (F H : Hp) (v : V) (d : D) (lo hi : Option Int) (e : D), Same F H → RepR K F H v d → f d lo hi = some e → ∀ Q : VK, (∀ F' H' u, New F H F' H' → Rep K F' e u → Q u H') → r v lo hi H Q
def cutD (xs : List D) (lo hi : Option Int) : List D := (xs.drop (HT.sIx xs.length 0 lo)).take (HT.sIx xs.length xs.length hi - HT.sIx xs.length 0 lo)
theorem cutD_reps {F : Hp} {ds : List D} {vs : List V} {lo hi : Option Int} (h : Reps K F ds vs) : Reps K F (cutD ds lo hi) (cutV vs lo hi) := by
  unfold cutD cutV
  rw [h.len]
  exact (h.drop _).take _
theorem cutD_len {ds : List D} {lo hi : Option Int} : (cutD ds lo hi).length ≤ ds.length := by
  unfold cutD
  rw [List.length_take, List.length_drop]
  omega
def slD : D → Option Int → Option Int → Option D
  | .lst ds, lo, hi => some (.lst (cutD ds lo hi))
  | .tup ds, lo, hi => some (.tup (cutD ds lo hi))
  | .str x, lo, hi => if x.length ≤ 1000000 then some (.str (cutS x lo hi)) else none
  | _, _, _ => none
def rSlAny (K : Fg) : V → Option Int → Option Int → Hp → VK → Prop := fun x lo hi H Q => rSlL K x lo hi H Q ∨ (rSlZ K x lo hi H Q ∨ rSlS x lo hi H Q)
theorem sl_any {X : Cx} : SlR X (rSlAny X.K) := sl_list.or (sl_tupZ.or sl_str)
theorem prim_sl : PrimSl K (rSlAny K) slD := by
  intro F H v d lo hi e fh hv hf Q k
  cases d with
  | lst ds =>
    cases hf
    obtain ⟨a, vs, rfl, g1, g2, g3⟩ := hv.lst fh
    refine Or.inl ⟨a, vs, rfl, Or.inl (Or.inl g1), fun p hp => ?_⟩
    have n : New F H (upd F p (.lst (cutV vs lo hi))) (upd H p (.lst (cutV vs lo hi))) := New.lay fh hp
    exact k _ _ _ n (Rep.lst_iff.mpr ⟨p, _, rfl, upd_same, Nat.le_trans cutD_len g2, (cutD_reps g3).mono n.ff⟩)
  | tup ds =>
    cases hf
    obtain ⟨a, vs, rfl, g1, g2, g3⟩ := hv.tup
    refine Or.inr (Or.inl ⟨a, vs, rfl, same_t fh g1.sq, fun e => ?_, fun _ p o hp ho => ?_⟩)
    · have : cutD ds lo hi = ds := by
        unfold cutD
        rw [← g3.len, e.1, e.2, List.drop_zero, Nat.sub_zero, g3.len, List.take_length]
      refine k F H _ (New.refl fh) ?_
      rw [this]
      exact Rep.tup_iff.mpr ⟨a, vs, rfl, g1, g2, g3⟩
    · obtain ⟨n, hr⟩ := newT (K := K) fh hp ho (Nat.le_trans cutD_len g2) (cutD_reps (lo := lo) (hi := hi) g3)
      exact k _ _ _ n hr
  | str x =>
    obtain ⟨h1, rfl⟩ := if_some (show (if x.length ≤ 1000000 then some (D.str (cutS x lo hi)) else none) = some e from hf)
    exact Or.inr (Or.inr ⟨x, hv.str, LB_size h1, k F H _ (New.refl fh) (Rep.str_iff.mpr rfl)⟩)
  | _ => cases hf
/-- a slice's part -/
def relP : Rl (Option Int) (Option Int) := fun _ _ a b => a = b
abbrev Ep (K : Fg) (W : WX) (t : TO) (m : M (Option Int)) : Prop := J K W tru t relP m
def mpNone : M (Option Int) := M.ret none
def mpSome (m : M D) : M (Option Int) := m.bind fun d => M.lift (match d with
  | .int i => some (some i)
  | _ => none)
theorem ep_none {W : WX} : Ep K W tNoPart mpNone := by
  intro C hK hW al F H σ δ S _ r hr Q hok hex
  cases hr
  exact hok _ δ rfl al F H _ (Same.refl _) S rfl
theorem ep_some {W : WX} {te : TE} {m : M D} (h : Ev K W te m) : Ep K W (tPart te) (mpSome m) := by
  refine J.bind (t2 := fun (x : V) (_ : St) (H : Hp) (Q : Option Int → Hp → Prop) => ∃ i, x = V.int i ∧ Q (some i) H) h monoT fun d v => ?_
  intro C hK hW al F H σ δ S hp r hr Q hok hex
  obtain ⟨b, h2, rfl⟩ := lift_some hr
  cases d with
  | int i =>
    cases h2
    have hv : Rep K F (.int i) v := hp.2
    exact ⟨i, Rep.int_iff.mp hv, hok _ δ rfl al F H _ (Same.refl _) S rfl⟩
  | _ => cases h2
def mSl (f : D → Option Int → Option Int → Option D) (a : M Op) (l u : M (Option Int)) : M D := a.bind fun o => l.bind fun lo => u.bind fun hi => (mRd o).bind fun d => M.lift (f d lo hi)
theorem monoPt : MonoR relP := fun _ _ _ _ _ _ h => h
theorem ev_sl {W : WX} {r : V → Option Int → Option Int → Hp → VK → Prop} {f : D → Option Int → Option Int → Option D} {te : TE} {tl th : TO} {a : M Op} {l u : M (Option Int)} (p : PrimSl K r f) (ha : Eo K W te a) (hl : Ep K W tl l) (hu : Ep K W th u) : Ev K W (tSl r te tl th) (mSl f a l u) := by
  refine J.bind (t2 := fun x σ H Q => tl σ H fun l H2 => th σ H2 fun u H3 => r x l u H3 Q) ha monoT fun o v => ?_
  refine J.bind (t2 := fun l σ H Q => th σ H fun u H3 => r v l u H3 Q) (hl.wk fun _ _ _ => trivial) (monoT.and monoO.at) fun lo lo' => ?_
  refine J.bind (t2 := fun u σ H Q => r v lo' u H Q) (hu.wk fun _ _ _ => trivial) ((monoT.and monoO.at).and monoPt.at) fun hi hi' => ?_
  intro C hK hW al F H σ δ S hp r' hr Q hok hex
  subst hK
  obtain ⟨d, h1, hr⟩ := rd_bind hr
  obtain ⟨z, h3, rfl⟩ := lift_some hr
  have e1 : lo' = lo := hp.1.2
  have e2 : hi' = hi := hp.2
  subst e1 e2
  exact p F H v d lo' hi' z S.fh (S.opd hp.1.1.2 h1) h3 Q fun F' H' u n ru => hok z δ rfl al F' H' u n.ff (S.new n) ru
/-! ### list(), tuple() -/
def rListOf (K : Fg) : List V → Hp → VK → Prop := fun xs H Q => ∃ p ys, xs = [V.ref p] ∧ (SqL K H p ys ∨ SqT K H p ys) ∧ ∀ l, H l = none → Q (.ref l) (upd H l (.lst ys))
def listD : D → Option (List D)
  | .lst ds => some ds
  | .tup ds => some ds
  | _ => none
theorem prim_list : PrimNA K (rListOf K) (fN1 listD) := primN1 fun F H v d es fh hv hf Q k => by
  cases d with
  | lst ds =>
    cases hf
    obtain ⟨a, vs, rfl, g1, g2, g3⟩ := hv.lst fh
    exact ⟨a, vs, rfl, Or.inl (Or.inl (Or.inl g1)), fun l hl => k l _ vs hl (same_upd hl) upd_same g2 g3⟩
  | tup ds =>
    cases hf
    obtain ⟨a, vs, rfl, g1, g2, g3⟩ := hv.tup
    exact ⟨a, vs, rfl, Or.inr (same_t fh g1.sq), fun l hl => k l _ vs hl (same_upd hl) upd_same g2 g3⟩
  | _ => cases hf
/-- tuple(xs): a new tuple, its object known; of a tuple itself -/
def rTupOf (K : Fg) : List V → Hp → VK → Prop := fun xs H Q => ∃ p ys, xs = [V.ref p] ∧ ((SqL K H p ys ∧ ∀ l o, H l = none → Obj.dict o = none → Q (.ref l) (upd H l (.frz o (.tup ys)))) ∨ (SqT K H p ys ∧ Q (.ref p) H))
theorem call_tupleZ {X : Cx} : CallR X (.type "tuple") (rTupOf X.K) := by
  intro pins s σ H xs us Q I r h
  obtain ⟨p, ys, rfl, h⟩ := h
  rcases h with ⟨hq, q⟩ | ⟨hq, q⟩
  · obtain ⟨u, rfl, rx⟩ := vals1 r
    cases rx
    obtain ⟨ws, r', pl, hz⟩ := I.list hq
    have hlen := r'.length
    refine call_tuple_list pl.isList (fun h' kp => ?_) (by simp only [List.size_toArray] <;> omega)
    have I1 : Inv X pins σ H { s with heap := h' } := I.kept (t' := s.toks) kp
    exact ⟨.ref h'.objs.size, upd H h'.objs.size (.frz { cls := .type "tuple", data := .seq ws.toArray } (.tup ys)), I1.laid (t' := s.toks) (fun b o e => Heap.get?_push_of_some _ e) (Nat.le_refl _) ⟨Heap.get?_push_size _ rfl, hz, ws, r', PyProof.Rows.IsTup.new _ _⟩, rfl, q _ _ (I1.hok.fresh (Nat.le_refl _)) rfl⟩
  · exact call_tuple_of pins s σ H _ us Q I r ⟨p, ys, rfl, Or.inr ⟨hq, q⟩⟩
def tupD : D → Option D
  | .lst ds => some (.tup ds)
  | .tup ds => some (.tup ds)
  | _ => none
theorem prim_tup : PrimA K (rTupOf K) (fA1 tupD) := primA1 fun F H v d e fh hv hf Q k => by
  cases d with
  | lst ds =>
    cases hf
    obtain ⟨a, vs, rfl, g1, g2, g3⟩ := hv.lst fh
    refine ⟨a, vs, rfl, Or.inl ⟨Or.inl (Or.inl g1), fun l o hl ho => ?_⟩⟩
    obtain ⟨n, hr⟩ := newT (K := K) fh hl ho g2 g3
    exact k _ _ _ n hr
  | tup ds =>
    cases hf
    obtain ⟨a, vs, rfl, g1, g2, g3⟩ := hv.tup
    exact ⟨a, vs, rfl, Or.inr ⟨same_t fh g1.sq, k F H _ (New.refl fh) (Rep.tup_iff.mpr ⟨a, vs, rfl, g1, g2, g3⟩)⟩⟩
  | _ => cases hf
/-! ### all, any, abs, int, max, min of two numbers -/
def blsOf : List D → Option (List Bool)
  | [] => some []
  | .bl b :: r => (blsOf r).map (b :: ·)
  | _ => none
theorem bls_reps {F : Hp} : ∀ {ds : List D} {bs : List Bool} {vs : List V}, blsOf ds = some bs → Reps K F ds vs → vs = bs.map V.bl
  | [], bs, vs, h, r => by cases h; rw [r.inv0]; rfl
  | .bl b :: ds, bs, vs, h, r => by
    simp only [blsOf] at h
    cases e : blsOf ds with
    | none => rw [e] at h; cases h
    | some cs =>
      rw [e] at h
      cases h
      obtain ⟨v, us, rfl, r1, r2⟩ := r.inv
      rw [Rep.bl_iff.mp r1, bls_reps e r2]
      rfl
def allD : D → Option D
  | .lst ds => (blsOf ds).map fun bs => D.bl (bs.all id)
  | _ => none
theorem prim_all : PrimA K (rAll K) (fA1 allD) := primA1 fun F H v d e fh hv hf Q k => by
  cases d with
  | lst ds =>
    have hf : (blsOf ds).map (fun bs => D.bl (bs.all id)) = some e := hf
    obtain ⟨a, vs, rfl, g1, g2, g3⟩ := hv.lst fh
    cases e1 : blsOf ds with
    | none => rw [e1] at hf; cases hf
    | some bs =>
      rw [e1] at hf
      cases hf
      exact ⟨a, bs, rfl, Or.inl (Or.inl (by rw [← bls_reps e1 g3]; exact g1)), k F H _ (New.refl fh) (Rep.bl_iff.mpr rfl)⟩
  | _ => cases hf
def absD : D → Option D
  | .int i => some (.int (if i < 0 then -i else i))
  | _ => none
theorem prim_abs : PrimA K (fun xs H Q => ∃ i, xs = [V.int i] ∧ Q (.int (if i < 0 then -i else i)) H) (fA1 absD) := primA1 fun F H v d e fh hv hf Q k => by
  cases d with
  | int i =>
    cases hf
    exact ⟨i, by rw [hv.int], k F H _ (New.refl fh) (Rep.int_iff.mpr rfl)⟩
  | _ => cases hf
def intD : D → Option D
  | .int i => some (.int i)
  | .bl b => some (.int (if b then 1 else 0))
  | _ => none
theorem prim_int : PrimA K (fun xs H Q => (∃ i, xs = [V.int i] ∧ Q (.int i) H) ∨ ∃ k, xs = [V.bl k] ∧ Q (.int (if k then 1 else 0)) H) (fA1 intD) := primA1 fun F H v d e fh hv hf Q k => by
  cases d with
  | int i =>
    cases hf
    exact Or.inl ⟨i, by rw [hv.int], k F H _ (New.refl fh) (Rep.int_iff.mpr rfl)⟩
  | bl b =>
    cases hf
    exact Or.inr ⟨b, by rw [hv.bl], k F H _ (New.refl fh) (Rep.int_iff.mpr rfl)⟩
  | _ => cases hf
/-! ### a sign in a text -/
def inSignD (neg : Bool) : D → D → Option D
  | .str x, .str z => match x.cps.toList with
    | [c] => some (.bl (xor neg (decide (c ∈ z.cps.toList))))
    | _ => none
  | _, _ => none
def rInSign : R2 := fun x y H Q => ∃ (c : Nat) (z : Str), x = .str ⟨#[c]⟩ ∧ y = .str z ∧ Q (.bl (decide (c ∈ z.cps.toList))) H
theorem str_one {x : Str} {c : Nat} (h : x.cps.toList = [c]) : x = ⟨#[c]⟩ := by
  cases x with
  | mk a =>
    have : a = #[c] := by
      apply Array.ext'
      exact h
    rw [this]
theorem prim_inSign : Prim2 K rInSign (inSignD false) := by
  intro F H v w d e z fh hv hw hf Q k
  cases d with
  | str x =>
    cases e with
    | str y =>
      unfold inSignD at hf
      cases h : x.cps.toList with
      | nil => simp only [h] at hf; cases hf
      | cons c r =>
        cases r with
        | cons c2 r2 => simp only [h] at hf; cases hf
        | nil =>
          simp only [h] at hf
          have hx := str_one h
          subst hx
          cases hf
          refine ⟨c, y, hv.str, hw.str, k F H _ (New.refl fh) (Rep.bl_iff.mpr ?_)⟩
          rw [Bool.false_xor]
    | _ => cases hf
  | _ => cases hf
/-! ### dicts -/
def keyD : D → Option Key
  | .int i => some (Sum.inl i)
  | .str x => some (Sum.inr x)
  | _ => none
theorem keyD_v {F H : Hp} {v : V} {d : D} {k : Key} (h : keyD d = some k) (hv : RepR K F H v d) : v = kV k := by
  cases d with
  | int i => cases h; exact hv.int
  | str x => cases h; exact hv.str
  | _ => cases h
def lookK : List Key → List D → Key → Option D
  | k :: ks, d :: ds, q => if k = q then some d else lookK ks ds q
  | _, _, _ => none
theorem lookK_val {F : Hp} : ∀ {ks : List Key} {ds : List D} {vs : List V} {q : Key}, Reps K F ds vs → ks.length = ds.length → (lookK ks ds q = none ∧ valV (ks.zip vs) q = none) ∨ ∃ d v, lookK ks ds q = some d ∧ valV (ks.zip vs) q = some v ∧ Rep K F d v
  | [], [], vs, q, r, _ => Or.inl ⟨rfl, rfl⟩
  | [], d :: ds, vs, q, r, h => by simp at h
  | k :: ks, [], vs, q, r, h => by simp at h
  | k :: ks, d :: ds, vs, q, r, h => by
    obtain ⟨v, us, rfl, r1, r2⟩ := r.inv
    by_cases e : k = q
    · refine Or.inr ⟨d, v, by simp [lookK, e], ?_, r1⟩
      rw [List.zip_cons_cons]
      exact valV_pos e
    · rcases lookK_val (q := q) r2 (by simpa using h) with ⟨h1, h2⟩ | ⟨d', v', h1, h2, h3⟩
      · refine Or.inl ⟨by simp [lookK, e, h1], ?_⟩
        rw [List.zip_cons_cons, valV_neg (by simpa using e)]
        exact h2
      · refine Or.inr ⟨d', v', by simp [lookK, e, h1], ?_, h3⟩
        rw [List.zip_cons_cons, valV_neg (by simpa using e)]
        exact h2
def rDGet : R2 := fun x y H Q => ∃ a v, x = .ref a ∧ DGet H a y (some v) ∧ Q v H
def dgetD : D → D → Option D
  | .dk ks ds, e => match keyD e with
    | some k => lookK ks ds k
    | none => none
  | _, _ => none
theorem prim_dget : Prim2 K rDGet dgetD := by
  intro F H v w d e z fh hv hw hf Q k
  cases d with
  | dk ks ds =>
    obtain ⟨a, vs, rfl, g1, g2, g3, g4⟩ := hv.dk fh
    unfold dgetD at hf
    cases hk : keyD e with
    | none => simp only [hk] at hf; cases hf
    | some q =>
      simp only [hk] at hf
      rcases lookK_val (q := q) g4 g2 with ⟨h1, h2⟩ | ⟨d', v', h1, h2, h3⟩
      · rw [h1] at hf; cases hf
      · rw [h1] at hf
        cases hf
        exact ⟨a, v', rfl, Or.inl ⟨_, q, g1, keyD_v hk hw, h2.symm⟩, k F H _ (New.refl fh) h3⟩
  | _ => cases hf
def rDInB (neg : Bool) : R2 := fun y x H Q => ∃ a o, x = .ref a ∧ DGet H a y o ∧ Q (.bl (xor neg o.isSome)) H
def dinD (neg : Bool) : D → D → Option D
  | e, .dk ks ds => match keyD e with
    | some k => some (.bl (xor neg (lookK ks ds k).isSome))
    | none => none
  | _, _ => none
theorem prim_din {neg : Bool} : Prim2 K (rDInB neg) (dinD neg) := by
  intro F H v w d e z fh hv hw hf Q k
  cases e with
  | dk ks ds =>
    obtain ⟨a, vs, rfl, g1, g2, g3, g4⟩ := hw.dk fh
    unfold dinD at hf
    cases hk : keyD d with
    | none => simp only [hk] at hf; cases hf
    | some q =>
      simp only [hk] at hf
      cases hf
      rcases lookK_val (q := q) g4 g2 with ⟨h1, h2⟩ | ⟨d', v', h1, h2, h3⟩
      · exact ⟨a, none, rfl, Or.inl ⟨_, q, g1, keyD_v hk hv, h2.symm⟩, k F H _ (New.refl fh) (Rep.bl_iff.mpr (by rw [h1] <;> rfl))⟩
      · exact ⟨a, some v', rfl, Or.inl ⟨_, q, g1, keyD_v hk hv, h2.symm⟩, k F H _ (New.refl fh) (Rep.bl_iff.mpr (by rw [h1] <;> rfl))⟩
  | _ => cases d <;> cases hf
/-- dict(list of pairs) -/
def pairOf : D → Option (Key × D)
  | .tup [a, b] => (keyD a).map fun k => (k, b)
  | _ => none
def pairsOf : List D → Option (List (Key × D))
  | [] => some []
  | d :: ds => match pairOf d, pairsOf ds with
    | some p, some ps => some (p :: ps)
    | _, _ => none
def putD (ks : List Key) (ds : List D) (k : Key) (d : D) : List Key × List D :=
  if (ks.any fun q => decide (q = k)) = true then (ks, (ks.zip ds).map fun p => if p.1 = k then d else p.2) else (ks ++ [k], ds ++ [d])
def mergeD : List (Key × D) → List Key × List D → List Key × List D
  | [], s => s
  | p :: ps, s => mergeD ps (putD s.1 s.2 p.1 p.2)
def dictD : D → Option D
  | .lst ds => match pairsOf ds with
    | some ps => some (.dk (mergeD ps ([], [])).1 (mergeD ps ([], [])).2)
    | none => none
  | _ => none
theorem putD_len {ks : List Key} {ds : List D} {k : Key} {d : D} (h : ks.length = ds.length) : (putD ks ds k d).1.length = (putD ks ds k d).2.length ∧ (putD ks ds k d).2.length ≤ ds.length + 1 := by
  unfold putD
  split
  · rw [List.length_map, List.length_zip, h, Nat.min_self]
    exact ⟨rfl, Nat.le_succ _⟩
  · rw [List.length_append, List.length_append, h]
    exact ⟨rfl, Nat.le_refl _⟩
theorem putD_reps {F : Hp} {k : Key} {d : D} {v : V} (hv : Rep K F d v) {ks : List Key} {ds : List D} {vs : List V} (r : Reps K F ds vs) (hl : ks.length = ds.length) : ∃ us, putK (ks.zip vs) k v = (putD ks ds k d).1.zip us ∧ Reps K F (putD ks ds k d).2 us := by
  have any_iff : ((ks.zip vs).any fun kv => decide (kv.1 = k)) = true ↔ (ks.any fun q => decide (q = k)) = true := by
    rw [List.any_eq_true, List.any_eq_true]
    constructor
    · rintro ⟨p, hp, e⟩
      exact ⟨p.1, (List.of_mem_zip hp).1, e⟩
    · rintro ⟨q, hk, e0⟩
      have e1 : q = k := by simpa using e0
      subst e1
      obtain ⟨i, hi, e⟩ := List.mem_iff_getElem.mp hk
      have lv : i < vs.length := by rw [r.len, ← hl]; exact hi
      refine ⟨(ks[i], vs[i]), ?_, by simpa using e⟩
      rw [List.mem_iff_getElem]
      exact ⟨i, by rw [List.length_zip]; omega, by rw [List.getElem_zip]⟩
  unfold putK putD
  by_cases hk : (ks.any fun q => decide (q = k)) = true
  · rw [if_pos (any_iff.mpr hk), if_pos hk]
    have h : ∀ (ks : List Key) (ds : List D) (vs : List V), Reps K F ds vs → ks.length = ds.length → ∃ us, (ks.zip vs).map (fun kv => if kv.1 = k then (kv.1, v) else kv) = ks.zip us ∧ Reps K F ((ks.zip ds).map fun p => if p.1 = k then d else p.2) us := by
      intro ks
      induction ks with
      | nil =>
        intro ds vs r hl
        cases ds with
        | nil => exact ⟨[], by simp, reps_nil⟩
        | cons x xs => simp at hl
      | cons a ks ih =>
        intro ds vs r hl
        cases ds with
        | nil => simp at hl
        | cons x xs =>
          obtain ⟨y, ys, rfl, r1, r2⟩ := r.inv
          obtain ⟨us, h1, h2⟩ := ih xs ys r2 (by simpa using hl)
          by_cases e : a = k
          · refine ⟨v :: us, ?_, ?_⟩
            · rw [List.zip_cons_cons, List.map_cons, h1, List.zip_cons_cons]
              simp [e]
            · rw [List.zip_cons_cons, List.map_cons]
              simp only [e, if_true]
              exact reps_cons hv h2
          · refine ⟨y :: us, ?_, ?_⟩
            · rw [List.zip_cons_cons, List.map_cons, h1, List.zip_cons_cons]
              simp [e]
            · rw [List.zip_cons_cons, List.map_cons]
              simp only [e, if_false]
              exact reps_cons r1 h2
    exact h ks ds vs r hl
  · rw [if_neg (fun z => hk (any_iff.mp z)), if_neg hk]
    refine ⟨vs ++ [v], ?_, r.app (reps_cons hv reps_nil)⟩
    rw [List.zip_append (by rw [r.len, hl])]
    rfl
theorem mergeD_reps {F : Hp} : ∀ {ps : List (Key × D)} {kvs : List (Key × V)} {s : List Key × List D} {us : List V}, Paired (fun (p : Key × D) (q : Key × V) => p.1 = q.1 ∧ Rep K F p.2 q.2) ps kvs → s.1.length = s.2.length → Reps K F s.2 us →
    (mergeD ps s).1.length = (mergeD ps s).2.length ∧ (mergeD ps s).2.length ≤ s.2.length + ps.length ∧ ∃ ws, mergeK (s.1.zip us) kvs = (mergeD ps s).1.zip ws ∧ Reps K F (mergeD ps s).2 ws
  | _, _, s, us, .nil, hl, r => ⟨hl, Nat.le_refl _, us, rfl, r⟩
  | p :: ps, q :: qs, s, us, .cons h t, hl, r => by
    obtain ⟨l1, l2⟩ := putD_len (k := p.1) (d := p.2) hl
    obtain ⟨ws, e1, e2⟩ := putD_reps h.2 (k := p.1) r hl
    obtain ⟨h1, h2, zs, h3, h4⟩ := mergeD_reps (s := putD s.1 s.2 p.1 p.2) t l1 e2
    refine ⟨h1, by have : (p :: ps).length = ps.length + 1 := rfl; rw [this]; show (mergeD ps (putD s.1 s.2 p.1 p.2)).2.length ≤ _; omega, zs, ?_, h4⟩
    show mergeK (putK (s.1.zip us) q.1 q.2) qs = _
    rw [← h.1, e1]
    exact h3
def rDictP (K : Fg) : List V → Hp → VK → Prop := fun xs H Q => ∃ (a : Addr) (ps : List Addr) (kvs : List (Key × V)), xs = [V.ref a] ∧ SqL K H a (ps.map V.ref) ∧ Paired (fun p kv => SqT K H p [kV kv.1, kv.2]) ps kvs ∧ ∀ p, H p = none → Q (.ref p) (upd H p (.dK (mergeK [] kvs)))
theorem pairs_reps {F H : Hp} (fh : Same F H) : ∀ {ds : List D} {ps : List (Key × D)} {vs : List V}, pairsOf ds = some ps → Reps K F ds vs → ∃ (as : List Addr) (kvs : List (Key × V)), vs = as.map V.ref ∧ Paired (fun p kv => SqT K H p [kV kv.1, kv.2]) as kvs ∧ Paired (fun (p : Key × D) (q : Key × V) => p.1 = q.1 ∧ Rep K F p.2 q.2) ps kvs
  | [], ps, vs, h, r => by
    cases h
    rw [r.inv0]
    exact ⟨[], [], rfl, .nil, .nil⟩
  | d :: ds, ps, vs, h, r => by
    obtain ⟨v, us, rfl, r1, r2⟩ := r.inv
    simp only [pairsOf] at h
    cases e1 : pairOf d with
    | none => simp only [e1] at h; cases h
    | some p =>
      cases e2 : pairsOf ds with
      | none => simp only [e1, e2] at h; cases h
      | some qs =>
        simp only [e1, e2] at h
        cases h
        obtain ⟨as, kvs, g1, g2, g3⟩ := pairs_reps fh e2 r2
        match d, e1, r1 with
        | .tup [x, y], e1, r1 =>
          simp only [pairOf] at e1
          cases hk : keyD x with
          | none => rw [hk] at e1; cases e1
          | some k =>
            rw [hk] at e1
            cases e1
            obtain ⟨a, ws, rfl, t1, t2, t3⟩ := Rep.tup_iff.mp r1
            obtain ⟨vx, wx, rfl, s1, s2⟩ := t3.inv
            obtain ⟨vy, wy, rfl, s3, s4⟩ := s2.inv
            cases s4.inv0
            have hx : vx = kV k := keyD_v (F := F) (H := H) hk (Or.inl s1)
            rw [hx] at t1
            exact ⟨a :: as, (k, vy) :: kvs, by rw [g1]; rfl, .cons (same_t fh t1.sq) g2, .cons ⟨rfl, s3⟩ g3⟩
theorem pairsOf_len : ∀ {ds : List D} {ps : List (Key × D)}, pairsOf ds = some ps → ps.length = ds.length
  | [], ps, h => by cases h; rfl
  | d :: ds, ps, h => by
    simp only [pairsOf] at h
    cases e1 : pairOf d with
    | none => simp only [e1] at h; cases h
    | some p =>
      cases e2 : pairsOf ds with
      | none => simp only [e1, e2] at h; cases h
      | some qs => simp only [e1, e2] at h; cases h; simp [pairsOf_len e2]
theorem prim_dict : PrimA K (rDictP K) (fA1 dictD) := primA1 fun F H v d e fh hv hf Q k => by
  cases d with
  | lst ds =>
    obtain ⟨a, vs, rfl, g1, g2, g3⟩ := hv.lst fh
    simp only [dictD] at hf
    cases e1 : pairsOf ds with
    | none => simp only [e1] at hf; cases hf
    | some ps =>
      simp only [e1] at hf
      cases hf
      obtain ⟨as, kvs, h1, h2, h3⟩ := pairs_reps fh e1 g3
      obtain ⟨m1, m2, ws, m3, m4⟩ := mergeD_reps (s := ([], [])) h3 rfl (K := K) (F := F) (us := []) reps_nil
      have pl := pairsOf_len e1
      refine ⟨a, as, kvs, rfl, Or.inl (Or.inl (by rw [← h1]; exact g1)), h2, fun p hp => ?_⟩
      have m3' : mergeK [] kvs = (mergeD ps ([], [])).1.zip ws := m3
      rw [m3']
      have n : New F H (upd F p (.dK ((mergeD ps ([], [])).1.zip ws))) (upd H p (.dK ((mergeD ps ([], [])).1.zip ws))) := New.lay fh hp
      have hle : (mergeD ps ([], [])).2.length ≤ ps.length := by simpa using m2
      exact k _ _ _ n (Rep.dk_iff.mpr ⟨p, ws, rfl, Or.inl upd_same, m1, by omega, m4.mono n.ff⟩)
  | _ => cases hf
end
end DL

set_option Elab.async false
set_option linter.all false
set_option maxRecDepth 100000
set_option maxHeartbeats 400000
/-! DLh: own objects changed; objects made; fields. -/
namespace DL
open PySem L2
section
variable {K : Fg} {W : WX}
/-- a method that changes a list of one's own -/
def PrimM (r : V → List V → Hp → VK → Prop) (K : Fg) (f : List D → List D → Option (List D × D)) : Prop := ∀ (F H : Hp) (a : Addr) (ds : List D) (vs : List V) (as : List D) (us : List V) (nw : List D) (res : D),
  Same F H → H a = some (.lst vs) → ds.length ≤ LB → Reps K F ds vs → Reps K F as us → f ds as = some (nw, res) → ∀ Q : VK, (∀ ws u, nw.length ≤ LB → Reps K F nw ws → Rep K F res u → Q u (upd H a (.lst ws))) → r (.ref a) us H Q
def ownL (δ : En) (i : Nat) : Option (Sl × List D) := match δ[i]? with
  | some s => match s.own with
    | some (.lst ds) => some (s, ds)
    | _ => none
  | none => none
theorem ownL_some {δ : En} {i : Nat} {s : Sl} {ds : List D} (h : ownL δ i = some (s, ds)) : δ[i]? = some s ∧ s.own = some (.lst ds) := by
  unfold ownL at h
  cases e : δ[i]? with
  | none => simp only [e] at h; cases h
  | some s' =>
    cases e2 : s'.own with
    | none => simp only [e, e2] at h; cases h
    | some d =>
      cases d with
      | lst es =>
        simp only [e, e2] at h
        cases h
        exact ⟨rfl, e2⟩
      | _ => simp only [e, e2] at h; cases h
def mMut (f : List D → List D → Option (List D × D)) (i : Nat) (a : M (List D)) : M D := fun δ => match ownL δ i with
  | none => none
  | some _ => (a.bind fun as => fun δ1 => match ownL δ1 i with
    | none => none
    | some (s, ds) => match f ds as with
      | none => none
      | some (nw, res) => some (.ok res (δ1.set i (reown s (.lst nw))))) δ
theorem mut_step {r : V → List V → Hp → VK → Prop} {f : List D → List D → Option (List D × D)} (p : PrimM r K f) {C : Cn} (hK : C.K = K) {al : Nat → Addr} {F H : Hp} {σ : St} {δ : En} {i : Nat} {s : Sl} {ds as nw : List D} {us : List V} {res : D} (S : StOk C al F H σ δ)
    (ho : ownL δ i = some (s, ds)) (ra : Reps K F as us) (hf : f ds as = some (nw, res)) {Q : VK} (hok : ∀ H' u, StOk C al F H' σ (δ.set i (reown s (.lst nw))) → Rep K F res u → Q u H') : r (.ref (al i)) us H Q := by
  subst hK
  obtain ⟨h1, h2⟩ := ownL_some ho
  obtain ⟨o1, o2, o3, vs, o4, o5, o6⟩ := S.ow i s _ h1 h2
  refine p F H (al i) ds vs as us nw res S.fh o4 o5 o6 ra hf Q fun ws u hl rw' ru => hok _ u ?_ ru
  exact S.poke1 h1 h2 (reown_own (s := s) (d := .lst nw)) (fun z hz => reown_io hz) ⟨ws, upd_same, hl, rw'⟩
theorem ev_mut {r : V → List V → Hp → VK → Prop} {f : List D → List D → Option (List D × D)} {i : Nat} {ta : TA} {a : M (List D)} (p : PrimM r K f) (ha : Eds K W ta a) : Ev K W (tBM K "list" r (tVar i) ta) (mMut f i a) := by
  intro C hK hW al F H σ δ S _ q hr Q hok hex
  unfold mMut at hr
  cases e0 : ownL δ i with
  | none => simp only [e0] at hr; cases hr
  | some p0 =>
    obtain ⟨s0, ds0⟩ := p0
    simp only [e0] at hr
    obtain ⟨h1, h2⟩ := ownL_some e0
    obtain ⟨o1, o2, o3, vs, o4, o5, o6⟩ := S.ow i s0 _ h1 h2
    refine ⟨_, o1, Or.inl ⟨rfl, vs, Or.inl (Or.inl o4)⟩, ?_⟩
    cases e1 : a δ with
    | none => unfold M.bind at hr; rw [e1] at hr; cases hr
    | some r1 =>
      refine ha C hK hW al F H σ δ S trivial r1 e1 _ (fun as δ1 e2 al1 F1 H1 us s1 S1 rl => ?_) fun x δ1 e2 al1 F1 H1 cls dd s1 S1 xr => ?_
      · subst e2
        rw [M.bind_ok e1] at hr
        cases e3 : ownL δ1 i with
        | none => simp only [e3] at hr; cases hr
        | some p1 =>
          obtain ⟨s, ds⟩ := p1
          cases e4 : f ds as with
          | none => simp only [e3, e4] at hr; cases hr
          | some q2 =>
            obtain ⟨nw, res⟩ := q2
            simp only [e3, e4] at hr
            cases hr
            obtain ⟨g1, g2⟩ := ownL_some e3
            obtain ⟨y1, _⟩ := S1.ow i s _ g1 g2
            have ea : al i = al1 i := by
              rw [o1] at y1
              exact V.ref.inj (Option.some.inj (Option.some.inj y1))
            rw [ea]
            exact mut_step p hK S1 e3 rl e4 fun H' u S' ru => hok res _ rfl al1 F1 H' u s1 S' ru
      · subst e2
        rw [M.bind_ex e1] at hr
        cases hr
        exact hex x δ1 rfl al1 F1 H1 cls dd s1 S1 xr
def mMut0 (f : List D → List D → Option (List D × D)) (i : Nat) : M D := fun δ => match ownL δ i with
  | none => none
  | some (s, ds) => match f ds [] with
    | none => none
    | some (nw, res) => some (.ok res (δ.set i (reown s (.lst nw))))
theorem ev_mut0 {r : V → List V → Hp → VK → Prop} {f : List D → List D → Option (List D × D)} {i : Nat} (p : PrimM r K f) : Ev K W (tBM0 K "list" r (tVar i)) (mMut0 f i) := by
  intro C hK hW al F H σ δ S _ q hr Q hok hex
  unfold mMut0 at hr
  cases e0 : ownL δ i with
  | none => simp only [e0] at hr; cases hr
  | some p0 =>
    obtain ⟨s0, ds0⟩ := p0
    obtain ⟨h1, h2⟩ := ownL_some e0
    obtain ⟨o1, o2, o3, vs, o4, o5, o6⟩ := S.ow i s0 _ h1 h2
    cases e4 : f ds0 [] with
    | none => simp only [e0, e4] at hr; cases hr
    | some q2 =>
      obtain ⟨nw, res⟩ := q2
      simp only [e0, e4] at hr
      cases hr
      exact ⟨_, o1, Or.inl ⟨rfl, vs, Or.inl (Or.inl o4)⟩, mut_step p hK S e0 (reps_nil) e4 fun H' u S' ru => hok res _ rfl al F H' u (Same.refl _) S' ru⟩
def appF : List D → List D → Option (List D × D) := fun ds as => match as with
  | [d] => if ds.length < 1000000 then some (ds ++ [d], .non) else none
  | _ => none
theorem primM_append : PrimM rAppend K appF := by
  intro F H a ds vs as us nw res fh ha hl hr hra hf Q k
  match as, hf with
  | [d], hf =>
    obtain ⟨h1, h2⟩ := if_some (show (if ds.length < 1000000 then some (ds ++ [d], D.non) else none) = some (nw, res) from hf)
    cases h2
    obtain ⟨u, us', rfl, r1, r2⟩ := hra.inv
    cases r2.inv0
    refine ⟨a, vs, u, rfl, rfl, ha, by rw [hr.len]; exact LB_lt (Nat.le_of_lt h1), k _ .non (by rw [List.length_append]; exact h1) (hr.app (reps_cons r1 reps_nil)) (Rep.non_iff.mpr rfl)⟩
def extF : List D → List D → Option (List D × D) := fun ds as => match as with
  | [.lst es] => if ds.length + es.length ≤ 1000000 then some (ds ++ es, .non) else none
  | _ => none
theorem primM_extend : PrimM rExtend K extF := by
  intro F H a ds vs as us nw res fh ha hl hr hra hf Q k
  match as, hf with
  | [.lst es], hf =>
    obtain ⟨h1, h2⟩ := if_some (show (if ds.length + es.length ≤ 1000000 then some (ds ++ es, D.non) else none) = some (nw, res) from hf)
    cases h2
    obtain ⟨u, us', rfl, r1, r2⟩ := hra.inv
    cases r2.inv0
    obtain ⟨b, ws, rfl, g1, g2, g3⟩ := Rep.lst_iff.mp r1
    exact ⟨a, b, vs, ws, rfl, rfl, ha, fh _ _ g1, by rw [hr.len, g3.len]; exact LB_size h1, k _ .non (by rw [List.length_append]; exact h1) (hr.app g3) (Rep.non_iff.mpr rfl)⟩
def popF : List D → List D → Option (List D × D) := fun ds as => match as with
  | [] => match ds.getLast? with
    | some d => some (ds.dropLast, d)
    | none => none
  | [.int i] => match seqIndex? i ds.length with
    | some j => match ds[j]? with
      | some d => if -(2 ^ 63) ≤ i ∧ i < 2 ^ 63 then some (ds.eraseIdx j, d) else none
      | none => none
    | none => none
  | _ => none
theorem primM_popAt : PrimM rPopAt K (fun ds as => match as with
    | [] => none
    | _ => popF ds as) := by
  intro F H a ds vs as us nw res fh ha hl hr hra hf Q k
  match as, hf with
  | [.int i], hf =>
    have hf : popF ds [.int i] = some (nw, res) := hf
    unfold popF at hf
    cases e1 : seqIndex? i ds.length with
    | none => simp only [e1] at hf; cases hf
    | some j =>
      cases e2 : ds[j]? with
      | none => simp only [e1, e2] at hf; cases hf
      | some d =>
        simp only [e1, e2] at hf
        obtain ⟨h1, h2⟩ := if_some hf
        cases h2
        obtain ⟨u, us', rfl, r1, r2⟩ := hra.inv
        cases r2.inv0
        obtain ⟨y, q1, q2⟩ := hr.get e2
        exact ⟨a, vs, i, j, y, rfl, by rw [Rep.int_iff.mp r1], ha, h1.1, h1.2, by rw [hr.len]; exact e1, q1, k _ y (Nat.le_trans (by rw [List.length_eraseIdx]; split <;> omega) hl) (hr.erase j) q2⟩
def clearF : List D → List D → Option (List D × D) := fun _ as => match as with
  | [] => some ([], .non)
  | _ => none
theorem primM_clear : PrimM rClear K clearF := by
  intro F H a ds vs as us nw res fh ha hl hr hra hf Q k
  match as, hf with
  | [], hf =>
    cases hf
    cases hra.inv0
    exact ⟨a, vs, rfl, rfl, ha, k _ .non (Nat.zero_le _) reps_nil (Rep.non_iff.mpr rfl)⟩
def revF : List D → List D → Option (List D × D) := fun ds as => match as with
  | [] => some (ds.reverse, .non)
  | _ => none
theorem primM_reverse : PrimM rReverse K revF := by
  intro F H a ds vs as us nw res fh ha hl hr hra hf Q k
  match as, hf with
  | [], hf =>
    cases hf
    cases hra.inv0
    exact ⟨a, vs, rfl, rfl, ha, k _ .non (by rw [List.length_reverse]; exact hl) hr.rev (Rep.non_iff.mpr rfl)⟩
/-! ### x[i] = e -/
def mSetI (i : Nat) (ix v : M D) : Ms := mS v fun d => mS ix fun j => fun δ => match j with
  | .int n => match ownL δ i with
    | some (s, ds) => match ixN ds.length n with
      | some m => some (.nx (δ.set i (reown s (.lst (ds.set m d)))))
      | none => none
    | none => none
  | _ => none
/-- the slot's value, looked at before the place is reckoned -/
def mHas (i : Nat) (m : Ms) : Ms := fun δ => match ownL δ i with
  | some _ => m δ
  | none => none
theorem es_setI {i : Nat} {te ti : TE} {ix v : M D} (hv : Ev K W te v) (hi : Ev K W ti ix) : Es K W (tAsg te (gSub (tVar i) ti rSetL)) (mS v fun d => mHas i (mS ix fun j => fun δ => match j with
    | .int n => match ownL δ i with
      | some (s, ds) => match ixN ds.length n with
        | some m => some (.nx (δ.set i (reown s (.lst (ds.set m d)))))
        | none => none
      | none => none
    | _ => none)) := by
  refine es_of (u := fun (v : V) Z σ H => gSub (tVar i) ti rSetL v σ H Z.nx) hv fun d v C hK hW al F H σ δ S rl o ho Z hZ => ?_
  unfold mHas at ho
  cases e0 : ownL δ i with
  | none => simp only [e0] at ho; cases ho
  | some p0 =>
    obtain ⟨s0, ds0⟩ := p0
    simp only [e0] at ho
    obtain ⟨h1, h2⟩ := ownL_some e0
    obtain ⟨o1, o2, o3, o4⟩ := S.ow i s0 _ h1 h2
    refine ⟨_, o1, ?_⟩
    cases e : ix δ with
    | none => unfold mS at ho; rw [e] at ho; cases ho
    | some r =>
      refine hi C hK hW al F H σ δ S trivial r e _ (fun j δ1 e1 al1 F1 H1 w s1 S1 rj => ?_) fun x δ1 e1 al1 F1 H1 cls dd s1 S1 xr => ?_
      · subst e1
        unfold mS at ho
        rw [e] at ho
        cases j with
        | int n =>
          cases e2 : ownL δ1 i with
          | none => simp only [e2] at ho; cases ho
          | some p1 =>
            obtain ⟨s, ds⟩ := p1
            cases e3 : ixN ds.length n with
            | none => simp only [e2, e3] at ho; cases ho
            | some m =>
              simp only [e2, e3] at ho
              cases ho
              subst hK
              obtain ⟨g1, g2⟩ := ownL_some e2
              obtain ⟨y1, y2, y3, vs, y4, y5, y6⟩ := S1.ow i s _ g1 g2
              have ea : al i = al1 i := by
                rw [o1] at y1
                exact V.ref.inj (Option.some.inj (Option.some.inj y1))
              have rd : Rep C.K F d v := rl
              refine ⟨al i, vs, n, m, rfl, Rep.int_iff.mp rj, by rw [ea]; exact y4, by rw [y6.len]; exact e3, ?_⟩
              rw [ea]
              refine hZ al1 F1 _ σ s1 ?_
              exact S1.poke1 g1 g2 (reown_own (s := s) (d := .lst (ds.set m d))) (fun z hz => reown_io hz) ⟨vs.set m v, upd_same, by rw [List.length_set]; exact y5, y6.set (rd.mono s1) m⟩
        | _ => cases ho
      · subst e1
        unfold mS at ho
        rw [e] at ho
        cases ho
        subst hK
        rw [← hW] at *
        exact hZ al1 F1 H1 σ cls dd s1 S1 xr
/-! ### fields -/
structure ClsOk (K : Fg) (C : Addr) (f : Str) : Prop where
  cl : Cls K C
  na : NoAttr K C f
def lookF : List Str → List D → Str → Option D
  | n :: ns, d :: ds, f => if n = f then some d else lookF ns ds f
  | _, _, _ => none
theorem lookF_rep {F : Hp} : ∀ {ns : List Str} {ds : List D} {vs : List V} {f : Str} {d : D}, Reps K F ds vs → lookF ns ds f = some d → ∃ v, (ns.zip vs).lookup f = some v ∧ Rep K F d v
  | [], ds, vs, f, d, r, h => by simp [lookF] at h
  | n :: ns, [], vs, f, d, r, h => by simp [lookF] at h
  | n :: ns, x :: ds, vs, f, d, r, h => by
    obtain ⟨v, us, rfl, r1, r2⟩ := r.inv
    by_cases e : n = f
    · simp only [lookF, e, if_true] at h
      cases h
      refine ⟨v, ?_, r1⟩
      rw [List.zip_cons_cons, List.lookup, e]
      simp
    · simp only [lookF, e, if_false] at h
      obtain ⟨u, h1, h2⟩ := lookF_rep r2 h
      refine ⟨u, ?_, h2⟩
      have : (f == n) = false := by simpa using fun z : f = n => e z.symm
      rw [List.zip_cons_cons, List.lookup, this]
      exact h1
/-- e.f, e an instance of one of the classes Cs -/
def fldD (Cs : List Addr) (f : Str) : D → Option D
  | .ins C ns ds => if (Cs.any fun c => c == C) = true then lookF ns ds f else none
  | _ => none
theorem prim_fld {Cs : List Addr} {f : Str} (h : ∀ C ∈ Cs, ClsOk K C f) : Prim1 K (fun x H Q => ∃ a C dx fs v, x = .ref a ∧ H a = some (.ins C dx fs) ∧ Cls K C ∧ NoAttr K C f ∧ fs.lookup f = some v ∧ Q v H) (fldD Cs f) := by
  intro F H v d e fh hv hf Q k
  cases d with
  | ins C ns ds =>
    have hf2 : (if (Cs.any fun c => c == C) = true then lookF ns ds f else none) = some e := hf
    by_cases hc : (Cs.any fun c => c == C) = true
    · rw [if_pos hc] at hf2
      obtain ⟨c, hm, he⟩ := List.any_eq_true.mp hc
      have hcC : c = C := by simpa using he
      subst hcC
      obtain ⟨a, dx, vs, rfl, g1, g2, g3⟩ := hv.ins fh
      obtain ⟨u, h1, h2⟩ := lookF_rep g3 hf2
      exact ⟨a, c, dx, _, u, rfl, g1, (h c hm).cl, (h c hm).na, h1, k F H _ (New.refl fh) h2⟩
    · rw [if_neg hc] at hf2; cases hf2
  | _ => cases hf
theorem ev_fld {Cs : List Addr} {f : Str} {te : TE} {a : M Op} (h : ∀ C ∈ Cs, ClsOk K C f) (ha : Eo K W te a) : Ev K W (tFld K te f) (m1 (fldD Cs f) a) := ev_1 (r := fun x H Q => ∃ a C dx fs v, x = .ref a ∧ H a = some (.ins C dx fs) ∧ Cls K C ∧ NoAttr K C f ∧ fs.lookup f = some v ∧ Q v H) (prim_fld h) ha
/-- self.f = e, f new -/
def ownI (δ : En) (i : Nat) : Option (Sl × Addr × List Str × List D) := match δ[i]? with
  | some s => match s.own with
    | some (.ins C ns ds) => some (s, C, ns, ds)
    | _ => none
  | none => none
def mSetF (C : Addr) (i : Nat) (f : Str) (m : M D) : Ms := mS m fun d => fun δ => match ownI δ i with
  | some (s, C', ns, ds) => if C' = C ∧ ns.length < 100 ∧ f ∉ ns then some (.nx (δ.set i (reown s (.ins C (ns ++ [f]) (ds ++ [d]))))) else none
  | none => none
theorem ownI_some {δ : En} {i : Nat} {s : Sl} {C : Addr} {ns : List Str} {ds : List D} (h : ownI δ i = some (s, C, ns, ds)) : δ[i]? = some s ∧ s.own = some (.ins C ns ds) := by
  unfold ownI at h
  cases e : δ[i]? with
  | none => simp only [e] at h; cases h
  | some s' =>
    cases e2 : s'.own with
    | none => simp only [e, e2] at h; cases h
    | some d =>
      cases d with
      | ins C ns ds =>
        simp only [e, e2] at h
        cases h
        exact ⟨rfl, e2⟩
      | _ => simp only [e, e2] at h; cases h
theorem putF_new {f : Str} {v : V} : ∀ {ns : List Str} {vs : List V}, f ∉ ns → ns.length = vs.length → putF f v (ns.zip vs) = (ns ++ [f]).zip (vs ++ [v])
  | [], [], _, _ => rfl
  | n :: ns, u :: vs, h, hl => by
    have hn : ¬ n = f := fun z => h (by simp [z])
    rw [List.zip_cons_cons]
    show (if n = f then (n, v) :: ns.zip vs else (n, u) :: putF f v (ns.zip vs)) = _
    rw [if_neg hn, putF_new (fun z => h (by simp [z])) (by simpa using hl)]
    rfl
  | [], u :: vs, h, hl => by simp at hl
  | n :: ns, [], h, hl => by simp at hl
theorem es_setF {C : Addr} {i : Nat} {f : Str} {tv : TE} {m : M D} (hC : ClsOk K C f) (hv : Ev K W tv m) : Es K W (sFld K (tVar i) tv f) (mSetF C i f m) := by
  refine es_of (u := fun (y : V) Z σ H => tVar i σ H fun x H2 => ∃ a C dx fs, x = .ref a ∧ H2 a = some (.ins C dx fs) ∧ Cls K C ∧ NoAttr K C f ∧ fs.length < 1000 ∧ Z.nx σ (upd H2 a (.ins C dx (putF f y fs)))) hv fun d v C' hK hW al F H σ δ S rl o ho Z hZ => ?_
  cases e : ownI δ i with
  | none => simp only [e] at ho; cases ho
  | some p =>
    obtain ⟨s, C2, ns, ds⟩ := p
    simp only [e] at ho
    obtain ⟨⟨hc, hl, hn⟩, rfl⟩ := if_some ho
    subst hc
    obtain ⟨h1, h2⟩ := ownI_some e
    subst hK
    obtain ⟨o1, o2, o3, dx, vs, o4, o5, o6⟩ := S.ow i s _ h1 h2
    have lv : vs.length = ns.length := by rw [o6.len, o5]
    refine ⟨_, o1, al i, C2, dx, _, rfl, o4, hC.cl, hC.na, by rw [List.length_zip]; omega, ?_⟩
    rw [putF_new hn lv.symm]
    refine hZ al F _ σ (Same.refl _) ?_
    have rd : Rep C'.K F d v := rl
    exact S.poke1 h1 h2 (reown_own (s := s)) (fun z hz => reown_io hz) ⟨dx, vs ++ [v], upd_same, by rw [List.length_append, List.length_append, o5] <;> rfl, o6.app (reps_cons rd reps_nil)⟩
/-! ### C(..) -/
def mMake (C : Addr) (ks : List PK) (f : List D → Option (R D)) (a : M (List Op)) : M D := a.bind fun os => (mRds os).bind fun ds => fun δ => if frOk ks os then match f (.ins C [] [] :: ds) with
  | some (.ok .non δ') => match δ'[(0 : Nat)]? with
    | some (Sl.io (.ins C' ns es)) => some (.ok (.ins C' ns es) δ)
    | _ => none
  | some (.ex x _) => some (.ex x δ)
  | _ => none else none
theorem en_make {C : Addr} {ks : List PK} {f : List D → Option (R D)} {a : M (List Op)} {ta : TA} {E : XK} (ha : Ea K W ta a) (hW : ∀ cls dd σ H, W cls dd σ H → E cls dd H) : En1 K W (tMake C (SpD K (.io :: ks) f) [] E ta) (mMake C ks f a) := by
  refine J.bindN (t2 := fun (vs : List V) (_ : St) (H : Hp) (Q : VK) => ∀ x dx, H x = none → H dx = none → dx ≠ x → SpD K (.io :: ks) f (.ref x :: (vs ++ [])) (upd (upd H dx (.own x)) x (.ins C dx [])) (fun v H2 => v = .non ∧ Q (.ref x) H2) E) ha monoT fun os vs => ?_
  intro Cn hK hWC al F H σ δ S hp r hr Q hok hex x dx hx hdx hne
  subst hK
  obtain ⟨ds, h1, hr⟩ := rds_bind hr
  by_cases hf : frOk ks os = true
  · simp only [hf, if_true] at hr
    have hrel : relA Cn.K F σ vs os := hp.2
    have lk := frOk_len hf
    have lv : vs.length = os.length := hrel.length
    have ld := rds_len h1
    -- the heap with the new object, as one more slot
    have n1 : New F H F (upd H dx (.own x)) := New.put S.fh hdx
    have hx2 : (upd H dx (.own x)) x = none := by rw [upd_ne (Ne.symm hne)]; exact hx
    have n2 : New F (upd H dx (.own x)) F (upd (upd H dx (.own x)) x (.ins C dx [])) := New.put n1.fh hx2
    have S2 := (S.new n1).new n2
    have hF : F x = none := S.fh.free hx
    have hPx : Cn.P x = none := S.ph.free hx
    have hO : ∀ (j : Nat) s e, δ[j]? = some s → Sl.own s = some e → al j ≠ x := fun j s e q r z => by
      obtain ⟨_, _, _, h4⟩ := S.ow j s e q r
      obtain ⟨u, hu⟩ := h4.there
      rw [z, hx] at hu
      cases hu
    have S3 : StOk Cn (fun j => if j = δ.length then x else al j) F (upd (upd H dx (.own x)) x (.ins C dx [])) (σ ++ [some (.ref x)]) (δ ++ [.ow (.ins C [] [])]) := by
      have gl : ∀ (j : Nat) s, (δ ++ [Sl.ow (.ins C [] [])])[j]? = some s → (j < δ.length ∧ δ[j]? = some s) ∨ (j = δ.length ∧ s = .ow (.ins C [] [])) := fun j s q => by
        by_cases z : j < δ.length
        · rw [List.getElem?_append_left z] at q
          exact Or.inl ⟨z, q⟩
        · rw [List.getElem?_append_right (by omega)] at q
          have : j - δ.length = 0 := by
            cases w : j - δ.length with
            | zero => rfl
            | succ m => rw [w] at q; simp at q
          rw [this] at q
          exact Or.inr ⟨by omega, by simpa using q.symm⟩
      have sl : ∀ (j : Nat), j < δ.length → (σ ++ [some (V.ref x)])[j]? = σ[j]? := fun j z => List.getElem?_append_left (by rw [S.len]; exact z)
      refine ⟨S2.fh, S2.ph, S2.bp, S2.f0, S2.fp, by simp [S.len], fun j d q => ?_, fun j d q => ?_, fun j s d q r => ?_, fun j d q => ?_, fun j k s t d e q1 q2 r1 r2 r3 => ?_, fun j ns q => ?_⟩
      · rcases gl j _ q with ⟨z1, z2⟩ | ⟨z1, z2⟩
        · rw [sl j z1]; exact S2.fr j d z2
        · cases z2
      · rcases gl j _ q with ⟨z1, z2⟩ | ⟨z1, z2⟩
        · rw [sl j z1]; exact S2.bo j d z2
        · cases z2
      · rcases gl j _ q with ⟨z1, z2⟩ | ⟨z1, z2⟩
        · rw [sl j z1, if_neg (by omega)]; exact S2.ow j s d z2 r
        · subst z2
          cases r
          rw [if_pos z1, z1]
          refine ⟨?_, hF, hPx, dx, [], upd_same, rfl, reps_nil⟩
          rw [List.getElem?_append_right (by rw [S.len]; exact Nat.le_refl _), S.len]
          simp
      · rcases gl j _ q with ⟨z1, z2⟩ | ⟨z1, z2⟩
        · rw [if_neg (by omega)]; exact S2.io j d z2
        · cases z2
      · rcases gl j _ q1 with ⟨z1, z2⟩ | ⟨z1, z2⟩
        · rcases gl k _ q2 with ⟨y1, y2⟩ | ⟨y1, y2⟩
          · rw [if_neg (by omega), if_neg (by omega)] at r3
            exact S2.inj j k s t d e z2 y2 r1 r2 r3
          · rw [if_neg (by omega), if_pos y1] at r3
            exact absurd r3 (hO j s d z2 r1)
        · rcases gl k _ q2 with ⟨y1, y2⟩ | ⟨y1, y2⟩
          · rw [if_pos z1, if_neg (by omega)] at r3
            exact absurd r3.symm (hO k t e y2 r2)
          · rw [z1, y1]
      · rcases gl j _ q with ⟨z1, z2⟩ | ⟨z1, z2⟩
        · rw [sl j z1]; exact S2.sc j ns z2
        · cases z2
    have hi : (δ ++ [Sl.ow (.ins C [] [])])[δ.length]? = some (.ow (.ins C [] [])) := by simp
    have oLt : ∀ j, Op.slot j ∈ os → j < δ.length := fun j hj => by
      obtain ⟨k, hk⟩ := List.mem_iff_getElem?.mp hj
      obtain ⟨d, _, h3⟩ := rds_get h1 hk
      simp only [rd] at h3
      cases e : δ[j]? with
      | none => rw [e] at h3; cases h3
      | some s => exact (List.getElem?_eq_some_iff.mp e).1
    have hap : apart δ.length os = true := by
      have : ∀ os : List Op, (∀ j, Op.slot j ∈ os → j < δ.length) → apart δ.length os = true := by
        intro os
        induction os with
        | nil => intro _; rfl
        | cons o os ih =>
          intro h
          cases o with
          | val d => exact ih fun j hj => h j (by simp [hj])
          | slot j =>
            simp only [apart, Bool.and_eq_true, bne_iff_ne]
            exact ⟨Nat.ne_of_lt (h j (by simp)), ih fun j hj => h j (by simp [hj])⟩
      exact this os oLt
    have hrel2 : relA Cn.K F (σ ++ [some (.ref x)]) vs os := by
      have : ∀ (vs : List V) (os : List Op), (∀ j, Op.slot j ∈ os → j < δ.length) → relA Cn.K F σ vs os → relA Cn.K F (σ ++ [some (.ref x)]) vs os := by
        intro vs os hlt hr
        induction hr with
        | nil => exact .nil
        | @cons v o vs os r t ih =>
          refine .cons ?_ (ih fun j hj => hlt j (by simp [hj]))
          cases o with
          | val d => exact r
          | slot j =>
            show (σ ++ [some (V.ref x)])[j]? = some (some v)
            rw [List.getElem?_append_left (by rw [S.len]; exact hlt j (by simp))]
            exact r
      exact this vs os oLt hrel
    have h12 : rds os (δ ++ [.ow (.ins C [] [])]) = some ds := by
      have : ∀ (os : List Op) (ds : List D), (∀ j, Op.slot j ∈ os → j < δ.length) → rds os δ = some ds → rds os (δ ++ [.ow (.ins C [] [])]) = some ds := by
        intro os
        induction os with
        | nil => intro ds _ h; exact h
        | cons o os ih =>
          intro ds hlt h
          simp only [rds] at h ⊢
          cases e1 : rd o δ with
          | none => simp only [e1] at h; cases h
          | some d =>
            cases e2 : rds os δ with
            | none => simp only [e1, e2] at h; cases h
            | some ds' =>
              simp only [e1, e2] at h
              have e3 : rd o (δ ++ [.ow (.ins C [] [])]) = some d := by
                cases o with
                | val z => exact e1
                | slot j =>
                  simp only [rd] at e1 ⊢
                  rw [List.getElem?_append_left (hlt j (by simp))]
                  exact e1
              rw [e3, ih ds' (fun j hj => hlt j (by simp [hj])) e2]
              exact h
      exact this os ds oLt h1
    have St1 := S3.enter (i := δ.length) hi rfl hf hap hrel2 h12
    simp only [if_true] at St1
    cases e3 : f (.ins C [] [] :: ds) with
    | none => simp only [e3] at hr; cases hr
    | some q =>
      refine ⟨{ K := Cn.K, P := fun a => if a = x then none else upd (upd H dx (HO.own x)) x (HO.ins C dx []) a, B := fun a => if a = x then none else upd (upd H dx (HO.own x)) x (HO.ins C dx []) a, F0 := F, bt := fun _ => x, W := Cn.W }, fun _ => x, .ins C [] [] :: ds, q, rfl, by rw [List.append_nil]; simp; omega, by simp; omega, (by rw [List.append_nil]; exact St1), e3, fun d δ2 e4 al' F' H' σ' v s' S' rv => ?_, fun xx δ2 e4 al' F' H' σ' cls dd s' S' xr => ?_⟩
      · subst e4
        simp only [e3] at hr
        cases d with
        | non =>
          simp only at hr
          cases e5 : δ2[(0 : Nat)]? with
          | none => simp only [e5] at hr; cases hr
          | some s0 =>
            cases s0 with
            | io e =>
              cases e with
              | ins C' ns es =>
                simp only [e5] at hr
                cases hr
                refine ⟨Rep.non_iff.mp rv, ?_⟩
                obtain ⟨y1, y2, y3, y4⟩ := S'.ow 0 _ _ e5 rfl
                have e0 : al' 0 = x := S'.io 0 _ e5
                rw [e0] at y2 y3 y4
                have nw : ∀ a o, H a = some o → H' a = some o := fun a o q => by
                  have na : a ≠ x := ne_of_none q hx
                  have nd : a ≠ dx := ne_of_none q hdx
                  refine S'.ph a o ?_
                  simp only [na, if_false]
                  rw [upd_ne na, upd_ne nd]
                  exact q
                have nf : ∀ a o, F' a = some o → F a = some o ∨ H a = none := fun a o q => by
                  rcases S'.fp a o q with z | z
                  · exact Or.inl z
                  · by_cases w : a = x
                    · rw [w]; exact Or.inr hx
                    · have z' : (if a = x then none else (upd (upd H dx (.own x)) x (.ins C dx [])) a) = none := z
                      rw [if_neg w, upd_ne w] at z'
                      by_cases w2 : a = dx
                      · rw [w2]; exact Or.inr hdx
                      · rw [upd_ne w2] at z'; exact Or.inr z'
                exact hok _ δ rfl al F' H' x S'.f0 (S.new ⟨S'.f0, S'.fh, nw, nf⟩) y2 hPx hO y4
              | _ => simp only [e5] at hr; cases hr
            | _ => simp only [e5] at hr; cases hr
        | _ => simp only at hr; cases hr
      · subst e4
        simp only [e3] at hr
        cases hr
        have nw : ∀ a o, H a = some o → H' a = some o := fun a o q => by
          have na : a ≠ x := ne_of_none q hx
          have nd : a ≠ dx := ne_of_none q hdx
          refine S'.ph a o ?_
          simp only [na, if_false]
          rw [upd_ne na, upd_ne nd]
          exact q
        have nf : ∀ a o, F' a = some o → F a = some o ∨ H a = none := fun a o q => by
          rcases S'.fp a o q with z | z
          · exact Or.inl z
          · by_cases w : a = x
            · rw [w]; exact Or.inr hx
            · have z' : (if a = x then none else (upd (upd H dx (.own x)) x (.ins C dx [])) a) = none := z
              rw [if_neg w, upd_ne w] at z'
              by_cases w2 : a = dx
              · rw [w2]; exact Or.inr hdx
              · rw [upd_ne w2] at z'; exact Or.inr z'
        exact hW _ _ σ _ (hex xx δ rfl al F' H' cls dd S'.f0 (S.new ⟨S'.f0, S'.fh, nw, nf⟩) xr)
  · simp only [hf] at hr
    cases hr
end
end DL

set_option Elab.async false
set_option linter.all false
set_option maxRecDepth 100000
set_option maxHeartbeats 400000
/-! DLi: the judgements over the text: a rule of the hand layer and what it computes, together. -/
namespace DL
open PySem L2
structure XE (X : Cx) (W : WX) (e : Expr) (t : TE) (m : M D) : Prop where
  p : PE X e t
  v : Ev X.K W t m
structure XN (X : Cx) (W : WX) (e : Expr) (t : TE) (m : M D) : Prop where
  p : PE X e t
  v : En1 X.K W t m
structure XO (X : Cx) (W : WX) (e : Expr) (t : TE) (m : M Op) : Prop where
  p : PE X e t
  v : Eo X.K W t m
structure XT (X : Cx) (W : WX) (e : Expr) (t : TT) (m : M Bool) : Prop where
  p : PT X e t
  v : Et X.K W t m
structure XW (X : Cx) (W : WX) (e : Expr) (t : TT) (m : M Bool) : Prop where
  p : PW X e t
  v : Et X.K W t m
structure XA (X : Cx) (W : WX) (es : List Expr) (t : TA) (m : M (List Op)) : Prop where
  p : PA X es t
  v : Ea X.K W t m
structure XD (X : Cx) (W : WX) (es : List Expr) (t : TA) (m : M (List D)) : Prop where
  p : PA X es t
  v : Eds X.K W t m
structure XP (X : Cx) (W : WX) (e : Option Expr) (t : TO) (m : M (Option Int)) : Prop where
  p : PO X e t
  v : Ep X.K W t m
structure XG (X : Cx) (b : Bool) (e : Expr) (t : TG) (m : Mg) (vs : List Nat) : Prop where
  p : PG X e t
  v : Eg X.K b t m
  w : Gw t vs
  n : Gm t
structure XGs (X : Cx) (es : List Expr) (t : TGs) (m : List D → En → Option En) (n : Nat) (vs : List Nat) : Prop where
  p : PGs X es t
  v : Egs X.K t m
  l : GsN m n
  w : Gws t vs
  k : Gms t
structure XI (X : Cx) (W : WX) (b : Bool) (tg e : Expr) (t : TI) (m : M (List D)) : Prop where
  p : PI X tg e t
  v : Ei X.K W b t m
structure XTs (X : Cx) (W : WX) (es : List Expr) (t : TT) (m : M Bool) : Prop where
  p : PTs X es t
  v : Et X.K W t m
structure XS (X : Cx) (W : WX) (s : Stmt) (t : TS) (m : Ms) : Prop where
  p : PS X s t
  v : Es X.K W t m
structure XB (X : Cx) (W : WX) (s : List Stmt) (t : TS) (m : Ms) : Prop where
  p : PSs X s t
  v : Es X.K W t m
section
variable {X : Cx} {W : WX} {a b c e o : Expr} {es : List Expr} {ta tb tc te to : TE} {pos p2 : Pos} {ma mb mc me : M D} {oa ob oc : M Op}
/-! values -/
theorem x_var (i : Nat) {x : Str} (hN : X.N[i]? = some x := by rfl) (hv : Vis X.env.scope x := by first | exact Or.inl rfl | exact Or.inr (Or.inl rfl) | exact Or.inr (Or.inr rfl)) (hd : (x == ("__debug__" : Str)) = false := by decide)
    (hcd : (x == ("__classdict__" : Str)) = false := by decide) : XE X W (.Name x pos) (tVar i) (mVar i) := ⟨pe_var hN hv hd hcd, ev_var⟩
theorem o_var (i : Nat) {x : Str} (hN : X.N[i]? = some x := by rfl) (hv : Vis X.env.scope x := by first | exact Or.inl rfl | exact Or.inr (Or.inl rfl) | exact Or.inr (Or.inr rfl)) (hd : (x == ("__debug__" : Str)) = false := by decide)
    (hcd : (x == ("__classdict__" : Str)) = false := by decide) : XO X W (.Name x pos) (tVar i) (mOv i) := ⟨pe_var hN hv hd hcd, eo_var⟩
theorem o_e (h : XE X W e te me) : XO X W e te (mVal me) := ⟨h.p, eo_val h.v⟩
theorem x_n (h : XN X W e te me) : XE X W e te me := ⟨h.p, Jn.frz h.v⟩
theorem x_int {i : Int} {j : Nat} : XE X W (.Constant (.int i) j pos) (tC (.int i)) (mC (.int i)) := ⟨pe_int, ev_c fun F => Rep.int_iff.mpr rfl⟩
theorem x_bl {i : Bool} {j : Nat} : XE X W (.Constant (.bool i) j pos) (tC (.bl i)) (mC (.bl i)) := ⟨pe_bl, ev_c fun F => Rep.bl_iff.mpr rfl⟩
theorem x_non {j : Nat} : XE X W (.Constant .none j pos) (tC .non) (mC .non) := ⟨pe_non, ev_c fun F => Rep.non_iff.mpr rfl⟩
theorem x_str {x : Str} {j : Nat} : XE X W (.Constant (.str x) j pos) (tC (.str x)) (mC (.str x)) := ⟨pe_str, ev_c fun F => Rep.str_iff.mpr rfl⟩
theorem x_neg1 {i : Int} {j : Nat} {p3 : Pos} : XE X W (.UnaryOp .USub (.Constant (.int i) j p3) pos) (tUn (rU fun i => .int (-i)) (tC (.int i))) (mC (.int (-i))) := ⟨pe_un un_neg pe_int, by
  intro C hK hW al F H σ δ S _ r hr Q hok hex
  cases hr
  exact ⟨i, rfl, hok _ δ rfl al F H _ (Same.refl _) S (Rep.int_iff.mpr rfl)⟩⟩
/-- a constant of the module: a number, a text -/
theorem x_globI {x : Str} {i : Int} {t : Tok} (hm : X.mg x = some (.int i t)) (hg : Gl X x := by rfl) (hd : (x == ("__debug__" : Str)) = false := by decide) : XE X W (.Name x pos) (tC (.int i)) (mC (.int i)) := ⟨pe_glob hg hm ⟨t, rfl⟩ hd, ev_c fun F => Rep.int_iff.mpr rfl⟩
theorem x_globS {x : Str} {i : Str} {t : Tok} (hm : X.mg x = some (.str i t)) (hg : Gl X x := by rfl) (hd : (x == ("__debug__" : Str)) = false := by decide) : XE X W (.Name x pos) (tC (.str i)) (mC (.str i)) := ⟨pe_glob hg hm ⟨t, rfl⟩ hd, ev_c fun F => Rep.str_iff.mpr rfl⟩
/-! operators -/
theorem x_add {K : Fg} (ha : XO X W a ta oa) (hb : XO X W b tb ob) (hK : X.K = K := by rfl) : XE X W (.BinOp a .Add b pos) (tOp (rAddA K) ta tb) (m2 addD oa ob) := by
  subst hK
  exact ⟨pe_op op_addA ha.p hb.p, ev_2 prim_add ha.v hb.v⟩
theorem x_sub (ha : XO X W a ta oa) (hb : XO X W b tb ob) : XE X W (.BinOp a .Sub b pos) (tOp (rI0 fun i j => .int (i - j)) ta tb) (m2 (fI0 fun i j => .int (i - j)) oa ob) := ⟨pe_op op_sub ha.p hb.p, ev_2 prim_sub ha.v hb.v⟩
theorem x_mul (ha : XO X W a ta oa) (hb : XO X W b tb ob) : XE X W (.BinOp a .Mult b pos) (tOp (rI CMul fun i j => .int (i * j)) ta tb) (m2 (fI mulOk fun i j => .int (i * j)) oa ob) := ⟨pe_op op_mul ha.p hb.p, ev_2 prim_mul ha.v hb.v⟩
theorem x_div (ha : XO X W a ta oa) (hb : XO X W b tb ob) : XE X W (.BinOp a .FloorDiv b pos) (tOp (rI CDiv fun i j => .int (i / j)) ta tb) (m2 (fI divOk fun i j => .int (i / j)) oa ob) := ⟨pe_op op_fdiv ha.p hb.p, ev_2 prim_div ha.v hb.v⟩
theorem x_mod (ha : XO X W a ta oa) (hb : XO X W b tb ob) : XE X W (.BinOp a .Mod b pos) (tOp (rI (fun _ j => 0 < j) fun i j => .int (i % j)) ta tb) (m2 (fI modOk fun i j => .int (i % j)) oa ob) := ⟨pe_op op_mod ha.p hb.p, ev_2 prim_mod ha.v hb.v⟩
theorem x_pow (ha : XO X W a ta oa) (hb : XO X W b tb ob) : XE X W (.BinOp a .Pow b pos) (tOp (rI CPow fun i j => .int (i ^ j.toNat)) ta tb) (m2 (fI powOk fun i j => .int (i ^ j.toNat)) oa ob) := ⟨pe_op op_pow ha.p hb.p, ev_2 prim_pow ha.v hb.v⟩
theorem x_lt (ha : XO X W a ta oa) (hb : XO X W b tb ob) : XE X W (.Compare a [.Lt] [b] pos) (tOp (rI0 fun i j => .bl (decide (i < j))) ta tb) (m2 (fI0 fun i j => .bl (decide (i < j))) oa ob) := ⟨pe_cmpR op_lt ha.p hb.p (nomark _), ev_2 prim_ltI ha.v hb.v⟩
theorem x_le (ha : XO X W a ta oa) (hb : XO X W b tb ob) : XE X W (.Compare a [.LtE] [b] pos) (tOp (rI0 fun i j => .bl (decide (i ≤ j))) ta tb) (m2 (fI0 fun i j => .bl (decide (i ≤ j))) oa ob) := ⟨pe_cmpR op_le ha.p hb.p (nomark _), ev_2 prim_leI ha.v hb.v⟩
theorem x_gt (ha : XO X W a ta oa) (hb : XO X W b tb ob) : XE X W (.Compare a [.Gt] [b] pos) (tOp (rI0 fun i j => .bl (decide (j < i))) ta tb) (m2 (fI0 fun i j => .bl (decide (j < i))) oa ob) := ⟨pe_cmpR op_gt ha.p hb.p (nomark _), ev_2 prim_gtI ha.v hb.v⟩
theorem x_ge (ha : XO X W a ta oa) (hb : XO X W b tb ob) : XE X W (.Compare a [.GtE] [b] pos) (tOp (rI0 fun i j => .bl (decide (j ≤ i))) ta tb) (m2 (fI0 fun i j => .bl (decide (j ≤ i))) oa ob) := ⟨pe_cmpR op_ge ha.p hb.p (nomark _), ev_2 prim_geI ha.v hb.v⟩
theorem x_eq {K : Fg} {k : Nat} (hr : Room k X.A) (ha : XO X W a ta oa) (hb : XO X W b tb ob) (hK : X.K = K := by rfl) : XE X W (.Compare a [.Eq] [b] pos) (tOp (rEqD K) ta tb) (m2 eqD oa ob) := by
  subst hK
  exact ⟨pe_cmpR (op_eqD hr.units) ha.p hb.p (nomark _), ev_2 prim_eq ha.v hb.v⟩
theorem x_ne {K : Fg} {k : Nat} (hr : Room k X.A) (ha : XO X W a ta oa) (hb : XO X W b tb ob) (hK : X.K = K := by rfl) : XE X W (.Compare a [.NotEq] [b] pos) (tOp (rNeD K) ta tb) (m2 neD oa ob) := by
  subst hK
  exact ⟨pe_cmpR (op_neD hr.units) ha.p hb.p (nomark _), ev_2 prim_ne ha.v hb.v⟩
theorem room_in {k : Nat} {A : Around} (r : Room k A) : A.units + 65 < cLine := by have := r.un; omega
theorem x_inL {K : Fg} {k : Nat} (hr : Room k X.A) (ha : XO X W a ta oa) (hb : XO X W b tb ob) (hm : behindInMarks .In b = false := by rfl) (hK : X.K = K := by rfl) : XE X W (.Compare a [.In] [b] pos) (tOp (rInD K) ta tb) (m2 (inLD false) oa ob) := by
  subst hK
  exact ⟨pe_cmpR (op_inD (room_in hr)) ha.p hb.p hm, ev_2 prim_inL ha.v hb.v⟩
theorem x_ninL {K : Fg} {k : Nat} (hr : Room k X.A) (ha : XO X W a ta oa) (hb : XO X W b tb ob) (hm : behindInMarks .NotIn b = false := by rfl) (hK : X.K = K := by rfl) : XE X W (.Compare a [.NotIn] [b] pos) (tOp (rNotInD K) ta tb) (m2 (inLD true) oa ob) := by
  subst hK
  exact ⟨pe_cmpR (op_notInD (room_in hr)) ha.p hb.p hm, ev_2 prim_notInL ha.v hb.v⟩
theorem x_inS (ha : XO X W a ta oa) (hb : XO X W b tb ob) (hm : behindInMarks .In b = false := by rfl) : XE X W (.Compare a [.In] [b] pos) (tOp rInSign ta tb) (m2 (inSignD false) oa ob) := ⟨pe_cmpR op_in_sign ha.p hb.p hm, ev_2 prim_inSign ha.v hb.v⟩
theorem x_inD {k : Nat} (hr : Room k X.A) (ha : XO X W a ta oa) (hb : XO X W b tb ob) (hm : behindInMarks .In b = false := by rfl) : XE X W (.Compare a [.In] [b] pos) (tOp (rDInB false) ta tb) (m2 (dinD false) oa ob) := ⟨by
  have h := pe_cmp (pos := pos) (pc_din (hu_of hr) ha.p hb.p) hm
  refine ⟨fun pins s σ H Q I q => h.run pins s σ H Q I ?_⟩
  simpa only [tOp, rDInB, tDIn, Bool.false_xor] using q, ev_2 prim_din ha.v hb.v⟩
theorem x_ninD {k : Nat} (hr : Room k X.A) (ha : XO X W a ta oa) (hb : XO X W b tb ob) (hm : behindInMarks .NotIn b = false := by rfl) : XE X W (.Compare a [.NotIn] [b] pos) (tOp (rDInB true) ta tb) (m2 (dinD true) oa ob) := ⟨by
  have h := pe_cmp (pos := pos) (pc_dnotin (hu_of hr) ha.p hb.p) hm
  refine ⟨fun pins s σ H Q I q => h.run pins s σ H Q I ?_⟩
  simpa only [tOp, rDInB, tDNotIn, Bool.true_xor] using q, ev_2 prim_din ha.v hb.v⟩
theorem x_leLe (ha : XO X W a ta oa) (hb : XO X W b tb ob) (hc : XO X W c tc oc) (hm : lastMarks [.LtE, .LtE] [b, c] = false := by with_unfolding_all rfl) : XE X W (.Compare a [.LtE, .LtE] [b, c] pos) (tChain (rI0 fun i j => .bl (decide (i ≤ j))) (rI0 fun i j => .bl (decide (i ≤ j))) ta tb tc) (mChain (fI0 fun i j => .bl (decide (i ≤ j))) (fI0 fun i j => .bl (decide (i ≤ j))) oa ob oc) :=
  ⟨pe_chain op_le op_le ha.p hb.p hc.p hm, ev_chain prim_leI prim_leI ha.v hb.v hc.v⟩
/-! truths -/
theorem x_and {rest : List Expr} (ha : XE X W a ta ma) (hb : XE X W (.BoolOp .And (b :: rest) pos) tb mb) : XE X W (.BoolOp .And (a :: b :: rest) pos) (tAndV ta tb) (mAndV ma mb) := ⟨pe_and ha.p hb.p, ev_and ha.v hb.v⟩
theorem x_or {rest : List Expr} (ha : XE X W a ta ma) (hb : XE X W (.BoolOp .Or (b :: rest) pos) tb mb) : XE X W (.BoolOp .Or (a :: b :: rest) pos) (tOrV ta tb) (mOrV ma mb) := ⟨pe_or ha.p hb.p, ev_or ha.v hb.v⟩
theorem x_one {op : BoolOp} (ha : XE X W a ta ma) : XE X W (.BoolOp op [a] pos) ta ma := ⟨pe_one ha.p, ha.v⟩
theorem x_not (ha : XE X W a ta ma) : XE X W (.UnaryOp .Not a pos) (tNotV ta) (mNotV ma) := ⟨pe_not ha.p, ev_not ha.v⟩
theorem t_val (ha : XE X W a ta ma) (he : ∀ whole, isTrue a X.env whole = (do let v ← whole; standAt a.pos; holding [v] (truthy v)) := by intro _; rfl) : XT X W a (tB ta) (mTest ma) := ⟨pt_val ha.p he, et_B ha.v⟩
theorem t_not {t : TT} {m : M Bool} (ha : XT X W a t m) : XT X W (.UnaryOp .Not a pos) (tNot t) (mNot m) := ⟨pt_not ha.p, et_not ha.v⟩
theorem t_w {t : TT} {m : M Bool} (h : XW X W a t m) : XT X W a t m := ⟨h.p.pt, h.v⟩
theorem w_and {t u : TT} {m n : M Bool} {rest : List Expr} (ha : XT X W a t m) (hb : XW X W (.BoolOp .And (b :: rest) pos) u n) : XW X W (.BoolOp .And (a :: b :: rest) pos) (tAnd t u) (mAnd m n) := ⟨pw_and ha.p hb.p, et_and ha.v hb.v⟩
theorem w_and1 {t : TT} {m : M Bool} (ha : XT X W a t m) : XW X W (.BoolOp .And [a] pos) t m := ⟨pw_and1 ha.p, ha.v⟩
theorem w_or {t u : TT} {m n : M Bool} {rest : List Expr} (ha : XT X W a t m) (hb : XW X W (.BoolOp .Or (b :: rest) pos) u n) : XW X W (.BoolOp .Or (a :: b :: rest) pos) (tOr t u) (mOr m n) := ⟨pw_or ha.p hb.p, et_or ha.v hb.v⟩
theorem w_or1 {t : TT} {m : M Bool} (ha : XT X W a t m) : XW X W (.BoolOp .Or [a] pos) t m := ⟨pw_or1 ha.p, ha.v⟩
theorem t_cmp {op : CmpOp} {r : R2} {f : D → D → Option D} (h : XE X W (.Compare a [op] [b] pos) (tOp r ta tb) (m2 f oa ob)) (ho : OpR X (compareOp op) r) (pa : PE X a ta) (pb : PE X b tb) (hm : behindInMarks op b = false) : XT X W (.Compare a [op] [b] pos) (tTest (tOp r ta tb)) (mTest (m2 f oa ob)) := ⟨pt_cmpR ho pa pb hm, et_test h.v⟩
theorem x_ifE {t : TT} {m : M Bool} (hc : XT X W c t m) (ha : XE X W a ta ma) (hb : XE X W b tb mb) : XE X W (.IfExp c a b pos) (tIf t ta tb) (mIfE m ma mb) := ⟨pe_ifExp hc.p ha.p hb.p, ev_ifE hc.v ha.v hb.v⟩
theorem x_isN {j : Nat} (ha : XO X W a ta oa) : XE X W (.Compare a [.Is] [.Constant .none j p2] pos) (tIsN ta) (m1 (fun d => some (.bl (match d with
    | .non => true
    | _ => false))) oa) := ⟨pe_cmp (pc_isN ha.p), ev_1 (r := fun x H Q => Q (.bl (decide (x = .non))) H) (by
  intro F H v d e fh hv hf Q k
  cases hf
  refine k F H _ (New.refl fh) (Rep.bl_iff.mpr ?_)
  cases d with
  | non => rw [hv.non]; rfl
  | bl b => rw [hv.bl]; rfl
  | int i => rw [hv.int]; rfl
  | str x => rw [hv.str]; rfl
  | tup ds => obtain ⟨a, vs, rfl, _⟩ := hv.tup; rfl
  | lst ds => obtain ⟨a, vs, rfl, _⟩ := hv.lst fh; rfl
  | ins C ns ds => obtain ⟨a, dx, vs, rfl, _⟩ := hv.ins fh; rfl
  | dk ks ds => obtain ⟨a, vs, rfl, _⟩ := hv.dk fh; rfl) ha.v⟩
/-! items, slices -/
theorem x_ix {K : Fg} (ha : XO X W a ta oa) (hb : XO X W b tb ob) (hs : PlainIx b := by exact fun _ _ => rfl) (hK : X.K = K := by rfl) : XE X W (.Subscript a b pos) (tOp (rIx K) ta tb) (m2 ixD oa ob) := by
  subst hK
  exact ⟨pe_ix ix_seq ha.p hb.p hs, ev_2 prim_ix ha.v hb.v⟩
theorem x_dget {k : Nat} (hr : Room k X.A) (ha : XO X W a ta oa) (hb : XO X W b tb ob) (hs : NoSl b := by exact fun _ _ => rfl) : XE X W (.Subscript a b pos) (tOp rDGet ta tb) (m2 dgetD oa ob) := ⟨pe_dget (hu_of hr) ha.p hb.p hs, ev_2 prim_dget ha.v hb.v⟩
theorem p_none : XP X W none tNoPart mpNone := ⟨po_none, ep_none⟩
theorem p_some (h : XE X W e te me) : XP X W (some e) (tPart te) (mpSome me) := ⟨po_some h.p, ep_some h.v⟩
theorem x_sl {K : Fg} {lo hi : Option Expr} {tl th : TO} {l u : M (Option Int)} (ha : XO X W a ta oa) (hl : XP X W lo tl l) (hu : XP X W hi th u) (hK : X.K = K := by rfl) : XE X W (.Subscript a (.Slice lo hi none p2) pos) (tSl (rSlAny K) ta tl th) (mSl slD oa l u) := by
  subst hK
  exact ⟨pe_slice sl_any ha.p hl.p hu.p, ev_sl prim_sl ha.v hl.v hu.v⟩
/-! arguments, displays -/
theorem a_nil : XA X W [] tNil maNil := ⟨pa_nil, ea_nil⟩
theorem a_cons {tr : TA} {m : M (List Op)} (ha : XO X W e te oa) (hr : XA X W es tr m) (hs : starEach (e :: es) X.env = (false, eval e X.env) :: starEach es X.env := by rfl) : XA X W (e :: es) (tCons te tr) (maCons oa m) := ⟨pa_cons ha.p hr.p hs, ea_cons ha.v hr.v⟩
theorem d_nil : XD X W [] tNil mdNil := ⟨pa_nil, ed_nil⟩
theorem d_cons {tr : TA} {m : M (List D)} (ha : XE X W e te me) (hr : XD X W es tr m) (hs : starEach (e :: es) X.env = (false, eval e X.env) :: starEach es X.env := by rfl) : XD X W (e :: es) (tCons te tr) (mdCons me m) := ⟨pa_cons ha.p hr.p hs, ed_cons ha.v hr.v⟩
theorem x_tup {t : TA} {m : M (List D)} {k : Nat} (h : XD X W es t m) : XE X W (.Tuple es k pos) (tTupZ t) (mTup m) := ⟨pe_tupZ h.p, ev_tup h.v⟩
theorem n_lst {t : TA} {m : M (List D)} (h : XD X W es t m) : XN X W (.List es pos) (tLst t) (mLst m) := ⟨pe_lst h.p, en_lst h.v⟩
/-! built-ins -/
theorem x_cb {x : Str} {id : String} {r : List V → Hp → VK → Prop} {f : List D → Option D} {t : TA} {m : M (List Op)} (cr : CallR X (.builtin id) r) (pr : PrimA X.K r f) (hv : bootBuiltins x = some (.builtin id)) (hm : X.mg x = none) (h : XA X W (e :: es) t m) (hg : Gl X x := by rfl) (hn : x ≠ "__name__" := by decide) (hdb : (x == ("__debug__" : Str)) = false := by decide)
    (hs : starEach (e :: es) X.env = (false, eval e X.env) :: starEach es X.env := by rfl) (hpl : (backTo pos (starEach es X.env)).any (·.1) = false := by rfl) : XE X W (.Call (.Name x p2) (e :: es) [] pos) (tCB r t) (mA f m) := ⟨pe_callB cr hg hm hv h.p hn hdb hs hpl, ev_A pr h.v⟩
theorem n_cb {x : Str} {id : String} {r : List V → Hp → VK → Prop} {f : List D → Option (List D)} {t : TA} {m : M (List Op)} (cr : CallR X (.builtin id) r) (pr : PrimNA X.K r f) (hv : bootBuiltins x = some (.builtin id)) (hm : X.mg x = none) (h : XA X W (e :: es) t m) (hg : Gl X x := by rfl) (hn : x ≠ "__name__" := by decide) (hdb : (x == ("__debug__" : Str)) = false := by decide)
    (hs : starEach (e :: es) X.env = (false, eval e X.env) :: starEach es X.env := by rfl) (hpl : (backTo pos (starEach es X.env)).any (·.1) = false := by rfl) : XN X W (.Call (.Name x p2) (e :: es) [] pos) (tCB r t) (mnA f m) := ⟨pe_callB cr hg hm hv h.p hn hdb hs hpl, en_A pr h.v⟩
theorem x_ct {x : Str} {T : String} {r : List V → Hp → VK → Prop} {f : List D → Option D} {t : TA} {m : M (List Op)} (cr : CallR X (.type T) r) (pr : PrimA X.K r f) (hv : bootBuiltins x = some (.type T)) (hm : X.mg x = none) (h : XA X W (e :: es) t m) (hg : Gl X x := by rfl) (hn : x ≠ "__name__" := by decide) (hdb : (x == ("__debug__" : Str)) = false := by decide)
    (hs : starEach (e :: es) X.env = (false, eval e X.env) :: starEach es X.env := by rfl) (hpl : (backTo pos (starEach es X.env)).any (·.1) = false := by rfl) : XE X W (.Call (.Name x p2) (e :: es) [] pos) (tCB r t) (mA f m) := ⟨pe_callTy cr hg hm hv h.p hn hdb hs hpl, ev_A pr h.v⟩
theorem n_ct {x : Str} {T : String} {r : List V → Hp → VK → Prop} {f : List D → Option (List D)} {t : TA} {m : M (List Op)} (cr : CallR X (.type T) r) (pr : PrimNA X.K r f) (hv : bootBuiltins x = some (.type T)) (hm : X.mg x = none) (h : XA X W (e :: es) t m) (hg : Gl X x := by rfl) (hn : x ≠ "__name__" := by decide) (hdb : (x == ("__debug__" : Str)) = false := by decide)
    (hs : starEach (e :: es) X.env = (false, eval e X.env) :: starEach es X.env := by rfl) (hpl : (backTo pos (starEach es X.env)).any (·.1) = false := by rfl) : XN X W (.Call (.Name x p2) (e :: es) [] pos) (tCB r t) (mnA f m) := ⟨pe_callTy cr hg hm hv h.p hn hdb hs hpl, en_A pr h.v⟩
/-- isinstance(x, T), T a built-in class -/
theorem x_isi {K : Fg} {y : Str} {T : String} {p3 p4 : Pos} (hm : X.mg "isinstance" = none) (hmT : X.mg y = none) (hvT : bootBuiltins y = some (.type T)) (ha : XO X W a ta oa) (hg : Gl X "isinstance" := by rfl) (hgT : Gl X y := by rfl) (hnT : y ≠ "__name__" := by decide) (hdT : (y == ("__debug__" : Str)) = false := by decide)
    (hs : starEach [a, .Name y p4] X.env = (false, eval a X.env) :: starEach [.Name y p4] X.env := by rfl) (hs2 : starEach [.Name y p4] X.env = (false, eval (.Name y p4) X.env) :: starEach [] X.env := by rfl) (hpl : (backTo pos (starEach [.Name y p4] X.env)).any (·.1) = false := by rfl) (hK : X.K = K := by rfl) :
    XE X W (.Call (.Name "isinstance" p3) [a, .Name y p4] [] pos) (tIsi K T ta) (m1 (isB T) oa) := by
  subst hK
  exact ⟨pe_callB call_isi hg hm (by decide +kernel) (pa_cons ha.p (pa_cons (pe_bltn (v := .ty T) hgT hmT hvT rfl hnT hdT) pa_nil hs2) hs) (by decide) (by decide) hs hpl, ev_isi ha.v⟩
/-! calls of defs -/
theorem x_call {K : Fg} {x : Str} {f : Addr} {fd : FuncData} {ps : List Str} {k j : Nat} {ks : List PK} {F : List D → Option (R D)} {t : TA} {m : M (List Op)} (G : FnOk X.prog X.w X.K X.mg X.base CX0 k f fd ps (SpD X.K ks F)) (hr : Room j X.A) (hkj : k ≤ j) (hm : X.mg x = some (.ref f)) (hk : PySem.W.keepIn X.K (.ref f) = true) (hb : Binds X.K fd ps []) (h : XA X W0 (e :: es) t m) (hg : Gl X x := by rfl)
    (hdb : (x == ("__debug__" : Str)) = false := by decide) (hs : starEach (e :: es) X.env = (false, eval e X.env) :: starEach es X.env := by rfl) (hpl : (backTo pos (starEach es X.env)).any (·.1) = false := by rfl) (hK : X.K = K := by rfl) :
    XE X W0 (.Call (.Name x p2) (e :: es) [] pos) (tCall (SpD K ks F) [] E0 t) (mCall ks F m) := by
  subst hK
  exact ⟨pe_call G (hr.mono hkj) hg hm hk hb .nil pass0 h.p hdb hs hpl, ev_call h.v (fun _ _ _ _ z => z) (fun _ _ _ _ z => z)⟩
theorem x_callS {K : Fg} {x : Str} {f : Addr} {fd : FuncData} {ps : List Str} {k j i : Nat} {ks : List PK} {F : List D → Option (R D)} {t : TA} {m : M (List Op)} (G : FnOk X.prog X.w X.K X.mg X.base CX0 k f fd ps (SpD X.K (.io :: ks) F)) (hr : Room j X.A) (hkj : k ≤ j) (hm : X.mg x = some (.ref f)) (hk : PySem.W.keepIn X.K (.ref f) = true) (hb : Binds X.K fd ps []) (hp : PE X e (tVar i)) (h : XA X W0 es t m) (hg : Gl X x := by rfl)
    (hdb : (x == ("__debug__" : Str)) = false := by decide) (hs : starEach (e :: es) X.env = (false, eval e X.env) :: starEach es X.env := by rfl) (hpl : (backTo pos (starEach es X.env)).any (·.1) = false := by rfl) (hK : X.K = K := by rfl) :
    XE X W0 (.Call (.Name x p2) (e :: es) [] pos) (tCall (SpD K (.io :: ks) F) [] E0 (tCons (tVar i) t)) (mCallS i ks F m) := by
  subst hK
  exact ⟨pe_call G (hr.mono hkj) hg hm hk hb .nil pass0 (pa_cons hp h.p hs) hdb hs hpl, ev_callS h.v (fun _ _ _ _ z => z)⟩
theorem n_make {K : Fg} {x : Str} {C f : Addr} {fd : FuncData} {ps : List Str} {k j : Nat} {ks : List PK} {F : List D → Option (R D)} {t : TA} {m : M (List Op)} (Mk0 : Mk X.K C f) (G : FnOk X.prog X.w X.K X.mg X.base CX0 k f fd ps (SpD X.K (.io :: ks) F)) (hr : Room j X.A) (hkj : k + 1 ≤ j) (hm : X.mg x = some (.ref C)) (hb : Binds X.K fd ps []) (h : XA X W0 (e :: es) t m) (hg : Gl X x := by rfl)
    (hdb : (x == ("__debug__" : Str)) = false := by decide) (hs : starEach (e :: es) X.env = (false, eval e X.env) :: starEach es X.env := by rfl) (hpl : (backTo pos (starEach es X.env)).any (·.1) = false := by rfl) (hK : X.K = K := by rfl) :
    XN X W0 (.Call (.Name x p2) (e :: es) [] pos) (tMake C (SpD K (.io :: ks) F) [] E0 t) (mMake C ks F m) := by
  subst hK
  exact ⟨pe_make Mk0 G (hr.mono hkj) hg hm hb .nil pass0 h.p hdb hs hpl, en_make h.v (fun _ _ _ _ z => z)⟩
/-! fields, methods of lists of one's own -/
theorem x_fld {K : Fg} {Cs : List Addr} {f : Str} (h : ∀ C ∈ Cs, ClsOk X.K C f) (ha : XO X W a ta oa) (hb : attributeBase a f X.env (eval a X.env) = eval a X.env := by rfl) (hK : X.K = K := by rfl) : XE X W (.Attribute a f pos) (tFld K ta f) (m1 (fldD Cs f) oa) := by
  subst hK
  exact ⟨pe_fld ha.p hb, ev_fld h ha.v⟩
theorem x_app {K : Fg} {i : Nat} {t : TA} {m : M (List D)} {apos : Pos} (ho : PE X o (tVar i)) (h : XD X W [e] t m) (hbase : attributeBase o "append" X.env (eval o X.env) = eval o X.env := by rfl)
    (hfew : ((backTo pos (starEach [e] X.env)).all (fun x => !x.1) && (backToKw pos (keywordEach [] X.env)).all (fun x => x.1.isSome) && decide ([e].length + ([] : List Keyword).length + (if ([] : List Keyword).isEmpty then 0 else 1) < 30)) = true := by rfl)
    (hline : (apos.endLine == pos.line) = true := by rfl) (hs : starEach [e] X.env = (false, eval e X.env) :: starEach [] X.env := by rfl) (hplain : (backTo pos (starEach [] X.env)).any (·.1) = false := by rfl) (hK : X.K = K := by rfl) :
    XE X W (.Call (.Attribute o "append" apos) [e] [] pos) (tBM K "list" rAppend (tVar i) t) (mMut appF i m) := by
  subst hK
  exact ⟨pe_bm PySem.F.plainAttrs_list PySem.F.slot_list_append PySem.F.type_list_append mt_append ho h.p hbase hfew hline hs hplain, ev_mut primM_append h.v⟩
theorem x_ext {K : Fg} {i : Nat} {t : TA} {m : M (List D)} {apos : Pos} (ho : PE X o (tVar i)) (h : XD X W [e] t m) (hbase : attributeBase o "extend" X.env (eval o X.env) = eval o X.env := by rfl)
    (hfew : ((backTo pos (starEach [e] X.env)).all (fun x => !x.1) && (backToKw pos (keywordEach [] X.env)).all (fun x => x.1.isSome) && decide ([e].length + ([] : List Keyword).length + (if ([] : List Keyword).isEmpty then 0 else 1) < 30)) = true := by rfl)
    (hline : (apos.endLine == pos.line) = true := by rfl) (hs : starEach [e] X.env = (false, eval e X.env) :: starEach [] X.env := by rfl) (hplain : (backTo pos (starEach [] X.env)).any (·.1) = false := by rfl) (hK : X.K = K := by rfl) :
    XE X W (.Call (.Attribute o "extend" apos) [e] [] pos) (tBM K "list" rExtend (tVar i) t) (mMut extF i m) := by
  subst hK
  exact ⟨pe_bm PySem.F.plainAttrs_list PySem.F.slot_list_extend PySem.F.type_list_extend mt_extend ho h.p hbase hfew hline hs hplain, ev_mut primM_extend h.v⟩
/-! statements -/
variable {st : Stmt} {rest : List Stmt} {t u : TS} {m n : Ms}
theorem b_nil : XB X W [] tNext mNext := ⟨pss_nil, es_next⟩
theorem b_cons (h1 : XS X W st t m) (h2 : XB X W rest u n) : XB X W (st :: rest) (tSeq t u) (mSeq m n) := ⟨pss_cons h1.p h2.p, es_seq h1.v h2.v⟩
theorem b_one (h1 : XS X W st t m) : XB X W [st] t m := ⟨pss_one h1.p, h1.v⟩
theorem s_never : XS X W st tNever mNever := ⟨ps_never, es_never⟩
theorem s_expr (h : XE X W e te me) (hs : swapsWith e none pos.line X.env = pure false := by rfl) : XS X W (.Expr e pos) (tDrop te) (mDrop me) := ⟨ps_expr h.p hs, es_drop h.v⟩
theorem s_ret (h : XE X W e te me) : XS X W (.Return (some e) pos) (tRet te) (mRet me) := ⟨ps_ret h.p, es_ret h.v⟩
theorem s_if {tc : TT} {mc : M Bool} {xs ys : List Stmt} (hc : XT X W c tc mc) (ha : XB X W xs t m) (hb : XB X W ys u n) : XS X W (.If c xs ys pos) (tIfS tc t u) (mIf mc m n) := ⟨ps_if hc.p ha.p hb.p, es_if hc.v ha.v hb.v⟩
theorem s_set (i : Nat) {x : Str} {pos' : Pos} (h : XE X W e te me) (hN : X.N.Nodup) (hi : X.N[i]? = some x := by rfl) (hx : Loc X.env.scope x := by first | exact Or.inl rfl | exact Or.inr rfl) (hs : swapsWith e (some (.Name x pos')) pos.line X.env = pure false := by rfl) (hf : X.fn x = true ∨ X.env.scope.names.lookup x = some .local := by first | exact .inl rfl | exact .inr rfl) :
    XS X W (.Assign [.Name x pos'] e pos) (tAsg te (gName i)) (mAsg (gN i) me) := ⟨ps_set hN hi hx h.p hs hf, es_asg h.v eg_name⟩
theorem s_setO (i : Nat) {x : Str} {pos' : Pos} (h : XN X W e te me) (hN : X.N.Nodup) (hi : X.N[i]? = some x := by rfl) (hx : Loc X.env.scope x := by first | exact Or.inl rfl | exact Or.inr rfl) (hs : swapsWith e (some (.Name x pos')) pos.line X.env = pure false := by rfl) (hf : X.fn x = true ∨ X.env.scope.names.lookup x = some .local := by first | exact .inl rfl | exact .inr rfl) :
    XS X W (.Assign [.Name x pos'] e pos) (tAsg te (gName i)) (mAsgO i me) := ⟨ps_set hN hi hx h.p hs hf, es_asgO h.v⟩
theorem s_asg {tg : Expr} {g : TG} {a : Mg} {vs : List Nat} (h : XE X W e te me) (hg : XG X false tg g a vs) (hs : swapsWithSole [tg] e pos.line X.env = pure false := by rfl) (hw : swappedStores [tg] e X.env = pure none := by rfl) (h1 : (assignEach [tg] X.env).map (·.2) = [assign tg X.env] := by rfl) : XS X W (.Assign [tg] e pos) (tAsg te g) (mAsg a me) := ⟨ps_asg h.p hg.p hs hw h1, es_asg h.v hg.v⟩
theorem g_name (i : Nat) {x : Str} {vs : List Nat} (hN : X.N.Nodup) (hv : i ∈ vs := by decide) (hi : X.N[i]? = some x := by rfl) (hx : Loc X.env.scope x := by first | exact Or.inl rfl | exact Or.inr rfl) (hf : X.fn x = true ∨ X.env.scope.names.lookup x = some .local := by first | exact .inl rfl | exact .inr rfl) : XG X false (.Name x pos) (gName i) (gN i) vs := ⟨pg_name hN hi hx hf, eg_name, gw_name hv, gm_name⟩
theorem gs_nil {vs : List Nat} : XGs X [] gNil gs0 0 vs := ⟨pgs_nil, egs_nil, gsn0, gw_nil, gm_nil⟩
theorem gs_cons {t : TG} {u : TGs} {a : Mg} {b : List D → En → Option En} {n : Nat} {vs : List Nat} (h1 : XG X false e t a vs) (h2 : XGs X es u b n vs) (hs : (assignEach (e :: es) X.env).map (·.2) = assign e X.env :: (assignEach es X.env).map (·.2) := by rfl) : XGs X (e :: es) (gCons t u) (gsC a b) (n + 1) vs := ⟨pgs_cons h1.p h2.p hs, egs_cons h1.v h2.v, gsnC h2.l, gw_cons h1.n h1.w h2.k h2.w, gm_cons h1.n h2.k⟩
theorem g_tup {K : Fg} {q : Bool} {t : TGs} {b : List D → En → Option En} {n k : Nat} {vs : List Nat} (hc : X.calm = true) (h : XGs X es t b n vs) (hn : (assignEach es X.env).length = n := by rfl) (hst : (assignEach es X.env).findIdx? (·.1) = none := by rfl) (hK : X.K = K := by rfl) : XG X q (.Tuple es k pos) (gTup K n t) (gT b) vs := by
  subst hK
  exact ⟨pg_tup hc h.p hn hst, eg_tup h.v h.l, gw_tup h.w, gm_tup h.k⟩
/-! loops -/
variable {tg : Expr}
theorem i_list {K : Fg} (h : XE X W e te me) (hK : X.K = K := by rfl) : XI X W false tg e (iList K te) (mSeqOf me) := by
  subst hK
  exact ⟨pi_list h.p, ei_list h.v⟩
theorem i_tup {K : Fg} (h : XE X W e te me) (hK : X.K = K := by rfl) : XI X W false tg e (iTup K te) (mTupOf me) := by
  subst hK
  exact ⟨pi_tup h.p, ei_tup h.v⟩
theorem i_range1 {t : TA} {m : M (List D)} (hm : X.mg "range" = none) (h : XD X W [a] t m) (hg : Gl X "range" := by rfl) (hs : starEach [a] X.env = [(false, eval a X.env)] := by rfl) : XI X W false tg (.Call (.Name "range" p2) [a] [] pos) (iRng1 t) (mIt rg1 m) := ⟨pi_range1 hg hm h.p hs, ei_range1 h.v⟩
theorem i_range2 {t : TA} {m : M (List D)} (hm : X.mg "range" = none) (h : XD X W [a, b] t m) (hg : Gl X "range" := by rfl) (hs : starEach [a, b] X.env = [(false, eval a X.env), (false, eval b X.env)] := by rfl) (hs2 : starEach [b] X.env = [(false, eval b X.env)] := by rfl) : XI X W false tg (.Call (.Name "range" p2) [a, b] [] pos) (iRng2 t) (mIt rg2 m) := ⟨pi_range2 hg hm h.p hs hs2, ei_range2 h.v⟩
theorem s_for {q : Bool} {wi : TI} {g : TG} {a : Mg} {vs : List Nat} {it : M (List D)} {body : List Stmt} (hp : PassesOwn (model X.prog X.w) X.A X.env X.xe) (hc : X.calm = true) (hi : XI X W q tg e wi it) (hg : XG X q tg g a vs) (hb : XB X W body t m) (hs : ∀ x, foldedSetIterable e X.env x = pure x := by intro _; rfl) : XS X W (.For tg e body [] pos) (tFor wi g t) (mFor it a m) := ⟨ps_for hp hc hi.p hg.p hb.p hs, es_for hi.v hg.v hb.v⟩
theorem s_while {tc : TT} {mc : M Bool} {body : List Stmt} (N : Nat) (hp : PassesOwn (model X.prog X.w) X.A X.env X.xe) (hc : XT X W c tc mc) (hb : XB X W body t m) : XS X W (.While c body [] pos) (tWhile tc t) (mWhile N mc m) := ⟨ps_while hp hc.p hb.p, es_while hc.v hb.v⟩
theorem s_setI {i : Nat} {ix : Expr} {ti : TE} {mi : M D} {tpos : Pos} (ho : PE X o (tVar i)) (hi : XE X W ix ti mi) (h : XE X W e te me) (ha : ∀ v, assign (.Subscript o ix tpos) X.env v = (do
      let ov ← holding [v] (eval o X.env)
      let iv ← holding [v, ov] (eval ix X.env)
      standAt tpos
      holding [v, ov, iv] (setItem ov iv v)
      release [v, ov, iv] []) := by intro _; rfl) (hs : swapsWithSole [.Subscript o ix tpos] e pos.line X.env = pure false := by rfl) (hw : swappedStores [.Subscript o ix tpos] e X.env = pure none := by rfl) (h1 : (assignEach [.Subscript o ix tpos] X.env).map (·.2) = [assign (.Subscript o ix tpos) X.env] := by rfl) :
    XS X W (.Assign [.Subscript o ix tpos] e pos) (tAsg te (gSub (tVar i) ti rSetL)) (mS me fun d => mHas i (mS mi fun j => fun δ => match j with
      | .int n => match ownL δ i with
        | some (s, ds) => match ixN ds.length n with
          | some m => some (.nx (δ.set i (reown s (.lst (ds.set m d)))))
          | none => none
        | none => none
      | _ => none)) := ⟨ps_asg h.p (pg_sub ho hi.p set_list ha) hs hw h1, es_setI h.v hi.v⟩
theorem s_fld {K : Fg} {C : Addr} {i : Nat} {f : Str} {pos' : Pos} (hC : ClsOk X.K C f) (ho : PE X o (tVar i)) (h : XE X W e te me) (hs : swapsWith e (some (.Attribute o f pos')) pos.line X.env = pure false := by rfl) (hK : X.K = K := by rfl) : XS X W (.Assign [.Attribute o f pos'] e pos) (sFld K (tVar i) te f) (mSetF C i f me) := by
  subst hK
  exact ⟨ps_fld ho h.p hs, es_setF hC h.v⟩
/-! comprehensions -/
theorem ts_nil : XTs X W [] tYes mYes := ⟨pts_nil, et_yes⟩
theorem ts_one {t : TT} {m : M Bool} (h : XT X W c t m) : XTs X W [c] t m := ⟨pts_one h.p, h.v⟩
section
variable {q : Bool} {elt iter : Expr} {ifs : List Expr} {scope : Scope} {own : List (Str × Nat)} {wi : TI} {g : TG} {tt : TT} {it : M (List D)} {ga : Mg} {mt : M Bool}
theorem n_lc (hc : X.calm = true) (hN : X.N.Nodup) (hi : XI X W q tg iter wi it) (ok : BlkOk X.N X.env.scope scope own)
    (hg : ∀ (s : Shared) (H : Hp) (C : Addr) (cl : List (Str × Addr)) (fp : List Addr), XG (X.blk s H scope (PySem.compEnvC scope cl C X.env) fp) q tg g ga (own.map (·.2))) (ht : ∀ (s : Shared) (H : Hp) (C : Addr) (cl : List (Str × Addr)) (fp : List Addr), XTs (X.blk s H scope (PySem.compEnvC scope cl C X.env) fp) W ifs tt mt)
    (he : ∀ (s : Shared) (H : Hp) (C : Addr) (cl : List (Str × Addr)) (fp : List Addr), XE (X.blk s H scope (PySem.compEnvC scope cl C X.env) fp) W elt te me) (hs : ∀ x, foldedSetIterable iter X.env x = pure x := by intro _; rfl) :
    XN X W (.ListComp elt [⟨tg, iter, ifs, 0⟩] scope pos) (tLc wi g tt te (own.map (·.2))) (mLc it ga mt me (own.map (·.2))) :=
  ⟨pe_lc hc hN hi.p ok (fun s H C cl fp => (hg s H C cl fp).p) (fun s H C cl fp => (ht s H C cl fp).p) (fun s H C cl fp => (he s H C cl fp).p) hs,
    en_lc hi.v (hg X.s_0 X.H_0 0 [] []).v (hg X.s_0 X.H_0 0 [] []).w (hg X.s_0 X.H_0 0 [] []).n (ht X.s_0 X.H_0 0 [] []).v (he X.s_0 X.H_0 0 [] []).v⟩
/-- y = [..], y a local -/
theorem s_setLc (i : Nat) {y : Str} {py spos : Pos} (hc : X.calm = true) (hN : X.N.Nodup) (hy : X.N[i]? = some y) (hyl : X.env.scope.names.lookup y = some .local) (hsw : swapsWith (.ListComp elt [⟨tg, iter, ifs, 0⟩] scope pos) (some (.Name y py)) spos.line X.env = pure true) (hi : XI X W q tg iter wi it) (ok : BlkOk X.N X.env.scope scope own)
    (hg : ∀ (s : Shared) (H : Hp) (C : Addr) (cl : List (Str × Addr)) (fp : List Addr), XG (X.blk s H scope (PySem.compEnvC scope cl C X.env) fp) q tg g ga (own.map (·.2))) (ht : ∀ (s : Shared) (H : Hp) (C : Addr) (cl : List (Str × Addr)) (fp : List Addr), XTs (X.blk s H scope (PySem.compEnvC scope cl C X.env) fp) W ifs tt mt)
    (he : ∀ (s : Shared) (H : Hp) (C : Addr) (cl : List (Str × Addr)) (fp : List Addr), XE (X.blk s H scope (PySem.compEnvC scope cl C X.env) fp) W elt te me) (hs : ∀ x, foldedSetIterable iter X.env x = pure x := by intro _; rfl) :
    XS X W (.Assign [.Name y py] (.ListComp elt [⟨tg, iter, ifs, 0⟩] scope pos) spos) (tAsg (tLc wi g tt te (own.map (·.2))) (gName i)) (mAsgO i (mLc it ga mt me (own.map (·.2)))) :=
  ⟨ps_setLc hc hN hy hyl hsw hi.p ok (fun s H C cl fp => (hg s H C cl fp).p) (fun s H C cl fp => (ht s H C cl fp).p) (fun s H C cl fp => (he s H C cl fp).p) hs,
    es_asgO (en_lc hi.v (hg X.s_0 X.H_0 0 [] []).v (hg X.s_0 X.H_0 0 [] []).w (hg X.s_0 X.H_0 0 [] []).n (ht X.s_0 X.H_0 0 [] []).v (he X.s_0 X.H_0 0 [] []).v)⟩
end
end
end DL

set_option Elab.async false
set_option linter.all false
set_option maxRecDepth 100000
set_option maxHeartbeats 400000
/-! DLj: defs as plain functions of their arguments. -/
namespace DL
open PySem L2
theorem StOk.take {C : Cn} {al : Nat → Addr} {F H : Hp} {σ : St} {δ : En} (S : StOk C al F H σ δ) (n : Nat) : StOk C al F H (σ.take n) (δ.take n) := by
  have gE : ∀ (j : Nat) s, (δ.take n)[j]? = some s → j < n ∧ δ[j]? = some s := fun j s q => by
    rw [List.getElem?_take] at q
    by_cases z : j < n
    · rw [if_pos z] at q; exact ⟨z, q⟩
    · rw [if_neg z] at q; cases q
  have gS : ∀ (j : Nat), j < n → (σ.take n)[j]? = σ[j]? := fun j z => by rw [List.getElem?_take, if_pos z]
  refine ⟨S.fh, S.ph, S.bp, S.f0, S.fp, by rw [List.length_take, List.length_take, S.len], fun j e q => ?_, fun j e q => ?_, fun j s e q r => ?_, fun j e q => ?_, fun j k s t e f q1 q2 r1 r2 r3 => ?_, fun j ns q => ?_⟩
  · obtain ⟨z, q⟩ := gE j _ q; rw [gS j z]; exact S.fr j e q
  · obtain ⟨z, q⟩ := gE j _ q; rw [gS j z]; exact S.bo j e q
  · obtain ⟨z, q⟩ := gE j _ q; rw [gS j z]; exact S.ow j s e q r
  · obtain ⟨z, q⟩ := gE j _ q; exact S.io j e q
  · obtain ⟨z, q1⟩ := gE j _ q1; obtain ⟨z2, q2⟩ := gE k _ q2; exact S.inj j k s t e f q1 q2 r1 r2 r3
  · obtain ⟨z, q⟩ := gE j _ q; rw [gS j z]; exact S.sc j ns q
/-- the promise of a def that changes nothing -/
abbrev pF (g : List D → Option D) : List D → Option (R D) := fun ds => (g ds).map fun d => R.ok d []
abbrev SpP (K : Fg) (ks : List PK) (g : List D → Option D) : Sp := SpD K ks (pF g)
/-- .. that changes its first argument alone -/
abbrev iF (g : List D → Option (D × D)) : List D → Option (R D) := fun ds => (g ds).map fun p => R.ok p.1 [.io p.2]
abbrev SpI (K : Fg) (ks : List PK) (g : List D → Option (D × D)) : Sp := SpD K (.io :: ks) (iF g)
def defG (n : Nat) (ks : List PK) (m : Ms) : List D → Option D := fun ds => match m (startE n (entry ks ds)) with
  | some (.rt d _) => some d
  | some (.nx _) => some .non
  | _ => none
def io0 (δ : En) : Option D := match δ[(0 : Nat)]? with
  | some (Sl.io e) => some e
  | _ => none
def defI (n : Nat) (ks : List PK) (m : Ms) : List D → Option (D × D) := fun ds => match m (startE n (entry (.io :: ks) ds)) with
  | some (.rt d δ) => (io0 δ).map fun e => (d, e)
  | some (.nx δ) => (io0 δ).map fun e => (.non, e)
  | _ => none
section
variable {P : Program} {w : World} {K : Fg} {mg : Str → Option Value} {base : Heap}
theorem fn_g {x qual : Str} {st : Stmt} {f : Addr} {fd : FuncData} {N ps : List Str} {k : Nat} {ks : List PK} {m : Ms} (F : Fun K x qual st f fd) (S : FnScope N ps (defScope st)) (hks : ks.length = ps.length)
    (hb : ∀ (cdv : Value) (A : Around) (outer : List Env) (s : Shared) (H : Hp) (E : XK), Room k (A.deeper (PyProof.Rows.envOfC qual (defScope st) s.heap.objs.size f cdv)) → ∃ t, XB (cxOf CX0 P w K mg base N qual (defScope st) f cdv A outer s H E).nox W0 (defBody st) t m) :
    FnOk P w K mg base CX0 (k + 1) f fd ps (SpP K ks (defG N.length ks m)) := by
  refine F.ok S (fun vs H Q E h => ?_) (fun cdv A outer s H vs Q E hr h => ?_)
  · obtain ⟨C, al, ds, r, _, h1, _⟩ := h
    rw [h1, hks]
  · obtain ⟨t, B⟩ := hb cdv A outer s H E hr
    refine ⟨t, B.p, ?_⟩
    obtain ⟨C, al, ds, r, hK, h1, h2, S0, hf, hok, _⟩ := h
    subst hK
    have S1 := (S0.wish W0).begin (N := N)
    have hf : (defG N.length ks m ds).map (fun d => R.ok d []) = some r := hf
    unfold defG at hf
    cases e : m (startE N.length (entry ks ds)) with
    | none => rw [e] at hf; cases hf
    | some o =>
      refine B.v { C with W := W0 } rfl rfl al C.F0 H _ _ S1 o e _ ?_
      rw [e] at hf
      cases o with
      | nx δ => cases hf; exact fun al' F' H' σ' s' S' => hok _ _ rfl al' F' H' _ .non s' (S'.unwish.take 0) (Rep.non_iff.mpr rfl)
      | rt d δ => cases hf; exact fun al' F' H' σ' v s' S' rv => hok d _ rfl al' F' H' _ v s' (S'.unwish.take 0) rv
      | rn d δ => cases hf
      | bk δ => cases hf
      | ct δ => cases hf
      | ex x δ => cases hf
theorem io0_some {δ : En} {e : D} (h : io0 δ = some e) : δ.take 1 = [.io e] := by
  unfold io0 at h
  cases δ with
  | nil => cases h
  | cons s r =>
    cases s with
    | io d => cases h; rfl
    | _ => cases h
theorem fn_i {x qual : Str} {st : Stmt} {f : Addr} {fd : FuncData} {N ps : List Str} {k : Nat} {ks : List PK} {m : Ms} (F : Fun K x qual st f fd) (S : FnScope N ps (defScope st)) (hks : ks.length + 1 = ps.length)
    (hb : ∀ (cdv : Value) (A : Around) (outer : List Env) (s : Shared) (H : Hp) (E : XK), Room k (A.deeper (PyProof.Rows.envOfC qual (defScope st) s.heap.objs.size f cdv)) → ∃ t, XB (cxOf CX0 P w K mg base N qual (defScope st) f cdv A outer s H E).nox W0 (defBody st) t m) :
    FnOk P w K mg base CX0 (k + 1) f fd ps (SpI K ks (defI N.length ks m)) := by
  refine F.ok S (fun vs H Q E h => ?_) (fun cdv A outer s H vs Q E hr h => ?_)
  · obtain ⟨C, al, ds, r, _, h1, _⟩ := h
    rw [h1, ← hks]
    rfl
  · obtain ⟨t, B⟩ := hb cdv A outer s H E hr
    refine ⟨t, B.p, ?_⟩
    obtain ⟨C, al, ds, r, hK, h1, h2, S0, hf, hok, _⟩ := h
    subst hK
    have S1 := (S0.wish W0).begin (N := N)
    have hf : (defI N.length ks m ds).map (fun p => R.ok p.1 [.io p.2]) = some r := hf
    unfold defI at hf
    cases e : m (startE N.length (entry (.io :: ks) ds)) with
    | none => rw [e] at hf; cases hf
    | some o =>
      refine B.v { C with W := W0 } rfl rfl al C.F0 H _ _ S1 o e _ ?_
      rw [e] at hf
      cases o with
      | nx δ =>
        cases e2 : io0 δ with
        | none => simp only [e2] at hf; cases hf
        | some c =>
          simp only [e2] at hf
          cases hf
          exact fun al' F' H' σ' s' S' => hok _ _ rfl al' F' H' _ .non s' (by rw [← io0_some e2]; exact S'.unwish.take 1) (Rep.non_iff.mpr rfl)
      | rt d δ =>
        cases e2 : io0 δ with
        | none => simp only [e2] at hf; cases hf
        | some c =>
          simp only [e2] at hf
          cases hf
          exact fun al' F' H' σ' v s' S' rv => hok d _ rfl al' F' H' _ v s' (by rw [← io0_some e2]; exact S'.unwish.take 1) rv
      | rn d δ => cases hf
      | bk δ => cases hf
      | ct δ => cases hf
      | ex x δ => cases hf
end
/-! calls, said by the plain functions -/
def mCallP (ks : List PK) (g : List D → Option D) (a : M (List Op)) : M D := a.bind fun os => (mRds os).bind fun ds => fun δ => if frOk ks os then (match g ds with
  | some d => some (.ok d δ)
  | none => none) else none
theorem mCallP_eq (ks : List PK) (g : List D → Option D) (a : M (List Op)) : mCall ks (pF g) a = mCallP ks g a := by
  unfold mCall mCallP pF
  congr 1
  funext os
  congr 1
  funext ds δ
  cases g ds <;> rfl
def mCallI (i : Nat) (ks : List PK) (g : List D → Option (D × D)) (a : M (List Op)) : M D := fun δ => match δ[i]? with
  | some s => match s.own with
    | some _ => (a.bind fun os => (mRds os).bind fun ds => fun δ1 => match δ1[i]? with
      | some s1 => match s1.own with
        | some c => if frOk ks os && apart i os then (match g (c :: ds) with
          | some p => some (.ok p.1 (δ1.set i (reown s1 p.2)))
          | none => none) else none
        | none => none
      | none => none) δ
    | none => none
  | none => none
theorem mCallI_eq (i : Nat) (ks : List PK) (g : List D → Option (D × D)) (a : M (List Op)) : mCallS i ks (iF g) a = mCallI i ks g a := by
  unfold mCallS mCallI mCallS1 iF ioOut
  funext δ
  cases δ[i]? with
  | none => rfl
  | some s =>
    cases h0 : s.own with
    | none => simp only [h0]
    | some c0 =>
      simp only [h0]
      congr 1
      congr 1
      funext os
      congr 1
      funext ds δ1
      cases δ1[i]? with
      | none => rfl
      | some s1 =>
        cases h1 : s1.own with
        | none => simp only [h1]
        | some c => simp only [h1]; cases g (c :: ds) <;> rfl
def mMakeP (C : Addr) (ks : List PK) (g : List D → Option (D × D)) (a : M (List Op)) : M D := a.bind fun os => (mRds os).bind fun ds => fun δ => if frOk ks os then (match g (.ins C [] [] :: ds) with
  | some (.non, .ins C' ns es) => some (.ok (.ins C' ns es) δ)
  | _ => none) else none
theorem mMakeP_eq (C : Addr) (ks : List PK) (g : List D → Option (D × D)) (a : M (List Op)) : mMake C ks (iF g) a = mMakeP C ks g a := by
  unfold mMake mMakeP iF
  congr 1
  funext os
  congr 1
  funext ds δ
  cases g (.ins C [] [] :: ds) with
  | none => rfl
  | some p =>
    obtain ⟨d, e⟩ := p
    cases d <;> cases e <;> rfl
section
variable {X : Cx} {e : Expr} {es : List Expr} {pos p2 : Pos}
theorem x_cp {x : Str} {f : Addr} {fd : FuncData} {ps : List Str} {k j : Nat} {ks : List PK} {g : List D → Option D} {t : TA} {m : M (List Op)} (G : FnOk X.prog X.w X.K X.mg X.base CX0 k f fd ps (SpP X.K ks g)) (hr : Room j X.A) (hkj : k ≤ j) (hm : X.mg x = some (.ref f)) (hk : PySem.W.keepIn X.K (.ref f) = true) (hb : Binds X.K fd ps []) (h : XA X W0 (e :: es) t m) (hg : Gl X x := by rfl)
    (hdb : (x == ("__debug__" : Str)) = false := by decide) (hs : starEach (e :: es) X.env = (false, eval e X.env) :: starEach es X.env := by rfl) (hpl : (backTo pos (starEach es X.env)).any (·.1) = false := by rfl) :
    XE X W0 (.Call (.Name x p2) (e :: es) [] pos) (tCall (SpP X.K ks g) [] E0 t) (mCallP ks g m) := by
  rw [← mCallP_eq]
  exact x_call G hr hkj hm hk hb h hg hdb hs hpl
theorem x_ci {x : Str} {f : Addr} {fd : FuncData} {ps : List Str} {k j i : Nat} {ks : List PK} {g : List D → Option (D × D)} {t : TA} {m : M (List Op)} (G : FnOk X.prog X.w X.K X.mg X.base CX0 k f fd ps (SpI X.K ks g)) (hr : Room j X.A) (hkj : k ≤ j) (hm : X.mg x = some (.ref f)) (hk : PySem.W.keepIn X.K (.ref f) = true) (hb : Binds X.K fd ps []) (hp : PE X e (tVar i)) (h : XA X W0 es t m) (hg : Gl X x := by rfl)
    (hdb : (x == ("__debug__" : Str)) = false := by decide) (hs : starEach (e :: es) X.env = (false, eval e X.env) :: starEach es X.env := by rfl) (hpl : (backTo pos (starEach es X.env)).any (·.1) = false := by rfl) :
    XE X W0 (.Call (.Name x p2) (e :: es) [] pos) (tCall (SpI X.K ks g) [] E0 (tCons (tVar i) t)) (mCallI i ks g m) := by
  rw [← mCallI_eq]
  exact x_callS G hr hkj hm hk hb hp h hg hdb hs hpl
theorem n_mk {x : Str} {C f : Addr} {fd : FuncData} {ps : List Str} {k j : Nat} {ks : List PK} {g : List D → Option (D × D)} {t : TA} {m : M (List Op)} (Mk0 : Mk X.K C f) (G : FnOk X.prog X.w X.K X.mg X.base CX0 k f fd ps (SpI X.K ks g)) (hr : Room j X.A) (hkj : k + 1 ≤ j) (hm : X.mg x = some (.ref C)) (hb : Binds X.K fd ps []) (h : XA X W0 (e :: es) t m) (hg : Gl X x := by rfl)
    (hdb : (x == ("__debug__" : Str)) = false := by decide) (hs : starEach (e :: es) X.env = (false, eval e X.env) :: starEach es X.env := by rfl) (hpl : (backTo pos (starEach es X.env)).any (·.1) = false := by rfl) :
    XN X W0 (.Call (.Name x p2) (e :: es) [] pos) (tMake C (SpI X.K ks g) [] E0 t) (mMakeP C ks g m) := by
  rw [← mMakeP_eq]
  exact n_make Mk0 G hr hkj hm hb h hg hdb hs hpl
end
end DL

set_option Elab.async false
set_option linter.all false
set_option maxRecDepth 100000
set_option maxHeartbeats 400000
/-! DLk: sorted, counts. -/
namespace DL
open PySem L2
open PySem.W (EachIs AllAlike Sortable dataLe alike)
open PyProof.Rows (seqObj)
/-! ### sorting data -/
def encD (d : D) : PyData := (toPy d).getD .none
def tupNe : PyData → Bool
  | .tuple (_ :: _) => true
  | _ => false
def notTN : PyData → Bool
  | .none => false
  | .tuple _ => false
  | _ => true
def sortOk (ds : List D) : Bool := decide (ds.length ≤ 1000000) && ((ds.all fun d => (toPy d).isSome && decide ((encD d).depth ≤ 60)) && ((ds.all fun d => ds.all fun e => alike (encD d) (encD e)) && ((ds.all fun d => tupNe (encD d)) || (ds.all fun d => notTN (encD d)))))
def sortD (ds : List D) : List D := ds.mergeSort (dataLe false encD)
structure SortOk (ds : List D) : Prop where
  len : ds.length ≤ LB
  py : ∀ d ∈ ds, toPy d = some (encD d)
  dep : ∀ d ∈ ds, (encD d).depth ≤ 60
  al : ∀ d ∈ ds, ∀ e ∈ ds, alike (encD d) (encD e) = true
  kd : (∀ d ∈ ds, tupNe (encD d) = true) ∨ ∀ d ∈ ds, notTN (encD d) = true
theorem sortOk_iff {ds : List D} : sortOk ds = true ↔ SortOk ds := by
  unfold sortOk
  simp only [Bool.and_eq_true, Bool.or_eq_true, decide_eq_true_eq, List.all_eq_true]
  constructor
  · rintro ⟨h1, h2, h3, h4⟩
    refine ⟨h1, fun d hd => ?_, fun d hd => (h2 d hd).2, h3, h4⟩
    have := (h2 d hd).1
    unfold encD
    cases e : toPy d with
    | none => rw [e] at this; cases this
    | some p => rfl
  · rintro ⟨h1, h2, h3, h4, h5⟩
    exact ⟨h1, fun d hd => ⟨by rw [h2 d hd]; rfl, h3 d hd⟩, h4, h5⟩
theorem SortOk.perm {ds es : List D} (h : SortOk ds) (p : es.Perm ds) : SortOk es :=
  ⟨by rw [p.length_eq]; exact h.len, fun d hd => h.py d (p.mem_iff.mp hd), fun d hd => h.dep d (p.mem_iff.mp hd), fun d hd e he => h.al d (p.mem_iff.mp hd) e (p.mem_iff.mp he),
    h.kd.imp (fun z d hd => z d (p.mem_iff.mp hd)) fun z d hd => z d (p.mem_iff.mp hd)⟩
theorem SortOk.alike {ds : List D} (h : SortOk ds) : AllAlike (ds.map encD) := by
  intro x hx y hy
  obtain ⟨d, hd, rfl⟩ := List.mem_map.mp hx
  obtain ⟨e, he, rfl⟩ := List.mem_map.mp hy
  exact h.al d hd e he
theorem SortOk.sortable {ds : List D} (h : SortOk ds) : Sortable (ds.map encD) := by
  rcases h.kd with k | k
  · refine Or.inl fun x hx => ?_
    obtain ⟨d, hd, rfl⟩ := List.mem_map.mp hx
    have := k d hd
    cases e : encD d with
    | tuple xs =>
      cases xs with
      | nil => rw [e] at this; cases this
      | cons x r => exact ⟨x, r, rfl⟩
    | _ => rw [e] at this; cases this
  · refine Or.inr fun x hx => ?_
    obtain ⟨d, hd, rfl⟩ := List.mem_map.mp hx
    have := k d hd
    constructor
    · intro e; rw [e] at this; cases this
    · intro xs e; rw [e] at this; cases this
mutual
theorem reads_lt {h : Heap} : ∀ {v : Value} {d : PyData} {as : List Addr}, Reads h v d as → ∀ b ∈ as, b < h.objs.size
  | _, _, _, .none, b, m => by cases m
  | _, _, _, .bool _, b, m => by cases m
  | _, _, _, .int _ _, b, m => by cases m
  | _, _, _, .str _ _, b, m => by cases m
  | _, _, _, .list h1 _ _ h4, b, m => by
    rcases List.mem_cons.mp m with e | m
    · rw [e]; exact Heap.lt_size h1
    · exact readsAll_lt h4 b m
  | _, _, _, .tuple h1 _ _ h4, b, m => readsAll_lt h4 b m
  | _, _, _, .dict h1 _ _ h4 h5, b, m => by
    rcases List.mem_append.mp m with m | m
    · rcases List.mem_cons.mp m with e | m
      · rw [e]; exact Heap.lt_size h1
      · exact readsAll_lt h4 b m
    · exact readsAll_lt h5 b m
theorem readsAll_lt {h : Heap} : ∀ {vs : List Value} {ds : List PyData} {as : List Addr}, ReadsAll h vs ds as → ∀ b ∈ as, b < h.objs.size
  | _, _, _, .nil, b, m => by cases m
  | _, _, _, .cons h1 h2, b, m => by
    rcases List.mem_append.mp m with m | m
    · exact reads_lt h1 b m
    · exact readsAll_lt h2 b m
end
/-- a value stands for data -/
def StFor (K : Fg) (F : Hp) (u : Value) (d : D) : Prop := ∃ x : V, RelV x u ∧ Rep K F d x
theorem each_for {K : Fg} {F : Hp} : ∀ {ds : List D} {xs : List V} {us : List Value}, Reps K F ds xs → Vals xs us → EachIs (StFor K F) us ds
  | [], xs, us, r, v => by
    rw [r.inv0] at v
    cases v
    exact .nil
  | d :: ds, xs, us, r, v => by
    obtain ⟨x, ys, rfl, r1, r2⟩ := r.inv
    cases v with
    | cons h t => exact .cons ⟨x, h, r1⟩ (each_for r2 t)
theorem for_each {K : Fg} {F : Hp} : ∀ {ds : List D} {us : List Value}, EachIs (StFor K F) us ds → ∃ xs, Vals xs us ∧ Reps K F ds xs
  | _, _, .nil => ⟨[], .nil, reps_nil⟩
  | _, _, .cons ⟨x, h1, h2⟩ t => by
    obtain ⟨xs, h3, h4⟩ := for_each t
    exact ⟨x :: xs, .cons h1 h3, reps_cons h2 h4⟩
section
variable {X : Cx} {pins : List (Addr × Obj)} {σ : St} {F H : Hp} {s : Shared}
theorem each_mem2 {α β : Type} {R : α → β → Prop} : ∀ {as : List α} {bs : List β}, EachIs R as bs → EachIs (fun a b => R a b ∧ b ∈ bs) as bs
  | _, _, .nil => .nil
  | _, _, .cons h t => .cons ⟨h, List.mem_cons_self⟩ ((each_mem2 t).mono fun _ _ q => ⟨q.1, List.mem_cons_of_mem _ q.2⟩)
theorem StFor.reads {u : Value} {d : D} (I : Inv X pins σ H s) (fh : Same F H) (h : StFor X.K F u d) (e : toPy d = some (encD d)) : ∃ as, Reads s.heap u (encD d) as ∧ ∀ b ∈ as, b < s.heap.objs.size := by
  obtain ⟨x, h1, h2⟩ := h
  obtain ⟨as, r⟩ := Dp.reads I (encD d) x u (toPy_dp (h2.mono fh) e) h1
  exact ⟨as, r, reads_lt r⟩
/-- sorted, whatever is gathered -/
theorem sorted_coll {a : Addr} {C : List D → Prop} {Q : VK} (I : Inv X pins σ H s) (fh : Same F H) (ok : ∀ es, C es → SortOk es) (hu : X.A.units + 65 < cLine)
    (hC : ∀ (R : List Value → Shared → Prop) (E : Value → Shared → Prop), (∀ (s1 : Shared) (us : List Value) (es : List D), (∀ b o, s.heap.get? b = some o → s1.heap.get? b = some o) → s1.gens = s.gens → s1.os = s.os → C es → EachIs (StFor X.K F) us es → R us s1) →
      wpAny (model X.prog X.w) X.A.in1 (collect (.ref a)) R E s)
    (hQ : ∀ (p : Addr) (es : List D) (xs : List V), H p = none → C es → Reps X.K F (sortD es) xs → Q (.ref p) (upd H p (.lst xs))) :
    wpAny (model X.prog X.w) X.A (call (.builtin "sorted") [.ref a]) (EP X pins σ Q) X.xe s := by
  refine Calls.call_function_entry PyProof.Rows.kind_sorted PyProof.Rows.plain_sorted PyProof.Rows.entry_sorted (PyProof.Rows.args_sorted1 _) ?_
  unfold Builtin.«sorted»
  refine wpAny_bind (m := checkCount "sorted" 1 1 _) (wpAny_pure ?_)
  refine wpAny_bind (hC _ _ fun s1 us es k1 g1 o1 pm ev => ?_)
  have ok1 := ok es pm
  have lu : us.length = es.length := ev.length
  have hz : us.length ≤ sizeLine := by rw [lu]; exact LB_size ok1.len
  refine wpAny_bind (wpAny_newList ?_ hz)
  have hoL : (s1.heap.push (seqObj "list" us.toArray 0)).get? s1.heap.objs.size = some (seqObj "list" us.toArray 0) := Heap.get?_push_size _ rfl
  have er : EachIs (fun u d => ∃ as, Reads (s1.heap.push (seqObj "list" us.toArray 0)) u (encD d) as ∧ s1.heap.objs.size ∉ as) us es := (each_mem2 ev).mono fun u d q => by
    obtain ⟨as, r, _⟩ := StFor.reads I fh q.1 (ok1.py d q.2)
    have r1 := PyProof.Rows.Reads.keeps k1 r
    exact ⟨as, PyProof.Rows.Reads.keeps (fun b o e => Heap.get?_push_of_some _ e) r1, fun m => absurd (reads_lt r1 _ m) (Nat.lt_irrefl _)⟩
  refine wpAny_bind (wpAny_holding (PySem.W.list_sort_data (s := { s1 with heap := s1.heap.push (seqObj "list" us.toArray 0) }) hoL ev er ok1.alike ok1.sortable (LB_size ok1.len) (fun d hd => ?_) fun out lo eo => ?_))
  · have := ok1.dep d hd
    show X.A.in1.units + 1 + _ < cLine
    have e1 : X.A.in1.units = X.A.units + 1 := rfl
    omega
  · obtain ⟨xs, v1, v2⟩ := for_each eo
    obtain ⟨c, hc⟩ := PyProof.Rows.sortedHeap_at (vs := us) (out := out.toArray) hoL
    have hlen : xs.length ≤ sizeLine := by rw [v1.length, lo]; exact LB_size ok1.len
    have hn : H s1.heap.objs.size = none := (I.hok.kept k1).fresh (Nat.le_refl _)
    have hg0 : s.heap.get? s1.heap.objs.size = none := by
      cases q : s.heap.get? s1.heap.objs.size with
      | none => rfl
      | some u => exact absurd (Heap.lt_size (k1 _ u q)) (Nat.lt_irrefl _)
    have kk : ∀ b u, s.heap.get? b = some u → (PyProof.Rows.sortedHeap (s1.heap.push (seqObj "list" us.toArray 0)) s1.heap.objs.size us out.toArray).get? b = some u := fun b u e => by
      have q := k1 b u e
      have hlt := Heap.lt_size q
      rw [PyProof.Rows.sortedHeap_old (Nat.ne_of_lt hlt) (by rw [Heap.size_push]; exact Nat.lt_succ_of_lt hlt)]
      exact Heap.get?_push_of_some _ q
    have J := I.call (ch := []) (g' := s1.gens) (d' := s1.drawn) (t' := s1.toks) (Un.laidN kk hg0 hn) (I.hok.laidN (o := .lst xs) kk hn ⟨hlen, out, c, v1, hc⟩) (by rw [g1]; exact I.bare) (fun _ z => nomatch z)
    refine wpAny_pure ⟨_, rfl, .ref s1.heap.objs.size, _, ?_, rfl, hQ _ es xs hn pm v2⟩
    have e : ({ s1 with heap := PyProof.Rows.sortedHeap (s1.heap.push (seqObj "list" us.toArray 0)) s1.heap.objs.size us out.toArray } : Shared) = { s with heap := PyProof.Rows.sortedHeap (s1.heap.push (seqObj "list" us.toArray 0)) s1.heap.objs.size us out.toArray, gens := s1.gens, drawn := s1.drawn, toks := s1.toks } := by
      cases s1
      cases s
      cases o1
      rfl
    exact e ▸ J
/-- sorted(xs), a list or a tuple -/
def rSortQ (K : Fg) : List V → Hp → VK → Prop := fun vs H Q => ∃ (F : Hp) (a : Addr) (ds : List D) (xs : List V), Same F H ∧ vs = [.ref a] ∧ (SqL K H a xs ∨ SqT K H a xs) ∧ Reps K F ds xs ∧ SortOk ds ∧ ∀ p ys, H p = none → Reps K F (sortD ds) ys → Q (.ref p) (upd H p (.lst ys))
theorem cr_sortQ (hu : X.A.units + 65 < cLine) : CallR X (.builtin "sorted") (rSortQ X.K) := by
  intro pins s σ H vs us Q I r h
  obtain ⟨F, a, ds, xs, fh, rfl, hq, rs, ok, q⟩ := h
  rw [Vals.ref1 r]
  refine sorted_coll (C := fun es => es = ds) I fh (fun es e => e ▸ ok) hu (fun R E hR => ?_) fun p es ys hp e rp => ?_
  · rcases hq with hq | hq
    · obtain ⟨its, rv, hl, hz⟩ := I.list hq
      obtain ⟨o, ho, hc, n, hd⟩ := hl.isList
      refine wpAny_collect_seq a (Or.inl rfl) ho hc hd (fun h' k => ?_) (by rw [List.size_toArray, ← rv.length]; exact hz)
      exact hR { s with heap := h' } its ds k rfl rfl rfl (each_for rs rv)
    · obtain ⟨its, rv, hl, hz⟩ := I.tuple hq
      obtain ⟨o, ho, hc, n, hd⟩ := hl
      refine wpAny_collect_seq a (Or.inr rfl) ho hc hd (fun h' k => ?_) (by rw [List.size_toArray, ← rv.length]; exact hz)
      exact hR { s with heap := h' } its ds k rfl rfl rfl (each_for rs rv)
  · subst e
    exact q p ys hp rp
def sortF : D → Option (List D)
  | .lst ds => if sortOk ds then some (sortD ds) else none
  | .tup ds => if sortOk ds then some (sortD ds) else none
  | _ => none
theorem sortD_len (ds : List D) : (sortD ds).length = ds.length := List.length_mergeSort _
theorem prim_sort {K : Fg} : PrimNA K (rSortQ K) (fN1 sortF) := primN1 fun F H v d ds fh hv hf Q k => by
  cases d with
  | lst es =>
    obtain ⟨h1, rfl⟩ := if_some (show (if sortOk es = true then some (sortD es) else none) = some ds from hf)
    obtain ⟨a, vs, rfl, g1, g2, g3⟩ := hv.lst fh
    have ok := sortOk_iff.mp h1
    exact ⟨F, a, es, vs, fh, rfl, Or.inl (Or.inl (Or.inl g1)), g3, ok, fun p ys hp rp => k p _ ys hp (same_upd hp) upd_same (by rw [sortD_len]; exact ok.len) rp⟩
  | tup es =>
    obtain ⟨h1, rfl⟩ := if_some (show (if sortOk es = true then some (sortD es) else none) = some ds from hf)
    obtain ⟨a, vs, rfl, g1, g2, g3⟩ := hv.tup
    have ok := sortOk_iff.mp h1
    exact ⟨F, a, es, vs, fh, rfl, Or.inr (same_t fh g1.sq), g3, ok, fun p ys hp rp => k p _ ys hp (same_upd hp) upd_same (by rw [sortD_len]; exact ok.len) rp⟩
  | _ => cases hf
end
end DL

set_option Elab.async false
set_option linter.all false
set_option maxRecDepth 100000
set_option maxHeartbeats 1000000
/-! DLl: sets of whole numbers or texts: made of a list or a tuple, their length, sorted. -/
namespace DL
open PySem L2
def kOf (e : Int × Value) : Key := match e.2 with
  | .int i _ => Sum.inl i
  | .str x _ => Sum.inr x
  | _ => Sum.inl 0
def GoodK (w : World) (e : Int × Value) : Prop := ∃ k, RelV (kV k) e.2 ∧ e.1 = keyH w k
theorem kOf_rel {k : Key} {v : Value} {h : Int} (r : RelV (kV k) v) : kOf (h, v) = k := by
  cases k with
  | inl i => obtain ⟨t, rfl⟩ := r; rfl
  | inr x => obtain ⟨t, rfl⟩ := r; rfl
theorem GoodK.is {P : Program} {w : World} {e : Int × Value} (g : GoodK w e) (k : Key) : (mixKind P w).is k e.2 = true ↔ kOf e = k := by
  obtain ⟨k0, h1, h2⟩ := g
  have e0 : kOf e = k0 := kOf_rel (h := e.1) h1
  rw [e0]
  have z := kV_is (P := P) (w := w) h1
  exact ⟨fun q => (mixKind P w).inj _ _ _ z q, fun q => q ▸ z⟩
theorem good_elemsK {P : Program} {w : World} {l : List (Int × Value)} (g : ∀ e ∈ l, GoodK w e) : ElemsOf (mixKind P w) l := fun e he => by
  obtain ⟨k, h1, h2⟩ := g e he
  exact ⟨⟨k, kV_is h1, h2⟩, key_scan h1⟩
/-- what a table holds -/
structure TabG (w : World) (ks : List Key) (es : Array (Int × Value)) (t : SetTable) : Prop where
  good : ∀ e ∈ es.toList, GoodK w e
  nd : (es.toList.map kOf).Nodup
  mem : ∀ k, k ∈ es.toList.map kOf ↔ k ∈ ks
  le : es.size ≤ ks.length
  sb : es.size < scanBound
  fits : t.fits es.size = true
  ris : Ris t.place.toList
  led : w.params.followText "set-order" = true ∨ t.led = true
def SetG (w : World) (h : Heap) (a : Addr) (ks : List Key) : Prop := ∃ o es ep t, h.get? a = some o ∧ o.ExactSet ∧ o.data = .set es ep t ∧ TabG w ks es t
theorem SetG.keep {w : World} {h h' : Heap} {a : Addr} {ks : List Key} (R : SetG w h a ks) (k : ∀ o, h.get? a = some o → h'.get? a = some o) : SetG w h' a ks := by
  obtain ⟨o, es, ep, t, ho, r⟩ := R
  exact ⟨o, es, ep, t, k o ho, r⟩
section
variable {P : Program} {w : World} {A : Around} {E : Value → Shared → Prop} {s : Shared} {a : Addr} {ks : List Key}
theorem tailG {g : Bool → Sem Unit} (hg : ∀ (b : Bool) (s1 : Shared) (Q' : Unit → Shared → Prop), Q' () s1 → wpAny (model P w) A (g b) Q' E s1) {o : Obj} {es es1 : Array (Int × Value)} {ep : Nat} {t t2 : SetTable}
    (ho : s.heap.get? a = some o) (hex : o.ExactSet) (hd : o.data = .set es ep t) (T : TabG w ks es1 t2) {b : Bool} {R : Option Bool → Shared → Prop} (hR : ∀ h', Heap.SameBut a s.heap h' → SetG w h' a ks → R (some true) { s with heap := h' }) :
    wpAny (model P w) A (do
        storeSet a es1 t2
        if (!b && t2.tooFull) = true then do
            g (relayAll t2 es1 (SetTable.grown es1.size)).2.2
            storeSet a (relayAll t2 es1 (SetTable.grown es1.size)).1 (relayAll t2 es1 (SetTable.grown es1.size)).2.1
            pure (some true)
          else pure (some true)) R E s := by
  refine wpAny_bind (wpAny_storeSet_of ho hd ?_ (fits_of_scanBound T.sb))
  have o1 := store_at (es' := es1) (t' := t2) ho hd
  have b1 := Heap.SameBut.update s.heap a (Obj.putSet es1 t2)
  split
  · have x1 := relayAll_perm t2 es1 (SetTable.grown es1.size)
    have x2 := relayAll_fits t2 es1 (SetTable.grown es1.size)
    have x3 := relayAll_ris t2 es1 (SetTable.grown es1.size)
    have x4 := relayAll_led t2 es1 (SetTable.grown es1.size)
    generalize relayAll t2 es1 (SetTable.grown es1.size) = Z at x1 x2 x3 x4 ⊢
    obtain ⟨es2, t3, gv⟩ := Z
    dsimp only at x1 x2 x3 x4 ⊢
    have z : es2.size = es1.size := by rw [← Array.length_toList, x1.length_eq, Array.length_toList]
    have T2 : TabG w ks es2 t3 := ⟨fun e he => T.good e (x1.mem_iff.mp he), (x1.map kOf).nodup_iff.mpr T.nd, fun k => (x1.map kOf).mem_iff.trans (T.mem k), by rw [z]; exact T.le, by rw [z]; exact T.sb, x2, x3, T.led.imp id fun q => by rw [x4]; exact q⟩
    refine wpAny_bind (hg _ _ _ ?_)
    refine wpAny_bind (wpAny_storeSet_of o1 rfl ?_ (fits_of_scanBound T2.sb))
    exact wpAny_pure (hR _ (b1.trans (Heap.SameBut.update _ a _)) ⟨_, es2, _, t3, store_at (es' := es2) (t' := t3) o1 rfl, hex, rfl, T2⟩)
  · exact wpAny_pure (hR _ b1 ⟨_, es1, _, t2, o1, hex, rfl, T⟩)
theorem addG {k : Key} {v : Value} {Q : Bool → Shared → Prop} (R : SetG w s.heap a ks) (rv : RelV (kV k) v) (room : ks.length + 1 < scanBound) (hQ : ∀ h' b, Heap.SameBut a s.heap h' → SetG w h' a (ks ++ [k]) → Q b { s with heap := h' }) :
    wpAny (model P w) A (setAddHashed a v ((mixKind P w).hash k)) Q E s := by
  obtain ⟨o, es, ep, t, ho, hex, hd, T⟩ := R
  have is0 : (mixKind P w).is k v = true := kV_is rv
  have sc0 : v.scannable = true := key_scan rv
  have el0 : ElemsOf (mixKind P w) es.toList := good_elemsK T.good
  unfold setAddHashed setAddHashedIn
  refine wpAny_holding (wpAny_bind (wpAny_setState_of ho hd T.fits ?_))
  dsimp only
  rw [byScan_of sc0 T.sb el0]
  simp only [↓reduceIte]
  unfold setAddByScan
  refine wpAny_bind (wpAny_bind (wpAny_rule (wpAny_bind (wpAny_setScan_of is0 ho hd T.fits el0 ?_))))
  cases hfi : List.findIdx? (fun e => (mixKind P w).is k e.2) es.toList with
  | some j =>
    dsimp only
    obtain ⟨hj, pj, _⟩ := List.findIdx?_eq_some_iff_getElem.mp hfi
    have hk : k ∈ ks := (T.mem k).mp (List.mem_map.mpr ⟨es.toList[j], List.getElem_mem hj, ((T.good _ (List.getElem_mem hj)).is k).mp pj⟩)
    refine wpAny_pure (wpAny_pure (hQ s.heap _ (Heap.SameBut.refl a s.heap) ⟨o, es, ep, t, ho, hex, hd, T.good, T.nd, fun i => (T.mem i).trans ?_, by rw [List.length_append]; exact Nat.le_succ_of_le T.le, T.sb, T.fits, T.ris, T.led⟩))
    rw [List.mem_append, List.mem_singleton]
    exact ⟨Or.inl, fun q => q.elim id fun e => e ▸ hk⟩
  | none =>
    dsimp only
    have hnk : k ∉ es.toList.map kOf := fun z => by
      obtain ⟨e, he, q⟩ := List.mem_map.mp z
      have c := List.findIdx?_eq_none_iff.mp hfi e he
      rw [((T.good e he).is k).mpr q] at c
      cases c
    have x1 := layNew_perm t es ((mixKind P w).hash k) v
    have x2 := layNew_fits t es ((mixKind P w).hash k) v
    have x3 := layNew_ris t es ((mixKind P w).hash k) v T.ris
    have x4 := layNew_led t es ((mixKind P w).hash k) v
    generalize layNew t es ((mixKind P w).hash k) v = Z at x1 x2 x3 x4 ⊢
    obtain ⟨es1, t1, wd, gv⟩ := Z
    dsimp only at x1 x2 x3 x4 ⊢
    rw [Array.toList_push] at x1
    have pc : es1.toList.Perm (((mixKind P w).hash k, v) :: es.toList) := x1.trans (List.perm_append_singleton _ _)
    have pk : (es1.toList.map kOf).Perm (k :: es.toList.map kOf) := by
      have q := pc.map kOf
      rw [List.map_cons, kOf_rel rv] at q
      exact q
    have z : es1.size = es.size + 1 := by rw [← Array.length_toList, pc.length_eq, List.length_cons, Array.length_toList]
    have mk : ∀ t2 : SetTable, t2.fits es1.size = true → Ris t2.place.toList → t2.led = t1.led → TabG w (ks ++ [k]) es1 t2 := fun t2 y1 y2 y3 => by
      refine ⟨fun e he => ?_, pk.nodup_iff.mpr (List.nodup_cons.mpr ⟨hnk, T.nd⟩), fun i => ?_, ?_, ?_, y1, y2, T.led.imp id fun q => by rw [y3, x4]; exact q⟩
      · rcases List.mem_cons.mp (pc.mem_iff.mp he) with q | q
        · rw [q]; exact ⟨k, rv, rfl⟩
        · exact T.good e q
      · rw [pk.mem_iff, List.mem_cons, T.mem i, List.mem_append, List.mem_singleton]
        exact Or.comm
      · rw [z, List.length_append]; exact Nat.succ_le_succ T.le
      · rw [z]; exact Nat.lt_of_le_of_lt (Nat.succ_le_succ T.le) room
    have gw : ∀ (b : Bool) (s1 : Shared) (Q' : Unit → Shared → Prop), Q' () s1 → wpAny (model P w) A (match b with | true => rule "set.scan.the-table-gave-way" | false => pure ()) Q' E s1 := fun b s1 Q' q => by
      cases b
      · exact wpAny_pure q
      · exact wpAny_rule q
    refine wpAny_bind (gw _ _ _ ?_)
    split
    · refine wpAny_bind ?_
      rw [hashByValue_scannable 8 sc0]
      refine wpAny_pure (tailG (fun b s1 Q' q => by cases b <;> first | exact wpAny_pure q | exact wpAny_rule q) ho hex hd (mk _ ?_ ?_ ?_) fun h' sb r => by dsimp only; exact wpAny_pure (hQ h' _ sb r))
      · first | (split <;> first | exact x2 | exact SetTable.fits_plain_off x2) | exact x2
      · first | (split <;> exact x3) | exact x3
      · first | (split <;> rfl) | rfl
    · refine wpAny_bind (wpAny_pure ?_)
      simp only [↓reduceIte]
      exact tailG (fun b s1 Q' q => by cases b <;> first | exact wpAny_pure q | exact wpAny_rule q) ho hex hd (mk _ x2 x3 rfl) fun h' sb r => by dsimp only; exact wpAny_pure (hQ h' _ sb r)
/-- set.update's loop -/
theorem loopG {I : Addr} {fp wr : List Addr} {G : Array GenState → Array GenState → Prop} {n : Nat} {Pv : Nat → Value → Prop} {St : Nat → Shared → Prop} {R : Result → Shared → Prop} (W : WalksS P w A.in1 I fp wr G n Pv St) (S : Addr) (hSf : S ∉ fp)
    (hn : n = ks.length) (few : ks.length + 1 < scanBound) (hval : ∀ i v, Pv i v → ∃ k, ks[i]? = some k ∧ RelV (kV k) v) :
    ∀ (m i : Nat) (s : Shared), n - i = m → i ≤ n → St i s → SetG w s.heap S (ks.take i) → (∀ s', Moved (S :: wr) G s s' → SetG w s'.heap S ks → R (.ok (.ret .none)) s') →
      codeAny (model P w) A (.builtin "set.update.loop" ⟨[.ref S, .ref I], []⟩) R s := by
  have hSw : S ∉ wr := fun h => hSf (W.sub _ h)
  have up : ∀ b ∈ wr, b ∈ S :: wr := fun b hb => List.mem_cons_of_mem _ hb
  intro m
  induction m with
  | zero =>
    intro i s em hi st g hR
    have ein : i = n := by omega
    subst ein
    refine codeAny_builtin PyProof.Rows.F.entry_set_update_loop ?_
    rw [Around.under_plainId PyProof.Rows.F.plain_set_update_loop _]
    show wpAny _ A.in1 (pyNext (.ref I) >>= _) _ _ s
    refine wpAny_bind (W.done s _ _ st fun s' mv => ?_)
    show wpAny _ A.in1 (ret Value.none) _ _ s'
    refine wpAny_pure (hR s' (mv.mono up) ?_)
    have g2 := g.keep (h' := s'.heap) fun o e => mv.heap S o hSw e
    rw [hn, List.take_length] at g2
    exact g2
  | succ m ih =>
    intro i s em hi st g hR
    have lt : i < n := by omega
    refine codeAny_builtin PyProof.Rows.F.entry_set_update_loop ?_
    rw [Around.under_plainId PyProof.Rows.F.plain_set_update_loop _]
    show wpAny _ A.in1 (pyNext (.ref I) >>= _) _ _ s
    refine wpAny_bind (W.item i s _ _ lt st fun v s' hP st' mv => ?_)
    obtain ⟨k, hk, rk⟩ := hval i v hP
    have g1 := g.keep (h' := s'.heap) fun o e => mv.heap S o hSw e
    show wpAny _ A.in1 (holding [v] (setAdd S v) >>= _) _ _ s'
    refine wpAny_bind (wpAny_holding ?_)
    unfold setAdd
    refine wpAny_holding (wpAny_bind ((mixKind P w).pyHash (k := k) (kV_is rk) ?_))
    refine addG (s := { s' with toks := s'.toks + 1 }) g1 rk (by rw [List.length_take]; omega) fun h' b sb g2 => ?_
    have e2 : ks.take i ++ [k] = ks.take (i + 1) := by rw [List.take_add_one, hk]; rfl
    rw [e2] at g2
    refine wpAny_pure ⟨plainId_quiet PyProof.Rows.F.plain_set_update_loop _, ih (i + 1) _ (by omega) lt (W.frame _ s' _ _ st' (Nat.le_succ _) fun b hb o e => ?_) g2 fun s2 mv2 g3 => hR s2 (Moved.trans W.gtrans ((mv.mono up).then_heap (Nat.le_succ _) fun b o hb e => ?_) mv2) g3⟩
    · rw [sb.2 b fun q : b = S => hSf (q ▸ hb)]; exact e
    · rw [sb.2 b fun q : b = S => hb (by rw [q]; exact List.mem_cons_self)]; exact e
abbrev freshSet (w : World) : Obj := { cls := .type "set", dict := none, data := .set #[] 0 (.fresh 0 0 (!w.params.followText "set-order")) }
theorem freshG {h : Heap} (ho : h.get? a = some (freshSet w)) : SetG w h a [] := by
  refine ⟨_, #[], 0, _, ho, ⟨rfl, rfl, rfl⟩, rfl, fun e he => by simp at he, by simp, fun k => by simp, Nat.le_refl _, by decide, by rfl, List.Pairwise.nil, ?_⟩
  show _ ∨ (!w.params.followText "set-order") = true
  cases w.params.followText "set-order"
  · exact .inr rfl
  · exact .inl rfl
set_option maxHeartbeats 3200000 in
/-- set(xs), xs a list -/
theorem set_listG {l : Addr} {items : Array Value} {Q : Value → Shared → Prop} (hh : A.handled = none) (hl : s.heap.IsList l items) (hv : ∀ (i : Nat) (v : Value), items[i]? = some v → ∃ k, ks[i]? = some k ∧ RelV (kV k) v) (hz : items.size = ks.length) (few : ks.length + 1 < scanBound)
    (h : ∀ (h' : Heap) (tk : Nat), SetG w h' s.heap.objs.size ks → (∀ b o, s.heap.get? b = some o → h'.get? b = some o) → Q (.ref s.heap.objs.size) { s with heap := h', toks := tk }) : wpAny (model P w) A (call (.type "set") [.ref l]) Q E s := by
  obtain ⟨c, tl, hmro⟩ := PySem.F.called_set.mro
  have hmade := PySem.F.called_set.made
  have hsub := PySem.F.called_set.sub
  refine wpAny_call (codeAny_of_tree ?_)
  show wpAny _ _ (callAny (.type "set") _) _ _ _
  refine wpAny_pure ⟨Code.quiet_builtin _ (by decide +kernel), codeAny_builtin PySem.F.entry_type_call ?_⟩
  rw [Around.under_plain (weight_type_call_type "set" [.ref l] []) rfl]
  have h1 := PySem.F.called_set.notType
  have h2 := PySem.F.called_set.canCreate
  have hct := PySem.F.typeCall_set_1 (.ref l)
  repeat (any_goals (first | assumption | wp_step))
  refine codeAny_mono (code_set_led1 (.ref l) (E := E) (Q₁ := fun ob s1 => ob = .ref s.heap.objs.size ∧ s1 = { s with heap := s.heap.push (freshSet w) }) ⟨rfl, rfl⟩) fun r s1 hr => ?_
  cases r with
  | error e => exact hr
  | ok fl =>
    cases fl with
    | ret ob =>
      obtain ⟨rfl, rfl⟩ := hr
      have hS : (s.heap.push (freshSet w)).get? s.heap.objs.size = some (freshSet w) := Heap.get?_push_size _ rfl
      have hT : Shared.TypeIs { s with heap := s.heap.push (freshSet w) } (.ref s.heap.objs.size) "set" := ⟨_, hS, rfl⟩
      have hli := PySem.F.called_set.init.lookup
      have hbi := PySem.F.called_set.init.bind (.ref s.heap.objs.size)
      repeat (any_goals (first | assumption | wp_step))
      refine codeAny_mono (codeAny_call_builtin (R := wants (fun r s2 => r = .none ∧ ∃ h' tk, s2 = { s with heap := h', toks := tk } ∧ SetG w h' s.heap.objs.size ks ∧ ∀ b o, s.heap.get? b = some o → h'.get? b = some o) E) PySem.F.called_set.init.plain PySem.F.entry_set_init (check_set_init_1 hT ?_)) fun r2 s2 hr2 => ?_
      · obtain ⟨⟨oc, od, oda, osl⟩, hol, hcl, nl, hdl⟩ := hl
        simp only at hcl hdl
        subst hcl
        subst hdl
        have hol' : (s.heap.push (freshSet w)).get? l = some { cls := .type "list", dict := od, data := .seq items nl, slots := osl } := Heap.get?_push_of_some _ hol
        have hsls := PySem.F.sub_list_set
        have hslf := PySem.F.sub_list_frozenset
        have hne : (Value.type "list" == Value.type "dict") = false := by decide
        have hl1 : (s.heap.push (freshSet w)).IsList l items := ⟨_, hol', rfl, nl, rfl⟩
        unfold Builtin.«set.__init__» noKeywords Builtin.Frozenset.updateFrom
        generalize hPI : pyIter = PI
        wp_walk
        subst hPI
        refine wpAny_pyIter_list hl1 (wpAny_bind (wpAny_runValue ?_))
        have hlS : l < s.heap.objs.size := Heap.lt_size hol
        have hh3 : A.in1.in1.in1.handled = none := by simp [hh]
        have hneI : l ≠ (s.heap.push (freshSet w)).objs.size := by rw [Heap.size_push]; exact Nat.ne_of_lt (Nat.lt_succ_of_lt hlS)
        have hSf : s.heap.objs.size ∉ [(s.heap.push (freshSet w)).objs.size, l] := by
          rw [Heap.size_push]
          simp only [List.mem_cons, List.mem_singleton, List.not_mem_nil, or_false, not_or]
          exact ⟨Nat.ne_of_lt (Nat.lt_succ_self _), Nat.ne_of_gt hlS⟩
        refine loopG ((Walks.list hh3 _ l hneI items).toS) s.heap.objs.size hSf hz few hv (items.size - 0) 0 _ (by omega) (Nat.zero_le _) ⟨⟨_, Heap.get?_push_size _ rfl, rfl, rfl⟩, (hl1.push _)⟩ ?_ ?_
        · rw [List.take_zero]
          exact freshG (Heap.get?_push_of_some _ hS)
        · intro s' hm g'
          obtain ⟨h', g2, d', tk', os'⟩ := s'
          have eg : g2 = s.gens := hm.gens
          have ed : d' = s.drawn := hm.drawn
          have eo : os' = s.os := hm.os
          subst eg
          subst ed
          subst eo
          show wpAny _ _ _ _ _ _
          refine wpAny_pure ?_
          show wpAny _ _ (ret Value.none) _ _ _
          refine wpAny_pure ⟨rfl, h', tk', rfl, g', fun b o e => ?_⟩
          have hb := Heap.lt_size e
          have n1 : b ≠ s.heap.objs.size := Nat.ne_of_lt hb
          have n2 : b ≠ (s.heap.push (freshSet w)).objs.size := by rw [Heap.size_push]; exact Nat.ne_of_lt (Nat.lt_succ_of_lt hb)
          exact hm.heap b o (by simp only [List.mem_cons, List.mem_singleton, List.not_mem_nil, or_false, not_or]; exact ⟨n1, n2⟩) (Heap.get?_push_of_some _ (Heap.get?_push_of_some _ e))
      · cases r2 with
        | error e => exact hr2
        | ok f2 =>
          cases f2 with
          | ret r =>
            obtain ⟨rfl, h', tk, rfl, g', k'⟩ := hr2
            repeat (any_goals (first | assumption | wp_step))
            exact h _ _ g' k'
          | _ => exact hr2.elim
    | _ => exact hr.elim
set_option maxHeartbeats 3200000 in
/-- set(xs), xs a tuple -/
theorem set_tupleG {l : Addr} {items : Array Value} {Q : Value → Shared → Prop} (hh : A.handled = none) (hl : s.heap.IsTuple l items) (hv : ∀ (i : Nat) (v : Value), items[i]? = some v → ∃ k, ks[i]? = some k ∧ RelV (kV k) v) (hz : items.size = ks.length) (few : ks.length + 1 < scanBound)
    (h : ∀ (h' : Heap) (tk : Nat), SetG w h' s.heap.objs.size ks → (∀ b o, s.heap.get? b = some o → h'.get? b = some o) → Q (.ref s.heap.objs.size) { s with heap := h', toks := tk }) : wpAny (model P w) A (call (.type "set") [.ref l]) Q E s := by
  obtain ⟨c, tl, hmro⟩ := PySem.F.called_set.mro
  have hmade := PySem.F.called_set.made
  have hsub := PySem.F.called_set.sub
  refine wpAny_call (codeAny_of_tree ?_)
  show wpAny _ _ (callAny (.type "set") _) _ _ _
  refine wpAny_pure ⟨Code.quiet_builtin _ (by decide +kernel), codeAny_builtin PySem.F.entry_type_call ?_⟩
  rw [Around.under_plain (weight_type_call_type "set" [.ref l] []) rfl]
  have h1 := PySem.F.called_set.notType
  have h2 := PySem.F.called_set.canCreate
  have hct := PySem.F.typeCall_set_1 (.ref l)
  repeat (any_goals (first | assumption | wp_step))
  refine codeAny_mono (code_set_led1 (.ref l) (E := E) (Q₁ := fun ob s1 => ob = .ref s.heap.objs.size ∧ s1 = { s with heap := s.heap.push (freshSet w) }) ⟨rfl, rfl⟩) fun r s1 hr => ?_
  cases r with
  | error e => exact hr
  | ok fl =>
    cases fl with
    | ret ob =>
      obtain ⟨rfl, rfl⟩ := hr
      have hS : (s.heap.push (freshSet w)).get? s.heap.objs.size = some (freshSet w) := Heap.get?_push_size _ rfl
      have hT : Shared.TypeIs { s with heap := s.heap.push (freshSet w) } (.ref s.heap.objs.size) "set" := ⟨_, hS, rfl⟩
      have hli := PySem.F.called_set.init.lookup
      have hbi := PySem.F.called_set.init.bind (.ref s.heap.objs.size)
      repeat (any_goals (first | assumption | wp_step))
      refine codeAny_mono (codeAny_call_builtin (R := wants (fun r s2 => r = .none ∧ ∃ h' tk, s2 = { s with heap := h', toks := tk } ∧ SetG w h' s.heap.objs.size ks ∧ ∀ b o, s.heap.get? b = some o → h'.get? b = some o) E) PySem.F.called_set.init.plain PySem.F.entry_set_init (check_set_init_1 hT ?_)) fun r2 s2 hr2 => ?_
      · obtain ⟨⟨oc, od, oda, osl⟩, hol, hcl, nl, hdl⟩ := hl
        simp only at hcl hdl
        subst hcl
        subst hdl
        have hol' : (s.heap.push (freshSet w)).get? l = some { cls := .type "tuple", dict := od, data := .seq items nl, slots := osl } := Heap.get?_push_of_some _ hol
        have hsls := PySem.F.sub_tuple_set
        have hslf := PySem.F.sub_tuple_frozenset
        have hne : (Value.type "tuple" == Value.type "dict") = false := by decide
        have hl1 : (s.heap.push (freshSet w)).IsTuple l items := ⟨_, hol', rfl, nl, rfl⟩
        unfold Builtin.«set.__init__» noKeywords Builtin.Frozenset.updateFrom
        generalize hPI : pyIter = PI
        wp_walk
        subst hPI
        refine wpAny_pyIter_tuple hl1 (wpAny_bind (wpAny_runValue ?_))
        have hlS : l < s.heap.objs.size := Heap.lt_size hol
        have hh3 : A.in1.in1.in1.handled = none := by simp [hh]
        have hneI : l ≠ (s.heap.push (freshSet w)).objs.size := by rw [Heap.size_push]; exact Nat.ne_of_lt (Nat.lt_succ_of_lt hlS)
        have hSf : s.heap.objs.size ∉ [(s.heap.push (freshSet w)).objs.size, l] := by
          rw [Heap.size_push]
          simp only [List.mem_cons, List.mem_singleton, List.not_mem_nil, or_false, not_or]
          exact ⟨Nat.ne_of_lt (Nat.lt_succ_self _), Nat.ne_of_gt hlS⟩
        refine loopG ((Walks.tuple hh3 _ l hneI items).toS) s.heap.objs.size hSf hz few hv (items.size - 0) 0 _ (by omega) (Nat.zero_le _) ⟨⟨_, Heap.get?_push_size _ rfl, rfl, rfl⟩, (hl1.push _)⟩ ?_ ?_
        · rw [List.take_zero]
          exact freshG (Heap.get?_push_of_some _ hS)
        · intro s' hm g'
          obtain ⟨h', g2, d', tk', os'⟩ := s'
          have eg : g2 = s.gens := hm.gens
          have ed : d' = s.drawn := hm.drawn
          have eo : os' = s.os := hm.os
          subst eg
          subst ed
          subst eo
          show wpAny _ _ _ _ _ _
          refine wpAny_pure ?_
          show wpAny _ _ (ret Value.none) _ _ _
          refine wpAny_pure ⟨rfl, h', tk', rfl, g', fun b o e => ?_⟩
          have hb := Heap.lt_size e
          have n1 : b ≠ s.heap.objs.size := Nat.ne_of_lt hb
          have n2 : b ≠ (s.heap.push (freshSet w)).objs.size := by rw [Heap.size_push]; exact Nat.ne_of_lt (Nat.lt_succ_of_lt hb)
          exact hm.heap b o (by simp only [List.mem_cons, List.mem_singleton, List.not_mem_nil, or_false, not_or]; exact ⟨n1, n2⟩) (Heap.get?_push_of_some _ (Heap.get?_push_of_some _ e))
      · cases r2 with
        | error e => exact hr2
        | ok f2 =>
          cases f2 with
          | ret r =>
            obtain ⟨rfl, h', tk, rfl, g', k'⟩ := hr2
            repeat (any_goals (first | assumption | wp_step))
            exact h _ _ g' k'
          | _ => exact hr2.elim
    | _ => exact hr.elim
end
end DL

set_option Elab.async false
set_option linter.all false
set_option maxRecDepth 100000
set_option maxHeartbeats 400000
/-! DLm: len(set(xs)), sorted(set(xs)); counts; comparisons of data. -/
namespace DL
open PySem L2
open PySem.W (EachIs AllAlike Sortable dataLe alike)
open PyProof.Rows (seqObj)
/-- each key once -/
def inK (k : Key) (ks : List Key) : Bool := ks.any fun q => decide (q = k)
theorem inK_iff {k : Key} {ks : List Key} : inK k ks = true ↔ k ∈ ks := by
  unfold inK
  rw [List.any_eq_true]
  exact ⟨fun ⟨q, h, e⟩ => of_decide_eq_true e ▸ h, fun h => ⟨k, h, decide_eq_true rfl⟩⟩
def dd : List Key → List Key
  | [] => []
  | k :: r => if inK k r then dd r else k :: dd r
theorem mem_dd {k : Key} : ∀ {ks : List Key}, k ∈ dd ks ↔ k ∈ ks
  | [] => Iff.rfl
  | q :: r => by
    unfold dd
    by_cases e : inK q r = true
    · rw [if_pos e, mem_dd, List.mem_cons]
      exact ⟨Or.inr, fun z => z.elim (fun z => z ▸ inK_iff.mp e) id⟩
    · rw [if_neg e, List.mem_cons, List.mem_cons, mem_dd]
theorem nodup_dd : ∀ (ks : List Key), (dd ks).Nodup
  | [] => List.nodup_nil
  | q :: r => by
    unfold dd
    by_cases e : inK q r = true
    · rw [if_pos e]; exact nodup_dd r
    · rw [if_neg e]; exact List.nodup_cons.mpr ⟨fun z => e (inK_iff.mpr (mem_dd.mp z)), nodup_dd r⟩
theorem dd_len : ∀ (ks : List Key), (dd ks).length ≤ ks.length
  | [] => Nat.le_refl _
  | q :: r => by
    unfold dd
    have := dd_len r
    by_cases e : inK q r = true
    · rw [if_pos e, List.length_cons]; omega
    · rw [if_neg e, List.length_cons, List.length_cons]; omega
theorem TabG.perm {w : World} {ks : List Key} {es : Array (Int × Value)} {t : SetTable} (T : TabG w ks es t) : (es.toList.map kOf).Perm (dd ks) :=
  (List.perm_ext_iff_of_nodup T.nd (nodup_dd ks)).mpr fun k => (T.mem k).trans mem_dd.symm
theorem TabG.size {w : World} {ks : List Key} {es : Array (Int × Value)} {t : SetTable} (T : TabG w ks es t) : es.size = (dd ks).length := by
  have := T.perm.length_eq
  rw [List.length_map, Array.length_toList] at this
  exact this
def SetGO (w : World) (a : Addr) (ks : List Key) : HO := .ext fun h => SetG w h a ks
theorem setGO_new {w : World} {P : Program} {H : Hp} {h : Heap} {a : Addr} {ks : List Key} (R : SetG w h a ks) : ObjOk P w H h a (SetGO w a ks) := by
  have ⟨o, _, _, _, ho, _⟩ := R
  exact ⟨R, ⟨o, ho⟩, fun h1 h2 p k => SetG.keep p k⟩
def keysV : List V → Option (List Key)
  | [] => some []
  | .int i :: r => (keysV r).map (Sum.inl i :: ·)
  | .str x :: r => (keysV r).map (Sum.inr x :: ·)
  | _ => none
def kD : Key → D
  | Sum.inl i => .int i
  | Sum.inr x => .str x
theorem kD_rep {K : Fg} {F : Hp} (k : Key) : Rep K F (kD k) (kV k) := by
  cases k with
  | inl i => exact Rep.int_iff.mpr rfl
  | inr x => exact Rep.str_iff.mpr rfl
theorem kD_reps {K : Fg} {F : Hp} : ∀ (ks : List Key), Reps K F (ks.map kD) (ks.map kV)
  | [] => reps_nil
  | k :: r => reps_cons (kD_rep k) (kD_reps r)
theorem kD_inj {K : Fg} {F : Hp} {k : Key} {v : V} (h : Rep K F (kD k) v) : v = kV k := by
  cases k with
  | inl i => exact Rep.int_iff.mp h
  | inr x => exact Rep.str_iff.mp h
theorem kDs_inj {K : Fg} {F : Hp} : ∀ {ks : List Key} {vs : List V}, Reps K F (ks.map kD) vs → vs = ks.map kV
  | [], vs, h => h.inv0
  | k :: r, vs, h => by
    obtain ⟨v, us, rfl, h1, h2⟩ := Reps.inv h
    rw [kD_inj h1, kDs_inj h2]
    rfl
section
variable {X : Cx}
def rSetG (K : Fg) (w : World) : List V → Hp → VK → Prop := fun vs H Q => ∃ (a : Addr) (ks : List Key), vs = [.ref a] ∧ (SqL K H a (ks.map kV) ∨ SqT K H a (ks.map kV)) ∧ ks.length ≤ 4000 ∧ ∀ p, H p = none → Q (.ref p) (upd H p (SetGO w p ks))
theorem keys_at {ks : List Key} {its : List Value} (rv : Vals (ks.map kV) its) : (∀ (i : Nat) (v : Value), its.toArray[i]? = some v → ∃ k, ks[i]? = some k ∧ RelV (kV k) v) ∧ its.toArray.size = ks.length := by
  have l := rv.length
  rw [List.length_map] at l
  refine ⟨fun i v e => ?_, by rw [List.size_toArray, l]⟩
  have e' : its[i]? = some v := by simpa using e
  have hi : i < ks.length := by rw [l]; exact (List.getElem?_eq_some_iff.mp e').1
  obtain ⟨u, h1, h2⟩ := rv.get (i := i) (x := kV ks[i]) (by rw [List.getElem?_map, List.getElem?_eq_getElem hi]; rfl)
  rw [e'] at h1
  cases h1
  exact ⟨ks[i], List.getElem?_eq_getElem hi, h2⟩
theorem cr_setG (hc : X.calm = true) : CallR X (.type "set") (rSetG X.K X.w) := by
  intro pins s σ H vs us Q I r h
  obtain ⟨a, ks, rfl, hq, few, q⟩ := h
  rw [Vals.ref1 r]
  have fw : ks.length + 1 < scanBound := by have : scanBound = 4096 := rfl; omega
  have fin : ∀ (h' : Heap) (tk : Nat), SetG X.w h' s.heap.objs.size ks → (∀ b o, s.heap.get? b = some o → h'.get? b = some o) → EP X pins σ Q (.ref s.heap.objs.size) { s with heap := h', toks := tk } := fun h' tk g k =>
    ⟨.ref _, upd H s.heap.objs.size (SetGO X.w s.heap.objs.size ks), I.laid (t' := tk) k (Nat.le_refl _) (setGO_new g), rfl, q _ (I.hok.fresh (Nat.le_refl _))⟩
  rcases hq with hq | hq
  · obtain ⟨its, rv, hl, hz⟩ := I.list hq
    obtain ⟨k1, k2⟩ := keys_at rv
    exact set_listG (I.ok.hd hc) hl.isList k1 k2 fw fin
  · obtain ⟨its, rv, hl, hz⟩ := I.tuple hq
    obtain ⟨k1, k2⟩ := keys_at rv
    exact set_tupleG (I.ok.hd hc) hl k1 k2 fw fin
def rLenG (w : World) : List V → Hp → VK → Prop := fun vs H Q => ∃ (a : Addr) (ks : List Key), vs = [.ref a] ∧ H a = some (SetGO w a ks) ∧ Q (.int ((dd ks).length : Nat)) H
theorem cr_lenG : CallR X (.builtin "len") (rLenG X.w) := by
  intro pins s σ H vs us Q I r h
  obtain ⟨a, ks, rfl, ha, q⟩ := h
  rw [Vals.ref1 r]
  obtain ⟨o, es, ep, t, ho, hex, hd, T⟩ := (I.hok a _ ha).1
  refine call_len_set ho hex hd T.fits (by have := T.sb; have : scanBound = 4096 := rfl; omega) ⟨.int ((dd ks).length : Nat), H, I.tok _, ⟨_, by rw [T.size]⟩, q⟩
/-! the order of keys is one of equals alone -/
theorem encD_int (i : Int) : encD (.int i) = .int i := rfl
theorem encD_str (x : Str) : encD (.str x) = .str x := rfl
theorem str_ext {x y : Str} (h : x.cps.toList = y.cps.toList) : x = y := by
  cases x with
  | mk a =>
    cases y with
    | mk b =>
      have : a = b := by
        apply Array.ext'
        exact h
      rw [this]
theorem le_anti {k q : Key} (ha : alike (encD (kD k)) (encD (kD q)) = true) (h1 : dataLe false encD (kD k) (kD q) = true) (h2 : dataLe false encD (kD q) (kD k) = true) : kD k = kD q := by
  cases k with
  | inl i =>
    cases q with
    | inl j =>
      have e1 : (!PySem.W.dataLt (.int j) (.int i)) = true := h1
      have e2 : (!PySem.W.dataLt (.int i) (.int j)) = true := h2
      rw [PySem.W.dataLt_int] at e1 e2
      simp only [Bool.not_eq_true', decide_eq_false_iff_not] at e1 e2
      have : i = j := by omega
      rw [this]
    | inr y => simp [kD, encD, toPy, alike] at ha
  | inr x =>
    cases q with
    | inl j => simp [kD, encD, toPy, alike] at ha
    | inr y =>
      have e1 : (!PySem.W.dataLt (.str y) (.str x)) = true := h1
      have e2 : (!PySem.W.dataLt (.str x) (.str y)) = true := h2
      rw [PySem.W.dataLt_str] at e1 e2
      simp only [Bool.not_eq_true', decide_eq_false_iff_not] at e1 e2
      have : x.cps.toList = y.cps.toList := List.le_antisymm (List.not_lt.mp e1) (List.not_lt.mp e2)
      rw [str_ext this]
theorem sortD_pw (ds : List D) : (sortD ds).Pairwise fun a b => dataLe false encD a b = true := PySem.W.sort_pairwise (PySem.W.sortLe_total _ _ _) ds
theorem sortD_mem {ds : List D} {d : D} : d ∈ sortD ds ↔ d ∈ ds := (List.mergeSort_perm ds _).mem_iff
theorem sortD_eq {es : List D} {ks : List Key} (ok : SortOk (ks.map kD)) (p : es.Perm (ks.map kD)) : sortD es = sortD (ks.map kD) := by
  refine List.Perm.eq_of_pairwise (le := fun a b => dataLe false encD a b = true) (fun a b ha hb h1 h2 => ?_) (sortD_pw _) (sortD_pw _) (((List.mergeSort_perm es _).trans p).trans (List.mergeSort_perm _ _).symm)
  have ha := p.mem_iff.mp (sortD_mem.mp ha)
  have hb := sortD_mem.mp hb
  have al := ok.al a ha b hb
  obtain ⟨k, _, rfl⟩ := List.mem_map.mp ha
  obtain ⟨q, _, rfl⟩ := List.mem_map.mp hb
  exact le_anti al h1 h2
def rSortG (K : Fg) (w : World) : List V → Hp → VK → Prop := fun vs H Q => ∃ (a : Addr) (ks : List Key), vs = [.ref a] ∧ H a = some (SetGO w a ks) ∧ SortOk ((dd ks).map kD) ∧ ∀ p xs, H p = none → Reps K H (sortD ((dd ks).map kD)) xs → Q (.ref p) (upd H p (.lst xs))
theorem each_keysG {w : World} {K : Fg} {F : Hp} : ∀ {l : List (Int × Value)}, (∀ e ∈ l, GoodK w e) → EachIs (StFor K F) (l.map (·.2)) ((l.map kOf).map kD)
  | [], _ => .nil
  | e :: l, h => by
    obtain ⟨k, h1, h2⟩ := h e List.mem_cons_self
    refine .cons ⟨kV k, h1, ?_⟩ (each_keysG fun e he => h e (List.mem_cons_of_mem _ he))
    have : kOf e = k := kOf_rel (h := e.1) h1
    rw [this]
    exact kD_rep k
theorem each_permG {α β : Type} {R : α → β → Prop} {us us' : List α} (p : us'.Perm us) : ∀ {ds : List β}, EachIs R us ds → ∃ es, es.Perm ds ∧ EachIs R us' es := by
  induction p with
  | nil => intro ds h; exact ⟨ds, List.Perm.refl _, h⟩
  | cons x _ ih =>
    intro ds h
    cases h with
    | cons h1 h2 =>
      obtain ⟨es, e1, e2⟩ := ih h2
      exact ⟨_ :: es, e1.cons _, .cons h1 e2⟩
  | swap x y l =>
    intro ds h
    cases h with
    | cons h1 h2 =>
      cases h2 with
      | cons h3 h4 => exact ⟨_ :: _ :: _, List.Perm.swap _ _ _, .cons h3 (.cons h1 h4)⟩
  | trans _ _ ih1 ih2 =>
    intro ds h
    obtain ⟨es, e1, e2⟩ := ih2 h
    obtain ⟨fs, f1, f2⟩ := ih1 e2
    exact ⟨fs, f1.trans e1, f2⟩
theorem cr_sortG (hc : X.calm = true) (hu : X.A.units + 65 < cLine) : CallR X (.builtin "sorted") (rSortG X.K X.w) := by
  intro pins s σ H vs us Q I r h
  obtain ⟨a, ks, rfl, ha, ok, q⟩ := h
  rw [Vals.ref1 r]
  obtain ⟨o, es, ep, t, ho, hex, hd, T⟩ := (I.hok a _ ha).1
  refine sorted_coll (C := fun es => es.Perm ((dd ks).map kD)) I (Same.refl H) (fun es e => ok.perm e) hu (fun R E hR => ?_) fun p es ys hp e rp => ?_
  · refine collect_set (A := X.A.in1) (I.ok.hd hc) ⟨o, ho, hex.1, hd⟩ T.fits T.sb T.ris T.led fun s1 vs k1 hz g1 o1 pm => ?_
    obtain ⟨fs, f1, f2⟩ := each_permG pm (each_keysG (K := X.K) (F := H) T.good)
    exact hR s1 vs fs k1 g1 o1 (f1.trans (T.perm.map kD)) f2
  · rw [sortD_eq ok e] at rp
    exact q p ys hp rp
theorem sort_kD (ks : List Key) : ∃ zs : List Key, sortD (ks.map kD) = zs.map kD ∧ zs.Perm ks := by
  have h : ∀ (l : List D) (qs : List Key), l.Perm (qs.map kD) → ∃ zs : List Key, l = zs.map kD ∧ zs.Perm qs := by
    intro l qs p
    have h1 : ∀ d ∈ l, ∃ k, d = kD k := fun d hd => by
      obtain ⟨k, _, e⟩ := List.mem_map.mp (p.mem_iff.mp hd)
      exact ⟨k, e.symm⟩
    let g : D → Key := fun d => match d with
      | .int i => Sum.inl i
      | .str x => Sum.inr x
      | _ => Sum.inl 0
    have hg : ∀ k, g (kD k) = k := fun k => by cases k <;> rfl
    refine ⟨l.map g, ?_, ?_⟩
    · rw [List.map_map]
      have : l.map (kD ∘ g) = l.map id := List.map_congr_left fun d hd => by
        obtain ⟨k, rfl⟩ := h1 d hd
        show kD (g (kD k)) = kD k
        rw [hg]
      rw [this, List.map_id]
    · have q := p.map g
      rw [List.map_map] at q
      have e : qs.map (g ∘ kD) = qs.map id := List.map_congr_left fun k _ => hg k
      rw [e, List.map_id] at q
      exact q
  exact h _ ks (List.mergeSort_perm _ _)
/-! what the mirrors say -/
def keysD : List D → Option (List Key)
  | [] => some []
  | d :: r => match keyD d, keysD r with
    | some k, some ks => some (k :: ks)
    | _, _ => none
theorem keysD_map : ∀ {ds : List D} {ks : List Key}, keysD ds = some ks → ds = ks.map kD
  | [], ks, h => by cases h; rfl
  | d :: r, ks, h => by
    simp only [keysD] at h
    cases e1 : keyD d with
    | none => simp only [e1] at h; cases h
    | some k =>
      cases e2 : keysD r with
      | none => simp only [e1, e2] at h; cases h
      | some qs =>
        simp only [e1, e2] at h
        cases h
        rw [keysD_map e2]
        cases d with
        | int i => cases e1; rfl
        | str x => cases e1; rfl
        | _ => cases e1
def seqD : D → Option (List D)
  | .lst ds => some ds
  | .tup ds => some ds
  | _ => none
def setKeys (d : D) : Option (List Key) := match seqD d with
  | some ds => match keysD ds with
    | some ks => if ks.length ≤ 4000 then some ks else none
    | none => none
  | none => none
def lenSetD (d : D) : Option D := (setKeys d).map fun ks => .int ((dd ks).length : Nat)
def sortSetF (d : D) : Option (List D) := match setKeys d with
  | some ks => if sortOk ((dd ks).map kD) then some (sortD ((dd ks).map kD)) else none
  | none => none
theorem setKeys_some {K : Fg} {F H : Hp} {v : V} {d : D} {ks : List Key} (fh : Same F H) (hv : RepR K F H v d) (h : setKeys d = some ks) : ∃ a, v = .ref a ∧ (SqL K H a (ks.map kV) ∨ SqT K H a (ks.map kV)) ∧ ks.length ≤ 4000 := by
  unfold setKeys at h
  cases d with
  | lst ds =>
    simp only [seqD] at h
    cases e : keysD ds with
    | none => simp only [e] at h; cases h
    | some qs =>
      simp only [e] at h
      obtain ⟨h1, rfl⟩ := if_some h
      obtain ⟨a, vs, rfl, g1, g2, g3⟩ := hv.lst fh
      rw [keysD_map e] at g3
      rw [kDs_inj g3] at g1
      exact ⟨a, rfl, Or.inl (Or.inl (Or.inl g1)), h1⟩
  | tup ds =>
    simp only [seqD] at h
    cases e : keysD ds with
    | none => simp only [e] at h; cases h
    | some qs =>
      simp only [e] at h
      obtain ⟨h1, rfl⟩ := if_some h
      obtain ⟨a, vs, rfl, g1, g2, g3⟩ := hv.tup
      rw [keysD_map e] at g3
      rw [kDs_inj g3] at g1
      exact ⟨a, rfl, Or.inr (same_t fh g1.sq), h1⟩
  | _ => cases h
def rLenSet (K : Fg) (w : World) : List V → Hp → VK → Prop := fun vs H Q => rSetG K w vs H fun v H1 => rLenG w [v] H1 Q
theorem prim_lenSet {K : Fg} {w : World} : PrimA K (rLenSet K w) (fA1 lenSetD) := primA1 fun F H v d e fh hv hf Q k => by
  unfold lenSetD at hf
  cases e1 : setKeys d with
  | none => rw [e1] at hf; cases hf
  | some ks =>
    rw [e1] at hf
    cases hf
    obtain ⟨a, rfl, g1, g2⟩ := setKeys_some fh hv e1
    exact ⟨a, ks, rfl, g1, g2, fun p hp => ⟨p, ks, rfl, upd_same, k F _ _ ⟨Same.refl _, fh.trans (same_upd hp), same_upd hp, fun _ _ q => Or.inl q⟩ (Rep.int_iff.mpr rfl)⟩⟩
def rSortSet (K : Fg) (w : World) : List V → Hp → VK → Prop := fun vs H Q => rSetG K w vs H fun v H1 => rSortG K w [v] H1 Q
theorem prim_sortSet {K : Fg} {w : World} : PrimNA K (rSortSet K w) (fN1 sortSetF) := primN1 fun F H v d es fh hv hf Q k => by
  unfold sortSetF at hf
  cases e1 : setKeys d with
  | none => simp only [e1] at hf; cases hf
  | some ks =>
    simp only [e1] at hf
    obtain ⟨h1, rfl⟩ := if_some hf
    obtain ⟨a, rfl, g1, g2⟩ := setKeys_some fh hv e1
    have ok := sortOk_iff.mp h1
    refine ⟨a, ks, rfl, g1, g2, fun p hp => ⟨p, ks, rfl, upd_same, ok, fun p2 xs hp2 rx => ?_⟩⟩
    have hpp : p2 ≠ p := fun z => by rw [z, upd_same] at hp2; cases hp2
    have hp0 : H p2 = none := by rw [upd_ne hpp] at hp2; exact hp2
    have e : Reps K F (sortD ((dd ks).map kD)) xs := by
      obtain ⟨zs, z1, z2⟩ := sort_kD (dd ks)
      rw [z1] at rx ⊢
      rw [kDs_inj rx]
      exact kD_reps zs
    exact k p2 _ xs hp0 ((same_upd hp).trans (same_upd hp2)) upd_same (by rw [sortD_len]; exact ok.len) e
/-- len(set(a)), sorted(set(a)) -/
theorem x_lenSet {K : Fg} {W : WX} {a : Expr} {ta : TE} {oa : M Op} {p1 p2 p3 pos : Pos} (hc : X.calm = true) (hm1 : X.mg "len" = none) (hm2 : X.mg "set" = none) (ha : XO X W a ta oa) (hg1 : Gl X "len" := by rfl) (hg2 : Gl X "set" := by rfl)
    (hs : starEach [a] X.env = (false, eval a X.env) :: starEach [] X.env := by rfl) (hK : X.K = K := by rfl) :
    XE X W (.Call (.Name "len" p1) [.Call (.Name "set" p2) [a] [] p3] [] pos) (tCB (rLenG X.w) (tCons (tCB (rSetG K X.w) (tCons ta tNil)) tNil)) (mA (fA1 lenSetD) (maCons oa maNil)) := by
  subst hK
  exact ⟨pe_callB cr_lenG hg1 hm1 boot_len (pa_cons (pe_callTy (cr_setG hc) hg2 hm2 PyProof.Rows.boot_set (pa_cons ha.p pa_nil hs) (by decide) (by decide) hs rfl) pa_nil rfl) (by decide) (by decide) rfl rfl, (show Ev X.K W (tCB (rLenSet X.K X.w) (tCons ta tNil)) _ from ev_A prim_lenSet (ea_cons ha.v ea_nil))⟩
theorem n_sortSet {K : Fg} {W : WX} {a : Expr} {ta : TE} {oa : M Op} {p1 p2 p3 pos : Pos} {k : Nat} (hr : Room k X.A) (hc : X.calm = true) (hm1 : X.mg "sorted" = none) (hm2 : X.mg "set" = none) (ha : XO X W a ta oa) (hg1 : Gl X "sorted" := by rfl) (hg2 : Gl X "set" := by rfl)
    (hs : starEach [a] X.env = (false, eval a X.env) :: starEach [] X.env := by rfl) (hK : X.K = K := by rfl) :
    XN X W (.Call (.Name "sorted" p1) [.Call (.Name "set" p2) [a] [] p3] [] pos) (tCB (rSortG K X.w) (tCons (tCB (rSetG K X.w) (tCons ta tNil)) tNil)) (mnA (fN1 sortSetF) (maCons oa maNil)) := by
  subst hK
  exact ⟨pe_callB (cr_sortG hc (room_in hr)) hg1 hm1 PyProof.Rows.boot_sorted (pa_cons (pe_callTy (cr_setG hc) hg2 hm2 PyProof.Rows.boot_set (pa_cons ha.p pa_nil hs) (by decide) (by decide) hs rfl) pa_nil rfl) (by decide) (by decide) rfl rfl, (show En1 X.K W (tCB (rSortSet X.K X.w) (tCons ta tNil)) _ from en_A prim_sortSet (ea_cons ha.v ea_nil))⟩
end
end DL

set_option Elab.async false
set_option linter.all false
set_option maxRecDepth 100000
set_option maxHeartbeats 400000
/-! DLn: more that is walked (texts, enumerate), count, turned about, unpacked. -/
namespace DL
open PySem L2
open PySem.W (EachIs AllAlike Sortable dataLe alike)
/-! ### for c in text -/
def signsD (x : Str) : List D := x.cps.toList.map fun c => .str ⟨#[c]⟩
def mTxtOf (m : M D) : M (List D) := m.bind fun d => M.lift (match d with
  | .str x => if x.cps.size ≤ 1000000 then some (signsD x) else none
  | _ => none)
section
variable {K : Fg} {W : WX}
/-- from one frozen value -/
theorem ei_1 {te : TE} {m : M D} {u : V → Hp → (It → Hp → Prop) → Prop} {f : D → Option (List D)} {b : Bool} (h : Ev K W te m)
    (hu : ∀ (C : Cn) (F H : Hp) (d : D) (v : V) (ds : List D), C.K = K → Same F H → Rep K F d v → f d = some ds → ∀ R : It → Hp → Prop, (∀ I, Walks C b F I ds → R I H) → u v H R) :
    Ei K W b (fun σ H R => te σ H fun v H1 => u v H1 R) (m.bind fun d => M.lift (f d)) := by
  intro C hK hW al F H σ δ S r hr R hok hex
  cases e : m δ with
  | none => unfold M.bind at hr; rw [e] at hr; cases hr
  | some r1 =>
    refine h C hK hW al F H σ δ S trivial r1 e _ (fun d δ1 e1 al1 F1 H1 v s1 S1 rl => ?_) fun x δ1 e1 al1 F1 H1 cls dd s1 S1 xr => ?_
    · subst e1
      rw [M.bind_ok e] at hr
      obtain ⟨ds, h2, rfl⟩ := lift_some hr
      exact hu C F1 H1 d v ds hK S1.fh rl h2 R fun I w => hok ds δ1 rfl al1 F1 H1 I s1 S1 w
    · subst e1
      rw [M.bind_ex e] at hr
      cases hr
      exact hex x δ1 rfl al1 F1 H1 cls dd s1 S1 xr
theorem ei_str {te : TE} {m : M D} (h : Ev K W te m) : Ei K W false (iStr te) (mTxtOf m) := by
  refine ei_1 (u := fun v H R => ∃ x, v = .str x ∧ R (Its x) H) h fun C F H d v ds hK fh rv hf R hR => ?_
  cases d with
  | str x =>
    obtain ⟨h1, rfl⟩ := if_some hf
    refine ⟨x, Rep.str_iff.mp rv, hR _ ⟨by unfold signsD; rw [List.length_map, Array.length_toList]; exact h1, fun F2 H2 f1 f2 _ i => ⟨fun d hd => ?_, fun hl => ?_⟩⟩⟩
    · unfold signsD at hd
      rw [List.getElem?_map, Array.getElem?_toList] at hd
      cases e : x.cps[i]? with
      | none => rw [e] at hd; cases hd
      | some c =>
        rw [e] at hd
        cases hd
        refine ⟨(Array.getElem?_eq_some_iff.mp e).1, fun y H' q => ?_⟩
        obtain ⟨rfl, c', e', rfl⟩ := q
        rw [e] at e'
        cases e'
        exact ⟨F2, New.refl f2, (Rep.str_iff (K := C.K) (F := F2)).mpr rfl⟩
    · unfold signsD at hl
      rw [List.length_map, Array.length_toList] at hl
      exact hl
  | _ => cases hf
theorem i_str {X : Cx} {tg e : Expr} {te : TE} {me : M D} (h : XE X W e te me) : XI X W false tg e (iStr te) (mTxtOf me) := ⟨pi_str h.p, ei_str h.v⟩
end
/-! ### enumerate -/
section
variable {prog : Program} {w : World} {A : Around} {E : Value → Shared → Prop} {s : Shared}
set_option maxHeartbeats 1000000 in
theorem meets_enum1 {v : Value} {o : Obj} {H : Heap → Prop} (B : Begins v o H) : Meets (Builtin.«enumerate.__new__» ⟨[.type "enumerate", v], []⟩) (fun _ R s => H s.heap ∧
      R (.ok (.ret (.ref (s.heap.push o).objs.size))) { s with heap := (s.heap.push o).push { cls := .type "enumerate", data := .fields #[.none, .bool false, .ref s.heap.objs.size, rawInt 0, .none, .none] } }) :=
  .of_wp fun prog w A R s h => by
    obtain ⟨hp, g, d, tk, os⟩ := s
    obtain ⟨h1, h⟩ := h
    have hsub := sub_enumerate
    have q1 : ∀ {A' : Around} {E : Value → Shared → Prop} {Q : Value → Shared → Prop}, Q (.ref hp.objs.size) ⟨hp.push o, g, d, tk, os⟩ → wpAny (model prog w) A' (pyIter v) Q E ⟨hp, g, d, tk, os⟩ := fun q => B.iter prog w _ _ ⟨hp, g, d, tk, os⟩ _ h1 q
    wp_walk
    refine wpAny_stack_any fun st => wpAny_pure ?_
    split
    · rename_i c _ _ _ _ _
      cases (c == Value.type "enumerate") <;> (wp_walk using q1; exact ⟨_, rfl, h⟩)
    · wp_walk using q1
      exact ⟨_, rfl, h⟩
theorem enum_call1 {v : Value} {o : Obj} {H : Heap → Prop} {Q : Value → Shared → Prop} (B : Begins v o H) (h1 : H s.heap)
    (h : ∀ h', IsEnum h' (s.heap.objs.size + 1) s.heap.objs.size 0 .none → h'.get? s.heap.objs.size = some o → (∀ b o, s.heap.get? b = some o → h'.get? b = some o) → Q (.ref (s.heap.objs.size + 1)) { s with heap := h' }) :
    wpAny (model prog w) A (call (.type "enumerate") [v]) Q E s := by
  refine callType_new F.called_enumerate (by decide) (F.typeCall_enumerate_1 _) (F.newCall_enumerate_1 _) (fun ob => F.args_object_init_2 ob _) F.entry_enumerate_new (meets_enum1 B) ⟨h1, ?_⟩
  have hz : (s.heap.push o).objs.size = s.heap.objs.size + 1 := Heap.size_push ..
  show _ ∧ _
  rw [hz]
  have he := Heap.get?_push_size (s.heap.push o) (o := { cls := .type "enumerate", data := .fields #[.none, .bool false, .ref s.heap.objs.size, rawInt 0, .none, .none] }) rfl
  rw [hz] at he
  exact ⟨⟨_, he, rfl⟩, h _ he (Heap.get?_push_of_some _ (Heap.get?_push_size _ B.free)) fun b o x => Heap.get?_push_of_some _ (Heap.get?_push_of_some _ x)⟩
end
/-- the sequence at a (t: a tuple) as it stands at each turn -/
def SqB (K : Fg) (t : Bool) (H : Hp) (a : Addr) (xs : List V) : Prop := if t then SqT K H a xs else SqL K H a xs
def IteB (K : Fg) (t : Bool) (a : Addr) : It :=
  ⟨fun i H => ∃ (xs : List V) (x : V), SqB K t H a xs ∧ xs[i]? = some x, fun i H v H' => ∃ T x, v = .ref T ∧ H T = none ∧ H' = upd H T (.tup [.int (i : Nat), x]) ∧ ∀ xs, SqB K t H a xs → xs[i]? = some x, fun i H => ∃ xs : List V, SqB K t H a xs ∧ xs.length ≤ i⟩
theorem turn_enumT {P : Program} {w : World} {K : Fg} {elts : List Expr} {kk : Nat} {tpos : Pos} (a e it : Addr) (hei : e ≠ it) (hea : e ≠ a) (hai : a ≠ it) :
    Turn P w K (.Tuple elts kk tpos) (IteB K true a) [e, it] e (fun i h => (∃ old, IsEnum h e it ((i : Nat) : Int) old) ∧ h.IsTupleIter it a i) where
  mem := by simp
  obj := fun i h st b hb => by
    obtain ⟨⟨old, he⟩, ⟨o, ho, hc, hd⟩⟩ := st
    rcases (show b = e ∨ b = it by simpa using hb) with z | z
    · rw [z]; exact ⟨_, he, fun v q => nomatch q⟩
    · rw [z]; exact ⟨o, ho, fun v q => by rw [hd] at q; cases q⟩
  keep := fun i h h' st k => let ⟨⟨old, he⟩, hi⟩ := st; ⟨⟨old, k e (by simp) _ he⟩, hi.at fun o q => k it (by simp) o q⟩
  item := by
    intro X hP hw hK hc i pins s σ H E I hf st hg
    subst hP hw hK
    obtain ⟨⟨old, he⟩, hit⟩ := st
    obtain ⟨xs, x, hq, hx⟩ := hg
    have hq : SqT X.K H a xs := hq
    obtain ⟨its, rv, p, hz⟩ := I.tuple hq
    obtain ⟨u, hu, ru⟩ := rv.get hx
    have hel : e < s.heap.objs.size := Heap.lt_size he
    have hil : it < s.heap.objs.size := by obtain ⟨_, q, _⟩ := hit; exact Heap.lt_size q
    have hlt : i < its.toArray.size := by rw [List.size_toArray]; exact (List.getElem?_eq_some_iff.mp hu).1
    refine wpAny_pyNext_enum_itemD (Draws.tuple (A := X.A.in1) (I.ok.hd hc) it a hai its.toArray) he ⟨hit, p⟩ hlt hei (by simp [hei, hea]) fun y h' tk hy ho st' hT hsz hk => ?_
    have hy : its.toArray[i]? = some y := hy
    have eu : u = y := by
      have : its[i]? = some y := by simpa using hy
      rw [hu] at this
      exact Option.some.inj this
    subst eu
    refine ⟨_, rfl, wpAny_letOwnedTupleGo_enum (s := { s with heap := h', toks := tk + 1 }) ho fun h2 he2 sb => ?_⟩
    have hT2 := (sb.2 _ (Nat.ne_of_gt hel)).trans hT
    have new : ObjOk X.prog X.w (upd H s.heap.objs.size (.tup [.int (i : Nat), x])) h2 s.heap.objs.size (.tup [.int (i : Nat), x]) := ⟨by show 2 ≤ sizeLine; decide, [.int i tk, u], .cons ⟨_, rfl⟩ (.cons ru .nil), ⟨_, hT2, rfl, _, rfl⟩⟩
    have I1 : Inv X pins σ (upd H s.heap.objs.size (.tup [.int (i : Nat), x])) { s with heap := h2, toks := tk + 1 } :=
      I.turnedNew (ch := [e, it]) (fun b ob hb q => (sb.2 b (fun z => hb (by simp [z]))).trans (hk b ob (fun z => hb (by simp [z])) (fun z => hb (by simp [z])) q)) hf (Nat.le_refl _) new
    refine ⟨.ref s.heap.objs.size, _, I1, rfl, ⟨_, x, rfl, I.hok.fresh (Nat.le_refl _), rfl, fun ys hy => by rw [I.tuple_inj hy hq]; exact hx⟩, ⟨⟨u, ?_⟩, st'.1.at fun o q => (sb.2 it (Ne.symm hei)).trans q⟩, fun b hb => ?_⟩
    · have e1 : ((i + 1 : Nat) : Int) = (i : Int) + 1 := by omega
      rw [e1]
      exact he2
    · have hb' : b < s.heap.objs.size := by
        rcases (show b = e ∨ b = it by simpa using hb) with z | z
        · rw [z]; exact hel
        · rw [z]; exact hil
      rw [upd_ne (Nat.ne_of_lt hb')]
      exact (hf b hb).1
  done := by
    intro X hP hw hK hc i pins s σ H E I hf st hg
    subst hP hw hK
    obtain ⟨⟨old, he⟩, hit⟩ := st
    obtain ⟨xs, hq, hx⟩ := hg
    have hq : SqT X.K H a xs := hq
    obtain ⟨its, rv, p, hz⟩ := I.tuple hq
    obtain ⟨f0, f1, f2, f3, f4, f5⟩ := hf it (by simp)
    have hl := rv.length
    have hT : s.TypeIs (.ref e) "enumerate" := ⟨_, he, rfl⟩
    unfold pyNext
    refine wpAny_bind (wpAny_attempt (wpAny_callSpecial?_slot (name := Str.ofString "__next__") hT F.slot_enumerate_next (wpAny_call_entry F.slot_enumerate_next hT F.entry_enumerate_next ?_ (F.args_enumerate_next_1 _))))
    show wpAny _ _ (field (.ref e) 2 >>= _) _ _ _
    refine wpAny_bind (wpAny_field he rfl (x := .ref it) rfl ?_)
    refine wpAny_bind (wpAny_nextOf_tuple_end (I.ok.hd hc) hit p (by simp; omega) fun h' y eb hx' => ?_)
    obtain ⟨o, ho, hcl⟩ := hx'
    refine wpAny_bind (wpAny_isInstance (T := "StopIteration") (b := true) ⟨o, ho, hcl⟩ isSubtype_stop ?_)
    exact wpAny_pure ⟨rfl, I.turned (t' := s.toks) (fun b o hb q => eb b o hb q) f0 f1 f3 f4 f5⟩
  self := fun A i s Q E st h => let ⟨⟨_, he⟩, _⟩ := st; wpAny_pyIter_enum he h
def iEnumB (K : Fg) (ta : TA) : TI := fun σ H R => ta σ H fun vs H1 => ∃ a xs, vs = [.ref a] ∧ ((SqL K H1 a xs ∧ R (Ite K a) H1) ∨ (SqT K H1 a xs ∧ R (IteB K true a) H1))
theorem pi_enumB {X : Cx} {e : Expr} {ta : TA} {p pos tpos : Pos} {elts : List Expr} {kk : Nat} (hg : Gl X "enumerate") (hm : X.mg "enumerate" = none) (ha : PA X [e] ta) (hs : starEach [e] X.env = [(false, eval e X.env)] := by rfl) :
    PI X (.Tuple elts kk tpos) (.Call (.Name "enumerate" p) [e] [] pos) (iEnumB X.K ta) := by
  refine ⟨fun pins s σ H R I h => ?_⟩
  refine PyProof.Rows.Call_ (ld_blt I hg hm PyProof.Rows.boot_enumerate (PyProof.Rows.callWith_type1 (thn (ha.run pos pins s σ H _ I h) fun us s1 ⟨vs, H1, I1, r1, q1⟩ => ?_) hs rfl))
  · obtain ⟨a, xs, rfl, q⟩ := q1
    rw [Vals.ref1 r1]
    have fpk : ∀ b ∈ [s1.heap.objs.size + 1, s1.heap.objs.size], FpOk X pins H1 b := fun b hb => by
      have hle : s1.heap.objs.size ≤ b := by
        rcases (show b = s1.heap.objs.size + 1 ∨ b = s1.heap.objs.size by simpa using hb) with z | z
        · rw [z]; exact Nat.le_add_right _ _
        · rw [z]; exact Nat.le_refl _
      exact I1.fpOk hle (I1.hok.fresh hle)
    rcases q with ⟨hq, q⟩ | ⟨hq, q⟩
    · obtain ⟨its, rv, p', hz⟩ := I1.list hq
      refine enum_call1 (begins_list a its.toArray) p'.isList fun h' he hit hk => wpAny_pyIter_enum he ?_
      exact ⟨s1.heap.objs.size + 1, _, _, _, H1, rfl, I1.kept (t' := s1.toks) hk, turn_enum a (s1.heap.objs.size + 1) s1.heap.objs.size, ⟨⟨.none, he⟩, ⟨_, hit, rfl, rfl⟩, Nat.succ_ne_self _⟩, fpk, q⟩
    · obtain ⟨its, rv, p', hz⟩ := I1.tuple hq
      have hlt : a < s1.heap.objs.size := by obtain ⟨o, ho, _⟩ := p'; exact Heap.lt_size ho
      refine enum_call1 (begins_tuple a its.toArray) p' fun h' he hit hk => wpAny_pyIter_enum he ?_
      exact ⟨s1.heap.objs.size + 1, _, _, _, H1, rfl, I1.kept (t' := s1.toks) hk, turn_enumT a (s1.heap.objs.size + 1) s1.heap.objs.size (Nat.succ_ne_self _) (Nat.ne_of_gt (Nat.lt_succ_of_lt hlt)) (Nat.ne_of_lt hlt), ⟨⟨.none, he⟩, ⟨_, hit, rfl, rfl⟩⟩, fpk, q⟩
def enumD (ds : List D) : List D := ds.zipIdx.map fun p => .tup [.int (p.2 : Nat), p.1]
def enumF : List D → Option (List D)
  | [.lst ds] => some (enumD ds)
  | [.tup ds] => some (enumD ds)
  | _ => none
theorem enumD_get {ds : List D} {i : Nat} {d : D} (h : (enumD ds)[i]? = some d) : ∃ e, ds[i]? = some e ∧ d = .tup [.int (i : Nat), e] := by
  unfold enumD at h
  rw [List.getElem?_map, List.getElem?_zipIdx] at h
  cases e : ds[i]? with
  | none => rw [e] at h; cases h
  | some x =>
    rw [e] at h
    refine ⟨x, rfl, ?_⟩
    have := Option.some.inj h
    rw [← this, Nat.zero_add]
theorem enumD_len (ds : List D) : (enumD ds).length = ds.length := by unfold enumD; rw [List.length_map, List.length_zipIdx]
theorem new_pair {K : Fg} {F H : Hp} {T : Addr} {i : Nat} {x : V} {e : D} (fh : Same F H) (hT : H T = none) (rx : Rep K F e x) : ∃ F', New F H F' (upd H T (.tup [.int (i : Nat), x])) ∧ Rq K true F' (.tup [.int (i : Nat), e]) (.ref T) := by
  refine ⟨upd F T (.tup [.int (i : Nat), x]), New.lay fh hT, T, [.int (i : Nat), x], rfl, Or.inl (Or.inl upd_same), reps_cons (Rep.int_iff.mpr rfl) (reps_cons (rx.mono (same_upd (fh.free hT))) reps_nil)⟩
section
variable {K : Fg} {W : WX}
theorem ei_enum {ta : TA} {m : M (List D)} (h : Eds K W ta m) : Ei K W true (iEnumB K ta) (mIt enumF m) := by
  refine ei_args (u := fun vs H R => ∃ a xs, vs = [.ref a] ∧ ((SqL K H a xs ∧ R (Ite K a) H) ∨ (SqT K H a xs ∧ R (IteB K true a) H))) h fun C F H as vs ds hK fh rs hf R hR => ?_
  match as, hf with
  | [.lst es], hf =>
    cases hf
    obtain ⟨v, us, rfl, r1, r2⟩ := rs.inv
    cases r2.inv0
    obtain ⟨a, ws, rfl, g1, g2, g3⟩ := Rep.lst_iff.mp r1
    refine ⟨a, ws, rfl, Or.inl ⟨Or.inl (Or.inl (fh _ _ g1)), hR _ ⟨by rw [enumD_len]; exact g2, fun F2 H2 f1 f2 _ i => ⟨fun d hd => ?_, fun hl => ?_⟩⟩⟩⟩
    · obtain ⟨e, he, rfl⟩ := enumD_get hd
      obtain ⟨u, hu, ru⟩ := g3.get he
      have ha : SqL K H2 a ws := Or.inl (Or.inl (f2 _ _ (f1 _ _ g1)))
      refine ⟨⟨ws, u, ha, hu⟩, fun x H' y => ?_⟩
      obtain ⟨T, x', rfl, hT, rfl, y⟩ := y
      have q := y ws ha
      rw [hu] at q
      cases q
      rw [hK]
      exact new_pair f2 hT (ru.mono f1)
    · rw [enumD_len] at hl
      exact ⟨ws, Or.inl (Or.inl (f2 _ _ (f1 _ _ g1))), by rw [g3.len]; exact hl⟩
  | [.tup es], hf =>
    cases hf
    obtain ⟨v, us, rfl, r1, r2⟩ := rs.inv
    cases r2.inv0
    obtain ⟨a, ws, rfl, g1, g2, g3⟩ := Rep.tup_iff.mp r1
    refine ⟨a, ws, rfl, Or.inr ⟨same_t fh g1.sq, hR _ ⟨by rw [enumD_len]; exact g2, fun F2 H2 f1 f2 _ i => ⟨fun d hd => ?_, fun hl => ?_⟩⟩⟩⟩
    · obtain ⟨e, he, rfl⟩ := enumD_get hd
      obtain ⟨u, hu, ru⟩ := g3.get he
      have ha : SqT K H2 a ws := same_t f2 (same_t f1 g1.sq)
      refine ⟨⟨ws, u, ha, hu⟩, fun x H' y => ?_⟩
      obtain ⟨T, x', rfl, hT, rfl, y⟩ := y
      have q := y ws ha
      rw [hu] at q
      cases q
      rw [hK]
      exact new_pair f2 hT (ru.mono f1)
    · rw [enumD_len] at hl
      exact ⟨ws, same_t f2 (same_t f1 g1.sq), by rw [g3.len]; exact hl⟩
theorem i_enum {K : Fg} {X : Cx} {e : Expr} {elts : List Expr} {kk : Nat} {t : TA} {m : M (List D)} {p2 pos tpos : Pos} (hm : X.mg "enumerate" = none) (h : XD X W [e] t m) (hg : Gl X "enumerate" := by rfl) (hs : starEach [e] X.env = [(false, eval e X.env)] := by rfl) (hK : X.K = K := by rfl) :
    XI X W true (.Tuple elts kk tpos) (.Call (.Name "enumerate" p2) [e] [] pos) (iEnumB K t) (mIt enumF m) := by
  subst hK
  exact ⟨pi_enumB hg hm h.p hs, ei_enum h.v⟩
end
end DL

set_option Elab.async false
set_option linter.all false
set_option maxRecDepth 100000
set_option maxHeartbeats 400000
/-! DLo: x.count(y), x[::-1], a, b = list, the script cut. -/
namespace DL
open PySem L2
mutual
theorem toPy_plain : ∀ {d : D} {p : PyData}, toPy d = some p → p.plain = true
  | .non, p, e => by cases e; rfl
  | .bl b, p, e => by cases e; rfl
  | .int i, p, e => by cases e; rfl
  | .str x, p, e => by cases e; rfl
  | .tup ds, p, e => by
    simp only [toPy] at e
    cases q : toPys ds with
    | none => rw [q] at e; cases e
    | some ps => rw [q] at e; cases e; simpa only [PyData.plain] using toPys_plain q
  | .lst ds, p, e => by
    simp only [toPy] at e
    cases q : toPys ds with
    | none => rw [q] at e; cases e
    | some ps => rw [q] at e; cases e; simpa only [PyData.plain] using toPys_plain q
  | .ins _ _ _, p, e => by cases e
  | .dk _ _, p, e => by cases e
theorem toPys_plain : ∀ {ds : List D} {ps : List PyData}, toPys ds = some ps → PyData.plainAll ps = true
  | [], ps, e => by cases e; rfl
  | d :: ds, ps, e => by
    simp only [toPys] at e
    cases q1 : toPy d with
    | none => simp only [q1] at e; cases e
    | some p =>
      cases q2 : toPys ds with
      | none => simp only [q1, q2] at e; cases e
      | some qs => simp only [q1, q2] at e; cases e; simp only [PyData.plainAll, toPy_plain q1, toPys_plain q2, Bool.and_self]
end
/-! ### count -/
def kindT (K : Fg) (b : Bool) (x : V) (H : Hp) : Prop := ∃ a vs, x = .ref a ∧ if b then TupR K H a vs else SqL K H a vs
def cntR (K : Fg) (b : Bool) (x : V) (ys : List V) (H : Hp) (Q : VK) : Prop := ∃ y d ds, ys = [y] ∧ Dp K H x (if b then .tuple ds else .list ds) ∧ Dp K H y d ∧ PyData.plainAll ds = true ∧ d.plain = true ∧ d.depth ≤ 60 ∧ Q (.int ((ds.countP fun z => PyData.eqv z d : Nat) : Int)) H
def tCnt (K : Fg) (to : TE) (t : TA) : TE := fun σ H Q => to σ H fun x H1 => ∃ b, kindT K b x H1 ∧ t σ H1 fun ys H2 => cntR K b x ys H2 Q
section
variable {X : Cx} {o e : Expr} {to : TE} {t : TA} {apos cpos : Pos}
theorem kind_is {pins : List (Addr × Obj)} {σ : St} {H : Hp} {s : Shared} {b : Bool} {x : V} {v : Value} (I : Inv X pins σ H s) (r : RelV x v) (k : kindT X.K b x H) : s.TypeIs v (if b then "tuple" else "list") ∧ ∀ a, v = .ref a → ∃ o, s.heap.get? a = some o ∧ o.dict = none := by
  obtain ⟨a, vs, rfl, k⟩ := k
  cases r
  cases b with
  | true =>
    rcases (show TupR X.K H a vs from k) with ⟨o, hd, h⟩ | ⟨o, its, n, h1, hd, hc, h4, h5, h6⟩
    · obtain ⟨e, _, _, _, ⟨o2, e2, hc, _⟩⟩ := I.hok a _ h
      have e2' := e2
      rw [e] at e2'
      cases e2'
      exact ⟨⟨o, e, hc⟩, fun a' e' => by cases e'; exact ⟨o, e, hd⟩⟩
    · have e := I.kIn a o h1
      exact ⟨⟨o, e, hc⟩, fun a' e' => by cases e'; exact ⟨o, e, hd⟩⟩
  | false =>
    obtain ⟨its, rv, pl, hz⟩ := I.list (show SqL X.K H a vs from k)
    obtain ⟨o, n, e, hc, hd, _⟩ := pl
    exact ⟨⟨o, e, hc⟩, fun a' e' => by cases e'; exact ⟨o, e, hd⟩⟩
theorem mt_cnt (hu : X.A.units + 65 < cLine) (b : Bool) : MtR X (if b then "tuple.count" else "list.count") (cntR X.K b) := by
  intro pins s σ H x xs v us Q I rx rxs h
  obtain ⟨y, d, ds, rfl, hx, hy, hp, hpd, hdp, q⟩ := h
  cases rxs with
  | cons ry rt =>
    rename_i uy ut
    cases rt
    obtain ⟨bs, r1⟩ := Dp.reads I d y uy hy ry
    have room : X.A.units + 1 + min (PyData.depthAll ds) d.depth < cLine := by have := Nat.min_le_right (PyData.depthAll ds) d.depth; omega
    cases b with
    | true =>
      have hx : Dp X.K H x (.tuple ds) := hx
      cases hx with
      | tup hs ha =>
        cases rx
        obtain ⟨its, rv, pl, hz⟩ := I.tuple hs
        obtain ⟨as, r2⟩ := Dp.readsAll I ds _ its ha rv
        exact SeqAt.count_tuple_data pl (show ReadsAll s.heap its.toArray.toList ds as from r2) r1 hp hpd room ⟨.int _, H, I.tok _, ⟨_, rfl⟩, q⟩
    | false =>
      have hx : Dp X.K H x (.list ds) := hx
      cases hx with
      | lst hs ha =>
        cases rx
        obtain ⟨its, rv, pl, hz⟩ := I.list hs
        obtain ⟨as, r2⟩ := Dp.readsAll I ds _ its ha rv
        exact SeqAt.count_list_data pl.isList (show ReadsAll s.heap its.toArray.toList ds as from r2) r1 hp hpd room ⟨.int _, H, I.tok _, ⟨_, rfl⟩, q⟩
theorem pe_cnt (hu : X.A.units + 65 < cLine) (ho : PE X o to) (ha : PA X [e] t) (hbase : attributeBase o "count" X.env (eval o X.env) = eval o X.env := by rfl)
    (hfew : ((backTo cpos (starEach [e] X.env)).all (fun x => !x.1) && (backToKw cpos (keywordEach [] X.env)).all (fun x => x.1.isSome) && decide ([e].length + ([] : List Keyword).length + (if ([] : List Keyword).isEmpty then 0 else 1) < 30)) = true := by rfl)
    (hline : (apos.endLine == cpos.line) = true := by rfl) (hs : starEach [e] X.env = (false, eval e X.env) :: starEach [] X.env := by rfl) (hpl : (backTo cpos (starEach [] X.env)).any (·.1) = false := by rfl) :
    PE X (.Call (.Attribute o "count" apos) [e] [] cpos) (tCnt X.K to t) := by
  refine ⟨fun pins s σ H Q I h => ?_⟩
  refine wpAny_Call_method_late hbase hfew hline rfl (thn (ho.run pins s σ H _ I h) fun v s1 ⟨x, H1, I1, r1, b, ty, q1⟩ => ?_)
  obtain ⟨h1, h2⟩ := kind_is I1 r1 ty
  have fin : ∀ id, (if b then "tuple.count" else "list.count") = id → wpAny (model X.prog X.w) X.A (callWith cpos (.builtin id) [v] (backTo cpos (starEach [e] X.env)) []) (EP X pins σ Q) X.xe s1 := fun id eid => by
    have hA := ha.run cpos pins s1 σ H1 _ I1 q1
    rw [hs] at hA ⊢
    refine Calls.callWith_builtin (by show (false || (backTo cpos (starEach [] X.env)).any (·.1)) = false; rw [hpl] <;> rfl) (Calls.evalArgs_plain ?_)
    refine thn hA fun us s2 ⟨vs, H2, I2, r2, q2⟩ => ?_
    rw [← eid]
    exact mt_cnt hu b pins s2 σ H2 x vs v us Q I2 r1 r2 q2
  cases b with
  | true => exact ⟨"tuple", "tuple.count", PySem.F.plainAttrs_tuple, PySem.F.slot_tuple_count, PySem.F.type_tuple_count, h1, h2, fin _ rfl⟩
  | false => exact ⟨"list", "list.count", PySem.F.plainAttrs_list, PySem.F.slot_list_count, PySem.F.type_list_count, h1, h2, fin _ rfl⟩
def kindD : D → Option Bool
  | .lst _ => some false
  | .tup _ => some true
  | _ => none
def cntD (d e : D) : Option D := match seqD d, toPy e with
  | some ds, some p => match toPys ds with
    | some ps => if p.depth ≤ 60 then some (.int ((ps.countP fun z => PyData.eqv z p : Nat) : Int)) else none
    | none => none
  | _, _ => none
def mCount (a b : M Op) : M D := a.bind fun o => (mRd o).bind fun d0 => match kindD d0 with
  | none => fun _ => none
  | some k => b.bind fun q => (mRd o).bind fun d => (mRd q).bind fun e => M.lift (if kindD d = some k then cntD d e else none)
theorem ev_cnt {K : Fg} {W : WX} {ta tb : TE} {a b : M Op} (ha : Eo K W ta a) (hb : Eo K W tb b) : Ev K W (tCnt K ta (tCons tb tNil)) (mCount a b) := by
  refine J.bind (t2 := fun x σ H Q => ∃ k, kindT K k x H ∧ tb σ H fun y H2 => cntR K k x [y] H2 Q) ha monoT fun o v => ?_
  intro C hK hW al F H σ δ S hp r hr Q hok hex
  subst hK
  obtain ⟨d0, h1, hr⟩ := rd_bind hr
  have r0 := S.opd hp.2 h1
  cases hk : kindD d0 with
  | none => simp only [hk] at hr; cases hr
  | some k =>
    simp only [hk] at hr
    refine ⟨k, ?_, ?_⟩
    · cases d0 with
      | lst ds =>
        cases hk
        obtain ⟨a, vs, rfl, g1, _⟩ := r0.lst S.fh
        exact ⟨a, vs, rfl, Or.inl (Or.inl g1)⟩
      | tup ds =>
        cases hk
        obtain ⟨a, vs, rfl, g1, _⟩ := r0.tup
        exact ⟨a, vs, rfl, g1.mono S.fh⟩
      | _ => cases hk
    · refine (J.bind (rel2 := relD C.K) (t2 := fun y _ H2 Q => cntR C.K k v [y] H2 Q) (hb.wk (q := fun F σ => relO C.K F σ v o) fun _ _ _ => trivial) (monoO.at) fun q w => ?_) C rfl hW al F H σ δ S hp.2 r hr Q hok hex
      intro C2 hK2 hW2 al2 F2 H2 σ2 δ2 S2 hp2 r2 hr2 Q2 hok2 hex2
      obtain ⟨d, h3, hr2⟩ := rd_bind hr2
      obtain ⟨e, h4, hr2⟩ := rd_bind hr2
      obtain ⟨z, h5, rfl⟩ := lift_some hr2
      obtain ⟨h6, h7⟩ : kindD d = some k ∧ cntD d e = some z := by
        by_cases c : kindD d = some k
        · rw [if_pos c] at h5; exact ⟨c, h5⟩
        · rw [if_neg c] at h5; cases h5
      rw [← hK2] at hp2 ⊢
      have ra := (S2.opd hp2.1 h3).full S2.fh
      have rb := (S2.opd hp2.2 h4).full S2.fh
      unfold cntD at h7
      cases e1 : seqD d with
      | none => simp only [e1] at h7; cases h7
      | some ds =>
        cases e2 : toPy e with
        | none => simp only [e1, e2] at h7; cases h7
        | some p =>
          simp only [e1, e2] at h7
          cases e3 : toPys ds with
          | none => simp only [e3] at h7; cases h7
          | some ps =>
            simp only [e3] at h7
            obtain ⟨h8, rfl⟩ := if_some h7
            refine ⟨w, p, ps, rfl, toPy_dp ra ?_, toPy_dp rb e2, toPys_plain e3, toPy_plain e2, h8, hok2 _ δ2 rfl al2 F2 H2 _ (Same.refl _) S2 (hK2 ▸ Rep.int_iff.mpr rfl)⟩
            cases d with
            | lst es => cases e1; cases h6; simp only [toPy, e3]; rfl
            | tup es => cases e1; cases h6; simp only [toPy, e3]; rfl
            | _ => cases e1
theorem x_cnt {K : Fg} {W : WX} {ta tb : TE} {oa ob : M Op} {k : Nat} (hr : Room k X.A) (ha : XO X W o ta oa) (hb : XO X W e tb ob) (hbase : attributeBase o "count" X.env (eval o X.env) = eval o X.env := by rfl)
    (hfew : ((backTo cpos (starEach [e] X.env)).all (fun x => !x.1) && (backToKw cpos (keywordEach [] X.env)).all (fun x => x.1.isSome) && decide ([e].length + ([] : List Keyword).length + (if ([] : List Keyword).isEmpty then 0 else 1) < 30)) = true := by rfl)
    (hline : (apos.endLine == cpos.line) = true := by rfl) (hs : starEach [e] X.env = (false, eval e X.env) :: starEach [] X.env := by rfl) (hpl : (backTo cpos (starEach [] X.env)).any (·.1) = false := by rfl) (hK : X.K = K := by rfl) :
    XE X W (.Call (.Attribute o "count" apos) [e] [] cpos) (tCnt K ta (tCons tb tNil)) (mCount oa ob) := by
  subst hK
  exact ⟨pe_cnt (room_in hr) ha.p (pa_cons hb.p pa_nil hs) hbase hfew hline hs hpl, ev_cnt ha.v hb.v⟩
end
/-! ### x[::-1] of a list -/
def revLD : D → Option (List D)
  | .lst ds => some ds.reverse
  | _ => none
section
variable {K : Fg} {W : WX} {X : Cx}
theorem primN_rev : PrimN1 K (fun x H Q => ∃ a xs, x = .ref a ∧ SqL K H a xs ∧ ∀ p, H p = none → Q (.ref p) (upd H p (.lst xs.reverse))) revLD := by
  intro F H v d ds fh hv hf Q k
  cases d with
  | lst es =>
    cases hf
    obtain ⟨a, vs, rfl, g1, g2, g3⟩ := hv.lst fh
    exact ⟨a, vs, rfl, Or.inl (Or.inl g1), fun p hp => k p _ _ hp (same_upd hp) upd_same (by rw [List.length_reverse]; exact g2) g3.rev⟩
  | _ => cases hf
theorem n_rev {K : Fg} {a : Expr} {ta : TE} {oa : M Op} {k : Nat} {p1 p2 p3 pos : Pos} (ha : XO X W a ta oa) (hK : X.K = K := by rfl) : XN X W (.Subscript a (.Slice none none (some (.UnaryOp .USub (.Constant (.int 1) k p1) p2)) p3) pos) (tRevL K ta) (mn1 revLD oa) := by
  subst hK
  exact ⟨pe_revL ha.p, en_1 (ta := ta) (r := fun x H Q => ∃ a xs, x = .ref a ∧ SqL X.K H a xs ∧ ∀ p, H p = none → Q (.ref p) (upd H p (.lst xs.reverse))) primN_rev ha.v⟩
/-! ### a, b = list -/
def gTL (m : List D → En → Option En) : Mg := fun d δ => match d with
  | .lst ds => m ds δ
  | _ => none
theorem eg_unl {u : TGs} {b : List D → En → Option En} {n : Nat} (hb : Egs K u b) (h : GsN b n) : Eg K false (gUnl K n u) (gTL b) := fun C hK al F H σ δ S d v δ' hr e Q k => by
  cases d with
  | lst ds =>
    obtain ⟨a, vs, rfl, h1, h2, h3⟩ := Rep.lst_iff.mp hr
    have e' : b ds δ = some δ' := e
    exact ⟨a, vs, rfl, Or.inl (Or.inl (S.fh _ _ h1)), by rw [h3.len]; exact h ds δ δ' e', hb C hK al F H σ δ S ds vs δ' h3 e' Q k⟩
  | _ => cases e
theorem s_unl {K : Fg} {e : Expr} {es : List Expr} {te : TE} {me : M D} {t : TGs} {b : List D → En → Option En} {n k : Nat} {vs : List Nat} {tpos pos : Pos} (hc : X.calm = true) (he : XE X W e te me) (h : XGs X es t b n vs) (hn : (assignEach es X.env).length = n := by rfl) (hst : (assignEach es X.env).findIdx? (·.1) = none := by rfl)
    (hs : swapsWithSole [.Tuple es k tpos] e pos.line X.env = pure false := by rfl) (hw : swappedStores [.Tuple es k tpos] e X.env = pure none := by rfl) (h1 : (assignEach [.Tuple es k tpos] X.env).map (·.2) = [assign (.Tuple es k tpos) X.env] := by rfl) (hK : X.K = K := by rfl) :
    XS X W (.Assign [.Tuple es k tpos] e pos) (tAsg te (gUnl K n t)) (mAsg (gTL b) me) := by
  subst hK
  exact ⟨ps_asg he.p (pg_unl hc h.p hn hst) hs hw h1, es_asg he.v (eg_unl h.v h.l)⟩
/-! ### the script, cut -/
def mScSl (i : Nat) (lo hi : Option Int) : M D := fun δ => match δ[i]? with
  | some (.sc ns) => if ns.length ≤ 1000000 then some (.ok (.lst (cutD (ns.map D.int) lo hi)) δ) else none
  | _ => none
/-- a bound told by the text -/
def CP (t : TO) (o : Option Int) : Prop := ∀ (σ : St) (H : Hp) (Q : Option Int → Hp → Prop), Q o H → t σ H Q
theorem cp_none : CP tNoPart none := fun σ H Q h => h
theorem cp_int {i : Int} : CP (tPart (tC (.int i))) (some i) := fun σ H Q h => ⟨i, rfl, h⟩
theorem ints_reps {F : Hp} : ∀ (ns : List Int), Reps K F (ns.map D.int) (ns.map V.int)
  | [] => reps_nil
  | n :: r => reps_cons (Rep.int_iff.mpr rfl) (ints_reps r)
theorem sql_up {F F' : Hp} (e : Same F F') {a : Addr} {xs : List V} (h : SqL K F a xs) : SqL K F' a xs := by
  rcases h with h | h
  · exact Or.inl (same_rd e h)
  · exact Or.inr h
theorem ev_scSl {i : Nat} {tl th : TO} {lo hi : Option Int} (hl : CP tl lo) (hu : CP th hi) : Ev K W (tSl (rSlAny K) (tVar i) tl th) (mScSl i lo hi) := by
  intro C hK hW al F H σ δ S hp r hr Q hok hex
  unfold mScSl at hr
  cases e : δ[i]? with
  | none => simp only [e] at hr; cases hr
  | some s =>
    cases s with
    | sc ns =>
      simp only [e] at hr
      by_cases hn : ns.length ≤ 1000000
      · rw [if_pos hn] at hr
        cases hr
        subst hK
        obtain ⟨a, h1, h2⟩ := S.sc i ns e
        refine ⟨.ref a, h1, hl _ _ _ (hu _ _ _ (Or.inl ⟨a, ns.map V.int, rfl, sql_up (S.bp.trans S.ph) h2, fun p hp => ?_⟩))⟩
        have n : New F H (upd F p (.lst (cutV (ns.map V.int) lo hi))) (upd H p (.lst (cutV (ns.map V.int) lo hi))) := New.lay S.fh hp
        exact hok _ δ rfl al _ _ _ n.ff (S.new n) (Rep.lst_iff.mpr ⟨p, _, rfl, upd_same, Nat.le_trans cutD_len (by rw [List.length_map]; exact hn), (cutD_reps (ints_reps ns)).mono n.ff⟩)
      · rw [if_neg hn] at hr; cases hr
    | _ => simp only [e] at hr; cases hr
theorem x_scSl {K : Fg} {i : Nat} {a : Expr} {lo hi : Option Expr} {tl th : TO} {ol oh : Option Int} {p2 pos : Pos} (ha : PE X a (tVar i)) (pl : PO X lo tl) (ph : PO X hi th) (hl : CP tl ol) (hu : CP th oh) (hK : X.K = K := by rfl) : XE X W (.Subscript a (.Slice lo hi none p2) pos) (tSl (rSlAny K) (tVar i) tl th) (mScSl i ol oh) := by
  subst hK
  exact ⟨pe_slice sl_any ha pl ph, ev_scSl hl hu⟩
end
end DL

set_option Elab.async false
set_option linter.all false
set_option maxRecDepth 100000
set_option maxHeartbeats 400000
/-! DLp: defs of the top by what they promise; the law's own end. -/
namespace DL
open PySem L2
/-- a def of the top as it was written -/
structure DefK (K : Fg) (x : Str) (st : Stmt) : Prop where
  ex : ∃ f fd, PySem.W.nsIn K mainGlobals x = some (some (.ref f)) ∧ Fun K x x st f fd ∧ PySem.W.keepIn K (.ref f) = true ∧ ∃ kV dc pm an cd ct, fd = PySem.W.fnOf x x (defArgs st) (defBody st) (defScope st) .none kV dc pm an cd ct
theorem defK_mk {K : Fg} {x : Str} {st : Stmt} {f : Addr} {od an : Option Addr} {sl : Array (Option Value)} {oc kV dc pm cd ct : Value} (a : PySem.W.nsIn K mainGlobals x = some (some (.ref f)))
    (l : K.lookup f = some ⟨oc, od, .func (PySem.W.fnOf x x (defArgs st) (defBody st) (defScope st) .none kV dc pm an cd ct), sl⟩) (c : PySem.W.codeIn K cd x = true) (k : PySem.W.keepIn K (.ref f) = true) : DefK K x st := ⟨f, _, a, fun_mk l c k, k, _, _, _, _, _, _, rfl⟩
/-- a constant of the top -/
theorem globI_mk {K : Fg} {x : Str} {v : Value} {i : Int} {t : Tok} (y : PySem.W.nsIn K mainGlobals x = some (some v)) (z : v = .int i t) : ∃ v : Value, PySem.W.nsIn K mainGlobals x = some (some v) ∧ ∃ t, v = .int i t := ⟨v, y, t, z⟩
theorem globS_mk {K : Fg} {x : Str} {v : Value} {i : Str} {t : Tok} (y : PySem.W.nsIn K mainGlobals x = some (some v)) (z : v = .str i t) : ∃ v : Value, PySem.W.nsIn K mainGlobals x = some (some v) ∧ ∃ t, v = .str i t := ⟨v, y, t, z⟩
/-- a method of a class -/
structure MetK (K : Fg) (C : Addr) (x qual : Str) (st : Stmt) (f : Addr) : Prop where
  ex : ∃ fd, PySem.W.findIn K (.ref C) x = some (some (.ref f)) ∧ PySem.W.isFn K (.ref f) = true ∧ Fun K x qual st f fd ∧ PySem.W.keepIn K (.ref f) = true
theorem metK_mk {K : Fg} {C : Addr} {x qual : Str} {st : Stmt} {f : Addr} {od an : Option Addr} {sl : Array (Option Value)} {oc kV dc pm cd ct : Value} (a : PySem.W.findIn K (.ref C) x = some (some (.ref f))) (i : PySem.W.isFn K (.ref f) = true)
    (l : K.lookup f = some ⟨oc, od, .func (PySem.W.fnOf x qual (defArgs st) (defBody st) (defScope st) .none kV dc pm an cd ct), sl⟩) (c : PySem.W.codeIn K cd qual = true) (k : PySem.W.keepIn K (.ref f) = true) : MetK K C x qual st f := ⟨_, a, i, fun_mk l c k, k⟩
/-- a class that makes objects -/
structure ClsK (K : Fg) (x : Str) (C : Addr) : Prop where
  a : PySem.W.nsIn K mainGlobals x = some (some (.ref C))
  pg : PySem.W.plainGet K C Str.empty = true
  hd : PySem.W.hasDictIn K C = true
  po : PySem.W.plainOver K C = true
  sa : PySem.W.findIn K (.ref C) "__setattr__" = some (some (.builtin "object.__setattr__"))
  mks : PySem.W.makesIn K C = true
  kc : PySem.W.keepIn K (.ref C) = true
theorem ClsK.cls {K : Fg} {x : Str} {C : Addr} (c : ClsK K x C) : Cls K C := ⟨c.pg, c.hd, c.po, c.sa⟩
section
variable (P : Program) (w : World) (K : Fg) (mg : Str → Option Value) (base : Heap)
structure CallP (x : Str) (k : Nat) (ps : List Str) (ks : List PK) (g : List D → Option D) : Prop where
  ex : ∃ f fd, mg x = some (.ref f) ∧ PySem.W.keepIn K (.ref f) = true ∧ Binds K fd ps [] ∧ FnOk P w K mg base CX0 k f fd ps (SpP K ks g)
structure CallI (x : Str) (k : Nat) (ps : List Str) (ks : List PK) (g : List D → Option (D × D)) : Prop where
  ex : ∃ f fd, mg x = some (.ref f) ∧ PySem.W.keepIn K (.ref f) = true ∧ Binds K fd ps [] ∧ FnOk P w K mg base CX0 k f fd ps (SpI K ks g)
structure MakeI (x : Str) (C : Addr) (k : Nat) (ps : List Str) (ks : List PK) (g : List D → Option (D × D)) : Prop where
  ex : ∃ f fd, mg x = some (.ref C) ∧ Mk K C f ∧ Binds K fd ps [] ∧ FnOk P w K mg base CX0 k f fd ps (SpI K ks g)
end
section
variable {X : Cx} {e : Expr} {es : List Expr} {pos p2 : Pos}
theorem x_cq {K : Fg} {x : Str} {ps : List Str} {k j : Nat} {ks : List PK} {g : List D → Option D} {t : TA} {m : M (List Op)} (c : CallP X.prog X.w X.K X.mg X.base x k ps ks g) (hr : Room j X.A) (h : XA X W0 (e :: es) t m) (hkj : k ≤ j := by decide) (hg : Gl X x := by rfl)
    (hdb : (x == ("__debug__" : Str)) = false := by decide) (hs : starEach (e :: es) X.env = (false, eval e X.env) :: starEach es X.env := by rfl) (hpl : (backTo pos (starEach es X.env)).any (·.1) = false := by rfl) (hK : X.K = K := by rfl) :
    XE X W0 (.Call (.Name x p2) (e :: es) [] pos) (tCall (SpP K ks g) [] E0 t) (mCallP ks g m) := by
  subst hK
  obtain ⟨f, fd, h1, h2, h3, h4⟩ := c.ex
  exact x_cp h4 hr hkj h1 h2 h3 h hg hdb hs hpl
theorem x_cqi {K : Fg} {x : Str} {ps : List Str} {k j i : Nat} {ks : List PK} {g : List D → Option (D × D)} {t : TA} {m : M (List Op)} (c : CallI X.prog X.w X.K X.mg X.base x k ps ks g) (hr : Room j X.A) (hp : XE X W0 e (tVar i) (mVar i)) (h : XA X W0 es t m) (hkj : k ≤ j := by decide) (hg : Gl X x := by rfl)
    (hdb : (x == ("__debug__" : Str)) = false := by decide) (hs : starEach (e :: es) X.env = (false, eval e X.env) :: starEach es X.env := by rfl) (hpl : (backTo pos (starEach es X.env)).any (·.1) = false := by rfl) (hK : X.K = K := by rfl) :
    XE X W0 (.Call (.Name x p2) (e :: es) [] pos) (tCall (SpI K ks g) [] E0 (tCons (tVar i) t)) (mCallI i ks g m) := by
  subst hK
  obtain ⟨f, fd, h1, h2, h3, h4⟩ := c.ex
  exact x_ci h4 hr hkj h1 h2 h3 hp.p h hg hdb hs hpl
theorem n_mkq {K : Fg} {x : Str} {C : Addr} {ps : List Str} {k j : Nat} {ks : List PK} {g : List D → Option (D × D)} {t : TA} {m : M (List Op)} (c : MakeI X.prog X.w X.K X.mg X.base x C k ps ks g) (hr : Room j X.A) (h : XA X W0 (e :: es) t m) (hkj : k + 1 ≤ j := by decide) (hg : Gl X x := by rfl)
    (hdb : (x == ("__debug__" : Str)) = false := by decide) (hs : starEach (e :: es) X.env = (false, eval e X.env) :: starEach es X.env := by rfl) (hpl : (backTo pos (starEach es X.env)).any (·.1) = false := by rfl) (hK : X.K = K := by rfl) :
    XN X W0 (.Call (.Name x p2) (e :: es) [] pos) (tMake C (SpI K ks g) [] E0 t) (mMakeP C ks g m) := by
  subst hK
  obtain ⟨f, fd, h1, h2, h3, h4⟩ := c.ex
  exact n_mk h2 h4 hr hkj h1 h3 h hg hdb hs hpl
end
section
variable {P : Program} {w : World} {K : Fg} {mg : Str → Option Value} {base h : Heap}
theorem callP_of {x : Str} {st : Stmt} {k : Nat} {ps : List Str} {ks : List PK} {g : List D → Option D} (d : DefK K x st) (X : K.In h) (G : h.Ns mainGlobals mg) (hb : ∀ {f : Addr} {fd : FuncData}, Fun K x x st f fd → Binds K fd ps [])
    (hf : ∀ {f : Addr} {fd : FuncData}, Fun K x x st f fd → FnOk P w K mg base CX0 k f fd ps (SpP K ks g)) : CallP P w K mg base x k ps ks g := by
  obtain ⟨f, fd, h1, h2, h3, _⟩ := d.ex
  exact ⟨f, fd, PySem.W.mg_of X G h1, h3, hb h2, hf h2⟩
theorem callI_of {x : Str} {st : Stmt} {k : Nat} {ps : List Str} {ks : List PK} {g : List D → Option (D × D)} (d : DefK K x st) (X : K.In h) (G : h.Ns mainGlobals mg) (hb : ∀ {f : Addr} {fd : FuncData}, Fun K x x st f fd → Binds K fd ps [])
    (hf : ∀ {f : Addr} {fd : FuncData}, Fun K x x st f fd → FnOk P w K mg base CX0 k f fd ps (SpI K ks g)) : CallI P w K mg base x k ps ks g := by
  obtain ⟨f, fd, h1, h2, h3, _⟩ := d.ex
  exact ⟨f, fd, PySem.W.mg_of X G h1, h3, hb h2, hf h2⟩
theorem makeI_of {x qual : Str} {C f : Addr} {st : Stmt} {k : Nat} {ps : List Str} {ks : List PK} {g : List D → Option (D × D)} (c : ClsK K x C) (d : MetK K C "__init__" qual st f) (X : K.In h) (G : h.Ns mainGlobals mg) (hb : ∀ {f : Addr} {fd : FuncData}, Fun K "__init__" qual st f fd → Binds K fd ps [])
    (hf : ∀ {f : Addr} {fd : FuncData}, Fun K "__init__" qual st f fd → FnOk P w K mg base CX0 k f fd ps (SpI K ks g)) : MakeI P w K mg base x C k ps ks g := by
  obtain ⟨fd, h1, h2, h3, h4⟩ := d.ex
  exact ⟨f, fd, PySem.W.mg_of X G c.a, ⟨c.mks, h1, h2, c.kc⟩, hb h3, hf h3⟩
/-! ### the law -/
def spLawD (K : Fg) : Sp := fun vs H Q _ => ∃ (a : Addr) (ns : List Int), vs = [.ref a] ∧ SqL K H a (ns.map V.int) ∧ ns.length ≤ 63 ∧ ∀ H', Q (.bl true) H'
def lawOk (m : Ms) (n : Nat) : Prop := ∀ ns : List Int, ns.length ≤ 63 → ∃ δ, m (startE n [Sl.sc ns]) = some (.rt (.bl true) δ)
theorem law_fn {x qual y : Str} {st : Stmt} {f : Addr} {fd : FuncData} {N : List Str} {k : Nat} {m : Ms} (F : Fun K x qual st f fd) (S : FnScope N [y] (defScope st)) (hm : lawOk m N.length)
    (hb : ∀ (cdv : Value) (A : Around) (outer : List Env) (s : Shared) (H : Hp) (E : XK), Room k (A.deeper (PyProof.Rows.envOfC qual (defScope st) s.heap.objs.size f cdv)) → ∃ t, XB (cxOf CX0 P w K mg base N qual (defScope st) f cdv A outer s H E).nox W0 (defBody st) t m) :
    FnOk P w K mg base CX0 (k + 1) f fd [y] (spLawD K) := by
  refine F.ok S (fun vs H Q E h => ?_) (fun cdv A outer s H vs Q E hr h => ?_)
  · obtain ⟨a, ns, rfl, _⟩ := h
    rfl
  · obtain ⟨t, B⟩ := hb cdv A outer s H E hr
    refine ⟨t, B.p, ?_⟩
    obtain ⟨a, ns, rfl, hS, hl, q⟩ := h
    obtain ⟨δ, e⟩ := hm ns hl
    have S0 : StOk { K := K, P := H, B := H, F0 := fun _ => none, bt := fun _ => 0, W := W0 } (fun _ => 0) (fun _ => none) H ([V.ref a].map some) [Sl.sc ns] := by
      have one : ∀ (i : Nat) (s : Sl), [Sl.sc ns][i]? = some s → i = 0 ∧ s = .sc ns := fun i s z => by
        cases i with
        | zero => exact ⟨rfl, (Option.some.inj z).symm⟩
        | succ i => simp at z
      refine ⟨fun _ _ z => (by cases z), Same.refl _, Same.refl _, fun _ _ z => (by cases z), fun _ _ z => (by cases z), rfl, fun i d z => ?_, fun i d z => ?_, fun i s d z r => ?_, fun i d z => ?_, fun i j s t d e z1 z2 r1 r2 _ => ?_, fun i ms z => ?_⟩
      · cases (one i _ z).2
      · cases (one i _ z).2
      · rw [(one i _ z).2] at r; cases r
      · cases (one i _ z).2
      · rw [(one i _ z1).2] at r1; cases r1
      · obtain ⟨rfl, e⟩ := one i _ z
        cases e
        exact ⟨a, rfl, hS⟩
    refine B.v _ rfl rfl _ _ H _ _ (S0.begin (N := N)) _ e _ ?_
    exact fun al' F' H' σ' v s' S' rv => by rw [Rep.bl_iff.mp rv]; exact q H'
end
end DL

set_option Elab.async false
set_option linter.all false
set_option maxRecDepth 100000
set_option maxHeartbeats 400000
/-! DLq: tests by comparison; the built-ins that are called most. -/
namespace DL
open PySem L2
section
variable {X : Cx} {W : WX} {a b c : Expr} {ta tb tc : TE} {pos p2 : Pos} {oa ob oc : M Op}
theorem t_lt (ha : XO X W a ta oa) (hb : XO X W b tb ob) : XT X W (.Compare a [.Lt] [b] pos) (tTest (tOp (rI0 fun i j => .bl (decide (i < j))) ta tb)) (mTest (m2 (fI0 fun i j => .bl (decide (i < j))) oa ob)) := ⟨pt_cmpR op_lt ha.p hb.p (nomark _), et_test (ev_2 prim_ltI ha.v hb.v)⟩
theorem t_le (ha : XO X W a ta oa) (hb : XO X W b tb ob) : XT X W (.Compare a [.LtE] [b] pos) (tTest (tOp (rI0 fun i j => .bl (decide (i ≤ j))) ta tb)) (mTest (m2 (fI0 fun i j => .bl (decide (i ≤ j))) oa ob)) := ⟨pt_cmpR op_le ha.p hb.p (nomark _), et_test (ev_2 prim_leI ha.v hb.v)⟩
theorem t_gt (ha : XO X W a ta oa) (hb : XO X W b tb ob) : XT X W (.Compare a [.Gt] [b] pos) (tTest (tOp (rI0 fun i j => .bl (decide (j < i))) ta tb)) (mTest (m2 (fI0 fun i j => .bl (decide (j < i))) oa ob)) := ⟨pt_cmpR op_gt ha.p hb.p (nomark _), et_test (ev_2 prim_gtI ha.v hb.v)⟩
theorem t_ge (ha : XO X W a ta oa) (hb : XO X W b tb ob) : XT X W (.Compare a [.GtE] [b] pos) (tTest (tOp (rI0 fun i j => .bl (decide (j ≤ i))) ta tb)) (mTest (m2 (fI0 fun i j => .bl (decide (j ≤ i))) oa ob)) := ⟨pt_cmpR op_ge ha.p hb.p (nomark _), et_test (ev_2 prim_geI ha.v hb.v)⟩
theorem t_eq {K : Fg} {k : Nat} (hr : Room k X.A) (ha : XO X W a ta oa) (hb : XO X W b tb ob) (hK : X.K = K := by rfl) : XT X W (.Compare a [.Eq] [b] pos) (tTest (tOp (rEqD K) ta tb)) (mTest (m2 eqD oa ob)) := by
  subst hK
  exact ⟨pt_cmpR (op_eqD hr.units) ha.p hb.p (nomark _), et_test (ev_2 prim_eq ha.v hb.v)⟩
theorem t_ne {K : Fg} {k : Nat} (hr : Room k X.A) (ha : XO X W a ta oa) (hb : XO X W b tb ob) (hK : X.K = K := by rfl) : XT X W (.Compare a [.NotEq] [b] pos) (tTest (tOp (rNeD K) ta tb)) (mTest (m2 neD oa ob)) := by
  subst hK
  exact ⟨pt_cmpR (op_neD hr.units) ha.p hb.p (nomark _), et_test (ev_2 prim_ne ha.v hb.v)⟩
theorem t_inL {K : Fg} {k : Nat} (hr : Room k X.A) (ha : XO X W a ta oa) (hb : XO X W b tb ob) (hm : behindInMarks .In b = false := by rfl) (hK : X.K = K := by rfl) : XT X W (.Compare a [.In] [b] pos) (tTest (tOp (rInD K) ta tb)) (mTest (m2 (inLD false) oa ob)) := by
  subst hK
  exact ⟨pt_cmpR (op_inD (room_in hr)) ha.p hb.p hm, et_test (ev_2 prim_inL ha.v hb.v)⟩
theorem t_ninL {K : Fg} {k : Nat} (hr : Room k X.A) (ha : XO X W a ta oa) (hb : XO X W b tb ob) (hm : behindInMarks .NotIn b = false := by rfl) (hK : X.K = K := by rfl) : XT X W (.Compare a [.NotIn] [b] pos) (tTest (tOp (rNotInD K) ta tb)) (mTest (m2 (inLD true) oa ob)) := by
  subst hK
  exact ⟨pt_cmpR (op_notInD (room_in hr)) ha.p hb.p hm, et_test (ev_2 prim_notInL ha.v hb.v)⟩
theorem t_inS (ha : XO X W a ta oa) (hb : XO X W b tb ob) (hm : behindInMarks .In b = false := by rfl) : XT X W (.Compare a [.In] [b] pos) (tTest (tOp rInSign ta tb)) (mTest (m2 (inSignD false) oa ob)) := ⟨pt_cmpR op_in_sign ha.p hb.p hm, et_test (ev_2 prim_inSign ha.v hb.v)⟩
theorem t_leLe (ha : XO X W a ta oa) (hb : XO X W b tb ob) (hc : XO X W c tc oc) (hm : lastMarks [.LtE, .LtE] [b, c] = false := by with_unfolding_all rfl) : XT X W (.Compare a [.LtE, .LtE] [b, c] pos) (tTest (tChain (rI0 fun i j => .bl (decide (i ≤ j))) (rI0 fun i j => .bl (decide (i ≤ j))) ta tb tc)) (mTest (mChain (fI0 fun i j => .bl (decide (i ≤ j))) (fI0 fun i j => .bl (decide (i ≤ j))) oa ob oc)) :=
  ⟨pt_chain op_le op_le ha.p hb.p hc.p hm, et_test (ev_chain prim_leI prim_leI ha.v hb.v hc.v)⟩
theorem x_len {K : Fg} (hm : X.mg "len" = none) (ha : XO X W a ta oa) (hg : Gl X "len" := by rfl) (hs : starEach [a] X.env = (false, eval a X.env) :: starEach [] X.env := by rfl) (hK : X.K = K := by rfl) : XE X W (.Call (.Name "len" p2) [a] [] pos) (tCB (rLen K) (tCons ta tNil)) (mA (fA1 lenD) (maCons oa maNil)) := by
  subst hK
  exact x_cb call_len prim_len boot_len hm (a_cons ha a_nil hs) hg (by decide) (by decide) hs rfl
theorem x_all {K : Fg} (hc : X.calm = true) (hm : X.mg "all" = none) (ha : XO X W a ta oa) (hg : Gl X "all" := by rfl) (hs : starEach [a] X.env = (false, eval a X.env) :: starEach [] X.env := by rfl) (hK : X.K = K := by rfl) : XE X W (.Call (.Name "all" p2) [a] [] pos) (tCB (rAll K) (tCons ta tNil)) (mA (fA1 allD) (maCons oa maNil)) := by
  subst hK
  exact x_cb (cr_all hc) prim_all (by decide +kernel) hm (a_cons ha a_nil hs) hg (by decide) (by decide) hs rfl
theorem x_abs (hm : X.mg "abs" = none) (ha : XO X W a ta oa) (hg : Gl X "abs" := by rfl) (hs : starEach [a] X.env = (false, eval a X.env) :: starEach [] X.env := by rfl) : XE X W (.Call (.Name "abs" p2) [a] [] pos) (tCB (fun xs H Q => ∃ i, xs = [V.int i] ∧ Q (.int (if i < 0 then -i else i)) H) (tCons ta tNil)) (mA (fA1 absD) (maCons oa maNil)) := x_cb call_abs prim_abs (by decide +kernel) hm (a_cons ha a_nil hs) hg (by decide) (by decide) hs rfl
theorem n_list {K : Fg} (hm : X.mg "list" = none) (ha : XO X W a ta oa) (hg : Gl X "list" := by rfl) (hs : starEach [a] X.env = (false, eval a X.env) :: starEach [] X.env := by rfl) (hK : X.K = K := by rfl) : XN X W (.Call (.Name "list" p2) [a] [] pos) (tCB (rListOf K) (tCons ta tNil)) (mnA (fN1 listD) (maCons oa maNil)) := by
  subst hK
  exact n_ct call_list_of prim_list (by decide +kernel) hm (a_cons ha a_nil hs) hg (by decide) (by decide) hs rfl
theorem x_tuple {K : Fg} (hm : X.mg "tuple" = none) (ha : XO X W a ta oa) (hg : Gl X "tuple" := by rfl) (hs : starEach [a] X.env = (false, eval a X.env) :: starEach [] X.env := by rfl) (hK : X.K = K := by rfl) : XE X W (.Call (.Name "tuple" p2) [a] [] pos) (tCB (rTupOf K) (tCons ta tNil)) (mA (fA1 tupD) (maCons oa maNil)) := by
  subst hK
  exact x_ct call_tupleZ prim_tup (by decide +kernel) hm (a_cons ha a_nil hs) hg (by decide) (by decide) hs rfl
theorem x_dict {K : Fg} (hc : X.calm = true) (hm : X.mg "dict" = none) (ha : XO X W a ta oa) (hg : Gl X "dict" := by rfl) (hs : starEach [a] X.env = (false, eval a X.env) :: starEach [] X.env := by rfl) (hK : X.K = K := by rfl) : XE X W (.Call (.Name "dict" p2) [a] [] pos) (tCB (rDictP K) (tCons ta tNil)) (mA (fA1 dictD) (maCons oa maNil)) := by
  subst hK
  exact x_ct (call_dictP hc) prim_dict (by decide +kernel) hm (a_cons ha a_nil hs) hg (by decide) (by decide) hs rfl
theorem n_sorted {K : Fg} {k : Nat} (hr : Room k X.A) (hm : X.mg "sorted" = none) (ha : XO X W a ta oa) (hg : Gl X "sorted" := by rfl) (hs : starEach [a] X.env = (false, eval a X.env) :: starEach [] X.env := by rfl) (hK : X.K = K := by rfl) : XN X W (.Call (.Name "sorted" p2) [a] [] pos) (tCB (rSortQ K) (tCons ta tNil)) (mnA (fN1 sortF) (maCons oa maNil)) := by
  subst hK
  exact n_cb (cr_sortQ (room_in hr)) prim_sort (by decide +kernel) hm (a_cons ha a_nil hs) hg (by decide) (by decide) hs rfl
/-- x[i] = e, x a list of one's own -/
def mPutI (i : Nat) (mi me : M D) : Ms := mS me fun d => mHas i (mS mi fun j => fun δ => match j with
      | .int n => match ownL δ i with
        | some (s, ds) => match ixN ds.length n with
          | some m => some (.nx (δ.set i (reown s (.lst (ds.set m d)))))
          | none => none
        | none => none
      | _ => none)
theorem s_putI {o e : Expr} {te : TE} {me : M D} {i : Nat} {ix : Expr} {ti : TE} {mi : M D} {tpos : Pos} (ho : PE X o (tVar i)) (hi : XE X W ix ti mi) (h : XE X W e te me) (ha : ∀ v, assign (.Subscript o ix tpos) X.env v = (do
      let ov ← holding [v] (eval o X.env)
      let iv ← holding [v, ov] (eval ix X.env)
      standAt tpos
      holding [v, ov, iv] (setItem ov iv v)
      release [v, ov, iv] []) := by intro _; rfl) (hs : swapsWithSole [.Subscript o ix tpos] e pos.line X.env = pure false := by rfl) (hw : swappedStores [.Subscript o ix tpos] e X.env = pure none := by rfl) (h1 : (assignEach [.Subscript o ix tpos] X.env).map (·.2) = [assign (.Subscript o ix tpos) X.env] := by rfl) :
    XS X W (.Assign [.Subscript o ix tpos] e pos) (tAsg te (gSub (tVar i) ti rSetL)) (mPutI i mi me) := s_setI ho hi h ha hs hw h1
end
end DL

set_option Elab.async false
set_option linter.all false
set_option maxRecDepth 100000
set_option maxHeartbeats 400000
/-! DLr: defs that hand back a new object, the caller's own from then on. -/
namespace DL
open PySem L2
theorem StOk.callee {C : Cn} {al : Nat → Addr} {F H : Hp} {σ : St} {δ : En} {ks : List PK} {os : List Op} {vs : List V} {ds : List D} (S : StOk C al F H σ δ) (hrel : relA C.K F σ vs os) (h1 : rds os δ = some ds) (hf : frOk ks os = true) :
    vs.length = ks.length ∧ ds.length = ks.length ∧ StOk { K := C.K, P := H, B := H, F0 := F, bt := fun _ => 0, W := C.W } (fun _ => 0) F H (vs.map some) (entry ks ds) := by
  have hP : Paired (fun v d => RepR C.K F H v d) vs ds := S.opds hrel h1
  have lk := frOk_len hf
  have lv : vs.length = os.length := hrel.length
  have ld := rds_len h1
  refine ⟨by omega, by omega, ?_⟩
  have ge : ∀ (i : Nat) s, (entry ks ds)[i]? = some s → ∃ v d, (vs.map some)[i]? = some (some v) ∧ ((s = .bo d ∧ RepR C.K F H v d) ∨ (s = .fr d ∧ Rep C.K F d v)) := fun i s q => by
    obtain ⟨k, d, g1, g2, g3⟩ := entry_get q
    obtain ⟨v, g4, g5⟩ := paired_get hP g2
    refine ⟨v, d, by rw [List.getElem?_map, g4]; rfl, ?_⟩
    rcases frOk_get hf g1 with z | ⟨z, d', z2⟩
    · subst z; exact Or.inl ⟨g3, g5⟩
    · subst z
      refine Or.inr ⟨g3, ?_⟩
      obtain ⟨d2, g6, g7⟩ := rds_get h1 z2
      rw [g2] at g6
      cases g6
      cases g7
      obtain ⟨v', g8, g9⟩ := paired_get hrel z2
      rw [g4] at g8
      cases g8
      exact g9
  refine ⟨S.fh, Same.refl _, Same.refl _, Same.refl _, fun b o q => Or.inl q, by rw [List.length_map, entry_len (by omega)]; omega, fun i d q => ?_, fun i d q => ?_, fun i s d q r => ?_, fun i d q => ?_, fun i j s t d e q1 q2 r1 r2 => ?_, fun i ns q => ?_⟩
  · obtain ⟨v, d', g1, g2 | g2⟩ := ge i _ q
    · cases g2.1
    · cases g2.1; exact ⟨v, g1, g2.2⟩
  · obtain ⟨v, d', g1, g2 | g2⟩ := ge i _ q
    · cases g2.1; exact ⟨v, g1, g2.2⟩
    · cases g2.1
  · obtain ⟨v, d', g1, g2 | g2⟩ := ge i _ q
    · rw [g2.1] at r; cases r
    · rw [g2.1] at r; cases r
  · obtain ⟨v, d', g1, g2 | g2⟩ := ge i _ q
    · cases g2.1
    · cases g2.1
  · obtain ⟨v, d', g1, g2 | g2⟩ := ge i _ q1
    · rw [g2.1] at r1; cases r1
    · rw [g2.1] at r1; cases r1
  · obtain ⟨v, d', g1, g2 | g2⟩ := ge i _ q
    · cases g2.1
    · cases g2.1
/-- a new object comes back -/
def SpN (K : Fg) (ks : List PK) (g : List D → Option D) : Sp := fun vs H Q _ => ∃ (C : Cn) (al : Nat → Addr) (ds : List D) (d : D), C.K = K ∧ vs.length = ks.length ∧ ds.length = ks.length ∧ StOk C al C.F0 H (vs.map some) (entry ks ds) ∧ g ds = some d ∧
  ∀ al' F' H' σ' δ' p, Same C.F0 F' → StOk C al' F' H' σ' δ' → F' p = none → C.P p = none → RepO K F' H' p d → Q (.ref p) H'
def defN (n : Nat) (ks : List PK) (m : Ms) : List D → Option D := fun ds => match m (startE n (entry ks ds)) with
  | some (.rn d _) => some d
  | _ => none
section
variable {P : Program} {w : World} {K : Fg} {mg : Str → Option Value} {base : Heap}
theorem fn_n {x qual : Str} {st : Stmt} {f : Addr} {fd : FuncData} {N ps : List Str} {k : Nat} {ks : List PK} {m : Ms} (F : Fun K x qual st f fd) (S : FnScope N ps (defScope st)) (hks : ks.length = ps.length)
    (hb : ∀ (cdv : Value) (A : Around) (outer : List Env) (s : Shared) (H : Hp) (E : XK), Room k (A.deeper (PyProof.Rows.envOfC qual (defScope st) s.heap.objs.size f cdv)) → ∃ t, XB (cxOf CX0 P w K mg base N qual (defScope st) f cdv A outer s H E).nox W0 (defBody st) t m) :
    FnOk P w K mg base CX0 (k + 1) f fd ps (SpN K ks (defN N.length ks m)) := by
  refine F.ok S (fun vs H Q E h => ?_) (fun cdv A outer s H vs Q E hr h => ?_)
  · obtain ⟨C, al, ds, d, _, h1, _⟩ := h
    rw [h1, hks]
  · obtain ⟨t, B⟩ := hb cdv A outer s H E hr
    refine ⟨t, B.p, ?_⟩
    obtain ⟨C, al, ds, d, hK, h1, h2, S0, hf, hok⟩ := h
    subst hK
    have S1 := (S0.wish W0).begin (N := N)
    unfold defN at hf
    cases e : m (startE N.length (entry ks ds)) with
    | none => rw [e] at hf; cases hf
    | some o =>
      rw [e] at hf
      refine B.v { C with W := W0 } rfl rfl al C.F0 H _ _ S1 o e _ ?_
      cases o with
      | rn z δ => cases hf; exact fun al' F' H' σ' p s' S' n1 n2 n3 => hok al' F' H' _ _ p s' (S'.unwish.take 0) n1 n2 n3
      | _ => cases hf
end
def mCallN (ks : List PK) (g : List D → Option D) (a : M (List Op)) : M D := a.bind fun os => (mRds os).bind fun ds => fun δ => if frOk ks os then (match g ds with
  | some d => some (.ok d δ)
  | none => none) else none
theorem en_callN {K : Fg} {W : WX} {ks : List PK} {g : List D → Option D} {a : M (List Op)} {ta : TA} {E : XK} (ha : Ea K W ta a) : En1 K W (tCall (SpN K ks g) [] E ta) (mCallN ks g a) := by
  refine J.bindN (t2 := fun (vs : List V) (_ : St) (H : Hp) (Q : VK) => SpN K ks g (vs ++ []) H Q E) ha monoT fun os vs => ?_
  intro C hK hWC al F H σ δ S hp r hr Q hok hex
  subst hK
  obtain ⟨ds, h1, hr⟩ := rds_bind hr
  by_cases hf : frOk ks os = true
  · simp only [hf, if_true] at hr
    obtain ⟨l1, l2, St1⟩ := S.callee hp.2 h1 hf
    cases e : g ds with
    | none => simp only [e] at hr; cases hr
    | some d =>
      simp only [e] at hr
      cases hr
      refine ⟨{ K := C.K, P := H, B := H, F0 := F, bt := fun _ => 0, W := C.W }, fun _ => 0, ds, d, rfl, by rw [List.append_nil]; exact l1, l2, (by rw [List.append_nil]; exact St1), e, fun al' F' H' σ' δ' p s' S' n1 n2 n3 => ?_⟩
      have nw : New F H F' H' := ⟨s', S'.fh, S'.ph, S'.fp⟩
      have n2 : H p = none := n2
      refine hok d δ rfl al F' H' p s' (S.new nw) n1 (S.ph.free n2) (fun j s e q r z => ?_) n3
      obtain ⟨_, _, _, h4⟩ := S.ow j s e q r
      obtain ⟨u, hu⟩ := h4.there
      rw [z, n2] at hu
      cases hu
  · simp only [hf] at hr
    cases hr
structure CallN (P : Program) (w : World) (K : Fg) (mg : Str → Option Value) (base : Heap) (x : Str) (k : Nat) (ps : List Str) (ks : List PK) (g : List D → Option D) : Prop where
  ex : ∃ f fd, mg x = some (.ref f) ∧ PySem.W.keepIn K (.ref f) = true ∧ Binds K fd ps [] ∧ FnOk P w K mg base CX0 k f fd ps (SpN K ks g)
theorem callN_of {P : Program} {w : World} {K : Fg} {mg : Str → Option Value} {base h : Heap} {x : Str} {st : Stmt} {k : Nat} {ps : List Str} {ks : List PK} {g : List D → Option D} (d : DefK K x st) (X : K.In h) (G : h.Ns mainGlobals mg) (hb : ∀ {f : Addr} {fd : FuncData}, Fun K x x st f fd → Binds K fd ps [])
    (hf : ∀ {f : Addr} {fd : FuncData}, Fun K x x st f fd → FnOk P w K mg base CX0 k f fd ps (SpN K ks g)) : CallN P w K mg base x k ps ks g := by
  obtain ⟨f, fd, h1, h2, h3, _⟩ := d.ex
  exact ⟨f, fd, PySem.W.mg_of X G h1, h3, hb h2, hf h2⟩
section
variable {X : Cx} {W : WX} {e : Expr} {es : List Expr} {pos p2 : Pos}
theorem n_cn {K : Fg} {x : Str} {ps : List Str} {k j : Nat} {ks : List PK} {g : List D → Option D} {t : TA} {m : M (List Op)} (c : CallN X.prog X.w X.K X.mg X.base x k ps ks g) (hr : Room j X.A) (h : XA X W0 (e :: es) t m) (hkj : k ≤ j := by decide) (hg : Gl X x := by rfl)
    (hdb : (x == ("__debug__" : Str)) = false := by decide) (hs : starEach (e :: es) X.env = (false, eval e X.env) :: starEach es X.env := by rfl) (hpl : (backTo pos (starEach es X.env)).any (·.1) = false := by rfl) (hK : X.K = K := by rfl) :
    XN X W0 (.Call (.Name x p2) (e :: es) [] pos) (tCall (SpN K ks g) [] E0 t) (mCallN ks g m) := by
  subst hK
  obtain ⟨f, fd, h1, h2, h3, h4⟩ := c.ex
  exact ⟨pe_call h4 (hr.mono hkj) hg h1 h2 h3 .nil pass0 h.p hdb hs hpl, en_callN h.v⟩
theorem s_retW {te : TE} {me : M D} (h : XN X W e te me) : XS X W (.Return (some e) pos) (tRet te) (mRetW me) := ⟨ps_ret h.p, es_retW h.v⟩
theorem s_retO {i : Nat} {me : M D} (h : XE X W e (tVar i) me) : XS X W (.Return (some e) pos) (tRet (tVar i)) (mRetO i) := ⟨ps_ret h.p, es_retO⟩
end
end DL

set_option Elab.async false
set_option linter.all false
set_option maxRecDepth 100000
set_option maxHeartbeats 400000
/-! DLs: a list of a slot walked, whether it is frozen, borrowed or one's own. -/
namespace DL
open PySem L2
def mSeqB (i : Nat) : M (List D) := fun δ => match δ[i]? with
  | some (.bo (.lst ds)) => some (.ok ds δ)
  | some (.bo _) => none
  | _ => mSeqOf (mVar i) δ
section
variable {K : Fg} {W : WX}
theorem ei_listB {i : Nat} : Ei K W false (iList K (tVar i)) (mSeqB i) := by
  intro C hK hW al F H σ δ S r hr R hok hex
  by_cases hb : ∃ d, δ[i]? = some (.bo d)
  · obtain ⟨d, hb⟩ := hb
    unfold mSeqB at hr
    cases d with
    | lst ds =>
      simp only [hb] at hr
      cases hr
      subst hK
      obtain ⟨v, h1, h2⟩ := S.bo i _ hb
      have bh : Same C.B H := S.bp.trans S.ph
      rcases h2 with h2 | ⟨a, rfl, vs, g1, g2, g3⟩
      · obtain ⟨a, vs, rfl, g1, g2, g3⟩ := Rep.lst_iff.mp h2
        refine ⟨_, h1, a, rfl, ⟨vs, Or.inl (Or.inl (S.fh _ _ g1))⟩, hok ds δ rfl al F H _ (Same.refl _) S ⟨g2, fun F2 H2 f1 f2 _ i => ⟨fun d hd => ?_, fun hl => ?_⟩⟩⟩
        · obtain ⟨u, hu, ru⟩ := g3.get hd
          have ha : H2 a = some (.lst vs) := f2 _ _ (f1 _ _ g1)
          refine ⟨⟨vs, u, Or.inl (Or.inl ha), hu⟩, fun x H' y => ?_⟩
          obtain ⟨rfl, y⟩ := y
          have q := y vs (Or.inl (Or.inl ha))
          rw [hu] at q
          cases q
          exact ⟨F2, New.refl f2, ru.mono f1⟩
        · exact ⟨vs, Or.inl (Or.inl (f2 _ _ (f1 _ _ g1))), by rw [g3.len]; exact hl⟩
      · refine ⟨_, h1, a, rfl, ⟨vs, Or.inl (Or.inl (bh _ _ g1))⟩, hok ds δ rfl al F H _ (Same.refl _) S ⟨g2, fun F2 H2 f1 f2 hp i => ⟨fun d hd => ?_, fun hl => ?_⟩⟩⟩
        · obtain ⟨u, hu, ru⟩ := g3.get hd
          have ha : H2 a = some (.lst vs) := hp _ _ (S.bp _ _ g1)
          refine ⟨⟨vs, u, Or.inl (Or.inl ha), hu⟩, fun x H' y => ?_⟩
          obtain ⟨rfl, y⟩ := y
          have q := y vs (Or.inl (Or.inl ha))
          rw [hu] at q
          cases q
          exact ⟨F2, New.refl f2, ru.mono f1⟩
        · exact ⟨vs, Or.inl (Or.inl (hp _ _ (S.bp _ _ g1))), by rw [g3.len]; exact hl⟩
    | _ => simp only [hb] at hr; cases hr
  · have e : mSeqB i δ = mSeqOf (mVar i) δ := by
      unfold mSeqB
      cases h : δ[i]? with
      | none => rfl
      | some s =>
        cases s with
        | bo d => exact absurd ⟨d, h⟩ hb
        | _ => rfl
    rw [e] at hr
    exact ei_list (K := K) ev_var C hK hW al F H σ δ S r hr R hok hex
theorem i_listB {K : Fg} {X : Cx} {tg e : Expr} {i : Nat} {me : M D} (h : XE X W e (tVar i) me) (hK : X.K = K := by rfl) : XI X W false tg e (iList K (tVar i)) (mSeqB i) := by
  subst hK
  exact ⟨pi_list h.p, ei_listB⟩
end
end DL

set_option Elab.async false
set_option linter.all false
set_option maxRecDepth 100000
set_option maxHeartbeats 400000
/-! MAa: plain laws about what mirrors compute: loops, comprehensions. -/
namespace DL
open PySem L2
/-- a for loop by an invariant over what has been folded -/
theorem forL_inv {α β : Type} (enc : α → D) (g : Mg) (b : Ms) (Inv : β → En → Prop) (step : β → α → β) : ∀ (as : List α) (x : β) (δ : En), Inv x δ →
    (∀ y a δ, a ∈ as → Inv y δ → ∃ δ1 δ2, g (enc a) δ = some δ1 ∧ b δ1 = some (.nx δ2) ∧ Inv (step y a) δ2) → ∃ δ', forL g b (as.map enc) δ = some (.nx δ') ∧ Inv (as.foldl step x) δ'
  | [], x, δ, h, _ => ⟨δ, rfl, h⟩
  | a :: as, x, δ, h, hs => by
    obtain ⟨δ1, δ2, h1, h2, h3⟩ := hs x a δ List.mem_cons_self h
    obtain ⟨δ', h4, h5⟩ := forL_inv enc g b Inv step as (step x a) δ2 h3 fun y a' δ m => hs y a' δ (List.mem_cons_of_mem _ m)
    refine ⟨δ', ?_, h5⟩
    rw [List.map_cons]
    simp only [forL, h1, h2]
    exact h4
/-- the same with a relation between what went in and out -/
theorem forL_rel {α : Type} (enc : α → D) (g : Mg) (b : Ms) (Inv : List α → En → Prop) : ∀ (as pre : List α) (δ : En), Inv pre δ →
    (∀ pre a δ, a ∈ as → Inv pre δ → ∃ δ1 δ2, g (enc a) δ = some δ1 ∧ b δ1 = some (.nx δ2) ∧ Inv (pre ++ [a]) δ2) → ∃ δ', forL g b (as.map enc) δ = some (.nx δ') ∧ Inv (pre ++ as) δ'
  | [], pre, δ, h, _ => ⟨δ, rfl, by rw [List.append_nil]; exact h⟩
  | a :: as, pre, δ, h, hs => by
    obtain ⟨δ1, δ2, h1, h2, h3⟩ := hs pre a δ List.mem_cons_self h
    obtain ⟨δ', h4, h5⟩ := forL_rel enc g b Inv as (pre ++ [a]) δ2 h3 fun pre a' δ m => hs pre a' δ (List.mem_cons_of_mem _ m)
    refine ⟨δ', ?_, by rw [List.append_assoc] at h5; exact h5⟩
    rw [List.map_cons]
    simp only [forL, h1, h2]
    exact h4
/-- a comprehension without a test, its element of the item alone -/
theorem lcL_map {α : Type} (enc f : α → D) (g : Mg) (e : M D) (vs : List Nat) (ω : En) : ∀ (as : List α) (acc : List D), (∀ a ∈ as, ∃ δ1 δ2, g (enc a) ω = some δ1 ∧ e δ1 = some (.ok (f a) δ2) ∧ wipeE δ2 vs = ω) →
    lcL g mYes e vs acc (as.map enc) ω = some (.ok (acc ++ as.map f) ω)
  | [], acc, _ => by rw [List.map_nil, List.map_nil, List.append_nil]; rfl
  | a :: as, acc, h => by
    obtain ⟨δ1, δ2, h1, h2, h3⟩ := h a List.mem_cons_self
    rw [List.map_cons]
    simp only [lcL, h1, mYes, M.ret, h2, h3]
    have := lcL_map enc f g e vs ω as (acc ++ [f a]) fun a' m => h a' (List.mem_cons_of_mem _ m)
    refine this.trans ?_
    rw [List.map_cons, List.append_assoc]
    rfl
theorem mLc_map {α : Type} {as : List α} {enc f : α → D} {it : M (List D)} {g : Mg} {e : M D} {vs : List Nat} {δ δ0 ω : En} (hit : it δ = some (.ok (as.map enc) δ0)) (hw : wipeE δ0 vs = ω)
    (h : ∀ a ∈ as, ∃ δ1 δ2, g (enc a) ω = some δ1 ∧ e δ1 = some (.ok (f a) δ2) ∧ wipeE δ2 vs = ω) : mLc it g mYes e vs δ = some (.ok (.lst (as.map f)) ω) := by
  unfold mLc M.bind
  simp only [hit, hw, lcL_map enc f g e vs ω as [] h, List.nil_append]
/-- a comprehension that changes something as it goes -/
theorem lcL_rel {α : Type} (enc : α → D) (g : Mg) (e : M D) (vs : List Nat) (Inv : List D → En → Prop) : ∀ (as : List α) (acc : List D) (δ : En), Inv acc δ →
    (∀ acc a δ, a ∈ as → Inv acc δ → ∃ δ1 y δ2, g (enc a) δ = some δ1 ∧ e δ1 = some (.ok y δ2) ∧ Inv (acc ++ [y]) (wipeE δ2 vs)) → ∃ out δ', lcL g mYes e vs acc (as.map enc) δ = some (.ok out δ') ∧ Inv out δ' ∧ out.length = acc.length + as.length
  | [], acc, δ, h, _ => ⟨acc, δ, rfl, h, rfl⟩
  | a :: as, acc, δ, h, hs => by
    obtain ⟨δ1, y, δ2, h1, h2, h3⟩ := hs acc a δ List.mem_cons_self h
    obtain ⟨out, δ', h4, h5, h6⟩ := lcL_rel enc g e vs Inv as (acc ++ [y]) _ h3 fun acc a' δ m => hs acc a' δ (List.mem_cons_of_mem _ m)
    refine ⟨out, δ', ?_, h5, by rw [h6, List.length_append, List.length_cons]; simp only [List.length_cons, List.length_nil]; omega⟩
    rw [List.map_cons]
    simp only [lcL, h1, mYes, M.ret, h2]
    exact h4
theorem mLc_rel {α : Type} {as : List α} {enc : α → D} {it : M (List D)} {g : Mg} {e : M D} {vs : List Nat} {δ δ0 : En} (Inv : List D → En → Prop) (hit : it δ = some (.ok (as.map enc) δ0)) (h0 : Inv [] (wipeE δ0 vs))
    (hs : ∀ acc a δ, a ∈ as → Inv acc δ → ∃ δ1 y δ2, g (enc a) δ = some δ1 ∧ e δ1 = some (.ok y δ2) ∧ Inv (acc ++ [y]) (wipeE δ2 vs)) : ∃ out δ', mLc it g mYes e vs δ = some (.ok (.lst out) δ') ∧ Inv out δ' ∧ out.length = as.length := by
  obtain ⟨out, δ', h1, h2, h3⟩ := lcL_rel enc g e vs Inv as [] _ h0 hs
  refine ⟨out, δ', ?_, h2, by simpa using h3⟩
  unfold mLc M.bind
  simp only [hit, h1]
theorem rangeD_map (lo : Int) (n : Nat) : rangeD lo n = (List.range n).map fun i => D.int (lo + (i : Nat)) := rfl
theorem blsOf_map {α : Type} (f : α → Bool) : ∀ as : List α, blsOf (as.map fun a => D.bl (f a)) = some (as.map f)
  | [] => rfl
  | a :: as => by simp [blsOf, blsOf_map f as]
theorem allD_map {α : Type} (f : α → Bool) (as : List α) : allD (.lst (as.map fun a => D.bl (f a))) = some (.bl (as.all f)) := by
  simp only [allD, blsOf_map, Option.map_some]
  congr 2
  induction as with
  | nil => rfl
  | cons a as ih => simp [ih]
end DL

set_option Elab.async false
set_option linter.all false
set_option maxRecDepth 100000
set_option maxHeartbeats 400000
/-! MAb: plain data (no truths, no objects): equality, membership, counts, sorting said by data alone. -/
namespace DL
open PySem L2
noncomputable instance : DecidableEq D := fun a b => Classical.propDecidable (a = b)
/-- data without truths, objects and dicts, of a depth -/
def Pl : Nat → D → Prop
  | _, .non => True
  | _, .int _ => True
  | _, .str x => PyData.strOk x = true
  | 0, _ => False
  | n + 1, .tup ds => ∀ d ∈ ds, Pl n d
  | n + 1, .lst ds => ∀ d ∈ ds, Pl n d
  | _ + 1, _ => False
theorem Pl.non {n : Nat} : Pl n .non := by cases n <;> simp [Pl]
theorem Pl.int {n : Nat} {i : Int} : Pl n (.int i) := by cases n <;> simp [Pl]
theorem Pl.str {n : Nat} {x : Str} (h : PyData.strOk x = true) : Pl n (.str x) := by cases n <;> simp [Pl, h]
theorem Pl.str_iff {n : Nat} {x : Str} : Pl n (.str x) ↔ PyData.strOk x = true := by cases n <;> simp [Pl]
theorem Pl.tup {n : Nat} {ds : List D} (h : ∀ d ∈ ds, Pl n d) : Pl (n + 1) (.tup ds) := by simpa [Pl] using h
theorem Pl.lst {n : Nat} {ds : List D} (h : ∀ d ∈ ds, Pl n d) : Pl (n + 1) (.lst ds) := by simpa [Pl] using h
theorem Pl.tup_iff {n : Nat} {ds : List D} : Pl (n + 1) (.tup ds) ↔ ∀ d ∈ ds, Pl n d := by simp [Pl]
theorem Pl.lst_iff {n : Nat} {ds : List D} : Pl (n + 1) (.lst ds) ↔ ∀ d ∈ ds, Pl n d := by simp [Pl]
theorem Pl.up : ∀ {n : Nat} {d : D}, Pl n d → Pl (n + 1) d
  | 0, d, h => by cases d <;> simp [Pl] at h ⊢; exact h
  | n + 1, d, h => by
    cases d <;> simp [Pl] at h ⊢
    · exact h
    · exact fun d hd => (h d hd).up
    · exact fun d hd => (h d hd).up
theorem Pl.mono {n m : Nat} {d : D} (h : Pl n d) (l : n ≤ m) : Pl m d := by
  induction l with
  | refl => exact h
  | step _ ih => exact ih.up
theorem toPys_enc : ∀ {ds : List D}, (∀ d ∈ ds, toPy d = some (encD d)) → toPys ds = some (ds.map encD)
  | [], _ => rfl
  | d :: ds, h => by
    have h1 := h d List.mem_cons_self
    have h2 := toPys_enc (ds := ds) fun e he => h e (List.mem_cons_of_mem _ he)
    simp only [toPys, h1, h2, List.map_cons]
theorem canLayAll {ps : List PyData} : (∀ p ∈ ps, p.canLay0 = true) → PyData.canLayAll0 ps = true := by
  induction ps with
  | nil => intro; simp [PyData.canLayAll0]
  | cons p ps ih => intro h; simp [PyData.canLayAll0, h p List.mem_cons_self, ih fun q hq => h q (List.mem_cons_of_mem _ hq)]
theorem depthAll_le {ps : List PyData} {n : Nat} : (∀ p ∈ ps, p.depth ≤ n) → PyData.depthAll ps ≤ n := by
  induction ps with
  | nil => intro; simp [PyData.depthAll]
  | cons p ps ih => intro h; rw [PyData.depthAll]; exact Nat.max_le.mpr ⟨h p List.mem_cons_self, ih fun q hq => h q (List.mem_cons_of_mem _ hq)⟩
theorem Pl.enc : ∀ {n : Nat} {d : D}, Pl n d → toPy d = some (encD d) ∧ (encD d).canLay0 = true ∧ (encD d).depth ≤ n
  | n, .non, _ => ⟨rfl, by simp [encD, toPy, PyData.canLay0], by simp [encD, toPy, PyData.depth]⟩
  | n, .int i, _ => ⟨rfl, by simp [encD, toPy, PyData.canLay0], by simp [encD, toPy, PyData.depth]⟩
  | n, .str x, h => ⟨rfl, by simp [encD, toPy, PyData.canLay0, Pl.str_iff.mp h], by simp [encD, toPy, PyData.depth]⟩
  | n + 1, .tup ds, h => by
    have h := Pl.tup_iff.mp h
    have e := toPys_enc fun d hd => (h d hd).enc.1
    have e1 : encD (.tup ds) = .tuple (ds.map encD) := by simp [encD, toPy, e]
    refine ⟨by rw [e1]; simp [toPy, e], ?_, ?_⟩
    · rw [e1]; simp only [PyData.canLay0]; exact canLayAll fun p hp => by obtain ⟨d, hd, rfl⟩ := List.mem_map.mp hp; exact (h d hd).enc.2.1
    · rw [e1]; simp only [PyData.depth]; exact Nat.succ_le_succ (depthAll_le fun p hp => by obtain ⟨d, hd, rfl⟩ := List.mem_map.mp hp; exact (h d hd).enc.2.2)
  | n + 1, .lst ds, h => by
    have h := Pl.lst_iff.mp h
    have e := toPys_enc fun d hd => (h d hd).enc.1
    have e1 : encD (.lst ds) = .list (ds.map encD) := by simp [encD, toPy, e]
    refine ⟨by rw [e1]; simp [toPy, e], ?_, ?_⟩
    · rw [e1]; simp only [PyData.canLay0]; exact canLayAll fun p hp => by obtain ⟨d, hd, rfl⟩ := List.mem_map.mp hp; exact (h d hd).enc.2.1
    · rw [e1]; simp only [PyData.depth]; exact Nat.succ_le_succ (depthAll_le fun p hp => by obtain ⟨d, hd, rfl⟩ := List.mem_map.mp hp; exact (h d hd).enc.2.2)
  | 0, .bl _, h => by simp [Pl] at h
  | n + 1, .bl _, h => by simp [Pl] at h
  | 0, .ins _ _ _, h => by simp [Pl] at h
  | n + 1, .ins _ _ _, h => by simp [Pl] at h
  | 0, .dk _ _, h => by simp [Pl] at h
  | n + 1, .dk _ _, h => by simp [Pl] at h
  | 0, .tup _, h => by simp [Pl] at h
  | 0, .lst _, h => by simp [Pl] at h
theorem encD_tup {n : Nat} {ds : List D} (h : ∀ d ∈ ds, Pl n d) : encD (.tup ds) = .tuple (ds.map encD) := by
  simp [encD, toPy, toPys_enc fun d hd => (h d hd).enc.1]
theorem encD_lst {n : Nat} {ds : List D} (h : ∀ d ∈ ds, Pl n d) : encD (.lst ds) = .list (ds.map encD) := by
  simp [encD, toPy, toPys_enc fun d hd => (h d hd).enc.1]
theorem eqvAll_iff : ∀ {ds es : List D}, (∀ d ∈ ds, ∀ e ∈ es, (PyData.eqv (encD d) (encD e) = true ↔ d = e)) → (PyData.eqvAll (ds.map encD) (es.map encD) = true ↔ ds = es)
  | [], [], _ => by simp [PyData.eqvAll]
  | [], e :: es, _ => by simp [PyData.eqvAll]
  | d :: ds, [], _ => by simp [PyData.eqvAll]
  | d :: ds, e :: es, h => by
    have h1 := h d List.mem_cons_self e List.mem_cons_self
    have h2 := eqvAll_iff (ds := ds) (es := es) fun x hx y hy => h x (List.mem_cons_of_mem _ hx) y (List.mem_cons_of_mem _ hy)
    simp [PyData.eqvAll, h1, h2]
theorem Pl.eqv : ∀ {n : Nat} {d e : D}, Pl n d → Pl n e → (PyData.eqv (encD d) (encD e) = true ↔ d = e)
  | 0, d, e, hd, he => by
    cases d <;> simp [Pl] at hd <;> cases e <;> simp [Pl] at he <;> simp [encD, toPy, PyData.eqv]
  | n + 1, d, e, hd, he => by
    cases d <;> simp [Pl] at hd <;> cases e <;> simp [Pl] at he <;> (try rw [encD_tup hd]) <;> (try rw [encD_lst hd]) <;> (try rw [encD_tup he]) <;> (try rw [encD_lst he]) <;> (try simp [encD, toPy, PyData.eqv])
    · exact eqvAll_iff fun x hx y hy => Pl.eqv (hd x hx) (he y hy)
    · exact eqvAll_iff fun x hx y hy => Pl.eqv (hd x hx) (he y hy)
theorem Pl.shaped {n : Nat} {d : D} (h : Pl n d) (hn : n ≤ 64) : SeqAt.shaped (encD d) = true := by
  have := h.enc
  simp only [SeqAt.shaped, this.2.1, Bool.true_and, decide_eq_true_eq]
  omega
theorem eqvB {n : Nat} {d e : D} (hd : Pl n d) (he : Pl n e) : PyData.eqv (encD d) (encD e) = decide (d = e) := by
  rw [Bool.eq_iff_iff, hd.eqv he, decide_eq_true_iff]
theorem pyEq_pl {n : Nat} {d e : D} (hn : n ≤ 64) (hd : Pl n d) (he : Pl n e) : pyEq d e = some (decide (d = e)) := by
  simp only [pyEq, hd.enc.1, he.enc.1, hd.shaped hn, he.shaped hn, Bool.and_self, if_true, eqvB hd he]
theorem eqD_pl (n : Nat) {d e : D} (hd : Pl n d) (he : Pl n e) (hn : n ≤ 64 := by decide) : eqD d e = some (.bl (decide (d = e))) := by
  simp only [eqD, pyEq_pl hn hd he, Option.map_some]
theorem neD_pl (n : Nat) {d e : D} (hd : Pl n d) (he : Pl n e) (hn : n ≤ 64 := by decide) : neD d e = some (.bl (!decide (d = e))) := by
  simp only [neD, pyEq_pl hn hd he, Option.map_some]
theorem any_eqv {n : Nat} {d : D} {es : List D} (hd : Pl n d) (he : ∀ e ∈ es, Pl n e) : ((es.map encD).any fun z => PyData.eqv z (encD d)) = decide (d ∈ es) := by
  rw [Bool.eq_iff_iff, List.any_map, List.any_eq_true, decide_eq_true_iff]
  constructor
  · rintro ⟨e, h1, h2⟩
    have := ((he e h1).eqv hd).mp h2
    exact this ▸ h1
  · intro h
    exact ⟨d, h, (hd.eqv hd).mpr rfl⟩
theorem inLD_pl (n : Nat) (neg : Bool) {d : D} {es : List D} (hd : Pl n d) (he : ∀ e ∈ es, Pl n e) (hn : n ≤ 60 := by decide) : inLD neg d (.lst es) = some (.bl (xor neg (decide (d ∈ es)))) := by
  have h1 := toPys_enc fun e h => (he e h).enc.1
  have h2 : SeqAt.shaped (.list (es.map encD)) = true := by
    have := (Pl.lst he).shaped (by omega)
    rwa [encD_lst he] at this
  simp only [inLD, hd.enc.1, h1, hd.shaped (by omega), h2, Bool.and_self, if_true, any_eqv hd he]
theorem countP_eqv {n : Nat} {d : D} (hd : Pl n d) : ∀ {es : List D}, (∀ e ∈ es, Pl n e) → (es.map encD).countP (fun z => PyData.eqv z (encD d)) = es.count d
  | [], _ => rfl
  | e :: es, h => by
    have h1 := countP_eqv hd (es := es) fun x hx => h x (List.mem_cons_of_mem _ hx)
    have h2 := eqvB (h e List.mem_cons_self) hd
    rw [List.map_cons, List.countP_cons, h1, h2, List.count_cons]
    simp only [beq_iff_eq, decide_eq_true_iff]
theorem cntD_lst (n : Nat) {d : D} {es : List D} (hd : Pl n d) (he : ∀ e ∈ es, Pl n e) (hn : n ≤ 60 := by decide) : cntD (.lst es) d = some (.int (es.count d : Nat)) := by
  have h1 := toPys_enc fun e h => (he e h).enc.1
  have h2 : (encD d).depth ≤ 60 := Nat.le_trans hd.enc.2.2 hn
  simp only [cntD, seqD, hd.enc.1, h1, h2, if_true, countP_eqv hd he]
theorem cntD_tup (n : Nat) {d : D} {es : List D} (hd : Pl n d) (he : ∀ e ∈ es, Pl n e) (hn : n ≤ 60 := by decide) : cntD (.tup es) d = some (.int (es.count d : Nat)) := by
  have h1 := toPys_enc fun e h => (he e h).enc.1
  have h2 : (encD d).depth ≤ 60 := Nat.le_trans hd.enc.2.2 hn
  simp only [cntD, seqD, hd.enc.1, h1, h2, if_true, countP_eqv hd he]
end DL

set_option Elab.async false
set_option linter.all false
set_option maxRecDepth 100000
set_option maxHeartbeats 400000
/-! ME: mirrors evaluated step by step: each word applied to an environment, by words over what its first part came to. `simp only [lift_e, liftK_s, mC_e, mVar_e, mOv_e, mVal_e, rd_v, rd_s, m1_e, m1K_o, m1L_s, m2_e, m2K_o, m2L_o, m2N_s, lstM_s, mn1_e, mn2_e, maNil_e, maCons_e, acK_o, mdNil_e, mdCons_e, dcK_o, rds_n, rds_c, consO_s, mA_e, mnA_e, aK_o, aL_s, fA1_e, fN1_e, mTup_e, mLst_e, mTest_e, mNot_e, mAnd_e, mOr_e, mAndV_e, mOrV_e, mNotV_e, mIfE_e, mChain_e, mNext_e, mSeq_e, mIf_e, mRet_e, mRetW_e, mRetO_e, mDrop_e, mAsg_e, mAsgO_e, gN_e, gs0_e, gsC_e, gT_e, gTL_e, mIt_e, mSeqOf_e, mTupOf_e, mSeqB_e, mFor_e, forL_n, forL_c, mCallP_e, mCallN_e, ownO_e, mCallI_e, mMakeP_e, ownL_e, mMut_e, appF_e, mPutI_e, ownI_e, mSetF_e, mpNone_e, mpSome_e, mSl_e, mCount_e, defG_e, defI_e, defN_e, varK_1, varK_2, ovK_1, ovK_2, ovK_3, ovK_4, valK_1, valK_2, valK_3, datK_1, datK_2, datK_3, datK_4, m1L_1, m1L_2, m1K_1, m1K_2, m1K_3, m2N_1, acL_1, acL_2, acL_3, dcL_1, dcL_2, dcL_3, consO_1, aL_1, aL_2, tupK_1, tupK_2, tupK_3, lstK_1, lstK_2, lstK_3, testK_1, testK_2, notK_1, notK_2, notK_3, andK_1, andK_2, andK_3, andK_4, orK_1, orK_2, orK_3, orK_4, andvK_1, andvK_2, andvK_3, orvK_1, orvK_2, orvK_3, notvK_1, notvK_2, ifeK_1, ifeK_2, ifeK_3, ifeK_4, chN_1, chN_2, chM_1, chL_1, chL_2, chL_3, chK_1, chK_2, chK_3, seqK_1, seqK_2, seqK_3, seqK_4, seqK_5, seqK_6, seqK_7, ifK_1, ifK_2, ifK_3, ifK_4, retK_1, retK_2, retK_3, retwK_1, retwK_2, retwK_3, retoK_1, dropK_1, dropK_2, dropK_3, nxK_1, nxK_2, asgK_1, asgK_2, asgK_3, asgoK_1, asgoK_2, asgoK_3, gscK_1, gscK_2, itK_1, itK_2, itK_3, sqK_1, sqK_2, tqK_1, tqK_2, sbK_1, sbK_2, sbK_3, forK_1, forK_2, forK_3, flL_1, flL_2, flL_3, flL_4, flL_5, flL_6, flL_7, flK_1, flK_2, cpL_1, cpL_2, cpK_1, cpK_2, cpK_3, ownK_1, ownK_2, ciM_1, ciM_2, ciL_1, ciK_1, ciK_2, ciK_3, ciH_1, ciH_2, mkN_1, mkL_1, mkL_2, mkK_1, mkK_2, mkK_3, olK_1, olK_2, muN_1, muN_2, muL_1, muL_2, muK_1, muK_2, muK_3, muH_1, muH_2, puN_1, puN_2, puM_1, puM_2, puL_1, puL_2, puH_1, puH_2, puK_1, puK_2, puK_3, oiK_1, oiK_2, sfL_1, sfL_2, sfK_1, sfK_2, sfK_3, psK_1, psK_2, slN_1, slN_2, slM_1, slM_2, slM_3, slL_1, slL_2, slL_3, slK_1, slK_2, slK_3, cnM_1, cnL_1, cnL_2, cnL_3, cnJ_1, cnJ_2, cnI_1, cnI_2, cnK_1, cnK_2, cnK_3, gD_1, gD_2, io0K_1, gI_1, gI_2, gNw_1, isB_str_non, isB_str_bl, isB_str_int, isB_str_str, isB_str_tup, isB_str_lst, isB_str_dk, isB_list_non, isB_list_bl, isB_list_int, isB_list_str, isB_list_tup, isB_list_lst, isB_list_dk, isB_tuple_non, isB_tuple_bl, isB_tuple_int, isB_tuple_str, isB_tuple_tup, isB_tuple_lst, isB_tuple_dk, isB_int_non, isB_int_bl, isB_int_int, isB_int_str, isB_int_tup, isB_int_lst, isB_int_dk, isB_bool_non, isB_bool_bl, isB_bool_int, isB_bool_str, isB_bool_tup, isB_bool_lst, isB_bool_dk, isB_dict_non, isB_dict_bl, isB_dict_int, isB_dict_str, isB_dict_tup, isB_dict_lst, isB_dict_dk, bK_1, sK_1, fI0_ii, fI_ii, addD_ii, lenD_lst, lenD_tup, tupD_lst, tupD_tup, listD_lst, listD_tup, kindD_lst, kindD_tup, revLD_lst, rown_ow, rown_io, sl_fr, sl_bo, sl_io, entry_n, entry_c, frOk_n, frOk_f, frOk_b, apart_n, apart_v, apart_s, startE, List.length_cons, List.length_nil, List.replicate, List.cons_append, List.nil_append, Nat.reduceAdd, Nat.reduceSub, Nat.zero_add, List.getElem?_cons_zero, List.getElem?_cons_succ, List.set_cons_zero, List.set_cons_succ, if_true, if_false, reduceIte, decide_true, decide_false, Bool.not_true, Bool.not_false, Bool.and_self, Bool.true_and, Bool.and_true, Bool.false_eq_true, LB, Nat.reduceLeDiff, Nat.reduceLT, Nat.reduceBNe, Nat.reduceBEq, ..]` runs a mirror. -/
namespace DL
open PySem L2
section
variable {α β : Type}
def bK (f : α → M β) : Option (R α) → Option (R β)
  | some (.ok a δ) => f a δ
  | some (.ex x δ) => some (.ex x δ)
  | none => none
theorem bind_e (m : M α) (f : α → M β) (δ : En) : M.bind m f δ = bK f (m δ) := by unfold M.bind bK; rcases m δ with _ | (_ | _) <;> rfl
def liftK (o : Option α) (δ : En) : Option (R α) := match o with
  | some a => some (.ok a δ)
  | none => none
theorem lift_e (o : Option α) (δ : En) : M.lift o δ = liftK o δ := (rfl)
theorem liftK_s (a : α) (δ : En) : liftK (some a) δ = some (.ok a δ) := (rfl)
def sK (k : α → Ms) : Option (R α) → Option Ou
  | some (.ok a δ) => k a δ
  | some (.ex x δ) => some (.ex x δ)
  | none => none
theorem mS_e (m : M α) (k : α → Ms) (δ : En) : mS m k δ = sK k (m δ) := by unfold mS sK; rcases m δ with _ | (_ | _) <;> rfl
end
theorem mC_e (d : D) (δ : En) : mC d δ = some (.ok d δ) := (rfl)
def varK (i : Nat) (δ : En) : Option Sl → Option (R D)
  | some (.fr d) => some (.ok d δ)
  | some (.ow d) => some (.ok d (δ.set i (.fr d)))
  | _ => none
theorem mVar_e (i : Nat) (δ : En) : mVar i δ = varK i δ δ[i]? := (rfl)
def ovK (i : Nat) (δ : En) : Option Sl → Option (R Op)
  | some (.fr _) => some (.ok (.slot i) δ)
  | some (.bo _) => some (.ok (.slot i) δ)
  | some (.ow _) => some (.ok (.slot i) δ)
  | some (.io _) => some (.ok (.slot i) δ)
  | _ => none
theorem mOv_e (i : Nat) (δ : En) : mOv i δ = ovK i δ δ[i]? := by unfold mOv ovK; rcases δ[i]? with _ | s <;> first | rfl | (cases s <;> rfl)
def valK : Option (R D) → Option (R Op)
  | some (.ok d δ) => some (.ok (.val d) δ)
  | some (.ex x δ) => some (.ex x δ)
  | none => none
theorem mVal_e (m : M D) (δ : En) : mVal m δ = valK (m δ) := by unfold mVal M.bind valK M.ret; rcases m δ with _ | (_ | _) <;> rfl
def datK : Option Sl → Option D
  | some (.fr d) => some d
  | some (.bo d) => some d
  | some (.ow d) => some d
  | some (.io d) => some d
  | _ => none
theorem rd_v (d : D) (δ : En) : rd (.val d) δ = some d := (rfl)
theorem rd_s (i : Nat) (δ : En) : rd (.slot i) δ = datK δ[i]? := by show (match δ[i]? with | some s => s.dat | none => none) = _; unfold datK; rcases δ[i]? with _ | s <;> first | rfl | (cases s <;> rfl)
theorem mRd_e (o : Op) (δ : En) : mRd o δ = liftK (rd o δ) δ := by unfold mRd liftK; cases rd o δ <;> rfl
def m1L (f : D → Option D) (δ : En) : Option D → Option (R D)
  | some d => liftK (f d) δ
  | none => none
def m1K (f : D → Option D) : Option (R Op) → Option (R D)
  | some (.ok o δ) => m1L f δ (rd o δ)
  | some (.ex x δ) => some (.ex x δ)
  | none => none
theorem m1_e (f : D → Option D) (a : M Op) (δ : En) : m1 f a δ = m1K f (a δ) := by
  unfold m1 m1K
  rw [bind_e]
  rcases a δ with _ | (⟨o, δ'⟩ | _) <;> first | rfl | skip
  simp only [bK, bind_e, mRd]
  unfold m1L
  cases rd o δ' <;> rfl
theorem m1K_o (f : D → Option D) (o : Op) (δ : En) : m1K f (some (.ok o δ)) = m1L f δ (rd o δ) := (rfl)
theorem m1L_s (f : D → Option D) (d : D) (δ : En) : m1L f δ (some d) = liftK (f d) δ := (rfl)
def m2K (f : D → D → Option D) (b : M Op) : Option (R Op) → Option (R D) := bK fun o => b.bind fun q => (mRd o).bind fun d => (mRd q).bind fun e => M.lift (f d e)
def m2L (f : D → D → Option D) (o : Op) : Option (R Op) → Option (R D) := bK fun q => (mRd o).bind fun d => (mRd q).bind fun e => M.lift (f d e)
def m2N (f : D → D → Option D) (δ : En) : Option D → Option D → Option (R D)
  | some d, some e => liftK (f d e) δ
  | _, _ => none
theorem m2_e (f : D → D → Option D) (a b : M Op) (δ : En) : m2 f a b δ = m2K f b (a δ) := by unfold m2 m2K; rw [bind_e]
theorem m2K_o (f : D → D → Option D) (b : M Op) (o : Op) (δ : En) : m2K f b (some (.ok o δ)) = m2L f o (b δ) := by unfold m2K m2L; simp only [bK, bind_e]
theorem m2L_o (f : D → D → Option D) (o q : Op) (δ : En) : m2L f o (some (.ok q δ)) = m2N f δ (rd o δ) (rd q δ) := by
  unfold m2L m2N
  simp only [bK, bind_e, mRd_e, lift_e]
  cases h1 : rd o δ <;> cases h2 : rd q δ <;> simp only [h1, h2, bK, liftK, bind_e, mRd_e, lift_e]
theorem m2N_s (f : D → D → Option D) (d e : D) (δ : En) : m2N f δ (some d) (some e) = liftK (f d e) δ := (rfl)
def lstM : Option (List D) → Option D := Option.map D.lst
theorem lstM_s (ds : List D) : lstM (some ds) = some (.lst ds) := (rfl)
theorem mn1_e (f : D → Option (List D)) (a : M Op) (δ : En) : mn1 f a δ = m1K (fun d => lstM (f d)) (a δ) := m1_e (fun d => lstM (f d)) a δ
theorem mn2_e (f : D → D → Option (List D)) (a b : M Op) (δ : En) : mn2 f a b δ = m2K (fun d e => lstM (f d e)) b (a δ) := m2_e (fun d e => lstM (f d e)) a b δ
/-! arguments -/
theorem maNil_e (δ : En) : maNil δ = some (.ok [] δ) := (rfl)
def acK (b : M (List Op)) : Option (R Op) → Option (R (List Op)) := bK fun o => b.bind fun os => M.ret (o :: os)
def acL (o : Op) : Option (R (List Op)) → Option (R (List Op))
  | some (.ok os δ) => some (.ok (o :: os) δ)
  | some (.ex x δ) => some (.ex x δ)
  | none => none
theorem maCons_e (a : M Op) (b : M (List Op)) (δ : En) : maCons a b δ = acK b (a δ) := by unfold maCons acK; rw [bind_e]
theorem acK_o (b : M (List Op)) (o : Op) (δ : En) : acK b (some (.ok o δ)) = acL o (b δ) := by unfold acK acL; simp only [bK, M.bind, M.ret]; rcases b δ with _ | (_ | _) <;> rfl
theorem mdNil_e (δ : En) : mdNil δ = some (.ok [] δ) := (rfl)
def dcK (b : M (List D)) : Option (R D) → Option (R (List D)) := bK fun o => b.bind fun os => M.ret (o :: os)
def dcL (o : D) : Option (R (List D)) → Option (R (List D))
  | some (.ok os δ) => some (.ok (o :: os) δ)
  | some (.ex x δ) => some (.ex x δ)
  | none => none
theorem mdCons_e (a : M D) (b : M (List D)) (δ : En) : mdCons a b δ = dcK b (a δ) := by unfold mdCons dcK; rw [bind_e]
theorem dcK_o (b : M (List D)) (o : D) (δ : En) : dcK b (some (.ok o δ)) = dcL o (b δ) := by unfold dcK dcL; simp only [bK, M.bind, M.ret]; rcases b δ with _ | (_ | _) <;> rfl
def consO : Option D → Option (List D) → Option (List D)
  | some d, some ds => some (d :: ds)
  | _, _ => none
theorem rds_n (δ : En) : rds [] δ = some [] := (rfl)
theorem rds_c (o : Op) (os : List Op) (δ : En) : rds (o :: os) δ = consO (rd o δ) (rds os δ) := (rfl)
theorem consO_s (d : D) (ds : List D) : consO (some d) (some ds) = some (d :: ds) := (rfl)
theorem mRds_e (os : List Op) (δ : En) : mRds os δ = liftK (rds os δ) δ := by unfold mRds liftK; cases rds os δ <;> rfl
def aK (f : List D → Option D) : Option (R (List Op)) → Option (R D) := bK fun os => (mRds os).bind fun ds => M.lift (f ds)
def aL (f : List D → Option D) (δ : En) : Option (List D) → Option (R D)
  | some ds => liftK (f ds) δ
  | none => none
theorem mA_e (f : List D → Option D) (a : M (List Op)) (δ : En) : mA f a δ = aK f (a δ) := by unfold mA aK; rw [bind_e]
theorem mnA_e (f : List D → Option (List D)) (a : M (List Op)) (δ : En) : mnA f a δ = aK (fun ds => lstM (f ds)) (a δ) := mA_e (fun ds => lstM (f ds)) a δ
theorem aK_o (f : List D → Option D) (os : List Op) (δ : En) : aK f (some (.ok os δ)) = aL f δ (rds os δ) := by unfold aK aL; simp only [bK, M.bind, mRds]; cases rds os δ <;> rfl
theorem aL_s (f : List D → Option D) (ds : List D) (δ : En) : aL f δ (some ds) = liftK (f ds) δ := (rfl)
theorem fA1_e (f : D → Option D) (d : D) : fA1 f [d] = f d := (rfl)
theorem fN1_e (f : D → Option (List D)) (d : D) : fN1 f [d] = f d := (rfl)
def tupK : Option (R (List D)) → Option (R D)
  | some (.ok ds δ) => if ds.length ≤ LB then some (.ok (.tup ds) δ) else none
  | some (.ex x δ) => some (.ex x δ)
  | none => none
theorem mTup_e (a : M (List D)) (δ : En) : mTup a δ = tupK (a δ) := by unfold mTup M.bind tupK M.lift; rcases a δ with _ | (⟨ds, _⟩ | _) <;> first | rfl | (by_cases h : ds.length ≤ LB <;> simp [h])
def lstK : Option (R (List D)) → Option (R D)
  | some (.ok ds δ) => if ds.length ≤ LB then some (.ok (.lst ds) δ) else none
  | some (.ex x δ) => some (.ex x δ)
  | none => none
theorem mLst_e (a : M (List D)) (δ : En) : mLst a δ = lstK (a δ) := by unfold mLst M.bind lstK M.lift; rcases a δ with _ | (⟨ds, _⟩ | _) <;> first | rfl | (by_cases h : ds.length ≤ LB <;> simp [h])
/-! tests -/
def testK : Option (R D) → Option (R Bool)
  | some (.ok (.bl b) δ) => some (.ok b δ)
  | some (.ex x δ) => some (.ex x δ)
  | _ => none
theorem mTest_e (m : M D) (δ : En) : mTest m δ = testK (m δ) := by unfold mTest M.bind testK M.lift; rcases m δ with _ | (⟨d, _⟩ | _) <;> first | rfl | (cases d <;> rfl)
def notK : Option (R Bool) → Option (R Bool)
  | some (.ok b δ) => some (.ok (!b) δ)
  | some (.ex x δ) => some (.ex x δ)
  | none => none
theorem mNot_e (m : M Bool) (δ : En) : mNot m δ = notK (m δ) := by unfold mNot M.bind notK M.ret; rcases m δ with _ | (_ | _) <;> rfl
def andK (b : M Bool) : Option (R Bool) → Option (R Bool)
  | some (.ok true δ) => b δ
  | some (.ok false δ) => some (.ok false δ)
  | some (.ex x δ) => some (.ex x δ)
  | none => none
theorem mAnd_e (a b : M Bool) (δ : En) : mAnd a b δ = andK b (a δ) := by unfold mAnd M.bind andK M.ret; rcases a δ with _ | (⟨k, _⟩ | _) <;> first | rfl | (cases k <;> rfl)
def orK (b : M Bool) : Option (R Bool) → Option (R Bool)
  | some (.ok false δ) => b δ
  | some (.ok true δ) => some (.ok true δ)
  | some (.ex x δ) => some (.ex x δ)
  | none => none
theorem mOr_e (a b : M Bool) (δ : En) : mOr a b δ = orK b (a δ) := by unfold mOr M.bind orK M.ret; rcases a δ with _ | (⟨k, _⟩ | _) <;> first | rfl | (cases k <;> rfl)
def andvK (b : M D) : Option (R D) → Option (R D)
  | some (.ok (.bl true) δ) => b δ
  | some (.ok (.bl false) δ) => some (.ok (.bl false) δ)
  | some (.ex x δ) => some (.ex x δ)
  | _ => none
theorem mAndV_e (a b : M D) (δ : En) : mAndV a b δ = andvK b (a δ) := by
  unfold mAndV M.bind andvK M.ret
  rcases a δ with _ | (⟨k, _⟩ | _) <;> first | rfl | (cases k <;> first | rfl | skip)
  rename_i b' ; cases b' <;> rfl
def orvK (b : M D) : Option (R D) → Option (R D)
  | some (.ok (.bl false) δ) => b δ
  | some (.ok (.bl true) δ) => some (.ok (.bl true) δ)
  | some (.ex x δ) => some (.ex x δ)
  | _ => none
theorem mOrV_e (a b : M D) (δ : En) : mOrV a b δ = orvK b (a δ) := by
  unfold mOrV M.bind orvK M.ret
  rcases a δ with _ | (⟨k, _⟩ | _) <;> first | rfl | (cases k <;> first | rfl | skip)
  rename_i b' ; cases b' <;> rfl
def notvK : Option (R D) → Option (R D)
  | some (.ok (.bl b) δ) => some (.ok (.bl (!b)) δ)
  | some (.ex x δ) => some (.ex x δ)
  | _ => none
theorem mNotV_e (a : M D) (δ : En) : mNotV a δ = notvK (a δ) := by unfold mNotV M.bind notvK M.lift; rcases a δ with _ | (⟨d, _⟩ | _) <;> first | rfl | (cases d <;> rfl)
def ifeK (a b : M D) : Option (R Bool) → Option (R D)
  | some (.ok true δ) => a δ
  | some (.ok false δ) => b δ
  | some (.ex x δ) => some (.ex x δ)
  | none => none
theorem mIfE_e (c : M Bool) (a b : M D) (δ : En) : mIfE c a b δ = ifeK a b (c δ) := by unfold mIfE M.bind ifeK; rcases c δ with _ | (⟨k, _⟩ | _) <;> first | rfl | (cases k <;> rfl)
def chN (g : D → D → Option D) (q : Op) (c : M Op) (δ : En) : Option D → Option (R D)
  | some (.bl true) => m2K (fun e y => g e y) c (some (.ok q δ))
  | some (.bl false) => some (.ok (.bl false) δ)
  | _ => none
def chM (f g : D → D → Option D) (q : Op) (c : M Op) (δ : En) : Option D → Option D → Option (R D)
  | some d, some e => chN g q c δ (f d e)
  | _, _ => none
def chL (f g : D → D → Option D) (o : Op) (c : M Op) : Option (R Op) → Option (R D)
  | some (.ok q δ) => chM f g q c δ (rd o δ) (rd q δ)
  | some (.ex x δ) => some (.ex x δ)
  | none => none
def chK (f g : D → D → Option D) (b c : M Op) : Option (R Op) → Option (R D)
  | some (.ok o δ) => chL f g o c (b δ)
  | some (.ex x δ) => some (.ex x δ)
  | none => none
theorem mChain_e (f g : D → D → Option D) (a b c : M Op) (δ : En) : mChain f g a b c δ = chK f g b c (a δ) := by
  unfold mChain chK
  rw [bind_e]
  rcases a δ with _ | (⟨o, δ1⟩ | _) <;> first | rfl | skip
  simp only [bK, bind_e]
  unfold chL
  rcases b δ1 with _ | (⟨q, δ2⟩ | _) <;> first | rfl | skip
  simp only [bK, mRd]
  unfold chM
  cases rd o δ2 with
  | none => rfl
  | some d =>
    simp only [bK, bind_e, mRd]
    cases rd q δ2 with
    | none => rfl
    | some e =>
      simp only [bK, bind_e, lift_e]
      cases f d e with
      | none => rfl
      | some z =>
        simp only [liftK, bK]
        cases z <;> first | rfl | skip
        rename_i k
        cases k <;> first | rfl | skip
        try simp only [chN, m2K, bK, bind_e]
/-! statements -/
theorem mNext_e (δ : En) : mNext δ = some (.nx δ) := (rfl)
def seqK (b : Ms) : Option Ou → Option Ou
  | some (.nx δ) => b δ
  | some (.rt d δ) => some (.rt d δ)
  | some (.rn d δ) => some (.rn d δ)
  | some (.bk δ) => some (.bk δ)
  | some (.ct δ) => some (.ct δ)
  | some (.ex x δ) => some (.ex x δ)
  | none => none
theorem mSeq_e (a b : Ms) (δ : En) : mSeq a b δ = seqK b (a δ) := by unfold mSeq seqK; rcases a δ with _ | o <;> first | rfl | (cases o <;> rfl)
def ifK (a b : Ms) : Option (R Bool) → Option Ou
  | some (.ok true δ) => a δ
  | some (.ok false δ) => b δ
  | some (.ex x δ) => some (.ex x δ)
  | none => none
theorem mIf_e (c : M Bool) (a b : Ms) (δ : En) : mIf c a b δ = ifK a b (c δ) := by unfold mIf mS ifK; rcases c δ with _ | (⟨k, _⟩ | _) <;> first | rfl | (cases k <;> rfl)
def retK : Option (R D) → Option Ou
  | some (.ok d δ) => some (.rt d δ)
  | some (.ex x δ) => some (.ex x δ)
  | none => none
theorem mRet_e (m : M D) (δ : En) : mRet m δ = retK (m δ) := by unfold mRet mS retK; rcases m δ with _ | (_ | _) <;> rfl
def retwK : Option (R D) → Option Ou
  | some (.ok d δ) => some (.rn d δ)
  | some (.ex x δ) => some (.ex x δ)
  | none => none
theorem mRetW_e (m : M D) (δ : En) : mRetW m δ = retwK (m δ) := by unfold mRetW mS retwK; rcases m δ with _ | (_ | _) <;> rfl
def retoK (δ : En) : Option Sl → Option Ou
  | some (.ow d) => some (.rn d δ)
  | _ => none
theorem mRetO_e (i : Nat) (δ : En) : mRetO i δ = retoK δ δ[i]? := (rfl)
def dropK : Option (R D) → Option Ou
  | some (.ok _ δ) => some (.nx δ)
  | some (.ex x δ) => some (.ex x δ)
  | none => none
theorem mDrop_e (m : M D) (δ : En) : mDrop m δ = dropK (m δ) := by unfold mDrop mS dropK; rcases m δ with _ | (_ | _) <;> rfl
def nxK : Option En → Option Ou
  | some δ => some (.nx δ)
  | none => none
def asgK (g : Mg) : Option (R D) → Option Ou
  | some (.ok d δ) => nxK (g d δ)
  | some (.ex x δ) => some (.ex x δ)
  | none => none
theorem mAsg_e (g : Mg) (m : M D) (δ : En) : mAsg g m δ = asgK g (m δ) := by unfold mAsg mS asgK nxK; rcases m δ with _ | (⟨d, δ'⟩ | _) <;> first | rfl | (simp only []; cases g d δ' <;> rfl)
def asgoK (i : Nat) : Option (R D) → Option Ou
  | some (.ok d δ) => some (.nx (δ.set i (.ow d)))
  | some (.ex x δ) => some (.ex x δ)
  | none => none
theorem mAsgO_e (i : Nat) (m : M D) (δ : En) : mAsgO i m δ = asgoK i (m δ) := by unfold mAsgO mS asgoK; rcases m δ with _ | (_ | _) <;> rfl
theorem gN_e (i : Nat) (d : D) (δ : En) : gN i d δ = some (δ.set i (.fr d)) := (rfl)
theorem gs0_e (δ : En) : gs0 [] δ = some δ := (rfl)
def gscK (b : List D → En → Option En) (r : List D) : Option En → Option En
  | some δ => b r δ
  | none => none
theorem gsC_e (a : Mg) (b : List D → En → Option En) (d : D) (r : List D) (δ : En) : gsC a b (d :: r) δ = gscK b r (a d δ) := by show (match a d δ with | some δ' => b r δ' | none => none) = _; unfold gscK; cases a d δ <;> rfl
theorem gT_e (m : List D → En → Option En) (ds : List D) (δ : En) : gT m (.tup ds) δ = m ds δ := (rfl)
theorem gTL_e (m : List D → En → Option En) (ds : List D) (δ : En) : gTL m (.lst ds) δ = m ds δ := (rfl)
def itK (f : List D → Option (List D)) : Option (R (List D)) → Option (R (List D))
  | some (.ok as δ) => liftK (f as) δ
  | some (.ex x δ) => some (.ex x δ)
  | none => none
theorem mIt_e (f : List D → Option (List D)) (m : M (List D)) (δ : En) : mIt f m δ = itK f (m δ) := by unfold mIt M.bind itK; rcases m δ with _ | (_ | _) <;> rfl
def sqK : Option (R D) → Option (R (List D))
  | some (.ok (.lst ds) δ) => some (.ok ds δ)
  | some (.ex x δ) => some (.ex x δ)
  | _ => none
theorem mSeqOf_e (m : M D) (δ : En) : mSeqOf m δ = sqK (m δ) := by unfold mSeqOf M.bind sqK M.lift; rcases m δ with _ | (⟨d, _⟩ | _) <;> first | rfl | (cases d <;> rfl)
def tqK : Option (R D) → Option (R (List D))
  | some (.ok (.tup ds) δ) => some (.ok ds δ)
  | some (.ex x δ) => some (.ex x δ)
  | _ => none
theorem mTupOf_e (m : M D) (δ : En) : mTupOf m δ = tqK (m δ) := by unfold mTupOf M.bind tqK M.lift; rcases m δ with _ | (⟨d, _⟩ | _) <;> first | rfl | (cases d <;> rfl)
def sbK (i : Nat) (δ : En) : Option Sl → Option (R (List D))
  | some (.bo (.lst ds)) => some (.ok ds δ)
  | some (.fr (.lst ds)) => some (.ok ds δ)
  | some (.ow (.lst ds)) => some (.ok ds (δ.set i (.fr (.lst ds))))
  | _ => none
theorem mSeqB_e (i : Nat) (δ : En) : mSeqB i δ = sbK i δ δ[i]? := by
  unfold mSeqB sbK
  cases h : δ[i]? with
  | none => simp only [mSeqOf_e, mVar_e, h, varK, sqK]
  | some s => cases s with
    | bo d => cases d <;> rfl
    | fr d => simp only [mSeqOf_e, mVar_e, h, varK]; cases d <;> rfl
    | ow d => simp only [mSeqOf_e, mVar_e, h, varK]; cases d <;> rfl
    | _ => simp only [mSeqOf_e, mVar_e, h, varK, sqK]
def forK (g : Mg) (b : Ms) : Option (R (List D)) → Option Ou
  | some (.ok ds δ) => forL g b ds δ
  | some (.ex x δ) => some (.ex x δ)
  | none => none
theorem mFor_e (it : M (List D)) (g : Mg) (b : Ms) (δ : En) : mFor it g b δ = forK g b (it δ) := by unfold mFor mS forK; rcases it δ with _ | (_ | _) <;> rfl
def flL (g : Mg) (b : Ms) (ds : List D) : Option Ou → Option Ou
  | some (.nx δ) => forL g b ds δ
  | some (.ct δ) => forL g b ds δ
  | some (.bk δ) => some (.nx δ)
  | some (.rt d δ) => some (.rt d δ)
  | some (.rn d δ) => some (.rn d δ)
  | some (.ex x δ) => some (.ex x δ)
  | none => none
def flK (g : Mg) (b : Ms) (ds : List D) : Option En → Option Ou
  | some δ => flL g b ds (b δ)
  | none => none
theorem forL_n (g : Mg) (b : Ms) (δ : En) : forL g b [] δ = some (.nx δ) := (rfl)
theorem forL_c (g : Mg) (b : Ms) (d : D) (ds : List D) (δ : En) : forL g b (d :: ds) δ = flK g b ds (g d δ) := by
  unfold forL flK flL
  rcases g d δ with _ | δ1
  · rfl
  · simp only []
    rcases b δ1 with _ | o <;> first | rfl | (cases o <;> rfl)
/-! calls -/
def cpL (ks : List PK) (g : List D → Option D) (os : List Op) (δ : En) : Option (List D) → Option (R D)
  | some ds => if frOk ks os then liftK (g ds) δ else none
  | none => none
def cpK (ks : List PK) (g : List D → Option D) : Option (R (List Op)) → Option (R D)
  | some (.ok os δ) => cpL ks g os δ (rds os δ)
  | some (.ex x δ) => some (.ex x δ)
  | none => none
theorem mCallP_e (ks : List PK) (g : List D → Option D) (a : M (List Op)) (δ : En) : mCallP ks g a δ = cpK ks g (a δ) := by
  unfold mCallP cpK
  rw [bind_e]
  rcases a δ with _ | (⟨os, δ1⟩ | _) <;> first | rfl | skip
  simp only [bK, bind_e, mRds]
  cases rds os δ1 <;> first | rfl | skip
  simp only [bK, cpL]
  rename_i ds
  cases g ds <;> rfl
theorem mCallN_e (ks : List PK) (g : List D → Option D) (a : M (List Op)) (δ : En) : mCallN ks g a δ = cpK ks g (a δ) := mCallP_e ks g a δ
def ownO (δ : En) (i : Nat) : Option (Sl × D) := match δ[i]? with
  | some (.ow d) => some (.ow d, d)
  | some (.io d) => some (.io d, d)
  | _ => none
def ownK : Option Sl → Option (Sl × D)
  | some (.ow d) => some (.ow d, d)
  | some (.io d) => some (.io d, d)
  | _ => none
theorem ownO_e (δ : En) (i : Nat) : ownO δ i = ownK δ[i]? := (rfl)
def ciM (i : Nat) (δ : En) (s : Sl) : Option (D × D) → Option (R D)
  | some p => some (.ok p.1 (δ.set i (reown s p.2)))
  | none => none
def ciL (i : Nat) (ks : List PK) (g : List D → Option (D × D)) (os : List Op) (δ : En) : Option (Sl × D) → Option (List D) → Option (R D)
  | some (s, c), some ds => if frOk ks os && apart i os then ciM i δ s (g (c :: ds)) else none
  | _, _ => none
def ciK (i : Nat) (ks : List PK) (g : List D → Option (D × D)) : Option (R (List Op)) → Option (R D)
  | some (.ok os δ) => ciL i ks g os δ (ownO δ i) (rds os δ)
  | some (.ex x δ) => some (.ex x δ)
  | none => none
def ciH (i : Nat) (ks : List PK) (g : List D → Option (D × D)) (a : M (List Op)) (δ : En) : Option (Sl × D) → Option (R D)
  | some _ => ciK i ks g (a δ)
  | none => none
theorem mCallI_e (i : Nat) (ks : List PK) (g : List D → Option (D × D)) (a : M (List Op)) (δ : En) : mCallI i ks g a δ = ciH i ks g a δ (ownO δ i) := by
  have key : (a.bind fun os => (mRds os).bind fun ds => fun δ1 => match δ1[i]? with
      | some s1 => match s1.own with
        | some c => if frOk ks os && apart i os then (match g (c :: ds) with
          | some p => some (.ok p.1 (δ1.set i (reown s1 p.2)))
          | none => none) else none
        | none => none
      | none => none) δ = ciK i ks g (a δ) := by
    unfold ciK
    rw [bind_e]
    rcases a δ with _ | (⟨os, δ1⟩ | _) <;> first | rfl | skip
    simp only [bK, bind_e, mRds]
    unfold ownO
    cases rds os δ1 with
    | none => simp only [bK]; rcases δ1[i]? with _ | s <;> first | rfl | (cases s <;> rfl)
    | some ds =>
      simp only [bK]
      rcases δ1[i]? with _ | s
      · rfl
      · cases s with
        | ow d => simp only [Sl.own, ciL]; cases g (d :: ds) <;> rfl
        | io d => simp only [Sl.own, ciL]; cases g (d :: ds) <;> rfl
        | _ => rfl
  unfold mCallI ciH ownO
  rcases δ[i]? with _ | s
  · rfl
  · cases s <;> first | rfl | exact key
def mkN (δ : En) : Option (D × D) → Option (R D)
  | some (.non, .ins C ns es) => some (.ok (.ins C ns es) δ)
  | _ => none
def mkL (C : Addr) (ks : List PK) (g : List D → Option (D × D)) (os : List Op) (δ : En) : Option (List D) → Option (R D)
  | some ds => if frOk ks os then mkN δ (g (.ins C [] [] :: ds)) else none
  | none => none
def mkK (C : Addr) (ks : List PK) (g : List D → Option (D × D)) : Option (R (List Op)) → Option (R D)
  | some (.ok os δ) => mkL C ks g os δ (rds os δ)
  | some (.ex x δ) => some (.ex x δ)
  | none => none
theorem mMakeP_e (C : Addr) (ks : List PK) (g : List D → Option (D × D)) (a : M (List Op)) (δ : En) : mMakeP C ks g a δ = mkK C ks g (a δ) := by
  unfold mMakeP mkK
  rw [bind_e]
  rcases a δ with _ | (⟨os, δ1⟩ | _) <;> first | rfl | skip
  simp only [bK, bind_e, mRds]
  cases rds os δ1 <;> first | rfl | skip
/-! own lists changed -/
def olK : Option Sl → Option (Sl × List D)
  | some (.ow (.lst ds)) => some (.ow (.lst ds), ds)
  | some (.io (.lst ds)) => some (.io (.lst ds), ds)
  | _ => none
theorem ownL_e (δ : En) (i : Nat) : ownL δ i = olK δ[i]? := by
  unfold ownL olK
  rcases δ[i]? with _ | s
  · rfl
  · cases s with
    | ow d => cases d <;> rfl
    | io d => cases d <;> rfl
    | _ => rfl
def muN (i : Nat) (δ : En) (s : Sl) : Option (List D × D) → Option (R D)
  | some (nw, res) => some (.ok res (δ.set i (reown s (.lst nw))))
  | none => none
def muL (f : List D → List D → Option (List D × D)) (i : Nat) (as : List D) (δ : En) : Option (Sl × List D) → Option (R D)
  | some (s, ds) => muN i δ s (f ds as)
  | none => none
def muK (f : List D → List D → Option (List D × D)) (i : Nat) : Option (R (List D)) → Option (R D)
  | some (.ok as δ) => muL f i as δ (ownL δ i)
  | some (.ex x δ) => some (.ex x δ)
  | none => none
def muH (f : List D → List D → Option (List D × D)) (i : Nat) (a : M (List D)) (δ : En) : Option (Sl × List D) → Option (R D)
  | some _ => muK f i (a δ)
  | none => none
theorem mMut_e (f : List D → List D → Option (List D × D)) (i : Nat) (a : M (List D)) (δ : En) : mMut f i a δ = muH f i a δ (ownL δ i) := by
  unfold mMut muH
  cases ownL δ i with
  | none => rfl
  | some p =>
    simp only [bind_e]
    unfold muK
    rcases a δ with _ | (⟨as, δ1⟩ | _) <;> first | rfl | skip
    simp only [bK]
    unfold muL
    rcases ownL δ1 i with _ | ⟨s, ds⟩
    · rfl
    · simp only []
      unfold muN
      rcases f ds as with _ | ⟨nw, res⟩ <;> rfl
theorem appF_e (ds : List D) (d : D) : appF ds [d] = if ds.length < 1000000 then some (ds ++ [d], .non) else none := (rfl)
def puN (i : Nat) (d : D) (δ : En) (s : Sl) (ds : List D) : Option Nat → Option Ou
  | some m => some (.nx (δ.set i (reown s (.lst (ds.set m d)))))
  | none => none
def puM (i : Nat) (d : D) (n : Int) (δ : En) : Option (Sl × List D) → Option Ou
  | some (s, ds) => puN i d δ s ds (ixN ds.length n)
  | none => none
def puL (i : Nat) (d : D) : Option (R D) → Option Ou
  | some (.ok (.int n) δ) => puM i d n δ (ownL δ i)
  | some (.ex x δ) => some (.ex x δ)
  | _ => none
def puH (i : Nat) (d : D) (mi : M D) (δ : En) : Option (Sl × List D) → Option Ou
  | some _ => puL i d (mi δ)
  | none => none
def puK (i : Nat) (mi : M D) : Option (R D) → Option Ou
  | some (.ok d δ) => puH i d mi δ (ownL δ i)
  | some (.ex x δ) => some (.ex x δ)
  | none => none
theorem mPutI_e (i : Nat) (mi me : M D) (δ : En) : mPutI i mi me δ = puK i mi (me δ) := by
  unfold mPutI puK
  rw [mS_e]
  rcases me δ with _ | (⟨d, δ1⟩ | _) <;> first | rfl | skip
  simp only [sK, mHas]
  unfold puH
  cases ownL δ1 i with
  | none => rfl
  | some p =>
    simp only [mS_e]
    unfold puL
    rcases mi δ1 with _ | (⟨j, δ2⟩ | _) <;> first | rfl | skip
    simp only [sK]
    cases j <;> rfl
/-! fields -/
def oiK : Option Sl → Option (Sl × Addr × List Str × List D)
  | some (.ow (.ins C ns ds)) => some (.ow (.ins C ns ds), C, ns, ds)
  | some (.io (.ins C ns ds)) => some (.io (.ins C ns ds), C, ns, ds)
  | _ => none
theorem ownI_e (δ : En) (i : Nat) : ownI δ i = oiK δ[i]? := by
  unfold ownI oiK
  rcases δ[i]? with _ | s
  · rfl
  · cases s with
    | ow d => cases d <;> rfl
    | io d => cases d <;> rfl
    | _ => rfl
def sfL (C : Addr) (i : Nat) (f : Str) (d : D) (δ : En) : Option (Sl × Addr × List Str × List D) → Option Ou
  | some (s, C', ns, ds) => if C' = C ∧ ns.length < 100 ∧ f ∉ ns then some (.nx (δ.set i (reown s (.ins C (ns ++ [f]) (ds ++ [d]))))) else none
  | none => none
def sfK (C : Addr) (i : Nat) (f : Str) : Option (R D) → Option Ou
  | some (.ok d δ) => sfL C i f d δ (ownI δ i)
  | some (.ex x δ) => some (.ex x δ)
  | none => none
theorem mSetF_e (C : Addr) (i : Nat) (f : Str) (m : M D) (δ : En) : mSetF C i f m δ = sfK C i f (m δ) := by
  unfold mSetF sfK
  rw [mS_e]
  rcases m δ with _ | (⟨d, δ1⟩ | _) <;> first | rfl | skip
/-! slices, counts -/
theorem mpNone_e (δ : En) : mpNone δ = some (.ok none δ) := (rfl)
def psK : Option (R D) → Option (R (Option Int))
  | some (.ok (.int i) δ) => some (.ok (some i) δ)
  | some (.ex x δ) => some (.ex x δ)
  | _ => none
theorem mpSome_e (m : M D) (δ : En) : mpSome m δ = psK (m δ) := by unfold mpSome M.bind psK M.lift; rcases m δ with _ | (⟨d, _⟩ | _) <;> first | rfl | (cases d <;> rfl)
def slN (f : D → Option Int → Option Int → Option D) (lo hi : Option Int) (δ : En) : Option D → Option (R D)
  | some d => liftK (f d lo hi) δ
  | none => none
def slM (f : D → Option Int → Option Int → Option D) (o : Op) (lo : Option Int) : Option (R (Option Int)) → Option (R D)
  | some (.ok hi δ) => slN f lo hi δ (rd o δ)
  | some (.ex x δ) => some (.ex x δ)
  | none => none
def slL (f : D → Option Int → Option Int → Option D) (o : Op) (u : M (Option Int)) : Option (R (Option Int)) → Option (R D)
  | some (.ok lo δ) => slM f o lo (u δ)
  | some (.ex x δ) => some (.ex x δ)
  | none => none
def slK (f : D → Option Int → Option Int → Option D) (l u : M (Option Int)) : Option (R Op) → Option (R D)
  | some (.ok o δ) => slL f o u (l δ)
  | some (.ex x δ) => some (.ex x δ)
  | none => none
theorem mSl_e (f : D → Option Int → Option Int → Option D) (a : M Op) (l u : M (Option Int)) (δ : En) : mSl f a l u δ = slK f l u (a δ) := by
  unfold mSl slK
  rw [bind_e]
  rcases a δ with _ | (⟨o, δ1⟩ | _) <;> first | rfl | skip
  simp only [bK, bind_e]
  unfold slL
  rcases l δ1 with _ | (⟨lo, δ2⟩ | _) <;> first | rfl | skip
  simp only [bK, bind_e]
  unfold slM
  rcases u δ2 with _ | (⟨hi, δ3⟩ | _) <;> first | rfl | skip
  simp only [bK, bind_e, mRd]
  unfold slN
  cases rd o δ3 <;> rfl
def cnM (k : Bool) (δ : En) : Option D → Option D → Option (R D)
  | some d, some e => liftK (if kindD d = some k then cntD d e else none) δ
  | _, _ => none
def cnL (o : Op) (k : Bool) : Option (R Op) → Option (R D)
  | some (.ok q δ) => cnM k δ (rd o δ) (rd q δ)
  | some (.ex x δ) => some (.ex x δ)
  | none => none
def cnJ (b : M Op) (o : Op) (δ : En) : Option Bool → Option (R D)
  | some k => cnL o k (b δ)
  | none => none
def cnI (b : M Op) (o : Op) (δ : En) : Option D → Option (R D)
  | some d => cnJ b o δ (kindD d)
  | none => none
def cnK (b : M Op) : Option (R Op) → Option (R D)
  | some (.ok o δ) => cnI b o δ (rd o δ)
  | some (.ex x δ) => some (.ex x δ)
  | none => none
theorem mCount_e (a b : M Op) (δ : En) : mCount a b δ = cnK b (a δ) := by
  unfold mCount cnK
  rw [bind_e]
  rcases a δ with _ | (⟨o, δ1⟩ | _) <;> first | rfl | skip
  simp only [bK, bind_e, mRd]
  unfold cnI
  cases rd o δ1 with
  | none => rfl
  | some d0 =>
    simp only [bK]
    unfold cnJ
    cases kindD d0 with
    | none => rfl
    | some k =>
      simp only [bind_e]
      unfold cnL
      rcases b δ1 with _ | (⟨q, δ2⟩ | _) <;> first | rfl | skip
      simp only [bK, bind_e, mRd]
      unfold cnM
      cases rd o δ2 with
      | none => rfl
      | some d =>
        simp only [bK, bind_e, mRd]
        cases rd q δ2 <;> rfl
def gD : Option Ou → Option D
  | some (.rt d _) => some d
  | some (.nx _) => some .non
  | _ => none
theorem defG_e (n : Nat) (ks : List PK) (m : Ms) (ds : List D) : defG n ks m ds = gD (m (startE n (entry ks ds))) := by unfold defG gD; rcases m (startE n (entry ks ds)) with _ | o <;> first | rfl | (cases o <;> rfl)
def io0K (d : D) : Option Sl → Option (D × D)
  | some (.io e) => some (d, e)
  | _ => none
def gI : Option Ou → Option (D × D)
  | some (.rt d δ) => io0K d δ[(0 : Nat)]?
  | some (.nx δ) => io0K .non δ[(0 : Nat)]?
  | _ => none
theorem io0_map (δ : En) (d : D) : ((io0 δ).map fun e => (d, e)) = io0K d δ[(0 : Nat)]? := by
  unfold io0 io0K
  rcases δ[(0 : Nat)]? with _ | s <;> first | rfl | (cases s <;> rfl)
theorem defI_e (n : Nat) (ks : List PK) (m : Ms) (ds : List D) : defI n ks m ds = gI (m (startE n (entry (.io :: ks) ds))) := by
  unfold defI gI
  rcases m (startE n (entry (.io :: ks) ds)) with _ | o <;> first | rfl | skip
  cases o <;> first | rfl | exact io0_map _ _
def gNw : Option Ou → Option D
  | some (.rn d _) => some d
  | _ => none
theorem defN_e (n : Nat) (ks : List PK) (m : Ms) (ds : List D) : defN n ks m ds = gNw (m (startE n (entry ks ds))) := by unfold defN gNw; rcases m (startE n (entry ks ds)) with _ | o <;> first | rfl | (cases o <;> rfl)
end DL

set_option Elab.async false
set_option linter.all false
set_option maxRecDepth 100000
/-! MF: printed by mk_ev.py: an equation for each way of the words over outcomes. -/
namespace DL
open PySem L2
theorem varK_1 {i} {δ} {d} : varK i δ (some (.fr d)) = some (.ok d δ) := (rfl)
theorem varK_2 {i} {δ} {d} : varK i δ (some (.ow d)) = some (.ok d (δ.set i (.fr d))) := (rfl)
theorem ovK_1 {i} {δ} {u0} : ovK i δ (some (.fr u0)) = some (.ok (.slot i) δ) := (rfl)
theorem ovK_2 {i} {δ} {u0} : ovK i δ (some (.bo u0)) = some (.ok (.slot i) δ) := (rfl)
theorem ovK_3 {i} {δ} {u0} : ovK i δ (some (.ow u0)) = some (.ok (.slot i) δ) := (rfl)
theorem ovK_4 {i} {δ} {u0} : ovK i δ (some (.io u0)) = some (.ok (.slot i) δ) := (rfl)
theorem valK_1 {d} {δ} : valK  (some (.ok d δ)) = some (.ok (.val d) δ) := (rfl)
theorem valK_2 {x} {δ} : valK  (some (.ex x δ)) = some (.ex x δ) := (rfl)
theorem valK_3  : valK  (none) = none := (rfl)
theorem datK_1 {d} : datK  (some (.fr d)) = some d := (rfl)
theorem datK_2 {d} : datK  (some (.bo d)) = some d := (rfl)
theorem datK_3 {d} : datK  (some (.ow d)) = some d := (rfl)
theorem datK_4 {d} : datK  (some (.io d)) = some d := (rfl)
theorem m1L_1 {f} {δ} {d} : m1L f δ (some d) = liftK (f d) δ := (rfl)
theorem m1L_2 {f} {δ} : m1L f δ (none) = none := (rfl)
theorem m1K_1 {f} {o} {δ} : m1K f (some (.ok o δ)) = m1L f δ (rd o δ) := (rfl)
theorem m1K_2 {f} {x} {δ} : m1K f (some (.ex x δ)) = some (.ex x δ) := (rfl)
theorem m1K_3 {f} : m1K f (none) = none := (rfl)
theorem m2N_1 {f} {δ} {d} {e} : m2N f δ (some d) (some e) = liftK (f d e) δ := (rfl)
theorem acL_1 {o} {os} {δ} : acL o (some (.ok os δ)) = some (.ok (o :: os) δ) := (rfl)
theorem acL_2 {o} {x} {δ} : acL o (some (.ex x δ)) = some (.ex x δ) := (rfl)
theorem acL_3 {o} : acL o (none) = none := (rfl)
theorem dcL_1 {o} {os} {δ} : dcL o (some (.ok os δ)) = some (.ok (o :: os) δ) := (rfl)
theorem dcL_2 {o} {x} {δ} : dcL o (some (.ex x δ)) = some (.ex x δ) := (rfl)
theorem dcL_3 {o} : dcL o (none) = none := (rfl)
theorem consO_1 {d} {ds} : consO  (some d) (some ds) = some (d :: ds) := (rfl)
theorem aL_1 {f} {δ} {ds} : aL f δ (some ds) = liftK (f ds) δ := (rfl)
theorem aL_2 {f} {δ} : aL f δ (none) = none := (rfl)
theorem tupK_1 {ds} {δ} : tupK  (some (.ok ds δ)) = if ds.length ≤ LB then some (.ok (.tup ds) δ) else none := (rfl)
theorem tupK_2 {x} {δ} : tupK  (some (.ex x δ)) = some (.ex x δ) := (rfl)
theorem tupK_3  : tupK  (none) = none := (rfl)
theorem lstK_1 {ds} {δ} : lstK  (some (.ok ds δ)) = if ds.length ≤ LB then some (.ok (.lst ds) δ) else none := (rfl)
theorem lstK_2 {x} {δ} : lstK  (some (.ex x δ)) = some (.ex x δ) := (rfl)
theorem lstK_3  : lstK  (none) = none := (rfl)
theorem testK_1 {b} {δ} : testK  (some (.ok (.bl b) δ)) = some (.ok b δ) := (rfl)
theorem testK_2 {x} {δ} : testK  (some (.ex x δ)) = some (.ex x δ) := (rfl)
theorem notK_1 {b} {δ} : notK  (some (.ok b δ)) = some (.ok (!b) δ) := (rfl)
theorem notK_2 {x} {δ} : notK  (some (.ex x δ)) = some (.ex x δ) := (rfl)
theorem notK_3  : notK  (none) = none := (rfl)
theorem andK_1 {b} {δ} : andK b (some (.ok true δ)) = b δ := (rfl)
theorem andK_2 {b} {δ} : andK b (some (.ok false δ)) = some (.ok false δ) := (rfl)
theorem andK_3 {b} {x} {δ} : andK b (some (.ex x δ)) = some (.ex x δ) := (rfl)
theorem andK_4 {b} : andK b (none) = none := (rfl)
theorem orK_1 {b} {δ} : orK b (some (.ok false δ)) = b δ := (rfl)
theorem orK_2 {b} {δ} : orK b (some (.ok true δ)) = some (.ok true δ) := (rfl)
theorem orK_3 {b} {x} {δ} : orK b (some (.ex x δ)) = some (.ex x δ) := (rfl)
theorem orK_4 {b} : orK b (none) = none := (rfl)
theorem andvK_1 {b} {δ} : andvK b (some (.ok (.bl true) δ)) = b δ := (rfl)
theorem andvK_2 {b} {δ} : andvK b (some (.ok (.bl false) δ)) = some (.ok (.bl false) δ) := (rfl)
theorem andvK_3 {b} {x} {δ} : andvK b (some (.ex x δ)) = some (.ex x δ) := (rfl)
theorem orvK_1 {b} {δ} : orvK b (some (.ok (.bl false) δ)) = b δ := (rfl)
theorem orvK_2 {b} {δ} : orvK b (some (.ok (.bl true) δ)) = some (.ok (.bl true) δ) := (rfl)
theorem orvK_3 {b} {x} {δ} : orvK b (some (.ex x δ)) = some (.ex x δ) := (rfl)
theorem notvK_1 {b} {δ} : notvK  (some (.ok (.bl b) δ)) = some (.ok (.bl (!b)) δ) := (rfl)
theorem notvK_2 {x} {δ} : notvK  (some (.ex x δ)) = some (.ex x δ) := (rfl)
theorem ifeK_1 {a} {b} {δ} : ifeK a b (some (.ok true δ)) = a δ := (rfl)
theorem ifeK_2 {a} {b} {δ} : ifeK a b (some (.ok false δ)) = b δ := (rfl)
theorem ifeK_3 {a} {b} {x} {δ} : ifeK a b (some (.ex x δ)) = some (.ex x δ) := (rfl)
theorem ifeK_4 {a} {b} : ifeK a b (none) = none := (rfl)
theorem chN_1 {g} {q} {c} {δ} : chN g q c δ (some (.bl true)) = m2K (fun e y => g e y) c (some (.ok q δ)) := (rfl)
theorem chN_2 {g} {q} {c} {δ} : chN g q c δ (some (.bl false)) = some (.ok (.bl false) δ) := (rfl)
theorem chM_1 {f} {g} {q} {c} {δ} {d} {e} : chM f g q c δ (some d) (some e) = chN g q c δ (f d e) := (rfl)
theorem chL_1 {f} {g} {o} {c} {q} {δ} : chL f g o c (some (.ok q δ)) = chM f g q c δ (rd o δ) (rd q δ) := (rfl)
theorem chL_2 {f} {g} {o} {c} {x} {δ} : chL f g o c (some (.ex x δ)) = some (.ex x δ) := (rfl)
theorem chL_3 {f} {g} {o} {c} : chL f g o c (none) = none := (rfl)
theorem chK_1 {f} {g} {b} {c} {o} {δ} : chK f g b c (some (.ok o δ)) = chL f g o c (b δ) := (rfl)
theorem chK_2 {f} {g} {b} {c} {x} {δ} : chK f g b c (some (.ex x δ)) = some (.ex x δ) := (rfl)
theorem chK_3 {f} {g} {b} {c} : chK f g b c (none) = none := (rfl)
theorem seqK_1 {b} {δ} : seqK b (some (.nx δ)) = b δ := (rfl)
theorem seqK_2 {b} {d} {δ} : seqK b (some (.rt d δ)) = some (.rt d δ) := (rfl)
theorem seqK_3 {b} {d} {δ} : seqK b (some (.rn d δ)) = some (.rn d δ) := (rfl)
theorem seqK_4 {b} {δ} : seqK b (some (.bk δ)) = some (.bk δ) := (rfl)
theorem seqK_5 {b} {δ} : seqK b (some (.ct δ)) = some (.ct δ) := (rfl)
theorem seqK_6 {b} {x} {δ} : seqK b (some (.ex x δ)) = some (.ex x δ) := (rfl)
theorem seqK_7 {b} : seqK b (none) = none := (rfl)
theorem ifK_1 {a} {b} {δ} : ifK a b (some (.ok true δ)) = a δ := (rfl)
theorem ifK_2 {a} {b} {δ} : ifK a b (some (.ok false δ)) = b δ := (rfl)
theorem ifK_3 {a} {b} {x} {δ} : ifK a b (some (.ex x δ)) = some (.ex x δ) := (rfl)
theorem ifK_4 {a} {b} : ifK a b (none) = none := (rfl)
theorem retK_1 {d} {δ} : retK  (some (.ok d δ)) = some (.rt d δ) := (rfl)
theorem retK_2 {x} {δ} : retK  (some (.ex x δ)) = some (.ex x δ) := (rfl)
theorem retK_3  : retK  (none) = none := (rfl)
theorem retwK_1 {d} {δ} : retwK  (some (.ok d δ)) = some (.rn d δ) := (rfl)
theorem retwK_2 {x} {δ} : retwK  (some (.ex x δ)) = some (.ex x δ) := (rfl)
theorem retwK_3  : retwK  (none) = none := (rfl)
theorem retoK_1 {δ} {d} : retoK δ (some (.ow d)) = some (.rn d δ) := (rfl)
theorem dropK_1 {u0} {δ} : dropK  (some (.ok u0 δ)) = some (.nx δ) := (rfl)
theorem dropK_2 {x} {δ} : dropK  (some (.ex x δ)) = some (.ex x δ) := (rfl)
theorem dropK_3  : dropK  (none) = none := (rfl)
theorem nxK_1 {δ} : nxK  (some δ) = some (.nx δ) := (rfl)
theorem nxK_2  : nxK  (none) = none := (rfl)
theorem asgK_1 {g} {d} {δ} : asgK g (some (.ok d δ)) = nxK (g d δ) := (rfl)
theorem asgK_2 {g} {x} {δ} : asgK g (some (.ex x δ)) = some (.ex x δ) := (rfl)
theorem asgK_3 {g} : asgK g (none) = none := (rfl)
theorem asgoK_1 {i} {d} {δ} : asgoK i (some (.ok d δ)) = some (.nx (δ.set i (.ow d))) := (rfl)
theorem asgoK_2 {i} {x} {δ} : asgoK i (some (.ex x δ)) = some (.ex x δ) := (rfl)
theorem asgoK_3 {i} : asgoK i (none) = none := (rfl)
theorem gscK_1 {b} {r} {δ} : gscK b r (some δ) = b r δ := (rfl)
theorem gscK_2 {b} {r} : gscK b r (none) = none := (rfl)
theorem itK_1 {f} {as} {δ} : itK f (some (.ok as δ)) = liftK (f as) δ := (rfl)
theorem itK_2 {f} {x} {δ} : itK f (some (.ex x δ)) = some (.ex x δ) := (rfl)
theorem itK_3 {f} : itK f (none) = none := (rfl)
theorem sqK_1 {ds} {δ} : sqK  (some (.ok (.lst ds) δ)) = some (.ok ds δ) := (rfl)
theorem sqK_2 {x} {δ} : sqK  (some (.ex x δ)) = some (.ex x δ) := (rfl)
theorem tqK_1 {ds} {δ} : tqK  (some (.ok (.tup ds) δ)) = some (.ok ds δ) := (rfl)
theorem tqK_2 {x} {δ} : tqK  (some (.ex x δ)) = some (.ex x δ) := (rfl)
theorem sbK_1 {i} {δ} {ds} : sbK i δ (some (.bo (.lst ds))) = some (.ok ds δ) := (rfl)
theorem sbK_2 {i} {δ} {ds} : sbK i δ (some (.fr (.lst ds))) = some (.ok ds δ) := (rfl)
theorem sbK_3 {i} {δ} {ds} : sbK i δ (some (.ow (.lst ds))) = some (.ok ds (δ.set i (.fr (.lst ds)))) := (rfl)
theorem forK_1 {g} {b} {ds} {δ} : forK g b (some (.ok ds δ)) = forL g b ds δ := (rfl)
theorem forK_2 {g} {b} {x} {δ} : forK g b (some (.ex x δ)) = some (.ex x δ) := (rfl)
theorem forK_3 {g} {b} : forK g b (none) = none := (rfl)
theorem flL_1 {g} {b} {ds} {δ} : flL g b ds (some (.nx δ)) = forL g b ds δ := (rfl)
theorem flL_2 {g} {b} {ds} {δ} : flL g b ds (some (.ct δ)) = forL g b ds δ := (rfl)
theorem flL_3 {g} {b} {ds} {δ} : flL g b ds (some (.bk δ)) = some (.nx δ) := (rfl)
theorem flL_4 {g} {b} {ds} {d} {δ} : flL g b ds (some (.rt d δ)) = some (.rt d δ) := (rfl)
theorem flL_5 {g} {b} {ds} {d} {δ} : flL g b ds (some (.rn d δ)) = some (.rn d δ) := (rfl)
theorem flL_6 {g} {b} {ds} {x} {δ} : flL g b ds (some (.ex x δ)) = some (.ex x δ) := (rfl)
theorem flL_7 {g} {b} {ds} : flL g b ds (none) = none := (rfl)
theorem flK_1 {g} {b} {ds} {δ} : flK g b ds (some δ) = flL g b ds (b δ) := (rfl)
theorem flK_2 {g} {b} {ds} : flK g b ds (none) = none := (rfl)
theorem cpL_1 {ks} {g} {os} {δ} {ds} : cpL ks g os δ (some ds) = if frOk ks os then liftK (g ds) δ else none := (rfl)
theorem cpL_2 {ks} {g} {os} {δ} : cpL ks g os δ (none) = none := (rfl)
theorem cpK_1 {ks} {g} {os} {δ} : cpK ks g (some (.ok os δ)) = cpL ks g os δ (rds os δ) := (rfl)
theorem cpK_2 {ks} {g} {x} {δ} : cpK ks g (some (.ex x δ)) = some (.ex x δ) := (rfl)
theorem cpK_3 {ks} {g} : cpK ks g (none) = none := (rfl)
theorem ownK_1 {d} : ownK  (some (.ow d)) = some (.ow d, d) := (rfl)
theorem ownK_2 {d} : ownK  (some (.io d)) = some (.io d, d) := (rfl)
theorem ciM_1 {i} {δ} {s} {p} : ciM i δ s (some p) = some (.ok p.1 (δ.set i (reown s p.2))) := (rfl)
theorem ciM_2 {i} {δ} {s} : ciM i δ s (none) = none := (rfl)
theorem ciL_1 {i} {ks} {g} {os} {δ} {s} {c} {ds} : ciL i ks g os δ (some (s, c)) (some ds) = if frOk ks os && apart i os then ciM i δ s (g (c :: ds)) else none := (rfl)
theorem ciK_1 {i} {ks} {g} {os} {δ} : ciK i ks g (some (.ok os δ)) = ciL i ks g os δ (ownO δ i) (rds os δ) := (rfl)
theorem ciK_2 {i} {ks} {g} {x} {δ} : ciK i ks g (some (.ex x δ)) = some (.ex x δ) := (rfl)
theorem ciK_3 {i} {ks} {g} : ciK i ks g (none) = none := (rfl)
theorem ciH_1 {i} {ks} {g} {a} {δ} {u0} : ciH i ks g a δ (some u0) = ciK i ks g (a δ) := (rfl)
theorem ciH_2 {i} {ks} {g} {a} {δ} : ciH i ks g a δ (none) = none := (rfl)
theorem mkN_1 {δ} {C} {ns} {es} : mkN δ (some (.non, .ins C ns es)) = some (.ok (.ins C ns es) δ) := (rfl)
theorem mkL_1 {C} {ks} {g} {os} {δ} {ds} : mkL C ks g os δ (some ds) = if frOk ks os then mkN δ (g (.ins C [] [] :: ds)) else none := (rfl)
theorem mkL_2 {C} {ks} {g} {os} {δ} : mkL C ks g os δ (none) = none := (rfl)
theorem mkK_1 {C} {ks} {g} {os} {δ} : mkK C ks g (some (.ok os δ)) = mkL C ks g os δ (rds os δ) := (rfl)
theorem mkK_2 {C} {ks} {g} {x} {δ} : mkK C ks g (some (.ex x δ)) = some (.ex x δ) := (rfl)
theorem mkK_3 {C} {ks} {g} : mkK C ks g (none) = none := (rfl)
theorem olK_1 {ds} : olK  (some (.ow (.lst ds))) = some (.ow (.lst ds), ds) := (rfl)
theorem olK_2 {ds} : olK  (some (.io (.lst ds))) = some (.io (.lst ds), ds) := (rfl)
theorem muN_1 {i} {δ} {s} {nw} {res} : muN i δ s (some (nw, res)) = some (.ok res (δ.set i (reown s (.lst nw)))) := (rfl)
theorem muN_2 {i} {δ} {s} : muN i δ s (none) = none := (rfl)
theorem muL_1 {f} {i} {as} {δ} {s} {ds} : muL f i as δ (some (s, ds)) = muN i δ s (f ds as) := (rfl)
theorem muL_2 {f} {i} {as} {δ} : muL f i as δ (none) = none := (rfl)
theorem muK_1 {f} {i} {as} {δ} : muK f i (some (.ok as δ)) = muL f i as δ (ownL δ i) := (rfl)
theorem muK_2 {f} {i} {x} {δ} : muK f i (some (.ex x δ)) = some (.ex x δ) := (rfl)
theorem muK_3 {f} {i} : muK f i (none) = none := (rfl)
theorem muH_1 {f} {i} {a} {δ} {u0} : muH f i a δ (some u0) = muK f i (a δ) := (rfl)
theorem muH_2 {f} {i} {a} {δ} : muH f i a δ (none) = none := (rfl)
theorem puN_1 {i} {d} {δ} {s} {ds} {m} : puN i d δ s ds (some m) = some (.nx (δ.set i (reown s (.lst (ds.set m d))))) := (rfl)
theorem puN_2 {i} {d} {δ} {s} {ds} : puN i d δ s ds (none) = none := (rfl)
theorem puM_1 {i} {d} {n} {δ} {s} {ds} : puM i d n δ (some (s, ds)) = puN i d δ s ds (ixN ds.length n) := (rfl)
theorem puM_2 {i} {d} {n} {δ} : puM i d n δ (none) = none := (rfl)
theorem puL_1 {i} {d} {n} {δ} : puL i d (some (.ok (.int n) δ)) = puM i d n δ (ownL δ i) := (rfl)
theorem puL_2 {i} {d} {x} {δ} : puL i d (some (.ex x δ)) = some (.ex x δ) := (rfl)
theorem puH_1 {i} {d} {mi} {δ} {u0} : puH i d mi δ (some u0) = puL i d (mi δ) := (rfl)
theorem puH_2 {i} {d} {mi} {δ} : puH i d mi δ (none) = none := (rfl)
theorem puK_1 {i} {mi} {d} {δ} : puK i mi (some (.ok d δ)) = puH i d mi δ (ownL δ i) := (rfl)
theorem puK_2 {i} {mi} {x} {δ} : puK i mi (some (.ex x δ)) = some (.ex x δ) := (rfl)
theorem puK_3 {i} {mi} : puK i mi (none) = none := (rfl)
theorem oiK_1 {C} {ns} {ds} : oiK  (some (.ow (.ins C ns ds))) = some (.ow (.ins C ns ds), C, ns, ds) := (rfl)
theorem oiK_2 {C} {ns} {ds} : oiK  (some (.io (.ins C ns ds))) = some (.io (.ins C ns ds), C, ns, ds) := (rfl)
theorem sfL_1 {C} {i} {f} {d} {δ} {s} {C'} {ns} {ds} : sfL C i f d δ (some (s, C', ns, ds)) = if C' = C ∧ ns.length < 100 ∧ f ∉ ns then some (.nx (δ.set i (reown s (.ins C (ns ++ [f]) (ds ++ [d]))))) else none := (rfl)
theorem sfL_2 {C} {i} {f} {d} {δ} : sfL C i f d δ (none) = none := (rfl)
theorem sfK_1 {C} {i} {f} {d} {δ} : sfK C i f (some (.ok d δ)) = sfL C i f d δ (ownI δ i) := (rfl)
theorem sfK_2 {C} {i} {f} {x} {δ} : sfK C i f (some (.ex x δ)) = some (.ex x δ) := (rfl)
theorem sfK_3 {C} {i} {f} : sfK C i f (none) = none := (rfl)
theorem psK_1 {i} {δ} : psK  (some (.ok (.int i) δ)) = some (.ok (some i) δ) := (rfl)
theorem psK_2 {x} {δ} : psK  (some (.ex x δ)) = some (.ex x δ) := (rfl)
theorem slN_1 {f} {lo} {hi} {δ} {d} : slN f lo hi δ (some d) = liftK (f d lo hi) δ := (rfl)
theorem slN_2 {f} {lo} {hi} {δ} : slN f lo hi δ (none) = none := (rfl)
theorem slM_1 {f} {o} {lo} {hi} {δ} : slM f o lo (some (.ok hi δ)) = slN f lo hi δ (rd o δ) := (rfl)
theorem slM_2 {f} {o} {lo} {x} {δ} : slM f o lo (some (.ex x δ)) = some (.ex x δ) := (rfl)
theorem slM_3 {f} {o} {lo} : slM f o lo (none) = none := (rfl)
theorem slL_1 {f} {o} {u} {lo} {δ} : slL f o u (some (.ok lo δ)) = slM f o lo (u δ) := (rfl)
theorem slL_2 {f} {o} {u} {x} {δ} : slL f o u (some (.ex x δ)) = some (.ex x δ) := (rfl)
theorem slL_3 {f} {o} {u} : slL f o u (none) = none := (rfl)
theorem slK_1 {f} {l} {u} {o} {δ} : slK f l u (some (.ok o δ)) = slL f o u (l δ) := (rfl)
theorem slK_2 {f} {l} {u} {x} {δ} : slK f l u (some (.ex x δ)) = some (.ex x δ) := (rfl)
theorem slK_3 {f} {l} {u} : slK f l u (none) = none := (rfl)
theorem cnM_1 {k} {δ} {d} {e} : cnM k δ (some d) (some e) = liftK (if kindD d = some k then cntD d e else none) δ := (rfl)
theorem cnL_1 {o} {k} {q} {δ} : cnL o k (some (.ok q δ)) = cnM k δ (rd o δ) (rd q δ) := (rfl)
theorem cnL_2 {o} {k} {x} {δ} : cnL o k (some (.ex x δ)) = some (.ex x δ) := (rfl)
theorem cnL_3 {o} {k} : cnL o k (none) = none := (rfl)
theorem cnJ_1 {b} {o} {δ} {k} : cnJ b o δ (some k) = cnL o k (b δ) := (rfl)
theorem cnJ_2 {b} {o} {δ} : cnJ b o δ (none) = none := (rfl)
theorem cnI_1 {b} {o} {δ} {d} : cnI b o δ (some d) = cnJ b o δ (kindD d) := (rfl)
theorem cnI_2 {b} {o} {δ} : cnI b o δ (none) = none := (rfl)
theorem cnK_1 {b} {o} {δ} : cnK b (some (.ok o δ)) = cnI b o δ (rd o δ) := (rfl)
theorem cnK_2 {b} {x} {δ} : cnK b (some (.ex x δ)) = some (.ex x δ) := (rfl)
theorem cnK_3 {b} : cnK b (none) = none := (rfl)
theorem gD_1 {d} {u0} : gD  (some (.rt d u0)) = some d := (rfl)
theorem gD_2 {u0} : gD  (some (.nx u0)) = some .non := (rfl)
theorem io0K_1 {d} {e} : io0K d (some (.io e)) = some (d, e) := (rfl)
theorem gI_1 {d} {δ} : gI  (some (.rt d δ)) = io0K d δ[(0 : Nat)]? := (rfl)
theorem gI_2 {δ} : gI  (some (.nx δ)) = io0K .non δ[(0 : Nat)]? := (rfl)
theorem gNw_1 {d} {u0} : gNw  (some (.rn d u0)) = some d := (rfl)
theorem isB_str_non  : isB "str" .non = some (.bl false) := (rfl)
theorem isB_str_bl {z : Bool} : isB "str" (.bl z) = some (.bl false) := (rfl)
theorem isB_str_int {z : Int} : isB "str" (.int z) = some (.bl false) := (rfl)
theorem isB_str_str {z : Str} : isB "str" (.str z) = some (.bl true) := (rfl)
theorem isB_str_tup {z : List D} : isB "str" (.tup z) = some (.bl false) := (rfl)
theorem isB_str_lst {z : List D} : isB "str" (.lst z) = some (.bl false) := (rfl)
theorem isB_str_dk {z : List Key} {y : List D} : isB "str" (.dk z y) = some (.bl false) := (rfl)
theorem isB_list_non  : isB "list" .non = some (.bl false) := (rfl)
theorem isB_list_bl {z : Bool} : isB "list" (.bl z) = some (.bl false) := (rfl)
theorem isB_list_int {z : Int} : isB "list" (.int z) = some (.bl false) := (rfl)
theorem isB_list_str {z : Str} : isB "list" (.str z) = some (.bl false) := (rfl)
theorem isB_list_tup {z : List D} : isB "list" (.tup z) = some (.bl false) := (rfl)
theorem isB_list_lst {z : List D} : isB "list" (.lst z) = some (.bl true) := (rfl)
theorem isB_list_dk {z : List Key} {y : List D} : isB "list" (.dk z y) = some (.bl false) := (rfl)
theorem isB_tuple_non  : isB "tuple" .non = some (.bl false) := (rfl)
theorem isB_tuple_bl {z : Bool} : isB "tuple" (.bl z) = some (.bl false) := (rfl)
theorem isB_tuple_int {z : Int} : isB "tuple" (.int z) = some (.bl false) := (rfl)
theorem isB_tuple_str {z : Str} : isB "tuple" (.str z) = some (.bl false) := (rfl)
theorem isB_tuple_tup {z : List D} : isB "tuple" (.tup z) = some (.bl true) := (rfl)
theorem isB_tuple_lst {z : List D} : isB "tuple" (.lst z) = some (.bl false) := (rfl)
theorem isB_tuple_dk {z : List Key} {y : List D} : isB "tuple" (.dk z y) = some (.bl false) := (rfl)
theorem isB_int_non  : isB "int" .non = some (.bl false) := (rfl)
theorem isB_int_bl {z : Bool} : isB "int" (.bl z) = some (.bl true) := (rfl)
theorem isB_int_int {z : Int} : isB "int" (.int z) = some (.bl true) := (rfl)
theorem isB_int_str {z : Str} : isB "int" (.str z) = some (.bl false) := (rfl)
theorem isB_int_tup {z : List D} : isB "int" (.tup z) = some (.bl false) := (rfl)
theorem isB_int_lst {z : List D} : isB "int" (.lst z) = some (.bl false) := (rfl)
theorem isB_int_dk {z : List Key} {y : List D} : isB "int" (.dk z y) = some (.bl false) := (rfl)
theorem isB_bool_non  : isB "bool" .non = some (.bl false) := (rfl)
theorem isB_bool_bl {z : Bool} : isB "bool" (.bl z) = some (.bl true) := (rfl)
theorem isB_bool_int {z : Int} : isB "bool" (.int z) = some (.bl false) := (rfl)
theorem isB_bool_str {z : Str} : isB "bool" (.str z) = some (.bl false) := (rfl)
theorem isB_bool_tup {z : List D} : isB "bool" (.tup z) = some (.bl false) := (rfl)
theorem isB_bool_lst {z : List D} : isB "bool" (.lst z) = some (.bl false) := (rfl)
theorem isB_bool_dk {z : List Key} {y : List D} : isB "bool" (.dk z y) = some (.bl false) := (rfl)
theorem isB_dict_non  : isB "dict" .non = some (.bl false) := (rfl)
theorem isB_dict_bl {z : Bool} : isB "dict" (.bl z) = some (.bl false) := (rfl)
theorem isB_dict_int {z : Int} : isB "dict" (.int z) = some (.bl false) := (rfl)
theorem isB_dict_str {z : Str} : isB "dict" (.str z) = some (.bl false) := (rfl)
theorem isB_dict_tup {z : List D} : isB "dict" (.tup z) = some (.bl false) := (rfl)
theorem isB_dict_lst {z : List D} : isB "dict" (.lst z) = some (.bl false) := (rfl)
theorem isB_dict_dk {z : List Key} {y : List D} : isB "dict" (.dk z y) = some (.bl true) := (rfl)
theorem bK_1 {α β : Type} {f : α → M β} {a : α} {δ : En} : bK f (some (.ok a δ)) = f a δ := (rfl)
theorem sK_1 {α : Type} {f : α → Ms} {a : α} {δ : En} : sK f (some (.ok a δ)) = f a δ := (rfl)
theorem fI0_ii {g : Int → Int → D} {i j : Int} : fI0 g (.int i) (.int j) = some (g i j) := (rfl)
theorem fI_ii {C : Int → Int → Bool} {g : Int → Int → D} {i j : Int} : fI C g (.int i) (.int j) = if C i j then some (g i j) else none := (rfl)
theorem addD_ii {i j : Int} : addD (.int i) (.int j) = some (.int (i + j)) := (rfl)
theorem lenD_lst {ds : List D} : lenD (.lst ds) = some (.int ds.length) := (rfl)
theorem lenD_tup {ds : List D} : lenD (.tup ds) = some (.int ds.length) := (rfl)
theorem tupD_lst {ds : List D} : tupD (.lst ds) = some (.tup ds) := (rfl)
theorem tupD_tup {ds : List D} : tupD (.tup ds) = some (.tup ds) := (rfl)
theorem listD_lst {ds : List D} : listD (.lst ds) = some ds := (rfl)
theorem listD_tup {ds : List D} : listD (.tup ds) = some ds := (rfl)
theorem kindD_lst {ds : List D} : DL.kindD (.lst ds) = some false := (rfl)
theorem kindD_tup {ds : List D} : DL.kindD (.tup ds) = some true := (rfl)
theorem revLD_lst {ds : List D} : revLD (.lst ds) = some ds.reverse := (rfl)
theorem rown_ow {d e : D} : reown (.ow d) e = .ow e := (rfl)
theorem rown_io {d e : D} : reown (.io d) e = .io e := (rfl)
theorem sl_fr {d : D} : PK.sl .fr d = .fr d := (rfl)
theorem sl_bo {d : D} : PK.sl .bo d = .bo d := (rfl)
theorem sl_io {d : D} : PK.sl .io d = .io d := (rfl)
theorem entry_n {ds : List D} : entry [] ds = [] := (rfl)
theorem entry_c {k : PK} {ks : List PK} {d : D} {ds : List D} : entry (k :: ks) (d :: ds) = k.sl d :: entry ks ds := (rfl)
theorem frOk_n : frOk [] [] = true := (rfl)
theorem frOk_f {ks : List PK} {d : D} {os : List Op} : frOk (.fr :: ks) (.val d :: os) = frOk ks os := (rfl)
theorem frOk_b {ks : List PK} {o : Op} {os : List Op} : frOk (.bo :: ks) (o :: os) = frOk ks os := by cases o <;> rfl
theorem apart_n {i : Nat} : apart i [] = true := (rfl)
theorem apart_v {i : Nat} {d : D} {os : List Op} : apart i (.val d :: os) = apart i os := (rfl)
theorem apart_s {i j : Nat} {os : List Op} : apart i (.slot j :: os) = (j != i && apart i os) := (rfl)
end DL

set_option Elab.async false
set_option linter.all false
set_option maxRecDepth 100000
set_option maxHeartbeats 400000
/-! MAc: loops by an invariant over how far they are. -/
namespace DL
open PySem L2
theorem forL_from {α : Type} (enc : α → D) (g : Mg) (b : Ms) (Inv : Nat → En → Prop) : ∀ (as pre : List α) (δ : En), Inv pre.length δ →
    (∀ (i : Nat) (a : α) δ, (pre ++ as)[i]? = some a → Inv i δ → ∃ δ1 δ2, g (enc a) δ = some δ1 ∧ b δ1 = some (.nx δ2) ∧ Inv (i + 1) δ2) → ∃ δ', forL g b (as.map enc) δ = some (.nx δ') ∧ Inv (pre ++ as).length δ'
  | [], pre, δ, h, _ => ⟨δ, rfl, by rw [List.append_nil]; exact h⟩
  | a :: as, pre, δ, h, hs => by
    have e : pre ++ a :: as = (pre ++ [a]) ++ as := by simp
    obtain ⟨δ1, δ2, h1, h2, h3⟩ := hs pre.length a δ (by simp) h
    obtain ⟨δ', h4, h5⟩ := forL_from enc g b Inv as (pre ++ [a]) δ2 (by simpa using h3) (by rw [← e]; exact hs)
    refine ⟨δ', ?_, by rw [e]; exact h5⟩
    rw [List.map_cons]
    simp only [forL, h1, h2]
    exact h4
/-- a loop over as, by what holds behind i turns -/
theorem forL_ix {α : Type} {enc : α → D} {g : Mg} {b : Ms} {as : List α} (Inv : Nat → En → Prop) {δ : En} (h0 : Inv 0 δ)
    (hs : ∀ (i : Nat) (a : α) δ, as[i]? = some a → Inv i δ → ∃ δ1 δ2, g (enc a) δ = some δ1 ∧ b δ1 = some (.nx δ2) ∧ Inv (i + 1) δ2) : ∃ δ', forL g b (as.map enc) δ = some (.nx δ') ∧ Inv as.length δ' :=
  forL_from enc g b Inv as [] δ h0 hs
theorem lcL_from {α : Type} (enc : α → D) (g : Mg) (t : M Bool) (e : M D) (vs : List Nat) (Inv : Nat → List D → En → Prop) : ∀ (as pre : List α) (acc : List D) (δ : En), Inv pre.length acc δ →
    (∀ (i : Nat) (a : α) acc δ, (pre ++ as)[i]? = some a → Inv i acc δ → ∃ δ1 b δ2, g (enc a) δ = some δ1 ∧ t δ1 = some (.ok b δ2) ∧ (b = false → Inv (i + 1) acc (wipeE δ2 vs)) ∧ (b = true → ∃ y δ3, e δ2 = some (.ok y δ3) ∧ Inv (i + 1) (acc ++ [y]) (wipeE δ3 vs))) →
    ∃ out δ', lcL g t e vs acc (as.map enc) δ = some (.ok out δ') ∧ Inv (pre ++ as).length out δ'
  | [], pre, acc, δ, h, _ => ⟨acc, δ, rfl, by rw [List.append_nil]; exact h⟩
  | a :: as, pre, acc, δ, h, hs => by
    have e' : pre ++ a :: as = (pre ++ [a]) ++ as := by simp
    obtain ⟨δ1, b, δ2, h1, h2, h3, h4⟩ := hs pre.length a acc δ (by simp) h
    cases b with
    | false =>
      obtain ⟨out, δ', h5, h6⟩ := lcL_from enc g t e vs Inv as (pre ++ [a]) acc _ (by simpa using h3 rfl) (by rw [← e']; exact hs)
      refine ⟨out, δ', ?_, by rw [e']; exact h6⟩
      rw [List.map_cons]
      simp only [lcL, h1, h2]
      exact h5
    | true =>
      obtain ⟨y, δ3, h7, h8⟩ := h4 rfl
      obtain ⟨out, δ', h5, h6⟩ := lcL_from enc g t e vs Inv as (pre ++ [a]) (acc ++ [y]) _ (by simpa using h8) (by rw [← e']; exact hs)
      refine ⟨out, δ', ?_, by rw [e']; exact h6⟩
      rw [List.map_cons]
      simp only [lcL, h1, h2, h7]
      exact h5
/-- a comprehension over as, with a test or none, by what holds behind i turns -/
theorem mLc_ix {α : Type} {as : List α} {enc : α → D} {it : M (List D)} {g : Mg} {t : M Bool} {e : M D} {vs : List Nat} {δ δ0 : En} (Inv : Nat → List D → En → Prop) (hit : it δ = some (.ok (as.map enc) δ0)) (h0 : Inv 0 [] (wipeE δ0 vs))
    (hs : ∀ (i : Nat) (a : α) acc δ, as[i]? = some a → Inv i acc δ → ∃ δ1 b δ2, g (enc a) δ = some δ1 ∧ t δ1 = some (.ok b δ2) ∧ (b = false → Inv (i + 1) acc (wipeE δ2 vs)) ∧ (b = true → ∃ y δ3, e δ2 = some (.ok y δ3) ∧ Inv (i + 1) (acc ++ [y]) (wipeE δ3 vs))) :
    ∃ out δ', mLc it g t e vs δ = some (.ok (.lst out) δ') ∧ Inv as.length out δ' := by
  obtain ⟨out, δ', h1, h2⟩ := lcL_from enc g t e vs Inv as [] [] _ h0 hs
  refine ⟨out, δ', ?_, h2⟩
  unfold mLc M.bind
  simp only [hit, h1]
/-- a pure comprehension with a test -/
theorem lcL_filter {α : Type} (enc f : α → D) (p : α → Bool) (g : Mg) (t : M Bool) (e : M D) (vs : List Nat) (ω : En) : ∀ (as : List α) (acc : List D), (∀ a ∈ as, ∃ δ1 δ2, g (enc a) ω = some δ1 ∧ t δ1 = some (.ok (p a) δ2) ∧ wipeE δ2 vs = ω ∧ (p a = true → ∃ δ3, e δ2 = some (.ok (f a) δ3) ∧ wipeE δ3 vs = ω)) →
    lcL g t e vs acc (as.map enc) ω = some (.ok (acc ++ (as.filter p).map f) ω)
  | [], acc, _ => by simp [lcL]
  | a :: as, acc, h => by
    obtain ⟨δ1, δ2, h1, h2, h3, h4⟩ := h a List.mem_cons_self
    rw [List.map_cons]
    have ih := fun acc => lcL_filter enc f p g t e vs ω as acc fun a' m => h a' (List.mem_cons_of_mem _ m)
    cases hp : p a with
    | false =>
      rw [hp] at h2
      simp only [lcL, h1, h2, h3]
      rw [ih, List.filter_cons_of_neg (by simp [hp])]
    | true =>
      rw [hp] at h2
      obtain ⟨δ3, h5, h6⟩ := h4 hp
      simp only [lcL, h1, h2, h5, h6]
      rw [ih, List.filter_cons_of_pos hp, List.map_cons, List.append_assoc]
      rfl
theorem mLc_filter {α : Type} {as : List α} {enc f : α → D} (p : α → Bool) {it : M (List D)} {g : Mg} {t : M Bool} {e : M D} {vs : List Nat} {δ δ0 ω : En} (hit : it δ = some (.ok (as.map enc) δ0)) (hw : wipeE δ0 vs = ω)
    (h : ∀ a ∈ as, ∃ δ1 δ2, g (enc a) ω = some δ1 ∧ t δ1 = some (.ok (p a) δ2) ∧ wipeE δ2 vs = ω ∧ (p a = true → ∃ δ3, e δ2 = some (.ok (f a) δ3) ∧ wipeE δ3 vs = ω)) : mLc it g t e vs δ = some (.ok (.lst ((as.filter p).map f)) ω) := by
  unfold mLc M.bind
  simp only [hit, hw, lcL_filter enc f p g t e vs ω as [] h, List.nil_append]
theorem mulOk_r {i j : Int} (h : -1000000 ≤ j ∧ j ≤ 1000000) : mulOk i j = true := by
  unfold mulOk small64
  simp only [Bool.or_eq_true, Bool.and_eq_true, decide_eq_true_eq]
  right
  omega
end DL

set_option linter.all false
/-! PGa: plain arithmetic: factorials, products, ways to change about. -/
namespace PG
def fac : Nat → Nat
  | 0 => 1
  | n + 1 => fac n * (n + 1)
theorem fac_pos : ∀ n, 0 < fac n
  | 0 => Nat.one_pos
  | n + 1 => Nat.mul_pos (fac_pos n) (Nat.succ_pos n)
theorem fac_mono {n m : Nat} (h : n ≤ m) : fac n ≤ fac m := by
  induction h with
  | refl => exact Nat.le_refl _
  | step _ ih => exact Nat.le_trans ih (Nat.le_mul_of_pos_right _ (Nat.succ_pos _))
/-- the product -/
def pr : List Nat → Nat
  | [] => 1
  | n :: ns => n * pr ns
theorem pr_app : ∀ xs ys : List Nat, pr (xs ++ ys) = pr xs * pr ys
  | [], ys => (Nat.one_mul _).symm
  | x :: xs, ys => by rw [List.cons_append, pr, pr, pr_app xs ys, Nat.mul_assoc]
theorem pr_perm {xs ys : List Nat} (h : xs.Perm ys) : pr xs = pr ys := by
  induction h with
  | nil => rfl
  | cons x _ ih => rw [pr, pr, ih]
  | swap x y l => rw [pr, pr, pr, pr, ← Nat.mul_assoc, ← Nat.mul_assoc, Nat.mul_comm y x]
  | trans _ _ a b => exact a.trans b
theorem pr_mul {α : Type} (f g : α → Nat) : ∀ xs : List α, pr (xs.map fun x => f x * g x) = pr (xs.map f) * pr (xs.map g)
  | [] => rfl
  | x :: xs => by
    rw [List.map_cons, List.map_cons, List.map_cons, pr, pr, pr, pr_mul f g xs]
    rw [Nat.mul_assoc, Nat.mul_assoc, Nat.mul_left_comm (g x)]
theorem pr_one {α : Type} (f : α → Nat) : ∀ xs : List α, (∀ x ∈ xs, f x = 1) → pr (xs.map f) = 1
  | [], _ => rfl
  | x :: xs, h => by rw [List.map_cons, pr, h x List.mem_cons_self, pr_one f xs fun y hy => h y (List.mem_cons_of_mem _ hy)]
theorem pr_congr {α : Type} {f g : α → Nat} {xs : List α} (h : ∀ x ∈ xs, f x = g x) : pr (xs.map f) = pr (xs.map g) := by
  rw [List.map_congr_left h]
theorem pr_at {α : Type} [DecidableEq α] (x : α) (n : Nat) : ∀ ns : List α, ns.Nodup → x ∈ ns → pr (ns.map fun y => if y = x then n else 1) = n
  | [], _, h => by cases h
  | y :: ns, nd, h => by
    rw [List.map_cons, pr]
    have nd' := List.nodup_cons.mp nd
    by_cases e : y = x
    · subst e
      rw [if_pos rfl, pr_one _ ns (fun z hz => if_neg fun (e : z = y) => nd'.1 (e ▸ hz)), Nat.mul_one]
    · rw [if_neg e, Nat.one_mul]
      exact pr_at x n ns nd'.2 ((List.mem_cons.mp h).resolve_left fun z => e z.symm)
section
variable {α : Type} [DecidableEq α]
/-- the ways, one by one: each behind those that are like it -/
def rk : List α → List α → Nat
  | _, [] => 1
  | pre, x :: xs => (1 + pre.count x) * rk (pre ++ [x]) xs
def ways (ns xs : List α) : Nat := pr (ns.map fun n => fac (xs.count n))
theorem ways_snoc {ns : List α} (nd : ns.Nodup) (xs : List α) {x : α} (h : x ∈ ns) : ways ns (xs ++ [x]) = ways ns xs * (1 + xs.count x) := by
  unfold ways
  rw [← pr_at x (1 + xs.count x) ns nd h, ← pr_mul]
  refine pr_congr fun y _ => ?_
  rw [List.count_append]
  by_cases e : y = x
  · subst e
    rw [if_pos rfl, List.count_singleton_self, fac, Nat.add_comm 1]
  · rw [if_neg e, Nat.mul_one]
    have : List.count y [x] = 0 := List.count_eq_zero_of_not_mem (by simpa using e)
    rw [this, Nat.add_zero]
theorem ways_rk {ns : List α} (nd : ns.Nodup) : ∀ (xs pre : List α), (∀ x ∈ xs, x ∈ ns) → ways ns (pre ++ xs) = ways ns pre * rk pre xs
  | [], pre, _ => by rw [List.append_nil, rk, Nat.mul_one]
  | x :: xs, pre, h => by
    have e : pre ++ x :: xs = (pre ++ [x]) ++ xs := by simp
    rw [e, ways_rk nd xs (pre ++ [x]) fun y hy => h y (List.mem_cons_of_mem _ hy), ways_snoc nd pre (h x List.mem_cons_self), rk, Nat.mul_assoc]
theorem ways_eq {ns xs : List α} (nd : ns.Nodup) (h : ∀ x ∈ xs, x ∈ ns) : ways ns xs = rk [] xs := by
  have := ways_rk nd xs [] h
  rw [List.nil_append] at this
  rw [this]
  have : ways ns [] = 1 := pr_one _ ns fun x _ => rfl
  rw [this, Nat.one_mul]
theorem ways_perm {ns xs ys : List α} (p : xs.Perm ys) : ways ns xs = ways ns ys := by
  unfold ways
  exact pr_congr fun x _ => by rw [p.count_eq]
/-- the ways of corners and of ends: each corner behind those like it, then its ends -/
def ch {β : Type} [DecidableEq β] (own : α → List β) : List α → List α → Nat
  | _, [] => 1
  | pre, x :: xs => (1 + pre.count x) * rk [] (own x) * ch own (pre ++ [x]) xs
theorem ch_eq {β : Type} [DecidableEq β] (own : α → List β) : ∀ (xs pre : List α), ch own pre xs = rk pre xs * pr (xs.map fun x => rk [] (own x))
  | [], _ => rfl
  | x :: xs, pre => by
    rw [ch, rk, List.map_cons, pr, ch_eq own xs]
    rw [Nat.mul_assoc, Nat.mul_assoc]
    congr 1
    exact Nat.mul_left_comm _ _ _
end
theorem pr_map_perm {α : Type} {f : α → Nat} {xs ys : List α} (p : xs.Perm ys) : pr (xs.map f) = pr (ys.map f) := pr_perm (p.map f)
end PG

set_option Elab.async false
set_option linter.all false
set_option maxRecDepth 100000
set_option maxHeartbeats 400000
/-! PMa: printed by gen.py: what the defs on stocks, and the laws' drawing helpers, compute. -/
namespace G
open PySem L2 DL
structure Cs where
  stock : Addr
  drawing : Addr
  weights : Addr
  desk : Addr
abbrev N_is_name : List Str := ["thing", "letter"]
def E_is_name_0 (c : Cs) : M D := m2 (inSignD false) (mOv 1) (mVal (mC (.str "abcdefghijklmnopqrstuvwxyz")))
def L_is_name_0 (c : Cs) : M D := mLc (mTxtOf (mVar 0)) (gN 1) mYes (E_is_name_0 c) [1]
def m_is_name (c : Cs) : Ms := mSeq (mIf (mOr (mNot (mTest (m1 (isB "str") (mOv 0)))) (mNot (mTest (mChain (fI0 fun i j => .bl (decide (i ≤ j))) (fI0 fun i j => .bl (decide (i ≤ j))) (mVal (mC (.int 1))) (mVal (mA (fA1 lenD) (maCons (mOv 0) maNil))) (mVal (mC (.int 8))))))) (mRet (mC (.bl false))) (mNext)) (mRet (mA (fA1 allD) (maCons (mVal (L_is_name_0 c)) maNil)))
def g_is_name (c : Cs) : List D → Option D := defG 2 [.fr] (m_is_name c)
abbrev N_is_sort_row : List Str := ["thing"]
def m_is_sort_row (c : Cs) : Ms := mRet (mAndV (m1 (isB "tuple") (mOv 0)) (mAndV (m2 eqD (mVal (mA (fA1 lenD) (maCons (mOv 0) maNil))) (mVal (mC (.int 2)))) (mAndV (mCallP [.fr] (g_is_name c) (maCons (mVal (m2 ixD (mOv 0) (mVal (mC (.int 0))))) maNil)) (mCallP [.fr] (g_is_name c) (maCons (mVal (m2 ixD (mOv 0) (mVal (mC (.int 1))))) maNil)))))
def g_is_sort_row (c : Cs) : List D → Option D := defG 1 [.fr] (m_is_sort_row c)
abbrev N_are_sorts : List Str := ["thing", "row", "sort", "partner"]
def E_are_sorts_0 (c : Cs) : M D := mCallP [.fr] (g_is_sort_row c) (maCons (mVal (mVar 1)) maNil)
def L_are_sorts_0 (c : Cs) : M D := mLc (mSeqB 0) (gN 1) mYes (E_are_sorts_0 c) [1]
def E_are_sorts_1 (c : Cs) : M D := mVar 2
def L_are_sorts_1 (c : Cs) : M D := mLc (mSeqB 0) (gT (gsC (gN 2) (gsC (gN 3) gs0))) mYes (E_are_sorts_1 c) [2, 3]
def E_are_sorts_2 (c : Cs) : M D := m2 (inLD false) (mVal (mTup (mdCons (mVar 3) (mdCons (mVar 2) mdNil)))) (mOv 0)
def L_are_sorts_2 (c : Cs) : M D := mLc (mSeqB 0) (gT (gsC (gN 2) (gsC (gN 3) gs0))) mYes (E_are_sorts_2 c) [2, 3]
def m_are_sorts (c : Cs) : Ms := mSeq (mIf (mOr (mNot (mTest (m1 (isB "list") (mOv 0)))) (mOr (mNot (mTest (mChain (fI0 fun i j => .bl (decide (i ≤ j))) (fI0 fun i j => .bl (decide (i ≤ j))) (mVal (mC (.int 1))) (mVal (mA (fA1 lenD) (maCons (mOv 0) maNil))) (mVal (mC (.int 3)))))) (mNot (mTest (mA (fA1 allD) (maCons (mVal (L_are_sorts_0 c)) maNil)))))) (mRet (mC (.bl false))) (mNext)) (mSeq (mIf (mTest (m2 (fI0 fun i j => .bl (decide (i < j))) (mVal (mA (fA1 lenSetD) (maCons (mVal (L_are_sorts_1 c)) maNil))) (mVal (mA (fA1 lenD) (maCons (mOv 0) maNil))))) (mRet (mC (.bl false))) (mNext)) (mRet (mA (fA1 allD) (maCons (mVal (L_are_sorts_2 c)) maNil))))
def g_are_sorts (c : Cs) : List D → Option D := defG 4 [.bo] (m_are_sorts c)
abbrev N_is_kind_row : List Str := ["thing", "sorts", "ends", "sort"]
def E_is_kind_row_0 (c : Cs) : M D := mCallP [.fr] (g_is_name c) (maCons (mVal (mVar 3)) maNil)
def L_is_kind_row_0 (c : Cs) : M D := mLc (mTupOf (mVar 2)) (gN 3) mYes (E_is_kind_row_0 c) [3]
def E_is_kind_row_1 (c : Cs) : M D := m2 (inLD false) (mOv 3) (mOv 1)
def L_is_kind_row_1 (c : Cs) : M D := mLc (mTupOf (mVar 2)) (gN 3) mYes (E_is_kind_row_1 c) [3]
def m_is_kind_row (c : Cs) : Ms := mSeq (mIf (mOr (mNot (mTest (m1 (isB "tuple") (mOv 0)))) (mOr (mTest (m2 neD (mVal (mA (fA1 lenD) (maCons (mOv 0) maNil))) (mVal (mC (.int 2))))) (mNot (mTest (mCallP [.fr] (g_is_name c) (maCons (mVal (m2 ixD (mOv 0) (mVal (mC (.int 0))))) maNil)))))) (mRet (mC (.bl false))) (mNext)) (mSeq (mAsg (gN 2) (m2 ixD (mOv 0) (mVal (mC (.int 1))))) (mSeq (mIf (mOr (mNot (mTest (m1 (isB "tuple") (mOv 2)))) (mOr (mNot (mTest (mChain (fI0 fun i j => .bl (decide (i ≤ j))) (fI0 fun i j => .bl (decide (i ≤ j))) (mVal (mC (.int 1))) (mVal (mA (fA1 lenD) (maCons (mOv 2) maNil))) (mVal (mC (.int 5)))))) (mNot (mTest (mA (fA1 allD) (maCons (mVal (L_is_kind_row_0 c)) maNil)))))) (mRet (mC (.bl false))) (mNext)) (mRet (mAndV (mA (fA1 allD) (maCons (mVal (L_is_kind_row_1 c)) maNil)) (m2 eqD (mVal (mnA (fN1 listD) (maCons (mOv 2) maNil))) (mVal (mnA (fN1 sortF) (maCons (mOv 2) maNil))))))))
def g_is_kind_row (c : Cs) : List D → Option D := defG 4 [.fr, .fr] (m_is_kind_row c)
abbrev N_are_kinds : List Str := ["thing", "sorts", "row", "name", "ends"]
def E_are_kinds_0 (c : Cs) : M D := mCallP [.fr, .fr] (g_is_kind_row c) (maCons (mVal (mVar 2)) (maCons (mVal (mVar 1)) maNil))
def L_are_kinds_0 (c : Cs) : M D := mLc (mSeqB 0) (gN 2) mYes (E_are_kinds_0 c) [2]
def E_are_kinds_1 (c : Cs) : M D := mVar 3
def L_are_kinds_1 (c : Cs) : M D := mLc (mSeqB 0) (gT (gsC (gN 3) (gsC (gN 4) gs0))) mYes (E_are_kinds_1 c) [3, 4]
def m_are_kinds (c : Cs) : Ms := mSeq (mIf (mOr (mNot (mTest (m1 (isB "list") (mOv 0)))) (mNot (mTest (mChain (fI0 fun i j => .bl (decide (i ≤ j))) (fI0 fun i j => .bl (decide (i ≤ j))) (mVal (mC (.int 1))) (mVal (mA (fA1 lenD) (maCons (mOv 0) maNil))) (mVal (mC (.int 4))))))) (mRet (mC (.bl false))) (mNext)) (mSeq (mIf (mNot (mTest (mA (fA1 allD) (maCons (mVal (L_are_kinds_0 c)) maNil)))) (mRet (mC (.bl false))) (mNext)) (mRet (m2 eqD (mVal (mA (fA1 lenSetD) (maCons (mVal (L_are_kinds_1 c)) maNil))) (mVal (mA (fA1 lenD) (maCons (mOv 0) maNil))))))
def g_are_kinds (c : Cs) : List D → Option D := defG 5 [.bo, .fr] (m_are_kinds c)
abbrev N_Stock___init__ : List Str := ["self", "sorts", "kinds", "sort", "partner"]
def E_Stock___init___0 (c : Cs) : M D := mVar 3
def L_Stock___init___0 (c : Cs) : M D := mLc (mSeqB 1) (gT (gsC (gN 3) (gsC (gN 4) gs0))) mYes (E_Stock___init___0 c) [3, 4]
def m_Stock___init__ (c : Cs) : Ms := mSeq (mIf (mNot (mTest (mCallP [.bo] (g_are_sorts c) (maCons (mOv 1) maNil)))) (mNever) (mNext)) (mSeq (mIf (mNot (mTest (mCallP [.bo, .fr] (g_are_kinds c) (maCons (mOv 2) (maCons (mVal (L_Stock___init___0 c)) maNil))))) (mNever) (mNext)) (mSeq (mSetF c.stock 0 "sorts" (mnA (fN1 listD) (maCons (mOv 1) maNil))) (mSetF c.stock 0 "kinds" (mnA (fN1 listD) (maCons (mOv 2) maNil)))))
def g_Stock___init__ (c : Cs) : List D → Option (D × D) := defI 5 [.bo, .bo] (m_Stock___init__ c)
abbrev N_is_sort : List Str := ["stock", "thing"]
def m_is_sort (c : Cs) : Ms := mRet (mAndV (m1 (isB "str") (mOv 1)) (m2 (dinD false) (mOv 1) (mVal (mA (fA1 dictD) (maCons (mVal (m1 (fldD [c.stock] "sorts") (mOv 0))) maNil)))))
def g_is_sort (c : Cs) : List D → Option D := defG 2 [.fr, .fr] (m_is_sort c)
abbrev N_is_kind : List Str := ["stock", "thing"]
def m_is_kind (c : Cs) : Ms := mRet (mAndV (m1 (isB "str") (mOv 1)) (m2 (dinD false) (mOv 1) (mVal (mA (fA1 dictD) (maCons (mVal (m1 (fldD [c.stock] "kinds") (mOv 0))) maNil)))))
def g_is_kind (c : Cs) : List D → Option D := defG 2 [.fr, .fr] (m_is_kind c)
abbrev N_ends_of : List Str := ["stock", "kind"]
def m_ends_of (c : Cs) : Ms := mRet (m2 dgetD (mVal (mA (fA1 dictD) (maCons (mVal (m1 (fldD [c.stock] "kinds") (mOv 0))) maNil))) (mOv 1))
def g_ends_of (c : Cs) : List D → Option D := defG 2 [.fr, .fr] (m_ends_of c)
abbrev N_are_corners : List Str := ["stock", "thing", "kind"]
def E_are_corners_0 (c : Cs) : M D := mCallP [.fr, .fr] (g_is_kind c) (maCons (mVal (mVar 0)) (maCons (mVal (mVar 2)) maNil))
def L_are_corners_0 (c : Cs) : M D := mLc (mSeqB 1) (gN 2) mYes (E_are_corners_0 c) [2]
def m_are_corners (c : Cs) : Ms := mRet (mAndV (m1 (isB "list") (mOv 1)) (mAndV (m2 (fI0 fun i j => .bl (decide (i ≤ j))) (mVal (mA (fA1 lenD) (maCons (mOv 1) maNil))) (mVal (mC (.int 6)))) (mA (fA1 allD) (maCons (mVal (L_are_corners_0 c)) maNil))))
def g_are_corners (c : Cs) : List D → Option D := defG 3 [.fr, .bo] (m_are_corners c)
abbrev N_is_leg : List Str := ["stock", "thing"]
def m_is_leg (c : Cs) : Ms := mRet (mAndV (m1 (isB "tuple") (mOv 1)) (mAndV (m2 eqD (mVal (mA (fA1 lenD) (maCons (mOv 1) maNil))) (mVal (mC (.int 2)))) (mAndV (mCallP [.fr] (g_is_name c) (maCons (mVal (m2 ixD (mOv 1) (mVal (mC (.int 0))))) maNil)) (mCallP [.fr, .fr] (g_is_sort c) (maCons (mVal (mVar 0)) (maCons (mVal (m2 ixD (mOv 1) (mVal (mC (.int 1))))) maNil))))))
def g_is_leg (c : Cs) : List D → Option D := defG 2 [.fr, .fr] (m_is_leg c)
abbrev N_are_legs : List Str := ["stock", "thing", "leg", "name", "sort"]
def E_are_legs_0 (c : Cs) : M D := mCallP [.fr, .fr] (g_is_leg c) (maCons (mVal (mVar 0)) (maCons (mVal (mVar 2)) maNil))
def L_are_legs_0 (c : Cs) : M D := mLc (mSeqB 1) (gN 2) mYes (E_are_legs_0 c) [2]
def E_are_legs_1 (c : Cs) : M D := mVar 3
def L_are_legs_1 (c : Cs) : M D := mLc (mSeqB 1) (gT (gsC (gN 3) (gsC (gN 4) gs0))) mYes (E_are_legs_1 c) [3, 4]
def m_are_legs (c : Cs) : Ms := mSeq (mIf (mOr (mNot (mTest (m1 (isB "list") (mOv 1)))) (mOr (mTest (m2 (fI0 fun i j => .bl (decide (j < i))) (mVal (mA (fA1 lenD) (maCons (mOv 1) maNil))) (mVal (mC (.int 6))))) (mNot (mTest (mA (fA1 allD) (maCons (mVal (L_are_legs_0 c)) maNil)))))) (mRet (mC (.bl false))) (mNext)) (mRet (mAndV (m2 eqD (mOv 1) (mVal (mnA (fN1 sortF) (maCons (mOv 1) maNil)))) (m2 eqD (mVal (mA (fA1 lenSetD) (maCons (mVal (L_are_legs_1 c)) maNil))) (mVal (mA (fA1 lenD) (maCons (mOv 1) maNil))))))
def g_are_legs (c : Cs) : List D → Option D := defG 5 [.fr, .bo] (m_are_legs c)
abbrev N_sure_corners : List Str := ["stock", "corners", "legs"]
def m_sure_corners (c : Cs) : Ms := mSeq (mIf (mNot (mTest (mCallP [.fr, .bo] (g_are_corners c) (maCons (mVal (mVar 0)) (maCons (mOv 1) maNil))))) (mNever) (mNext)) (mIf (mNot (mTest (mCallP [.fr, .bo] (g_are_legs c) (maCons (mVal (mVar 0)) (maCons (mOv 2) maNil))))) (mNever) (mNext))
def g_sure_corners (c : Cs) : List D → Option D := defG 3 [.fr, .bo, .bo] (m_sure_corners c)
abbrev N_factorial : List Str := ["number", "found", "factor"]
def B_factorial_0 (c : Cs) : Ms := mAsg (gN 1) (m2 (fI mulOk fun i j => .int (i * j)) (mOv 1) (mOv 2))
def m_factorial (c : Cs) : Ms := mSeq (mAsg (gN 1) (mC (.int 1))) (mSeq (mFor (mIt rg2 (mdCons (mC (.int 2)) (mdCons (m2 addD (mOv 0) (mVal (mC (.int 1)))) mdNil))) (gN 2) (B_factorial_0 c)) (mRet (mVar 1)))
def g_factorial (c : Cs) : List D → Option D := defG 3 [.fr] (m_factorial c)
abbrev N_group : List Str := ["stock", "corners", "found", "name", "own", "sort"]
def B_group_0 (c : Cs) : Ms := mAsg (gN 2) (m2 (fI mulOk fun i j => .int (i * j)) (mOv 2) (mVal (mCallP [.fr] (g_factorial c) (maCons (mVal (mCount (mOv 1) (mOv 3))) maNil))))
def B_group_1 (c : Cs) : Ms := mAsg (gN 2) (m2 (fI mulOk fun i j => .int (i * j)) (mOv 2) (mVal (mCallP [.fr] (g_factorial c) (maCons (mVal (mCount (mOv 4) (mOv 5))) maNil))))
def B_group_2 (c : Cs) : Ms := mSeq (mAsg (gN 4) (mCallP [.fr, .fr] (g_ends_of c) (maCons (mVal (mVar 0)) (maCons (mVal (mVar 3)) maNil)))) (mFor (mSeqOf (mnA (fN1 sortSetF) (maCons (mOv 4) maNil))) (gN 5) (B_group_1 c))
def m_group (c : Cs) : Ms := mSeq (mDrop (mCallP [.fr, .bo, .bo] (g_sure_corners c) (maCons (mVal (mVar 0)) (maCons (mOv 1) (maCons (mVal (mLst mdNil)) maNil))))) (mSeq (mAsg (gN 2) (mC (.int 1))) (mSeq (mFor (mSeqOf (m1 (fldD [c.stock] "kinds") (mOv 0))) (gT (gsC (gN 3) (gsC (gN 4) gs0))) (B_group_0 c)) (mSeq (mFor (mSeqB 1) (gN 3) (B_group_2 c)) (mRet (mVar 2)))))
def g_group (c : Cs) : List D → Option D := defG 6 [.fr, .bo] (m_group c)
abbrev N__law_state : List Str := ["_law_cell"]
def m__law_state (c : Cs) : Ms := mRetW (mLst (mdCons (mA (fA1 absD) (maCons (mOv 0) maNil)) (mdCons (m2 (fI modOk fun i j => .int (i % j)) (mOv 0) (mVal (mC (.int 1000000007)))) (mdCons (mC (.int 0)) mdNil))))
def g__law_state (c : Cs) : List D → Option D := defN 1 [.fr] (m__law_state c)
abbrev N__law_pick : List Str := ["_law_state_here", "_law_many", "_law_digit", "_law_number"]
def m__law_pick (c : Cs) : Ms := mSeq (mIf (mTest (m2 (fI0 fun i j => .bl (decide (j ≤ i))) (mVal (m2 ixD (mOv 0) (mVal (mC (.int 0))))) (mVal (m2 (fI powOk fun i j => .int (i ^ j.toNat)) (mVal (mC (.int 10))) (mVal (mC (.int 15))))))) (mSeq (mAsg (gN 2) (m2 (fI modOk fun i j => .int (i % j)) (mVal (m2 ixD (mOv 0) (mVal (mC (.int 0))))) (mOv 1))) (mSeq (mPutI 0 (mC (.int 0)) (m2 (fI divOk fun i j => .int (i / j)) (mVal (m2 ixD (mOv 0) (mVal (mC (.int 0))))) (mOv 1))) (mRet (mVar 2)))) (mNext)) (mSeq (mPutI 0 (mC (.int 2)) (m2 addD (mVal (m2 ixD (mOv 0) (mVal (mC (.int 2))))) (mVal (mC (.int 1))))) (mSeq (mAsg (gN 3) (m2 (fI modOk fun i j => .int (i % j)) (mVal (m2 addD (mVal (m2 addD (mVal (m2 (fI mulOk fun i j => .int (i * j)) (mVal (m2 ixD (mOv 0) (mVal (mC (.int 1))))) (mVal (mC (.int 48271))))) (mVal (m2 (fI mulOk fun i j => .int (i * j)) (mVal (mC (.int 7919))) (mVal (m2 ixD (mOv 0) (mVal (mC (.int 2))))))))) (mVal (mC (.int 12345))))) (mVal (mC (.int 2147483647))))) (mSeq (mAsg (gN 3) (m2 (fI modOk fun i j => .int (i % j)) (mVal (m2 (fI mulOk fun i j => .int (i * j)) (mOv 3) (mVal (m2 addD (mVal (m2 (fI divOk fun i j => .int (i / j)) (mOv 3) (mVal (mC (.int 997))))) (mVal (mC (.int 69069))))))) (mVal (mC (.int 2147483629))))) (mSeq (mPutI 0 (mC (.int 1)) (mVar 3)) (mRet (m2 (fI modOk fun i j => .int (i % j)) (mVal (m2 (fI divOk fun i j => .int (i / j)) (mOv 3) (mVal (mC (.int 11))))) (mOv 1)))))))
def g__law_pick (c : Cs) : List D → Option (D × D) := defI 4 [.fr] (m__law_pick c)
abbrev N__law_words : List Str := ["_law_state_here", "_law_many", "_law_found", "_law_last", "_law_word", "_law_k"]
def B__law_words_0 (c : Cs) : Ms := mAsg (gN 4) (m2 addD (mOv 4) (mVal (m2 ixD (mVal (mC (.str "abcdefghijklmnopqrstuvwxyz"))) (mVal (mCallI 0 [.fr] (g__law_pick c) (maCons (mVal (mC (.int 26))) maNil))))))
def B__law_words_1 (c : Cs) : Ms := mSeq (mAsg (gN 4) (mC (.str ""))) (mSeq (mFor (mIt rg1 (mdCons (m2 ixD (mVal (mLst (mdCons (mC (.int 0)) (mdCons (mC (.int 1)) (mdCons (mC (.int 3)) (mdCons (mC (.int 7)) mdNil)))))) (mVal (mCallI 0 [.fr] (g__law_pick c) (maCons (mVal (mC (.int 4))) maNil)))) mdNil)) (gN 5) (B__law_words_0 c)) (mDrop (mMut appF 2 (mdCons (m2 addD (mOv 4) (mOv 3)) mdNil))))
def m__law_words (c : Cs) : Ms := mSeq (mAsgO 2 (mLst mdNil)) (mSeq (mFor (mTxtOf (mSl slD (mVal (mC (.str "sortend"))) mpNone (mpSome (mVar 1)))) (gN 3) (B__law_words_1 c)) (mRet (mVar 2)))
def g__law_words (c : Cs) : List D → Option (D × D) := defI 6 [.fr] (m__law_words c)
abbrev N__law_stock_rows : List Str := ["_law_state_here", "_law_most", "_law_one", "_law_two", "_law_three", "_law_some", "_law_sorts", "_law_kinds", "_law_name", "_law_own", "_law_k"]
def E__law_stock_rows_0 (c : Cs) : M D := m2 ixD (mVal (m2 ixD (mOv 6) (mVal (mCallI 0 [.fr] (g__law_pick c) (maCons (mVal (mA (fA1 lenD) (maCons (mOv 6) maNil))) maNil))))) (mVal (mC (.int 0)))
def L__law_stock_rows_0 (c : Cs) : M D := mLc (mIt rg1 (mdCons (m2 addD (mVal (mC (.int 1))) (mVal (mCallI 0 [.fr] (g__law_pick c) (maCons (mVal (mVar 1)) maNil)))) mdNil)) (gN 10) mYes (E__law_stock_rows_0 c) [10]
def B__law_stock_rows_0 (c : Cs) : Ms := mSeq (mAsgO 9 (L__law_stock_rows_0 c)) (mDrop (mMut appF 7 (mdCons (mTup (mdCons (mVar 8) (mdCons (mA (fA1 tupD) (maCons (mVal (mnA (fN1 sortF) (maCons (mOv 9) maNil))) maNil)) mdNil))) mdNil)))
def m__law_stock_rows (c : Cs) : Ms := mSeq (mAsg (gTL (gsC (gN 2) (gsC (gN 3) (gsC (gN 4) gs0)))) (mCallI 0 [.fr] (g__law_words c) (maCons (mVal (mC (.int 3))) maNil))) (mSeq (mAsgO 5 (mLst (mdCons (mLst (mdCons (mTup (mdCons (mVar 2) (mdCons (mVar 2) mdNil))) mdNil)) (mdCons (mLst (mdCons (mTup (mdCons (mVar 2) (mdCons (mVar 3) mdNil))) (mdCons (mTup (mdCons (mVar 3) (mdCons (mVar 2) mdNil))) mdNil))) (mdCons (mLst (mdCons (mTup (mdCons (mVar 3) (mdCons (mVar 3) mdNil))) (mdCons (mTup (mdCons (mVar 2) (mdCons (mVar 4) mdNil))) (mdCons (mTup (mdCons (mVar 4) (mdCons (mVar 2) mdNil))) mdNil)))) mdNil))))) (mSeq (mDrop (mMut appF 5 (mdCons (mLst (mdCons (mTup (mdCons (mVar 2) (mdCons (mVar 2) mdNil))) (mdCons (mTup (mdCons (mVar 3) (mdCons (mVar 3) mdNil))) (mdCons (mTup (mdCons (mVar 4) (mdCons (mVar 4) mdNil))) mdNil)))) mdNil))) (mSeq (mAsg (gN 6) (m2 ixD (mOv 5) (mVal (mCallI 0 [.fr] (g__law_pick c) (maCons (mVal (mC (.int 4))) maNil))))) (mSeq (mAsgO 7 (mLst mdNil)) (mSeq (mFor (mSeqOf (mCallI 0 [.fr] (g__law_words c) (maCons (mVal (m2 addD (mVal (mC (.int 1))) (mVal (mCallI 0 [.fr] (g__law_pick c) (maCons (mVal (mC (.int 3))) maNil))))) maNil))) (gN 8) (B__law_stock_rows_0 c)) (mRet (mTup (mdCons (mVar 6) (mdCons (mVar 7) mdNil)))))))))
def g__law_stock_rows (c : Cs) : List D → Option (D × D) := defI 11 [.fr] (m__law_stock_rows c)
end G

set_option Elab.async false
set_option linter.all false
set_option maxRecDepth 100000
set_option maxHeartbeats 400000
/-! MBa: what the drawing helpers of the laws (state, pick, words) give. -/
namespace G
open PySem L2 DL
/-- the state that is drawn from -/
def rs (a b k : Int) : D := .lst [.int a, .int b, .int k]
section
theorem pick_spec (c : Cs) (a b k n : Int) (h0 : 0 < n) (h1 : n < 1073741824) : ∃ r a' b' k', g__law_pick c [rs a b k, .int n] = some (.int r, rs a' b' k') ∧ 0 ≤ r ∧ r < n := by
  unfold rs
  by_cases h : 1000000000000000 ≤ a
  · refine ⟨a % n, a / n, b, k, ?_, Int.emod_nonneg _ (by omega), Int.emod_lt_of_pos _ h0⟩
    simp [defI, startE, entry, PK.sl, mSeq, mIf, mTest, m2, M.bind, mVal, mOv, mC, M.ret, Sl.dat, mRd, rd, M.lift, ixD, atI, fI, fI0, powOk, modOk, divOk, mulOk, DL.small64, mS, mAsg, gN, mPutI, mHas, ownL, Sl.own, ixN, reown, mRet, mVar, mNext, io0, addD, g__law_pick, m__law_pick, h, h0, h1]
  · let x := (b * 48271 + 7919 * (k + 1) + 12345) % 2147483647
    have hx0 : 0 ≤ x := Int.emod_nonneg _ (by decide)
    have hx1 : x < 2147483647 := Int.emod_lt_of_pos _ (by decide)
    let y := x * (x / 997 + 69069) % 2147483629
    refine ⟨y / 11 % n, a, y, k + 1, ?_, Int.emod_nonneg _ (by omega), Int.emod_lt_of_pos _ h0⟩
    have e1 : (b * 48271 + 7919 * (k + 1) + 12345) % 2147483647 = x := rfl
    have e2 : x * (x / 997 + 69069) % 2147483629 = y := rfl
    have s1 : -18446744073709551616 < x ∧ x < 18446744073709551616 := by omega
    simp [defI, startE, entry, PK.sl, mSeq, mIf, mTest, m2, M.bind, mVal, mOv, mC, M.ret, Sl.dat, mRd, rd, M.lift, ixD, atI, fI, fI0, powOk, modOk, divOk, mulOk, DL.small64, mS, mAsg, gN, mPutI, mHas, ownL, Sl.own, ixN, reown, mRet, mVar, mNext, io0, addD, g__law_pick, m__law_pick, h, h0, h1, e1, e2, s1]
end
/-- small letters alone -/
def Low (x : Str) : Prop := ∀ c ∈ x.cps.toList, 97 ≤ c ∧ c ≤ 122
def NameOk (x : Str) : Prop := 1 ≤ x.cps.size ∧ x.cps.size ≤ 8 ∧ Low x
/-- a name that ends in the sign -/
def Wd (x : Str) (c : Nat) : Prop := NameOk x ∧ x.cps.toList.getLast? = some c
theorem str_len (x : Str) : x.length = x.cps.size := rfl
theorem app_cps (x y : Str) : (x ++ y).cps.toList = x.cps.toList ++ y.cps.toList := by
  show (x.cps ++ y.cps).toList = _
  rw [Array.toList_append]
theorem app_size (x y : Str) : (x ++ y).cps.size = x.cps.size + y.cps.size := by
  show (x.cps ++ y.cps).size = _
  rw [Array.size_append]
theorem Low.app {x y : Str} (h : Low x) (g : Low y) : Low (x ++ y) := fun c hc => by
  rw [app_cps, List.mem_append] at hc
  exact hc.elim (h c) (g c)
def abc : Str := "abcdefghijklmnopqrstuvwxyz"
theorem abc_list : abc.cps.toList = (List.range 26).map (· + 97) := by decide +kernel
theorem abc_at {r : Int} (h0 : 0 ≤ r) (h1 : r < 26) : ixD (.str abc) (.int r) = some (.str ⟨#[r.toNat + 97]⟩) := by
  have hl : abc.cps.toList.length = 26 := by decide +kernel
  have e : atI abc.cps.toList r = some (r.toNat + 97) := by
    unfold atI ixN
    rw [hl, abc_list]
    have : r.toNat < 26 := by omega
    simp [h0, h1, this]
    try omega
  have hs : abc.length ≤ 1000000 := by decide +kernel
  simp only [ixD, hs, if_true, e, Option.map_some]
theorem low1 {c : Nat} (h : 97 ≤ c ∧ c ≤ 122) : Low ⟨#[c]⟩ := fun d hd => by
  have : d = c := by simpa using hd
  rw [this]; exact h
section
/-- one more letter -/
def letterB (c : Cs) : Ms := mAsg (gN 4) (m2 addD (mOv 4) (mVal (m2 ixD (mVal (mC (.str "abcdefghijklmnopqrstuvwxyz"))) (mVal (mCallI 0 [.fr] (g__law_pick c) (maCons (mVal (mC (.int 26))) maNil))))))
theorem letter_step (c : Cs) (a b k m : Int) (f2 f3 f5 : Sl) (w : Str) (hw : w.cps.size ≤ 100) (hl : Low w) (y : D) : ∃ δ1, gN 5 y [.io (rs a b k), .fr (.int m), f2, f3, .fr (.str w), f5] = some δ1 ∧ ∃ a' b' k' w', letterB c δ1 = some (.nx [.io (rs a' b' k'), .fr (.int m), f2, f3, .fr (.str w'), .fr y]) ∧ Low w' ∧ w'.cps.size = w.cps.size + 1 := by
  obtain ⟨r, a', b', k', hp, h0, h1⟩ := pick_spec c a b k 26 (by decide) (by decide)
  refine ⟨_, rfl, a', b', k', w ++ ⟨#[r.toNat + 97]⟩, ?_, hl.app (low1 (by omega)), app_size _ _⟩
  have e : ixD (.str "abcdefghijklmnopqrstuvwxyz") (.int r) = some (.str ⟨#[r.toNat + 97]⟩) := abc_at h0 h1
  have hz : w.length + 1 ≤ 1000000 := by rw [str_len]; omega
  have ea : addD (.str w) (.str ⟨#[r.toNat + 97]⟩) = some (.str (w ++ ⟨#[r.toNat + 97]⟩)) := by
    have hz' : w.length + (⟨#[r.toNat + 97]⟩ : Str).length ≤ 1000000 := hz
    simp [defI, startE, entry, PK.sl, mSeq, mIf, mTest, m2, M.bind, mVal, mOv, mC, M.ret, Sl.dat, mRd, rd, M.lift, fI, fI0, mS, mAsg, gN, mHas, ownL, Sl.own, reown, mRet, mVar, mNext, io0, mCallI, maCons, maNil, mRds, rds, frOk, apart, addD, fI0, fStrCat, hz']
  unfold letterB
  simp [defI, startE, entry, PK.sl, mSeq, mIf, mTest, m2, M.bind, mVal, mOv, mC, M.ret, Sl.dat, mRd, rd, M.lift, fI, fI0, mS, mAsg, gN, mHas, ownL, Sl.own, reown, mRet, mVar, mNext, io0, mCallI, maCons, maNil, mRds, rds, frOk, apart, hp, e, ea]
/-- letters one by one -/
theorem letters (c : Cs) (m : Int) (f2 f3 : Sl) : ∀ (n : Nat) (ds : List D), ds.length = n → ∀ (a b k : Int) (w : Str) (f5 : Sl), w.cps.size + n ≤ 100 → Low w →
    ∃ a' b' k' w' f5', forL (gN 5) (letterB c) ds [.io (rs a b k), .fr (.int m), f2, f3, .fr (.str w), f5] = some (.nx [.io (rs a' b' k'), .fr (.int m), f2, f3, .fr (.str w'), f5']) ∧ Low w' ∧ w'.cps.size = w.cps.size + n
  | 0, ds, hd, a, b, k, w, f5, hw, hl => by
    cases ds with
    | nil => exact ⟨a, b, k, w, f5, rfl, hl, rfl⟩
    | cons d ds => simp [defI, startE, entry, PK.sl, mSeq, mIf, mTest, m2, M.bind, mVal, mOv, mC, M.ret, Sl.dat, mRd, rd, M.lift, fI, fI0, mS, mAsg, gN, mHas, ownL, Sl.own, reown, mRet, mVar, mNext, io0, mCallI, maCons, maNil, mRds, rds, frOk, apart] at hd
  | n + 1, ds, hd, a, b, k, w, f5, hw, hl => by
    cases ds with
    | nil => simp [defI, startE, entry, PK.sl, mSeq, mIf, mTest, m2, M.bind, mVal, mOv, mC, M.ret, Sl.dat, mRd, rd, M.lift, fI, fI0, mS, mAsg, gN, mHas, ownL, Sl.own, reown, mRet, mVar, mNext, io0, mCallI, maCons, maNil, mRds, rds, frOk, apart] at hd
    | cons d ds =>
      obtain ⟨δ1, h1, a1, b1, k1, w1, h2, h3, h4⟩ := letter_step c a b k m f2 f3 f5 w (by omega) hl d
      obtain ⟨a', b', k', w', f5', h5, h6, h7⟩ := letters c m f2 f3 n ds (by simpa using hd) a1 b1 k1 w1 (.fr d) (by omega) h3
      refine ⟨a', b', k', w', f5', ?_, h6, by omega⟩
      simp only [forL, h1, h2]
      exact h5
def wordB (c : Cs) : Ms := mSeq (mAsg (gN 4) (mC (.str ""))) (mSeq (mFor (mIt rg1 (mdCons (m2 ixD (mVal (mLst (mdCons (mC (.int 0)) (mdCons (mC (.int 1)) (mdCons (mC (.int 3)) (mdCons (mC (.int 7)) mdNil)))))) (mVal (mCallI 0 [.fr] (g__law_pick c) (maCons (mVal (mC (.int 4))) maNil)))) mdNil)) (gN 5) (letterB c)) (mDrop (mMut appF 2 (mdCons (m2 addD (mOv 4) (mOv 3)) mdNil))))
theorem word_step (c : Cs) (a b k m : Int) (ws : List Str) (hws : ws.length < 100) (s : Nat) (hs : 97 ≤ s ∧ s ≤ 122) (f4 f5 : Sl) :
    ∃ a' b' k' x f4' f5', wordB c [.io (rs a b k), .fr (.int m), .ow (.lst (ws.map .str)), .fr (.str ⟨#[s]⟩), f4, f5] = some (.nx [.io (rs a' b' k'), .fr (.int m), .ow (.lst ((ws ++ [x]).map .str)), .fr (.str ⟨#[s]⟩), f4', f5']) ∧ Wd x s := by
  obtain ⟨r, a1, b1, k1, hp, h0, h1⟩ := pick_spec c a b k 4 (by decide) (by decide)
  obtain ⟨n, hn, hn7⟩ : ∃ n : Nat, ixD (.lst [.int 0, .int 1, .int 3, .int 7]) (.int r) = some (.int (n : Nat)) ∧ n ≤ 7 := by
    have : r = 0 ∨ r = 1 ∨ r = 2 ∨ r = 3 := by omega
    rcases this with rfl | rfl | rfl | rfl
    · exact ⟨0, rfl, by decide⟩
    · exact ⟨1, rfl, by decide⟩
    · exact ⟨3, rfl, by decide⟩
    · exact ⟨7, rfl, by decide⟩
  have hr : rg1 [.int (n : Nat)] = some (rangeD 0 n) := by
    have : -1000000 ≤ (n : Int) ∧ (n : Int) ≤ 1000000 := by omega
    simp only [rg1, this, and_self, if_true, Int.toNat_natCast]
  obtain ⟨a', b', k', w', f5', h5, h6, h7⟩ := letters c m (.ow (.lst (ws.map .str))) (.fr (.str ⟨#[s]⟩)) n (rangeD 0 n) rangeD_len a1 b1 k1 "" f5 (by show 0 + n ≤ 100; omega) (fun c hc => by cases hc)
  have z : w'.cps.size = n := by rw [h7]; exact Nat.zero_add _
  have ea : addD (.str w') (.str ⟨#[s]⟩) = some (.str (w' ++ ⟨#[s]⟩)) := by
    have hz' : w'.length + (⟨#[s]⟩ : Str).length ≤ 1000000 := by show w'.cps.size + 1 ≤ 1000000; omega
    simp [defI, startE, entry, PK.sl, mSeq, mIf, mTest, m2, M.bind, mVal, mOv, mC, M.ret, Sl.dat, mRd, rd, M.lift, fI, fI0, mS, mAsg, gN, mHas, ownL, Sl.own, reown, mRet, mVar, mNext, io0, mCallI, maCons, maNil, mRds, rds, frOk, apart, mdCons, mdNil, mLst, mIt, mFor, mDrop, mMut, appF, addD, fI0, fStrCat, hz']
  refine ⟨a', b', k', w' ++ ⟨#[s]⟩, .fr (.str w'), f5', ?_, ⟨by rw [app_size, z]; exact Nat.le_add_left _ _, by rw [app_size, z]; show n + 1 ≤ 8; omega, h6.app (low1 hs)⟩, ?_⟩
  · unfold wordB
    have hlb : (4 : Nat) ≤ LB := by decide
    have hws' : ws.length < 1000000 := by omega
    simp [defI, startE, entry, PK.sl, mSeq, mIf, mTest, m2, M.bind, mVal, mOv, mC, M.ret, Sl.dat, mRd, rd, M.lift, fI, fI0, mS, mAsg, gN, mHas, ownL, Sl.own, reown, mRet, mVar, mNext, io0, mCallI, maCons, maNil, mRds, rds, frOk, apart, mdCons, mdNil, mLst, mIt, mFor, mDrop, mMut, appF, hp, hn, hr, h5, hlb, ea, hws']
  · rw [app_cps]
    show (w'.cps.toList ++ [s]).getLast? = some s
    simp [defI, startE, entry, PK.sl, mSeq, mIf, mTest, m2, M.bind, mVal, mOv, mC, M.ret, Sl.dat, mRd, rd, M.lift, fI, fI0, mS, mAsg, gN, mHas, ownL, Sl.own, reown, mRet, mVar, mNext, io0, mCallI, maCons, maNil, mRds, rds, frOk, apart, mdCons, mdNil, mLst, mIt, mFor, mDrop, mMut, appF]
/-- words: each ends in its own sign -/
def WdAll (ws : List Str) (ss : List Nat) : Prop := ws.length = ss.length ∧ ∀ (i : Nat) (x : Str) (s : Nat), ws[i]? = some x → ss[i]? = some s → Wd x s
theorem WdAll.snoc {ws : List Str} {ss : List Nat} {x : Str} {s : Nat} (h : WdAll ws ss) (g : Wd x s) : WdAll (ws ++ [x]) (ss ++ [s]) := by
  refine ⟨by rw [List.length_append, List.length_append, h.1]; rfl, fun i y t hy ht => ?_⟩
  by_cases c : i < ws.length
  · rw [List.getElem?_append_left c] at hy
    rw [List.getElem?_append_left (by rw [← h.1]; exact c)] at ht
    exact h.2 i y t hy ht
  · rw [List.getElem?_append_right (by omega)] at hy
    rw [List.getElem?_append_right (by rw [← h.1]; omega)] at ht
    rw [h.1] at hy
    cases e : i - ss.length with
    | zero => rw [e] at hy ht; cases hy; cases ht; exact g
    | succ j => rw [e] at hy; simp [defI, startE, entry, PK.sl, mSeq, mIf, mTest, m2, M.bind, mVal, mOv, mC, M.ret, Sl.dat, mRd, rd, M.lift, fI, fI0, mS, mAsg, gN, mHas, ownL, Sl.own, reown, mRet, mVar, mNext, io0, mCallI, maCons, maNil, mRds, rds, frOk, apart, mdCons, mdNil, mLst, mIt, mFor, mDrop, mMut, appF] at hy
theorem words_loop (c : Cs) (m : Int) : ∀ (ss : List Nat) (a b k : Int) (ws : List Str) (pre : List Nat) (f3 f4 f5 : Sl), (∀ s ∈ ss, 97 ≤ s ∧ s ≤ 122) → ws.length + ss.length ≤ 50 → WdAll ws pre →
    ∃ a' b' k' ws' f3' f4' f5', forL (gN 3) (wordB c) (ss.map fun s => D.str ⟨#[s]⟩) [.io (rs a b k), .fr (.int m), .ow (.lst (ws.map .str)), f3, f4, f5] = some (.nx [.io (rs a' b' k'), .fr (.int m), .ow (.lst (ws'.map .str)), f3', f4', f5']) ∧ WdAll ws' (pre ++ ss)
  | [], a, b, k, ws, pre, f3, f4, f5, _, _, h => ⟨a, b, k, ws, f3, f4, f5, rfl, by rw [List.append_nil]; exact h⟩
  | s :: ss, a, b, k, ws, pre, f3, f4, f5, hs, hl, h => by
    simp only [List.length_cons] at hl
    obtain ⟨a1, b1, k1, x, f41, f51, h1, h2⟩ := word_step c a b k m ws (by omega) s (hs s List.mem_cons_self) f4 f5
    obtain ⟨a', b', k', ws', f3', f4', f5', h3, h4⟩ := words_loop c m ss a1 b1 k1 (ws ++ [x]) (pre ++ [s]) (.fr (.str ⟨#[s]⟩)) f41 f51 (fun t ht => hs t (List.mem_cons_of_mem _ ht)) (by rw [List.length_append]; simp only [List.length_cons, List.length_nil]; omega) (h.snoc h2)
    refine ⟨a', b', k', ws', f3', f4', f5', ?_, by rw [List.append_assoc] at h4; exact h4⟩
    rw [List.map_cons]
    simp only [forL, gN]
    have e : ([.io (rs a b k), .fr (.int m), .ow (.lst (ws.map .str)), f3, f4, f5] : En).set 3 (.fr (.str ⟨#[s]⟩)) = [.io (rs a b k), .fr (.int m), .ow (.lst (ws.map .str)), .fr (.str ⟨#[s]⟩), f4, f5] := rfl
    rw [e, h1]
    exact h3
def sgn : List Nat := [115, 111, 114]
theorem words_spec (c : Cs) (a b k : Int) (m : Nat) (hm : m ≤ 3) : ∃ ws a' b' k', g__law_words c [rs a b k, .int m] = some (.lst (ws.map .str), rs a' b' k') ∧ WdAll ws (sgn.take m) := by
  have hsg : ∀ s ∈ sgn.take m, 97 ≤ s ∧ s ≤ 122 := fun s hs => by
    have : s ∈ sgn := List.mem_of_mem_take hs
    have h : ∀ s ∈ sgn, 97 ≤ s ∧ s ≤ 122 := by decide
    exact h s this
  obtain ⟨a', b', k', ws', f3', f4', f5', h3, h4⟩ := words_loop c m (sgn.take m) a b k [] [] .un .un .un hsg (by rw [List.length_take]; simp only [List.length_nil]; have : sgn.length = 3 := rfl; omega) ⟨rfl, fun i x s h => by simp [defI, startE, entry, PK.sl, mSeq, mIf, mTest, m2, M.bind, mVal, mOv, mC, M.ret, Sl.dat, mRd, rd, M.lift, fI, fI0, mS, mAsg, gN, mHas, ownL, Sl.own, reown, mRet, mVar, mNext, io0, mCallI, maCons, maNil, mRds, rds, frOk, apart, mdCons, mdNil, mLst, mIt, mFor, mDrop, mMut, appF] at h⟩
  refine ⟨ws', a', b', k', ?_, h4⟩
  have hsl : slD (.str "sortend") none (some (m : Int)) = some (.str ⟨(sgn.take m).toArray⟩) := by
    have : m = 0 ∨ m = 1 ∨ m = 2 ∨ m = 3 := by omega
    rcases this with rfl | rfl | rfl | rfl <;> rfl
  have hsz : min m sgn.length ≤ 1000000 := by omega
  have h3' : forL (gN 3) (wordB c) (signsD ⟨(sgn.take m).toArray⟩) [.io (rs a b k), .fr (.int m), .ow (.lst []), .un, .un, .un] = _ := h3
  have em : m__law_words c = mSeq (mAsgO 2 (mLst mdNil)) (mSeq (mFor (mTxtOf (mSl slD (mVal (mC (.str "sortend"))) mpNone (mpSome (mVar 1)))) (gN 3) (wordB c)) (mRet (mVar 2))) := rfl
  simp [defI, startE, entry, PK.sl, mSeq, mIf, mTest, m2, M.bind, mVal, mOv, mC, M.ret, Sl.dat, mRd, rd, M.lift, fI, fI0, mS, mAsg, gN, mHas, ownL, Sl.own, reown, mRet, mVar, mNext, io0, mCallI, maCons, maNil, mRds, rds, frOk, apart, mdCons, mdNil, mLst, mIt, mFor, mDrop, mMut, appF, g__law_words, em, mAsgO, mTxtOf, mSl, mpNone, mpSome, hsl, h3', hsz]
end
end G

set_option Elab.async false
set_option linter.all false
set_option maxRecDepth 100000
set_option maxHeartbeats 400000
/-! MBb: the rows of a stock as the laws draw them. -/
namespace G
open PySem L2 DL
def sortsD (rows : List (Str × Str)) : D := .lst (rows.map fun p => .tup [.str p.1, .str p.2])
def kindD (p : Str × List Str) : D := .tup [.str p.1, .tup (p.2.map .str)]
def kindsD (ks : List (Str × List Str)) : D := .lst (ks.map kindD)
def strLe (x y : Str) : Bool := decide (x.cps.toList ≤ y.cps.toList)
/-- texts sorted -/
def sortS (xs : List Str) : List Str := xs.mergeSort strLe
theorem strs_alike (xs : List Str) : SortOk (xs.map D.str) ↔ xs.length ≤ 1000000 := by
  constructor
  · intro h; have := h.len; rw [List.length_map] at this; exact this
  · intro h
    refine ⟨by rw [List.length_map]; exact h, fun d hd => ?_, fun d hd => ?_, fun d hd e he => ?_, Or.inr fun d hd => ?_⟩
    · obtain ⟨x, _, rfl⟩ := List.mem_map.mp hd; rfl
    · obtain ⟨x, _, rfl⟩ := List.mem_map.mp hd
      show (PyData.str x).depth ≤ 60
      simp [PyData.depth]
    · obtain ⟨x, _, rfl⟩ := List.mem_map.mp hd
      obtain ⟨y, _, rfl⟩ := List.mem_map.mp he
      show PySem.W.alike (.str x) (.str y) = true
      simp [PySem.W.alike]
    · obtain ⟨x, _, rfl⟩ := List.mem_map.mp hd; rfl
theorem sortD_strs (xs : List Str) : sortD (xs.map D.str) = (sortS xs).map D.str := by
  unfold sortD sortS
  rw [PySem.W.sort_maps (r := strLe) (s := PySem.W.dataLe false encD) D.str]
  intro a _ b _
  show strLe a b = !PySem.W.dataLt (.str b) (.str a)
  rw [PySem.W.dataLt_str, PySem.W.not_lt_str]
  rfl
theorem sortF_lst (xs : List Str) (h : xs.length ≤ 1000000) : sortF (.lst (xs.map D.str)) = some ((sortS xs).map D.str) := by
  simp only [sortF, sortOk_iff.mpr ((strs_alike xs).mpr h), if_true, sortD_strs]
theorem sortF_tup (xs : List Str) (h : xs.length ≤ 1000000) : sortF (.tup (xs.map D.str)) = some ((sortS xs).map D.str) := by
  simp only [sortF, sortOk_iff.mpr ((strs_alike xs).mpr h), if_true, sortD_strs]
section
/-- an end of a kind, drawn among the sorts -/
def endE (c : Cs) : M D := m2 ixD (mVal (m2 ixD (mOv 6) (mVal (mCallI 0 [.fr] (g__law_pick c) (maCons (mVal (mA (fA1 lenD) (maCons (mOv 6) maNil))) maNil))))) (mVal (mC (.int 0)))
theorem atI_nat {α : Type} {xs : List α} {r : Int} (h0 : 0 ≤ r) (h1 : r < xs.length) : ∃ h : r.toNat < xs.length, atI xs r = some xs[r.toNat] := by
  have h : r.toNat < xs.length := by omega
  refine ⟨h, ?_⟩
  unfold atI ixN
  simp [defI, startE, entry, PK.sl, mSeq, mIf, mTest, m2, M.bind, mVal, mOv, mC, M.ret, Sl.dat, mRd, rd, M.lift, fI, fI0, mS, mAsg, gN, mHas, ownL, Sl.own, reown, mRet, mVar, mNext, io0, mCallI, maCons, maNil, mRds, rds, frOk, apart, mdCons, mdNil, mLst, mIt, mFor, mDrop, mMut, appF, mA, fA1, lenD, wipeE, h0, h1, h]
theorem end_step (c : Cs) (a b k : Int) (sorts : List (Str × Str)) (hs : 1 ≤ sorts.length ∧ sorts.length ≤ 3) (f1 f2 f3 f4 f5 f7 f8 f9 f10 : Sl) :
    ∃ a' b' k' x, endE c [.io (rs a b k), f1, f2, f3, f4, f5, .fr (sortsD sorts), f7, f8, f9, f10] = some (.ok (.str x) [.io (rs a' b' k'), f1, f2, f3, f4, f5, .fr (sortsD sorts), f7, f8, f9, f10]) ∧ x ∈ sorts.map (·.1) := by
  obtain ⟨r, a', b', k', hp, h0, h1⟩ := pick_spec c a b k sorts.length (by omega) (by omega)
  obtain ⟨h, e⟩ := atI_nat (xs := sorts.map fun p => D.tup [.str p.1, .str p.2]) h0 (by rw [List.length_map]; exact h1)
  have h' : r.toNat < sorts.length := by rw [List.length_map] at h; exact h
  refine ⟨a', b', k', (sorts[r.toNat]'h').1, ?_, List.mem_map.mpr ⟨_, List.getElem_mem h', rfl⟩⟩
  rw [List.getElem_map] at e
  have e1 : ixD (.lst (sorts.map fun p => D.tup [.str p.1, .str p.2])) (.int r) = some (.tup [.str (sorts[r.toNat]'h').1, .str (sorts[r.toNat]'h').2]) := e
  have e2 : ixD (.tup [.str (sorts[r.toNat]'h').1, .str (sorts[r.toNat]'h').2]) (.int 0) = some (.str (sorts[r.toNat]'h').1) := rfl
  unfold endE sortsD
  simp [defI, startE, entry, PK.sl, mSeq, mIf, mTest, m2, M.bind, mVal, mOv, mC, M.ret, Sl.dat, mRd, rd, M.lift, fI, fI0, mS, mAsg, gN, mHas, ownL, Sl.own, reown, mRet, mVar, mNext, io0, mCallI, maCons, maNil, mRds, rds, frOk, apart, mdCons, mdNil, mLst, mIt, mFor, mDrop, mMut, appF, mA, fA1, lenD, wipeE, hp, e1, e2]
/-- the ends of a kind -/
def endsM (c : Cs) : M D := mLc (mIt rg1 (mdCons (m2 addD (mVal (mC (.int 1))) (mVal (mCallI 0 [.fr] (g__law_pick c) (maCons (mVal (mVar 1)) maNil)))) mdNil)) (gN 10) mYes (endE c) [10]
theorem ends_spec (c : Cs) (a b k : Int) (m : Nat) (hm : 1 ≤ m ∧ m ≤ 5) (sorts : List (Str × Str)) (hs : 1 ≤ sorts.length ∧ sorts.length ≤ 3) (f2 f3 f4 f5 f7 f8 f9 f10 : Sl) :
    ∃ (a' b' k' : Int) (xs : List Str), endsM c [.io (rs a b k), .fr (.int m), f2, f3, f4, f5, .fr (sortsD sorts), f7, f8, f9, f10] = some (.ok (.lst (xs.map .str)) [.io (rs a' b' k'), .fr (.int m), f2, f3, f4, f5, .fr (sortsD sorts), f7, f8, f9, .un]) ∧
      (∀ x ∈ xs, x ∈ sorts.map (·.1)) ∧ 1 ≤ xs.length ∧ xs.length ≤ m := by
  obtain ⟨r, a1, b1, k1, hp, h0, h1⟩ := pick_spec c a b k m (by omega) (by omega)
  have ea : addD (.int 1) (.int r) = some (.int (1 + r)) := rfl
  have hrg : rg1 [.int (1 + r)] = some ((List.range (1 + r).toNat).map fun i => D.int (0 + (i : Nat))) := by
    have : -1000000 ≤ 1 + r ∧ 1 + r ≤ 1000000 := by omega
    simp only [rg1, this, and_self, if_true, rangeD]
  obtain ⟨out, δ', g1, ⟨a', b', k', xs, rfl, g2, rfl⟩, g4⟩ := mLc_rel (as := List.range (1 + r).toNat) (enc := fun i => D.int (0 + (i : Nat))) (it := mIt rg1 (mdCons (m2 addD (mVal (mC (.int 1))) (mVal (mCallI 0 [.fr] (g__law_pick c) (maCons (mVal (mVar 1)) maNil)))) mdNil)) (g := gN 10) (e := endE c) (vs := [10])
    (δ := [.io (rs a b k), .fr (.int m), f2, f3, f4, f5, .fr (sortsD sorts), f7, f8, f9, f10]) (δ0 := [.io (rs a1 b1 k1), .fr (.int m), f2, f3, f4, f5, .fr (sortsD sorts), f7, f8, f9, f10])
    (fun acc δ => ∃ (a b k : Int) (xs : List Str), acc = xs.map D.str ∧ (∀ x ∈ xs, x ∈ sorts.map fun p => p.1) ∧ δ = [.io (rs a b k), .fr (.int m), f2, f3, f4, f5, .fr (sortsD sorts), f7, f8, f9, .un])
    (by simp [defI, startE, entry, PK.sl, mSeq, mIf, mTest, m2, M.bind, mVal, mOv, mC, M.ret, Sl.dat, mRd, rd, M.lift, fI, fI0, mS, mAsg, gN, mHas, ownL, Sl.own, reown, mRet, mVar, mNext, io0, mCallI, maCons, maNil, mRds, rds, frOk, apart, mdCons, mdNil, mLst, mIt, mFor, mDrop, mMut, appF, mA, fA1, lenD, wipeE, hp, ea, hrg]) ⟨a1, b1, k1, [], rfl, (fun x hx => by cases hx), rfl⟩ (by
      rintro acc i δ _ ⟨a, b, k, xs, rfl, hx, rfl⟩
      obtain ⟨a', b', k', x, e1, e2⟩ := end_step c a b k sorts hs (.fr (.int m)) f2 f3 f4 f5 f7 f8 f9 (.fr (.int (0 + (i : Nat))))
      refine ⟨_, .str x, _, rfl, e1, a', b', k', xs ++ [x], by rw [List.map_append]; rfl, fun y hy => ?_, rfl⟩
      rcases List.mem_append.mp hy with hy | hy
      · exact hx y hy
      · rw [List.mem_singleton.mp hy]; exact e2)
  rw [List.length_map, List.length_range] at g4
  exact ⟨a', b', k', xs, g1, g2, by omega, by omega⟩
def kindB (c : Cs) : Ms := mSeq (mAsgO 9 (endsM c)) (mDrop (mMut appF 7 (mdCons (mTup (mdCons (mVar 8) (mdCons (mA (fA1 tupD) (maCons (mVal (mnA (fN1 sortF) (maCons (mOv 9) maNil))) maNil)) mdNil))) mdNil)))
theorem kind_step (c : Cs) (a b k : Int) (m : Nat) (hm : 1 ≤ m ∧ m ≤ 5) (sorts : List (Str × Str)) (hs : 1 ≤ sorts.length ∧ sorts.length ≤ 3) (ks : List (Str × List Str)) (hks : ks.length < 100) (x : Str) (f2 f3 f4 f5 f9 f10 : Sl) :
    ∃ (a' b' k' : Int) (xs : List Str) (f9' : Sl), kindB c [.io (rs a b k), .fr (.int m), f2, f3, f4, f5, .fr (sortsD sorts), .ow (kindsD ks), .fr (.str x), f9, f10] = some (.nx [.io (rs a' b' k'), .fr (.int m), f2, f3, f4, f5, .fr (sortsD sorts), .ow (kindsD (ks ++ [(x, sortS xs)])), .fr (.str x), f9', .un]) ∧
      (∀ y ∈ xs, y ∈ sorts.map fun p => p.1) ∧ 1 ≤ xs.length ∧ xs.length ≤ m := by
  obtain ⟨a', b', k', xs, h1, h2, h3, h4⟩ := ends_spec c a b k m hm sorts hs f2 f3 f4 f5 (.ow (kindsD ks)) (.fr (.str x)) f9 f10
  refine ⟨a', b', k', xs, .ow (.lst (xs.map .str)), ?_, h2, h3, h4⟩
  have hso := sortF_lst xs (by omega)
  have l2 : (2 : Nat) ≤ LB := by decide
  have hk : ks.length < 1000000 := by omega
  have ek : kindsD (ks ++ [(x, sortS xs)]) = .lst (ks.map kindD ++ [.tup [.str x, .tup ((sortS xs).map .str)]]) := by unfold kindsD; rw [List.map_append]; rfl
  rw [ek]
  unfold kindB
  have hkd : kindsD ks = .lst (ks.map kindD) := rfl
  rw [hkd] at h1 ⊢
  simp [defI, startE, entry, PK.sl, mSeq, mIf, mTest, m2, M.bind, mVal, mOv, mC, M.ret, Sl.dat, mRd, rd, M.lift, fI, fI0, mS, mAsg, gN, mHas, ownL, Sl.own, reown, mRet, mVar, mNext, io0, mCallI, maCons, maNil, mRds, rds, frOk, apart, mdCons, mdNil, mLst, mIt, mFor, mDrop, mMut, appF, mA, fA1, lenD, wipeE, mTup, mnA, fN1, tupD, mAsgO, h1, hso, l2, hk]
/-- kinds of drawn ends under drawn names -/
def KindsOk (sorts : List (Str × Str)) (m : Nat) (ks : List (Str × List Str)) : Prop := ∀ p ∈ ks, ∃ xs : List Str, p.2 = sortS xs ∧ (∀ y ∈ xs, y ∈ sorts.map fun q => q.1) ∧ 1 ≤ xs.length ∧ xs.length ≤ m
theorem kinds_loop (c : Cs) (m : Nat) (hm : 1 ≤ m ∧ m ≤ 5) (sorts : List (Str × Str)) (hs : 1 ≤ sorts.length ∧ sorts.length ≤ 3) (f2 f3 f4 f5 : Sl) : ∀ (ws : List Str) (a b k : Int) (ks : List (Str × List Str)) (f8 f9 f10 : Sl), ks.length + ws.length ≤ 50 → KindsOk sorts m ks →
    ∃ (a' b' k' : Int) (ks' : List (Str × List Str)) (f8' f9' f10' : Sl), forL (gN 8) (kindB c) (ws.map .str) [.io (rs a b k), .fr (.int m), f2, f3, f4, f5, .fr (sortsD sorts), .ow (kindsD ks), f8, f9, f10] = some (.nx [.io (rs a' b' k'), .fr (.int m), f2, f3, f4, f5, .fr (sortsD sorts), .ow (kindsD ks'), f8', f9', f10']) ∧
      KindsOk sorts m ks' ∧ ks'.map (fun p => p.1) = ks.map (fun p => p.1) ++ ws
  | [], a, b, k, ks, f8, f9, f10, _, h => ⟨a, b, k, ks, f8, f9, f10, rfl, h, by rw [List.append_nil]⟩
  | x :: ws, a, b, k, ks, f8, f9, f10, hl, h => by
    simp only [List.length_cons] at hl
    obtain ⟨a1, b1, k1, xs, f91, h1, h2, h3, h4⟩ := kind_step c a b k m hm sorts hs ks (by omega) x f2 f3 f4 f5 f9 f10
    obtain ⟨a', b', k', ks', f8', f9', f10', g1, g2, g3⟩ := kinds_loop c m hm sorts hs f2 f3 f4 f5 ws a1 b1 k1 (ks ++ [(x, sortS xs)]) (.fr (.str x)) f91 .un (by rw [List.length_append]; simp only [List.length_cons, List.length_nil]; omega) (fun p hp => by
      rcases List.mem_append.mp hp with hp | hp
      · exact h p hp
      · rw [List.mem_singleton.mp hp]; exact ⟨xs, rfl, h2, h3, h4⟩)
    refine ⟨a', b', k', ks', f8', f9', f10', ?_, g2, by rw [g3, List.map_append, List.append_assoc]; rfl⟩
    rw [List.map_cons]
    simp only [forL, gN]
    have e : ([.io (rs a b k), .fr (.int m), f2, f3, f4, f5, .fr (sortsD sorts), .ow (kindsD ks), f8, f9, f10] : En).set 8 (.fr (.str x)) = [.io (rs a b k), .fr (.int m), f2, f3, f4, f5, .fr (sortsD sorts), .ow (kindsD ks), .fr (.str x), f9, f10] := rfl
    rw [e, h1]
    exact g1
end
end G

set_option Elab.async false
set_option linter.all false
set_option maxRecDepth 100000
set_option maxHeartbeats 1000000
/-! MBc: a stock's rows drawn. -/
namespace G
open PySem L2 DL
structure SortsOk (sorts : List (Str × Str)) : Prop where
  lo : 1 ≤ sorts.length
  hi : sorts.length ≤ 3
  nm : ∀ p ∈ sorts, NameOk p.1 ∧ NameOk p.2
  nd : (sorts.map fun p => p.1).Nodup
  mu : ∀ p ∈ sorts, (p.2, p.1) ∈ sorts
theorem wd_ne {x y : Str} {s t : Nat} (h : Wd x s) (g : Wd y t) (ne : s ≠ t) : x ≠ y := fun e => by
  subst e
  have := h.2.symm.trans g.2
  exact ne (Option.some.inj this)
theorem words3 {ws : List Str} (h : WdAll ws (sgn.take 3)) : ∃ x y z, ws = [x, y, z] ∧ Wd x 115 ∧ Wd y 111 ∧ Wd z 114 := by
  match ws, h with
  | [x, y, z], h => exact ⟨x, y, z, rfl, h.2 0 x 115 rfl rfl, h.2 1 y 111 rfl rfl, h.2 2 z 114 rfl rfl⟩
  | [], h => exact absurd h.1 (by decide)
  | [_], h => have := h.1; simp [sgn] at this
  | [_, _], h => have := h.1; simp [sgn] at this
  | _ :: _ :: _ :: _ :: _, h => have := h.1; simp [sgn] at this
theorem words_nd {ws : List Str} {m : Nat} (h : WdAll ws (sgn.take m)) : ws.Nodup ∧ ∀ x ∈ ws, NameOk x := by
  have hl := h.1
  constructor
  · refine List.pairwise_iff_getElem.mpr fun i j hi hj hij e => ?_
    have s1 := List.getElem?_eq_getElem (l := sgn.take m) (i := i) (by omega)
    have s2 := List.getElem?_eq_getElem (l := sgn.take m) (i := j) (by omega)
    have w1 := h.2 i _ _ (List.getElem?_eq_getElem hi) s1
    have w2 := h.2 j _ _ (List.getElem?_eq_getElem hj) s2
    have nd : (sgn.take m).Nodup := List.Nodup.sublist (List.take_sublist m sgn) (by decide)
    exact wd_ne w1 w2 (List.pairwise_iff_getElem.mp nd i j (by omega) (by omega) hij) e
  · intro x hx
    obtain ⟨i, hi, e⟩ := List.mem_iff_getElem.mp hx
    have s1 := List.getElem?_eq_getElem (l := sgn.take m) (i := i) (by omega)
    exact (h.2 i x _ (by rw [List.getElem?_eq_getElem hi, e]) s1).1
section
theorem sorts_pick (x y z : Str) (hx : Wd x 115) (hy : Wd y 111) (hz : Wd z 114) (r : Int) (h0 : 0 ≤ r) (h1 : r < 4) : ∃ sorts, SortsOk sorts ∧
    ixD (.lst [.lst [.tup [.str x, .str x]], .lst [.tup [.str x, .str y], .tup [.str y, .str x]], .lst [.tup [.str y, .str y], .tup [.str x, .str z], .tup [.str z, .str x]], .lst [.tup [.str x, .str x], .tup [.str y, .str y], .tup [.str z, .str z]]]) (.int r) = some (sortsD sorts) := by
  have xy := wd_ne hx hy (by decide)
  have xz := wd_ne hx hz (by decide)
  have yz := wd_ne hy hz (by decide)
  have nx := hx.1
  have ny := hy.1
  have nz := hz.1
  have : r = 0 ∨ r = 1 ∨ r = 2 ∨ r = 3 := by omega
  rcases this with rfl | rfl | rfl | rfl
  · exact ⟨[(x, x)], ⟨by simp [defI, startE, entry, PK.sl, mSeq, mIf, mTest, m2, M.bind, mVal, mOv, mC, M.ret, Sl.dat, mRd, rd, M.lift, fI, fI0, mS, mAsg, gN, mHas, ownL, Sl.own, reown, mRet, mVar, mNext, io0, mCallI, maCons, maNil, mRds, rds, frOk, apart, mdCons, mdNil, mLst, mIt, mFor, mDrop, mMut, appF, mA, fA1, lenD, wipeE, mTup, mnA, fN1, tupD, mAsgO, mSeqOf, gTL, gsC, gs0], by simp [defI, startE, entry, PK.sl, mSeq, mIf, mTest, m2, M.bind, mVal, mOv, mC, M.ret, Sl.dat, mRd, rd, M.lift, fI, fI0, mS, mAsg, gN, mHas, ownL, Sl.own, reown, mRet, mVar, mNext, io0, mCallI, maCons, maNil, mRds, rds, frOk, apart, mdCons, mdNil, mLst, mIt, mFor, mDrop, mMut, appF, mA, fA1, lenD, wipeE, mTup, mnA, fN1, tupD, mAsgO, mSeqOf, gTL, gsC, gs0], by simp [defI, startE, entry, PK.sl, mSeq, mIf, mTest, m2, M.bind, mVal, mOv, mC, M.ret, Sl.dat, mRd, rd, M.lift, fI, fI0, mS, mAsg, gN, mHas, ownL, Sl.own, reown, mRet, mVar, mNext, io0, mCallI, maCons, maNil, mRds, rds, frOk, apart, mdCons, mdNil, mLst, mIt, mFor, mDrop, mMut, appF, mA, fA1, lenD, wipeE, mTup, mnA, fN1, tupD, mAsgO, mSeqOf, gTL, gsC, gs0, nx], by simp [defI, startE, entry, PK.sl, mSeq, mIf, mTest, m2, M.bind, mVal, mOv, mC, M.ret, Sl.dat, mRd, rd, M.lift, fI, fI0, mS, mAsg, gN, mHas, ownL, Sl.own, reown, mRet, mVar, mNext, io0, mCallI, maCons, maNil, mRds, rds, frOk, apart, mdCons, mdNil, mLst, mIt, mFor, mDrop, mMut, appF, mA, fA1, lenD, wipeE, mTup, mnA, fN1, tupD, mAsgO, mSeqOf, gTL, gsC, gs0], by simp [defI, startE, entry, PK.sl, mSeq, mIf, mTest, m2, M.bind, mVal, mOv, mC, M.ret, Sl.dat, mRd, rd, M.lift, fI, fI0, mS, mAsg, gN, mHas, ownL, Sl.own, reown, mRet, mVar, mNext, io0, mCallI, maCons, maNil, mRds, rds, frOk, apart, mdCons, mdNil, mLst, mIt, mFor, mDrop, mMut, appF, mA, fA1, lenD, wipeE, mTup, mnA, fN1, tupD, mAsgO, mSeqOf, gTL, gsC, gs0]⟩, rfl⟩
  · exact ⟨[(x, y), (y, x)], ⟨by simp [defI, startE, entry, PK.sl, mSeq, mIf, mTest, m2, M.bind, mVal, mOv, mC, M.ret, Sl.dat, mRd, rd, M.lift, fI, fI0, mS, mAsg, gN, mHas, ownL, Sl.own, reown, mRet, mVar, mNext, io0, mCallI, maCons, maNil, mRds, rds, frOk, apart, mdCons, mdNil, mLst, mIt, mFor, mDrop, mMut, appF, mA, fA1, lenD, wipeE, mTup, mnA, fN1, tupD, mAsgO, mSeqOf, gTL, gsC, gs0], by simp [defI, startE, entry, PK.sl, mSeq, mIf, mTest, m2, M.bind, mVal, mOv, mC, M.ret, Sl.dat, mRd, rd, M.lift, fI, fI0, mS, mAsg, gN, mHas, ownL, Sl.own, reown, mRet, mVar, mNext, io0, mCallI, maCons, maNil, mRds, rds, frOk, apart, mdCons, mdNil, mLst, mIt, mFor, mDrop, mMut, appF, mA, fA1, lenD, wipeE, mTup, mnA, fN1, tupD, mAsgO, mSeqOf, gTL, gsC, gs0], by simp [defI, startE, entry, PK.sl, mSeq, mIf, mTest, m2, M.bind, mVal, mOv, mC, M.ret, Sl.dat, mRd, rd, M.lift, fI, fI0, mS, mAsg, gN, mHas, ownL, Sl.own, reown, mRet, mVar, mNext, io0, mCallI, maCons, maNil, mRds, rds, frOk, apart, mdCons, mdNil, mLst, mIt, mFor, mDrop, mMut, appF, mA, fA1, lenD, wipeE, mTup, mnA, fN1, tupD, mAsgO, mSeqOf, gTL, gsC, gs0, nx, ny], by simp [defI, startE, entry, PK.sl, mSeq, mIf, mTest, m2, M.bind, mVal, mOv, mC, M.ret, Sl.dat, mRd, rd, M.lift, fI, fI0, mS, mAsg, gN, mHas, ownL, Sl.own, reown, mRet, mVar, mNext, io0, mCallI, maCons, maNil, mRds, rds, frOk, apart, mdCons, mdNil, mLst, mIt, mFor, mDrop, mMut, appF, mA, fA1, lenD, wipeE, mTup, mnA, fN1, tupD, mAsgO, mSeqOf, gTL, gsC, gs0, xy], by simp [defI, startE, entry, PK.sl, mSeq, mIf, mTest, m2, M.bind, mVal, mOv, mC, M.ret, Sl.dat, mRd, rd, M.lift, fI, fI0, mS, mAsg, gN, mHas, ownL, Sl.own, reown, mRet, mVar, mNext, io0, mCallI, maCons, maNil, mRds, rds, frOk, apart, mdCons, mdNil, mLst, mIt, mFor, mDrop, mMut, appF, mA, fA1, lenD, wipeE, mTup, mnA, fN1, tupD, mAsgO, mSeqOf, gTL, gsC, gs0]⟩, rfl⟩
  · exact ⟨[(y, y), (x, z), (z, x)], ⟨by simp [defI, startE, entry, PK.sl, mSeq, mIf, mTest, m2, M.bind, mVal, mOv, mC, M.ret, Sl.dat, mRd, rd, M.lift, fI, fI0, mS, mAsg, gN, mHas, ownL, Sl.own, reown, mRet, mVar, mNext, io0, mCallI, maCons, maNil, mRds, rds, frOk, apart, mdCons, mdNil, mLst, mIt, mFor, mDrop, mMut, appF, mA, fA1, lenD, wipeE, mTup, mnA, fN1, tupD, mAsgO, mSeqOf, gTL, gsC, gs0], by simp [defI, startE, entry, PK.sl, mSeq, mIf, mTest, m2, M.bind, mVal, mOv, mC, M.ret, Sl.dat, mRd, rd, M.lift, fI, fI0, mS, mAsg, gN, mHas, ownL, Sl.own, reown, mRet, mVar, mNext, io0, mCallI, maCons, maNil, mRds, rds, frOk, apart, mdCons, mdNil, mLst, mIt, mFor, mDrop, mMut, appF, mA, fA1, lenD, wipeE, mTup, mnA, fN1, tupD, mAsgO, mSeqOf, gTL, gsC, gs0], by simp [defI, startE, entry, PK.sl, mSeq, mIf, mTest, m2, M.bind, mVal, mOv, mC, M.ret, Sl.dat, mRd, rd, M.lift, fI, fI0, mS, mAsg, gN, mHas, ownL, Sl.own, reown, mRet, mVar, mNext, io0, mCallI, maCons, maNil, mRds, rds, frOk, apart, mdCons, mdNil, mLst, mIt, mFor, mDrop, mMut, appF, mA, fA1, lenD, wipeE, mTup, mnA, fN1, tupD, mAsgO, mSeqOf, gTL, gsC, gs0, nx, ny, nz], by simp [defI, startE, entry, PK.sl, mSeq, mIf, mTest, m2, M.bind, mVal, mOv, mC, M.ret, Sl.dat, mRd, rd, M.lift, fI, fI0, mS, mAsg, gN, mHas, ownL, Sl.own, reown, mRet, mVar, mNext, io0, mCallI, maCons, maNil, mRds, rds, frOk, apart, mdCons, mdNil, mLst, mIt, mFor, mDrop, mMut, appF, mA, fA1, lenD, wipeE, mTup, mnA, fN1, tupD, mAsgO, mSeqOf, gTL, gsC, gs0, xy.symm, yz, xz], by simp [defI, startE, entry, PK.sl, mSeq, mIf, mTest, m2, M.bind, mVal, mOv, mC, M.ret, Sl.dat, mRd, rd, M.lift, fI, fI0, mS, mAsg, gN, mHas, ownL, Sl.own, reown, mRet, mVar, mNext, io0, mCallI, maCons, maNil, mRds, rds, frOk, apart, mdCons, mdNil, mLst, mIt, mFor, mDrop, mMut, appF, mA, fA1, lenD, wipeE, mTup, mnA, fN1, tupD, mAsgO, mSeqOf, gTL, gsC, gs0]⟩, rfl⟩
  · exact ⟨[(x, x), (y, y), (z, z)], ⟨by simp [defI, startE, entry, PK.sl, mSeq, mIf, mTest, m2, M.bind, mVal, mOv, mC, M.ret, Sl.dat, mRd, rd, M.lift, fI, fI0, mS, mAsg, gN, mHas, ownL, Sl.own, reown, mRet, mVar, mNext, io0, mCallI, maCons, maNil, mRds, rds, frOk, apart, mdCons, mdNil, mLst, mIt, mFor, mDrop, mMut, appF, mA, fA1, lenD, wipeE, mTup, mnA, fN1, tupD, mAsgO, mSeqOf, gTL, gsC, gs0], by simp [defI, startE, entry, PK.sl, mSeq, mIf, mTest, m2, M.bind, mVal, mOv, mC, M.ret, Sl.dat, mRd, rd, M.lift, fI, fI0, mS, mAsg, gN, mHas, ownL, Sl.own, reown, mRet, mVar, mNext, io0, mCallI, maCons, maNil, mRds, rds, frOk, apart, mdCons, mdNil, mLst, mIt, mFor, mDrop, mMut, appF, mA, fA1, lenD, wipeE, mTup, mnA, fN1, tupD, mAsgO, mSeqOf, gTL, gsC, gs0], by simp [defI, startE, entry, PK.sl, mSeq, mIf, mTest, m2, M.bind, mVal, mOv, mC, M.ret, Sl.dat, mRd, rd, M.lift, fI, fI0, mS, mAsg, gN, mHas, ownL, Sl.own, reown, mRet, mVar, mNext, io0, mCallI, maCons, maNil, mRds, rds, frOk, apart, mdCons, mdNil, mLst, mIt, mFor, mDrop, mMut, appF, mA, fA1, lenD, wipeE, mTup, mnA, fN1, tupD, mAsgO, mSeqOf, gTL, gsC, gs0, nx, ny, nz], by simp [defI, startE, entry, PK.sl, mSeq, mIf, mTest, m2, M.bind, mVal, mOv, mC, M.ret, Sl.dat, mRd, rd, M.lift, fI, fI0, mS, mAsg, gN, mHas, ownL, Sl.own, reown, mRet, mVar, mNext, io0, mCallI, maCons, maNil, mRds, rds, frOk, apart, mdCons, mdNil, mLst, mIt, mFor, mDrop, mMut, appF, mA, fA1, lenD, wipeE, mTup, mnA, fN1, tupD, mAsgO, mSeqOf, gTL, gsC, gs0, xy, yz, xz], by simp [defI, startE, entry, PK.sl, mSeq, mIf, mTest, m2, M.bind, mVal, mOv, mC, M.ret, Sl.dat, mRd, rd, M.lift, fI, fI0, mS, mAsg, gN, mHas, ownL, Sl.own, reown, mRet, mVar, mNext, io0, mCallI, maCons, maNil, mRds, rds, frOk, apart, mdCons, mdNil, mLst, mIt, mFor, mDrop, mMut, appF, mA, fA1, lenD, wipeE, mTup, mnA, fN1, tupD, mAsgO, mSeqOf, gTL, gsC, gs0]⟩, rfl⟩
theorem rows_spec (c : Cs) (a b k : Int) (m : Nat) (hm : 1 ≤ m ∧ m ≤ 5) : ∃ (a' b' k' : Int) (sorts : List (Str × Str)) (ks : List (Str × List Str)), g__law_stock_rows c [rs a b k, .int m] = some (.tup [sortsD sorts, kindsD ks], rs a' b' k') ∧
    SortsOk sorts ∧ KindsOk sorts m ks ∧ 1 ≤ ks.length ∧ ks.length ≤ 3 ∧ (ks.map fun p => p.1).Nodup ∧ ∀ p ∈ ks, NameOk p.1 := by
  obtain ⟨ws, a1, b1, k1, h1, h2⟩ := words_spec c a b k 3 (by decide)
  obtain ⟨x, y, z, rfl, hx, hy, hz⟩ := words3 h2
  obtain ⟨r, a2, b2, k2, hp, r0, r1⟩ := pick_spec c a1 b1 k1 4 (by decide) (by decide)
  obtain ⟨sorts, hS, hi⟩ := sorts_pick x y z hx hy hz r r0 r1
  obtain ⟨r', a3, b3, k3, hp', r0', r1'⟩ := pick_spec c a2 b2 k2 3 (by decide) (by decide)
  obtain ⟨n, rfl⟩ : ∃ n : Nat, r' = n := ⟨r'.toNat, by omega⟩
  obtain ⟨us, a4, b4, k4, g1, g2⟩ := words_spec c a3 b3 k3 (1 + n) (by omega)
  have hn : (sgn.take (1 + n)).length = 1 + n := by rw [List.length_take]; have : sgn.length = 3 := rfl; omega
  have lu : us.length = 1 + n := by rw [g2.1, hn]
  obtain ⟨a5, b5, k5, ks, f8, f9, f10, e1, e2, e3⟩ := kinds_loop c m hm sorts ⟨hS.lo, hS.hi⟩ (.fr (.str x)) (.fr (.str y)) (.fr (.str z)) (.ow (.lst [.lst [.tup [.str x, .str x]], .lst [.tup [.str x, .str y], .tup [.str y, .str x]], .lst [.tup [.str y, .str y], .tup [.str x, .str z], .tup [.str z, .str x]], .lst [.tup [.str x, .str x], .tup [.str y, .str y], .tup [.str z, .str z]]]))
    us a4 b4 k4 [] .un .un .un (by simp only [List.length_nil]; omega) (fun p hp => by cases hp)
  have e3 : ks.map (fun p => p.1) = us := e3
  have lk : ks.length = 1 + n := by rw [← lu, ← e3, List.length_map]
  obtain ⟨nd, nm⟩ := words_nd g2
  refine ⟨a5, b5, k5, sorts, ks, ?_, hS, e2, by omega, by omega, by rw [e3]; exact nd, fun p hp => nm _ (by rw [← e3]; exact List.mem_map.mpr ⟨p, hp, rfl⟩)⟩
  have em : m__law_stock_rows c = mSeq (mAsg (gTL (gsC (gN 2) (gsC (gN 3) (gsC (gN 4) gs0)))) (mCallI 0 [.fr] (g__law_words c) (maCons (mVal (mC (.int 3))) maNil))) (mSeq (mAsgO 5 (mLst (mdCons (mLst (mdCons (mTup (mdCons (mVar 2) (mdCons (mVar 2) mdNil))) mdNil)) (mdCons (mLst (mdCons (mTup (mdCons (mVar 2) (mdCons (mVar 3) mdNil))) (mdCons (mTup (mdCons (mVar 3) (mdCons (mVar 2) mdNil))) mdNil))) (mdCons (mLst (mdCons (mTup (mdCons (mVar 3) (mdCons (mVar 3) mdNil))) (mdCons (mTup (mdCons (mVar 2) (mdCons (mVar 4) mdNil))) (mdCons (mTup (mdCons (mVar 4) (mdCons (mVar 2) mdNil))) mdNil)))) mdNil))))) (mSeq (mDrop (mMut appF 5 (mdCons (mLst (mdCons (mTup (mdCons (mVar 2) (mdCons (mVar 2) mdNil))) (mdCons (mTup (mdCons (mVar 3) (mdCons (mVar 3) mdNil))) (mdCons (mTup (mdCons (mVar 4) (mdCons (mVar 4) mdNil))) mdNil)))) mdNil))) (mSeq (mAsg (gN 6) (m2 ixD (mOv 5) (mVal (mCallI 0 [.fr] (g__law_pick c) (maCons (mVal (mC (.int 4))) maNil))))) (mSeq (mAsgO 7 (mLst mdNil)) (mSeq (mFor (mSeqOf (mCallI 0 [.fr] (g__law_words c) (maCons (mVal (m2 addD (mVal (mC (.int 1))) (mVal (mCallI 0 [.fr] (g__law_pick c) (maCons (mVal (mC (.int 3))) maNil))))) maNil))) (gN 8) (kindB c)) (mRet (mTup (mdCons (mVar 6) (mdCons (mVar 7) mdNil))))))))) := rfl
  have l1 : (1 : Nat) ≤ LB := by decide
  have l2 : (2 : Nat) ≤ LB := by decide
  have l3 : (3 : Nat) ≤ LB := by decide
  have ea : addD (.int 1) (.int n) = some (.int (1 + (n : Int))) := rfl
  have g1' : g__law_words c [rs a3 b3 k3, .int (1 + (n : Int))] = some (.lst (us.map .str), rs a4 b4 k4) := by
    have e : (1 + (n : Int)) = ((1 + n : Nat) : Int) := by omega
    rw [e]; exact g1
  have h1' : g__law_words c [rs a b k, .int 3] = some (.lst [.str x, .str y, .str z], rs a1 b1 k1) := h1
  have e1' : forL (gN 8) (kindB c) (us.map .str) [.io (rs a4 b4 k4), .fr (.int m), .fr (.str x), .fr (.str y), .fr (.str z), .ow (.lst [.lst [.tup [.str x, .str x]], .lst [.tup [.str x, .str y], .tup [.str y, .str x]], .lst [.tup [.str y, .str y], .tup [.str x, .str z], .tup [.str z, .str x]], .lst [.tup [.str x, .str x], .tup [.str y, .str y], .tup [.str z, .str z]]]), .fr (sortsD sorts), .ow (.lst []), .un, .un, .un] = _ := e1
  simp [defI, startE, entry, PK.sl, mSeq, mIf, mTest, m2, M.bind, mVal, mOv, mC, M.ret, Sl.dat, mRd, rd, M.lift, fI, fI0, mS, mAsg, gN, mHas, ownL, Sl.own, reown, mRet, mVar, mNext, io0, mCallI, maCons, maNil, mRds, rds, frOk, apart, mdCons, mdNil, mLst, mIt, mFor, mDrop, mMut, appF, mA, fA1, lenD, wipeE, mTup, mnA, fN1, tupD, mAsgO, mSeqOf, gTL, gsC, gs0, g__law_stock_rows, em, h1', l1, l2, l3, hp, hi, hp', ea, g1', e1']
end
end G

set_option Elab.async false
set_option linter.all false
set_option maxRecDepth 100000
set_option maxHeartbeats 1000000
/-! MCa: a stock that is in order is made. -/
namespace G
open PySem L2 DL
theorem NameOk.ok {x : Str} (h : NameOk x) : PyData.strOk x = true := by
  unfold PyData.strOk
  rw [Array.all_eq_true']
  intro c hc
  have := h.2.2 c (Array.mem_toList_iff.mpr hc)
  exact decide_eq_true (by omega)
theorem NameOk.pl {x : Str} (h : NameOk x) {n : Nat} : Pl n (.str x) := Pl.str h.ok
def inAbc (z : Nat) : Bool := decide (z ∈ abc.cps.toList)
theorem L_is_name (c : Cs) (x : Str) (s : Sl) (hx : x.length ≤ 100) : L_is_name_0 c [.fr (.str x), s] = some (.ok (.lst (x.cps.toList.map fun z => .bl (inAbc z))) [.fr (.str x), .un]) := by
  have hs : x.length ≤ 1000000 := by omega
  refine mLc_map (as := x.cps.toList) (enc := fun z => .str ⟨#[z]⟩) (δ0 := [.fr (.str x), s]) ?_ rfl fun z _ => ⟨[.fr (.str x), .fr (.str ⟨#[z]⟩)], [.fr (.str x), .fr (.str ⟨#[z]⟩)], rfl, ?_, rfl⟩
  · have hs' : x.cps.size ≤ 1000000 := hs
    simp [defI, defG, defN, startE, entry, PK.sl, mSeq, mIf, mTest, m1, m2, mn1, mn2, M.bind, mVal, mOv, mC, M.ret, Sl.dat, mRd, rd, M.lift, fI, fI0, mS, mAsg, gN, gT, gsC, gs0, mHas, ownL, Sl.own, reown, mRet, mVar, mNext, io0, mCallI, mCallP, mCallN, mMakeP, maCons, maNil, mRds, rds, frOk, apart, mdCons, mdNil, mLst, mTup, mIt, mFor, mDrop, mMut, appF, mA, mnA, fA1, fN1, lenD, tupD, wipeE, mAsgO, mSeqOf, mSeqB, mTupOf, mTxtOf, gTL, mNot, mOr, mAnd, mAndV, mOrV, mNotV, mChain, isB, tyN, mRetW, mRetO, -List.map_map, -Int.natCast_add, -List.map_append, -List.map_cons, -List.map_nil, -List.map_const, -List.map_const_fun, signsD, hs']
  · simp [E_is_name_0, defI, defG, defN, startE, entry, PK.sl, mSeq, mIf, mTest, m1, m2, mn1, mn2, M.bind, mVal, mOv, mC, M.ret, Sl.dat, mRd, rd, M.lift, fI, fI0, mS, mAsg, gN, gT, gsC, gs0, mHas, ownL, Sl.own, reown, mRet, mVar, mNext, io0, mCallI, mCallP, mCallN, mMakeP, maCons, maNil, mRds, rds, frOk, apart, mdCons, mdNil, mLst, mTup, mIt, mFor, mDrop, mMut, appF, mA, mnA, fA1, fN1, lenD, tupD, wipeE, mAsgO, mSeqOf, mSeqB, mTupOf, mTxtOf, gTL, mNot, mOr, mAnd, mAndV, mOrV, mNotV, mChain, isB, tyN, mRetW, mRetO, -List.map_map, -Int.natCast_add, -List.map_append, -List.map_cons, -List.map_nil, -List.map_const, -List.map_const_fun, inSignD, inAbc, abc]
theorem is_name_ok (c : Cs) {x : Str} (h : NameOk x) : g_is_name c [.str x] = some (.bl true) := by
  have h8 : x.length ≤ 8 := h.2.1
  have h1 : 1 ≤ x.length := h.1
  have hL := L_is_name c x .un (by omega)
  have hA : (x.cps.toList.all inAbc) = true := by
    rw [List.all_eq_true]
    intro z hz
    have := h.2.2 z hz
    unfold inAbc
    rw [abc_list]
    exact decide_eq_true (List.mem_map.mpr ⟨z - 97, List.mem_range.mpr (by omega), by omega⟩)
  have hAll : allD (.lst (x.cps.toList.map fun z => .bl (inAbc z))) = some (.bl true) := by rw [allD_map, hA]
  have hs : x.length ≤ 1000000 := by omega
  have i8 : (x.length : Int) ≤ 8 := by omega
  have i1 : (1 : Int) ≤ (x.length : Int) := by omega
  simp [g_is_name, m_is_name, defI, defG, defN, startE, entry, PK.sl, mSeq, mIf, mTest, m1, m2, mn1, mn2, M.bind, mVal, mOv, mC, M.ret, Sl.dat, mRd, rd, M.lift, fI, fI0, mS, mAsg, gN, gT, gsC, gs0, mHas, ownL, Sl.own, reown, mRet, mVar, mNext, io0, mCallI, mCallP, mCallN, mMakeP, maCons, maNil, mRds, rds, frOk, apart, mdCons, mdNil, mLst, mTup, mIt, mFor, mDrop, mMut, appF, mA, mnA, fA1, fN1, lenD, tupD, wipeE, mAsgO, mSeqOf, mSeqB, mTupOf, mTxtOf, gTL, mNot, mOr, mAnd, mAndV, mOrV, mNotV, mChain, isB, tyN, mRetW, mRetO, -List.map_map, -Int.natCast_add, -List.map_append, -List.map_cons, -List.map_nil, -List.map_const, -List.map_const_fun, kitB, hL, hs, i1, i8, hAll]
theorem eqD_int (i j : Int) : eqD (.int i) (.int j) = some (.bl (decide (i = j))) := by
  rw [eqD_pl 0 Pl.int Pl.int]; simp
theorem neD_int (i j : Int) : neD (.int i) (.int j) = some (.bl (!decide (i = j))) := by
  rw [neD_pl 0 Pl.int Pl.int]; simp
theorem is_sort_row_ok (c : Cs) {x y : Str} (hx : NameOk x) (hy : NameOk y) : g_is_sort_row c [.tup [.str x, .str y]] = some (.bl true) := by
  simp [g_is_sort_row, m_is_sort_row, defI, defG, defN, startE, entry, PK.sl, mSeq, mIf, mTest, m1, m2, mn1, mn2, M.bind, mVal, mOv, mC, M.ret, Sl.dat, mRd, rd, M.lift, fI, fI0, mS, mAsg, gN, gT, gsC, gs0, mHas, ownL, Sl.own, reown, mRet, mVar, mNext, io0, mCallI, mCallP, mCallN, mMakeP, maCons, maNil, mRds, rds, frOk, apart, mdCons, mdNil, mLst, mTup, mIt, mFor, mDrop, mMut, appF, mA, mnA, fA1, fN1, lenD, tupD, wipeE, mAsgO, mSeqOf, mSeqB, mTupOf, mTxtOf, gTL, mNot, mOr, mAnd, mAndV, mOrV, mNotV, mChain, isB, tyN, mRetW, mRetO, -List.map_map, -Int.natCast_add, -List.map_append, -List.map_cons, -List.map_nil, -List.map_const, -List.map_const_fun, kitB, eqD_int, ixD, atI, ixN, is_name_ok c hx, is_name_ok c hy]
theorem keysD_strs : ∀ xs : List Str, keysD (xs.map .str) = some (xs.map Sum.inr)
  | [] => rfl
  | x :: xs => by simp [keysD, keyD, keysD_strs xs]
theorem dd_nodup : ∀ {ks : List Key}, ks.Nodup → dd ks = ks
  | [], _ => rfl
  | k :: ks, h => by
    have h' := List.nodup_cons.mp h
    have e : inK k ks = false := Bool.eq_false_iff.mpr fun z => h'.1 (inK_iff.mp z)
    simp [dd, e, dd_nodup h'.2]
theorem inr_nodup {xs : List Str} (h : xs.Nodup) : (xs.map (Sum.inr : Str → Key)).Nodup := by
  refine List.Pairwise.map _ (fun a b hab e => hab (Sum.inr.inj e)) h
theorem setKeys_strs (xs : List Str) (h : xs.length ≤ 4000) : setKeys (.lst (xs.map .str)) = some (xs.map Sum.inr) := by
  simp [setKeys, seqD, keysD_strs, h]
theorem setKeys_strsT (xs : List Str) (h : xs.length ≤ 4000) : setKeys (.tup (xs.map .str)) = some (xs.map Sum.inr) := by
  simp [setKeys, seqD, keysD_strs, h]
theorem lenSet_strs {xs : List Str} (h : xs.length ≤ 4000) (nd : xs.Nodup) : lenSetD (.lst (xs.map .str)) = some (.int xs.length) := by
  simp [lenSetD, setKeys_strs xs h, dd_nodup (inr_nodup nd)]
section
variable (c : Cs) {sorts : List (Str × Str)} (hS : SortsOk sorts)
include hS
theorem sorts_pl : ∀ e ∈ sorts.map (fun p => D.tup [.str p.1, .str p.2]), Pl 1 e := fun e he => by
  obtain ⟨p, hp, rfl⟩ := List.mem_map.mp he
  refine Pl.tup fun d hd => ?_
  simp at hd
  rcases hd with rfl | rfl
  · exact (hS.nm p hp).1.pl
  · exact (hS.nm p hp).2.pl
theorem L_are_sorts0 (f1 f2 f3 : Sl) : L_are_sorts_0 c [.bo (sortsD sorts), f1, f2, f3] = some (.ok (.lst (sorts.map fun _ => .bl true)) [.bo (sortsD sorts), .un, f2, f3]) := by
  refine mLc_map (as := sorts) (enc := fun p => .tup [.str p.1, .str p.2]) (δ0 := [.bo (sortsD sorts), f1, f2, f3]) rfl rfl fun p hp => ⟨[.bo (sortsD sorts), .fr (.tup [.str p.1, .str p.2]), f2, f3], [.bo (sortsD sorts), .fr (.tup [.str p.1, .str p.2]), f2, f3], rfl, ?_, rfl⟩
  simp [E_are_sorts_0, defI, defG, defN, startE, entry, PK.sl, mSeq, mIf, mTest, m1, m2, mn1, mn2, M.bind, mVal, mOv, mC, M.ret, Sl.dat, mRd, rd, M.lift, fI, fI0, mS, mAsg, gN, gT, gsC, gs0, mHas, ownL, Sl.own, reown, mRet, mVar, mNext, io0, mCallI, mCallP, mCallN, mMakeP, maCons, maNil, mRds, rds, frOk, apart, mdCons, mdNil, mLst, mTup, mIt, mFor, mDrop, mMut, appF, mA, mnA, fA1, fN1, lenD, tupD, wipeE, mAsgO, mSeqOf, mSeqB, mTupOf, mTxtOf, gTL, mNot, mOr, mAnd, mAndV, mOrV, mNotV, mChain, isB, tyN, mRetW, mRetO, -List.map_map, -Int.natCast_add, -List.map_append, -List.map_cons, -List.map_nil, -List.map_const, -List.map_const_fun, is_sort_row_ok c (hS.nm p hp).1 (hS.nm p hp).2]
theorem L_are_sorts1 (f1 f2 f3 : Sl) : L_are_sorts_1 c [.bo (sortsD sorts), f1, f2, f3] = some (.ok (.lst ((sorts.map fun p => p.1).map .str)) [.bo (sortsD sorts), f1, .un, .un]) := by
  rw [List.map_map]
  refine mLc_map (as := sorts) (enc := fun p => .tup [.str p.1, .str p.2]) (δ0 := [.bo (sortsD sorts), f1, f2, f3]) rfl rfl fun p hp => ⟨[.bo (sortsD sorts), f1, .fr (.str p.1), .fr (.str p.2)], [.bo (sortsD sorts), f1, .fr (.str p.1), .fr (.str p.2)], rfl, ?_, rfl⟩
  simp [E_are_sorts_1, defI, defG, defN, startE, entry, PK.sl, mSeq, mIf, mTest, m1, m2, mn1, mn2, M.bind, mVal, mOv, mC, M.ret, Sl.dat, mRd, rd, M.lift, fI, fI0, mS, mAsg, gN, gT, gsC, gs0, mHas, ownL, Sl.own, reown, mRet, mVar, mNext, io0, mCallI, mCallP, mCallN, mMakeP, maCons, maNil, mRds, rds, frOk, apart, mdCons, mdNil, mLst, mTup, mIt, mFor, mDrop, mMut, appF, mA, mnA, fA1, fN1, lenD, tupD, wipeE, mAsgO, mSeqOf, mSeqB, mTupOf, mTxtOf, gTL, mNot, mOr, mAnd, mAndV, mOrV, mNotV, mChain, isB, tyN, mRetW, mRetO, -List.map_map, -Int.natCast_add, -List.map_append, -List.map_cons, -List.map_nil, -List.map_const, -List.map_const_fun]
theorem L_are_sorts2 (f1 f2 f3 : Sl) : L_are_sorts_2 c [.bo (sortsD sorts), f1, f2, f3] = some (.ok (.lst (sorts.map fun _ => .bl true)) [.bo (sortsD sorts), f1, .un, .un]) := by
  refine mLc_map (as := sorts) (enc := fun p => .tup [.str p.1, .str p.2]) (δ0 := [.bo (sortsD sorts), f1, f2, f3]) rfl rfl fun p hp => ⟨[.bo (sortsD sorts), f1, .fr (.str p.1), .fr (.str p.2)], [.bo (sortsD sorts), f1, .fr (.str p.1), .fr (.str p.2)], rfl, ?_, rfl⟩
  have h1 : inLD false (.tup [.str p.2, .str p.1]) (sortsD sorts) = some (.bl true) := by
    unfold sortsD
    rw [inLD_pl 1 false (Pl.tup fun d hd => ?_) (sorts_pl hS)]
    · have : D.tup [.str p.2, .str p.1] ∈ sorts.map (fun p => D.tup [.str p.1, .str p.2]) := List.mem_map.mpr ⟨_, hS.mu p hp, rfl⟩
      simp only [this, decide_true, Bool.false_xor]
    · simp at hd
      rcases hd with rfl | rfl
      · exact (hS.nm p hp).2.pl
      · exact (hS.nm p hp).1.pl
  have l2 : (2 : Nat) ≤ LB := by decide
  simp [E_are_sorts_2, defI, defG, defN, startE, entry, PK.sl, mSeq, mIf, mTest, m1, m2, mn1, mn2, M.bind, mVal, mOv, mC, M.ret, Sl.dat, mRd, rd, M.lift, fI, fI0, mS, mAsg, gN, gT, gsC, gs0, mHas, ownL, Sl.own, reown, mRet, mVar, mNext, io0, mCallI, mCallP, mCallN, mMakeP, maCons, maNil, mRds, rds, frOk, apart, mdCons, mdNil, mLst, mTup, mIt, mFor, mDrop, mMut, appF, mA, mnA, fA1, fN1, lenD, tupD, wipeE, mAsgO, mSeqOf, mSeqB, mTupOf, mTxtOf, gTL, mNot, mOr, mAnd, mAndV, mOrV, mNotV, mChain, isB, tyN, mRetW, mRetO, -List.map_map, -Int.natCast_add, -List.map_append, -List.map_cons, -List.map_nil, -List.map_const, -List.map_const_fun, h1, l2]
theorem are_sorts_ok : g_are_sorts c [sortsD sorts] = some (.bl true) := by
  have h1 := L_are_sorts0 c hS .un .un .un
  have h2 := L_are_sorts1 c hS .un .un .un
  have h3 := L_are_sorts2 c hS .un .un .un
  have a1 : allD (.lst (sorts.map fun _ => .bl true)) = some (.bl true) := by rw [allD_map]; simp
  have ls : lenSetD (.lst ((sorts.map fun p => p.1).map .str)) = some (.int sorts.length) := by
    have := lenSet_strs (xs := sorts.map fun p => p.1) (by rw [List.length_map]; have := hS.hi; omega) hS.nd
    rw [List.length_map] at this
    exact this
  have ln : lenD (sortsD sorts) = some (.int sorts.length) := by simp [sortsD, lenD]
  have i1 : (1 : Int) ≤ (sorts.length : Int) := by have := hS.lo; omega
  have i3 : (sorts.length : Int) ≤ 3 := by have := hS.hi; omega
  have il : isB "list" (sortsD sorts) = some (.bl true) := rfl
  simp only [lift_e, liftK_s, mC_e, mVar_e, mOv_e, mVal_e, rd_v, rd_s, m1_e, m1K_o, m1L_s, m2_e, m2K_o, m2L_o, m2N_s, lstM_s, mn1_e, mn2_e, maNil_e, maCons_e, acK_o, mdNil_e, mdCons_e, dcK_o, rds_n, rds_c, consO_s, mA_e, mnA_e, aK_o, aL_s, fA1_e, fN1_e, mTup_e, mLst_e, mTest_e, mNot_e, mAnd_e, mOr_e, mAndV_e, mOrV_e, mNotV_e, mIfE_e, mChain_e, mNext_e, mSeq_e, mIf_e, mRet_e, mRetW_e, mRetO_e, mDrop_e, mAsg_e, mAsgO_e, gN_e, gs0_e, gsC_e, gT_e, gTL_e, mIt_e, mSeqOf_e, mTupOf_e, mSeqB_e, mFor_e, forL_n, forL_c, mCallP_e, mCallN_e, ownO_e, mCallI_e, mMakeP_e, ownL_e, mMut_e, appF_e, mPutI_e, ownI_e, mSetF_e, mpNone_e, mpSome_e, mSl_e, mCount_e, defG_e, defI_e, defN_e, varK_1, varK_2, ovK_1, ovK_2, ovK_3, ovK_4, valK_1, valK_2, valK_3, datK_1, datK_2, datK_3, datK_4, m1L_1, m1L_2, m1K_1, m1K_2, m1K_3, m2N_1, acL_1, acL_2, acL_3, dcL_1, dcL_2, dcL_3, consO_1, aL_1, aL_2, tupK_1, tupK_2, tupK_3, lstK_1, lstK_2, lstK_3, testK_1, testK_2, notK_1, notK_2, notK_3, andK_1, andK_2, andK_3, andK_4, orK_1, orK_2, orK_3, orK_4, andvK_1, andvK_2, andvK_3, orvK_1, orvK_2, orvK_3, notvK_1, notvK_2, ifeK_1, ifeK_2, ifeK_3, ifeK_4, chN_1, chN_2, chM_1, chL_1, chL_2, chL_3, chK_1, chK_2, chK_3, seqK_1, seqK_2, seqK_3, seqK_4, seqK_5, seqK_6, seqK_7, ifK_1, ifK_2, ifK_3, ifK_4, retK_1, retK_2, retK_3, retwK_1, retwK_2, retwK_3, retoK_1, dropK_1, dropK_2, dropK_3, nxK_1, nxK_2, asgK_1, asgK_2, asgK_3, asgoK_1, asgoK_2, asgoK_3, gscK_1, gscK_2, itK_1, itK_2, itK_3, sqK_1, sqK_2, tqK_1, tqK_2, sbK_1, sbK_2, sbK_3, forK_1, forK_2, forK_3, flL_1, flL_2, flL_3, flL_4, flL_5, flL_6, flL_7, flK_1, flK_2, cpL_1, cpL_2, cpK_1, cpK_2, cpK_3, ownK_1, ownK_2, ciM_1, ciM_2, ciL_1, ciK_1, ciK_2, ciK_3, ciH_1, ciH_2, mkN_1, mkL_1, mkL_2, mkK_1, mkK_2, mkK_3, olK_1, olK_2, muN_1, muN_2, muL_1, muL_2, muK_1, muK_2, muK_3, muH_1, muH_2, puN_1, puN_2, puM_1, puM_2, puL_1, puL_2, puH_1, puH_2, puK_1, puK_2, puK_3, oiK_1, oiK_2, sfL_1, sfL_2, sfK_1, sfK_2, sfK_3, psK_1, psK_2, slN_1, slN_2, slM_1, slM_2, slM_3, slL_1, slL_2, slL_3, slK_1, slK_2, slK_3, cnM_1, cnL_1, cnL_2, cnL_3, cnJ_1, cnJ_2, cnI_1, cnI_2, cnK_1, cnK_2, cnK_3, gD_1, gD_2, io0K_1, gI_1, gI_2, gNw_1, isB_str_non, isB_str_bl, isB_str_int, isB_str_str, isB_str_tup, isB_str_lst, isB_str_dk, isB_list_non, isB_list_bl, isB_list_int, isB_list_str, isB_list_tup, isB_list_lst, isB_list_dk, isB_tuple_non, isB_tuple_bl, isB_tuple_int, isB_tuple_str, isB_tuple_tup, isB_tuple_lst, isB_tuple_dk, isB_int_non, isB_int_bl, isB_int_int, isB_int_str, isB_int_tup, isB_int_lst, isB_int_dk, isB_bool_non, isB_bool_bl, isB_bool_int, isB_bool_str, isB_bool_tup, isB_bool_lst, isB_bool_dk, isB_dict_non, isB_dict_bl, isB_dict_int, isB_dict_str, isB_dict_tup, isB_dict_lst, isB_dict_dk, bK_1, sK_1, fI0_ii, fI_ii, addD_ii, lenD_lst, lenD_tup, tupD_lst, tupD_tup, listD_lst, listD_tup, kindD_lst, kindD_tup, revLD_lst, rown_ow, rown_io, sl_fr, sl_bo, sl_io, entry_n, entry_c, frOk_n, frOk_f, frOk_b, apart_n, apart_v, apart_s, startE, List.length_cons, List.length_nil, List.replicate, List.cons_append, List.nil_append, Nat.reduceAdd, Nat.reduceSub, Nat.zero_add, List.getElem?_cons_zero, List.getElem?_cons_succ, List.set_cons_zero, List.set_cons_succ, if_true, if_false, reduceIte, decide_true, decide_false, Bool.not_true, Bool.not_false, Bool.and_self, Bool.true_and, Bool.and_true, Bool.false_eq_true, LB, Nat.reduceLeDiff, Nat.reduceLT, Nat.reduceBNe, Nat.reduceBEq, g_are_sorts, m_are_sorts, il, ln, i1, i3, h1, a1, h2, ls, h3, Int.lt_irrefl]
end
end G

set_option Elab.async false
set_option linter.all false
set_option maxRecDepth 100000
set_option maxHeartbeats 1000000
/-! MCb: kinds in order; a stock made. -/
namespace G
open PySem L2 DL
theorem strLe_trans (a b c : Str) (h1 : strLe a b = true) (h2 : strLe b c = true) : strLe a c = true := by
  unfold strLe at *
  simp only [decide_eq_true_eq] at *
  exact List.le_trans h1 h2
theorem strLe_total (a b : Str) : (strLe a b || strLe b a) = true := by
  unfold strLe
  simp only [Bool.or_eq_true, decide_eq_true_eq]
  exact List.le_total _ _
theorem strLe_anti {a b : Str} (h1 : strLe a b = true) (h2 : strLe b a = true) : a = b := by
  unfold strLe at *
  simp only [decide_eq_true_eq] at *
  exact PySem.W.str_of_cps (List.le_antisymm h1 h2)
theorem sortS_sorted (xs : List Str) : (sortS xs).Pairwise fun a b => strLe a b = true := List.pairwise_mergeSort strLe_trans strLe_total xs
theorem sortS_perm (xs : List Str) : (sortS xs).Perm xs := List.mergeSort_perm xs strLe
theorem sortS_of {xs : List Str} (h : xs.Pairwise fun a b => strLe a b = true) : sortS xs = xs := List.mergeSort_of_pairwise h
theorem sortS_idem (xs : List Str) : sortS (sortS xs) = sortS xs := sortS_of (sortS_sorted xs)
theorem sortS_eq {xs ys : List Str} (p : xs.Perm ys) : sortS xs = sortS ys :=
  List.Perm.eq_of_pairwise (fun a b _ _ h1 h2 => strLe_anti h1 h2) (sortS_sorted xs) (sortS_sorted ys) ((sortS_perm xs).trans (p.trans (sortS_perm ys).symm))
theorem sortS_len (xs : List Str) : (sortS xs).length = xs.length := (sortS_perm xs).length_eq
theorem sortS_mem {x : Str} {xs : List Str} : x ∈ sortS xs ↔ x ∈ xs := (sortS_perm xs).mem_iff
/-- a kind's ends, told: sorted, one to five of the sorts -/
structure EndsOk (sorts : List (Str × Str)) (es : List Str) : Prop where
  so : sortS es = es
  mem : ∀ y ∈ es, y ∈ sorts.map fun q => q.1
  lo : 1 ≤ es.length
  hi : es.length ≤ 5
theorem KindsOk.ends {sorts : List (Str × Str)} {m : Nat} {ks : List (Str × List Str)} (h : KindsOk sorts m ks) (hm : m ≤ 5) {p : Str × List Str} (hp : p ∈ ks) : EndsOk sorts p.2 := by
  obtain ⟨xs, e, h1, h2, h3⟩ := h p hp
  rw [e]
  exact ⟨sortS_idem xs, fun y hy => h1 y (sortS_mem.mp hy), by rw [sortS_len]; exact h2, by rw [sortS_len]; omega⟩
section
variable (c : Cs) {sorts : List (Str × Str)} (hS : SortsOk sorts)
include hS
theorem sort_name {y : Str} (h : y ∈ sorts.map fun q => q.1) : NameOk y := by
  obtain ⟨p, hp, rfl⟩ := List.mem_map.mp h
  exact (hS.nm p hp).1
theorem strs_pl {xs : List Str} (h : ∀ y ∈ xs, NameOk y) : ∀ d ∈ xs.map D.str, Pl 0 d := fun d hd => by
  obtain ⟨x, hx, rfl⟩ := List.mem_map.mp hd
  exact (h x hx).pl
/-- the sorts' names -/
def snD (sorts : List (Str × Str)) : D := .lst ((sorts.map fun q => q.1).map .str)
theorem L_kind0 {es : List Str} (he : EndsOk sorts es) (f0 f1 f3 : Sl) : L_is_kind_row_0 c [f0, f1, .fr (.tup (es.map .str)), f3] = some (.ok (.lst (es.map fun _ => .bl true)) [f0, f1, .fr (.tup (es.map .str)), .un]) := by
  refine mLc_map (as := es) (enc := .str) (δ0 := [f0, f1, .fr (.tup (es.map .str)), f3]) (by simp only [lift_e, liftK_s, mC_e, mVar_e, mOv_e, mVal_e, rd_v, rd_s, m1_e, m1K_o, m1L_s, m2_e, m2K_o, m2L_o, m2N_s, lstM_s, mn1_e, mn2_e, maNil_e, maCons_e, acK_o, mdNil_e, mdCons_e, dcK_o, rds_n, rds_c, consO_s, mA_e, mnA_e, aK_o, aL_s, fA1_e, fN1_e, mTup_e, mLst_e, mTest_e, mNot_e, mAnd_e, mOr_e, mAndV_e, mOrV_e, mNotV_e, mIfE_e, mChain_e, mNext_e, mSeq_e, mIf_e, mRet_e, mRetW_e, mRetO_e, mDrop_e, mAsg_e, mAsgO_e, gN_e, gs0_e, gsC_e, gT_e, gTL_e, mIt_e, mSeqOf_e, mTupOf_e, mSeqB_e, mFor_e, forL_n, forL_c, mCallP_e, mCallN_e, ownO_e, mCallI_e, mMakeP_e, ownL_e, mMut_e, appF_e, mPutI_e, ownI_e, mSetF_e, mpNone_e, mpSome_e, mSl_e, mCount_e, defG_e, defI_e, defN_e, varK_1, varK_2, ovK_1, ovK_2, ovK_3, ovK_4, valK_1, valK_2, valK_3, datK_1, datK_2, datK_3, datK_4, m1L_1, m1L_2, m1K_1, m1K_2, m1K_3, m2N_1, acL_1, acL_2, acL_3, dcL_1, dcL_2, dcL_3, consO_1, aL_1, aL_2, tupK_1, tupK_2, tupK_3, lstK_1, lstK_2, lstK_3, testK_1, testK_2, notK_1, notK_2, notK_3, andK_1, andK_2, andK_3, andK_4, orK_1, orK_2, orK_3, orK_4, andvK_1, andvK_2, andvK_3, orvK_1, orvK_2, orvK_3, notvK_1, notvK_2, ifeK_1, ifeK_2, ifeK_3, ifeK_4, chN_1, chN_2, chM_1, chL_1, chL_2, chL_3, chK_1, chK_2, chK_3, seqK_1, seqK_2, seqK_3, seqK_4, seqK_5, seqK_6, seqK_7, ifK_1, ifK_2, ifK_3, ifK_4, retK_1, retK_2, retK_3, retwK_1, retwK_2, retwK_3, retoK_1, dropK_1, dropK_2, dropK_3, nxK_1, nxK_2, asgK_1, asgK_2, asgK_3, asgoK_1, asgoK_2, asgoK_3, gscK_1, gscK_2, itK_1, itK_2, itK_3, sqK_1, sqK_2, tqK_1, tqK_2, sbK_1, sbK_2, sbK_3, forK_1, forK_2, forK_3, flL_1, flL_2, flL_3, flL_4, flL_5, flL_6, flL_7, flK_1, flK_2, cpL_1, cpL_2, cpK_1, cpK_2, cpK_3, ownK_1, ownK_2, ciM_1, ciM_2, ciL_1, ciK_1, ciK_2, ciK_3, ciH_1, ciH_2, mkN_1, mkL_1, mkL_2, mkK_1, mkK_2, mkK_3, olK_1, olK_2, muN_1, muN_2, muL_1, muL_2, muK_1, muK_2, muK_3, muH_1, muH_2, puN_1, puN_2, puM_1, puM_2, puL_1, puL_2, puH_1, puH_2, puK_1, puK_2, puK_3, oiK_1, oiK_2, sfL_1, sfL_2, sfK_1, sfK_2, sfK_3, psK_1, psK_2, slN_1, slN_2, slM_1, slM_2, slM_3, slL_1, slL_2, slL_3, slK_1, slK_2, slK_3, cnM_1, cnL_1, cnL_2, cnL_3, cnJ_1, cnJ_2, cnI_1, cnI_2, cnK_1, cnK_2, cnK_3, gD_1, gD_2, io0K_1, gI_1, gI_2, gNw_1, isB_str_non, isB_str_bl, isB_str_int, isB_str_str, isB_str_tup, isB_str_lst, isB_str_dk, isB_list_non, isB_list_bl, isB_list_int, isB_list_str, isB_list_tup, isB_list_lst, isB_list_dk, isB_tuple_non, isB_tuple_bl, isB_tuple_int, isB_tuple_str, isB_tuple_tup, isB_tuple_lst, isB_tuple_dk, isB_int_non, isB_int_bl, isB_int_int, isB_int_str, isB_int_tup, isB_int_lst, isB_int_dk, isB_bool_non, isB_bool_bl, isB_bool_int, isB_bool_str, isB_bool_tup, isB_bool_lst, isB_bool_dk, isB_dict_non, isB_dict_bl, isB_dict_int, isB_dict_str, isB_dict_tup, isB_dict_lst, isB_dict_dk, bK_1, sK_1, fI0_ii, fI_ii, addD_ii, lenD_lst, lenD_tup, tupD_lst, tupD_tup, listD_lst, listD_tup, kindD_lst, kindD_tup, revLD_lst, rown_ow, rown_io, sl_fr, sl_bo, sl_io, entry_n, entry_c, frOk_n, frOk_f, frOk_b, apart_n, apart_v, apart_s, startE, List.length_cons, List.length_nil, List.replicate, List.cons_append, List.nil_append, Nat.reduceAdd, Nat.reduceSub, Nat.zero_add, List.getElem?_cons_zero, List.getElem?_cons_succ, List.set_cons_zero, List.set_cons_succ, if_true, if_false, reduceIte, decide_true, decide_false, Bool.not_true, Bool.not_false, Bool.and_self, Bool.true_and, Bool.and_true, Bool.false_eq_true, LB, Nat.reduceLeDiff, Nat.reduceLT, Nat.reduceBNe, Nat.reduceBEq]) rfl fun y hy => ⟨[f0, f1, .fr (.tup (es.map .str)), .fr (.str y)], [f0, f1, .fr (.tup (es.map .str)), .fr (.str y)], rfl, ?_, rfl⟩
  simp only [lift_e, liftK_s, mC_e, mVar_e, mOv_e, mVal_e, rd_v, rd_s, m1_e, m1K_o, m1L_s, m2_e, m2K_o, m2L_o, m2N_s, lstM_s, mn1_e, mn2_e, maNil_e, maCons_e, acK_o, mdNil_e, mdCons_e, dcK_o, rds_n, rds_c, consO_s, mA_e, mnA_e, aK_o, aL_s, fA1_e, fN1_e, mTup_e, mLst_e, mTest_e, mNot_e, mAnd_e, mOr_e, mAndV_e, mOrV_e, mNotV_e, mIfE_e, mChain_e, mNext_e, mSeq_e, mIf_e, mRet_e, mRetW_e, mRetO_e, mDrop_e, mAsg_e, mAsgO_e, gN_e, gs0_e, gsC_e, gT_e, gTL_e, mIt_e, mSeqOf_e, mTupOf_e, mSeqB_e, mFor_e, forL_n, forL_c, mCallP_e, mCallN_e, ownO_e, mCallI_e, mMakeP_e, ownL_e, mMut_e, appF_e, mPutI_e, ownI_e, mSetF_e, mpNone_e, mpSome_e, mSl_e, mCount_e, defG_e, defI_e, defN_e, varK_1, varK_2, ovK_1, ovK_2, ovK_3, ovK_4, valK_1, valK_2, valK_3, datK_1, datK_2, datK_3, datK_4, m1L_1, m1L_2, m1K_1, m1K_2, m1K_3, m2N_1, acL_1, acL_2, acL_3, dcL_1, dcL_2, dcL_3, consO_1, aL_1, aL_2, tupK_1, tupK_2, tupK_3, lstK_1, lstK_2, lstK_3, testK_1, testK_2, notK_1, notK_2, notK_3, andK_1, andK_2, andK_3, andK_4, orK_1, orK_2, orK_3, orK_4, andvK_1, andvK_2, andvK_3, orvK_1, orvK_2, orvK_3, notvK_1, notvK_2, ifeK_1, ifeK_2, ifeK_3, ifeK_4, chN_1, chN_2, chM_1, chL_1, chL_2, chL_3, chK_1, chK_2, chK_3, seqK_1, seqK_2, seqK_3, seqK_4, seqK_5, seqK_6, seqK_7, ifK_1, ifK_2, ifK_3, ifK_4, retK_1, retK_2, retK_3, retwK_1, retwK_2, retwK_3, retoK_1, dropK_1, dropK_2, dropK_3, nxK_1, nxK_2, asgK_1, asgK_2, asgK_3, asgoK_1, asgoK_2, asgoK_3, gscK_1, gscK_2, itK_1, itK_2, itK_3, sqK_1, sqK_2, tqK_1, tqK_2, sbK_1, sbK_2, sbK_3, forK_1, forK_2, forK_3, flL_1, flL_2, flL_3, flL_4, flL_5, flL_6, flL_7, flK_1, flK_2, cpL_1, cpL_2, cpK_1, cpK_2, cpK_3, ownK_1, ownK_2, ciM_1, ciM_2, ciL_1, ciK_1, ciK_2, ciK_3, ciH_1, ciH_2, mkN_1, mkL_1, mkL_2, mkK_1, mkK_2, mkK_3, olK_1, olK_2, muN_1, muN_2, muL_1, muL_2, muK_1, muK_2, muK_3, muH_1, muH_2, puN_1, puN_2, puM_1, puM_2, puL_1, puL_2, puH_1, puH_2, puK_1, puK_2, puK_3, oiK_1, oiK_2, sfL_1, sfL_2, sfK_1, sfK_2, sfK_3, psK_1, psK_2, slN_1, slN_2, slM_1, slM_2, slM_3, slL_1, slL_2, slL_3, slK_1, slK_2, slK_3, cnM_1, cnL_1, cnL_2, cnL_3, cnJ_1, cnJ_2, cnI_1, cnI_2, cnK_1, cnK_2, cnK_3, gD_1, gD_2, io0K_1, gI_1, gI_2, gNw_1, isB_str_non, isB_str_bl, isB_str_int, isB_str_str, isB_str_tup, isB_str_lst, isB_str_dk, isB_list_non, isB_list_bl, isB_list_int, isB_list_str, isB_list_tup, isB_list_lst, isB_list_dk, isB_tuple_non, isB_tuple_bl, isB_tuple_int, isB_tuple_str, isB_tuple_tup, isB_tuple_lst, isB_tuple_dk, isB_int_non, isB_int_bl, isB_int_int, isB_int_str, isB_int_tup, isB_int_lst, isB_int_dk, isB_bool_non, isB_bool_bl, isB_bool_int, isB_bool_str, isB_bool_tup, isB_bool_lst, isB_bool_dk, isB_dict_non, isB_dict_bl, isB_dict_int, isB_dict_str, isB_dict_tup, isB_dict_lst, isB_dict_dk, bK_1, sK_1, fI0_ii, fI_ii, addD_ii, lenD_lst, lenD_tup, tupD_lst, tupD_tup, listD_lst, listD_tup, kindD_lst, kindD_tup, revLD_lst, rown_ow, rown_io, sl_fr, sl_bo, sl_io, entry_n, entry_c, frOk_n, frOk_f, frOk_b, apart_n, apart_v, apart_s, startE, List.length_cons, List.length_nil, List.replicate, List.cons_append, List.nil_append, Nat.reduceAdd, Nat.reduceSub, Nat.zero_add, List.getElem?_cons_zero, List.getElem?_cons_succ, List.set_cons_zero, List.set_cons_succ, if_true, if_false, reduceIte, decide_true, decide_false, Bool.not_true, Bool.not_false, Bool.and_self, Bool.true_and, Bool.and_true, Bool.false_eq_true, LB, Nat.reduceLeDiff, Nat.reduceLT, Nat.reduceBNe, Nat.reduceBEq, E_is_kind_row_0, is_name_ok c (sort_name hS (he.mem y hy))]
theorem L_kind1 {es : List Str} (he : EndsOk sorts es) (f0 f3 : Sl) : L_is_kind_row_1 c [f0, .fr (snD sorts), .fr (.tup (es.map .str)), f3] = some (.ok (.lst (es.map fun _ => .bl true)) [f0, .fr (snD sorts), .fr (.tup (es.map .str)), .un]) := by
  refine mLc_map (as := es) (enc := .str) (δ0 := [f0, .fr (snD sorts), .fr (.tup (es.map .str)), f3]) (by simp only [lift_e, liftK_s, mC_e, mVar_e, mOv_e, mVal_e, rd_v, rd_s, m1_e, m1K_o, m1L_s, m2_e, m2K_o, m2L_o, m2N_s, lstM_s, mn1_e, mn2_e, maNil_e, maCons_e, acK_o, mdNil_e, mdCons_e, dcK_o, rds_n, rds_c, consO_s, mA_e, mnA_e, aK_o, aL_s, fA1_e, fN1_e, mTup_e, mLst_e, mTest_e, mNot_e, mAnd_e, mOr_e, mAndV_e, mOrV_e, mNotV_e, mIfE_e, mChain_e, mNext_e, mSeq_e, mIf_e, mRet_e, mRetW_e, mRetO_e, mDrop_e, mAsg_e, mAsgO_e, gN_e, gs0_e, gsC_e, gT_e, gTL_e, mIt_e, mSeqOf_e, mTupOf_e, mSeqB_e, mFor_e, forL_n, forL_c, mCallP_e, mCallN_e, ownO_e, mCallI_e, mMakeP_e, ownL_e, mMut_e, appF_e, mPutI_e, ownI_e, mSetF_e, mpNone_e, mpSome_e, mSl_e, mCount_e, defG_e, defI_e, defN_e, varK_1, varK_2, ovK_1, ovK_2, ovK_3, ovK_4, valK_1, valK_2, valK_3, datK_1, datK_2, datK_3, datK_4, m1L_1, m1L_2, m1K_1, m1K_2, m1K_3, m2N_1, acL_1, acL_2, acL_3, dcL_1, dcL_2, dcL_3, consO_1, aL_1, aL_2, tupK_1, tupK_2, tupK_3, lstK_1, lstK_2, lstK_3, testK_1, testK_2, notK_1, notK_2, notK_3, andK_1, andK_2, andK_3, andK_4, orK_1, orK_2, orK_3, orK_4, andvK_1, andvK_2, andvK_3, orvK_1, orvK_2, orvK_3, notvK_1, notvK_2, ifeK_1, ifeK_2, ifeK_3, ifeK_4, chN_1, chN_2, chM_1, chL_1, chL_2, chL_3, chK_1, chK_2, chK_3, seqK_1, seqK_2, seqK_3, seqK_4, seqK_5, seqK_6, seqK_7, ifK_1, ifK_2, ifK_3, ifK_4, retK_1, retK_2, retK_3, retwK_1, retwK_2, retwK_3, retoK_1, dropK_1, dropK_2, dropK_3, nxK_1, nxK_2, asgK_1, asgK_2, asgK_3, asgoK_1, asgoK_2, asgoK_3, gscK_1, gscK_2, itK_1, itK_2, itK_3, sqK_1, sqK_2, tqK_1, tqK_2, sbK_1, sbK_2, sbK_3, forK_1, forK_2, forK_3, flL_1, flL_2, flL_3, flL_4, flL_5, flL_6, flL_7, flK_1, flK_2, cpL_1, cpL_2, cpK_1, cpK_2, cpK_3, ownK_1, ownK_2, ciM_1, ciM_2, ciL_1, ciK_1, ciK_2, ciK_3, ciH_1, ciH_2, mkN_1, mkL_1, mkL_2, mkK_1, mkK_2, mkK_3, olK_1, olK_2, muN_1, muN_2, muL_1, muL_2, muK_1, muK_2, muK_3, muH_1, muH_2, puN_1, puN_2, puM_1, puM_2, puL_1, puL_2, puH_1, puH_2, puK_1, puK_2, puK_3, oiK_1, oiK_2, sfL_1, sfL_2, sfK_1, sfK_2, sfK_3, psK_1, psK_2, slN_1, slN_2, slM_1, slM_2, slM_3, slL_1, slL_2, slL_3, slK_1, slK_2, slK_3, cnM_1, cnL_1, cnL_2, cnL_3, cnJ_1, cnJ_2, cnI_1, cnI_2, cnK_1, cnK_2, cnK_3, gD_1, gD_2, io0K_1, gI_1, gI_2, gNw_1, isB_str_non, isB_str_bl, isB_str_int, isB_str_str, isB_str_tup, isB_str_lst, isB_str_dk, isB_list_non, isB_list_bl, isB_list_int, isB_list_str, isB_list_tup, isB_list_lst, isB_list_dk, isB_tuple_non, isB_tuple_bl, isB_tuple_int, isB_tuple_str, isB_tuple_tup, isB_tuple_lst, isB_tuple_dk, isB_int_non, isB_int_bl, isB_int_int, isB_int_str, isB_int_tup, isB_int_lst, isB_int_dk, isB_bool_non, isB_bool_bl, isB_bool_int, isB_bool_str, isB_bool_tup, isB_bool_lst, isB_bool_dk, isB_dict_non, isB_dict_bl, isB_dict_int, isB_dict_str, isB_dict_tup, isB_dict_lst, isB_dict_dk, bK_1, sK_1, fI0_ii, fI_ii, addD_ii, lenD_lst, lenD_tup, tupD_lst, tupD_tup, listD_lst, listD_tup, kindD_lst, kindD_tup, revLD_lst, rown_ow, rown_io, sl_fr, sl_bo, sl_io, entry_n, entry_c, frOk_n, frOk_f, frOk_b, apart_n, apart_v, apart_s, startE, List.length_cons, List.length_nil, List.replicate, List.cons_append, List.nil_append, Nat.reduceAdd, Nat.reduceSub, Nat.zero_add, List.getElem?_cons_zero, List.getElem?_cons_succ, List.set_cons_zero, List.set_cons_succ, if_true, if_false, reduceIte, decide_true, decide_false, Bool.not_true, Bool.not_false, Bool.and_self, Bool.true_and, Bool.and_true, Bool.false_eq_true, LB, Nat.reduceLeDiff, Nat.reduceLT, Nat.reduceBNe, Nat.reduceBEq]) rfl fun y hy => ⟨[f0, .fr (snD sorts), .fr (.tup (es.map .str)), .fr (.str y)], [f0, .fr (snD sorts), .fr (.tup (es.map .str)), .fr (.str y)], rfl, ?_, rfl⟩
  have h1 : inLD false (.str y) (snD sorts) = some (.bl true) := by
    unfold snD
    rw [inLD_pl 0 false (sort_name hS (he.mem y hy)).pl (strs_pl hS fun z hz => sort_name hS hz)]
    have : D.str y ∈ (sorts.map fun q => q.1).map D.str := List.mem_map.mpr ⟨y, he.mem y hy, rfl⟩
    simp only [this, decide_true, Bool.false_xor]
  simp only [lift_e, liftK_s, mC_e, mVar_e, mOv_e, mVal_e, rd_v, rd_s, m1_e, m1K_o, m1L_s, m2_e, m2K_o, m2L_o, m2N_s, lstM_s, mn1_e, mn2_e, maNil_e, maCons_e, acK_o, mdNil_e, mdCons_e, dcK_o, rds_n, rds_c, consO_s, mA_e, mnA_e, aK_o, aL_s, fA1_e, fN1_e, mTup_e, mLst_e, mTest_e, mNot_e, mAnd_e, mOr_e, mAndV_e, mOrV_e, mNotV_e, mIfE_e, mChain_e, mNext_e, mSeq_e, mIf_e, mRet_e, mRetW_e, mRetO_e, mDrop_e, mAsg_e, mAsgO_e, gN_e, gs0_e, gsC_e, gT_e, gTL_e, mIt_e, mSeqOf_e, mTupOf_e, mSeqB_e, mFor_e, forL_n, forL_c, mCallP_e, mCallN_e, ownO_e, mCallI_e, mMakeP_e, ownL_e, mMut_e, appF_e, mPutI_e, ownI_e, mSetF_e, mpNone_e, mpSome_e, mSl_e, mCount_e, defG_e, defI_e, defN_e, varK_1, varK_2, ovK_1, ovK_2, ovK_3, ovK_4, valK_1, valK_2, valK_3, datK_1, datK_2, datK_3, datK_4, m1L_1, m1L_2, m1K_1, m1K_2, m1K_3, m2N_1, acL_1, acL_2, acL_3, dcL_1, dcL_2, dcL_3, consO_1, aL_1, aL_2, tupK_1, tupK_2, tupK_3, lstK_1, lstK_2, lstK_3, testK_1, testK_2, notK_1, notK_2, notK_3, andK_1, andK_2, andK_3, andK_4, orK_1, orK_2, orK_3, orK_4, andvK_1, andvK_2, andvK_3, orvK_1, orvK_2, orvK_3, notvK_1, notvK_2, ifeK_1, ifeK_2, ifeK_3, ifeK_4, chN_1, chN_2, chM_1, chL_1, chL_2, chL_3, chK_1, chK_2, chK_3, seqK_1, seqK_2, seqK_3, seqK_4, seqK_5, seqK_6, seqK_7, ifK_1, ifK_2, ifK_3, ifK_4, retK_1, retK_2, retK_3, retwK_1, retwK_2, retwK_3, retoK_1, dropK_1, dropK_2, dropK_3, nxK_1, nxK_2, asgK_1, asgK_2, asgK_3, asgoK_1, asgoK_2, asgoK_3, gscK_1, gscK_2, itK_1, itK_2, itK_3, sqK_1, sqK_2, tqK_1, tqK_2, sbK_1, sbK_2, sbK_3, forK_1, forK_2, forK_3, flL_1, flL_2, flL_3, flL_4, flL_5, flL_6, flL_7, flK_1, flK_2, cpL_1, cpL_2, cpK_1, cpK_2, cpK_3, ownK_1, ownK_2, ciM_1, ciM_2, ciL_1, ciK_1, ciK_2, ciK_3, ciH_1, ciH_2, mkN_1, mkL_1, mkL_2, mkK_1, mkK_2, mkK_3, olK_1, olK_2, muN_1, muN_2, muL_1, muL_2, muK_1, muK_2, muK_3, muH_1, muH_2, puN_1, puN_2, puM_1, puM_2, puL_1, puL_2, puH_1, puH_2, puK_1, puK_2, puK_3, oiK_1, oiK_2, sfL_1, sfL_2, sfK_1, sfK_2, sfK_3, psK_1, psK_2, slN_1, slN_2, slM_1, slM_2, slM_3, slL_1, slL_2, slL_3, slK_1, slK_2, slK_3, cnM_1, cnL_1, cnL_2, cnL_3, cnJ_1, cnJ_2, cnI_1, cnI_2, cnK_1, cnK_2, cnK_3, gD_1, gD_2, io0K_1, gI_1, gI_2, gNw_1, isB_str_non, isB_str_bl, isB_str_int, isB_str_str, isB_str_tup, isB_str_lst, isB_str_dk, isB_list_non, isB_list_bl, isB_list_int, isB_list_str, isB_list_tup, isB_list_lst, isB_list_dk, isB_tuple_non, isB_tuple_bl, isB_tuple_int, isB_tuple_str, isB_tuple_tup, isB_tuple_lst, isB_tuple_dk, isB_int_non, isB_int_bl, isB_int_int, isB_int_str, isB_int_tup, isB_int_lst, isB_int_dk, isB_bool_non, isB_bool_bl, isB_bool_int, isB_bool_str, isB_bool_tup, isB_bool_lst, isB_bool_dk, isB_dict_non, isB_dict_bl, isB_dict_int, isB_dict_str, isB_dict_tup, isB_dict_lst, isB_dict_dk, bK_1, sK_1, fI0_ii, fI_ii, addD_ii, lenD_lst, lenD_tup, tupD_lst, tupD_tup, listD_lst, listD_tup, kindD_lst, kindD_tup, revLD_lst, rown_ow, rown_io, sl_fr, sl_bo, sl_io, entry_n, entry_c, frOk_n, frOk_f, frOk_b, apart_n, apart_v, apart_s, startE, List.length_cons, List.length_nil, List.replicate, List.cons_append, List.nil_append, Nat.reduceAdd, Nat.reduceSub, Nat.zero_add, List.getElem?_cons_zero, List.getElem?_cons_succ, List.set_cons_zero, List.set_cons_succ, if_true, if_false, reduceIte, decide_true, decide_false, Bool.not_true, Bool.not_false, Bool.and_self, Bool.true_and, Bool.and_true, Bool.false_eq_true, LB, Nat.reduceLeDiff, Nat.reduceLT, Nat.reduceBNe, Nat.reduceBEq, E_is_kind_row_1, h1]
theorem is_kind_row_ok {n : Str} {es : List Str} (hn : NameOk n) (he : EndsOk sorts es) : g_is_kind_row c [kindD (n, es), snD sorts] = some (.bl true) := by
  have h1 := L_kind0 c hS he (.fr (kindD (n, es))) (.fr (snD sorts)) .un
  have h2 := L_kind1 c hS he (.fr (kindD (n, es))) .un
  have a1 : allD (.lst (es.map fun _ => .bl true)) = some (.bl true) := by rw [allD_map]; simp
  have i1 : (1 : Int) ≤ (es.length : Int) := by have := he.lo; omega
  have i5 : (es.length : Int) ≤ 5 := by have := he.hi; omega
  have l2 : ixD (kindD (n, es)) (.int 0) = some (.str n) := rfl
  have l3 : ixD (kindD (n, es)) (.int 1) = some (.tup (es.map .str)) := rfl
  have l4 : isB "tuple" (kindD (n, es)) = some (.bl true) := rfl
  have l5 : lenD (kindD (n, es)) = some (.int 2) := rfl
  have ls : sortF (.tup (es.map .str)) = some (es.map .str) := by rw [sortF_tup es (by have := he.hi; omega), he.so]
  have le : eqD (.lst (es.map .str)) (.lst (es.map .str)) = some (.bl true) := by
    have := Pl.lst (strs_pl hS fun z hz => sort_name hS (he.mem z hz))
    rw [eqD_pl 1 this this]; simp only [decide_true]
  simp only [lift_e, liftK_s, mC_e, mVar_e, mOv_e, mVal_e, rd_v, rd_s, m1_e, m1K_o, m1L_s, m2_e, m2K_o, m2L_o, m2N_s, lstM_s, mn1_e, mn2_e, maNil_e, maCons_e, acK_o, mdNil_e, mdCons_e, dcK_o, rds_n, rds_c, consO_s, mA_e, mnA_e, aK_o, aL_s, fA1_e, fN1_e, mTup_e, mLst_e, mTest_e, mNot_e, mAnd_e, mOr_e, mAndV_e, mOrV_e, mNotV_e, mIfE_e, mChain_e, mNext_e, mSeq_e, mIf_e, mRet_e, mRetW_e, mRetO_e, mDrop_e, mAsg_e, mAsgO_e, gN_e, gs0_e, gsC_e, gT_e, gTL_e, mIt_e, mSeqOf_e, mTupOf_e, mSeqB_e, mFor_e, forL_n, forL_c, mCallP_e, mCallN_e, ownO_e, mCallI_e, mMakeP_e, ownL_e, mMut_e, appF_e, mPutI_e, ownI_e, mSetF_e, mpNone_e, mpSome_e, mSl_e, mCount_e, defG_e, defI_e, defN_e, varK_1, varK_2, ovK_1, ovK_2, ovK_3, ovK_4, valK_1, valK_2, valK_3, datK_1, datK_2, datK_3, datK_4, m1L_1, m1L_2, m1K_1, m1K_2, m1K_3, m2N_1, acL_1, acL_2, acL_3, dcL_1, dcL_2, dcL_3, consO_1, aL_1, aL_2, tupK_1, tupK_2, tupK_3, lstK_1, lstK_2, lstK_3, testK_1, testK_2, notK_1, notK_2, notK_3, andK_1, andK_2, andK_3, andK_4, orK_1, orK_2, orK_3, orK_4, andvK_1, andvK_2, andvK_3, orvK_1, orvK_2, orvK_3, notvK_1, notvK_2, ifeK_1, ifeK_2, ifeK_3, ifeK_4, chN_1, chN_2, chM_1, chL_1, chL_2, chL_3, chK_1, chK_2, chK_3, seqK_1, seqK_2, seqK_3, seqK_4, seqK_5, seqK_6, seqK_7, ifK_1, ifK_2, ifK_3, ifK_4, retK_1, retK_2, retK_3, retwK_1, retwK_2, retwK_3, retoK_1, dropK_1, dropK_2, dropK_3, nxK_1, nxK_2, asgK_1, asgK_2, asgK_3, asgoK_1, asgoK_2, asgoK_3, gscK_1, gscK_2, itK_1, itK_2, itK_3, sqK_1, sqK_2, tqK_1, tqK_2, sbK_1, sbK_2, sbK_3, forK_1, forK_2, forK_3, flL_1, flL_2, flL_3, flL_4, flL_5, flL_6, flL_7, flK_1, flK_2, cpL_1, cpL_2, cpK_1, cpK_2, cpK_3, ownK_1, ownK_2, ciM_1, ciM_2, ciL_1, ciK_1, ciK_2, ciK_3, ciH_1, ciH_2, mkN_1, mkL_1, mkL_2, mkK_1, mkK_2, mkK_3, olK_1, olK_2, muN_1, muN_2, muL_1, muL_2, muK_1, muK_2, muK_3, muH_1, muH_2, puN_1, puN_2, puM_1, puM_2, puL_1, puL_2, puH_1, puH_2, puK_1, puK_2, puK_3, oiK_1, oiK_2, sfL_1, sfL_2, sfK_1, sfK_2, sfK_3, psK_1, psK_2, slN_1, slN_2, slM_1, slM_2, slM_3, slL_1, slL_2, slL_3, slK_1, slK_2, slK_3, cnM_1, cnL_1, cnL_2, cnL_3, cnJ_1, cnJ_2, cnI_1, cnI_2, cnK_1, cnK_2, cnK_3, gD_1, gD_2, io0K_1, gI_1, gI_2, gNw_1, isB_str_non, isB_str_bl, isB_str_int, isB_str_str, isB_str_tup, isB_str_lst, isB_str_dk, isB_list_non, isB_list_bl, isB_list_int, isB_list_str, isB_list_tup, isB_list_lst, isB_list_dk, isB_tuple_non, isB_tuple_bl, isB_tuple_int, isB_tuple_str, isB_tuple_tup, isB_tuple_lst, isB_tuple_dk, isB_int_non, isB_int_bl, isB_int_int, isB_int_str, isB_int_tup, isB_int_lst, isB_int_dk, isB_bool_non, isB_bool_bl, isB_bool_int, isB_bool_str, isB_bool_tup, isB_bool_lst, isB_bool_dk, isB_dict_non, isB_dict_bl, isB_dict_int, isB_dict_str, isB_dict_tup, isB_dict_lst, isB_dict_dk, bK_1, sK_1, fI0_ii, fI_ii, addD_ii, lenD_lst, lenD_tup, tupD_lst, tupD_tup, listD_lst, listD_tup, kindD_lst, kindD_tup, revLD_lst, rown_ow, rown_io, sl_fr, sl_bo, sl_io, entry_n, entry_c, frOk_n, frOk_f, frOk_b, apart_n, apart_v, apart_s, startE, List.length_cons, List.length_nil, List.replicate, List.cons_append, List.nil_append, Nat.reduceAdd, Nat.reduceSub, Nat.zero_add, List.getElem?_cons_zero, List.getElem?_cons_succ, List.set_cons_zero, List.set_cons_succ, if_true, if_false, reduceIte, decide_true, decide_false, Bool.not_true, Bool.not_false, Bool.and_self, Bool.true_and, Bool.and_true, Bool.false_eq_true, LB, Nat.reduceLeDiff, Nat.reduceLT, Nat.reduceBNe, Nat.reduceBEq, g_is_kind_row, m_is_kind_row, l2, l3, l4, l5, neD_int, is_name_ok c hn, List.length_map, i1, i5, h1, a1, h2, ls, le]
end
end G

set_option Elab.async false
set_option linter.all false
set_option maxRecDepth 100000
set_option maxHeartbeats 1000000
/-! MCc: a stock made; its kinds looked up; corners in order. -/
namespace G
open PySem L2 DL
/-- a stock's values -/
structure StockOk (sorts : List (Str × Str)) (ks : List (Str × List Str)) : Prop where
  so : SortsOk sorts
  lo : 1 ≤ ks.length
  hi : ks.length ≤ 4
  nm : ∀ p ∈ ks, NameOk p.1
  nd : (ks.map fun p => p.1).Nodup
  en : ∀ p ∈ ks, EndsOk sorts p.2
def stockD (c : Cs) (sorts : List (Str × Str)) (ks : List (Str × List Str)) : D := .ins c.stock ["sorts", "kinds"] [sortsD sorts, kindsD ks]
section
variable (c : Cs) {sorts : List (Str × Str)} {ks : List (Str × List Str)} (hS : StockOk sorts ks)
include hS
theorem L_kinds0 (f2 f3 f4 : Sl) : L_are_kinds_0 c [.bo (kindsD ks), .fr (snD sorts), f2, f3, f4] = some (.ok (.lst (ks.map fun _ => .bl true)) [.bo (kindsD ks), .fr (snD sorts), .un, f3, f4]) := by
  refine mLc_map (as := ks) (enc := kindD) (δ0 := [.bo (kindsD ks), .fr (snD sorts), f2, f3, f4]) rfl rfl fun p hp => ⟨[.bo (kindsD ks), .fr (snD sorts), .fr (kindD p), f3, f4], [.bo (kindsD ks), .fr (snD sorts), .fr (kindD p), f3, f4], rfl, ?_, rfl⟩
  simp only [lift_e, liftK_s, mC_e, mVar_e, mOv_e, mVal_e, rd_v, rd_s, m1_e, m1K_o, m1L_s, m2_e, m2K_o, m2L_o, m2N_s, lstM_s, mn1_e, mn2_e, maNil_e, maCons_e, acK_o, mdNil_e, mdCons_e, dcK_o, rds_n, rds_c, consO_s, mA_e, mnA_e, aK_o, aL_s, fA1_e, fN1_e, mTup_e, mLst_e, mTest_e, mNot_e, mAnd_e, mOr_e, mAndV_e, mOrV_e, mNotV_e, mIfE_e, mChain_e, mNext_e, mSeq_e, mIf_e, mRet_e, mRetW_e, mRetO_e, mDrop_e, mAsg_e, mAsgO_e, gN_e, gs0_e, gsC_e, gT_e, gTL_e, mIt_e, mSeqOf_e, mTupOf_e, mSeqB_e, mFor_e, forL_n, forL_c, mCallP_e, mCallN_e, ownO_e, mCallI_e, mMakeP_e, ownL_e, mMut_e, appF_e, mPutI_e, ownI_e, mSetF_e, mpNone_e, mpSome_e, mSl_e, mCount_e, defG_e, defI_e, defN_e, varK_1, varK_2, ovK_1, ovK_2, ovK_3, ovK_4, valK_1, valK_2, valK_3, datK_1, datK_2, datK_3, datK_4, m1L_1, m1L_2, m1K_1, m1K_2, m1K_3, m2N_1, acL_1, acL_2, acL_3, dcL_1, dcL_2, dcL_3, consO_1, aL_1, aL_2, tupK_1, tupK_2, tupK_3, lstK_1, lstK_2, lstK_3, testK_1, testK_2, notK_1, notK_2, notK_3, andK_1, andK_2, andK_3, andK_4, orK_1, orK_2, orK_3, orK_4, andvK_1, andvK_2, andvK_3, orvK_1, orvK_2, orvK_3, notvK_1, notvK_2, ifeK_1, ifeK_2, ifeK_3, ifeK_4, chN_1, chN_2, chM_1, chL_1, chL_2, chL_3, chK_1, chK_2, chK_3, seqK_1, seqK_2, seqK_3, seqK_4, seqK_5, seqK_6, seqK_7, ifK_1, ifK_2, ifK_3, ifK_4, retK_1, retK_2, retK_3, retwK_1, retwK_2, retwK_3, retoK_1, dropK_1, dropK_2, dropK_3, nxK_1, nxK_2, asgK_1, asgK_2, asgK_3, asgoK_1, asgoK_2, asgoK_3, gscK_1, gscK_2, itK_1, itK_2, itK_3, sqK_1, sqK_2, tqK_1, tqK_2, sbK_1, sbK_2, sbK_3, forK_1, forK_2, forK_3, flL_1, flL_2, flL_3, flL_4, flL_5, flL_6, flL_7, flK_1, flK_2, cpL_1, cpL_2, cpK_1, cpK_2, cpK_3, ownK_1, ownK_2, ciM_1, ciM_2, ciL_1, ciK_1, ciK_2, ciK_3, ciH_1, ciH_2, mkN_1, mkL_1, mkL_2, mkK_1, mkK_2, mkK_3, olK_1, olK_2, muN_1, muN_2, muL_1, muL_2, muK_1, muK_2, muK_3, muH_1, muH_2, puN_1, puN_2, puM_1, puM_2, puL_1, puL_2, puH_1, puH_2, puK_1, puK_2, puK_3, oiK_1, oiK_2, sfL_1, sfL_2, sfK_1, sfK_2, sfK_3, psK_1, psK_2, slN_1, slN_2, slM_1, slM_2, slM_3, slL_1, slL_2, slL_3, slK_1, slK_2, slK_3, cnM_1, cnL_1, cnL_2, cnL_3, cnJ_1, cnJ_2, cnI_1, cnI_2, cnK_1, cnK_2, cnK_3, gD_1, gD_2, io0K_1, gI_1, gI_2, gNw_1, isB_str_non, isB_str_bl, isB_str_int, isB_str_str, isB_str_tup, isB_str_lst, isB_str_dk, isB_list_non, isB_list_bl, isB_list_int, isB_list_str, isB_list_tup, isB_list_lst, isB_list_dk, isB_tuple_non, isB_tuple_bl, isB_tuple_int, isB_tuple_str, isB_tuple_tup, isB_tuple_lst, isB_tuple_dk, isB_int_non, isB_int_bl, isB_int_int, isB_int_str, isB_int_tup, isB_int_lst, isB_int_dk, isB_bool_non, isB_bool_bl, isB_bool_int, isB_bool_str, isB_bool_tup, isB_bool_lst, isB_bool_dk, isB_dict_non, isB_dict_bl, isB_dict_int, isB_dict_str, isB_dict_tup, isB_dict_lst, isB_dict_dk, bK_1, sK_1, fI0_ii, fI_ii, addD_ii, lenD_lst, lenD_tup, tupD_lst, tupD_tup, listD_lst, listD_tup, kindD_lst, kindD_tup, revLD_lst, rown_ow, rown_io, sl_fr, sl_bo, sl_io, entry_n, entry_c, frOk_n, frOk_f, frOk_b, apart_n, apart_v, apart_s, startE, List.length_cons, List.length_nil, List.replicate, List.cons_append, List.nil_append, Nat.reduceAdd, Nat.reduceSub, Nat.zero_add, List.getElem?_cons_zero, List.getElem?_cons_succ, List.set_cons_zero, List.set_cons_succ, if_true, if_false, reduceIte, decide_true, decide_false, Bool.not_true, Bool.not_false, Bool.and_self, Bool.true_and, Bool.and_true, Bool.false_eq_true, LB, Nat.reduceLeDiff, Nat.reduceLT, Nat.reduceBNe, Nat.reduceBEq, E_are_kinds_0, is_kind_row_ok c hS.so (hS.nm p hp) (hS.en p hp)]
theorem L_kinds1 (f1 f2 f3 f4 : Sl) : L_are_kinds_1 c [.bo (kindsD ks), f1, f2, f3, f4] = some (.ok (.lst ((ks.map fun p => p.1).map .str)) [.bo (kindsD ks), f1, f2, .un, .un]) := by
  rw [List.map_map]
  refine mLc_map (as := ks) (enc := kindD) (δ0 := [.bo (kindsD ks), f1, f2, f3, f4]) rfl rfl fun p hp => ⟨[.bo (kindsD ks), f1, f2, .fr (.str p.1), .fr (.tup (p.2.map .str))], [.bo (kindsD ks), f1, f2, .fr (.str p.1), .fr (.tup (p.2.map .str))], rfl, ?_, rfl⟩
  simp only [lift_e, liftK_s, mC_e, mVar_e, mOv_e, mVal_e, rd_v, rd_s, m1_e, m1K_o, m1L_s, m2_e, m2K_o, m2L_o, m2N_s, lstM_s, mn1_e, mn2_e, maNil_e, maCons_e, acK_o, mdNil_e, mdCons_e, dcK_o, rds_n, rds_c, consO_s, mA_e, mnA_e, aK_o, aL_s, fA1_e, fN1_e, mTup_e, mLst_e, mTest_e, mNot_e, mAnd_e, mOr_e, mAndV_e, mOrV_e, mNotV_e, mIfE_e, mChain_e, mNext_e, mSeq_e, mIf_e, mRet_e, mRetW_e, mRetO_e, mDrop_e, mAsg_e, mAsgO_e, gN_e, gs0_e, gsC_e, gT_e, gTL_e, mIt_e, mSeqOf_e, mTupOf_e, mSeqB_e, mFor_e, forL_n, forL_c, mCallP_e, mCallN_e, ownO_e, mCallI_e, mMakeP_e, ownL_e, mMut_e, appF_e, mPutI_e, ownI_e, mSetF_e, mpNone_e, mpSome_e, mSl_e, mCount_e, defG_e, defI_e, defN_e, varK_1, varK_2, ovK_1, ovK_2, ovK_3, ovK_4, valK_1, valK_2, valK_3, datK_1, datK_2, datK_3, datK_4, m1L_1, m1L_2, m1K_1, m1K_2, m1K_3, m2N_1, acL_1, acL_2, acL_3, dcL_1, dcL_2, dcL_3, consO_1, aL_1, aL_2, tupK_1, tupK_2, tupK_3, lstK_1, lstK_2, lstK_3, testK_1, testK_2, notK_1, notK_2, notK_3, andK_1, andK_2, andK_3, andK_4, orK_1, orK_2, orK_3, orK_4, andvK_1, andvK_2, andvK_3, orvK_1, orvK_2, orvK_3, notvK_1, notvK_2, ifeK_1, ifeK_2, ifeK_3, ifeK_4, chN_1, chN_2, chM_1, chL_1, chL_2, chL_3, chK_1, chK_2, chK_3, seqK_1, seqK_2, seqK_3, seqK_4, seqK_5, seqK_6, seqK_7, ifK_1, ifK_2, ifK_3, ifK_4, retK_1, retK_2, retK_3, retwK_1, retwK_2, retwK_3, retoK_1, dropK_1, dropK_2, dropK_3, nxK_1, nxK_2, asgK_1, asgK_2, asgK_3, asgoK_1, asgoK_2, asgoK_3, gscK_1, gscK_2, itK_1, itK_2, itK_3, sqK_1, sqK_2, tqK_1, tqK_2, sbK_1, sbK_2, sbK_3, forK_1, forK_2, forK_3, flL_1, flL_2, flL_3, flL_4, flL_5, flL_6, flL_7, flK_1, flK_2, cpL_1, cpL_2, cpK_1, cpK_2, cpK_3, ownK_1, ownK_2, ciM_1, ciM_2, ciL_1, ciK_1, ciK_2, ciK_3, ciH_1, ciH_2, mkN_1, mkL_1, mkL_2, mkK_1, mkK_2, mkK_3, olK_1, olK_2, muN_1, muN_2, muL_1, muL_2, muK_1, muK_2, muK_3, muH_1, muH_2, puN_1, puN_2, puM_1, puM_2, puL_1, puL_2, puH_1, puH_2, puK_1, puK_2, puK_3, oiK_1, oiK_2, sfL_1, sfL_2, sfK_1, sfK_2, sfK_3, psK_1, psK_2, slN_1, slN_2, slM_1, slM_2, slM_3, slL_1, slL_2, slL_3, slK_1, slK_2, slK_3, cnM_1, cnL_1, cnL_2, cnL_3, cnJ_1, cnJ_2, cnI_1, cnI_2, cnK_1, cnK_2, cnK_3, gD_1, gD_2, io0K_1, gI_1, gI_2, gNw_1, isB_str_non, isB_str_bl, isB_str_int, isB_str_str, isB_str_tup, isB_str_lst, isB_str_dk, isB_list_non, isB_list_bl, isB_list_int, isB_list_str, isB_list_tup, isB_list_lst, isB_list_dk, isB_tuple_non, isB_tuple_bl, isB_tuple_int, isB_tuple_str, isB_tuple_tup, isB_tuple_lst, isB_tuple_dk, isB_int_non, isB_int_bl, isB_int_int, isB_int_str, isB_int_tup, isB_int_lst, isB_int_dk, isB_bool_non, isB_bool_bl, isB_bool_int, isB_bool_str, isB_bool_tup, isB_bool_lst, isB_bool_dk, isB_dict_non, isB_dict_bl, isB_dict_int, isB_dict_str, isB_dict_tup, isB_dict_lst, isB_dict_dk, bK_1, sK_1, fI0_ii, fI_ii, addD_ii, lenD_lst, lenD_tup, tupD_lst, tupD_tup, listD_lst, listD_tup, kindD_lst, kindD_tup, revLD_lst, rown_ow, rown_io, sl_fr, sl_bo, sl_io, entry_n, entry_c, frOk_n, frOk_f, frOk_b, apart_n, apart_v, apart_s, startE, List.length_cons, List.length_nil, List.replicate, List.cons_append, List.nil_append, Nat.reduceAdd, Nat.reduceSub, Nat.zero_add, List.getElem?_cons_zero, List.getElem?_cons_succ, List.set_cons_zero, List.set_cons_succ, if_true, if_false, reduceIte, decide_true, decide_false, Bool.not_true, Bool.not_false, Bool.and_self, Bool.true_and, Bool.and_true, Bool.false_eq_true, LB, Nat.reduceLeDiff, Nat.reduceLT, Nat.reduceBNe, Nat.reduceBEq, E_are_kinds_1, Function.comp]
theorem are_kinds_ok : g_are_kinds c [kindsD ks, snD sorts] = some (.bl true) := by
  have h1 := L_kinds0 c hS .un .un .un
  have h2 := L_kinds1 c hS (.fr (snD sorts)) .un .un .un
  have a1 : allD (.lst (ks.map fun _ => .bl true)) = some (.bl true) := by rw [allD_map]; simp
  have ls : lenSetD (.lst ((ks.map fun p => p.1).map .str)) = some (.int ks.length) := by
    have := lenSet_strs (xs := ks.map fun p => p.1) (by rw [List.length_map]; have := hS.hi; omega) hS.nd
    rw [List.length_map] at this
    exact this
  have ln : lenD (kindsD ks) = some (.int ks.length) := by simp [kindsD, lenD]
  have i1 : (1 : Int) ≤ (ks.length : Int) := by have := hS.lo; omega
  have i4 : (ks.length : Int) ≤ 4 := by have := hS.hi; omega
  have il : isB "list" (kindsD ks) = some (.bl true) := rfl
  simp only [lift_e, liftK_s, mC_e, mVar_e, mOv_e, mVal_e, rd_v, rd_s, m1_e, m1K_o, m1L_s, m2_e, m2K_o, m2L_o, m2N_s, lstM_s, mn1_e, mn2_e, maNil_e, maCons_e, acK_o, mdNil_e, mdCons_e, dcK_o, rds_n, rds_c, consO_s, mA_e, mnA_e, aK_o, aL_s, fA1_e, fN1_e, mTup_e, mLst_e, mTest_e, mNot_e, mAnd_e, mOr_e, mAndV_e, mOrV_e, mNotV_e, mIfE_e, mChain_e, mNext_e, mSeq_e, mIf_e, mRet_e, mRetW_e, mRetO_e, mDrop_e, mAsg_e, mAsgO_e, gN_e, gs0_e, gsC_e, gT_e, gTL_e, mIt_e, mSeqOf_e, mTupOf_e, mSeqB_e, mFor_e, forL_n, forL_c, mCallP_e, mCallN_e, ownO_e, mCallI_e, mMakeP_e, ownL_e, mMut_e, appF_e, mPutI_e, ownI_e, mSetF_e, mpNone_e, mpSome_e, mSl_e, mCount_e, defG_e, defI_e, defN_e, varK_1, varK_2, ovK_1, ovK_2, ovK_3, ovK_4, valK_1, valK_2, valK_3, datK_1, datK_2, datK_3, datK_4, m1L_1, m1L_2, m1K_1, m1K_2, m1K_3, m2N_1, acL_1, acL_2, acL_3, dcL_1, dcL_2, dcL_3, consO_1, aL_1, aL_2, tupK_1, tupK_2, tupK_3, lstK_1, lstK_2, lstK_3, testK_1, testK_2, notK_1, notK_2, notK_3, andK_1, andK_2, andK_3, andK_4, orK_1, orK_2, orK_3, orK_4, andvK_1, andvK_2, andvK_3, orvK_1, orvK_2, orvK_3, notvK_1, notvK_2, ifeK_1, ifeK_2, ifeK_3, ifeK_4, chN_1, chN_2, chM_1, chL_1, chL_2, chL_3, chK_1, chK_2, chK_3, seqK_1, seqK_2, seqK_3, seqK_4, seqK_5, seqK_6, seqK_7, ifK_1, ifK_2, ifK_3, ifK_4, retK_1, retK_2, retK_3, retwK_1, retwK_2, retwK_3, retoK_1, dropK_1, dropK_2, dropK_3, nxK_1, nxK_2, asgK_1, asgK_2, asgK_3, asgoK_1, asgoK_2, asgoK_3, gscK_1, gscK_2, itK_1, itK_2, itK_3, sqK_1, sqK_2, tqK_1, tqK_2, sbK_1, sbK_2, sbK_3, forK_1, forK_2, forK_3, flL_1, flL_2, flL_3, flL_4, flL_5, flL_6, flL_7, flK_1, flK_2, cpL_1, cpL_2, cpK_1, cpK_2, cpK_3, ownK_1, ownK_2, ciM_1, ciM_2, ciL_1, ciK_1, ciK_2, ciK_3, ciH_1, ciH_2, mkN_1, mkL_1, mkL_2, mkK_1, mkK_2, mkK_3, olK_1, olK_2, muN_1, muN_2, muL_1, muL_2, muK_1, muK_2, muK_3, muH_1, muH_2, puN_1, puN_2, puM_1, puM_2, puL_1, puL_2, puH_1, puH_2, puK_1, puK_2, puK_3, oiK_1, oiK_2, sfL_1, sfL_2, sfK_1, sfK_2, sfK_3, psK_1, psK_2, slN_1, slN_2, slM_1, slM_2, slM_3, slL_1, slL_2, slL_3, slK_1, slK_2, slK_3, cnM_1, cnL_1, cnL_2, cnL_3, cnJ_1, cnJ_2, cnI_1, cnI_2, cnK_1, cnK_2, cnK_3, gD_1, gD_2, io0K_1, gI_1, gI_2, gNw_1, isB_str_non, isB_str_bl, isB_str_int, isB_str_str, isB_str_tup, isB_str_lst, isB_str_dk, isB_list_non, isB_list_bl, isB_list_int, isB_list_str, isB_list_tup, isB_list_lst, isB_list_dk, isB_tuple_non, isB_tuple_bl, isB_tuple_int, isB_tuple_str, isB_tuple_tup, isB_tuple_lst, isB_tuple_dk, isB_int_non, isB_int_bl, isB_int_int, isB_int_str, isB_int_tup, isB_int_lst, isB_int_dk, isB_bool_non, isB_bool_bl, isB_bool_int, isB_bool_str, isB_bool_tup, isB_bool_lst, isB_bool_dk, isB_dict_non, isB_dict_bl, isB_dict_int, isB_dict_str, isB_dict_tup, isB_dict_lst, isB_dict_dk, bK_1, sK_1, fI0_ii, fI_ii, addD_ii, lenD_lst, lenD_tup, tupD_lst, tupD_tup, listD_lst, listD_tup, kindD_lst, kindD_tup, revLD_lst, rown_ow, rown_io, sl_fr, sl_bo, sl_io, entry_n, entry_c, frOk_n, frOk_f, frOk_b, apart_n, apart_v, apart_s, startE, List.length_cons, List.length_nil, List.replicate, List.cons_append, List.nil_append, Nat.reduceAdd, Nat.reduceSub, Nat.zero_add, List.getElem?_cons_zero, List.getElem?_cons_succ, List.set_cons_zero, List.set_cons_succ, if_true, if_false, reduceIte, decide_true, decide_false, Bool.not_true, Bool.not_false, Bool.and_self, Bool.true_and, Bool.and_true, Bool.false_eq_true, LB, Nat.reduceLeDiff, Nat.reduceLT, Nat.reduceBNe, Nat.reduceBEq, g_are_kinds, m_are_kinds, il, ln, i1, i4, h1, a1, h2, ls, eqD_int]
theorem L_init (f0 f2 f3 f4 : Sl) : L_Stock___init___0 c [f0, .bo (sortsD sorts), f2, f3, f4] = some (.ok (snD sorts) [f0, .bo (sortsD sorts), f2, .un, .un]) := by
  unfold snD
  rw [List.map_map]
  refine mLc_map (as := sorts) (enc := fun p => .tup [.str p.1, .str p.2]) (δ0 := [f0, .bo (sortsD sorts), f2, f3, f4]) rfl rfl fun p hp => ⟨[f0, .bo (sortsD sorts), f2, .fr (.str p.1), .fr (.str p.2)], [f0, .bo (sortsD sorts), f2, .fr (.str p.1), .fr (.str p.2)], rfl, ?_, rfl⟩
  simp only [lift_e, liftK_s, mC_e, mVar_e, mOv_e, mVal_e, rd_v, rd_s, m1_e, m1K_o, m1L_s, m2_e, m2K_o, m2L_o, m2N_s, lstM_s, mn1_e, mn2_e, maNil_e, maCons_e, acK_o, mdNil_e, mdCons_e, dcK_o, rds_n, rds_c, consO_s, mA_e, mnA_e, aK_o, aL_s, fA1_e, fN1_e, mTup_e, mLst_e, mTest_e, mNot_e, mAnd_e, mOr_e, mAndV_e, mOrV_e, mNotV_e, mIfE_e, mChain_e, mNext_e, mSeq_e, mIf_e, mRet_e, mRetW_e, mRetO_e, mDrop_e, mAsg_e, mAsgO_e, gN_e, gs0_e, gsC_e, gT_e, gTL_e, mIt_e, mSeqOf_e, mTupOf_e, mSeqB_e, mFor_e, forL_n, forL_c, mCallP_e, mCallN_e, ownO_e, mCallI_e, mMakeP_e, ownL_e, mMut_e, appF_e, mPutI_e, ownI_e, mSetF_e, mpNone_e, mpSome_e, mSl_e, mCount_e, defG_e, defI_e, defN_e, varK_1, varK_2, ovK_1, ovK_2, ovK_3, ovK_4, valK_1, valK_2, valK_3, datK_1, datK_2, datK_3, datK_4, m1L_1, m1L_2, m1K_1, m1K_2, m1K_3, m2N_1, acL_1, acL_2, acL_3, dcL_1, dcL_2, dcL_3, consO_1, aL_1, aL_2, tupK_1, tupK_2, tupK_3, lstK_1, lstK_2, lstK_3, testK_1, testK_2, notK_1, notK_2, notK_3, andK_1, andK_2, andK_3, andK_4, orK_1, orK_2, orK_3, orK_4, andvK_1, andvK_2, andvK_3, orvK_1, orvK_2, orvK_3, notvK_1, notvK_2, ifeK_1, ifeK_2, ifeK_3, ifeK_4, chN_1, chN_2, chM_1, chL_1, chL_2, chL_3, chK_1, chK_2, chK_3, seqK_1, seqK_2, seqK_3, seqK_4, seqK_5, seqK_6, seqK_7, ifK_1, ifK_2, ifK_3, ifK_4, retK_1, retK_2, retK_3, retwK_1, retwK_2, retwK_3, retoK_1, dropK_1, dropK_2, dropK_3, nxK_1, nxK_2, asgK_1, asgK_2, asgK_3, asgoK_1, asgoK_2, asgoK_3, gscK_1, gscK_2, itK_1, itK_2, itK_3, sqK_1, sqK_2, tqK_1, tqK_2, sbK_1, sbK_2, sbK_3, forK_1, forK_2, forK_3, flL_1, flL_2, flL_3, flL_4, flL_5, flL_6, flL_7, flK_1, flK_2, cpL_1, cpL_2, cpK_1, cpK_2, cpK_3, ownK_1, ownK_2, ciM_1, ciM_2, ciL_1, ciK_1, ciK_2, ciK_3, ciH_1, ciH_2, mkN_1, mkL_1, mkL_2, mkK_1, mkK_2, mkK_3, olK_1, olK_2, muN_1, muN_2, muL_1, muL_2, muK_1, muK_2, muK_3, muH_1, muH_2, puN_1, puN_2, puM_1, puM_2, puL_1, puL_2, puH_1, puH_2, puK_1, puK_2, puK_3, oiK_1, oiK_2, sfL_1, sfL_2, sfK_1, sfK_2, sfK_3, psK_1, psK_2, slN_1, slN_2, slM_1, slM_2, slM_3, slL_1, slL_2, slL_3, slK_1, slK_2, slK_3, cnM_1, cnL_1, cnL_2, cnL_3, cnJ_1, cnJ_2, cnI_1, cnI_2, cnK_1, cnK_2, cnK_3, gD_1, gD_2, io0K_1, gI_1, gI_2, gNw_1, isB_str_non, isB_str_bl, isB_str_int, isB_str_str, isB_str_tup, isB_str_lst, isB_str_dk, isB_list_non, isB_list_bl, isB_list_int, isB_list_str, isB_list_tup, isB_list_lst, isB_list_dk, isB_tuple_non, isB_tuple_bl, isB_tuple_int, isB_tuple_str, isB_tuple_tup, isB_tuple_lst, isB_tuple_dk, isB_int_non, isB_int_bl, isB_int_int, isB_int_str, isB_int_tup, isB_int_lst, isB_int_dk, isB_bool_non, isB_bool_bl, isB_bool_int, isB_bool_str, isB_bool_tup, isB_bool_lst, isB_bool_dk, isB_dict_non, isB_dict_bl, isB_dict_int, isB_dict_str, isB_dict_tup, isB_dict_lst, isB_dict_dk, bK_1, sK_1, fI0_ii, fI_ii, addD_ii, lenD_lst, lenD_tup, tupD_lst, tupD_tup, listD_lst, listD_tup, kindD_lst, kindD_tup, revLD_lst, rown_ow, rown_io, sl_fr, sl_bo, sl_io, entry_n, entry_c, frOk_n, frOk_f, frOk_b, apart_n, apart_v, apart_s, startE, List.length_cons, List.length_nil, List.replicate, List.cons_append, List.nil_append, Nat.reduceAdd, Nat.reduceSub, Nat.zero_add, List.getElem?_cons_zero, List.getElem?_cons_succ, List.set_cons_zero, List.set_cons_succ, if_true, if_false, reduceIte, decide_true, decide_false, Bool.not_true, Bool.not_false, Bool.and_self, Bool.true_and, Bool.and_true, Bool.false_eq_true, LB, Nat.reduceLeDiff, Nat.reduceLT, Nat.reduceBNe, Nat.reduceBEq, E_Stock___init___0, Function.comp]
theorem stock_made : g_Stock___init__ c [.ins c.stock [] [], sortsD sorts, kindsD ks] = some (.non, stockD c sorts ks) := by
  have h1 := are_sorts_ok c hS.so
  have h2 := are_kinds_ok c hS
  have h3 := L_init c hS (.io (.ins c.stock [] [])) (.bo (kindsD ks)) .un .un
  have l1 : listD (sortsD sorts) = some (sorts.map fun p => .tup [.str p.1, .str p.2]) := rfl
  have l2 : listD (kindsD ks) = some (ks.map kindD) := rfl
  have e1 : (("sorts" : Str) ∈ ([] : List Str)) = False := by simp
  have e2 : (("kinds" : Str) ∈ (["sorts"] : List Str)) = False := by simp; decide
  simp only [lift_e, liftK_s, mC_e, mVar_e, mOv_e, mVal_e, rd_v, rd_s, m1_e, m1K_o, m1L_s, m2_e, m2K_o, m2L_o, m2N_s, lstM_s, mn1_e, mn2_e, maNil_e, maCons_e, acK_o, mdNil_e, mdCons_e, dcK_o, rds_n, rds_c, consO_s, mA_e, mnA_e, aK_o, aL_s, fA1_e, fN1_e, mTup_e, mLst_e, mTest_e, mNot_e, mAnd_e, mOr_e, mAndV_e, mOrV_e, mNotV_e, mIfE_e, mChain_e, mNext_e, mSeq_e, mIf_e, mRet_e, mRetW_e, mRetO_e, mDrop_e, mAsg_e, mAsgO_e, gN_e, gs0_e, gsC_e, gT_e, gTL_e, mIt_e, mSeqOf_e, mTupOf_e, mSeqB_e, mFor_e, forL_n, forL_c, mCallP_e, mCallN_e, ownO_e, mCallI_e, mMakeP_e, ownL_e, mMut_e, appF_e, mPutI_e, ownI_e, mSetF_e, mpNone_e, mpSome_e, mSl_e, mCount_e, defG_e, defI_e, defN_e, varK_1, varK_2, ovK_1, ovK_2, ovK_3, ovK_4, valK_1, valK_2, valK_3, datK_1, datK_2, datK_3, datK_4, m1L_1, m1L_2, m1K_1, m1K_2, m1K_3, m2N_1, acL_1, acL_2, acL_3, dcL_1, dcL_2, dcL_3, consO_1, aL_1, aL_2, tupK_1, tupK_2, tupK_3, lstK_1, lstK_2, lstK_3, testK_1, testK_2, notK_1, notK_2, notK_3, andK_1, andK_2, andK_3, andK_4, orK_1, orK_2, orK_3, orK_4, andvK_1, andvK_2, andvK_3, orvK_1, orvK_2, orvK_3, notvK_1, notvK_2, ifeK_1, ifeK_2, ifeK_3, ifeK_4, chN_1, chN_2, chM_1, chL_1, chL_2, chL_3, chK_1, chK_2, chK_3, seqK_1, seqK_2, seqK_3, seqK_4, seqK_5, seqK_6, seqK_7, ifK_1, ifK_2, ifK_3, ifK_4, retK_1, retK_2, retK_3, retwK_1, retwK_2, retwK_3, retoK_1, dropK_1, dropK_2, dropK_3, nxK_1, nxK_2, asgK_1, asgK_2, asgK_3, asgoK_1, asgoK_2, asgoK_3, gscK_1, gscK_2, itK_1, itK_2, itK_3, sqK_1, sqK_2, tqK_1, tqK_2, sbK_1, sbK_2, sbK_3, forK_1, forK_2, forK_3, flL_1, flL_2, flL_3, flL_4, flL_5, flL_6, flL_7, flK_1, flK_2, cpL_1, cpL_2, cpK_1, cpK_2, cpK_3, ownK_1, ownK_2, ciM_1, ciM_2, ciL_1, ciK_1, ciK_2, ciK_3, ciH_1, ciH_2, mkN_1, mkL_1, mkL_2, mkK_1, mkK_2, mkK_3, olK_1, olK_2, muN_1, muN_2, muL_1, muL_2, muK_1, muK_2, muK_3, muH_1, muH_2, puN_1, puN_2, puM_1, puM_2, puL_1, puL_2, puH_1, puH_2, puK_1, puK_2, puK_3, oiK_1, oiK_2, sfL_1, sfL_2, sfK_1, sfK_2, sfK_3, psK_1, psK_2, slN_1, slN_2, slM_1, slM_2, slM_3, slL_1, slL_2, slL_3, slK_1, slK_2, slK_3, cnM_1, cnL_1, cnL_2, cnL_3, cnJ_1, cnJ_2, cnI_1, cnI_2, cnK_1, cnK_2, cnK_3, gD_1, gD_2, io0K_1, gI_1, gI_2, gNw_1, isB_str_non, isB_str_bl, isB_str_int, isB_str_str, isB_str_tup, isB_str_lst, isB_str_dk, isB_list_non, isB_list_bl, isB_list_int, isB_list_str, isB_list_tup, isB_list_lst, isB_list_dk, isB_tuple_non, isB_tuple_bl, isB_tuple_int, isB_tuple_str, isB_tuple_tup, isB_tuple_lst, isB_tuple_dk, isB_int_non, isB_int_bl, isB_int_int, isB_int_str, isB_int_tup, isB_int_lst, isB_int_dk, isB_bool_non, isB_bool_bl, isB_bool_int, isB_bool_str, isB_bool_tup, isB_bool_lst, isB_bool_dk, isB_dict_non, isB_dict_bl, isB_dict_int, isB_dict_str, isB_dict_tup, isB_dict_lst, isB_dict_dk, bK_1, sK_1, fI0_ii, fI_ii, addD_ii, lenD_lst, lenD_tup, tupD_lst, tupD_tup, listD_lst, listD_tup, kindD_lst, kindD_tup, revLD_lst, rown_ow, rown_io, sl_fr, sl_bo, sl_io, entry_n, entry_c, frOk_n, frOk_f, frOk_b, apart_n, apart_v, apart_s, startE, List.length_cons, List.length_nil, List.replicate, List.cons_append, List.nil_append, Nat.reduceAdd, Nat.reduceSub, Nat.zero_add, List.getElem?_cons_zero, List.getElem?_cons_succ, List.set_cons_zero, List.set_cons_succ, if_true, if_false, reduceIte, decide_true, decide_false, Bool.not_true, Bool.not_false, Bool.and_self, Bool.true_and, Bool.and_true, Bool.false_eq_true, LB, Nat.reduceLeDiff, Nat.reduceLT, Nat.reduceBNe, Nat.reduceBEq, g_Stock___init__, m_Stock___init__, h1, h2, h3, l1, l2, e1, e2, not_false_eq_true, and_true, true_and]
  rfl
end
/-! dicts of pairs -/
def lk {α : Type} : List (Str × α) → Str → Option α
  | [], _ => none
  | p :: ps, n => if p.1 = n then some p.2 else lk ps n
theorem pairsOf_map (f : Str × α → D) : ∀ ps : List (Str × α), pairsOf (ps.map fun p => .tup [.str p.1, f p]) = some (ps.map fun p => (Sum.inr p.1, f p))
  | [] => rfl
  | p :: ps => by simp [pairsOf, pairOf, keyD, pairsOf_map f ps]
theorem mergeD_nodup : ∀ (ps : List (Key × D)) (ks : List Key) (ds : List D), (ks ++ ps.map fun p => p.1).Nodup → mergeD ps (ks, ds) = (ks ++ ps.map (fun p => p.1), ds ++ ps.map fun p => p.2)
  | [], ks, ds, _ => by simp [mergeD]
  | p :: ps, ks, ds, h => by
    have e : (ks.any fun q => decide (q = p.1)) = false := by
      rw [List.any_eq_false]
      intro q hq
      simp only [decide_eq_true_eq]
      intro z
      have := (List.nodup_append.mp h).2.2 q hq p.1 (by simp)
      exact this z
    simp only [mergeD, putD, e, Bool.false_eq_true, if_false]
    rw [mergeD_nodup ps (ks ++ [p.1]) (ds ++ [p.2]) (by simpa using h)]
    simp
theorem dictD_map (f : Str × α → D) {ps : List (Str × α)} (nd : (ps.map fun p => p.1).Nodup) : dictD (.lst (ps.map fun p => .tup [.str p.1, f p])) = some (.dk (ps.map fun p => Sum.inr p.1) (ps.map f)) := by
  have h : (([] : List Key) ++ (ps.map fun p => ((Sum.inr p.1 : Key), f p)).map fun p => p.1).Nodup := by
    rw [List.nil_append, List.map_map]
    have : ((fun p : Key × D => p.1) ∘ fun p : Str × α => ((Sum.inr p.1 : Key), f p)) = (Sum.inr : Str → Key) ∘ fun p => p.1 := rfl
    rw [this, ← List.map_map]
    exact inr_nodup nd
  simp only [dictD, pairsOf_map, mergeD_nodup _ [] [] h, List.nil_append, List.map_map, Function.comp]
  rfl
theorem lookK_lk (f : Str × α → D) (n : Str) : ∀ ps : List (Str × α), lookK (ps.map fun p => Sum.inr p.1) (ps.map f) (Sum.inr n) = (lk (ps.map fun p => (p.1, p)) n).map f
  | [] => rfl
  | p :: ps => by
    simp only [List.map_cons, lookK, lk, lookK_lk f n ps]
    by_cases e : p.1 = n
    · simp [e]
    · have : ¬ (Sum.inr p.1 : Key) = Sum.inr n := fun z => e (Sum.inr.inj z)
      simp [e, this]
theorem lk_self : ∀ {ps : List (Str × α)} {p : Str × α}, (ps.map fun p => p.1).Nodup → p ∈ ps → lk (ps.map fun p => (p.1, p)) p.1 = some p
  | q :: ps, p, nd, h => by
    have nd' := List.nodup_cons.mp nd
    simp only [List.map_cons, lk]
    by_cases e : q.1 = p.1
    · rw [if_pos e]
      rcases List.mem_cons.mp h with h | h
      · rw [h]
      · exact absurd (List.mem_map.mpr ⟨p, h, e.symm⟩) nd'.1
    · rw [if_neg e]
      exact lk_self nd'.2 ((List.mem_cons.mp h).resolve_left fun z => e (by rw [z]))
section
variable (c : Cs) {sorts : List (Str × Str)} {ks : List (Str × List Str)} (hS : StockOk sorts ks)
include hS
theorem dict_kinds : dictD (kindsD ks) = some (.dk (ks.map fun p => Sum.inr p.1) (ks.map fun p => .tup (p.2.map .str))) := dictD_map (fun p : Str × List Str => .tup (p.2.map .str)) hS.nd
theorem kinds_of : fldD [c.stock] "kinds" (stockD c sorts ks) = some (kindsD ks) := by
  have h : ¬ (("sorts" : Str) = "kinds") := by decide
  simp only [fldD, stockD, lookF, List.any_cons, beq_self_eq_true, Bool.true_or, if_true, h, if_false]
theorem is_kind_ok {p : Str × List Str} (hp : p ∈ ks) : g_is_kind c [stockD c sorts ks, .str p.1] = some (.bl true) := by
  have h1 := dict_kinds hS
  have h2 := kinds_of c hS
  have h3 : dinD false (.str p.1) (.dk (ks.map fun p => Sum.inr p.1) (ks.map fun p => .tup (p.2.map .str))) = some (.bl true) := by
    simp only [dinD, keyD, lookK_lk (fun p : Str × List Str => D.tup (p.2.map .str)), lk_self hS.nd hp]; rfl
  simp only [lift_e, liftK_s, mC_e, mVar_e, mOv_e, mVal_e, rd_v, rd_s, m1_e, m1K_o, m1L_s, m2_e, m2K_o, m2L_o, m2N_s, lstM_s, mn1_e, mn2_e, maNil_e, maCons_e, acK_o, mdNil_e, mdCons_e, dcK_o, rds_n, rds_c, consO_s, mA_e, mnA_e, aK_o, aL_s, fA1_e, fN1_e, mTup_e, mLst_e, mTest_e, mNot_e, mAnd_e, mOr_e, mAndV_e, mOrV_e, mNotV_e, mIfE_e, mChain_e, mNext_e, mSeq_e, mIf_e, mRet_e, mRetW_e, mRetO_e, mDrop_e, mAsg_e, mAsgO_e, gN_e, gs0_e, gsC_e, gT_e, gTL_e, mIt_e, mSeqOf_e, mTupOf_e, mSeqB_e, mFor_e, forL_n, forL_c, mCallP_e, mCallN_e, ownO_e, mCallI_e, mMakeP_e, ownL_e, mMut_e, appF_e, mPutI_e, ownI_e, mSetF_e, mpNone_e, mpSome_e, mSl_e, mCount_e, defG_e, defI_e, defN_e, varK_1, varK_2, ovK_1, ovK_2, ovK_3, ovK_4, valK_1, valK_2, valK_3, datK_1, datK_2, datK_3, datK_4, m1L_1, m1L_2, m1K_1, m1K_2, m1K_3, m2N_1, acL_1, acL_2, acL_3, dcL_1, dcL_2, dcL_3, consO_1, aL_1, aL_2, tupK_1, tupK_2, tupK_3, lstK_1, lstK_2, lstK_3, testK_1, testK_2, notK_1, notK_2, notK_3, andK_1, andK_2, andK_3, andK_4, orK_1, orK_2, orK_3, orK_4, andvK_1, andvK_2, andvK_3, orvK_1, orvK_2, orvK_3, notvK_1, notvK_2, ifeK_1, ifeK_2, ifeK_3, ifeK_4, chN_1, chN_2, chM_1, chL_1, chL_2, chL_3, chK_1, chK_2, chK_3, seqK_1, seqK_2, seqK_3, seqK_4, seqK_5, seqK_6, seqK_7, ifK_1, ifK_2, ifK_3, ifK_4, retK_1, retK_2, retK_3, retwK_1, retwK_2, retwK_3, retoK_1, dropK_1, dropK_2, dropK_3, nxK_1, nxK_2, asgK_1, asgK_2, asgK_3, asgoK_1, asgoK_2, asgoK_3, gscK_1, gscK_2, itK_1, itK_2, itK_3, sqK_1, sqK_2, tqK_1, tqK_2, sbK_1, sbK_2, sbK_3, forK_1, forK_2, forK_3, flL_1, flL_2, flL_3, flL_4, flL_5, flL_6, flL_7, flK_1, flK_2, cpL_1, cpL_2, cpK_1, cpK_2, cpK_3, ownK_1, ownK_2, ciM_1, ciM_2, ciL_1, ciK_1, ciK_2, ciK_3, ciH_1, ciH_2, mkN_1, mkL_1, mkL_2, mkK_1, mkK_2, mkK_3, olK_1, olK_2, muN_1, muN_2, muL_1, muL_2, muK_1, muK_2, muK_3, muH_1, muH_2, puN_1, puN_2, puM_1, puM_2, puL_1, puL_2, puH_1, puH_2, puK_1, puK_2, puK_3, oiK_1, oiK_2, sfL_1, sfL_2, sfK_1, sfK_2, sfK_3, psK_1, psK_2, slN_1, slN_2, slM_1, slM_2, slM_3, slL_1, slL_2, slL_3, slK_1, slK_2, slK_3, cnM_1, cnL_1, cnL_2, cnL_3, cnJ_1, cnJ_2, cnI_1, cnI_2, cnK_1, cnK_2, cnK_3, gD_1, gD_2, io0K_1, gI_1, gI_2, gNw_1, isB_str_non, isB_str_bl, isB_str_int, isB_str_str, isB_str_tup, isB_str_lst, isB_str_dk, isB_list_non, isB_list_bl, isB_list_int, isB_list_str, isB_list_tup, isB_list_lst, isB_list_dk, isB_tuple_non, isB_tuple_bl, isB_tuple_int, isB_tuple_str, isB_tuple_tup, isB_tuple_lst, isB_tuple_dk, isB_int_non, isB_int_bl, isB_int_int, isB_int_str, isB_int_tup, isB_int_lst, isB_int_dk, isB_bool_non, isB_bool_bl, isB_bool_int, isB_bool_str, isB_bool_tup, isB_bool_lst, isB_bool_dk, isB_dict_non, isB_dict_bl, isB_dict_int, isB_dict_str, isB_dict_tup, isB_dict_lst, isB_dict_dk, bK_1, sK_1, fI0_ii, fI_ii, addD_ii, lenD_lst, lenD_tup, tupD_lst, tupD_tup, listD_lst, listD_tup, kindD_lst, kindD_tup, revLD_lst, rown_ow, rown_io, sl_fr, sl_bo, sl_io, entry_n, entry_c, frOk_n, frOk_f, frOk_b, apart_n, apart_v, apart_s, startE, List.length_cons, List.length_nil, List.replicate, List.cons_append, List.nil_append, Nat.reduceAdd, Nat.reduceSub, Nat.zero_add, List.getElem?_cons_zero, List.getElem?_cons_succ, List.set_cons_zero, List.set_cons_succ, if_true, if_false, reduceIte, decide_true, decide_false, Bool.not_true, Bool.not_false, Bool.and_self, Bool.true_and, Bool.and_true, Bool.false_eq_true, LB, Nat.reduceLeDiff, Nat.reduceLT, Nat.reduceBNe, Nat.reduceBEq, g_is_kind, m_is_kind, h1, h2, h3]
theorem ends_of_ok {p : Str × List Str} (hp : p ∈ ks) : g_ends_of c [stockD c sorts ks, .str p.1] = some (.tup (p.2.map .str)) := by
  have h1 := dict_kinds hS
  have h2 := kinds_of c hS
  have h3 : dgetD (.dk (ks.map fun p => Sum.inr p.1) (ks.map fun p => .tup (p.2.map .str))) (.str p.1) = some (.tup (p.2.map .str)) := by
    simp only [dgetD, keyD, lookK_lk (fun p : Str × List Str => D.tup (p.2.map .str)), lk_self hS.nd hp]; rfl
  simp only [lift_e, liftK_s, mC_e, mVar_e, mOv_e, mVal_e, rd_v, rd_s, m1_e, m1K_o, m1L_s, m2_e, m2K_o, m2L_o, m2N_s, lstM_s, mn1_e, mn2_e, maNil_e, maCons_e, acK_o, mdNil_e, mdCons_e, dcK_o, rds_n, rds_c, consO_s, mA_e, mnA_e, aK_o, aL_s, fA1_e, fN1_e, mTup_e, mLst_e, mTest_e, mNot_e, mAnd_e, mOr_e, mAndV_e, mOrV_e, mNotV_e, mIfE_e, mChain_e, mNext_e, mSeq_e, mIf_e, mRet_e, mRetW_e, mRetO_e, mDrop_e, mAsg_e, mAsgO_e, gN_e, gs0_e, gsC_e, gT_e, gTL_e, mIt_e, mSeqOf_e, mTupOf_e, mSeqB_e, mFor_e, forL_n, forL_c, mCallP_e, mCallN_e, ownO_e, mCallI_e, mMakeP_e, ownL_e, mMut_e, appF_e, mPutI_e, ownI_e, mSetF_e, mpNone_e, mpSome_e, mSl_e, mCount_e, defG_e, defI_e, defN_e, varK_1, varK_2, ovK_1, ovK_2, ovK_3, ovK_4, valK_1, valK_2, valK_3, datK_1, datK_2, datK_3, datK_4, m1L_1, m1L_2, m1K_1, m1K_2, m1K_3, m2N_1, acL_1, acL_2, acL_3, dcL_1, dcL_2, dcL_3, consO_1, aL_1, aL_2, tupK_1, tupK_2, tupK_3, lstK_1, lstK_2, lstK_3, testK_1, testK_2, notK_1, notK_2, notK_3, andK_1, andK_2, andK_3, andK_4, orK_1, orK_2, orK_3, orK_4, andvK_1, andvK_2, andvK_3, orvK_1, orvK_2, orvK_3, notvK_1, notvK_2, ifeK_1, ifeK_2, ifeK_3, ifeK_4, chN_1, chN_2, chM_1, chL_1, chL_2, chL_3, chK_1, chK_2, chK_3, seqK_1, seqK_2, seqK_3, seqK_4, seqK_5, seqK_6, seqK_7, ifK_1, ifK_2, ifK_3, ifK_4, retK_1, retK_2, retK_3, retwK_1, retwK_2, retwK_3, retoK_1, dropK_1, dropK_2, dropK_3, nxK_1, nxK_2, asgK_1, asgK_2, asgK_3, asgoK_1, asgoK_2, asgoK_3, gscK_1, gscK_2, itK_1, itK_2, itK_3, sqK_1, sqK_2, tqK_1, tqK_2, sbK_1, sbK_2, sbK_3, forK_1, forK_2, forK_3, flL_1, flL_2, flL_3, flL_4, flL_5, flL_6, flL_7, flK_1, flK_2, cpL_1, cpL_2, cpK_1, cpK_2, cpK_3, ownK_1, ownK_2, ciM_1, ciM_2, ciL_1, ciK_1, ciK_2, ciK_3, ciH_1, ciH_2, mkN_1, mkL_1, mkL_2, mkK_1, mkK_2, mkK_3, olK_1, olK_2, muN_1, muN_2, muL_1, muL_2, muK_1, muK_2, muK_3, muH_1, muH_2, puN_1, puN_2, puM_1, puM_2, puL_1, puL_2, puH_1, puH_2, puK_1, puK_2, puK_3, oiK_1, oiK_2, sfL_1, sfL_2, sfK_1, sfK_2, sfK_3, psK_1, psK_2, slN_1, slN_2, slM_1, slM_2, slM_3, slL_1, slL_2, slL_3, slK_1, slK_2, slK_3, cnM_1, cnL_1, cnL_2, cnL_3, cnJ_1, cnJ_2, cnI_1, cnI_2, cnK_1, cnK_2, cnK_3, gD_1, gD_2, io0K_1, gI_1, gI_2, gNw_1, isB_str_non, isB_str_bl, isB_str_int, isB_str_str, isB_str_tup, isB_str_lst, isB_str_dk, isB_list_non, isB_list_bl, isB_list_int, isB_list_str, isB_list_tup, isB_list_lst, isB_list_dk, isB_tuple_non, isB_tuple_bl, isB_tuple_int, isB_tuple_str, isB_tuple_tup, isB_tuple_lst, isB_tuple_dk, isB_int_non, isB_int_bl, isB_int_int, isB_int_str, isB_int_tup, isB_int_lst, isB_int_dk, isB_bool_non, isB_bool_bl, isB_bool_int, isB_bool_str, isB_bool_tup, isB_bool_lst, isB_bool_dk, isB_dict_non, isB_dict_bl, isB_dict_int, isB_dict_str, isB_dict_tup, isB_dict_lst, isB_dict_dk, bK_1, sK_1, fI0_ii, fI_ii, addD_ii, lenD_lst, lenD_tup, tupD_lst, tupD_tup, listD_lst, listD_tup, kindD_lst, kindD_tup, revLD_lst, rown_ow, rown_io, sl_fr, sl_bo, sl_io, entry_n, entry_c, frOk_n, frOk_f, frOk_b, apart_n, apart_v, apart_s, startE, List.length_cons, List.length_nil, List.replicate, List.cons_append, List.nil_append, Nat.reduceAdd, Nat.reduceSub, Nat.zero_add, List.getElem?_cons_zero, List.getElem?_cons_succ, List.set_cons_zero, List.set_cons_succ, if_true, if_false, reduceIte, decide_true, decide_false, Bool.not_true, Bool.not_false, Bool.and_self, Bool.true_and, Bool.and_true, Bool.false_eq_true, LB, Nat.reduceLeDiff, Nat.reduceLT, Nat.reduceBNe, Nat.reduceBEq, g_ends_of, m_ends_of, h1, h2, h3]
/-- corners: up to six kinds' names -/
structure CornersOk (ks : List (Str × List Str)) (cs : List Str) : Prop where
  hi : cs.length ≤ 6
  mem : ∀ n ∈ cs, n ∈ ks.map fun p => p.1
theorem are_corners_ok {cs : List Str} (hC : CornersOk ks cs) : g_are_corners c [stockD c sorts ks, .lst (cs.map .str)] = some (.bl true) := by
  have h1 : L_are_corners_0 c [.fr (stockD c sorts ks), .bo (.lst (cs.map .str)), .un] = some (.ok (.lst (cs.map fun _ => .bl true)) [.fr (stockD c sorts ks), .bo (.lst (cs.map .str)), .un]) := by
    refine mLc_map (as := cs) (enc := .str) (δ0 := [.fr (stockD c sorts ks), .bo (.lst (cs.map .str)), .un]) rfl rfl fun n hn => ⟨[.fr (stockD c sorts ks), .bo (.lst (cs.map .str)), .fr (.str n)], [.fr (stockD c sorts ks), .bo (.lst (cs.map .str)), .fr (.str n)], rfl, ?_, rfl⟩
    obtain ⟨p, hp, rfl⟩ := List.mem_map.mp (hC.mem n hn)
    simp only [lift_e, liftK_s, mC_e, mVar_e, mOv_e, mVal_e, rd_v, rd_s, m1_e, m1K_o, m1L_s, m2_e, m2K_o, m2L_o, m2N_s, lstM_s, mn1_e, mn2_e, maNil_e, maCons_e, acK_o, mdNil_e, mdCons_e, dcK_o, rds_n, rds_c, consO_s, mA_e, mnA_e, aK_o, aL_s, fA1_e, fN1_e, mTup_e, mLst_e, mTest_e, mNot_e, mAnd_e, mOr_e, mAndV_e, mOrV_e, mNotV_e, mIfE_e, mChain_e, mNext_e, mSeq_e, mIf_e, mRet_e, mRetW_e, mRetO_e, mDrop_e, mAsg_e, mAsgO_e, gN_e, gs0_e, gsC_e, gT_e, gTL_e, mIt_e, mSeqOf_e, mTupOf_e, mSeqB_e, mFor_e, forL_n, forL_c, mCallP_e, mCallN_e, ownO_e, mCallI_e, mMakeP_e, ownL_e, mMut_e, appF_e, mPutI_e, ownI_e, mSetF_e, mpNone_e, mpSome_e, mSl_e, mCount_e, defG_e, defI_e, defN_e, varK_1, varK_2, ovK_1, ovK_2, ovK_3, ovK_4, valK_1, valK_2, valK_3, datK_1, datK_2, datK_3, datK_4, m1L_1, m1L_2, m1K_1, m1K_2, m1K_3, m2N_1, acL_1, acL_2, acL_3, dcL_1, dcL_2, dcL_3, consO_1, aL_1, aL_2, tupK_1, tupK_2, tupK_3, lstK_1, lstK_2, lstK_3, testK_1, testK_2, notK_1, notK_2, notK_3, andK_1, andK_2, andK_3, andK_4, orK_1, orK_2, orK_3, orK_4, andvK_1, andvK_2, andvK_3, orvK_1, orvK_2, orvK_3, notvK_1, notvK_2, ifeK_1, ifeK_2, ifeK_3, ifeK_4, chN_1, chN_2, chM_1, chL_1, chL_2, chL_3, chK_1, chK_2, chK_3, seqK_1, seqK_2, seqK_3, seqK_4, seqK_5, seqK_6, seqK_7, ifK_1, ifK_2, ifK_3, ifK_4, retK_1, retK_2, retK_3, retwK_1, retwK_2, retwK_3, retoK_1, dropK_1, dropK_2, dropK_3, nxK_1, nxK_2, asgK_1, asgK_2, asgK_3, asgoK_1, asgoK_2, asgoK_3, gscK_1, gscK_2, itK_1, itK_2, itK_3, sqK_1, sqK_2, tqK_1, tqK_2, sbK_1, sbK_2, sbK_3, forK_1, forK_2, forK_3, flL_1, flL_2, flL_3, flL_4, flL_5, flL_6, flL_7, flK_1, flK_2, cpL_1, cpL_2, cpK_1, cpK_2, cpK_3, ownK_1, ownK_2, ciM_1, ciM_2, ciL_1, ciK_1, ciK_2, ciK_3, ciH_1, ciH_2, mkN_1, mkL_1, mkL_2, mkK_1, mkK_2, mkK_3, olK_1, olK_2, muN_1, muN_2, muL_1, muL_2, muK_1, muK_2, muK_3, muH_1, muH_2, puN_1, puN_2, puM_1, puM_2, puL_1, puL_2, puH_1, puH_2, puK_1, puK_2, puK_3, oiK_1, oiK_2, sfL_1, sfL_2, sfK_1, sfK_2, sfK_3, psK_1, psK_2, slN_1, slN_2, slM_1, slM_2, slM_3, slL_1, slL_2, slL_3, slK_1, slK_2, slK_3, cnM_1, cnL_1, cnL_2, cnL_3, cnJ_1, cnJ_2, cnI_1, cnI_2, cnK_1, cnK_2, cnK_3, gD_1, gD_2, io0K_1, gI_1, gI_2, gNw_1, isB_str_non, isB_str_bl, isB_str_int, isB_str_str, isB_str_tup, isB_str_lst, isB_str_dk, isB_list_non, isB_list_bl, isB_list_int, isB_list_str, isB_list_tup, isB_list_lst, isB_list_dk, isB_tuple_non, isB_tuple_bl, isB_tuple_int, isB_tuple_str, isB_tuple_tup, isB_tuple_lst, isB_tuple_dk, isB_int_non, isB_int_bl, isB_int_int, isB_int_str, isB_int_tup, isB_int_lst, isB_int_dk, isB_bool_non, isB_bool_bl, isB_bool_int, isB_bool_str, isB_bool_tup, isB_bool_lst, isB_bool_dk, isB_dict_non, isB_dict_bl, isB_dict_int, isB_dict_str, isB_dict_tup, isB_dict_lst, isB_dict_dk, bK_1, sK_1, fI0_ii, fI_ii, addD_ii, lenD_lst, lenD_tup, tupD_lst, tupD_tup, listD_lst, listD_tup, kindD_lst, kindD_tup, revLD_lst, rown_ow, rown_io, sl_fr, sl_bo, sl_io, entry_n, entry_c, frOk_n, frOk_f, frOk_b, apart_n, apart_v, apart_s, startE, List.length_cons, List.length_nil, List.replicate, List.cons_append, List.nil_append, Nat.reduceAdd, Nat.reduceSub, Nat.zero_add, List.getElem?_cons_zero, List.getElem?_cons_succ, List.set_cons_zero, List.set_cons_succ, if_true, if_false, reduceIte, decide_true, decide_false, Bool.not_true, Bool.not_false, Bool.and_self, Bool.true_and, Bool.and_true, Bool.false_eq_true, LB, Nat.reduceLeDiff, Nat.reduceLT, Nat.reduceBNe, Nat.reduceBEq, E_are_corners_0, is_kind_ok c hS hp]
  have a1 : allD (.lst (cs.map fun _ => .bl true)) = some (.bl true) := by rw [allD_map]; simp
  have i6 : (cs.length : Int) ≤ 6 := by have := hC.hi; omega
  simp only [lift_e, liftK_s, mC_e, mVar_e, mOv_e, mVal_e, rd_v, rd_s, m1_e, m1K_o, m1L_s, m2_e, m2K_o, m2L_o, m2N_s, lstM_s, mn1_e, mn2_e, maNil_e, maCons_e, acK_o, mdNil_e, mdCons_e, dcK_o, rds_n, rds_c, consO_s, mA_e, mnA_e, aK_o, aL_s, fA1_e, fN1_e, mTup_e, mLst_e, mTest_e, mNot_e, mAnd_e, mOr_e, mAndV_e, mOrV_e, mNotV_e, mIfE_e, mChain_e, mNext_e, mSeq_e, mIf_e, mRet_e, mRetW_e, mRetO_e, mDrop_e, mAsg_e, mAsgO_e, gN_e, gs0_e, gsC_e, gT_e, gTL_e, mIt_e, mSeqOf_e, mTupOf_e, mSeqB_e, mFor_e, forL_n, forL_c, mCallP_e, mCallN_e, ownO_e, mCallI_e, mMakeP_e, ownL_e, mMut_e, appF_e, mPutI_e, ownI_e, mSetF_e, mpNone_e, mpSome_e, mSl_e, mCount_e, defG_e, defI_e, defN_e, varK_1, varK_2, ovK_1, ovK_2, ovK_3, ovK_4, valK_1, valK_2, valK_3, datK_1, datK_2, datK_3, datK_4, m1L_1, m1L_2, m1K_1, m1K_2, m1K_3, m2N_1, acL_1, acL_2, acL_3, dcL_1, dcL_2, dcL_3, consO_1, aL_1, aL_2, tupK_1, tupK_2, tupK_3, lstK_1, lstK_2, lstK_3, testK_1, testK_2, notK_1, notK_2, notK_3, andK_1, andK_2, andK_3, andK_4, orK_1, orK_2, orK_3, orK_4, andvK_1, andvK_2, andvK_3, orvK_1, orvK_2, orvK_3, notvK_1, notvK_2, ifeK_1, ifeK_2, ifeK_3, ifeK_4, chN_1, chN_2, chM_1, chL_1, chL_2, chL_3, chK_1, chK_2, chK_3, seqK_1, seqK_2, seqK_3, seqK_4, seqK_5, seqK_6, seqK_7, ifK_1, ifK_2, ifK_3, ifK_4, retK_1, retK_2, retK_3, retwK_1, retwK_2, retwK_3, retoK_1, dropK_1, dropK_2, dropK_3, nxK_1, nxK_2, asgK_1, asgK_2, asgK_3, asgoK_1, asgoK_2, asgoK_3, gscK_1, gscK_2, itK_1, itK_2, itK_3, sqK_1, sqK_2, tqK_1, tqK_2, sbK_1, sbK_2, sbK_3, forK_1, forK_2, forK_3, flL_1, flL_2, flL_3, flL_4, flL_5, flL_6, flL_7, flK_1, flK_2, cpL_1, cpL_2, cpK_1, cpK_2, cpK_3, ownK_1, ownK_2, ciM_1, ciM_2, ciL_1, ciK_1, ciK_2, ciK_3, ciH_1, ciH_2, mkN_1, mkL_1, mkL_2, mkK_1, mkK_2, mkK_3, olK_1, olK_2, muN_1, muN_2, muL_1, muL_2, muK_1, muK_2, muK_3, muH_1, muH_2, puN_1, puN_2, puM_1, puM_2, puL_1, puL_2, puH_1, puH_2, puK_1, puK_2, puK_3, oiK_1, oiK_2, sfL_1, sfL_2, sfK_1, sfK_2, sfK_3, psK_1, psK_2, slN_1, slN_2, slM_1, slM_2, slM_3, slL_1, slL_2, slL_3, slK_1, slK_2, slK_3, cnM_1, cnL_1, cnL_2, cnL_3, cnJ_1, cnJ_2, cnI_1, cnI_2, cnK_1, cnK_2, cnK_3, gD_1, gD_2, io0K_1, gI_1, gI_2, gNw_1, isB_str_non, isB_str_bl, isB_str_int, isB_str_str, isB_str_tup, isB_str_lst, isB_str_dk, isB_list_non, isB_list_bl, isB_list_int, isB_list_str, isB_list_tup, isB_list_lst, isB_list_dk, isB_tuple_non, isB_tuple_bl, isB_tuple_int, isB_tuple_str, isB_tuple_tup, isB_tuple_lst, isB_tuple_dk, isB_int_non, isB_int_bl, isB_int_int, isB_int_str, isB_int_tup, isB_int_lst, isB_int_dk, isB_bool_non, isB_bool_bl, isB_bool_int, isB_bool_str, isB_bool_tup, isB_bool_lst, isB_bool_dk, isB_dict_non, isB_dict_bl, isB_dict_int, isB_dict_str, isB_dict_tup, isB_dict_lst, isB_dict_dk, bK_1, sK_1, fI0_ii, fI_ii, addD_ii, lenD_lst, lenD_tup, tupD_lst, tupD_tup, listD_lst, listD_tup, kindD_lst, kindD_tup, revLD_lst, rown_ow, rown_io, sl_fr, sl_bo, sl_io, entry_n, entry_c, frOk_n, frOk_f, frOk_b, apart_n, apart_v, apart_s, startE, List.length_cons, List.length_nil, List.replicate, List.cons_append, List.nil_append, Nat.reduceAdd, Nat.reduceSub, Nat.zero_add, List.getElem?_cons_zero, List.getElem?_cons_succ, List.set_cons_zero, List.set_cons_succ, if_true, if_false, reduceIte, decide_true, decide_false, Bool.not_true, Bool.not_false, Bool.and_self, Bool.true_and, Bool.and_true, Bool.false_eq_true, LB, Nat.reduceLeDiff, Nat.reduceLT, Nat.reduceBNe, Nat.reduceBEq, g_are_corners, m_are_corners, h1, a1, List.length_map, i6]
theorem no_legs_ok : g_are_legs c [stockD c sorts ks, .lst []] = some (.bl true) := by
  have h1 : L_are_legs_0 c [.fr (stockD c sorts ks), .bo (.lst []), .un, .un, .un] = some (.ok (.lst []) [.fr (stockD c sorts ks), .bo (.lst []), .un, .un, .un]) := rfl
  have h2 : L_are_legs_1 c [.fr (stockD c sorts ks), .bo (.lst []), .un, .un, .un] = some (.ok (.lst []) [.fr (stockD c sorts ks), .bo (.lst []), .un, .un, .un]) := rfl
  have a1 : allD (.lst []) = some (.bl true) := rfl
  have a2 : sortF (.lst []) = some [] := by have := sortF_lst [] (by decide); simpa [sortS] using this
  have a3 : lenSetD (.lst []) = some (.int 0) := rfl
  have a4 : eqD (.lst []) (.lst []) = some (.bl true) := by
    have : Pl 1 (.lst []) := Pl.lst (fun d hd => by cases hd)
    rw [eqD_pl 1 this this]; simp only [decide_true]
  have i : ((6 : Int) < ((0 : Nat) : Int)) = False := by simp
  simp only [lift_e, liftK_s, mC_e, mVar_e, mOv_e, mVal_e, rd_v, rd_s, m1_e, m1K_o, m1L_s, m2_e, m2K_o, m2L_o, m2N_s, lstM_s, mn1_e, mn2_e, maNil_e, maCons_e, acK_o, mdNil_e, mdCons_e, dcK_o, rds_n, rds_c, consO_s, mA_e, mnA_e, aK_o, aL_s, fA1_e, fN1_e, mTup_e, mLst_e, mTest_e, mNot_e, mAnd_e, mOr_e, mAndV_e, mOrV_e, mNotV_e, mIfE_e, mChain_e, mNext_e, mSeq_e, mIf_e, mRet_e, mRetW_e, mRetO_e, mDrop_e, mAsg_e, mAsgO_e, gN_e, gs0_e, gsC_e, gT_e, gTL_e, mIt_e, mSeqOf_e, mTupOf_e, mSeqB_e, mFor_e, forL_n, forL_c, mCallP_e, mCallN_e, ownO_e, mCallI_e, mMakeP_e, ownL_e, mMut_e, appF_e, mPutI_e, ownI_e, mSetF_e, mpNone_e, mpSome_e, mSl_e, mCount_e, defG_e, defI_e, defN_e, varK_1, varK_2, ovK_1, ovK_2, ovK_3, ovK_4, valK_1, valK_2, valK_3, datK_1, datK_2, datK_3, datK_4, m1L_1, m1L_2, m1K_1, m1K_2, m1K_3, m2N_1, acL_1, acL_2, acL_3, dcL_1, dcL_2, dcL_3, consO_1, aL_1, aL_2, tupK_1, tupK_2, tupK_3, lstK_1, lstK_2, lstK_3, testK_1, testK_2, notK_1, notK_2, notK_3, andK_1, andK_2, andK_3, andK_4, orK_1, orK_2, orK_3, orK_4, andvK_1, andvK_2, andvK_3, orvK_1, orvK_2, orvK_3, notvK_1, notvK_2, ifeK_1, ifeK_2, ifeK_3, ifeK_4, chN_1, chN_2, chM_1, chL_1, chL_2, chL_3, chK_1, chK_2, chK_3, seqK_1, seqK_2, seqK_3, seqK_4, seqK_5, seqK_6, seqK_7, ifK_1, ifK_2, ifK_3, ifK_4, retK_1, retK_2, retK_3, retwK_1, retwK_2, retwK_3, retoK_1, dropK_1, dropK_2, dropK_3, nxK_1, nxK_2, asgK_1, asgK_2, asgK_3, asgoK_1, asgoK_2, asgoK_3, gscK_1, gscK_2, itK_1, itK_2, itK_3, sqK_1, sqK_2, tqK_1, tqK_2, sbK_1, sbK_2, sbK_3, forK_1, forK_2, forK_3, flL_1, flL_2, flL_3, flL_4, flL_5, flL_6, flL_7, flK_1, flK_2, cpL_1, cpL_2, cpK_1, cpK_2, cpK_3, ownK_1, ownK_2, ciM_1, ciM_2, ciL_1, ciK_1, ciK_2, ciK_3, ciH_1, ciH_2, mkN_1, mkL_1, mkL_2, mkK_1, mkK_2, mkK_3, olK_1, olK_2, muN_1, muN_2, muL_1, muL_2, muK_1, muK_2, muK_3, muH_1, muH_2, puN_1, puN_2, puM_1, puM_2, puL_1, puL_2, puH_1, puH_2, puK_1, puK_2, puK_3, oiK_1, oiK_2, sfL_1, sfL_2, sfK_1, sfK_2, sfK_3, psK_1, psK_2, slN_1, slN_2, slM_1, slM_2, slM_3, slL_1, slL_2, slL_3, slK_1, slK_2, slK_3, cnM_1, cnL_1, cnL_2, cnL_3, cnJ_1, cnJ_2, cnI_1, cnI_2, cnK_1, cnK_2, cnK_3, gD_1, gD_2, io0K_1, gI_1, gI_2, gNw_1, isB_str_non, isB_str_bl, isB_str_int, isB_str_str, isB_str_tup, isB_str_lst, isB_str_dk, isB_list_non, isB_list_bl, isB_list_int, isB_list_str, isB_list_tup, isB_list_lst, isB_list_dk, isB_tuple_non, isB_tuple_bl, isB_tuple_int, isB_tuple_str, isB_tuple_tup, isB_tuple_lst, isB_tuple_dk, isB_int_non, isB_int_bl, isB_int_int, isB_int_str, isB_int_tup, isB_int_lst, isB_int_dk, isB_bool_non, isB_bool_bl, isB_bool_int, isB_bool_str, isB_bool_tup, isB_bool_lst, isB_bool_dk, isB_dict_non, isB_dict_bl, isB_dict_int, isB_dict_str, isB_dict_tup, isB_dict_lst, isB_dict_dk, bK_1, sK_1, fI0_ii, fI_ii, addD_ii, lenD_lst, lenD_tup, tupD_lst, tupD_tup, listD_lst, listD_tup, kindD_lst, kindD_tup, revLD_lst, rown_ow, rown_io, sl_fr, sl_bo, sl_io, entry_n, entry_c, frOk_n, frOk_f, frOk_b, apart_n, apart_v, apart_s, startE, List.length_cons, List.length_nil, List.replicate, List.cons_append, List.nil_append, Nat.reduceAdd, Nat.reduceSub, Nat.zero_add, List.getElem?_cons_zero, List.getElem?_cons_succ, List.set_cons_zero, List.set_cons_succ, if_true, if_false, reduceIte, decide_true, decide_false, Bool.not_true, Bool.not_false, Bool.and_self, Bool.true_and, Bool.and_true, Bool.false_eq_true, LB, Nat.reduceLeDiff, Nat.reduceLT, Nat.reduceBNe, Nat.reduceBEq, g_are_legs, m_are_legs, h1, h2, a1, a2, a3, a4, i, eqD_int]
  rfl
theorem sure_corners_ok {cs : List Str} (hC : CornersOk ks cs) : g_sure_corners c [stockD c sorts ks, .lst (cs.map .str), .lst []] = some .non := by
  simp only [lift_e, liftK_s, mC_e, mVar_e, mOv_e, mVal_e, rd_v, rd_s, m1_e, m1K_o, m1L_s, m2_e, m2K_o, m2L_o, m2N_s, lstM_s, mn1_e, mn2_e, maNil_e, maCons_e, acK_o, mdNil_e, mdCons_e, dcK_o, rds_n, rds_c, consO_s, mA_e, mnA_e, aK_o, aL_s, fA1_e, fN1_e, mTup_e, mLst_e, mTest_e, mNot_e, mAnd_e, mOr_e, mAndV_e, mOrV_e, mNotV_e, mIfE_e, mChain_e, mNext_e, mSeq_e, mIf_e, mRet_e, mRetW_e, mRetO_e, mDrop_e, mAsg_e, mAsgO_e, gN_e, gs0_e, gsC_e, gT_e, gTL_e, mIt_e, mSeqOf_e, mTupOf_e, mSeqB_e, mFor_e, forL_n, forL_c, mCallP_e, mCallN_e, ownO_e, mCallI_e, mMakeP_e, ownL_e, mMut_e, appF_e, mPutI_e, ownI_e, mSetF_e, mpNone_e, mpSome_e, mSl_e, mCount_e, defG_e, defI_e, defN_e, varK_1, varK_2, ovK_1, ovK_2, ovK_3, ovK_4, valK_1, valK_2, valK_3, datK_1, datK_2, datK_3, datK_4, m1L_1, m1L_2, m1K_1, m1K_2, m1K_3, m2N_1, acL_1, acL_2, acL_3, dcL_1, dcL_2, dcL_3, consO_1, aL_1, aL_2, tupK_1, tupK_2, tupK_3, lstK_1, lstK_2, lstK_3, testK_1, testK_2, notK_1, notK_2, notK_3, andK_1, andK_2, andK_3, andK_4, orK_1, orK_2, orK_3, orK_4, andvK_1, andvK_2, andvK_3, orvK_1, orvK_2, orvK_3, notvK_1, notvK_2, ifeK_1, ifeK_2, ifeK_3, ifeK_4, chN_1, chN_2, chM_1, chL_1, chL_2, chL_3, chK_1, chK_2, chK_3, seqK_1, seqK_2, seqK_3, seqK_4, seqK_5, seqK_6, seqK_7, ifK_1, ifK_2, ifK_3, ifK_4, retK_1, retK_2, retK_3, retwK_1, retwK_2, retwK_3, retoK_1, dropK_1, dropK_2, dropK_3, nxK_1, nxK_2, asgK_1, asgK_2, asgK_3, asgoK_1, asgoK_2, asgoK_3, gscK_1, gscK_2, itK_1, itK_2, itK_3, sqK_1, sqK_2, tqK_1, tqK_2, sbK_1, sbK_2, sbK_3, forK_1, forK_2, forK_3, flL_1, flL_2, flL_3, flL_4, flL_5, flL_6, flL_7, flK_1, flK_2, cpL_1, cpL_2, cpK_1, cpK_2, cpK_3, ownK_1, ownK_2, ciM_1, ciM_2, ciL_1, ciK_1, ciK_2, ciK_3, ciH_1, ciH_2, mkN_1, mkL_1, mkL_2, mkK_1, mkK_2, mkK_3, olK_1, olK_2, muN_1, muN_2, muL_1, muL_2, muK_1, muK_2, muK_3, muH_1, muH_2, puN_1, puN_2, puM_1, puM_2, puL_1, puL_2, puH_1, puH_2, puK_1, puK_2, puK_3, oiK_1, oiK_2, sfL_1, sfL_2, sfK_1, sfK_2, sfK_3, psK_1, psK_2, slN_1, slN_2, slM_1, slM_2, slM_3, slL_1, slL_2, slL_3, slK_1, slK_2, slK_3, cnM_1, cnL_1, cnL_2, cnL_3, cnJ_1, cnJ_2, cnI_1, cnI_2, cnK_1, cnK_2, cnK_3, gD_1, gD_2, io0K_1, gI_1, gI_2, gNw_1, isB_str_non, isB_str_bl, isB_str_int, isB_str_str, isB_str_tup, isB_str_lst, isB_str_dk, isB_list_non, isB_list_bl, isB_list_int, isB_list_str, isB_list_tup, isB_list_lst, isB_list_dk, isB_tuple_non, isB_tuple_bl, isB_tuple_int, isB_tuple_str, isB_tuple_tup, isB_tuple_lst, isB_tuple_dk, isB_int_non, isB_int_bl, isB_int_int, isB_int_str, isB_int_tup, isB_int_lst, isB_int_dk, isB_bool_non, isB_bool_bl, isB_bool_int, isB_bool_str, isB_bool_tup, isB_bool_lst, isB_bool_dk, isB_dict_non, isB_dict_bl, isB_dict_int, isB_dict_str, isB_dict_tup, isB_dict_lst, isB_dict_dk, bK_1, sK_1, fI0_ii, fI_ii, addD_ii, lenD_lst, lenD_tup, tupD_lst, tupD_tup, listD_lst, listD_tup, kindD_lst, kindD_tup, revLD_lst, rown_ow, rown_io, sl_fr, sl_bo, sl_io, entry_n, entry_c, frOk_n, frOk_f, frOk_b, apart_n, apart_v, apart_s, startE, List.length_cons, List.length_nil, List.replicate, List.cons_append, List.nil_append, Nat.reduceAdd, Nat.reduceSub, Nat.zero_add, List.getElem?_cons_zero, List.getElem?_cons_succ, List.set_cons_zero, List.set_cons_succ, if_true, if_false, reduceIte, decide_true, decide_false, Bool.not_true, Bool.not_false, Bool.and_self, Bool.true_and, Bool.and_true, Bool.false_eq_true, LB, Nat.reduceLeDiff, Nat.reduceLT, Nat.reduceBNe, Nat.reduceBEq, g_sure_corners, m_sure_corners, are_corners_ok c hS hC, no_legs_ok c hS]
end
end G

set_option Elab.async false
set_option linter.all false
set_option maxRecDepth 100000
set_option maxHeartbeats 1000000
/-! MGa: factorial, group. -/
namespace G
open PySem L2 DL PG
theorem take_snoc {α : Type} {as : List α} {i : Nat} {a : α} (h : as[i]? = some a) : as.take (i + 1) = as.take i ++ [a] := by
  rw [List.take_succ, h]; rfl
theorem pr_snoc (xs : List Nat) (n : Nat) : pr (xs ++ [n]) = pr xs * n := by rw [pr_app, pr, pr, Nat.mul_one]
theorem count_strs (n : Str) : ∀ xs : List Str, (xs.map D.str).count (.str n) = xs.count n
  | [] => rfl
  | x :: xs => by
    rw [List.map_cons, List.count_cons, List.count_cons, count_strs n xs]
    by_cases e : x = n
    · simp [e]
    · simp [e]
theorem fac_cast (n m : Nat) (h : n ≤ 12) : (fac n : Int) ≤ 1000000000 := by
  have := fac_mono h
  have h12 : fac 12 = 479001600 := by decide
  omega
theorem fac_le6 {n : Nat} (h : n ≤ 6) : (-1000000 : Int) ≤ (fac n : Int) ∧ (fac n : Int) ≤ 1000000 := by
  have := fac_mono h
  have h6 : fac 6 = 720 := by decide
  omega
theorem factorial_ok (c : Cs) (n : Nat) (hn : n ≤ 1000) : g_factorial c [.int n] = some (.int (fac n)) := by
  have hr : rg2 [.int 2, .int ((n : Int) + 1)] = some ((List.range (n - 1)).map fun i => D.int (2 + (i : Nat))) := by
    have h : 0 ≤ (2 : Int) ∧ (2 : Int) ≤ 1000000 ∧ -1000000 ≤ (n : Int) + 1 ∧ (n : Int) + 1 ≤ 1000000 := by omega
    have e : ((n : Int) + 1 - 2).toNat = n - 1 := by omega
    simp only [rg2, if_pos h, e, rangeD]
  obtain ⟨δ', h1, ⟨s, rfl⟩⟩ := forL_ix (enc := fun i : Nat => D.int (2 + (i : Nat))) (g := gN 2) (b := B_factorial_0 c) (as := List.range (n - 1)) (fun i δ => ∃ s, δ = [.fr (.int n), .fr (.int (fac (i + 1))), s])
    (δ := [.fr (.int n), .fr (.int 1), .un]) ⟨.un, rfl⟩ (by
      rintro i a δ ha ⟨s, rfl⟩
      obtain ⟨hi, rfl⟩ := List.getElem?_eq_some_iff.mp ha
      rw [List.length_range] at hi
      simp only [List.getElem_range]
      refine ⟨[.fr (.int n), .fr (.int (fac (i + 1))), .fr (.int (2 + (i : Nat)))], [.fr (.int n), .fr (.int (fac (i + 1 + 1))), .fr (.int (2 + (i : Nat)))], rfl, ?_, _, rfl⟩
      have e : (fac (i + 1 + 1) : Int) = (fac (i + 1) : Int) * (2 + (i : Nat)) := by
        rw [fac]
        have : ((i + 1 + 1 : Nat) : Int) = 2 + (i : Int) := by omega
        rw [Int.natCast_mul, this]
      have m : mulOk (fac (i + 1) : Int) (2 + (i : Nat)) = true := mulOk_r (by omega)
      simp only [lift_e, liftK_s, mC_e, mVar_e, mOv_e, mVal_e, rd_v, rd_s, m1_e, m1K_o, m1L_s, m2_e, m2K_o, m2L_o, m2N_s, lstM_s, mn1_e, mn2_e, maNil_e, maCons_e, acK_o, mdNil_e, mdCons_e, dcK_o, rds_n, rds_c, consO_s, mA_e, mnA_e, aK_o, aL_s, fA1_e, fN1_e, mTup_e, mLst_e, mTest_e, mNot_e, mAnd_e, mOr_e, mAndV_e, mOrV_e, mNotV_e, mIfE_e, mChain_e, mNext_e, mSeq_e, mIf_e, mRet_e, mRetW_e, mRetO_e, mDrop_e, mAsg_e, mAsgO_e, gN_e, gs0_e, gsC_e, gT_e, gTL_e, mIt_e, mSeqOf_e, mTupOf_e, mSeqB_e, mFor_e, forL_n, forL_c, mCallP_e, mCallN_e, ownO_e, mCallI_e, mMakeP_e, ownL_e, mMut_e, appF_e, mPutI_e, ownI_e, mSetF_e, mpNone_e, mpSome_e, mSl_e, mCount_e, defG_e, defI_e, defN_e, varK_1, varK_2, ovK_1, ovK_2, ovK_3, ovK_4, valK_1, valK_2, valK_3, datK_1, datK_2, datK_3, datK_4, m1L_1, m1L_2, m1K_1, m1K_2, m1K_3, m2N_1, acL_1, acL_2, acL_3, dcL_1, dcL_2, dcL_3, consO_1, aL_1, aL_2, tupK_1, tupK_2, tupK_3, lstK_1, lstK_2, lstK_3, testK_1, testK_2, notK_1, notK_2, notK_3, andK_1, andK_2, andK_3, andK_4, orK_1, orK_2, orK_3, orK_4, andvK_1, andvK_2, andvK_3, orvK_1, orvK_2, orvK_3, notvK_1, notvK_2, ifeK_1, ifeK_2, ifeK_3, ifeK_4, chN_1, chN_2, chM_1, chL_1, chL_2, chL_3, chK_1, chK_2, chK_3, seqK_1, seqK_2, seqK_3, seqK_4, seqK_5, seqK_6, seqK_7, ifK_1, ifK_2, ifK_3, ifK_4, retK_1, retK_2, retK_3, retwK_1, retwK_2, retwK_3, retoK_1, dropK_1, dropK_2, dropK_3, nxK_1, nxK_2, asgK_1, asgK_2, asgK_3, asgoK_1, asgoK_2, asgoK_3, gscK_1, gscK_2, itK_1, itK_2, itK_3, sqK_1, sqK_2, tqK_1, tqK_2, sbK_1, sbK_2, sbK_3, forK_1, forK_2, forK_3, flL_1, flL_2, flL_3, flL_4, flL_5, flL_6, flL_7, flK_1, flK_2, cpL_1, cpL_2, cpK_1, cpK_2, cpK_3, ownK_1, ownK_2, ciM_1, ciM_2, ciL_1, ciK_1, ciK_2, ciK_3, ciH_1, ciH_2, mkN_1, mkL_1, mkL_2, mkK_1, mkK_2, mkK_3, olK_1, olK_2, muN_1, muN_2, muL_1, muL_2, muK_1, muK_2, muK_3, muH_1, muH_2, puN_1, puN_2, puM_1, puM_2, puL_1, puL_2, puH_1, puH_2, puK_1, puK_2, puK_3, oiK_1, oiK_2, sfL_1, sfL_2, sfK_1, sfK_2, sfK_3, psK_1, psK_2, slN_1, slN_2, slM_1, slM_2, slM_3, slL_1, slL_2, slL_3, slK_1, slK_2, slK_3, cnM_1, cnL_1, cnL_2, cnL_3, cnJ_1, cnJ_2, cnI_1, cnI_2, cnK_1, cnK_2, cnK_3, gD_1, gD_2, io0K_1, gI_1, gI_2, gNw_1, isB_str_non, isB_str_bl, isB_str_int, isB_str_str, isB_str_tup, isB_str_lst, isB_str_dk, isB_list_non, isB_list_bl, isB_list_int, isB_list_str, isB_list_tup, isB_list_lst, isB_list_dk, isB_tuple_non, isB_tuple_bl, isB_tuple_int, isB_tuple_str, isB_tuple_tup, isB_tuple_lst, isB_tuple_dk, isB_int_non, isB_int_bl, isB_int_int, isB_int_str, isB_int_tup, isB_int_lst, isB_int_dk, isB_bool_non, isB_bool_bl, isB_bool_int, isB_bool_str, isB_bool_tup, isB_bool_lst, isB_bool_dk, isB_dict_non, isB_dict_bl, isB_dict_int, isB_dict_str, isB_dict_tup, isB_dict_lst, isB_dict_dk, bK_1, sK_1, fI0_ii, fI_ii, addD_ii, lenD_lst, lenD_tup, tupD_lst, tupD_tup, listD_lst, listD_tup, kindD_lst, kindD_tup, revLD_lst, rown_ow, rown_io, sl_fr, sl_bo, sl_io, entry_n, entry_c, frOk_n, frOk_f, frOk_b, apart_n, apart_v, apart_s, startE, List.length_cons, List.length_nil, List.replicate, List.cons_append, List.nil_append, Nat.reduceAdd, Nat.reduceSub, Nat.zero_add, List.getElem?_cons_zero, List.getElem?_cons_succ, List.set_cons_zero, List.set_cons_succ, if_true, if_false, reduceIte, decide_true, decide_false, Bool.not_true, Bool.not_false, Bool.and_self, Bool.true_and, Bool.and_true, Bool.false_eq_true, LB, Nat.reduceLeDiff, Nat.reduceLT, Nat.reduceBNe, Nat.reduceBEq, B_factorial_0, m, e])
  rw [List.length_range] at h1
  have e : fac (n - 1 + 1) = fac n := by
    cases n with
    | zero => rfl
    | succ n => rfl
  simp only [lift_e, liftK_s, mC_e, mVar_e, mOv_e, mVal_e, rd_v, rd_s, m1_e, m1K_o, m1L_s, m2_e, m2K_o, m2L_o, m2N_s, lstM_s, mn1_e, mn2_e, maNil_e, maCons_e, acK_o, mdNil_e, mdCons_e, dcK_o, rds_n, rds_c, consO_s, mA_e, mnA_e, aK_o, aL_s, fA1_e, fN1_e, mTup_e, mLst_e, mTest_e, mNot_e, mAnd_e, mOr_e, mAndV_e, mOrV_e, mNotV_e, mIfE_e, mChain_e, mNext_e, mSeq_e, mIf_e, mRet_e, mRetW_e, mRetO_e, mDrop_e, mAsg_e, mAsgO_e, gN_e, gs0_e, gsC_e, gT_e, gTL_e, mIt_e, mSeqOf_e, mTupOf_e, mSeqB_e, mFor_e, forL_n, forL_c, mCallP_e, mCallN_e, ownO_e, mCallI_e, mMakeP_e, ownL_e, mMut_e, appF_e, mPutI_e, ownI_e, mSetF_e, mpNone_e, mpSome_e, mSl_e, mCount_e, defG_e, defI_e, defN_e, varK_1, varK_2, ovK_1, ovK_2, ovK_3, ovK_4, valK_1, valK_2, valK_3, datK_1, datK_2, datK_3, datK_4, m1L_1, m1L_2, m1K_1, m1K_2, m1K_3, m2N_1, acL_1, acL_2, acL_3, dcL_1, dcL_2, dcL_3, consO_1, aL_1, aL_2, tupK_1, tupK_2, tupK_3, lstK_1, lstK_2, lstK_3, testK_1, testK_2, notK_1, notK_2, notK_3, andK_1, andK_2, andK_3, andK_4, orK_1, orK_2, orK_3, orK_4, andvK_1, andvK_2, andvK_3, orvK_1, orvK_2, orvK_3, notvK_1, notvK_2, ifeK_1, ifeK_2, ifeK_3, ifeK_4, chN_1, chN_2, chM_1, chL_1, chL_2, chL_3, chK_1, chK_2, chK_3, seqK_1, seqK_2, seqK_3, seqK_4, seqK_5, seqK_6, seqK_7, ifK_1, ifK_2, ifK_3, ifK_4, retK_1, retK_2, retK_3, retwK_1, retwK_2, retwK_3, retoK_1, dropK_1, dropK_2, dropK_3, nxK_1, nxK_2, asgK_1, asgK_2, asgK_3, asgoK_1, asgoK_2, asgoK_3, gscK_1, gscK_2, itK_1, itK_2, itK_3, sqK_1, sqK_2, tqK_1, tqK_2, sbK_1, sbK_2, sbK_3, forK_1, forK_2, forK_3, flL_1, flL_2, flL_3, flL_4, flL_5, flL_6, flL_7, flK_1, flK_2, cpL_1, cpL_2, cpK_1, cpK_2, cpK_3, ownK_1, ownK_2, ciM_1, ciM_2, ciL_1, ciK_1, ciK_2, ciK_3, ciH_1, ciH_2, mkN_1, mkL_1, mkL_2, mkK_1, mkK_2, mkK_3, olK_1, olK_2, muN_1, muN_2, muL_1, muL_2, muK_1, muK_2, muK_3, muH_1, muH_2, puN_1, puN_2, puM_1, puM_2, puL_1, puL_2, puH_1, puH_2, puK_1, puK_2, puK_3, oiK_1, oiK_2, sfL_1, sfL_2, sfK_1, sfK_2, sfK_3, psK_1, psK_2, slN_1, slN_2, slM_1, slM_2, slM_3, slL_1, slL_2, slL_3, slK_1, slK_2, slK_3, cnM_1, cnL_1, cnL_2, cnL_3, cnJ_1, cnJ_2, cnI_1, cnI_2, cnK_1, cnK_2, cnK_3, gD_1, gD_2, io0K_1, gI_1, gI_2, gNw_1, isB_str_non, isB_str_bl, isB_str_int, isB_str_str, isB_str_tup, isB_str_lst, isB_str_dk, isB_list_non, isB_list_bl, isB_list_int, isB_list_str, isB_list_tup, isB_list_lst, isB_list_dk, isB_tuple_non, isB_tuple_bl, isB_tuple_int, isB_tuple_str, isB_tuple_tup, isB_tuple_lst, isB_tuple_dk, isB_int_non, isB_int_bl, isB_int_int, isB_int_str, isB_int_tup, isB_int_lst, isB_int_dk, isB_bool_non, isB_bool_bl, isB_bool_int, isB_bool_str, isB_bool_tup, isB_bool_lst, isB_bool_dk, isB_dict_non, isB_dict_bl, isB_dict_int, isB_dict_str, isB_dict_tup, isB_dict_lst, isB_dict_dk, bK_1, sK_1, fI0_ii, fI_ii, addD_ii, lenD_lst, lenD_tup, tupD_lst, tupD_tup, listD_lst, listD_tup, kindD_lst, kindD_tup, revLD_lst, rown_ow, rown_io, sl_fr, sl_bo, sl_io, entry_n, entry_c, frOk_n, frOk_f, frOk_b, apart_n, apart_v, apart_s, startE, List.length_cons, List.length_nil, List.replicate, List.cons_append, List.nil_append, Nat.reduceAdd, Nat.reduceSub, Nat.zero_add, List.getElem?_cons_zero, List.getElem?_cons_succ, List.set_cons_zero, List.set_cons_succ, if_true, if_false, reduceIte, decide_true, decide_false, Bool.not_true, Bool.not_false, Bool.and_self, Bool.true_and, Bool.and_true, Bool.false_eq_true, LB, Nat.reduceLeDiff, Nat.reduceLT, Nat.reduceBNe, Nat.reduceBEq, g_factorial, m_factorial, hr, h1, e]
/-- each of the sorts once, sorted -/
theorem sortSet_strs (xs : List Str) (h : xs.length ≤ 4000) : ∃ ss : List Str, sortSetF (.tup (xs.map .str)) = some (ss.map .str) ∧ ss.Nodup ∧ ∀ x, x ∈ ss ↔ x ∈ xs := by
  obtain ⟨us, hu⟩ : ∃ us : List Str, dd (xs.map Sum.inr) = us.map Sum.inr := by
    have : ∀ k ∈ dd (xs.map (Sum.inr : Str → Key)), ∃ u : Str, Sum.inr u = k := fun k hk => by
      obtain ⟨x, _, e⟩ := List.mem_map.mp (mem_dd.mp hk)
      exact ⟨x, e⟩
    revert this
    generalize dd (xs.map (Sum.inr : Str → Key)) = l
    intro this
    induction l with
    | nil => exact ⟨[], rfl⟩
    | cons k l ih =>
      obtain ⟨u, rfl⟩ := this k List.mem_cons_self
      obtain ⟨us, e⟩ := ih fun k hk => this k (List.mem_cons_of_mem _ hk)
      exact ⟨u :: us, by rw [e]; rfl⟩
  have nd : us.Nodup := by
    have := nodup_dd (xs.map (Sum.inr : Str → Key))
    rw [hu] at this
    exact List.Pairwise.of_map Sum.inr (fun a b h e => h (by rw [e])) this
  have hm : ∀ x, x ∈ us ↔ x ∈ xs := fun x => by
    have : Sum.inr x ∈ dd (xs.map (Sum.inr : Str → Key)) ↔ Sum.inr x ∈ xs.map (Sum.inr : Str → Key) := mem_dd
    rw [hu] at this
    constructor
    · intro hx
      obtain ⟨y, hy, e⟩ := List.mem_map.mp (this.mp (List.mem_map.mpr ⟨x, hx, rfl⟩))
      cases e; exact hy
    · intro hx
      obtain ⟨y, hy, e⟩ := List.mem_map.mp (this.mpr (List.mem_map.mpr ⟨x, hx, rfl⟩))
      cases e; exact hy
  have hl : us.length ≤ 1000000 := by
    have := dd_len (xs.map (Sum.inr : Str → Key))
    rw [hu, List.length_map, List.length_map] at this
    omega
  refine ⟨sortS us, ?_, (sortS_perm us).nodup_iff.mpr nd, fun x => sortS_mem.trans (hm x)⟩
  have e : (us.map (Sum.inr : Str → Key)).map kD = us.map D.str := by rw [List.map_map]; rfl
  simp only [sortSetF, setKeys_strsT xs h, hu, e, sortOk_iff.mpr ((strs_alike us).mpr hl), if_true, sortD_strs]
/-- a kind's ends -/
def ownOf (ks : List (Str × List Str)) (n : Str) : List Str := ((lk (ks.map fun p => (p.1, p)) n).map fun p => p.2).getD []
theorem own_self {ks : List (Str × List Str)} (nd : (ks.map fun p => p.1).Nodup) {p : Str × List Str} (hp : p ∈ ks) : ownOf ks p.1 = p.2 := by
  unfold ownOf
  rw [lk_self nd hp]
  rfl
/-- what group tells -/
def groupN (ks : List (Str × List Str)) (cs : List Str) : Nat := ways (ks.map fun p => p.1) cs * pr (cs.map fun n => rk [] (ownOf ks n))
section
variable (c : Cs) {sorts : List (Str × Str)} {ks : List (Str × List Str)} (hS : StockOk sorts ks)
include hS
theorem corner_name {cs : List Str} (hC : CornersOk ks cs) {n : Str} (h : n ∈ cs) : NameOk n := by
  obtain ⟨p, hp, rfl⟩ := List.mem_map.mp (hC.mem n h)
  exact hS.nm p hp
theorem count_corner {cs : List Str} (hC : CornersOk ks cs) {p : Str × List Str} (hp : p ∈ ks) : cntD (.lst (cs.map .str)) (.str p.1) = some (.int (cs.count p.1 : Nat)) := by
  rw [cntD_lst 0 (hS.nm p hp).pl (strs_pl hS.so fun z hz => corner_name hS hC hz), count_strs]
theorem end_name {p : Str × List Str} (hp : p ∈ ks) {y : Str} (h : y ∈ p.2) : NameOk y := sort_name hS.so ((hS.en p hp).mem y h)
theorem group_loop0 {cs : List Str} (hC : CornersOk ks cs) : ∃ s3 s4, forL (gT (gsC (gN 3) (gsC (gN 4) gs0))) (B_group_0 c) (ks.map kindD) [.fr (stockD c sorts ks), .bo (.lst (cs.map .str)), .fr (.int 1), .un, .un, .un] =
    some (.nx [.fr (stockD c sorts ks), .bo (.lst (cs.map .str)), .fr (.int (ways (ks.map fun p => p.1) cs)), s3, s4, .un]) := by
  obtain ⟨δ', h1, ⟨s3, s4, rfl⟩⟩ := forL_ix (enc := kindD) (g := gT (gsC (gN 3) (gsC (gN 4) gs0))) (b := B_group_0 c) (as := ks) (fun i δ => ∃ s3 s4, δ = [.fr (stockD c sorts ks), .bo (.lst (cs.map .str)), .fr (.int (pr ((ks.take i).map fun p => fac (cs.count p.1)))), s3, s4, .un])
    (δ := [.fr (stockD c sorts ks), .bo (.lst (cs.map .str)), .fr (.int 1), .un, .un, .un]) ⟨.un, .un, rfl⟩ (by
      rintro i p δ ha ⟨s3, s4, rfl⟩
      have hp : p ∈ ks := List.mem_of_getElem? ha
      have hc := count_corner hS hC hp
      have hcl : cs.count p.1 ≤ 6 := Nat.le_trans List.count_le_length hC.hi
      have hf := factorial_ok c (cs.count p.1) (by omega)
      have m : mulOk (pr ((ks.take i).map fun p => fac (cs.count p.1)) : Int) (fac (cs.count p.1)) = true := mulOk_r (fac_le6 hcl)
      have e : ((pr ((ks.take (i + 1)).map fun p => fac (cs.count p.1)) : Nat) : Int) = (pr ((ks.take i).map fun p => fac (cs.count p.1)) : Int) * (fac (cs.count p.1)) := by
        rw [take_snoc ha, List.map_append, List.map_singleton, pr_snoc, Int.natCast_mul]
      refine ⟨_, [.fr (stockD c sorts ks), .bo (.lst (cs.map .str)), .fr (.int (pr ((ks.take (i + 1)).map fun p => fac (cs.count p.1)))), .fr (.str p.1), .fr (.tup (p.2.map .str)), .un], rfl, ?_, _, _, rfl⟩
      rw [e]
      simp only [lift_e, liftK_s, mC_e, mVar_e, mOv_e, mVal_e, rd_v, rd_s, m1_e, m1K_o, m1L_s, m2_e, m2K_o, m2L_o, m2N_s, lstM_s, mn1_e, mn2_e, maNil_e, maCons_e, acK_o, mdNil_e, mdCons_e, dcK_o, rds_n, rds_c, consO_s, mA_e, mnA_e, aK_o, aL_s, fA1_e, fN1_e, mTup_e, mLst_e, mTest_e, mNot_e, mAnd_e, mOr_e, mAndV_e, mOrV_e, mNotV_e, mIfE_e, mChain_e, mNext_e, mSeq_e, mIf_e, mRet_e, mRetW_e, mRetO_e, mDrop_e, mAsg_e, mAsgO_e, gN_e, gs0_e, gsC_e, gT_e, gTL_e, mIt_e, mSeqOf_e, mTupOf_e, mSeqB_e, mFor_e, forL_n, forL_c, mCallP_e, mCallN_e, ownO_e, mCallI_e, mMakeP_e, ownL_e, mMut_e, appF_e, mPutI_e, ownI_e, mSetF_e, mpNone_e, mpSome_e, mSl_e, mCount_e, defG_e, defI_e, defN_e, varK_1, varK_2, ovK_1, ovK_2, ovK_3, ovK_4, valK_1, valK_2, valK_3, datK_1, datK_2, datK_3, datK_4, m1L_1, m1L_2, m1K_1, m1K_2, m1K_3, m2N_1, acL_1, acL_2, acL_3, dcL_1, dcL_2, dcL_3, consO_1, aL_1, aL_2, tupK_1, tupK_2, tupK_3, lstK_1, lstK_2, lstK_3, testK_1, testK_2, notK_1, notK_2, notK_3, andK_1, andK_2, andK_3, andK_4, orK_1, orK_2, orK_3, orK_4, andvK_1, andvK_2, andvK_3, orvK_1, orvK_2, orvK_3, notvK_1, notvK_2, ifeK_1, ifeK_2, ifeK_3, ifeK_4, chN_1, chN_2, chM_1, chL_1, chL_2, chL_3, chK_1, chK_2, chK_3, seqK_1, seqK_2, seqK_3, seqK_4, seqK_5, seqK_6, seqK_7, ifK_1, ifK_2, ifK_3, ifK_4, retK_1, retK_2, retK_3, retwK_1, retwK_2, retwK_3, retoK_1, dropK_1, dropK_2, dropK_3, nxK_1, nxK_2, asgK_1, asgK_2, asgK_3, asgoK_1, asgoK_2, asgoK_3, gscK_1, gscK_2, itK_1, itK_2, itK_3, sqK_1, sqK_2, tqK_1, tqK_2, sbK_1, sbK_2, sbK_3, forK_1, forK_2, forK_3, flL_1, flL_2, flL_3, flL_4, flL_5, flL_6, flL_7, flK_1, flK_2, cpL_1, cpL_2, cpK_1, cpK_2, cpK_3, ownK_1, ownK_2, ciM_1, ciM_2, ciL_1, ciK_1, ciK_2, ciK_3, ciH_1, ciH_2, mkN_1, mkL_1, mkL_2, mkK_1, mkK_2, mkK_3, olK_1, olK_2, muN_1, muN_2, muL_1, muL_2, muK_1, muK_2, muK_3, muH_1, muH_2, puN_1, puN_2, puM_1, puM_2, puL_1, puL_2, puH_1, puH_2, puK_1, puK_2, puK_3, oiK_1, oiK_2, sfL_1, sfL_2, sfK_1, sfK_2, sfK_3, psK_1, psK_2, slN_1, slN_2, slM_1, slM_2, slM_3, slL_1, slL_2, slL_3, slK_1, slK_2, slK_3, cnM_1, cnL_1, cnL_2, cnL_3, cnJ_1, cnJ_2, cnI_1, cnI_2, cnK_1, cnK_2, cnK_3, gD_1, gD_2, io0K_1, gI_1, gI_2, gNw_1, isB_str_non, isB_str_bl, isB_str_int, isB_str_str, isB_str_tup, isB_str_lst, isB_str_dk, isB_list_non, isB_list_bl, isB_list_int, isB_list_str, isB_list_tup, isB_list_lst, isB_list_dk, isB_tuple_non, isB_tuple_bl, isB_tuple_int, isB_tuple_str, isB_tuple_tup, isB_tuple_lst, isB_tuple_dk, isB_int_non, isB_int_bl, isB_int_int, isB_int_str, isB_int_tup, isB_int_lst, isB_int_dk, isB_bool_non, isB_bool_bl, isB_bool_int, isB_bool_str, isB_bool_tup, isB_bool_lst, isB_bool_dk, isB_dict_non, isB_dict_bl, isB_dict_int, isB_dict_str, isB_dict_tup, isB_dict_lst, isB_dict_dk, bK_1, sK_1, fI0_ii, fI_ii, addD_ii, lenD_lst, lenD_tup, tupD_lst, tupD_tup, listD_lst, listD_tup, kindD_lst, kindD_tup, revLD_lst, rown_ow, rown_io, sl_fr, sl_bo, sl_io, entry_n, entry_c, frOk_n, frOk_f, frOk_b, apart_n, apart_v, apart_s, startE, List.length_cons, List.length_nil, List.replicate, List.cons_append, List.nil_append, Nat.reduceAdd, Nat.reduceSub, Nat.zero_add, List.getElem?_cons_zero, List.getElem?_cons_succ, List.set_cons_zero, List.set_cons_succ, if_true, if_false, reduceIte, decide_true, decide_false, Bool.not_true, Bool.not_false, Bool.and_self, Bool.true_and, Bool.and_true, Bool.false_eq_true, LB, Nat.reduceLeDiff, Nat.reduceLT, Nat.reduceBNe, Nat.reduceBEq, B_group_0, hc, hf, m])
  rw [List.take_length] at h1
  refine ⟨s3, s4, ?_⟩
  rw [h1]
  unfold ways
  rw [List.map_map]
  rfl
theorem group_inner {cs : List Str} {p : Str × List Str} (hp : p ∈ ks) {ss : List Str} (hs : ∀ x, x ∈ ss → x ∈ p.2) (A : Nat) (s1 s5 : Sl) : ∃ s5', forL (gN 5) (B_group_1 c) (ss.map .str) [.fr (stockD c sorts ks), s1, .fr (.int A), .fr (.str p.1), .fr (.tup (p.2.map .str)), s5] =
    some (.nx [.fr (stockD c sorts ks), s1, .fr (.int (A * ways ss p.2 : Nat)), .fr (.str p.1), .fr (.tup (p.2.map .str)), s5']) := by
  obtain ⟨δ', h1, ⟨s5', rfl⟩⟩ := forL_ix (enc := D.str) (g := gN 5) (b := B_group_1 c) (as := ss) (fun i δ => ∃ s5', δ = [.fr (stockD c sorts ks), s1, .fr (.int (A * pr ((ss.take i).map fun x => fac (p.2.count x)) : Nat)), .fr (.str p.1), .fr (.tup (p.2.map .str)), s5'])
    (δ := [.fr (stockD c sorts ks), s1, .fr (.int A), .fr (.str p.1), .fr (.tup (p.2.map .str)), s5]) ⟨s5, by simp [pr]⟩ (by
      rintro i x δ ha ⟨s5', rfl⟩
      have hx : x ∈ p.2 := hs x (List.mem_of_getElem? ha)
      have hc : cntD (.tup (p.2.map .str)) (.str x) = some (.int (p.2.count x : Nat)) := by
        rw [cntD_tup 0 (end_name hS hp hx).pl (strs_pl hS.so fun z hz => end_name hS hp hz), count_strs]
      have hcl : p.2.count x ≤ 6 := Nat.le_trans List.count_le_length (Nat.le_trans (hS.en p hp).hi (by decide))
      have hf := factorial_ok c (p.2.count x) (by omega)
      have m : mulOk ((A * pr ((ss.take i).map fun x => fac (p.2.count x)) : Nat) : Int) (fac (p.2.count x)) = true := mulOk_r (fac_le6 hcl)
      have e : ((A * pr ((ss.take (i + 1)).map fun x => fac (p.2.count x)) : Nat) : Int) = ((A * pr ((ss.take i).map fun x => fac (p.2.count x)) : Nat) : Int) * (fac (p.2.count x)) := by
        rw [take_snoc ha, List.map_append, List.map_singleton, pr_snoc, ← Nat.mul_assoc, Int.natCast_mul]
      refine ⟨_, [.fr (stockD c sorts ks), s1, .fr (.int (A * pr ((ss.take (i + 1)).map fun x => fac (p.2.count x)) : Nat)), .fr (.str p.1), .fr (.tup (p.2.map .str)), .fr (.str x)], rfl, ?_, _, rfl⟩
      rw [e]
      simp only [lift_e, liftK_s, mC_e, mVar_e, mOv_e, mVal_e, rd_v, rd_s, m1_e, m1K_o, m1L_s, m2_e, m2K_o, m2L_o, m2N_s, lstM_s, mn1_e, mn2_e, maNil_e, maCons_e, acK_o, mdNil_e, mdCons_e, dcK_o, rds_n, rds_c, consO_s, mA_e, mnA_e, aK_o, aL_s, fA1_e, fN1_e, mTup_e, mLst_e, mTest_e, mNot_e, mAnd_e, mOr_e, mAndV_e, mOrV_e, mNotV_e, mIfE_e, mChain_e, mNext_e, mSeq_e, mIf_e, mRet_e, mRetW_e, mRetO_e, mDrop_e, mAsg_e, mAsgO_e, gN_e, gs0_e, gsC_e, gT_e, gTL_e, mIt_e, mSeqOf_e, mTupOf_e, mSeqB_e, mFor_e, forL_n, forL_c, mCallP_e, mCallN_e, ownO_e, mCallI_e, mMakeP_e, ownL_e, mMut_e, appF_e, mPutI_e, ownI_e, mSetF_e, mpNone_e, mpSome_e, mSl_e, mCount_e, defG_e, defI_e, defN_e, varK_1, varK_2, ovK_1, ovK_2, ovK_3, ovK_4, valK_1, valK_2, valK_3, datK_1, datK_2, datK_3, datK_4, m1L_1, m1L_2, m1K_1, m1K_2, m1K_3, m2N_1, acL_1, acL_2, acL_3, dcL_1, dcL_2, dcL_3, consO_1, aL_1, aL_2, tupK_1, tupK_2, tupK_3, lstK_1, lstK_2, lstK_3, testK_1, testK_2, notK_1, notK_2, notK_3, andK_1, andK_2, andK_3, andK_4, orK_1, orK_2, orK_3, orK_4, andvK_1, andvK_2, andvK_3, orvK_1, orvK_2, orvK_3, notvK_1, notvK_2, ifeK_1, ifeK_2, ifeK_3, ifeK_4, chN_1, chN_2, chM_1, chL_1, chL_2, chL_3, chK_1, chK_2, chK_3, seqK_1, seqK_2, seqK_3, seqK_4, seqK_5, seqK_6, seqK_7, ifK_1, ifK_2, ifK_3, ifK_4, retK_1, retK_2, retK_3, retwK_1, retwK_2, retwK_3, retoK_1, dropK_1, dropK_2, dropK_3, nxK_1, nxK_2, asgK_1, asgK_2, asgK_3, asgoK_1, asgoK_2, asgoK_3, gscK_1, gscK_2, itK_1, itK_2, itK_3, sqK_1, sqK_2, tqK_1, tqK_2, sbK_1, sbK_2, sbK_3, forK_1, forK_2, forK_3, flL_1, flL_2, flL_3, flL_4, flL_5, flL_6, flL_7, flK_1, flK_2, cpL_1, cpL_2, cpK_1, cpK_2, cpK_3, ownK_1, ownK_2, ciM_1, ciM_2, ciL_1, ciK_1, ciK_2, ciK_3, ciH_1, ciH_2, mkN_1, mkL_1, mkL_2, mkK_1, mkK_2, mkK_3, olK_1, olK_2, muN_1, muN_2, muL_1, muL_2, muK_1, muK_2, muK_3, muH_1, muH_2, puN_1, puN_2, puM_1, puM_2, puL_1, puL_2, puH_1, puH_2, puK_1, puK_2, puK_3, oiK_1, oiK_2, sfL_1, sfL_2, sfK_1, sfK_2, sfK_3, psK_1, psK_2, slN_1, slN_2, slM_1, slM_2, slM_3, slL_1, slL_2, slL_3, slK_1, slK_2, slK_3, cnM_1, cnL_1, cnL_2, cnL_3, cnJ_1, cnJ_2, cnI_1, cnI_2, cnK_1, cnK_2, cnK_3, gD_1, gD_2, io0K_1, gI_1, gI_2, gNw_1, isB_str_non, isB_str_bl, isB_str_int, isB_str_str, isB_str_tup, isB_str_lst, isB_str_dk, isB_list_non, isB_list_bl, isB_list_int, isB_list_str, isB_list_tup, isB_list_lst, isB_list_dk, isB_tuple_non, isB_tuple_bl, isB_tuple_int, isB_tuple_str, isB_tuple_tup, isB_tuple_lst, isB_tuple_dk, isB_int_non, isB_int_bl, isB_int_int, isB_int_str, isB_int_tup, isB_int_lst, isB_int_dk, isB_bool_non, isB_bool_bl, isB_bool_int, isB_bool_str, isB_bool_tup, isB_bool_lst, isB_bool_dk, isB_dict_non, isB_dict_bl, isB_dict_int, isB_dict_str, isB_dict_tup, isB_dict_lst, isB_dict_dk, bK_1, sK_1, fI0_ii, fI_ii, addD_ii, lenD_lst, lenD_tup, tupD_lst, tupD_tup, listD_lst, listD_tup, kindD_lst, kindD_tup, revLD_lst, rown_ow, rown_io, sl_fr, sl_bo, sl_io, entry_n, entry_c, frOk_n, frOk_f, frOk_b, apart_n, apart_v, apart_s, startE, List.length_cons, List.length_nil, List.replicate, List.cons_append, List.nil_append, Nat.reduceAdd, Nat.reduceSub, Nat.zero_add, List.getElem?_cons_zero, List.getElem?_cons_succ, List.set_cons_zero, List.set_cons_succ, if_true, if_false, reduceIte, decide_true, decide_false, Bool.not_true, Bool.not_false, Bool.and_self, Bool.true_and, Bool.and_true, Bool.false_eq_true, LB, Nat.reduceLeDiff, Nat.reduceLT, Nat.reduceBNe, Nat.reduceBEq, B_group_1, hc, hf, m])
  rw [List.take_length] at h1
  exact ⟨s5', h1⟩
theorem group_loop2 {cs : List Str} (hC : CornersOk ks cs) (A : Nat) (s3 s4 s5 : Sl) : ∃ s3' s4' s5', forL (gN 3) (B_group_2 c) (cs.map .str) [.fr (stockD c sorts ks), .bo (.lst (cs.map .str)), .fr (.int A), s3, s4, s5] =
    some (.nx [.fr (stockD c sorts ks), .bo (.lst (cs.map .str)), .fr (.int (A * pr (cs.map fun n => rk [] (ownOf ks n)) : Nat)), s3', s4', s5']) := by
  obtain ⟨δ', h1, ⟨s3', s4', s5', rfl⟩⟩ := forL_ix (enc := D.str) (g := gN 3) (b := B_group_2 c) (as := cs) (fun i δ => ∃ s3' s4' s5', δ = [.fr (stockD c sorts ks), .bo (.lst (cs.map .str)), .fr (.int (A * pr ((cs.take i).map fun n => rk [] (ownOf ks n)) : Nat)), s3', s4', s5'])
    (δ := [.fr (stockD c sorts ks), .bo (.lst (cs.map .str)), .fr (.int A), s3, s4, s5]) ⟨s3, s4, s5, by simp [pr]⟩ (by
      rintro i n δ ha ⟨s3', s4', s5', rfl⟩
      obtain ⟨p, hp, rfl⟩ := List.mem_map.mp (hC.mem n (List.mem_of_getElem? ha))
      have ho := ends_of_ok c hS hp
      obtain ⟨ss, hs1, hs2, hs3⟩ := sortSet_strs p.2 (by have := (hS.en p hp).hi; omega)
      obtain ⟨s6, hi⟩ := group_inner c hS (cs := cs) hp (fun x hx => (hs3 x).mp hx) (A * pr ((cs.take i).map fun n => rk [] (ownOf ks n))) (.bo (.lst (cs.map .str))) s5'
      have e : A * pr ((cs.take (i + 1)).map fun n => rk [] (ownOf ks n)) = A * pr ((cs.take i).map fun n => rk [] (ownOf ks n)) * ways ss p.2 := by
        rw [take_snoc ha, List.map_append, List.map_singleton, pr_snoc, own_self hS.nd hp, ways_eq hs2 (fun x hx => (hs3 x).mpr hx), Nat.mul_assoc]
      refine ⟨_, [.fr (stockD c sorts ks), .bo (.lst (cs.map .str)), .fr (.int (A * pr ((cs.take (i + 1)).map fun n => rk [] (ownOf ks n)) : Nat)), .fr (.str p.1), .fr (.tup (p.2.map .str)), s6], rfl, ?_, _, _, _, rfl⟩
      rw [e]
      simp only [lift_e, liftK_s, mC_e, mVar_e, mOv_e, mVal_e, rd_v, rd_s, m1_e, m1K_o, m1L_s, m2_e, m2K_o, m2L_o, m2N_s, lstM_s, mn1_e, mn2_e, maNil_e, maCons_e, acK_o, mdNil_e, mdCons_e, dcK_o, rds_n, rds_c, consO_s, mA_e, mnA_e, aK_o, aL_s, fA1_e, fN1_e, mTup_e, mLst_e, mTest_e, mNot_e, mAnd_e, mOr_e, mAndV_e, mOrV_e, mNotV_e, mIfE_e, mChain_e, mNext_e, mSeq_e, mIf_e, mRet_e, mRetW_e, mRetO_e, mDrop_e, mAsg_e, mAsgO_e, gN_e, gs0_e, gsC_e, gT_e, gTL_e, mIt_e, mSeqOf_e, mTupOf_e, mSeqB_e, mFor_e, forL_n, forL_c, mCallP_e, mCallN_e, ownO_e, mCallI_e, mMakeP_e, ownL_e, mMut_e, appF_e, mPutI_e, ownI_e, mSetF_e, mpNone_e, mpSome_e, mSl_e, mCount_e, defG_e, defI_e, defN_e, varK_1, varK_2, ovK_1, ovK_2, ovK_3, ovK_4, valK_1, valK_2, valK_3, datK_1, datK_2, datK_3, datK_4, m1L_1, m1L_2, m1K_1, m1K_2, m1K_3, m2N_1, acL_1, acL_2, acL_3, dcL_1, dcL_2, dcL_3, consO_1, aL_1, aL_2, tupK_1, tupK_2, tupK_3, lstK_1, lstK_2, lstK_3, testK_1, testK_2, notK_1, notK_2, notK_3, andK_1, andK_2, andK_3, andK_4, orK_1, orK_2, orK_3, orK_4, andvK_1, andvK_2, andvK_3, orvK_1, orvK_2, orvK_3, notvK_1, notvK_2, ifeK_1, ifeK_2, ifeK_3, ifeK_4, chN_1, chN_2, chM_1, chL_1, chL_2, chL_3, chK_1, chK_2, chK_3, seqK_1, seqK_2, seqK_3, seqK_4, seqK_5, seqK_6, seqK_7, ifK_1, ifK_2, ifK_3, ifK_4, retK_1, retK_2, retK_3, retwK_1, retwK_2, retwK_3, retoK_1, dropK_1, dropK_2, dropK_3, nxK_1, nxK_2, asgK_1, asgK_2, asgK_3, asgoK_1, asgoK_2, asgoK_3, gscK_1, gscK_2, itK_1, itK_2, itK_3, sqK_1, sqK_2, tqK_1, tqK_2, sbK_1, sbK_2, sbK_3, forK_1, forK_2, forK_3, flL_1, flL_2, flL_3, flL_4, flL_5, flL_6, flL_7, flK_1, flK_2, cpL_1, cpL_2, cpK_1, cpK_2, cpK_3, ownK_1, ownK_2, ciM_1, ciM_2, ciL_1, ciK_1, ciK_2, ciK_3, ciH_1, ciH_2, mkN_1, mkL_1, mkL_2, mkK_1, mkK_2, mkK_3, olK_1, olK_2, muN_1, muN_2, muL_1, muL_2, muK_1, muK_2, muK_3, muH_1, muH_2, puN_1, puN_2, puM_1, puM_2, puL_1, puL_2, puH_1, puH_2, puK_1, puK_2, puK_3, oiK_1, oiK_2, sfL_1, sfL_2, sfK_1, sfK_2, sfK_3, psK_1, psK_2, slN_1, slN_2, slM_1, slM_2, slM_3, slL_1, slL_2, slL_3, slK_1, slK_2, slK_3, cnM_1, cnL_1, cnL_2, cnL_3, cnJ_1, cnJ_2, cnI_1, cnI_2, cnK_1, cnK_2, cnK_3, gD_1, gD_2, io0K_1, gI_1, gI_2, gNw_1, isB_str_non, isB_str_bl, isB_str_int, isB_str_str, isB_str_tup, isB_str_lst, isB_str_dk, isB_list_non, isB_list_bl, isB_list_int, isB_list_str, isB_list_tup, isB_list_lst, isB_list_dk, isB_tuple_non, isB_tuple_bl, isB_tuple_int, isB_tuple_str, isB_tuple_tup, isB_tuple_lst, isB_tuple_dk, isB_int_non, isB_int_bl, isB_int_int, isB_int_str, isB_int_tup, isB_int_lst, isB_int_dk, isB_bool_non, isB_bool_bl, isB_bool_int, isB_bool_str, isB_bool_tup, isB_bool_lst, isB_bool_dk, isB_dict_non, isB_dict_bl, isB_dict_int, isB_dict_str, isB_dict_tup, isB_dict_lst, isB_dict_dk, bK_1, sK_1, fI0_ii, fI_ii, addD_ii, lenD_lst, lenD_tup, tupD_lst, tupD_tup, listD_lst, listD_tup, kindD_lst, kindD_tup, revLD_lst, rown_ow, rown_io, sl_fr, sl_bo, sl_io, entry_n, entry_c, frOk_n, frOk_f, frOk_b, apart_n, apart_v, apart_s, startE, List.length_cons, List.length_nil, List.replicate, List.cons_append, List.nil_append, Nat.reduceAdd, Nat.reduceSub, Nat.zero_add, List.getElem?_cons_zero, List.getElem?_cons_succ, List.set_cons_zero, List.set_cons_succ, if_true, if_false, reduceIte, decide_true, decide_false, Bool.not_true, Bool.not_false, Bool.and_self, Bool.true_and, Bool.and_true, Bool.false_eq_true, LB, Nat.reduceLeDiff, Nat.reduceLT, Nat.reduceBNe, Nat.reduceBEq, B_group_2, ho, hs1, hi])
  rw [List.take_length] at h1
  exact ⟨s3', s4', s5', h1⟩
theorem group_ok {cs : List Str} (hC : CornersOk ks cs) : g_group c [stockD c sorts ks, .lst (cs.map .str)] = some (.int (groupN ks cs)) := by
  obtain ⟨s3, s4, h1⟩ := group_loop0 c hS hC
  obtain ⟨s3', s4', s5', h2⟩ := group_loop2 c hS hC (ways (ks.map fun p => p.1) cs) s3 s4 .un
  have h3 := sure_corners_ok c hS hC
  have h4 := kinds_of c hS
  have h5 : kindsD ks = .lst (ks.map kindD) := rfl
  rw [h5] at h4
  simp only [lift_e, liftK_s, mC_e, mVar_e, mOv_e, mVal_e, rd_v, rd_s, m1_e, m1K_o, m1L_s, m2_e, m2K_o, m2L_o, m2N_s, lstM_s, mn1_e, mn2_e, maNil_e, maCons_e, acK_o, mdNil_e, mdCons_e, dcK_o, rds_n, rds_c, consO_s, mA_e, mnA_e, aK_o, aL_s, fA1_e, fN1_e, mTup_e, mLst_e, mTest_e, mNot_e, mAnd_e, mOr_e, mAndV_e, mOrV_e, mNotV_e, mIfE_e, mChain_e, mNext_e, mSeq_e, mIf_e, mRet_e, mRetW_e, mRetO_e, mDrop_e, mAsg_e, mAsgO_e, gN_e, gs0_e, gsC_e, gT_e, gTL_e, mIt_e, mSeqOf_e, mTupOf_e, mSeqB_e, mFor_e, forL_n, forL_c, mCallP_e, mCallN_e, ownO_e, mCallI_e, mMakeP_e, ownL_e, mMut_e, appF_e, mPutI_e, ownI_e, mSetF_e, mpNone_e, mpSome_e, mSl_e, mCount_e, defG_e, defI_e, defN_e, varK_1, varK_2, ovK_1, ovK_2, ovK_3, ovK_4, valK_1, valK_2, valK_3, datK_1, datK_2, datK_3, datK_4, m1L_1, m1L_2, m1K_1, m1K_2, m1K_3, m2N_1, acL_1, acL_2, acL_3, dcL_1, dcL_2, dcL_3, consO_1, aL_1, aL_2, tupK_1, tupK_2, tupK_3, lstK_1, lstK_2, lstK_3, testK_1, testK_2, notK_1, notK_2, notK_3, andK_1, andK_2, andK_3, andK_4, orK_1, orK_2, orK_3, orK_4, andvK_1, andvK_2, andvK_3, orvK_1, orvK_2, orvK_3, notvK_1, notvK_2, ifeK_1, ifeK_2, ifeK_3, ifeK_4, chN_1, chN_2, chM_1, chL_1, chL_2, chL_3, chK_1, chK_2, chK_3, seqK_1, seqK_2, seqK_3, seqK_4, seqK_5, seqK_6, seqK_7, ifK_1, ifK_2, ifK_3, ifK_4, retK_1, retK_2, retK_3, retwK_1, retwK_2, retwK_3, retoK_1, dropK_1, dropK_2, dropK_3, nxK_1, nxK_2, asgK_1, asgK_2, asgK_3, asgoK_1, asgoK_2, asgoK_3, gscK_1, gscK_2, itK_1, itK_2, itK_3, sqK_1, sqK_2, tqK_1, tqK_2, sbK_1, sbK_2, sbK_3, forK_1, forK_2, forK_3, flL_1, flL_2, flL_3, flL_4, flL_5, flL_6, flL_7, flK_1, flK_2, cpL_1, cpL_2, cpK_1, cpK_2, cpK_3, ownK_1, ownK_2, ciM_1, ciM_2, ciL_1, ciK_1, ciK_2, ciK_3, ciH_1, ciH_2, mkN_1, mkL_1, mkL_2, mkK_1, mkK_2, mkK_3, olK_1, olK_2, muN_1, muN_2, muL_1, muL_2, muK_1, muK_2, muK_3, muH_1, muH_2, puN_1, puN_2, puM_1, puM_2, puL_1, puL_2, puH_1, puH_2, puK_1, puK_2, puK_3, oiK_1, oiK_2, sfL_1, sfL_2, sfK_1, sfK_2, sfK_3, psK_1, psK_2, slN_1, slN_2, slM_1, slM_2, slM_3, slL_1, slL_2, slL_3, slK_1, slK_2, slK_3, cnM_1, cnL_1, cnL_2, cnL_3, cnJ_1, cnJ_2, cnI_1, cnI_2, cnK_1, cnK_2, cnK_3, gD_1, gD_2, io0K_1, gI_1, gI_2, gNw_1, isB_str_non, isB_str_bl, isB_str_int, isB_str_str, isB_str_tup, isB_str_lst, isB_str_dk, isB_list_non, isB_list_bl, isB_list_int, isB_list_str, isB_list_tup, isB_list_lst, isB_list_dk, isB_tuple_non, isB_tuple_bl, isB_tuple_int, isB_tuple_str, isB_tuple_tup, isB_tuple_lst, isB_tuple_dk, isB_int_non, isB_int_bl, isB_int_int, isB_int_str, isB_int_tup, isB_int_lst, isB_int_dk, isB_bool_non, isB_bool_bl, isB_bool_int, isB_bool_str, isB_bool_tup, isB_bool_lst, isB_bool_dk, isB_dict_non, isB_dict_bl, isB_dict_int, isB_dict_str, isB_dict_tup, isB_dict_lst, isB_dict_dk, bK_1, sK_1, fI0_ii, fI_ii, addD_ii, lenD_lst, lenD_tup, tupD_lst, tupD_tup, listD_lst, listD_tup, kindD_lst, kindD_tup, revLD_lst, rown_ow, rown_io, sl_fr, sl_bo, sl_io, entry_n, entry_c, frOk_n, frOk_f, frOk_b, apart_n, apart_v, apart_s, startE, List.length_cons, List.length_nil, List.replicate, List.cons_append, List.nil_append, Nat.reduceAdd, Nat.reduceSub, Nat.zero_add, List.getElem?_cons_zero, List.getElem?_cons_succ, List.set_cons_zero, List.set_cons_succ, if_true, if_false, reduceIte, decide_true, decide_false, Bool.not_true, Bool.not_false, Bool.and_self, Bool.true_and, Bool.and_true, Bool.false_eq_true, LB, Nat.reduceLeDiff, Nat.reduceLT, Nat.reduceBNe, Nat.reduceBEq, g_group, m_group, h1, h2, h3, h4, groupN]
end
end G

set_option Elab.async false
set_option linter.all false
set_option maxRecDepth 100000
set_option maxHeartbeats 1000000
/-! MGb: what the laws' helpers draw: the state, corners; lists cut, numbered. -/
namespace G
open PySem L2 DL PG
theorem rk_snoc {α : Type} [DecidableEq α] (x : α) : ∀ (xs pre : List α), rk pre (xs ++ [x]) = rk pre xs * (1 + (pre ++ xs).count x)
  | [], pre => by simp [rk]
  | y :: xs, pre => by
    rw [List.cons_append, rk, rk, rk_snoc x xs (pre ++ [y]), Nat.mul_assoc, List.append_assoc]
    rfl
theorem cut_to {xs : List D} {i : Nat} : cutD xs none (some (i : Int)) = xs.take i := by
  unfold cutD
  rw [HT.sIx_none, HT.sIx_nat, List.drop_zero, Nat.sub_zero]
  by_cases h : i ≤ xs.length
  · rw [Nat.min_eq_left h]
  · rw [Nat.min_eq_right (by omega), List.take_length, List.take_of_length_le (by omega)]
theorem slD_to (xs : List Str) (i : Nat) : slD (.lst (xs.map .str)) none (some (i : Int)) = some (.lst ((xs.take i).map .str)) := by
  simp only [slD, cut_to, List.map_take]
theorem slD_toT (xs : List Str) (i : Nat) : slD (.tup (xs.map .str)) none (some (i : Int)) = some (.tup ((xs.take i).map .str)) := by
  simp only [slD, cut_to, List.map_take]
theorem enum_map {α : Type} (enc : α → D) (xs : List α) : enumD (xs.map enc) = xs.zipIdx.map fun p => .tup [.int (p.2 : Nat), enc p.1] := by
  unfold enumD
  rw [List.zipIdx_map, List.map_map]
  rfl
theorem zip_at {α : Type} {xs : List α} {i : Nat} {a : α × Nat} (h : xs.zipIdx[i]? = some a) : xs[i]? = some a.1 ∧ a.2 = i := by
  rw [List.getElem?_zipIdx] at h
  cases e : xs[i]? with
  | none => rw [e] at h; cases h
  | some x => rw [e] at h; cases h; exact ⟨rfl, by simp⟩
theorem state_ok (c : Cs) (i : Int) : ∃ a b, g__law_state c [.int i] = some (rs a b 0) := by
  have h : modOk i 1000000007 = true := by simp [modOk]
  have ha : absD (.int i) = some (.int (if i < 0 then -i else i)) := rfl
  refine ⟨(if i < 0 then -i else i), i % 1000000007, ?_⟩
  simp only [lift_e, liftK_s, mC_e, mVar_e, mOv_e, mVal_e, rd_v, rd_s, m1_e, m1K_o, m1L_s, m2_e, m2K_o, m2L_o, m2N_s, lstM_s, mn1_e, mn2_e, maNil_e, maCons_e, acK_o, mdNil_e, mdCons_e, dcK_o, rds_n, rds_c, consO_s, mA_e, mnA_e, aK_o, aL_s, fA1_e, fN1_e, mTup_e, mLst_e, mTest_e, mNot_e, mAnd_e, mOr_e, mAndV_e, mOrV_e, mNotV_e, mIfE_e, mChain_e, mNext_e, mSeq_e, mIf_e, mRet_e, mRetW_e, mRetO_e, mDrop_e, mAsg_e, mAsgO_e, gN_e, gs0_e, gsC_e, gT_e, gTL_e, mIt_e, mSeqOf_e, mTupOf_e, mSeqB_e, mFor_e, forL_n, forL_c, mCallP_e, mCallN_e, ownO_e, mCallI_e, mMakeP_e, ownL_e, mMut_e, appF_e, mPutI_e, ownI_e, mSetF_e, mpNone_e, mpSome_e, mSl_e, mCount_e, defG_e, defI_e, defN_e, varK_1, varK_2, ovK_1, ovK_2, ovK_3, ovK_4, valK_1, valK_2, valK_3, datK_1, datK_2, datK_3, datK_4, m1L_1, m1L_2, m1K_1, m1K_2, m1K_3, m2N_1, acL_1, acL_2, acL_3, dcL_1, dcL_2, dcL_3, consO_1, aL_1, aL_2, tupK_1, tupK_2, tupK_3, lstK_1, lstK_2, lstK_3, testK_1, testK_2, notK_1, notK_2, notK_3, andK_1, andK_2, andK_3, andK_4, orK_1, orK_2, orK_3, orK_4, andvK_1, andvK_2, andvK_3, orvK_1, orvK_2, orvK_3, notvK_1, notvK_2, ifeK_1, ifeK_2, ifeK_3, ifeK_4, chN_1, chN_2, chM_1, chL_1, chL_2, chL_3, chK_1, chK_2, chK_3, seqK_1, seqK_2, seqK_3, seqK_4, seqK_5, seqK_6, seqK_7, ifK_1, ifK_2, ifK_3, ifK_4, retK_1, retK_2, retK_3, retwK_1, retwK_2, retwK_3, retoK_1, dropK_1, dropK_2, dropK_3, nxK_1, nxK_2, asgK_1, asgK_2, asgK_3, asgoK_1, asgoK_2, asgoK_3, gscK_1, gscK_2, itK_1, itK_2, itK_3, sqK_1, sqK_2, tqK_1, tqK_2, sbK_1, sbK_2, sbK_3, forK_1, forK_2, forK_3, flL_1, flL_2, flL_3, flL_4, flL_5, flL_6, flL_7, flK_1, flK_2, cpL_1, cpL_2, cpK_1, cpK_2, cpK_3, ownK_1, ownK_2, ciM_1, ciM_2, ciL_1, ciK_1, ciK_2, ciK_3, ciH_1, ciH_2, mkN_1, mkL_1, mkL_2, mkK_1, mkK_2, mkK_3, olK_1, olK_2, muN_1, muN_2, muL_1, muL_2, muK_1, muK_2, muK_3, muH_1, muH_2, puN_1, puN_2, puM_1, puM_2, puL_1, puL_2, puH_1, puH_2, puK_1, puK_2, puK_3, oiK_1, oiK_2, sfL_1, sfL_2, sfK_1, sfK_2, sfK_3, psK_1, psK_2, slN_1, slN_2, slM_1, slM_2, slM_3, slL_1, slL_2, slL_3, slK_1, slK_2, slK_3, cnM_1, cnL_1, cnL_2, cnL_3, cnJ_1, cnJ_2, cnI_1, cnI_2, cnK_1, cnK_2, cnK_3, gD_1, gD_2, io0K_1, gI_1, gI_2, gNw_1, isB_str_non, isB_str_bl, isB_str_int, isB_str_str, isB_str_tup, isB_str_lst, isB_str_dk, isB_list_non, isB_list_bl, isB_list_int, isB_list_str, isB_list_tup, isB_list_lst, isB_list_dk, isB_tuple_non, isB_tuple_bl, isB_tuple_int, isB_tuple_str, isB_tuple_tup, isB_tuple_lst, isB_tuple_dk, isB_int_non, isB_int_bl, isB_int_int, isB_int_str, isB_int_tup, isB_int_lst, isB_int_dk, isB_bool_non, isB_bool_bl, isB_bool_int, isB_bool_str, isB_bool_tup, isB_bool_lst, isB_bool_dk, isB_dict_non, isB_dict_bl, isB_dict_int, isB_dict_str, isB_dict_tup, isB_dict_lst, isB_dict_dk, bK_1, sK_1, fI0_ii, fI_ii, addD_ii, lenD_lst, lenD_tup, tupD_lst, tupD_tup, listD_lst, listD_tup, kindD_lst, kindD_tup, revLD_lst, rown_ow, rown_io, sl_fr, sl_bo, sl_io, entry_n, entry_c, frOk_n, frOk_f, frOk_b, apart_n, apart_v, apart_s, startE, List.length_cons, List.length_nil, List.replicate, List.cons_append, List.nil_append, Nat.reduceAdd, Nat.reduceSub, Nat.zero_add, List.getElem?_cons_zero, List.getElem?_cons_succ, List.set_cons_zero, List.set_cons_succ, if_true, if_false, reduceIte, decide_true, decide_false, Bool.not_true, Bool.not_false, Bool.and_self, Bool.true_and, Bool.and_true, Bool.false_eq_true, LB, Nat.reduceLeDiff, Nat.reduceLT, Nat.reduceBNe, Nat.reduceBEq, g__law_state, m__law_state, ha, h, rs]
/-- the cells that are gone through -/
theorem cells_cut (ns : List Int) (k : Nat) (h : ns.length ≤ 63) (tl : List Int) (htl : tl.length ≤ 10) : addD (.lst (cutD (ns.map D.int) none (some (k : Int)))) (.lst (tl.map .int)) = some (.lst ((ns.take k ++ tl).map .int)) := by
  rw [cut_to]
  have hl : (List.take k (ns.map D.int)).length + (tl.map D.int).length ≤ 1000000 := by
    rw [List.length_take, List.length_map, List.length_map]; omega
  simp only [addD, fI0, fStrCat, fCatL, fCatT, Option.or, hl, if_true, List.map_append, List.map_take]
end G

set_option Elab.async false
set_option linter.all false
set_option maxRecDepth 100000
set_option maxHeartbeats 400000
namespace G
open PySem L2 DL
/-! ### the text by places -/
def top (i : Nat) : Stmt := PySem.Challenge.pw_endsum_k26_groups.main.body.getD i (.Pass ⟨0, 0, 0, 0⟩)
abbrev s_is_name : Stmt := top 6
abbrev s_is_sort_row : Stmt := top 7
abbrev s_are_sorts : Stmt := top 8
abbrev s_is_kind_row : Stmt := top 9
abbrev s_are_kinds : Stmt := top 10
abbrev s_Stock___init__ : Stmt := inClass (top 11) 0
abbrev s_is_sort : Stmt := top 12
abbrev s_is_kind : Stmt := top 13
abbrev s_ends_of : Stmt := top 14
abbrev s_are_corners : Stmt := top 17
abbrev s_is_leg : Stmt := top 18
abbrev s_are_legs : Stmt := top 19
abbrev s_sure_corners : Stmt := top 20
abbrev s_factorial : Stmt := top 22
abbrev s_group : Stmt := top 24
abbrev s__law_state : Stmt := top 27
abbrev s__law_pick : Stmt := top 28
abbrev s__law_words : Stmt := top 29
abbrev s__law_stock_rows : Stmt := top 30
abbrev s__law_changes : Stmt := top 31
abbrev s_law : Stmt := top 32
structure Txt (K : Fg) (mg : Str → Option Value) (c : Cs) : Prop where
  b_abs : mg "abs" = none
  b_all : mg "all" = none
  b_bool : mg "bool" = none
  b_dict : mg "dict" = none
  b_enumerate : mg "enumerate" = none
  b_isinstance : mg "isinstance" = none
  b_len : mg "len" = none
  b_list : mg "list" = none
  b_range : mg "range" = none
  b_set : mg "set" = none
  b_sorted : mg "sorted" = none
  b_str : mg "str" = none
  b_tuple : mg "tuple" = none
  c_LETTERS : ∃ t, mg "LETTERS" = some (.str "abcdefghijklmnopqrstuvwxyz" t)
  c_MOST : ∃ t, mg "MOST" = some (.int 6 t)
  f_stock_kinds : ∀ C ∈ [c.stock], ClsOk K C "kinds"
  f_stock_sorts : ∀ C ∈ [c.stock], ClsOk K C "sorts"
  k_stock_kinds : ClsOk K c.stock "kinds"
  k_stock_sorts : ClsOk K c.stock "sorts"
/-! ### what each def computes -/
abbrev N__law_changes : List Str := ["_law_kinds", "_law_corners", "_law_found", "_law_k", "_law_name", "_law_own", "_law_at", "_law_sort"]
def B__law_changes_0 (c : Cs) : Ms := mAsg (gN 2) (m2 (fI mulOk fun i j => .int (i * j)) (mOv 2) (mVal (m2 addD (mVal (mC (.int 1))) (mVal (mCount (mVal (mSl slD (mOv 5) mpNone (mpSome (mVar 6)))) (mOv 7))))))
def B__law_changes_1 (c : Cs) : Ms := mSeq (mAsg (gN 5) (m2 dgetD (mVal (mA (fA1 dictD) (maCons (mOv 0) maNil))) (mOv 4))) (mSeq (mAsg (gN 2) (m2 (fI mulOk fun i j => .int (i * j)) (mOv 2) (mVal (m2 addD (mVal (mC (.int 1))) (mVal (mCount (mVal (mSl slD (mOv 1) mpNone (mpSome (mVar 3)))) (mOv 4))))))) (mFor (mIt enumF (mdCons (mVar 5) mdNil)) (gT (gsC (gN 6) (gsC (gN 7) gs0))) (B__law_changes_0 c)))
def m__law_changes (c : Cs) : Ms := mSeq (mAsg (gN 2) (mC (.int 1))) (mSeq (mFor (mIt enumF (mdCons (mVar 1) mdNil)) (gT (gsC (gN 3) (gsC (gN 4) gs0))) (B__law_changes_1 c)) (mRet (mVar 2)))
def g__law_changes (c : Cs) : List D → Option D := defG 8 [.fr, .fr] (m__law_changes c)
abbrev N_law : List Str := ["_law_script", "_law_cell", "_law_state_here", "_law_sorts", "_law_kinds", "_law_stock", "_law_corners", "_law_due", "_law_some", "_law_handed", "_law_found", "_law_k"]
def E_law_0 (c : Cs) : M D := m2 ixD (mVal (m2 ixD (mOv 4) (mVal (mCallI 2 [.fr] (g__law_pick c) (maCons (mVal (mA (fA1 lenD) (maCons (mOv 4) maNil))) maNil))))) (mVal (mC (.int 0)))
def L_law_0 (c : Cs) : M D := mLc (mIt rg1 (mdCons (mCallI 2 [.fr] (g__law_pick c) (maCons (mVal (mC (.int 7))) maNil)) mdNil)) (gN 11) mYes (E_law_0 c) [11]
def B_law_0 (c : Cs) : Ms := mSeq (mAsgO 9 (mnA (fN1 listD) (maCons (mOv 8) maNil))) (mSeq (mAsg (gN 10) (mCallP [.fr, .bo] (g_group c) (maCons (mVal (mVar 5)) (maCons (mOv 9) maNil)))) (mIf (mOr (mTest (m2 neD (mOv 10) (mOv 7))) (mOr (mTest (m1 (isB "bool") (mOv 10))) (mTest (m2 neD (mOv 9) (mOv 8))))) (mRet (mC (.bl false))) (mNext)))
def B_law_1 (c : Cs) : Ms := mSeq (mAsgO 2 (mCallN [.fr] (g__law_state c) (maCons (mVal (mVar 1)) maNil))) (mSeq (mAsg (gT (gsC (gN 3) (gsC (gN 4) gs0))) (mCallI 2 [.fr] (g__law_stock_rows c) (maCons (mVal (mC (.int 5))) maNil))) (mSeq (mAsgO 5 (mMakeP c.stock [.bo, .bo] (g_Stock___init__ c) (maCons (mOv 3) (maCons (mOv 4) maNil)))) (mSeq (mAsgO 6 (L_law_0 c)) (mSeq (mAsg (gN 7) (mCallP [.fr, .fr] (g__law_changes c) (maCons (mVal (mVar 4)) (maCons (mVal (mVar 6)) maNil)))) (mSeq (mFor (mSeqOf (mLst (mdCons (mVar 6) (mdCons (mn1 revLD (mOv 6)) (mdCons (mnA (fN1 sortF) (maCons (mOv 6) maNil)) mdNil))))) (gN 8) (B_law_0 c)) (mIf (mTest (m2 neD (mVal (mCallP [.fr, .bo] (g_group c) (maCons (mVal (mVar 5)) (maCons (mVal (mLst mdNil)) maNil)))) (mVal (mC (.int 1))))) (mRet (mC (.bl false))) (mNext)))))))
def m_law (c : Cs) : Ms := mSeq (mFor (mSeqOf (m2 addD (mVal (mScSl 0 none (some 8))) (mVal (mLst (mdCons (mC (.int 0)) (mdCons (mC (.int 1)) mdNil)))))) (gN 1) (B_law_1 c)) (mRet (mC (.bl true)))
/-! ### it does -/
section
variable {P : Program} {w : World} {K : Fg} {mg : Str → Option Value} {base : Heap} {c : Cs}
theorem sc_is_name : FnScope N_is_name ["thing"] (defScope s_is_name) := ⟨rfl, rfl, rfl, by decide +kernel, rfl, by decide +kernel, by decide +kernel⟩
theorem ok_is_name {f : Addr} {fd : FuncData} (F : Fun K "is_name" "is_name" s_is_name f fd) (T : Txt K mg c) : FnOk P w K mg base CX0 1 f fd ["thing"] (SpP K [.fr] (g_is_name c)) :=
  fn_g (N := N_is_name) (k := 0) F sc_is_name rfl fun cdv A outer s H E hr => ⟨_, b_cons (s_if (t_w (w_or (t_not (t_val (x_isi (K := K) T.b_isinstance T.b_str (by decide +kernel) (o_var 0)))) (w_or1 (t_not (t_leLe (o_e (x_int)) (o_e (x_len (K := K) T.b_len (o_var 0))) (o_e (x_int))))))) (b_one (s_ret (x_bl))) (b_nil)) (b_one (s_ret (x_all (K := K) rfl T.b_all (o_e (x_n (n_lc (own := [("letter", 1)]) rfl sc_is_name.nd (i_str (x_var 0)) (blkOk_by (own := [("letter", 1)]) (N := N_is_name) (sc := defScope s_is_name) (by decide +kernel)) (fun _ _ _ _ _ => (g_name (vs := [1]) 1 sc_is_name.nd)) (fun _ _ _ _ _ => ts_nil) (fun _ _ _ _ _ => x_inS (o_var 1) (o_e (x_globS T.c_LETTERS.choose_spec)))))))))⟩
theorem sc_is_sort_row : FnScope N_is_sort_row ["thing"] (defScope s_is_sort_row) := ⟨rfl, rfl, rfl, by decide +kernel, rfl, by decide +kernel, by decide +kernel⟩
theorem ok_is_sort_row {f : Addr} {fd : FuncData} (F : Fun K "is_sort_row" "is_sort_row" s_is_sort_row f fd) (T : Txt K mg c) (h_is_name : CallP P w K mg base "is_name" 1 ["thing"] [.fr] (g_is_name c)) : FnOk P w K mg base CX0 2 f fd ["thing"] (SpP K [.fr] (g_is_sort_row c)) :=
  fn_g (N := N_is_sort_row) (k := 1) F sc_is_sort_row rfl fun cdv A outer s H E hr => ⟨_, b_one (s_ret (x_and (x_isi (K := K) T.b_isinstance T.b_tuple (by decide +kernel) (o_var 0)) (x_and (x_eq (K := K) hr (o_e (x_len (K := K) T.b_len (o_var 0))) (o_e (x_int))) (x_and (x_cq (K := K) h_is_name hr (a_cons (o_e (x_ix (K := K) (o_var 0) (o_e (x_int)))) a_nil)) (x_one (x_cq (K := K) h_is_name hr (a_cons (o_e (x_ix (K := K) (o_var 0) (o_e (x_int)))) a_nil)))))))⟩
theorem sc_are_sorts : FnScope N_are_sorts ["thing"] (defScope s_are_sorts) := ⟨rfl, rfl, rfl, by decide +kernel, rfl, by decide +kernel, by decide +kernel⟩
theorem ok_are_sorts {f : Addr} {fd : FuncData} (F : Fun K "are_sorts" "are_sorts" s_are_sorts f fd) (T : Txt K mg c) (h_is_sort_row : CallP P w K mg base "is_sort_row" 2 ["thing"] [.fr] (g_is_sort_row c)) : FnOk P w K mg base CX0 3 f fd ["thing"] (SpP K [.bo] (g_are_sorts c)) :=
  fn_g (N := N_are_sorts) (k := 2) F sc_are_sorts rfl fun cdv A outer s H E hr => ⟨_, b_cons (s_if (t_w (w_or (t_not (t_val (x_isi (K := K) T.b_isinstance T.b_list (by decide +kernel) (o_var 0)))) (w_or (t_not (t_leLe (o_e (x_int)) (o_e (x_len (K := K) T.b_len (o_var 0))) (o_e (x_int)))) (w_or1 (t_not (t_val (x_all (K := K) rfl T.b_all (o_e (x_n (n_lc (own := [("row", 1)]) rfl sc_are_sorts.nd (i_listB (K := K) (x_var 0)) (blkOk_by (own := [("row", 1)]) (N := N_are_sorts) (sc := defScope s_are_sorts) (by decide +kernel)) (fun _ _ _ _ _ => (g_name (vs := [1]) 1 sc_are_sorts.nd)) (fun _ _ _ _ _ => ts_nil) (fun _ _ _ _ _ => x_cq (K := K) h_is_sort_row hr (a_cons (o_e (x_var 1)) a_nil)))))))))))) (b_one (s_ret (x_bl))) (b_nil)) (b_cons (s_if (t_lt (o_e (x_lenSet (K := K) rfl T.b_len T.b_set (o_e (x_n (n_lc (own := [("sort", 2), ("partner", 3)]) rfl sc_are_sorts.nd (i_listB (K := K) (x_var 0)) (blkOk_by (own := [("sort", 2), ("partner", 3)]) (N := N_are_sorts) (sc := defScope s_are_sorts) (by decide +kernel)) (fun _ _ _ _ _ => (g_tup (K := K) rfl (gs_cons (g_name (vs := [2, 3]) 2 sc_are_sorts.nd) (gs_cons (g_name (vs := [2, 3]) 3 sc_are_sorts.nd) gs_nil)))) (fun _ _ _ _ _ => ts_nil) (fun _ _ _ _ _ => x_var 2)))))) (o_e (x_len (K := K) T.b_len (o_var 0)))) (b_one (s_ret (x_bl))) (b_nil)) (b_one (s_ret (x_all (K := K) rfl T.b_all (o_e (x_n (n_lc (own := [("sort", 2), ("partner", 3)]) rfl sc_are_sorts.nd (i_listB (K := K) (x_var 0)) (blkOk_by (own := [("sort", 2), ("partner", 3)]) (N := N_are_sorts) (sc := defScope s_are_sorts) (by decide +kernel)) (fun _ _ _ _ _ => (g_tup (K := K) rfl (gs_cons (g_name (vs := [2, 3]) 2 sc_are_sorts.nd) (gs_cons (g_name (vs := [2, 3]) 3 sc_are_sorts.nd) gs_nil)))) (fun _ _ _ _ _ => ts_nil) (fun _ _ _ _ _ => x_inL (K := K) hr (o_e (x_tup (d_cons (x_var 3) (d_cons (x_var 2) d_nil)))) (o_var 0)))))))))⟩
theorem sc_is_kind_row : FnScope N_is_kind_row ["thing", "sorts"] (defScope s_is_kind_row) := ⟨rfl, rfl, rfl, by decide +kernel, rfl, by decide +kernel, by decide +kernel⟩
theorem ok_is_kind_row {f : Addr} {fd : FuncData} (F : Fun K "is_kind_row" "is_kind_row" s_is_kind_row f fd) (T : Txt K mg c) (h_is_name : CallP P w K mg base "is_name" 1 ["thing"] [.fr] (g_is_name c)) : FnOk P w K mg base CX0 2 f fd ["thing", "sorts"] (SpP K [.fr, .fr] (g_is_kind_row c)) :=
  fn_g (N := N_is_kind_row) (k := 1) F sc_is_kind_row rfl fun cdv A outer s H E hr => ⟨_, b_cons (s_if (t_w (w_or (t_not (t_val (x_isi (K := K) T.b_isinstance T.b_tuple (by decide +kernel) (o_var 0)))) (w_or (t_ne (K := K) hr (o_e (x_len (K := K) T.b_len (o_var 0))) (o_e (x_int))) (w_or1 (t_not (t_val (x_cq (K := K) h_is_name hr (a_cons (o_e (x_ix (K := K) (o_var 0) (o_e (x_int)))) a_nil)))))))) (b_one (s_ret (x_bl))) (b_nil)) (b_cons (s_set 2 (x_ix (K := K) (o_var 0) (o_e (x_int))) sc_is_kind_row.nd) (b_cons (s_if (t_w (w_or (t_not (t_val (x_isi (K := K) T.b_isinstance T.b_tuple (by decide +kernel) (o_var 2)))) (w_or (t_not (t_leLe (o_e (x_int)) (o_e (x_len (K := K) T.b_len (o_var 2))) (o_e (x_int)))) (w_or1 (t_not (t_val (x_all (K := K) rfl T.b_all (o_e (x_n (n_lc (own := [("sort", 3)]) rfl sc_is_kind_row.nd (i_tup (K := K) (x_var 2)) (blkOk_by (own := [("sort", 3)]) (N := N_is_kind_row) (sc := defScope s_is_kind_row) (by decide +kernel)) (fun _ _ _ _ _ => (g_name (vs := [3]) 3 sc_is_kind_row.nd)) (fun _ _ _ _ _ => ts_nil) (fun _ _ _ _ _ => x_cq (K := K) h_is_name hr (a_cons (o_e (x_var 3)) a_nil)))))))))))) (b_one (s_ret (x_bl))) (b_nil)) (b_one (s_ret (x_and (x_all (K := K) rfl T.b_all (o_e (x_n (n_lc (own := [("sort", 3)]) rfl sc_is_kind_row.nd (i_tup (K := K) (x_var 2)) (blkOk_by (own := [("sort", 3)]) (N := N_is_kind_row) (sc := defScope s_is_kind_row) (by decide +kernel)) (fun _ _ _ _ _ => (g_name (vs := [3]) 3 sc_is_kind_row.nd)) (fun _ _ _ _ _ => ts_nil) (fun _ _ _ _ _ => x_inL (K := K) hr (o_var 3) (o_var 1)))))) (x_one (x_eq (K := K) hr (o_e (x_n (n_list (K := K) T.b_list (o_var 2)))) (o_e (x_n (n_sorted (K := K) hr T.b_sorted (o_var 2)))))))))))⟩
theorem sc_are_kinds : FnScope N_are_kinds ["thing", "sorts"] (defScope s_are_kinds) := ⟨rfl, rfl, rfl, by decide +kernel, rfl, by decide +kernel, by decide +kernel⟩
theorem ok_are_kinds {f : Addr} {fd : FuncData} (F : Fun K "are_kinds" "are_kinds" s_are_kinds f fd) (T : Txt K mg c) (h_is_kind_row : CallP P w K mg base "is_kind_row" 2 ["thing", "sorts"] [.fr, .fr] (g_is_kind_row c)) : FnOk P w K mg base CX0 3 f fd ["thing", "sorts"] (SpP K [.bo, .fr] (g_are_kinds c)) :=
  fn_g (N := N_are_kinds) (k := 2) F sc_are_kinds rfl fun cdv A outer s H E hr => ⟨_, b_cons (s_if (t_w (w_or (t_not (t_val (x_isi (K := K) T.b_isinstance T.b_list (by decide +kernel) (o_var 0)))) (w_or1 (t_not (t_leLe (o_e (x_int)) (o_e (x_len (K := K) T.b_len (o_var 0))) (o_e (x_int))))))) (b_one (s_ret (x_bl))) (b_nil)) (b_cons (s_if (t_not (t_val (x_all (K := K) rfl T.b_all (o_e (x_n (n_lc (own := [("row", 2)]) rfl sc_are_kinds.nd (i_listB (K := K) (x_var 0)) (blkOk_by (own := [("row", 2)]) (N := N_are_kinds) (sc := defScope s_are_kinds) (by decide +kernel)) (fun _ _ _ _ _ => (g_name (vs := [2]) 2 sc_are_kinds.nd)) (fun _ _ _ _ _ => ts_nil) (fun _ _ _ _ _ => x_cq (K := K) h_is_kind_row hr (a_cons (o_e (x_var 2)) (a_cons (o_e (x_var 1)) a_nil))))))))) (b_one (s_ret (x_bl))) (b_nil)) (b_one (s_ret (x_eq (K := K) hr (o_e (x_lenSet (K := K) rfl T.b_len T.b_set (o_e (x_n (n_lc (own := [("name", 3), ("ends", 4)]) rfl sc_are_kinds.nd (i_listB (K := K) (x_var 0)) (blkOk_by (own := [("name", 3), ("ends", 4)]) (N := N_are_kinds) (sc := defScope s_are_kinds) (by decide +kernel)) (fun _ _ _ _ _ => (g_tup (K := K) rfl (gs_cons (g_name (vs := [3, 4]) 3 sc_are_kinds.nd) (gs_cons (g_name (vs := [3, 4]) 4 sc_are_kinds.nd) gs_nil)))) (fun _ _ _ _ _ => ts_nil) (fun _ _ _ _ _ => x_var 3)))))) (o_e (x_len (K := K) T.b_len (o_var 0)))))))⟩
theorem sc_Stock___init__ : FnScope N_Stock___init__ ["self", "sorts", "kinds"] (defScope s_Stock___init__) := ⟨rfl, rfl, rfl, by decide +kernel, rfl, by decide +kernel, by decide +kernel⟩
theorem ok_Stock___init__ {f : Addr} {fd : FuncData} (F : Fun K "__init__" "Stock.__init__" s_Stock___init__ f fd) (T : Txt K mg c) (h_are_sorts : CallP P w K mg base "are_sorts" 3 ["thing"] [.bo] (g_are_sorts c)) (h_are_kinds : CallP P w K mg base "are_kinds" 3 ["thing", "sorts"] [.bo, .fr] (g_are_kinds c)) : FnOk P w K mg base CX0 4 f fd ["self", "sorts", "kinds"] (SpI K [.bo, .bo] (g_Stock___init__ c)) :=
  fn_i (N := N_Stock___init__) (k := 3) F sc_Stock___init__ rfl fun cdv A outer s H E hr => ⟨_, b_cons (s_if (t_not (t_val (x_cq (K := K) h_are_sorts hr (a_cons (o_var 1) a_nil)))) (b_one (s_never)) (b_nil)) (b_cons (s_if (t_not (t_val (x_cq (K := K) h_are_kinds hr (a_cons (o_var 2) (a_cons (o_e (x_n (n_lc (own := [("sort", 3), ("partner", 4)]) rfl sc_Stock___init__.nd (i_listB (K := K) (x_var 1)) (blkOk_by (own := [("sort", 3), ("partner", 4)]) (N := N_Stock___init__) (sc := defScope s_Stock___init__) (by decide +kernel)) (fun _ _ _ _ _ => (g_tup (K := K) rfl (gs_cons (g_name (vs := [3, 4]) 3 sc_Stock___init__.nd) (gs_cons (g_name (vs := [3, 4]) 4 sc_Stock___init__.nd) gs_nil)))) (fun _ _ _ _ _ => ts_nil) (fun _ _ _ _ _ => x_var 3)))) a_nil))))) (b_one (s_never)) (b_nil)) (b_cons (s_fld (K := K) (T.k_stock_sorts) (x_var (W := W0) 0).p (x_n (n_list (K := K) T.b_list (o_var 1)))) (b_one (s_fld (K := K) (T.k_stock_kinds) (x_var (W := W0) 0).p (x_n (n_list (K := K) T.b_list (o_var 2)))))))⟩
theorem sc_is_sort : FnScope N_is_sort ["stock", "thing"] (defScope s_is_sort) := ⟨rfl, rfl, rfl, by decide +kernel, rfl, by decide +kernel, by decide +kernel⟩
theorem ok_is_sort {f : Addr} {fd : FuncData} (F : Fun K "is_sort" "is_sort" s_is_sort f fd) (T : Txt K mg c) : FnOk P w K mg base CX0 1 f fd ["stock", "thing"] (SpP K [.fr, .fr] (g_is_sort c)) :=
  fn_g (N := N_is_sort) (k := 0) F sc_is_sort rfl fun cdv A outer s H E hr => ⟨_, b_one (s_ret (x_and (x_isi (K := K) T.b_isinstance T.b_str (by decide +kernel) (o_var 1)) (x_one (x_inD hr (o_var 1) (o_e (x_dict (K := K) rfl T.b_dict (o_e (x_fld (K := K) T.f_stock_sorts (o_var 0)))))))))⟩
theorem sc_is_kind : FnScope N_is_kind ["stock", "thing"] (defScope s_is_kind) := ⟨rfl, rfl, rfl, by decide +kernel, rfl, by decide +kernel, by decide +kernel⟩
theorem ok_is_kind {f : Addr} {fd : FuncData} (F : Fun K "is_kind" "is_kind" s_is_kind f fd) (T : Txt K mg c) : FnOk P w K mg base CX0 1 f fd ["stock", "thing"] (SpP K [.fr, .fr] (g_is_kind c)) :=
  fn_g (N := N_is_kind) (k := 0) F sc_is_kind rfl fun cdv A outer s H E hr => ⟨_, b_one (s_ret (x_and (x_isi (K := K) T.b_isinstance T.b_str (by decide +kernel) (o_var 1)) (x_one (x_inD hr (o_var 1) (o_e (x_dict (K := K) rfl T.b_dict (o_e (x_fld (K := K) T.f_stock_kinds (o_var 0)))))))))⟩
theorem sc_ends_of : FnScope N_ends_of ["stock", "kind"] (defScope s_ends_of) := ⟨rfl, rfl, rfl, by decide +kernel, rfl, by decide +kernel, by decide +kernel⟩
theorem ok_ends_of {f : Addr} {fd : FuncData} (F : Fun K "ends_of" "ends_of" s_ends_of f fd) (T : Txt K mg c) : FnOk P w K mg base CX0 1 f fd ["stock", "kind"] (SpP K [.fr, .fr] (g_ends_of c)) :=
  fn_g (N := N_ends_of) (k := 0) F sc_ends_of rfl fun cdv A outer s H E hr => ⟨_, b_one (s_ret (x_dget hr (o_e (x_dict (K := K) rfl T.b_dict (o_e (x_fld (K := K) T.f_stock_kinds (o_var 0))))) (o_var 1)))⟩
theorem sc_are_corners : FnScope N_are_corners ["stock", "thing"] (defScope s_are_corners) := ⟨rfl, rfl, rfl, by decide +kernel, rfl, by decide +kernel, by decide +kernel⟩
theorem ok_are_corners {f : Addr} {fd : FuncData} (F : Fun K "are_corners" "are_corners" s_are_corners f fd) (T : Txt K mg c) (h_is_kind : CallP P w K mg base "is_kind" 1 ["stock", "thing"] [.fr, .fr] (g_is_kind c)) : FnOk P w K mg base CX0 2 f fd ["stock", "thing"] (SpP K [.fr, .bo] (g_are_corners c)) :=
  fn_g (N := N_are_corners) (k := 1) F sc_are_corners rfl fun cdv A outer s H E hr => ⟨_, b_one (s_ret (x_and (x_isi (K := K) T.b_isinstance T.b_list (by decide +kernel) (o_var 1)) (x_and (x_le (o_e (x_len (K := K) T.b_len (o_var 1))) (o_e (x_globI T.c_MOST.choose_spec))) (x_one (x_all (K := K) rfl T.b_all (o_e (x_n (n_lc (own := [("kind", 2)]) rfl sc_are_corners.nd (i_listB (K := K) (x_var 1)) (blkOk_by (own := [("kind", 2)]) (N := N_are_corners) (sc := defScope s_are_corners) (by decide +kernel)) (fun _ _ _ _ _ => (g_name (vs := [2]) 2 sc_are_corners.nd)) (fun _ _ _ _ _ => ts_nil) (fun _ _ _ _ _ => x_cq (K := K) h_is_kind hr (a_cons (o_e (x_var 0)) (a_cons (o_e (x_var 2)) a_nil)))))))))))⟩
theorem sc_is_leg : FnScope N_is_leg ["stock", "thing"] (defScope s_is_leg) := ⟨rfl, rfl, rfl, by decide +kernel, rfl, by decide +kernel, by decide +kernel⟩
theorem ok_is_leg {f : Addr} {fd : FuncData} (F : Fun K "is_leg" "is_leg" s_is_leg f fd) (T : Txt K mg c) (h_is_sort : CallP P w K mg base "is_sort" 1 ["stock", "thing"] [.fr, .fr] (g_is_sort c)) (h_is_name : CallP P w K mg base "is_name" 1 ["thing"] [.fr] (g_is_name c)) : FnOk P w K mg base CX0 2 f fd ["stock", "thing"] (SpP K [.fr, .fr] (g_is_leg c)) :=
  fn_g (N := N_is_leg) (k := 1) F sc_is_leg rfl fun cdv A outer s H E hr => ⟨_, b_one (s_ret (x_and (x_isi (K := K) T.b_isinstance T.b_tuple (by decide +kernel) (o_var 1)) (x_and (x_eq (K := K) hr (o_e (x_len (K := K) T.b_len (o_var 1))) (o_e (x_int))) (x_and (x_cq (K := K) h_is_name hr (a_cons (o_e (x_ix (K := K) (o_var 1) (o_e (x_int)))) a_nil)) (x_one (x_cq (K := K) h_is_sort hr (a_cons (o_e (x_var 0)) (a_cons (o_e (x_ix (K := K) (o_var 1) (o_e (x_int)))) a_nil))))))))⟩
theorem sc_are_legs : FnScope N_are_legs ["stock", "thing"] (defScope s_are_legs) := ⟨rfl, rfl, rfl, by decide +kernel, rfl, by decide +kernel, by decide +kernel⟩
theorem ok_are_legs {f : Addr} {fd : FuncData} (F : Fun K "are_legs" "are_legs" s_are_legs f fd) (T : Txt K mg c) (h_is_leg : CallP P w K mg base "is_leg" 2 ["stock", "thing"] [.fr, .fr] (g_is_leg c)) : FnOk P w K mg base CX0 3 f fd ["stock", "thing"] (SpP K [.fr, .bo] (g_are_legs c)) :=
  fn_g (N := N_are_legs) (k := 2) F sc_are_legs rfl fun cdv A outer s H E hr => ⟨_, b_cons (s_if (t_w (w_or (t_not (t_val (x_isi (K := K) T.b_isinstance T.b_list (by decide +kernel) (o_var 1)))) (w_or (t_gt (o_e (x_len (K := K) T.b_len (o_var 1))) (o_e (x_globI T.c_MOST.choose_spec))) (w_or1 (t_not (t_val (x_all (K := K) rfl T.b_all (o_e (x_n (n_lc (own := [("leg", 2)]) rfl sc_are_legs.nd (i_listB (K := K) (x_var 1)) (blkOk_by (own := [("leg", 2)]) (N := N_are_legs) (sc := defScope s_are_legs) (by decide +kernel)) (fun _ _ _ _ _ => (g_name (vs := [2]) 2 sc_are_legs.nd)) (fun _ _ _ _ _ => ts_nil) (fun _ _ _ _ _ => x_cq (K := K) h_is_leg hr (a_cons (o_e (x_var 0)) (a_cons (o_e (x_var 2)) a_nil))))))))))))) (b_one (s_ret (x_bl))) (b_nil)) (b_one (s_ret (x_and (x_eq (K := K) hr (o_var 1) (o_e (x_n (n_sorted (K := K) hr T.b_sorted (o_var 1))))) (x_one (x_eq (K := K) hr (o_e (x_lenSet (K := K) rfl T.b_len T.b_set (o_e (x_n (n_lc (own := [("name", 3), ("sort", 4)]) rfl sc_are_legs.nd (i_listB (K := K) (x_var 1)) (blkOk_by (own := [("name", 3), ("sort", 4)]) (N := N_are_legs) (sc := defScope s_are_legs) (by decide +kernel)) (fun _ _ _ _ _ => (g_tup (K := K) rfl (gs_cons (g_name (vs := [3, 4]) 3 sc_are_legs.nd) (gs_cons (g_name (vs := [3, 4]) 4 sc_are_legs.nd) gs_nil)))) (fun _ _ _ _ _ => ts_nil) (fun _ _ _ _ _ => x_var 3)))))) (o_e (x_len (K := K) T.b_len (o_var 1))))))))⟩
theorem sc_sure_corners : FnScope N_sure_corners ["stock", "corners", "legs"] (defScope s_sure_corners) := ⟨rfl, rfl, rfl, by decide +kernel, rfl, by decide +kernel, by decide +kernel⟩
theorem ok_sure_corners {f : Addr} {fd : FuncData} (F : Fun K "sure_corners" "sure_corners" s_sure_corners f fd) (T : Txt K mg c) (h_are_corners : CallP P w K mg base "are_corners" 2 ["stock", "thing"] [.fr, .bo] (g_are_corners c)) (h_are_legs : CallP P w K mg base "are_legs" 3 ["stock", "thing"] [.fr, .bo] (g_are_legs c)) : FnOk P w K mg base CX0 4 f fd ["stock", "corners", "legs"] (SpP K [.fr, .bo, .bo] (g_sure_corners c)) :=
  fn_g (N := N_sure_corners) (k := 3) F sc_sure_corners rfl fun cdv A outer s H E hr => ⟨_, b_cons (s_if (t_not (t_val (x_cq (K := K) h_are_corners hr (a_cons (o_e (x_var 0)) (a_cons (o_var 1) a_nil))))) (b_one (s_never)) (b_nil)) (b_one (s_if (t_not (t_val (x_cq (K := K) h_are_legs hr (a_cons (o_e (x_var 0)) (a_cons (o_var 2) a_nil))))) (b_one (s_never)) (b_nil)))⟩
theorem sc_factorial : FnScope N_factorial ["number"] (defScope s_factorial) := ⟨rfl, rfl, rfl, by decide +kernel, rfl, by decide +kernel, by decide +kernel⟩
theorem ok_factorial {f : Addr} {fd : FuncData} (F : Fun K "factorial" "factorial" s_factorial f fd) (T : Txt K mg c) : FnOk P w K mg base CX0 1 f fd ["number"] (SpP K [.fr] (g_factorial c)) :=
  fn_g (N := N_factorial) (k := 0) F sc_factorial rfl fun cdv A outer s H E hr => ⟨_, b_cons (s_set 1 (x_int) sc_factorial.nd) (b_cons (s_for PassesOwn.never rfl (i_range2 T.b_range (d_cons (x_int) (d_cons (x_add (K := K) (o_var 0) (o_e (x_int))) d_nil))) (g_name (vs := [2]) 2 sc_factorial.nd) (b_one (s_set 1 (x_mul (o_var 1) (o_var 2)) sc_factorial.nd))) (b_one (s_ret (x_var 1))))⟩
theorem sc_group : FnScope N_group ["stock", "corners"] (defScope s_group) := ⟨rfl, rfl, rfl, by decide +kernel, rfl, by decide +kernel, by decide +kernel⟩
theorem ok_group {f : Addr} {fd : FuncData} (F : Fun K "group" "group" s_group f fd) (T : Txt K mg c) (h_sure_corners : CallP P w K mg base "sure_corners" 4 ["stock", "corners", "legs"] [.fr, .bo, .bo] (g_sure_corners c)) (h_factorial : CallP P w K mg base "factorial" 1 ["number"] [.fr] (g_factorial c)) (h_ends_of : CallP P w K mg base "ends_of" 1 ["stock", "kind"] [.fr, .fr] (g_ends_of c)) : FnOk P w K mg base CX0 5 f fd ["stock", "corners"] (SpP K [.fr, .bo] (g_group c)) :=
  fn_g (N := N_group) (k := 4) F sc_group rfl fun cdv A outer s H E hr => ⟨_, b_cons (s_expr (x_cq (K := K) h_sure_corners hr (a_cons (o_e (x_var 0)) (a_cons (o_var 1) (a_cons (o_e (x_n (n_lst d_nil))) a_nil))))) (b_cons (s_set 2 (x_int) sc_group.nd) (b_cons (s_for PassesOwn.never rfl (i_list (K := K) (x_fld (K := K) T.f_stock_kinds (o_var 0))) (g_tup (K := K) rfl (gs_cons (g_name (vs := [3, 4]) 3 sc_group.nd) (gs_cons (g_name (vs := [3, 4]) 4 sc_group.nd) gs_nil))) (b_one (s_set 2 (x_mul (o_var 2) (o_e (x_cq (K := K) h_factorial hr (a_cons (o_e (x_cnt (K := K) hr (o_var 1) (o_var 3))) a_nil)))) sc_group.nd))) (b_cons (s_for PassesOwn.never rfl (i_listB (K := K) (x_var 1)) (g_name (vs := [3]) 3 sc_group.nd) (b_cons (s_set 4 (x_cq (K := K) h_ends_of hr (a_cons (o_e (x_var 0)) (a_cons (o_e (x_var 3)) a_nil))) sc_group.nd) (b_one (s_for PassesOwn.never rfl (i_list (K := K) (x_n (n_sortSet (K := K) hr rfl T.b_sorted T.b_set (o_var 4)))) (g_name (vs := [5]) 5 sc_group.nd) (b_one (s_set 2 (x_mul (o_var 2) (o_e (x_cq (K := K) h_factorial hr (a_cons (o_e (x_cnt (K := K) hr (o_var 4) (o_var 5))) a_nil)))) sc_group.nd)))))) (b_one (s_ret (x_var 2))))))⟩
theorem sc__law_state : FnScope N__law_state ["_law_cell"] (defScope s__law_state) := ⟨rfl, rfl, rfl, by decide +kernel, rfl, by decide +kernel, by decide +kernel⟩
theorem ok__law_state {f : Addr} {fd : FuncData} (F : Fun K "_law_state" "_law_state" s__law_state f fd) (T : Txt K mg c) : FnOk P w K mg base CX0 1 f fd ["_law_cell"] (SpN K [.fr] (g__law_state c)) :=
  fn_n (N := N__law_state) (k := 0) F sc__law_state rfl fun cdv A outer s H E hr => ⟨_, b_one (s_retW (n_lst (d_cons (x_abs T.b_abs (o_var 0)) (d_cons (x_mod (o_var 0) (o_e (x_int))) (d_cons (x_int) d_nil)))))⟩
theorem sc__law_pick : FnScope N__law_pick ["_law_state_here", "_law_many"] (defScope s__law_pick) := ⟨rfl, rfl, rfl, by decide +kernel, rfl, by decide +kernel, by decide +kernel⟩
theorem ok__law_pick {f : Addr} {fd : FuncData} (F : Fun K "_law_pick" "_law_pick" s__law_pick f fd) (T : Txt K mg c) : FnOk P w K mg base CX0 1 f fd ["_law_state_here", "_law_many"] (SpI K [.fr] (g__law_pick c)) :=
  fn_i (N := N__law_pick) (k := 0) F sc__law_pick rfl fun cdv A outer s H E hr => ⟨_, b_cons (s_if (t_ge (o_e (x_ix (K := K) (o_var 0) (o_e (x_int)))) (o_e (x_pow (o_e (x_int)) (o_e (x_int))))) (b_cons (s_set 2 (x_mod (o_e (x_ix (K := K) (o_var 0) (o_e (x_int)))) (o_var 1)) sc__law_pick.nd) (b_cons (s_putI (x_var (W := W0) 0).p (x_int) (x_div (o_e (x_ix (K := K) (o_var 0) (o_e (x_int)))) (o_var 1))) (b_one (s_ret (x_var 2))))) (b_nil)) (b_cons (s_putI (x_var (W := W0) 0).p (x_int) (x_add (K := K) (o_e (x_ix (K := K) (o_var 0) (o_e (x_int)))) (o_e (x_int)))) (b_cons (s_set 3 (x_mod (o_e (x_add (K := K) (o_e (x_add (K := K) (o_e (x_mul (o_e (x_ix (K := K) (o_var 0) (o_e (x_int)))) (o_e (x_int)))) (o_e (x_mul (o_e (x_int)) (o_e (x_ix (K := K) (o_var 0) (o_e (x_int)))))))) (o_e (x_int)))) (o_e (x_int))) sc__law_pick.nd) (b_cons (s_set 3 (x_mod (o_e (x_mul (o_var 3) (o_e (x_add (K := K) (o_e (x_div (o_var 3) (o_e (x_int)))) (o_e (x_int)))))) (o_e (x_int))) sc__law_pick.nd) (b_cons (s_putI (x_var (W := W0) 0).p (x_int) (x_var 3)) (b_one (s_ret (x_mod (o_e (x_div (o_var 3) (o_e (x_int)))) (o_var 1))))))))⟩
theorem sc__law_words : FnScope N__law_words ["_law_state_here", "_law_many"] (defScope s__law_words) := ⟨rfl, rfl, rfl, by decide +kernel, rfl, by decide +kernel, by decide +kernel⟩
theorem ok__law_words {f : Addr} {fd : FuncData} (F : Fun K "_law_words" "_law_words" s__law_words f fd) (T : Txt K mg c) (h__law_pick : CallI P w K mg base "_law_pick" 1 ["_law_state_here", "_law_many"] [.fr] (g__law_pick c)) : FnOk P w K mg base CX0 2 f fd ["_law_state_here", "_law_many"] (SpI K [.fr] (g__law_words c)) :=
  fn_i (N := N__law_words) (k := 1) F sc__law_words rfl fun cdv A outer s H E hr => ⟨_, b_cons (s_setO 2 (n_lst d_nil) sc__law_words.nd) (b_cons (s_for PassesOwn.never rfl (i_str (x_sl (K := K) (o_e (x_str)) p_none (p_some (x_var 1)))) (g_name (vs := [3]) 3 sc__law_words.nd) (b_cons (s_set 4 (x_str) sc__law_words.nd) (b_cons (s_for PassesOwn.never rfl (i_range1 T.b_range (d_cons (x_ix (K := K) (o_e (x_n (n_lst (d_cons (x_int) (d_cons (x_int) (d_cons (x_int) (d_cons (x_int) d_nil))))))) (o_e (x_cqi (K := K) h__law_pick hr (x_var 0) (a_cons (o_e (x_int)) a_nil)))) d_nil)) (g_name (vs := [5]) 5 sc__law_words.nd) (b_one (s_set 4 (x_add (K := K) (o_var 4) (o_e (x_ix (K := K) (o_e (x_str)) (o_e (x_cqi (K := K) h__law_pick hr (x_var 0) (a_cons (o_e (x_int)) a_nil)))))) sc__law_words.nd))) (b_one (s_expr (x_app (K := K) (x_var (W := W0) 2).p (d_cons (x_add (K := K) (o_var 4) (o_var 3)) d_nil))))))) (b_one (s_ret (x_var 2))))⟩
theorem sc__law_stock_rows : FnScope N__law_stock_rows ["_law_state_here", "_law_most"] (defScope s__law_stock_rows) := ⟨rfl, rfl, rfl, by decide +kernel, rfl, by decide +kernel, by decide +kernel⟩
theorem ok__law_stock_rows {f : Addr} {fd : FuncData} (F : Fun K "_law_stock_rows" "_law_stock_rows" s__law_stock_rows f fd) (T : Txt K mg c) (h__law_words : CallI P w K mg base "_law_words" 2 ["_law_state_here", "_law_many"] [.fr] (g__law_words c)) (h__law_pick : CallI P w K mg base "_law_pick" 1 ["_law_state_here", "_law_many"] [.fr] (g__law_pick c)) : FnOk P w K mg base CX0 3 f fd ["_law_state_here", "_law_most"] (SpI K [.fr] (g__law_stock_rows c)) :=
  fn_i (N := N__law_stock_rows) (k := 2) F sc__law_stock_rows rfl fun cdv A outer s H E hr => ⟨_, b_cons (s_unl (K := K) rfl (x_cqi (K := K) h__law_words hr (x_var 0) (a_cons (o_e (x_int)) a_nil)) (gs_cons (g_name (vs := [2, 3, 4]) 2 sc__law_stock_rows.nd) (gs_cons (g_name (vs := [2, 3, 4]) 3 sc__law_stock_rows.nd) (gs_cons (g_name (vs := [2, 3, 4]) 4 sc__law_stock_rows.nd) gs_nil)))) (b_cons (s_setO 5 (n_lst (d_cons (x_n (n_lst (d_cons (x_tup (d_cons (x_var 2) (d_cons (x_var 2) d_nil))) d_nil))) (d_cons (x_n (n_lst (d_cons (x_tup (d_cons (x_var 2) (d_cons (x_var 3) d_nil))) (d_cons (x_tup (d_cons (x_var 3) (d_cons (x_var 2) d_nil))) d_nil)))) (d_cons (x_n (n_lst (d_cons (x_tup (d_cons (x_var 3) (d_cons (x_var 3) d_nil))) (d_cons (x_tup (d_cons (x_var 2) (d_cons (x_var 4) d_nil))) (d_cons (x_tup (d_cons (x_var 4) (d_cons (x_var 2) d_nil))) d_nil))))) d_nil)))) sc__law_stock_rows.nd) (b_cons (s_expr (x_app (K := K) (x_var (W := W0) 5).p (d_cons (x_n (n_lst (d_cons (x_tup (d_cons (x_var 2) (d_cons (x_var 2) d_nil))) (d_cons (x_tup (d_cons (x_var 3) (d_cons (x_var 3) d_nil))) (d_cons (x_tup (d_cons (x_var 4) (d_cons (x_var 4) d_nil))) d_nil))))) d_nil))) (b_cons (s_set 6 (x_ix (K := K) (o_var 5) (o_e (x_cqi (K := K) h__law_pick hr (x_var 0) (a_cons (o_e (x_int)) a_nil)))) sc__law_stock_rows.nd) (b_cons (s_setO 7 (n_lst d_nil) sc__law_stock_rows.nd) (b_cons (s_for PassesOwn.never rfl (i_list (K := K) (x_cqi (K := K) h__law_words hr (x_var 0) (a_cons (o_e (x_add (K := K) (o_e (x_int)) (o_e (x_cqi (K := K) h__law_pick hr (x_var 0) (a_cons (o_e (x_int)) a_nil))))) a_nil))) (g_name (vs := [8]) 8 sc__law_stock_rows.nd) (b_cons (s_setLc (own := [("_law_k", 10)]) 9 rfl sc__law_stock_rows.nd rfl rfl (sw_true rfl rfl rfl (by decide +kernel)) (i_range1 T.b_range (d_cons (x_add (K := K) (o_e (x_int)) (o_e (x_cqi (K := K) h__law_pick hr (x_var 0) (a_cons (o_e (x_var 1)) a_nil)))) d_nil)) (blkOk_by (own := [("_law_k", 10)]) (N := N__law_stock_rows) (sc := defScope s__law_stock_rows) (by decide +kernel)) (fun _ _ _ _ _ => (g_name (vs := [10]) 10 sc__law_stock_rows.nd)) (fun _ _ _ _ _ => ts_nil) (fun _ _ _ _ _ => x_ix (K := K) (o_e (x_ix (K := K) (o_var 6) (o_e (x_cqi (K := K) h__law_pick hr (x_var 0) (a_cons (o_e (x_len (K := K) T.b_len (o_var 6))) a_nil))))) (o_e (x_int)))) (b_one (s_expr (x_app (K := K) (x_var (W := W0) 7).p (d_cons (x_tup (d_cons (x_var 8) (d_cons (x_tuple (K := K) T.b_tuple (o_e (x_n (n_sorted (K := K) hr T.b_sorted (o_var 9))))) d_nil))) d_nil)))))) (b_one (s_ret (x_tup (d_cons (x_var 6) (d_cons (x_var 7) d_nil))))))))))⟩
theorem sc__law_changes : FnScope N__law_changes ["_law_kinds", "_law_corners"] (defScope s__law_changes) := ⟨rfl, rfl, rfl, by decide +kernel, rfl, by decide +kernel, by decide +kernel⟩
theorem ok__law_changes {f : Addr} {fd : FuncData} (F : Fun K "_law_changes" "_law_changes" s__law_changes f fd) (T : Txt K mg c) : FnOk P w K mg base CX0 1 f fd ["_law_kinds", "_law_corners"] (SpP K [.fr, .fr] (g__law_changes c)) :=
  fn_g (N := N__law_changes) (k := 0) F sc__law_changes rfl fun cdv A outer s H E hr => ⟨_, b_cons (s_set 2 (x_int) sc__law_changes.nd) (b_cons (s_for PassesOwn.never rfl (i_enum (K := K) T.b_enumerate (d_cons (x_var 1) d_nil)) (g_tup (K := K) rfl (gs_cons (g_name (vs := [3, 4]) 3 sc__law_changes.nd) (gs_cons (g_name (vs := [3, 4]) 4 sc__law_changes.nd) gs_nil))) (b_cons (s_set 5 (x_dget hr (o_e (x_dict (K := K) rfl T.b_dict (o_var 0))) (o_var 4)) sc__law_changes.nd) (b_cons (s_set 2 (x_mul (o_var 2) (o_e (x_add (K := K) (o_e (x_int)) (o_e (x_cnt (K := K) hr (o_e (x_sl (K := K) (o_var 1) p_none (p_some (x_var 3)))) (o_var 4)))))) sc__law_changes.nd) (b_one (s_for PassesOwn.never rfl (i_enum (K := K) T.b_enumerate (d_cons (x_var 5) d_nil)) (g_tup (K := K) rfl (gs_cons (g_name (vs := [6, 7]) 6 sc__law_changes.nd) (gs_cons (g_name (vs := [6, 7]) 7 sc__law_changes.nd) gs_nil))) (b_one (s_set 2 (x_mul (o_var 2) (o_e (x_add (K := K) (o_e (x_int)) (o_e (x_cnt (K := K) hr (o_e (x_sl (K := K) (o_var 5) p_none (p_some (x_var 6)))) (o_var 7)))))) sc__law_changes.nd))))))) (b_one (s_ret (x_var 2))))⟩
theorem sc_law : FnScope N_law ["_law_script"] (defScope s_law) := ⟨rfl, rfl, rfl, by decide +kernel, rfl, by decide +kernel, by decide +kernel⟩
theorem ok_law {f : Addr} {fd : FuncData} (F : Fun K "law" "law" s_law f fd) (T : Txt K mg c) (h__law_state : CallN P w K mg base "_law_state" 1 ["_law_cell"] [.fr] (g__law_state c)) (h__law_stock_rows : CallI P w K mg base "_law_stock_rows" 3 ["_law_state_here", "_law_most"] [.fr] (g__law_stock_rows c)) (h_Stock___init__ : MakeI P w K mg base "Stock" c.stock 4 ["self", "sorts", "kinds"] [.bo, .bo] (g_Stock___init__ c)) (h__law_pick : CallI P w K mg base "_law_pick" 1 ["_law_state_here", "_law_many"] [.fr] (g__law_pick c)) (h__law_changes : CallP P w K mg base "_law_changes" 1 ["_law_kinds", "_law_corners"] [.fr, .fr] (g__law_changes c)) (h_group : CallP P w K mg base "group" 5 ["stock", "corners"] [.fr, .bo] (g_group c)) (hm : lawOk (m_law c) 12) : FnOk P w K mg base CX0 6 f fd ["_law_script"] (spLawD K) :=
  law_fn (N := N_law) (k := 5) F sc_law hm fun cdv A outer s H E hr => ⟨_, b_cons (s_for PassesOwn.never rfl (i_list (K := K) (x_add (K := K) (o_e (x_scSl (K := K) (x_var (W := W0) 0).p po_none (po_some pe_int) cp_none cp_int)) (o_e (x_n (n_lst (d_cons (x_int) (d_cons (x_int) d_nil))))))) (g_name (vs := [1]) 1 sc_law.nd) (b_cons (s_setO 2 (n_cn (K := K) h__law_state hr (a_cons (o_e (x_var 1)) a_nil)) sc_law.nd) (b_cons (s_asg (x_cqi (K := K) h__law_stock_rows hr (x_var 2) (a_cons (o_e (x_int)) a_nil)) (g_tup (K := K) rfl (gs_cons (g_name (vs := [3, 4]) 3 sc_law.nd) (gs_cons (g_name (vs := [3, 4]) 4 sc_law.nd) gs_nil)))) (b_cons (s_setO 5 (n_mkq (K := K) h_Stock___init__ hr (a_cons (o_var 3) (a_cons (o_var 4) a_nil))) sc_law.nd) (b_cons (s_setLc (own := [("_law_k", 11)]) 6 rfl sc_law.nd rfl rfl (sw_true rfl rfl rfl (by decide +kernel)) (i_range1 T.b_range (d_cons (x_cqi (K := K) h__law_pick hr (x_var 2) (a_cons (o_e (x_int)) a_nil)) d_nil)) (blkOk_by (own := [("_law_k", 11)]) (N := N_law) (sc := defScope s_law) (by decide +kernel)) (fun _ _ _ _ _ => (g_name (vs := [11]) 11 sc_law.nd)) (fun _ _ _ _ _ => ts_nil) (fun _ _ _ _ _ => x_ix (K := K) (o_e (x_ix (K := K) (o_var 4) (o_e (x_cqi (K := K) h__law_pick hr (x_var 2) (a_cons (o_e (x_len (K := K) T.b_len (o_var 4))) a_nil))))) (o_e (x_int)))) (b_cons (s_set 7 (x_cq (K := K) h__law_changes hr (a_cons (o_e (x_var 4)) (a_cons (o_e (x_var 6)) a_nil))) sc_law.nd) (b_cons (s_for PassesOwn.never rfl (i_list (K := K) (x_n (n_lst (d_cons (x_var 6) (d_cons (x_n (n_rev (K := K) (o_var 6))) (d_cons (x_n (n_sorted (K := K) hr T.b_sorted (o_var 6))) d_nil)))))) (g_name (vs := [8]) 8 sc_law.nd) (b_cons (s_setO 9 (n_list (K := K) T.b_list (o_var 8)) sc_law.nd) (b_cons (s_set 10 (x_cq (K := K) h_group hr (a_cons (o_e (x_var 5)) (a_cons (o_var 9) a_nil))) sc_law.nd) (b_one (s_if (t_w (w_or (t_ne (K := K) hr (o_var 10) (o_var 7)) (w_or (t_val (x_isi (K := K) T.b_isinstance T.b_bool (by decide +kernel) (o_var 10))) (w_or1 (t_ne (K := K) hr (o_var 9) (o_var 8)))))) (b_one (s_ret (x_bl))) (b_nil)))))) (b_one (s_if (t_ne (K := K) hr (o_e (x_cq (K := K) h_group hr (a_cons (o_e (x_var 5)) (a_cons (o_e (x_n (n_lst d_nil))) a_nil)))) (o_e (x_int))) (b_one (s_ret (x_bl))) (b_nil)))))))))) (b_one (s_ret (x_bl)))⟩
end
/-! ### what the top has written, all together -/
theorem all_mk {P : Program} {w : World} {K : Fg} {h : Heap} {mg : Str → Option Value} {fa : Addr} {C_stock f_Stock___init__ : Addr} (X : K.In h) (G : h.Ns mainGlobals mg) (hfa : mg "law" = some (.ref fa))
    (z_abs : PySem.W.nsIn K mainGlobals "abs" = some none)
    (z_all : PySem.W.nsIn K mainGlobals "all" = some none)
    (z_bool : PySem.W.nsIn K mainGlobals "bool" = some none)
    (z_dict : PySem.W.nsIn K mainGlobals "dict" = some none)
    (z_enumerate : PySem.W.nsIn K mainGlobals "enumerate" = some none)
    (z_isinstance : PySem.W.nsIn K mainGlobals "isinstance" = some none)
    (z_len : PySem.W.nsIn K mainGlobals "len" = some none)
    (z_list : PySem.W.nsIn K mainGlobals "list" = some none)
    (z_range : PySem.W.nsIn K mainGlobals "range" = some none)
    (z_set : PySem.W.nsIn K mainGlobals "set" = some none)
    (z_sorted : PySem.W.nsIn K mainGlobals "sorted" = some none)
    (z_str : PySem.W.nsIn K mainGlobals "str" = some none)
    (z_tuple : PySem.W.nsIn K mainGlobals "tuple" = some none)
    (y_LETTERS : ∃ v : Value, PySem.W.nsIn K mainGlobals "LETTERS" = some (some v) ∧ ∃ t, v = .str "abcdefghijklmnopqrstuvwxyz" t)
    (y_MOST : ∃ v : Value, PySem.W.nsIn K mainGlobals "MOST" = some (some v) ∧ ∃ t, v = .int 6 t)
    (k_stock : ClsK K "Stock" C_stock)
    (n_stock_kinds : PySem.W.findIn K (.ref C_stock) "kinds" = some none)
    (n_stock_sorts : PySem.W.findIn K (.ref C_stock) "sorts" = some none)
    (d_is_name : DefK K "is_name" s_is_name)
    (d_is_sort_row : DefK K "is_sort_row" s_is_sort_row)
    (d_are_sorts : DefK K "are_sorts" s_are_sorts)
    (d_is_kind_row : DefK K "is_kind_row" s_is_kind_row)
    (d_are_kinds : DefK K "are_kinds" s_are_kinds)
    (d_Stock___init__ : MetK K C_stock "__init__" "Stock.__init__" s_Stock___init__ f_Stock___init__)
    (d_is_sort : DefK K "is_sort" s_is_sort)
    (d_is_kind : DefK K "is_kind" s_is_kind)
    (d_ends_of : DefK K "ends_of" s_ends_of)
    (d_are_corners : DefK K "are_corners" s_are_corners)
    (d_is_leg : DefK K "is_leg" s_is_leg)
    (d_are_legs : DefK K "are_legs" s_are_legs)
    (d_sure_corners : DefK K "sure_corners" s_sure_corners)
    (d_factorial : DefK K "factorial" s_factorial)
    (d_group : DefK K "group" s_group)
    (d__law_state : DefK K "_law_state" s__law_state)
    (d__law_pick : DefK K "_law_pick" s__law_pick)
    (d__law_words : DefK K "_law_words" s__law_words)
    (d__law_stock_rows : DefK K "_law_stock_rows" s__law_stock_rows)
    (d__law_changes : DefK K "_law_changes" s__law_changes)
    (d_law : DefK K "law" s_law)
    (hm : ∀ c, lawOk (m_law c) 12) :
    ∃ fd : FuncData, (∀ (s : Shared) (v : Value), BindsTo s fd ⟨[v], []⟩ [("_law_script", v)]) ∧ ∀ base : Heap, K.In base → base.Ns mainGlobals mg → FnOk P w K mg base CX0 6 fa fd ["_law_script"] (spLawD K) := by
  obtain ⟨f, fd, h1, h2, h3, kV, dc, pm, an, cd, ct, rfl⟩ := d_law.ex
  have e := hfa.symm.trans (PySem.W.mg_of X G h1)
  cases e
  obtain ⟨v_LETTERS, u_LETTERS, t_LETTERS, e_LETTERS⟩ := y_LETTERS
  subst e_LETTERS
  obtain ⟨v_MOST, u_MOST, t_MOST, e_MOST⟩ := y_MOST
  subst e_MOST
  have T : Txt K mg (Cs.mk C_stock 0 0 0) := ⟨PySem.W.mg_none_of X G z_abs,
    PySem.W.mg_none_of X G z_all,
    PySem.W.mg_none_of X G z_bool,
    PySem.W.mg_none_of X G z_dict,
    PySem.W.mg_none_of X G z_enumerate,
    PySem.W.mg_none_of X G z_isinstance,
    PySem.W.mg_none_of X G z_len,
    PySem.W.mg_none_of X G z_list,
    PySem.W.mg_none_of X G z_range,
    PySem.W.mg_none_of X G z_set,
    PySem.W.mg_none_of X G z_sorted,
    PySem.W.mg_none_of X G z_str,
    PySem.W.mg_none_of X G z_tuple,
    ⟨t_LETTERS, PySem.W.mg_of X G u_LETTERS⟩,
    ⟨t_MOST, PySem.W.mg_of X G u_MOST⟩,
    (fun C hC => by
      simp only [List.mem_cons, List.not_mem_nil, or_false] at hC
      subst hC
      exact ⟨k_stock.cls, n_stock_kinds⟩),
    (fun C hC => by
      simp only [List.mem_cons, List.not_mem_nil, or_false] at hC
      subst hC
      exact ⟨k_stock.cls, n_stock_sorts⟩),
    ⟨k_stock.cls, n_stock_kinds⟩,
    ⟨k_stock.cls, n_stock_sorts⟩⟩
  refine ⟨PySem.W.fnOf "law" "law" (defArgs s_law) (defBody s_law) (defScope s_law) .none kV dc pm an cd ct, fun s v => .of_eq rfl, fun base _ _ => ?_⟩
  have h_is_name := callP_of (P := P) (w := w) (base := base) d_is_name X G (fun F => F.binds fun _ _ _ _ _ _ us hl => match us, hl with | [_], _ => rfl) (fun F => ok_is_name F T )
  have h_is_sort_row := callP_of (P := P) (w := w) (base := base) d_is_sort_row X G (fun F => F.binds fun _ _ _ _ _ _ us hl => match us, hl with | [_], _ => rfl) (fun F => ok_is_sort_row F T h_is_name)
  have h_are_sorts := callP_of (P := P) (w := w) (base := base) d_are_sorts X G (fun F => F.binds fun _ _ _ _ _ _ us hl => match us, hl with | [_], _ => rfl) (fun F => ok_are_sorts F T h_is_sort_row)
  have h_is_kind_row := callP_of (P := P) (w := w) (base := base) d_is_kind_row X G (fun F => F.binds fun _ _ _ _ _ _ us hl => match us, hl with | [_, _], _ => rfl) (fun F => ok_is_kind_row F T h_is_name)
  have h_are_kinds := callP_of (P := P) (w := w) (base := base) d_are_kinds X G (fun F => F.binds fun _ _ _ _ _ _ us hl => match us, hl with | [_, _], _ => rfl) (fun F => ok_are_kinds F T h_is_kind_row)
  have h_Stock___init__ := makeI_of (P := P) (w := w) (base := base) k_stock d_Stock___init__ X G (fun F => F.binds fun _ _ _ _ _ _ us hl => match us, hl with | [_, _, _], _ => rfl) (fun F => ok_Stock___init__ F T h_are_sorts h_are_kinds)
  have h_is_sort := callP_of (P := P) (w := w) (base := base) d_is_sort X G (fun F => F.binds fun _ _ _ _ _ _ us hl => match us, hl with | [_, _], _ => rfl) (fun F => ok_is_sort F T )
  have h_is_kind := callP_of (P := P) (w := w) (base := base) d_is_kind X G (fun F => F.binds fun _ _ _ _ _ _ us hl => match us, hl with | [_, _], _ => rfl) (fun F => ok_is_kind F T )
  have h_ends_of := callP_of (P := P) (w := w) (base := base) d_ends_of X G (fun F => F.binds fun _ _ _ _ _ _ us hl => match us, hl with | [_, _], _ => rfl) (fun F => ok_ends_of F T )
  have h_are_corners := callP_of (P := P) (w := w) (base := base) d_are_corners X G (fun F => F.binds fun _ _ _ _ _ _ us hl => match us, hl with | [_, _], _ => rfl) (fun F => ok_are_corners F T h_is_kind)
  have h_is_leg := callP_of (P := P) (w := w) (base := base) d_is_leg X G (fun F => F.binds fun _ _ _ _ _ _ us hl => match us, hl with | [_, _], _ => rfl) (fun F => ok_is_leg F T h_is_sort h_is_name)
  have h_are_legs := callP_of (P := P) (w := w) (base := base) d_are_legs X G (fun F => F.binds fun _ _ _ _ _ _ us hl => match us, hl with | [_, _], _ => rfl) (fun F => ok_are_legs F T h_is_leg)
  have h_sure_corners := callP_of (P := P) (w := w) (base := base) d_sure_corners X G (fun F => F.binds fun _ _ _ _ _ _ us hl => match us, hl with | [_, _, _], _ => rfl) (fun F => ok_sure_corners F T h_are_corners h_are_legs)
  have h_factorial := callP_of (P := P) (w := w) (base := base) d_factorial X G (fun F => F.binds fun _ _ _ _ _ _ us hl => match us, hl with | [_], _ => rfl) (fun F => ok_factorial F T )
  have h_group := callP_of (P := P) (w := w) (base := base) d_group X G (fun F => F.binds fun _ _ _ _ _ _ us hl => match us, hl with | [_, _], _ => rfl) (fun F => ok_group F T h_sure_corners h_factorial h_ends_of)
  have h__law_state := callN_of (P := P) (w := w) (base := base) d__law_state X G (fun F => F.binds fun _ _ _ _ _ _ us hl => match us, hl with | [_], _ => rfl) (fun F => ok__law_state F T )
  have h__law_pick := callI_of (P := P) (w := w) (base := base) d__law_pick X G (fun F => F.binds fun _ _ _ _ _ _ us hl => match us, hl with | [_, _], _ => rfl) (fun F => ok__law_pick F T )
  have h__law_words := callI_of (P := P) (w := w) (base := base) d__law_words X G (fun F => F.binds fun _ _ _ _ _ _ us hl => match us, hl with | [_, _], _ => rfl) (fun F => ok__law_words F T h__law_pick)
  have h__law_stock_rows := callI_of (P := P) (w := w) (base := base) d__law_stock_rows X G (fun F => F.binds fun _ _ _ _ _ _ us hl => match us, hl with | [_, _], _ => rfl) (fun F => ok__law_stock_rows F T h__law_words h__law_pick)
  have h__law_changes := callP_of (P := P) (w := w) (base := base) d__law_changes X G (fun F => F.binds fun _ _ _ _ _ _ us hl => match us, hl with | [_, _], _ => rfl) (fun F => ok__law_changes F T )
  exact ok_law h2 T h__law_state h__law_stock_rows h_Stock___init__ h__law_pick h__law_changes h_group (hm _)
theorem walk {l : PySem.W.OpenLaw} {q : Program} {loose : List Str} {XP : (Str → Option Value) → Heap → Prop} {YP : World → Heap → Prop} {d : DefRec} {K : Params → Fg} (hn : l.most = some 63) (hdf : d.params.defaults = [])
    (hY : ∀ (w : World) (h : Heap), YP w h → (K w.params).In h) (F : ∀ (w : World) (mg : Str → Option Value) (fa : Addr) (h : Heap), (K w.params).In h → h.Ns mainGlobals mg → mg d.name = some (.ref fa) →
      ∃ fd : FuncData, (∀ (s : Shared) (u : Value), BindsTo s fd ⟨[u], []⟩ [("_law_script", u)]) ∧ ∀ base : Heap, (K w.params).In base → base.Ns mainGlobals mg → FnOk l.prog w (K w.params) mg base CX0 6 fa fd ["_law_script"] (spLawD (K w.params))) :
    PySem.W.WalkO q loose XP YP l.row.toRowW d [] (fun f vs => PySem.call f vs) :=
  L2.walk_of (n := 63) (k := 6) (x := "_law_script") (CX := fun _ => CX0) (sp := fun w => spLawD (K w.params)) hn (by decide) hdf ⟨rfl, by decide, by decide⟩ hY F (fun _ _ a ns hl _ hS => ⟨a, ns, rfl, hS, hl, fun _ => rfl⟩) fun _ _ _ _ _ z => z
end G

set_option Elab.async false
set_option linter.all false
set_option maxRecDepth 100000
set_option maxHeartbeats 2000000
/-! MK26: the law on groups, over mirrors. -/
namespace G
open PySem L2 DL PG
section
variable (c : Cs) {sorts : List (Str × Str)} {ks : List (Str × List Str)} (hS : StockOk sorts ks)
include hS
theorem ch_inner {p : Str × List Str} (hp : p ∈ ks) (A : Nat) (f0 f1 f3 f4 f6 f7 : Sl) : ∃ s6 s7, forL (gT (gsC (gN 6) (gsC (gN 7) gs0))) (B__law_changes_0 c) (enumD (p.2.map .str)) [f0, f1, .fr (.int A), f3, f4, .fr (.tup (p.2.map .str)), f6, f7] =
    some (.nx [f0, f1, .fr (.int (A * rk [] p.2 : Nat)), f3, f4, .fr (.tup (p.2.map .str)), s6, s7]) := by
  rw [enum_map]
  obtain ⟨δ', h1, ⟨s6, s7, rfl⟩⟩ := forL_ix (enc := fun q : Str × Nat => D.tup [.int (q.2 : Nat), .str q.1]) (g := gT (gsC (gN 6) (gsC (gN 7) gs0))) (b := B__law_changes_0 c) (as := p.2.zipIdx) (fun i δ => ∃ s6 s7, δ = [f0, f1, .fr (.int (A * rk [] (p.2.take i) : Nat)), f3, f4, .fr (.tup (p.2.map .str)), s6, s7])
    (δ := [f0, f1, .fr (.int A), f3, f4, .fr (.tup (p.2.map .str)), f6, f7]) ⟨f6, f7, by simp [rk]⟩ (by
      rintro i q δ ha ⟨s6, s7, rfl⟩
      obtain ⟨hq, rfl⟩ := zip_at ha
      have hx : q.1 ∈ p.2 := List.mem_of_getElem? hq
      have hs := slD_toT p.2 q.2
      have hc : cntD (.tup ((p.2.take q.2).map .str)) (.str q.1) = some (.int ((p.2.take q.2).count q.1 : Nat)) := by
        rw [cntD_tup 0 (end_name hS hp hx).pl (strs_pl hS.so fun z hz => end_name hS hp (List.mem_of_mem_take hz)), count_strs]
      have hcl : (p.2.take q.2).count q.1 ≤ 6 := Nat.le_trans List.count_le_length (Nat.le_trans (List.length_take_le' _ _) (Nat.le_trans (hS.en p hp).hi (by decide)))
      have m : mulOk ((A * rk [] (p.2.take q.2) : Nat) : Int) (1 + ((p.2.take q.2).count q.1 : Nat)) = true := mulOk_r (by omega)
      have e : ((A * rk [] (p.2.take (q.2 + 1)) : Nat) : Int) = ((A * rk [] (p.2.take q.2) : Nat) : Int) * (1 + ((p.2.take q.2).count q.1 : Nat)) := by
        rw [take_snoc hq, rk_snoc, List.nil_append, ← Nat.mul_assoc, Int.natCast_mul (A * rk [] (p.2.take q.2)), Int.natCast_add]
        rfl
      refine ⟨_, [f0, f1, .fr (.int (A * rk [] (p.2.take (q.2 + 1)) : Nat)), f3, f4, .fr (.tup (p.2.map .str)), .fr (.int (q.2 : Nat)), .fr (.str q.1)], rfl, ?_, _, _, rfl⟩
      rw [e]
      simp only [lift_e, liftK_s, mC_e, mVar_e, mOv_e, mVal_e, rd_v, rd_s, m1_e, m1K_o, m1L_s, m2_e, m2K_o, m2L_o, m2N_s, lstM_s, mn1_e, mn2_e, maNil_e, maCons_e, acK_o, mdNil_e, mdCons_e, dcK_o, rds_n, rds_c, consO_s, mA_e, mnA_e, aK_o, aL_s, fA1_e, fN1_e, mTup_e, mLst_e, mTest_e, mNot_e, mAnd_e, mOr_e, mAndV_e, mOrV_e, mNotV_e, mIfE_e, mChain_e, mNext_e, mSeq_e, mIf_e, mRet_e, mRetW_e, mRetO_e, mDrop_e, mAsg_e, mAsgO_e, gN_e, gs0_e, gsC_e, gT_e, gTL_e, mIt_e, mSeqOf_e, mTupOf_e, mSeqB_e, mFor_e, forL_n, forL_c, mCallP_e, mCallN_e, ownO_e, mCallI_e, mMakeP_e, ownL_e, mMut_e, appF_e, mPutI_e, ownI_e, mSetF_e, mpNone_e, mpSome_e, mSl_e, mCount_e, defG_e, defI_e, defN_e, varK_1, varK_2, ovK_1, ovK_2, ovK_3, ovK_4, valK_1, valK_2, valK_3, datK_1, datK_2, datK_3, datK_4, m1L_1, m1L_2, m1K_1, m1K_2, m1K_3, m2N_1, acL_1, acL_2, acL_3, dcL_1, dcL_2, dcL_3, consO_1, aL_1, aL_2, tupK_1, tupK_2, tupK_3, lstK_1, lstK_2, lstK_3, testK_1, testK_2, notK_1, notK_2, notK_3, andK_1, andK_2, andK_3, andK_4, orK_1, orK_2, orK_3, orK_4, andvK_1, andvK_2, andvK_3, orvK_1, orvK_2, orvK_3, notvK_1, notvK_2, ifeK_1, ifeK_2, ifeK_3, ifeK_4, chN_1, chN_2, chM_1, chL_1, chL_2, chL_3, chK_1, chK_2, chK_3, seqK_1, seqK_2, seqK_3, seqK_4, seqK_5, seqK_6, seqK_7, ifK_1, ifK_2, ifK_3, ifK_4, retK_1, retK_2, retK_3, retwK_1, retwK_2, retwK_3, retoK_1, dropK_1, dropK_2, dropK_3, nxK_1, nxK_2, asgK_1, asgK_2, asgK_3, asgoK_1, asgoK_2, asgoK_3, gscK_1, gscK_2, itK_1, itK_2, itK_3, sqK_1, sqK_2, tqK_1, tqK_2, sbK_1, sbK_2, sbK_3, forK_1, forK_2, forK_3, flL_1, flL_2, flL_3, flL_4, flL_5, flL_6, flL_7, flK_1, flK_2, cpL_1, cpL_2, cpK_1, cpK_2, cpK_3, ownK_1, ownK_2, ciM_1, ciM_2, ciL_1, ciK_1, ciK_2, ciK_3, ciH_1, ciH_2, mkN_1, mkL_1, mkL_2, mkK_1, mkK_2, mkK_3, olK_1, olK_2, muN_1, muN_2, muL_1, muL_2, muK_1, muK_2, muK_3, muH_1, muH_2, puN_1, puN_2, puM_1, puM_2, puL_1, puL_2, puH_1, puH_2, puK_1, puK_2, puK_3, oiK_1, oiK_2, sfL_1, sfL_2, sfK_1, sfK_2, sfK_3, psK_1, psK_2, slN_1, slN_2, slM_1, slM_2, slM_3, slL_1, slL_2, slL_3, slK_1, slK_2, slK_3, cnM_1, cnL_1, cnL_2, cnL_3, cnJ_1, cnJ_2, cnI_1, cnI_2, cnK_1, cnK_2, cnK_3, gD_1, gD_2, io0K_1, gI_1, gI_2, gNw_1, isB_str_non, isB_str_bl, isB_str_int, isB_str_str, isB_str_tup, isB_str_lst, isB_str_dk, isB_list_non, isB_list_bl, isB_list_int, isB_list_str, isB_list_tup, isB_list_lst, isB_list_dk, isB_tuple_non, isB_tuple_bl, isB_tuple_int, isB_tuple_str, isB_tuple_tup, isB_tuple_lst, isB_tuple_dk, isB_int_non, isB_int_bl, isB_int_int, isB_int_str, isB_int_tup, isB_int_lst, isB_int_dk, isB_bool_non, isB_bool_bl, isB_bool_int, isB_bool_str, isB_bool_tup, isB_bool_lst, isB_bool_dk, isB_dict_non, isB_dict_bl, isB_dict_int, isB_dict_str, isB_dict_tup, isB_dict_lst, isB_dict_dk, bK_1, sK_1, fI0_ii, fI_ii, addD_ii, lenD_lst, lenD_tup, tupD_lst, tupD_tup, listD_lst, listD_tup, kindD_lst, kindD_tup, revLD_lst, rown_ow, rown_io, sl_fr, sl_bo, sl_io, entry_n, entry_c, frOk_n, frOk_f, frOk_b, apart_n, apart_v, apart_s, startE, List.length_cons, List.length_nil, List.replicate, List.cons_append, List.nil_append, Nat.reduceAdd, Nat.reduceSub, Nat.zero_add, List.getElem?_cons_zero, List.getElem?_cons_succ, List.set_cons_zero, List.set_cons_succ, if_true, if_false, reduceIte, decide_true, decide_false, Bool.not_true, Bool.not_false, Bool.and_self, Bool.true_and, Bool.and_true, Bool.false_eq_true, LB, Nat.reduceLeDiff, Nat.reduceLT, Nat.reduceBNe, Nat.reduceBEq, B__law_changes_0, hs, hc, m])
  have e : p.2.zipIdx.length = p.2.length := by simp
  rw [e, List.take_length] at h1
  exact ⟨s6, s7, h1⟩
/-- what the law itself reckons -/
def chN (ks : List (Str × List Str)) (cs : List Str) : Nat := rk [] cs * pr (cs.map fun n => rk [] (ownOf ks n))
theorem changes_ok {cs : List Str} (hC : CornersOk ks cs) : g__law_changes c [kindsD ks, .lst (cs.map .str)] = some (.int (chN ks cs)) := by
  obtain ⟨δ', h1, ⟨s3, s4, s5, s6, s7, rfl⟩⟩ := forL_ix (enc := fun q : Str × Nat => D.tup [.int (q.2 : Nat), .str q.1]) (g := gT (gsC (gN 3) (gsC (gN 4) gs0))) (b := B__law_changes_1 c) (as := cs.zipIdx)
    (fun i δ => ∃ s3 s4 s5 s6 s7, δ = [.fr (kindsD ks), .fr (.lst (cs.map .str)), .fr (.int (rk [] (cs.take i) * pr ((cs.take i).map fun n => rk [] (ownOf ks n)) : Nat)), s3, s4, s5, s6, s7])
    (δ := [.fr (kindsD ks), .fr (.lst (cs.map .str)), .fr (.int 1), .un, .un, .un, .un, .un]) ⟨.un, .un, .un, .un, .un, by simp [rk, pr]⟩ (by
      rintro i q δ ha ⟨s3, s4, s5, s6, s7, rfl⟩
      obtain ⟨hq, rfl⟩ := zip_at ha
      have hx : q.1 ∈ cs := List.mem_of_getElem? hq
      obtain ⟨p, hp, ep⟩ := List.mem_map.mp (hC.mem _ hx)
      have hd := dict_kinds hS
      have hg : dgetD (.dk (ks.map fun p => Sum.inr p.1) (ks.map fun p => .tup (p.2.map .str))) (.str q.1) = some (.tup (p.2.map .str)) := by
        rw [← ep]
        simp only [dgetD, keyD, lookK_lk (fun p : Str × List Str => D.tup (p.2.map .str)), lk_self hS.nd hp]; rfl
      have hs := slD_to cs q.2
      have hc : cntD (.lst ((cs.take q.2).map .str)) (.str q.1) = some (.int ((cs.take q.2).count q.1 : Nat)) := by
        rw [cntD_lst 0 (corner_name hS hC hx).pl (strs_pl hS.so fun z hz => corner_name hS hC (List.mem_of_mem_take hz)), count_strs]
      have hcl : (cs.take q.2).count q.1 ≤ 6 := Nat.le_trans List.count_le_length (Nat.le_trans (List.length_take_le' _ _) hC.hi)
      have m : mulOk ((rk [] (cs.take q.2) * pr ((cs.take q.2).map fun n => rk [] (ownOf ks n)) : Nat) : Int) (1 + ((cs.take q.2).count q.1 : Nat)) = true := mulOk_r (by omega)
      have e1 : ((rk [] (cs.take q.2) * pr ((cs.take q.2).map fun n => rk [] (ownOf ks n)) : Nat) : Int) * (1 + ((cs.take q.2).count q.1 : Nat)) = ((rk [] (cs.take q.2) * pr ((cs.take q.2).map fun n => rk [] (ownOf ks n)) * (1 + (cs.take q.2).count q.1) : Nat) : Int) := by
        rw [Int.natCast_mul (rk [] (cs.take q.2) * pr ((cs.take q.2).map fun n => rk [] (ownOf ks n))), Int.natCast_add]
        rfl
      obtain ⟨s6', s7', hi⟩ := ch_inner c hS hp (rk [] (cs.take q.2) * pr ((cs.take q.2).map fun n => rk [] (ownOf ks n)) * (1 + (cs.take q.2).count q.1)) (.fr (kindsD ks)) (.fr (.lst (cs.map .str))) (.fr (.int (q.2 : Nat))) (.fr (.str q.1)) s6 s7
      have he : enumF [.tup (p.2.map .str)] = some (enumD (p.2.map .str)) := rfl
      have e2 : rk [] (cs.take (q.2 + 1)) * pr ((cs.take (q.2 + 1)).map fun n => rk [] (ownOf ks n)) = rk [] (cs.take q.2) * pr ((cs.take q.2).map fun n => rk [] (ownOf ks n)) * (1 + (cs.take q.2).count q.1) * rk [] p.2 := by
        rw [take_snoc hq, rk_snoc, List.nil_append, List.map_append, List.map_singleton, pr_snoc, ← ep, own_self hS.nd hp]
        simp only [Nat.mul_assoc, Nat.mul_left_comm, Nat.mul_comm]
      refine ⟨_, [.fr (kindsD ks), .fr (.lst (cs.map .str)), .fr (.int (rk [] (cs.take (q.2 + 1)) * pr ((cs.take (q.2 + 1)).map fun n => rk [] (ownOf ks n)) : Nat)), .fr (.int (q.2 : Nat)), .fr (.str q.1), .fr (.tup (p.2.map .str)), s6', s7'], rfl, ?_, _, _, _, _, _, rfl⟩
      rw [e2]
      simp only [lift_e, liftK_s, mC_e, mVar_e, mOv_e, mVal_e, rd_v, rd_s, m1_e, m1K_o, m1L_s, m2_e, m2K_o, m2L_o, m2N_s, lstM_s, mn1_e, mn2_e, maNil_e, maCons_e, acK_o, mdNil_e, mdCons_e, dcK_o, rds_n, rds_c, consO_s, mA_e, mnA_e, aK_o, aL_s, fA1_e, fN1_e, mTup_e, mLst_e, mTest_e, mNot_e, mAnd_e, mOr_e, mAndV_e, mOrV_e, mNotV_e, mIfE_e, mChain_e, mNext_e, mSeq_e, mIf_e, mRet_e, mRetW_e, mRetO_e, mDrop_e, mAsg_e, mAsgO_e, gN_e, gs0_e, gsC_e, gT_e, gTL_e, mIt_e, mSeqOf_e, mTupOf_e, mSeqB_e, mFor_e, forL_n, forL_c, mCallP_e, mCallN_e, ownO_e, mCallI_e, mMakeP_e, ownL_e, mMut_e, appF_e, mPutI_e, ownI_e, mSetF_e, mpNone_e, mpSome_e, mSl_e, mCount_e, defG_e, defI_e, defN_e, varK_1, varK_2, ovK_1, ovK_2, ovK_3, ovK_4, valK_1, valK_2, valK_3, datK_1, datK_2, datK_3, datK_4, m1L_1, m1L_2, m1K_1, m1K_2, m1K_3, m2N_1, acL_1, acL_2, acL_3, dcL_1, dcL_2, dcL_3, consO_1, aL_1, aL_2, tupK_1, tupK_2, tupK_3, lstK_1, lstK_2, lstK_3, testK_1, testK_2, notK_1, notK_2, notK_3, andK_1, andK_2, andK_3, andK_4, orK_1, orK_2, orK_3, orK_4, andvK_1, andvK_2, andvK_3, orvK_1, orvK_2, orvK_3, notvK_1, notvK_2, ifeK_1, ifeK_2, ifeK_3, ifeK_4, chN_1, chN_2, chM_1, chL_1, chL_2, chL_3, chK_1, chK_2, chK_3, seqK_1, seqK_2, seqK_3, seqK_4, seqK_5, seqK_6, seqK_7, ifK_1, ifK_2, ifK_3, ifK_4, retK_1, retK_2, retK_3, retwK_1, retwK_2, retwK_3, retoK_1, dropK_1, dropK_2, dropK_3, nxK_1, nxK_2, asgK_1, asgK_2, asgK_3, asgoK_1, asgoK_2, asgoK_3, gscK_1, gscK_2, itK_1, itK_2, itK_3, sqK_1, sqK_2, tqK_1, tqK_2, sbK_1, sbK_2, sbK_3, forK_1, forK_2, forK_3, flL_1, flL_2, flL_3, flL_4, flL_5, flL_6, flL_7, flK_1, flK_2, cpL_1, cpL_2, cpK_1, cpK_2, cpK_3, ownK_1, ownK_2, ciM_1, ciM_2, ciL_1, ciK_1, ciK_2, ciK_3, ciH_1, ciH_2, mkN_1, mkL_1, mkL_2, mkK_1, mkK_2, mkK_3, olK_1, olK_2, muN_1, muN_2, muL_1, muL_2, muK_1, muK_2, muK_3, muH_1, muH_2, puN_1, puN_2, puM_1, puM_2, puL_1, puL_2, puH_1, puH_2, puK_1, puK_2, puK_3, oiK_1, oiK_2, sfL_1, sfL_2, sfK_1, sfK_2, sfK_3, psK_1, psK_2, slN_1, slN_2, slM_1, slM_2, slM_3, slL_1, slL_2, slL_3, slK_1, slK_2, slK_3, cnM_1, cnL_1, cnL_2, cnL_3, cnJ_1, cnJ_2, cnI_1, cnI_2, cnK_1, cnK_2, cnK_3, gD_1, gD_2, io0K_1, gI_1, gI_2, gNw_1, isB_str_non, isB_str_bl, isB_str_int, isB_str_str, isB_str_tup, isB_str_lst, isB_str_dk, isB_list_non, isB_list_bl, isB_list_int, isB_list_str, isB_list_tup, isB_list_lst, isB_list_dk, isB_tuple_non, isB_tuple_bl, isB_tuple_int, isB_tuple_str, isB_tuple_tup, isB_tuple_lst, isB_tuple_dk, isB_int_non, isB_int_bl, isB_int_int, isB_int_str, isB_int_tup, isB_int_lst, isB_int_dk, isB_bool_non, isB_bool_bl, isB_bool_int, isB_bool_str, isB_bool_tup, isB_bool_lst, isB_bool_dk, isB_dict_non, isB_dict_bl, isB_dict_int, isB_dict_str, isB_dict_tup, isB_dict_lst, isB_dict_dk, bK_1, sK_1, fI0_ii, fI_ii, addD_ii, lenD_lst, lenD_tup, tupD_lst, tupD_tup, listD_lst, listD_tup, kindD_lst, kindD_tup, revLD_lst, rown_ow, rown_io, sl_fr, sl_bo, sl_io, entry_n, entry_c, frOk_n, frOk_f, frOk_b, apart_n, apart_v, apart_s, startE, List.length_cons, List.length_nil, List.replicate, List.cons_append, List.nil_append, Nat.reduceAdd, Nat.reduceSub, Nat.zero_add, List.getElem?_cons_zero, List.getElem?_cons_succ, List.set_cons_zero, List.set_cons_succ, if_true, if_false, reduceIte, decide_true, decide_false, Bool.not_true, Bool.not_false, Bool.and_self, Bool.true_and, Bool.and_true, Bool.false_eq_true, LB, Nat.reduceLeDiff, Nat.reduceLT, Nat.reduceBNe, Nat.reduceBEq, B__law_changes_1, hd, hg, hs, hc, m, e1, he, hi])
  have e : cs.zipIdx.length = cs.length := by simp
  rw [e, List.take_length] at h1
  have he : enumF [.lst (cs.map .str)] = some (cs.zipIdx.map fun q => .tup [.int (q.2 : Nat), .str q.1]) := by
    show some (enumD (cs.map .str)) = _
    rw [enum_map]
  simp only [lift_e, liftK_s, mC_e, mVar_e, mOv_e, mVal_e, rd_v, rd_s, m1_e, m1K_o, m1L_s, m2_e, m2K_o, m2L_o, m2N_s, lstM_s, mn1_e, mn2_e, maNil_e, maCons_e, acK_o, mdNil_e, mdCons_e, dcK_o, rds_n, rds_c, consO_s, mA_e, mnA_e, aK_o, aL_s, fA1_e, fN1_e, mTup_e, mLst_e, mTest_e, mNot_e, mAnd_e, mOr_e, mAndV_e, mOrV_e, mNotV_e, mIfE_e, mChain_e, mNext_e, mSeq_e, mIf_e, mRet_e, mRetW_e, mRetO_e, mDrop_e, mAsg_e, mAsgO_e, gN_e, gs0_e, gsC_e, gT_e, gTL_e, mIt_e, mSeqOf_e, mTupOf_e, mSeqB_e, mFor_e, forL_n, forL_c, mCallP_e, mCallN_e, ownO_e, mCallI_e, mMakeP_e, ownL_e, mMut_e, appF_e, mPutI_e, ownI_e, mSetF_e, mpNone_e, mpSome_e, mSl_e, mCount_e, defG_e, defI_e, defN_e, varK_1, varK_2, ovK_1, ovK_2, ovK_3, ovK_4, valK_1, valK_2, valK_3, datK_1, datK_2, datK_3, datK_4, m1L_1, m1L_2, m1K_1, m1K_2, m1K_3, m2N_1, acL_1, acL_2, acL_3, dcL_1, dcL_2, dcL_3, consO_1, aL_1, aL_2, tupK_1, tupK_2, tupK_3, lstK_1, lstK_2, lstK_3, testK_1, testK_2, notK_1, notK_2, notK_3, andK_1, andK_2, andK_3, andK_4, orK_1, orK_2, orK_3, orK_4, andvK_1, andvK_2, andvK_3, orvK_1, orvK_2, orvK_3, notvK_1, notvK_2, ifeK_1, ifeK_2, ifeK_3, ifeK_4, chN_1, chN_2, chM_1, chL_1, chL_2, chL_3, chK_1, chK_2, chK_3, seqK_1, seqK_2, seqK_3, seqK_4, seqK_5, seqK_6, seqK_7, ifK_1, ifK_2, ifK_3, ifK_4, retK_1, retK_2, retK_3, retwK_1, retwK_2, retwK_3, retoK_1, dropK_1, dropK_2, dropK_3, nxK_1, nxK_2, asgK_1, asgK_2, asgK_3, asgoK_1, asgoK_2, asgoK_3, gscK_1, gscK_2, itK_1, itK_2, itK_3, sqK_1, sqK_2, tqK_1, tqK_2, sbK_1, sbK_2, sbK_3, forK_1, forK_2, forK_3, flL_1, flL_2, flL_3, flL_4, flL_5, flL_6, flL_7, flK_1, flK_2, cpL_1, cpL_2, cpK_1, cpK_2, cpK_3, ownK_1, ownK_2, ciM_1, ciM_2, ciL_1, ciK_1, ciK_2, ciK_3, ciH_1, ciH_2, mkN_1, mkL_1, mkL_2, mkK_1, mkK_2, mkK_3, olK_1, olK_2, muN_1, muN_2, muL_1, muL_2, muK_1, muK_2, muK_3, muH_1, muH_2, puN_1, puN_2, puM_1, puM_2, puL_1, puL_2, puH_1, puH_2, puK_1, puK_2, puK_3, oiK_1, oiK_2, sfL_1, sfL_2, sfK_1, sfK_2, sfK_3, psK_1, psK_2, slN_1, slN_2, slM_1, slM_2, slM_3, slL_1, slL_2, slL_3, slK_1, slK_2, slK_3, cnM_1, cnL_1, cnL_2, cnL_3, cnJ_1, cnJ_2, cnI_1, cnI_2, cnK_1, cnK_2, cnK_3, gD_1, gD_2, io0K_1, gI_1, gI_2, gNw_1, isB_str_non, isB_str_bl, isB_str_int, isB_str_str, isB_str_tup, isB_str_lst, isB_str_dk, isB_list_non, isB_list_bl, isB_list_int, isB_list_str, isB_list_tup, isB_list_lst, isB_list_dk, isB_tuple_non, isB_tuple_bl, isB_tuple_int, isB_tuple_str, isB_tuple_tup, isB_tuple_lst, isB_tuple_dk, isB_int_non, isB_int_bl, isB_int_int, isB_int_str, isB_int_tup, isB_int_lst, isB_int_dk, isB_bool_non, isB_bool_bl, isB_bool_int, isB_bool_str, isB_bool_tup, isB_bool_lst, isB_bool_dk, isB_dict_non, isB_dict_bl, isB_dict_int, isB_dict_str, isB_dict_tup, isB_dict_lst, isB_dict_dk, bK_1, sK_1, fI0_ii, fI_ii, addD_ii, lenD_lst, lenD_tup, tupD_lst, tupD_tup, listD_lst, listD_tup, kindD_lst, kindD_tup, revLD_lst, rown_ow, rown_io, sl_fr, sl_bo, sl_io, entry_n, entry_c, frOk_n, frOk_f, frOk_b, apart_n, apart_v, apart_s, startE, List.length_cons, List.length_nil, List.replicate, List.cons_append, List.nil_append, Nat.reduceAdd, Nat.reduceSub, Nat.zero_add, List.getElem?_cons_zero, List.getElem?_cons_succ, List.set_cons_zero, List.set_cons_succ, if_true, if_false, reduceIte, decide_true, decide_false, Bool.not_true, Bool.not_false, Bool.and_self, Bool.true_and, Bool.and_true, Bool.false_eq_true, LB, Nat.reduceLeDiff, Nat.reduceLT, Nat.reduceBNe, Nat.reduceBEq, g__law_changes, m__law_changes, he, h1, chN]
theorem group_ch {cs ds : List Str} (hC : CornersOk ks cs) (p : ds.Perm cs) : groupN ks ds = chN ks cs := by
  unfold groupN chN
  rw [ways_perm p, ways_eq hS.nd hC.mem, pr_map_perm p]
theorem CornersOk.perm {cs ds : List Str} (hC : CornersOk ks cs) (p : ds.Perm cs) : CornersOk ks ds := ⟨by rw [p.length_eq]; exact hC.hi, fun n hn => hC.mem n (p.mem_iff.mp hn)⟩
end
section
variable (c : Cs) {sorts : List (Str × Str)} {ks : List (Str × List Str)} (hS : StockOk sorts ks)
include hS
theorem draw_corner (a b k : Int) (f0 f1 f3 f5 f6 f7 f8 f9 f10 f11 : Sl) : ∃ (a' b' k' : Int) (x : Str), E_law_0 c [f0, f1, .ow (rs a b k), f3, .fr (kindsD ks), f5, f6, f7, f8, f9, f10, f11] = some (.ok (.str x) [f0, f1, .ow (rs a' b' k'), f3, .fr (kindsD ks), f5, f6, f7, f8, f9, f10, f11]) ∧ x ∈ ks.map fun p => p.1 := by
  have hl := hS.lo
  have hh := hS.hi
  obtain ⟨r, a', b', k', hp, h0, h1⟩ := pick_spec c a b k ks.length (by omega) (by omega)
  obtain ⟨h, e⟩ := atI_nat (xs := ks.map kindD) h0 (by rw [List.length_map]; exact h1)
  have h' : r.toNat < ks.length := by rw [List.length_map] at h; exact h
  rw [List.getElem_map] at e
  have e1 : ixD (kindsD ks) (.int r) = some (kindD (ks[r.toNat]'h')) := e
  have e2 : ixD (kindD (ks[r.toNat]'h')) (.int 0) = some (.str (ks[r.toNat]'h').1) := rfl
  have e3 : lenD (kindsD ks) = some (.int ks.length) := by simp [kindsD, lenD]
  refine ⟨a', b', k', (ks[r.toNat]'h').1, ?_, List.mem_map.mpr ⟨_, List.getElem_mem h', rfl⟩⟩
  simp only [lift_e, liftK_s, mC_e, mVar_e, mOv_e, mVal_e, rd_v, rd_s, m1_e, m1K_o, m1L_s, m2_e, m2K_o, m2L_o, m2N_s, lstM_s, mn1_e, mn2_e, maNil_e, maCons_e, acK_o, mdNil_e, mdCons_e, dcK_o, rds_n, rds_c, consO_s, mA_e, mnA_e, aK_o, aL_s, fA1_e, fN1_e, mTup_e, mLst_e, mTest_e, mNot_e, mAnd_e, mOr_e, mAndV_e, mOrV_e, mNotV_e, mIfE_e, mChain_e, mNext_e, mSeq_e, mIf_e, mRet_e, mRetW_e, mRetO_e, mDrop_e, mAsg_e, mAsgO_e, gN_e, gs0_e, gsC_e, gT_e, gTL_e, mIt_e, mSeqOf_e, mTupOf_e, mSeqB_e, mFor_e, forL_n, forL_c, mCallP_e, mCallN_e, ownO_e, mCallI_e, mMakeP_e, ownL_e, mMut_e, appF_e, mPutI_e, ownI_e, mSetF_e, mpNone_e, mpSome_e, mSl_e, mCount_e, defG_e, defI_e, defN_e, varK_1, varK_2, ovK_1, ovK_2, ovK_3, ovK_4, valK_1, valK_2, valK_3, datK_1, datK_2, datK_3, datK_4, m1L_1, m1L_2, m1K_1, m1K_2, m1K_3, m2N_1, acL_1, acL_2, acL_3, dcL_1, dcL_2, dcL_3, consO_1, aL_1, aL_2, tupK_1, tupK_2, tupK_3, lstK_1, lstK_2, lstK_3, testK_1, testK_2, notK_1, notK_2, notK_3, andK_1, andK_2, andK_3, andK_4, orK_1, orK_2, orK_3, orK_4, andvK_1, andvK_2, andvK_3, orvK_1, orvK_2, orvK_3, notvK_1, notvK_2, ifeK_1, ifeK_2, ifeK_3, ifeK_4, chN_1, chN_2, chM_1, chL_1, chL_2, chL_3, chK_1, chK_2, chK_3, seqK_1, seqK_2, seqK_3, seqK_4, seqK_5, seqK_6, seqK_7, ifK_1, ifK_2, ifK_3, ifK_4, retK_1, retK_2, retK_3, retwK_1, retwK_2, retwK_3, retoK_1, dropK_1, dropK_2, dropK_3, nxK_1, nxK_2, asgK_1, asgK_2, asgK_3, asgoK_1, asgoK_2, asgoK_3, gscK_1, gscK_2, itK_1, itK_2, itK_3, sqK_1, sqK_2, tqK_1, tqK_2, sbK_1, sbK_2, sbK_3, forK_1, forK_2, forK_3, flL_1, flL_2, flL_3, flL_4, flL_5, flL_6, flL_7, flK_1, flK_2, cpL_1, cpL_2, cpK_1, cpK_2, cpK_3, ownK_1, ownK_2, ciM_1, ciM_2, ciL_1, ciK_1, ciK_2, ciK_3, ciH_1, ciH_2, mkN_1, mkL_1, mkL_2, mkK_1, mkK_2, mkK_3, olK_1, olK_2, muN_1, muN_2, muL_1, muL_2, muK_1, muK_2, muK_3, muH_1, muH_2, puN_1, puN_2, puM_1, puM_2, puL_1, puL_2, puH_1, puH_2, puK_1, puK_2, puK_3, oiK_1, oiK_2, sfL_1, sfL_2, sfK_1, sfK_2, sfK_3, psK_1, psK_2, slN_1, slN_2, slM_1, slM_2, slM_3, slL_1, slL_2, slL_3, slK_1, slK_2, slK_3, cnM_1, cnL_1, cnL_2, cnL_3, cnJ_1, cnJ_2, cnI_1, cnI_2, cnK_1, cnK_2, cnK_3, gD_1, gD_2, io0K_1, gI_1, gI_2, gNw_1, isB_str_non, isB_str_bl, isB_str_int, isB_str_str, isB_str_tup, isB_str_lst, isB_str_dk, isB_list_non, isB_list_bl, isB_list_int, isB_list_str, isB_list_tup, isB_list_lst, isB_list_dk, isB_tuple_non, isB_tuple_bl, isB_tuple_int, isB_tuple_str, isB_tuple_tup, isB_tuple_lst, isB_tuple_dk, isB_int_non, isB_int_bl, isB_int_int, isB_int_str, isB_int_tup, isB_int_lst, isB_int_dk, isB_bool_non, isB_bool_bl, isB_bool_int, isB_bool_str, isB_bool_tup, isB_bool_lst, isB_bool_dk, isB_dict_non, isB_dict_bl, isB_dict_int, isB_dict_str, isB_dict_tup, isB_dict_lst, isB_dict_dk, bK_1, sK_1, fI0_ii, fI_ii, addD_ii, lenD_lst, lenD_tup, tupD_lst, tupD_tup, listD_lst, listD_tup, kindD_lst, kindD_tup, revLD_lst, rown_ow, rown_io, sl_fr, sl_bo, sl_io, entry_n, entry_c, frOk_n, frOk_f, frOk_b, apart_n, apart_v, apart_s, startE, List.length_cons, List.length_nil, List.replicate, List.cons_append, List.nil_append, Nat.reduceAdd, Nat.reduceSub, Nat.zero_add, List.getElem?_cons_zero, List.getElem?_cons_succ, List.set_cons_zero, List.set_cons_succ, if_true, if_false, reduceIte, decide_true, decide_false, Bool.not_true, Bool.not_false, Bool.and_self, Bool.true_and, Bool.and_true, Bool.false_eq_true, LB, Nat.reduceLeDiff, Nat.reduceLT, Nat.reduceBNe, Nat.reduceBEq, E_law_0, hp, e1, e2, e3]
theorem draw_corners (a b k : Int) (f0 f1 f3 f5 f6 f7 f8 f9 f10 f11 : Sl) : ∃ (a' b' k' : Int) (cs : List Str), L_law_0 c [f0, f1, .ow (rs a b k), f3, .fr (kindsD ks), f5, f6, f7, f8, f9, f10, f11] = some (.ok (.lst (cs.map .str)) [f0, f1, .ow (rs a' b' k'), f3, .fr (kindsD ks), f5, f6, f7, f8, f9, f10, .un]) ∧ CornersOk ks cs := by
  obtain ⟨r, a1, b1, k1, hp, h0, h1⟩ := pick_spec c a b k 7 (by decide) (by decide)
  have hrg : rg1 [.int r] = some ((List.range r.toNat).map fun i => D.int (0 + (i : Nat))) := by
    have : -1000000 ≤ r ∧ r ≤ 1000000 := by omega
    simp only [rg1, this, and_self, if_true, rangeD]
  obtain ⟨out, δ', g1, g2⟩ := mLc_ix (as := List.range r.toNat) (enc := fun i : Nat => D.int (0 + (i : Nat))) (it := mIt rg1 (mdCons (mCallI 2 [.fr] (g__law_pick c) (maCons (mVal (mC (.int 7))) maNil)) mdNil)) (g := gN 11) (t := mYes) (e := E_law_0 c) (vs := [11])
    (δ := [f0, f1, .ow (rs a b k), f3, .fr (kindsD ks), f5, f6, f7, f8, f9, f10, f11]) (δ0 := [f0, f1, .ow (rs a1 b1 k1), f3, .fr (kindsD ks), f5, f6, f7, f8, f9, f10, f11])
    (fun i acc δ => ∃ (a b k : Int) (cs : List Str), acc = cs.map D.str ∧ cs.length = i ∧ (∀ x ∈ cs, x ∈ ks.map fun p => p.1) ∧ δ = [f0, f1, .ow (rs a b k), f3, .fr (kindsD ks), f5, f6, f7, f8, f9, f10, .un])
    (by simp only [lift_e, liftK_s, mC_e, mVar_e, mOv_e, mVal_e, rd_v, rd_s, m1_e, m1K_o, m1L_s, m2_e, m2K_o, m2L_o, m2N_s, lstM_s, mn1_e, mn2_e, maNil_e, maCons_e, acK_o, mdNil_e, mdCons_e, dcK_o, rds_n, rds_c, consO_s, mA_e, mnA_e, aK_o, aL_s, fA1_e, fN1_e, mTup_e, mLst_e, mTest_e, mNot_e, mAnd_e, mOr_e, mAndV_e, mOrV_e, mNotV_e, mIfE_e, mChain_e, mNext_e, mSeq_e, mIf_e, mRet_e, mRetW_e, mRetO_e, mDrop_e, mAsg_e, mAsgO_e, gN_e, gs0_e, gsC_e, gT_e, gTL_e, mIt_e, mSeqOf_e, mTupOf_e, mSeqB_e, mFor_e, forL_n, forL_c, mCallP_e, mCallN_e, ownO_e, mCallI_e, mMakeP_e, ownL_e, mMut_e, appF_e, mPutI_e, ownI_e, mSetF_e, mpNone_e, mpSome_e, mSl_e, mCount_e, defG_e, defI_e, defN_e, varK_1, varK_2, ovK_1, ovK_2, ovK_3, ovK_4, valK_1, valK_2, valK_3, datK_1, datK_2, datK_3, datK_4, m1L_1, m1L_2, m1K_1, m1K_2, m1K_3, m2N_1, acL_1, acL_2, acL_3, dcL_1, dcL_2, dcL_3, consO_1, aL_1, aL_2, tupK_1, tupK_2, tupK_3, lstK_1, lstK_2, lstK_3, testK_1, testK_2, notK_1, notK_2, notK_3, andK_1, andK_2, andK_3, andK_4, orK_1, orK_2, orK_3, orK_4, andvK_1, andvK_2, andvK_3, orvK_1, orvK_2, orvK_3, notvK_1, notvK_2, ifeK_1, ifeK_2, ifeK_3, ifeK_4, chN_1, chN_2, chM_1, chL_1, chL_2, chL_3, chK_1, chK_2, chK_3, seqK_1, seqK_2, seqK_3, seqK_4, seqK_5, seqK_6, seqK_7, ifK_1, ifK_2, ifK_3, ifK_4, retK_1, retK_2, retK_3, retwK_1, retwK_2, retwK_3, retoK_1, dropK_1, dropK_2, dropK_3, nxK_1, nxK_2, asgK_1, asgK_2, asgK_3, asgoK_1, asgoK_2, asgoK_3, gscK_1, gscK_2, itK_1, itK_2, itK_3, sqK_1, sqK_2, tqK_1, tqK_2, sbK_1, sbK_2, sbK_3, forK_1, forK_2, forK_3, flL_1, flL_2, flL_3, flL_4, flL_5, flL_6, flL_7, flK_1, flK_2, cpL_1, cpL_2, cpK_1, cpK_2, cpK_3, ownK_1, ownK_2, ciM_1, ciM_2, ciL_1, ciK_1, ciK_2, ciK_3, ciH_1, ciH_2, mkN_1, mkL_1, mkL_2, mkK_1, mkK_2, mkK_3, olK_1, olK_2, muN_1, muN_2, muL_1, muL_2, muK_1, muK_2, muK_3, muH_1, muH_2, puN_1, puN_2, puM_1, puM_2, puL_1, puL_2, puH_1, puH_2, puK_1, puK_2, puK_3, oiK_1, oiK_2, sfL_1, sfL_2, sfK_1, sfK_2, sfK_3, psK_1, psK_2, slN_1, slN_2, slM_1, slM_2, slM_3, slL_1, slL_2, slL_3, slK_1, slK_2, slK_3, cnM_1, cnL_1, cnL_2, cnL_3, cnJ_1, cnJ_2, cnI_1, cnI_2, cnK_1, cnK_2, cnK_3, gD_1, gD_2, io0K_1, gI_1, gI_2, gNw_1, isB_str_non, isB_str_bl, isB_str_int, isB_str_str, isB_str_tup, isB_str_lst, isB_str_dk, isB_list_non, isB_list_bl, isB_list_int, isB_list_str, isB_list_tup, isB_list_lst, isB_list_dk, isB_tuple_non, isB_tuple_bl, isB_tuple_int, isB_tuple_str, isB_tuple_tup, isB_tuple_lst, isB_tuple_dk, isB_int_non, isB_int_bl, isB_int_int, isB_int_str, isB_int_tup, isB_int_lst, isB_int_dk, isB_bool_non, isB_bool_bl, isB_bool_int, isB_bool_str, isB_bool_tup, isB_bool_lst, isB_bool_dk, isB_dict_non, isB_dict_bl, isB_dict_int, isB_dict_str, isB_dict_tup, isB_dict_lst, isB_dict_dk, bK_1, sK_1, fI0_ii, fI_ii, addD_ii, lenD_lst, lenD_tup, tupD_lst, tupD_tup, listD_lst, listD_tup, kindD_lst, kindD_tup, revLD_lst, rown_ow, rown_io, sl_fr, sl_bo, sl_io, entry_n, entry_c, frOk_n, frOk_f, frOk_b, apart_n, apart_v, apart_s, startE, List.length_cons, List.length_nil, List.replicate, List.cons_append, List.nil_append, Nat.reduceAdd, Nat.reduceSub, Nat.zero_add, List.getElem?_cons_zero, List.getElem?_cons_succ, List.set_cons_zero, List.set_cons_succ, if_true, if_false, reduceIte, decide_true, decide_false, Bool.not_true, Bool.not_false, Bool.and_self, Bool.true_and, Bool.and_true, Bool.false_eq_true, LB, Nat.reduceLeDiff, Nat.reduceLT, Nat.reduceBNe, Nat.reduceBEq, hp, hrg]) ⟨a1, b1, k1, [], rfl, rfl, (fun x hx => by cases hx), rfl⟩ (by
      rintro i n acc δ _ ⟨a, b, k, cs, rfl, hl, hx, rfl⟩
      obtain ⟨a', b', k', x, e1, e2⟩ := draw_corner c hS a b k f0 f1 f3 f5 f6 f7 f8 f9 f10 (.fr (.int (0 + (n : Nat))))
      refine ⟨_, true, _, rfl, rfl, (fun h => by cases h), fun _ => ⟨.str x, _, e1, a', b', k', cs ++ [x], by rw [List.map_append]; rfl, by rw [List.length_append, hl]; rfl, fun y hy => ?_, rfl⟩⟩
      rcases List.mem_append.mp hy with hy | hy
      · exact hx y hy
      · rw [List.mem_singleton.mp hy]; exact e2)
  obtain ⟨a', b', k', cs, rfl, hl, hx, rfl⟩ := g2
  rw [List.length_range] at hl
  exact ⟨a', b', k', cs, g1, by omega, hx⟩
theorem law_one {cs ds : List Str} (hC : CornersOk ks cs) (p : ds.Perm cs) (f0 f1 f2 f3 f4 f5 f6 f9 f10 f11 : Sl) (h5 : f5 = .ow (stockD c sorts ks) ∨ f5 = .fr (stockD c sorts ks)) : B_law_0 c [f0, f1, f2, f3, f4, f5, f6, .fr (.int (chN ks cs)), .fr (.lst (ds.map .str)), f9, f10, f11] =
    some (.nx [f0, f1, f2, f3, f4, .fr (stockD c sorts ks), f6, .fr (.int (chN ks cs)), .fr (.lst (ds.map .str)), .ow (.lst (ds.map .str)), .fr (.int (chN ks cs)), f11]) := by
  have hg := group_ok c hS (hC.perm hS p)
  rw [group_ch hS hC p] at hg
  have hl : Pl 1 (.lst (ds.map .str)) := Pl.lst (strs_pl hS.so fun z hz => corner_name hS (hC.perm hS p) hz)
  have hn : neD (.lst (ds.map .str)) (.lst (ds.map .str)) = some (.bl false) := by rw [neD_pl 1 hl hl]; simp only [decide_true, Bool.not_true]
  rcases h5 with rfl | rfl <;> simp only [lift_e, liftK_s, mC_e, mVar_e, mOv_e, mVal_e, rd_v, rd_s, m1_e, m1K_o, m1L_s, m2_e, m2K_o, m2L_o, m2N_s, lstM_s, mn1_e, mn2_e, maNil_e, maCons_e, acK_o, mdNil_e, mdCons_e, dcK_o, rds_n, rds_c, consO_s, mA_e, mnA_e, aK_o, aL_s, fA1_e, fN1_e, mTup_e, mLst_e, mTest_e, mNot_e, mAnd_e, mOr_e, mAndV_e, mOrV_e, mNotV_e, mIfE_e, mChain_e, mNext_e, mSeq_e, mIf_e, mRet_e, mRetW_e, mRetO_e, mDrop_e, mAsg_e, mAsgO_e, gN_e, gs0_e, gsC_e, gT_e, gTL_e, mIt_e, mSeqOf_e, mTupOf_e, mSeqB_e, mFor_e, forL_n, forL_c, mCallP_e, mCallN_e, ownO_e, mCallI_e, mMakeP_e, ownL_e, mMut_e, appF_e, mPutI_e, ownI_e, mSetF_e, mpNone_e, mpSome_e, mSl_e, mCount_e, defG_e, defI_e, defN_e, varK_1, varK_2, ovK_1, ovK_2, ovK_3, ovK_4, valK_1, valK_2, valK_3, datK_1, datK_2, datK_3, datK_4, m1L_1, m1L_2, m1K_1, m1K_2, m1K_3, m2N_1, acL_1, acL_2, acL_3, dcL_1, dcL_2, dcL_3, consO_1, aL_1, aL_2, tupK_1, tupK_2, tupK_3, lstK_1, lstK_2, lstK_3, testK_1, testK_2, notK_1, notK_2, notK_3, andK_1, andK_2, andK_3, andK_4, orK_1, orK_2, orK_3, orK_4, andvK_1, andvK_2, andvK_3, orvK_1, orvK_2, orvK_3, notvK_1, notvK_2, ifeK_1, ifeK_2, ifeK_3, ifeK_4, chN_1, chN_2, chM_1, chL_1, chL_2, chL_3, chK_1, chK_2, chK_3, seqK_1, seqK_2, seqK_3, seqK_4, seqK_5, seqK_6, seqK_7, ifK_1, ifK_2, ifK_3, ifK_4, retK_1, retK_2, retK_3, retwK_1, retwK_2, retwK_3, retoK_1, dropK_1, dropK_2, dropK_3, nxK_1, nxK_2, asgK_1, asgK_2, asgK_3, asgoK_1, asgoK_2, asgoK_3, gscK_1, gscK_2, itK_1, itK_2, itK_3, sqK_1, sqK_2, tqK_1, tqK_2, sbK_1, sbK_2, sbK_3, forK_1, forK_2, forK_3, flL_1, flL_2, flL_3, flL_4, flL_5, flL_6, flL_7, flK_1, flK_2, cpL_1, cpL_2, cpK_1, cpK_2, cpK_3, ownK_1, ownK_2, ciM_1, ciM_2, ciL_1, ciK_1, ciK_2, ciK_3, ciH_1, ciH_2, mkN_1, mkL_1, mkL_2, mkK_1, mkK_2, mkK_3, olK_1, olK_2, muN_1, muN_2, muL_1, muL_2, muK_1, muK_2, muK_3, muH_1, muH_2, puN_1, puN_2, puM_1, puM_2, puL_1, puL_2, puH_1, puH_2, puK_1, puK_2, puK_3, oiK_1, oiK_2, sfL_1, sfL_2, sfK_1, sfK_2, sfK_3, psK_1, psK_2, slN_1, slN_2, slM_1, slM_2, slM_3, slL_1, slL_2, slL_3, slK_1, slK_2, slK_3, cnM_1, cnL_1, cnL_2, cnL_3, cnJ_1, cnJ_2, cnI_1, cnI_2, cnK_1, cnK_2, cnK_3, gD_1, gD_2, io0K_1, gI_1, gI_2, gNw_1, isB_str_non, isB_str_bl, isB_str_int, isB_str_str, isB_str_tup, isB_str_lst, isB_str_dk, isB_list_non, isB_list_bl, isB_list_int, isB_list_str, isB_list_tup, isB_list_lst, isB_list_dk, isB_tuple_non, isB_tuple_bl, isB_tuple_int, isB_tuple_str, isB_tuple_tup, isB_tuple_lst, isB_tuple_dk, isB_int_non, isB_int_bl, isB_int_int, isB_int_str, isB_int_tup, isB_int_lst, isB_int_dk, isB_bool_non, isB_bool_bl, isB_bool_int, isB_bool_str, isB_bool_tup, isB_bool_lst, isB_bool_dk, isB_dict_non, isB_dict_bl, isB_dict_int, isB_dict_str, isB_dict_tup, isB_dict_lst, isB_dict_dk, bK_1, sK_1, fI0_ii, fI_ii, addD_ii, lenD_lst, lenD_tup, tupD_lst, tupD_tup, listD_lst, listD_tup, kindD_lst, kindD_tup, revLD_lst, rown_ow, rown_io, sl_fr, sl_bo, sl_io, entry_n, entry_c, frOk_n, frOk_f, frOk_b, apart_n, apart_v, apart_s, startE, List.length_cons, List.length_nil, List.replicate, List.cons_append, List.nil_append, Nat.reduceAdd, Nat.reduceSub, Nat.zero_add, List.getElem?_cons_zero, List.getElem?_cons_succ, List.set_cons_zero, List.set_cons_succ, if_true, if_false, reduceIte, decide_true, decide_false, Bool.not_true, Bool.not_false, Bool.and_self, Bool.true_and, Bool.and_true, Bool.false_eq_true, LB, Nat.reduceLeDiff, Nat.reduceLT, Nat.reduceBNe, Nat.reduceBEq, B_law_0, hg, hn, neD_int]
end
theorem law_turn (c : Cs) (n : Int) (f0 f2 f3 f4 f5 f6 f7 f8 f9 f10 f11 : Sl) : ∃ s2 s3 s4 s5 s6 s7 s8 s9 s10 s11, B_law_1 c [f0, .fr (.int n), f2, f3, f4, f5, f6, f7, f8, f9, f10, f11] = some (.nx [f0, .fr (.int n), s2, s3, s4, s5, s6, s7, s8, s9, s10, s11]) := by
  obtain ⟨a, b, h1⟩ := state_ok c n
  obtain ⟨a1, b1, k1, sorts, ks, h2, hSo, hK, l1, l3, nd, nm⟩ := rows_spec c a b 0 5 (by decide)
  have hS : StockOk sorts ks := ⟨hSo, l1, by omega, nm, nd, fun p hp => hK.ends (by decide) hp⟩
  have h3 := stock_made c hS
  obtain ⟨a2, b2, k2, cs, h4, hC⟩ := draw_corners c hS a1 b1 k1 f0 (.fr (.int n)) (.fr (sortsD sorts)) (.ow (stockD c sorts ks)) f6 f7 f8 f9 f10 f11
  have h5 := changes_ok c hS hC
  have hr : (cs.map D.str).reverse = cs.reverse.map D.str := (List.map_reverse).symm
  have hs := sortF_lst cs (by have := hC.hi; omega)
  have h6 := fun f0 f1 f2 f3 f4 f6 f9 f10 f11 => law_one c hS hC (List.Perm.refl cs) f0 f1 f2 f3 f4 _ f6 f9 f10 f11 (Or.inl rfl)
  have h7 := fun f0 f1 f2 f3 f4 f6 f9 f10 f11 => law_one c hS hC (List.reverse_perm cs) f0 f1 f2 f3 f4 _ f6 f9 f10 f11 (Or.inr rfl)
  have h8 := fun f0 f1 f2 f3 f4 f6 f9 f10 f11 => law_one c hS hC (sortS_perm cs) f0 f1 f2 f3 f4 _ f6 f9 f10 f11 (Or.inr rfl)
  have h9 : g_group c [stockD c sorts ks, .lst []] = some (.int 1) := by
    have := group_ok c hS (cs := []) ⟨by decide, fun n hn => by cases hn⟩
    have e : groupN ks [] = 1 := by
      unfold groupN
      rw [ways_eq nd (fun x hx => by cases hx)]
      rfl
    rw [e] at this
    exact this
  have hst : stockD c sorts ks = .ins c.stock ["sorts", "kinds"] [sortsD sorts, kindsD ks] := rfl
  rw [hst] at h3 h4 h6 h7 h8 h9
  have h2' : g__law_stock_rows c [rs a b 0, .int 5] = some (.tup [sortsD sorts, kindsD ks], rs a1 b1 k1) := h2
  simp only [lift_e, liftK_s, mC_e, mVar_e, mOv_e, mVal_e, rd_v, rd_s, m1_e, m1K_o, m1L_s, m2_e, m2K_o, m2L_o, m2N_s, lstM_s, mn1_e, mn2_e, maNil_e, maCons_e, acK_o, mdNil_e, mdCons_e, dcK_o, rds_n, rds_c, consO_s, mA_e, mnA_e, aK_o, aL_s, fA1_e, fN1_e, mTup_e, mLst_e, mTest_e, mNot_e, mAnd_e, mOr_e, mAndV_e, mOrV_e, mNotV_e, mIfE_e, mChain_e, mNext_e, mSeq_e, mIf_e, mRet_e, mRetW_e, mRetO_e, mDrop_e, mAsg_e, mAsgO_e, gN_e, gs0_e, gsC_e, gT_e, gTL_e, mIt_e, mSeqOf_e, mTupOf_e, mSeqB_e, mFor_e, forL_n, forL_c, mCallP_e, mCallN_e, ownO_e, mCallI_e, mMakeP_e, ownL_e, mMut_e, appF_e, mPutI_e, ownI_e, mSetF_e, mpNone_e, mpSome_e, mSl_e, mCount_e, defG_e, defI_e, defN_e, varK_1, varK_2, ovK_1, ovK_2, ovK_3, ovK_4, valK_1, valK_2, valK_3, datK_1, datK_2, datK_3, datK_4, m1L_1, m1L_2, m1K_1, m1K_2, m1K_3, m2N_1, acL_1, acL_2, acL_3, dcL_1, dcL_2, dcL_3, consO_1, aL_1, aL_2, tupK_1, tupK_2, tupK_3, lstK_1, lstK_2, lstK_3, testK_1, testK_2, notK_1, notK_2, notK_3, andK_1, andK_2, andK_3, andK_4, orK_1, orK_2, orK_3, orK_4, andvK_1, andvK_2, andvK_3, orvK_1, orvK_2, orvK_3, notvK_1, notvK_2, ifeK_1, ifeK_2, ifeK_3, ifeK_4, chN_1, chN_2, chM_1, chL_1, chL_2, chL_3, chK_1, chK_2, chK_3, seqK_1, seqK_2, seqK_3, seqK_4, seqK_5, seqK_6, seqK_7, ifK_1, ifK_2, ifK_3, ifK_4, retK_1, retK_2, retK_3, retwK_1, retwK_2, retwK_3, retoK_1, dropK_1, dropK_2, dropK_3, nxK_1, nxK_2, asgK_1, asgK_2, asgK_3, asgoK_1, asgoK_2, asgoK_3, gscK_1, gscK_2, itK_1, itK_2, itK_3, sqK_1, sqK_2, tqK_1, tqK_2, sbK_1, sbK_2, sbK_3, forK_1, forK_2, forK_3, flL_1, flL_2, flL_3, flL_4, flL_5, flL_6, flL_7, flK_1, flK_2, cpL_1, cpL_2, cpK_1, cpK_2, cpK_3, ownK_1, ownK_2, ciM_1, ciM_2, ciL_1, ciK_1, ciK_2, ciK_3, ciH_1, ciH_2, mkN_1, mkL_1, mkL_2, mkK_1, mkK_2, mkK_3, olK_1, olK_2, muN_1, muN_2, muL_1, muL_2, muK_1, muK_2, muK_3, muH_1, muH_2, puN_1, puN_2, puM_1, puM_2, puL_1, puL_2, puH_1, puH_2, puK_1, puK_2, puK_3, oiK_1, oiK_2, sfL_1, sfL_2, sfK_1, sfK_2, sfK_3, psK_1, psK_2, slN_1, slN_2, slM_1, slM_2, slM_3, slL_1, slL_2, slL_3, slK_1, slK_2, slK_3, cnM_1, cnL_1, cnL_2, cnL_3, cnJ_1, cnJ_2, cnI_1, cnI_2, cnK_1, cnK_2, cnK_3, gD_1, gD_2, io0K_1, gI_1, gI_2, gNw_1, isB_str_non, isB_str_bl, isB_str_int, isB_str_str, isB_str_tup, isB_str_lst, isB_str_dk, isB_list_non, isB_list_bl, isB_list_int, isB_list_str, isB_list_tup, isB_list_lst, isB_list_dk, isB_tuple_non, isB_tuple_bl, isB_tuple_int, isB_tuple_str, isB_tuple_tup, isB_tuple_lst, isB_tuple_dk, isB_int_non, isB_int_bl, isB_int_int, isB_int_str, isB_int_tup, isB_int_lst, isB_int_dk, isB_bool_non, isB_bool_bl, isB_bool_int, isB_bool_str, isB_bool_tup, isB_bool_lst, isB_bool_dk, isB_dict_non, isB_dict_bl, isB_dict_int, isB_dict_str, isB_dict_tup, isB_dict_lst, isB_dict_dk, bK_1, sK_1, fI0_ii, fI_ii, addD_ii, lenD_lst, lenD_tup, tupD_lst, tupD_tup, listD_lst, listD_tup, kindD_lst, kindD_tup, revLD_lst, rown_ow, rown_io, sl_fr, sl_bo, sl_io, entry_n, entry_c, frOk_n, frOk_f, frOk_b, apart_n, apart_v, apart_s, startE, List.length_cons, List.length_nil, List.replicate, List.cons_append, List.nil_append, Nat.reduceAdd, Nat.reduceSub, Nat.zero_add, List.getElem?_cons_zero, List.getElem?_cons_succ, List.set_cons_zero, List.set_cons_succ, if_true, if_false, reduceIte, decide_true, decide_false, Bool.not_true, Bool.not_false, Bool.and_self, Bool.true_and, Bool.and_true, Bool.false_eq_true, LB, Nat.reduceLeDiff, Nat.reduceLT, Nat.reduceBNe, Nat.reduceBEq, B_law_1, h1, h2', h3, h4, h5, revLD, hr, hs, h6, h7, h8, h9, neD_int]
  exact ⟨_, _, _, _, _, _, _, _, _, _, rfl⟩
theorem law_ok : ∀ c, lawOk (m_law c) N_law.length := fun c ns hl => by
  obtain ⟨δ', h1, ⟨s1, s2, s3, s4, s5, s6, s7, s8, s9, s10, s11, rfl⟩⟩ := forL_ix (enc := D.int) (g := gN 1) (b := B_law_1 c) (as := ns.take 8 ++ [0, 1])
    (fun i δ => ∃ s1 s2 s3 s4 s5 s6 s7 s8 s9 s10 s11, δ = [.sc ns, s1, s2, s3, s4, s5, s6, s7, s8, s9, s10, s11])
    (δ := [.sc ns, .un, .un, .un, .un, .un, .un, .un, .un, .un, .un, .un]) ⟨_, _, _, _, _, _, _, _, _, _, _, rfl⟩ (by
      rintro i n δ _ ⟨s1, s2, s3, s4, s5, s6, s7, s8, s9, s10, s11, rfl⟩
      obtain ⟨t2, t3, t4, t5, t6, t7, t8, t9, t10, t11, h⟩ := law_turn c n (.sc ns) s2 s3 s4 s5 s6 s7 s8 s9 s10 s11
      exact ⟨_, _, rfl, h, _, _, _, _, _, _, _, _, _, _, _, rfl⟩)
  have hc := cells_cut ns 8 hl [0, 1] (by decide)
  have hc' : addD (.lst (cutD (ns.map D.int) none (some 8))) (.lst [.int 0, .int 1]) = some (.lst ((ns.take 8 ++ [0, 1]).map .int)) := hc
  have hs : mScSl 0 none (some 8) [.sc ns, .un, .un, .un, .un, .un, .un, .un, .un, .un, .un, .un] = some (.ok (.lst (cutD (ns.map D.int) none (some 8))) [.sc ns, .un, .un, .un, .un, .un, .un, .un, .un, .un, .un, .un]) := by
    have : ns.length ≤ 1000000 := by omega
    simp only [mScSl, List.getElem?_cons_zero, this, if_true]
  refine ⟨[.sc ns, s1, s2, s3, s4, s5, s6, s7, s8, s9, s10, s11], ?_⟩
  simp only [lift_e, liftK_s, mC_e, mVar_e, mOv_e, mVal_e, rd_v, rd_s, m1_e, m1K_o, m1L_s, m2_e, m2K_o, m2L_o, m2N_s, lstM_s, mn1_e, mn2_e, maNil_e, maCons_e, acK_o, mdNil_e, mdCons_e, dcK_o, rds_n, rds_c, consO_s, mA_e, mnA_e, aK_o, aL_s, fA1_e, fN1_e, mTup_e, mLst_e, mTest_e, mNot_e, mAnd_e, mOr_e, mAndV_e, mOrV_e, mNotV_e, mIfE_e, mChain_e, mNext_e, mSeq_e, mIf_e, mRet_e, mRetW_e, mRetO_e, mDrop_e, mAsg_e, mAsgO_e, gN_e, gs0_e, gsC_e, gT_e, gTL_e, mIt_e, mSeqOf_e, mTupOf_e, mSeqB_e, mFor_e, forL_n, forL_c, mCallP_e, mCallN_e, ownO_e, mCallI_e, mMakeP_e, ownL_e, mMut_e, appF_e, mPutI_e, ownI_e, mSetF_e, mpNone_e, mpSome_e, mSl_e, mCount_e, defG_e, defI_e, defN_e, varK_1, varK_2, ovK_1, ovK_2, ovK_3, ovK_4, valK_1, valK_2, valK_3, datK_1, datK_2, datK_3, datK_4, m1L_1, m1L_2, m1K_1, m1K_2, m1K_3, m2N_1, acL_1, acL_2, acL_3, dcL_1, dcL_2, dcL_3, consO_1, aL_1, aL_2, tupK_1, tupK_2, tupK_3, lstK_1, lstK_2, lstK_3, testK_1, testK_2, notK_1, notK_2, notK_3, andK_1, andK_2, andK_3, andK_4, orK_1, orK_2, orK_3, orK_4, andvK_1, andvK_2, andvK_3, orvK_1, orvK_2, orvK_3, notvK_1, notvK_2, ifeK_1, ifeK_2, ifeK_3, ifeK_4, chN_1, chN_2, chM_1, chL_1, chL_2, chL_3, chK_1, chK_2, chK_3, seqK_1, seqK_2, seqK_3, seqK_4, seqK_5, seqK_6, seqK_7, ifK_1, ifK_2, ifK_3, ifK_4, retK_1, retK_2, retK_3, retwK_1, retwK_2, retwK_3, retoK_1, dropK_1, dropK_2, dropK_3, nxK_1, nxK_2, asgK_1, asgK_2, asgK_3, asgoK_1, asgoK_2, asgoK_3, gscK_1, gscK_2, itK_1, itK_2, itK_3, sqK_1, sqK_2, tqK_1, tqK_2, sbK_1, sbK_2, sbK_3, forK_1, forK_2, forK_3, flL_1, flL_2, flL_3, flL_4, flL_5, flL_6, flL_7, flK_1, flK_2, cpL_1, cpL_2, cpK_1, cpK_2, cpK_3, ownK_1, ownK_2, ciM_1, ciM_2, ciL_1, ciK_1, ciK_2, ciK_3, ciH_1, ciH_2, mkN_1, mkL_1, mkL_2, mkK_1, mkK_2, mkK_3, olK_1, olK_2, muN_1, muN_2, muL_1, muL_2, muK_1, muK_2, muK_3, muH_1, muH_2, puN_1, puN_2, puM_1, puM_2, puL_1, puL_2, puH_1, puH_2, puK_1, puK_2, puK_3, oiK_1, oiK_2, sfL_1, sfL_2, sfK_1, sfK_2, sfK_3, psK_1, psK_2, slN_1, slN_2, slM_1, slM_2, slM_3, slL_1, slL_2, slL_3, slK_1, slK_2, slK_3, cnM_1, cnL_1, cnL_2, cnL_3, cnJ_1, cnJ_2, cnI_1, cnI_2, cnK_1, cnK_2, cnK_3, gD_1, gD_2, io0K_1, gI_1, gI_2, gNw_1, isB_str_non, isB_str_bl, isB_str_int, isB_str_str, isB_str_tup, isB_str_lst, isB_str_dk, isB_list_non, isB_list_bl, isB_list_int, isB_list_str, isB_list_tup, isB_list_lst, isB_list_dk, isB_tuple_non, isB_tuple_bl, isB_tuple_int, isB_tuple_str, isB_tuple_tup, isB_tuple_lst, isB_tuple_dk, isB_int_non, isB_int_bl, isB_int_int, isB_int_str, isB_int_tup, isB_int_lst, isB_int_dk, isB_bool_non, isB_bool_bl, isB_bool_int, isB_bool_str, isB_bool_tup, isB_bool_lst, isB_bool_dk, isB_dict_non, isB_dict_bl, isB_dict_int, isB_dict_str, isB_dict_tup, isB_dict_lst, isB_dict_dk, bK_1, sK_1, fI0_ii, fI_ii, addD_ii, lenD_lst, lenD_tup, tupD_lst, tupD_tup, listD_lst, listD_tup, kindD_lst, kindD_tup, revLD_lst, rown_ow, rown_io, sl_fr, sl_bo, sl_io, entry_n, entry_c, frOk_n, frOk_f, frOk_b, apart_n, apart_v, apart_s, startE, List.length_cons, List.length_nil, List.replicate, List.cons_append, List.nil_append, Nat.reduceAdd, Nat.reduceSub, Nat.zero_add, List.getElem?_cons_zero, List.getElem?_cons_succ, List.set_cons_zero, List.set_cons_succ, if_true, if_false, reduceIte, decide_true, decide_false, Bool.not_true, Bool.not_false, Bool.and_self, Bool.true_and, Bool.and_true, Bool.false_eq_true, LB, Nat.reduceLeDiff, Nat.reduceLT, Nat.reduceBNe, Nat.reduceBEq, m_law, hs, hc', h1]
end G

open PySem PySem.W PyProof.Rows
set_option maxRecDepth 100000 in
set_option maxHeartbeats 0 in
theorem PySem.Challenge.cw_endsum_k26_groups_holds : PySem.Challenge.rw_endsum_k26_groups.Holds := by
  w_on; o_law; k_head; (case hw => w_witness2)
  k_fill
  refine G.walk (l := PySem.Challenge.rw_endsum_k26_groups) rfl rfl (fun w h Y => PySem.W.kIn_of Y) ?F
  case F =>
    intro w mg fa h KX GX hmg
    refine' G.all_mk KX GX hmg ?z_abs ?z_all ?z_bool ?z_dict ?z_enumerate ?z_isinstance ?z_len ?z_list ?z_range ?z_set ?z_sorted ?z_str ?z_tuple ?y_LETTERS ?y_MOST ?k_stock ?n_stock_kinds ?n_stock_sorts ?d_is_name ?d_is_sort_row ?d_are_sorts ?d_is_kind_row ?d_are_kinds ?d_Stock___init__ ?d_is_sort ?d_is_kind ?d_ends_of ?d_are_corners ?d_is_leg ?d_are_legs ?d_sure_corners ?d_factorial ?d_group ?d__law_state ?d__law_pick ?d__law_words ?d__law_stock_rows ?d__law_changes ?d_law ?hm
    (case z_abs => k_is)
    (case z_all => k_is)
    (case z_bool => k_is)
    (case z_dict => k_is)
    (case z_enumerate => k_is)
    (case z_isinstance => k_is)
    (case z_len => k_is)
    (case z_list => k_is)
    (case z_range => k_is)
    (case z_set => k_is)
    (case z_sorted => k_is)
    (case z_str => k_is)
    (case z_tuple => k_is)
    (case y_LETTERS => refine' DL.globS_mk ?y ?z; (case y => k_is); (case z => rfl))
    (case y_MOST => refine' DL.globI_mk ?y ?z; (case y => k_is); (case z => rfl))
    (case k_stock => refine' ⟨?a, ?pg, ?hd, ?po, ?sa, ?mks, ?kc⟩; (case a => k_is); (case pg => k_is); (case hd => k_is); (case po => k_is); (case sa => k_is); (case mks => k_is); (case kc => k_is))
    (case n_stock_kinds => k_is)
    (case n_stock_sorts => k_is)
    (case d_is_name => refine' DL.defK_mk ?a ?l ?c ?k; (case a => k_is); (case l => k_is); (case c => k_is); (case k => k_is))
    (case d_is_sort_row => refine' DL.defK_mk ?a ?l ?c ?k; (case a => k_is); (case l => k_is); (case c => k_is); (case k => k_is))
    (case d_are_sorts => refine' DL.defK_mk ?a ?l ?c ?k; (case a => k_is); (case l => k_is); (case c => k_is); (case k => k_is))
    (case d_is_kind_row => refine' DL.defK_mk ?a ?l ?c ?k; (case a => k_is); (case l => k_is); (case c => k_is); (case k => k_is))
    (case d_are_kinds => refine' DL.defK_mk ?a ?l ?c ?k; (case a => k_is); (case l => k_is); (case c => k_is); (case k => k_is))
    (case d_Stock___init__ => refine' DL.metK_mk ?a ?i ?l ?c ?k; (case a => k_is); (case i => k_is); (case l => k_is); (case c => k_is); (case k => k_is))
    (case d_is_sort => refine' DL.defK_mk ?a ?l ?c ?k; (case a => k_is); (case l => k_is); (case c => k_is); (case k => k_is))
    (case d_is_kind => refine' DL.defK_mk ?a ?l ?c ?k; (case a => k_is); (case l => k_is); (case c => k_is); (case k => k_is))
    (case d_ends_of => refine' DL.defK_mk ?a ?l ?c ?k; (case a => k_is); (case l => k_is); (case c => k_is); (case k => k_is))
    (case d_are_corners => refine' DL.defK_mk ?a ?l ?c ?k; (case a => k_is); (case l => k_is); (case c => k_is); (case k => k_is))
    (case d_is_leg => refine' DL.defK_mk ?a ?l ?c ?k; (case a => k_is); (case l => k_is); (case c => k_is); (case k => k_is))
    (case d_are_legs => refine' DL.defK_mk ?a ?l ?c ?k; (case a => k_is); (case l => k_is); (case c => k_is); (case k => k_is))
    (case d_sure_corners => refine' DL.defK_mk ?a ?l ?c ?k; (case a => k_is); (case l => k_is); (case c => k_is); (case k => k_is))
    (case d_factorial => refine' DL.defK_mk ?a ?l ?c ?k; (case a => k_is); (case l => k_is); (case c => k_is); (case k => k_is))
    (case d_group => refine' DL.defK_mk ?a ?l ?c ?k; (case a => k_is); (case l => k_is); (case c => k_is); (case k => k_is))
    (case d__law_state => refine' DL.defK_mk ?a ?l ?c ?k; (case a => k_is); (case l => k_is); (case c => k_is); (case k => k_is))
    (case d__law_pick => refine' DL.defK_mk ?a ?l ?c ?k; (case a => k_is); (case l => k_is); (case c => k_is); (case k => k_is))
    (case d__law_words => refine' DL.defK_mk ?a ?l ?c ?k; (case a => k_is); (case l => k_is); (case c => k_is); (case k => k_is))
    (case d__law_stock_rows => refine' DL.defK_mk ?a ?l ?c ?k; (case a => k_is); (case l => k_is); (case c => k_is); (case k => k_is))
    (case d__law_changes => refine' DL.defK_mk ?a ?l ?c ?k; (case a => k_is); (case l => k_is); (case c => k_is); (case k => k_is))
    (case d_law => refine' DL.defK_mk ?a ?l ?c ?k; (case a => k_is); (case l => k_is); (case c => k_is); (case k => k_is))
    (case hm => exact G.law_ok)
