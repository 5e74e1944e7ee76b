import PyProof.Rows.All
import Wide.All
import OpenK.AllK
import Wide.FinOn
import HandS.ForMost
import HandS.ForExc
import KE.KeyNested
import HandS.ExcInit
import HandS.IsInst
import HandS.TupAny
import HandS.Style
import HandS.Deep
import HandS.Wide
import HandS.SortInts
import KE.SortData
import KE.DataFind
import KE.DataCmp
import KE.DataMinMax
import HandS.Set
import HandS.SetFor
import HandS.SetKeys
import HandS.Strs
import HandS.ExcValue
import HandS.Iter
import HandS.NoneIn
import KE.GoesEnum
import KE.GoesMore
import PyProof.ZipIter
import KE.KItemsList
import KE.KDictItemsList
import HandS.Conv
import HandS.OwnEq
import HandS.Codes
import PyProof.Draws
import PyProof.InstNe
import KE.KSortTupAny
import HandS.WordsExc
import HandS.ExcIs
import HandS.TupMul
import KE.KIndexOf
import HandS.ExcField
import KE.KExcIs
import KE.KExcInit
import KE.KExcLine
import PySem.Challenge.RW_endsum_k07_refusals_apart
set_option Elab.async false
set_option linter.all false
set_option maxRecDepth 100000
set_option maxHeartbeats 400000
/-! DLa: plain data D, how it stands in a heap (Rep), what a def's slots hold (Sl, StOk), and the judgements Ev, Eo, Et, Ea, Es: a reading of the hand layer computes what a plain function of the slots' data computes. -/
namespace DL
open PySem L2

abbrev Fg := PySem.W.Frag
def LB : Nat := 1000000
theorem LB_size {n : Nat} (h : n ≤ LB) : n ≤ sizeLine := Nat.le_trans h (by decide)
theorem LB_lt {n : Nat} (h : n ≤ LB) : n < sizeLine := Nat.lt_of_le_of_lt h (by decide)

inductive D where
  | non
  | bl (b : Bool)
  | int (i : Int)
  | str (x : Str)
  | tup (xs : List D)
  | lst (xs : List D)
  | ins (C : Addr) (ns : List Str) (ds : List D)
  | dk (ks : List Key) (ds : List D)
  | dn (hs : List Int) (ks ds : List D)
  | fn (f : Addr)
  | ob (n : Nat) (C : Addr) (ns : List Str) (ds : List D)

/-! keys of any depth -/
mutual
def keyN : D → Option NestedKey
  | .non => some .none
  | .int i => some (.num i)
  | .str x => some (.text x)
  | .tup ds => match keysN ds with
    | some ks => some (.tup ks)
    | none => none
  | .bl _ => none
  | .lst _ => none
  | .ins _ _ _ => none
  | .dk _ _ => none
  | .dn _ _ _ => none
  | .fn _ => none
  | .ob _ _ _ _ => none
def keysN : List D → Option (List NestedKey)
  | [] => some []
  | d :: ds => match keyN d, keysN ds with
    | some k, some ks => some (k :: ks)
    | _, _ => none
end
/-- a tuple as a key -/
def keyT (d : D) : Option NestedKey := match keyN d with
  | some (.tup ks) => if NestedKey.depthAll ks ≤ 7 then some (.tup ks) else none
  | _ => none
def keysT : List D → Option (List NestedKey)
  | [] => some []
  | d :: ds => match keyT d, keysT ds with
    | some k, some ks => some (k :: ks)
    | _, _ => none
/-- the rows of a dict: hashes, keys (tuples), values -/
def ents : List Int → List Addr → List Value → List DictEntry
  | i :: hs, b :: bs, x :: xs => ⟨i, .ref b, x⟩ :: ents hs bs xs
  | _, _, _ => []
def dnP (a : Addr) (o : Obj) (hs : List Int) (bs : List Addr) (vs : List V) (h : Heap) : Prop :=
  h.get? a = some o ∧ (a == sysModules) = false ∧ o.ExactDict ∧ ∃ (es : Array DictEntry) (ep : Nat) (xs : List Value), o.data = .dict es ep ∧ Vals vs xs ∧ es.toList = ents hs bs xs
/-- a dict whose keys are tuples (the object itself is known: it may be walked) -/
def dnO (a : Addr) (o : Obj) (hs : List Int) (bs : List Addr) (vs : List V) : HO := .ext (dnP a o hs bs vs)

/-- a tuple: its object is known (it has no dict of its own) -/
def TupR (K : Fg) (F : Hp) (a : Addr) (vs : List V) : Prop := (∃ o : Obj, o.dict = none ∧ F a = some (.frz o (.tup vs))) ∨
  ∃ (o : Obj) (its : Array Value) (n : Nat), K.lookup a = some o ∧ o.dict = none ∧ o.cls = .type "tuple" ∧ o.data = .seq its n ∧ its.size ≤ sizeLine ∧ Vals vs its.toList
theorem TupR.sq {K : Fg} {F : Hp} {a : Addr} {vs : List V} (h : TupR K F a vs) : SqT K F a vs := by
  rcases h with ⟨o, _, h⟩ | ⟨o, its, n, h1, _, h2, h3, h4, h5⟩
  · exact Or.inl (Or.inr ⟨o, h⟩)
  · exact Or.inr ⟨o, its, n, h1, h2, h3, h4, h5⟩
theorem TupR.mono {K : Fg} {F F' : Hp} (e : Same F F') {a : Addr} {vs : List V} (h : TupR K F a vs) : TupR K F' a vs := by
  rcases h with ⟨o, h1, h⟩ | h
  · exact Or.inl ⟨o, h1, e _ _ h⟩
  · exact Or.inr h
/-- things of other kinds, by their number: below 100 an error made by hand, of the class C, its attributes ns -/
def RepB (F : Hp) (n : Nat) (C : Addr) (ns : List Str) (a : Addr) (vs : List V) : Prop :=
  n < 100 ∧ ((ns = [] ∧ F a = some (exo a C none)) ∨ (ns ≠ [] ∧ ns.length = vs.length ∧ ∃ dx, F a = some (exo a C (some dx)) ∧ F dx = some (exd dx (ns.zip vs))))
theorem RepB.mono {F F' : Hp} (e : Same F F') {n : Nat} {C : Addr} {ns : List Str} {a : Addr} {vs : List V} (h : RepB F n C ns a vs) : RepB F' n C ns a vs := by
  obtain ⟨h0, ⟨h1, h2⟩ | ⟨h1, h2, dx, h3, h4⟩⟩ := h
  · exact ⟨h0, Or.inl ⟨h1, e _ _ h2⟩⟩
  · exact ⟨h0, Or.inr ⟨h1, h2, dx, e _ _ h3, e _ _ h4⟩⟩
mutual
def Rep (K : Fg) (F : Hp) : D → V → Prop
  | .non, v => v = .non
  | .bl b, v => v = .bl b
  | .int i, v => v = .int i
  | .str x, v => v = .str x
  | .tup ds, v => ∃ a vs, v = .ref a ∧ TupR K F a vs ∧ ds.length ≤ LB ∧ Reps K F ds vs
  | .lst ds, v => ∃ a vs, v = .ref a ∧ F a = some (.lst vs) ∧ ds.length ≤ LB ∧ Reps K F ds vs
  | .ins C ns ds, v => ∃ a dx vs, v = .ref a ∧ F a = some (.ins C dx (ns.zip vs)) ∧ ns.length = ds.length ∧ Reps K F ds vs
  | .dk ks ds, v => ∃ a vs, v = .ref a ∧ Rd F a (.dK (ks.zip vs)) ∧ ks.length = ds.length ∧ ds.length ≤ LB ∧ Reps K F ds vs
  | .dn hs ks ds, v => ∃ a o bs vs nks, v = .ref a ∧ F a = some (dnO a o hs bs vs) ∧ keysT ks = some nks ∧ nks.Nodup ∧ hs.length = ks.length ∧ ks.length = ds.length ∧ ds.length ≤ LB ∧ Reps K F ks (bs.map V.ref) ∧ Reps K F ds vs
  | .fn f, v => v = .ref f
  | .ob n C ns ds, v => ∃ a vs, v = .ref a ∧ RepB F n C ns a vs ∧ Reps K F ds vs
def Reps (K : Fg) (F : Hp) : List D → List V → Prop
  | [], vs => vs = []
  | d :: ds, vs => ∃ v us, vs = v :: us ∧ Rep K F d v ∧ Reps K F ds us
end

theorem same_rd {F F' : Hp} (e : Same F F') {a : Addr} {u : HO} (h : Rd F a u) : Rd F' a u := by
  rcases h with h | ⟨o, h⟩
  · exact Or.inl (e _ _ h)
  · exact Or.inr ⟨o, e _ _ h⟩
theorem same_t {K : Fg} {F F' : Hp} (e : Same F F') {a : Addr} {xs : List V} (h : SqT K F a xs) : SqT K F' a xs := by
  rcases h with h | h
  · exact Or.inl (same_rd e h)
  · exact Or.inr h

mutual
theorem Rep.mono {K : Fg} {F F' : Hp} (e : Same F F') : ∀ {d : D} {v : V}, Rep K F d v → Rep K F' d v
  | .non, v, h => by simpa only [Rep] using h
  | .bl b, v, h => by simpa only [Rep] using h
  | .int i, v, h => by simpa only [Rep] using h
  | .str x, v, h => by simpa only [Rep] using h
  | .tup ds, v, h => by
    simp only [Rep] at h ⊢
    obtain ⟨a, vs, h1, h2, h3, h4⟩ := h
    exact ⟨a, vs, h1, h2.mono e, h3, Reps.mono e h4⟩
  | .lst ds, v, h => by
    simp only [Rep] at h ⊢
    obtain ⟨a, vs, h1, h2, h3, h4⟩ := h
    exact ⟨a, vs, h1, e _ _ h2, h3, Reps.mono e h4⟩
  | .ins C ns ds, v, h => by
    simp only [Rep] at h ⊢
    obtain ⟨a, dx, vs, h1, h2, h3, h4⟩ := h
    exact ⟨a, dx, vs, h1, e _ _ h2, h3, Reps.mono e h4⟩
  | .dk ks ds, v, h => by
    simp only [Rep] at h ⊢
    obtain ⟨a, vs, h1, h2, h3, h4, h5⟩ := h
    exact ⟨a, vs, h1, same_rd e h2, h3, h4, Reps.mono e h5⟩
  | .dn hs ks ds, v, h => by
    simp only [Rep] at h ⊢
    obtain ⟨a, o, bs, vs, nks, h1, h2, h3, h4, h5, h6, h7, h8, h9⟩ := h
    exact ⟨a, o, bs, vs, nks, h1, e _ _ h2, h3, h4, h5, h6, h7, Reps.mono e h8, Reps.mono e h9⟩
  | .fn f, v, h => by simpa only [Rep] using h
  | .ob n C ns ds, v, h => by
    simp only [Rep] at h ⊢
    obtain ⟨a, vs, h1, h2, h3⟩ := h
    exact ⟨a, vs, h1, h2.mono e, Reps.mono e h3⟩
theorem Reps.mono {K : Fg} {F F' : Hp} (e : Same F F') : ∀ {ds : List D} {vs : List V}, Reps K F ds vs → Reps K F' ds vs
  | [], vs, h => by simpa only [Reps] using h
  | d :: ds, vs, h => by
    simp only [Reps] at h ⊢
    obtain ⟨v, us, h1, h2, h3⟩ := h
    exact ⟨v, us, h1, Rep.mono e h2, Reps.mono e h3⟩
end

theorem reps_nil {K : Fg} {F : Hp} : Reps K F [] [] := by simp only [Reps]
theorem reps_cons {K : Fg} {F : Hp} {d : D} {ds : List D} {v : V} {vs : List V} (h : Rep K F d v) (t : Reps K F ds vs) : Reps K F (d :: ds) (v :: vs) := by
  simp only [Reps]
  exact ⟨v, vs, rfl, h, t⟩
theorem Reps.inv {K : Fg} {F : Hp} {d : D} {ds : List D} {vs : List V} (h : Reps K F (d :: ds) vs) : ∃ v us, vs = v :: us ∧ Rep K F d v ∧ Reps K F ds us := by simpa only [Reps] using h
theorem Reps.inv0 {K : Fg} {F : Hp} {vs : List V} (h : Reps K F [] vs) : vs = [] := by simpa only [Reps] using h
theorem Reps.len {K : Fg} {F : Hp} : ∀ {ds : List D} {vs : List V}, Reps K F ds vs → vs.length = ds.length
  | [], vs, h => by rw [h.inv0] <;> rfl
  | d :: ds, vs, h => by
    obtain ⟨v, us, rfl, _, h3⟩ := h.inv
    simp [Reps.len h3]
theorem Reps.app {K : Fg} {F : Hp} : ∀ {ds es : List D} {vs us : List V}, Reps K F ds vs → Reps K F es us → Reps K F (ds ++ es) (vs ++ us)
  | [], es, vs, us, h, g => by rw [h.inv0]; exact g
  | d :: ds, es, vs, us, h, g => by
    obtain ⟨v, ws, rfl, h2, h3⟩ := h.inv
    exact reps_cons h2 (Reps.app h3 g)
theorem Reps.get {K : Fg} {F : Hp} : ∀ {ds : List D} {vs : List V} {i : Nat} {d : D}, Reps K F ds vs → ds[i]? = some d → ∃ v, vs[i]? = some v ∧ Rep K F d v
  | [], vs, i, d, h, e => by simp at e
  | x :: ds, vs, 0, d, h, e => by
    obtain ⟨v, us, rfl, h2, h3⟩ := h.inv
    have e' : x = d := by simpa using e
    subst e'
    exact ⟨v, rfl, h2⟩
  | x :: ds, vs, i + 1, d, h, e => by
    obtain ⟨v, us, rfl, h2, h3⟩ := h.inv
    obtain ⟨u, h4, h5⟩ := Reps.get (i := i) h3 (by simpa using e)
    exact ⟨u, by simpa using h4, h5⟩
theorem Reps.take {K : Fg} {F : Hp} : ∀ {ds : List D} {vs : List V} (n : Nat), Reps K F ds vs → Reps K F (ds.take n) (vs.take n)
  | [], vs, n, h => by rw [h.inv0]; simp [Reps]
  | x :: ds, vs, 0, h => by simp [Reps]
  | x :: ds, vs, n + 1, h => by
    obtain ⟨u, us, rfl, h2, h3⟩ := h.inv
    exact reps_cons h2 (Reps.take n h3)
theorem Reps.drop {K : Fg} {F : Hp} : ∀ {ds : List D} {vs : List V} (n : Nat), Reps K F ds vs → Reps K F (ds.drop n) (vs.drop n)
  | [], vs, n, h => by rw [h.inv0]; simp [Reps]
  | x :: ds, vs, 0, h => h
  | x :: ds, vs, n + 1, h => by
    obtain ⟨u, us, rfl, h2, h3⟩ := h.inv
    exact Reps.drop n h3
theorem Reps.set {K : Fg} {F : Hp} {d : D} {v : V} (g : Rep K F d v) : ∀ {ds : List D} {vs : List V} (i : Nat), Reps K F ds vs → Reps K F (ds.set i d) (vs.set i v)
  | [], vs, i, h => by rw [h.inv0]; simp [Reps]
  | x :: ds, vs, 0, h => by
    obtain ⟨u, us, rfl, h2, h3⟩ := h.inv
    exact reps_cons g h3
  | x :: ds, vs, i + 1, h => by
    obtain ⟨u, us, rfl, h2, h3⟩ := h.inv
    exact reps_cons h2 (Reps.set g i h3)
/-! ### inversions -/
section
variable {K : Fg} {F : Hp} {v : V}
theorem Rep.non_iff : Rep K F .non v ↔ v = .non := by simp only [Rep]
theorem Rep.bl_iff {b : Bool} : Rep K F (.bl b) v ↔ v = .bl b := by simp only [Rep]
theorem Rep.int_iff {i : Int} : Rep K F (.int i) v ↔ v = .int i := by simp only [Rep]
theorem Rep.fn_iff {f : Addr} : Rep K F (.fn f) v ↔ v = .ref f := by simp only [Rep]
theorem Rep.ob_iff {n : Nat} {C : Addr} {ns : List Str} {ds : List D} : Rep K F (.ob n C ns ds) v ↔ ∃ a vs, v = .ref a ∧ RepB F n C ns a vs ∧ Reps K F ds vs := by simp only [Rep]
theorem Rep.str_iff {x : Str} : Rep K F (.str x) v ↔ v = .str x := by simp only [Rep]
theorem Rep.tup_iff {ds : List D} : Rep K F (.tup ds) v ↔ ∃ a vs, v = .ref a ∧ TupR K F a vs ∧ ds.length ≤ LB ∧ Reps K F ds vs := by simp only [Rep]
theorem Rep.lst_iff {ds : List D} : Rep K F (.lst ds) v ↔ ∃ a vs, v = .ref a ∧ F a = some (.lst vs) ∧ ds.length ≤ LB ∧ Reps K F ds vs := by simp only [Rep]
theorem Rep.ins_iff {C : Addr} {ns : List Str} {ds : List D} : Rep K F (.ins C ns ds) v ↔ ∃ a dx vs, v = .ref a ∧ F a = some (.ins C dx (ns.zip vs)) ∧ ns.length = ds.length ∧ Reps K F ds vs := by simp only [Rep]
theorem Rep.dk_iff {ks : List Key} {ds : List D} : Rep K F (.dk ks ds) v ↔ ∃ a vs, v = .ref a ∧ Rd F a (.dK (ks.zip vs)) ∧ ks.length = ds.length ∧ ds.length ≤ LB ∧ Reps K F ds vs := by simp only [Rep]
theorem Rep.dn_iff {hs : List Int} {ks ds : List D} : Rep K F (.dn hs ks ds) v ↔ ∃ a o bs vs nks, v = .ref a ∧ F a = some (dnO a o hs bs vs) ∧ keysT ks = some nks ∧ nks.Nodup ∧ hs.length = ks.length ∧ ks.length = ds.length ∧ ds.length ≤ LB ∧ Reps K F ks (bs.map V.ref) ∧ Reps K F ds vs := by simp only [Rep]
end

/-- a tuple on the way to its parts: nothing but its parts is known -/
def RepW (K : Fg) (F : Hp) (d : D) (v : V) : Prop := match d with
  | .tup ds => ∃ a vs, v = .ref a ∧ SqT K F a vs ∧ Reps K F ds vs
  | d => Rep K F d v
theorem Rep.weak {K : Fg} {F : Hp} {d : D} {v : V} (h : Rep K F d v) : RepW K F d v := by
  cases d with
  | tup ds =>
    obtain ⟨a, vs, h1, h2, h3, h4⟩ := Rep.tup_iff.mp h
    exact ⟨a, vs, h1, h2.sq, h4⟩
  | _ => exact h
def Rq (K : Fg) : Bool → Hp → D → V → Prop
  | true => RepW K
  | false => Rep K
theorem Rq.tup {K : Fg} {F : Hp} {ds : List D} {v : V} : ∀ {b : Bool}, Rq K b F (.tup ds) v → ∃ a vs, v = .ref a ∧ SqT K F a vs ∧ Reps K F ds vs
  | true, h => h
  | false, h => Rep.weak h
/-- an object of one's own at a in H, its parts in F -/
def RepO (K : Fg) (F H : Hp) (a : Addr) : D → Prop
  | .lst ds => ∃ vs, H a = some (.lst vs) ∧ ds.length ≤ LB ∧ Reps K F ds vs
  | .ins C ns ds => ∃ dx vs, H a = some (.ins C dx (ns.zip vs)) ∧ ns.length = ds.length ∧ Reps K F ds vs
  | .dk ks ds => ∃ vs, H a = some (.dK (ks.zip vs)) ∧ ks.length = ds.length ∧ ds.length ≤ LB ∧ Reps K F ds vs
  | .dn hs ks ds => ∃ o bs vs nks, H a = some (dnO a o hs bs vs) ∧ keysT ks = some nks ∧ nks.Nodup ∧ hs.length = ks.length ∧ ks.length = ds.length ∧ ds.length ≤ LB ∧ Reps K F ks (bs.map V.ref) ∧ Reps K F ds vs
  | _ => False
theorem RepO.there {K : Fg} {F H : Hp} {a : Addr} {d : D} (h : RepO K F H a d) : ∃ o, H a = some o := by
  cases d with
  | lst ds => obtain ⟨vs, h, _⟩ := h; exact ⟨_, h⟩
  | ins C ns ds => obtain ⟨dx, vs, h, _⟩ := h; exact ⟨_, h⟩
  | dk ks ds => obtain ⟨vs, h, _⟩ := h; exact ⟨_, h⟩
  | dn hs ks ds => obtain ⟨o, bs, vs, nks, h, _⟩ := h; exact ⟨_, h⟩
  | _ => exact h.elim
theorem RepO.mono {K : Fg} {F F' H H' : Hp} {a : Addr} {d : D} (h : RepO K F H a d) (e : Same F F') (k : ∀ o, H a = some o → H' a = some o) : RepO K F' H' a d := by
  cases d with
  | lst ds => obtain ⟨vs, h1, h2, h3⟩ := h; exact ⟨vs, k _ h1, h2, Reps.mono e h3⟩
  | ins C ns ds => obtain ⟨dx, vs, h1, h2, h3⟩ := h; exact ⟨dx, vs, k _ h1, h2, Reps.mono e h3⟩
  | dk ks ds => obtain ⟨vs, h1, h2, h3, h4⟩ := h; exact ⟨vs, k _ h1, h2, h3, Reps.mono e h4⟩
  | dn hs ks ds => obtain ⟨o, bs, vs, nks, h1, h2, h3, h4, h5, h6, h7, h8⟩ := h; exact ⟨o, bs, vs, nks, k _ h1, h2, h3, h4, h5, h6, Reps.mono e h7, Reps.mono e h8⟩
  | _ => exact h.elim
/-- readable: frozen data, or an object of one's own -/
def RepR (K : Fg) (F H : Hp) (v : V) (d : D) : Prop := Rep K F d v ∨ ∃ a, v = .ref a ∧ RepO K F H a d
theorem RepR.mono {K : Fg} {F F' H H' : Hp} {v : V} {d : D} (h : RepR K F H v d) (e : Same F F') (k : Same H H') : RepR K F' H' v d := by
  rcases h with h | ⟨a, rfl, h⟩
  · exact Or.inl (h.mono e)
  · exact Or.inr ⟨a, rfl, h.mono e fun o q => k _ _ q⟩
/-- an own object is frozen -/
theorem RepO.freeze {K : Fg} {F H : Hp} {a : Addr} {d : D} (h : RepO K F H a d) (hn : F a = none) : ∃ o, H a = some o ∧ Rep K (upd F a o) d (.ref a) := by
  have e : ∀ o, Same F (upd F a o) := fun o b u q => by rw [upd_ne (ne_of_none q hn)]; exact q
  cases d with
  | lst ds =>
    obtain ⟨vs, h1, h2, h3⟩ := h
    exact ⟨_, h1, Rep.lst_iff.mpr ⟨a, vs, rfl, upd_same, h2, Reps.mono (e _) h3⟩⟩
  | ins C ns ds =>
    obtain ⟨dx, vs, h1, h2, h3⟩ := h
    exact ⟨_, h1, Rep.ins_iff.mpr ⟨a, dx, vs, rfl, upd_same, h2, Reps.mono (e _) h3⟩⟩
  | dk ks ds =>
    obtain ⟨vs, h1, h2, h3, h4⟩ := h
    exact ⟨_, h1, Rep.dk_iff.mpr ⟨a, vs, rfl, Or.inl upd_same, h2, h3, Reps.mono (e _) h4⟩⟩
  | dn hs ks ds =>
    obtain ⟨o, bs, vs, nks, h1, h2, h3, h4, h5, h6, h7, h8⟩ := h
    exact ⟨_, h1, Rep.dn_iff.mpr ⟨a, o, bs, vs, nks, rfl, upd_same, h2, h3, h4, h5, h6, Reps.mono (e _) h7, Reps.mono (e _) h8⟩⟩
  | _ => exact h.elim

/-! ### slots -/
/-- un: nothing known; fr: frozen data; bo: borrowed (another's object, read alone); ow: an object of this def's own; io: an object that the caller handed in to be changed; sc: the script; b2: a list of borrowed objects -/
inductive Sl where
  | un | fr (d : D) | bo (d : D) | ow (d : D) | io (d : D) | sc (ns : List Int) | b2 (ds : List D)
abbrev En := List Sl
/-- what is told of an error: its class, its own attributes -/
structure Xn where
  C : Addr
  ns : List Str
  ds : List D
  tg : Nat := 0
/-- the wish that tells which error a suite holds -/
def WA (a : Addr) : WX := fun cls _ _ _ => cls = Value.ref a
/-- the same of an error with a field -/
def WF (a dd : Addr) (fld : Str) (y : V) : WX := fun cls d σ H => cls = Value.ref a ∧ d = some dd ∧ σ = [] ∧ H = fun _ => some (.xd [(fld, y)])

structure Cn where
  K : Fg
  P : Hp
  B : Hp
  F0 : Hp
  bt : Nat → Addr
  W : WX
  Q : Hp := fun _ => none

def Sl.own : Sl → Option D
  | .ow d => some d
  | .io d => some d
  | _ => none
def Sl.dat : Sl → Option D
  | .fr d => some d
  | .bo d => some d
  | .ow d => some d
  | .io d => some d
  | _ => none

/-- the parts of a list of borrowed objects -/
def Parts (K : Fg) (P F : Hp) (vs : List V) (ds : List D) : Prop := Paired (fun v d => ∃ b, v = V.ref b ∧ RepO K F P b d) vs ds
theorem Parts.mono {K : Fg} {P P' F F' : Hp} {vs : List V} {ds : List D} (h : Parts K P F vs ds) (p : Same P P') (e : Same F F') : Parts K P' F' vs ds :=
  Paired.mapP h fun _ _ ⟨b, h1, h2⟩ => ⟨b, h1, h2.mono e fun o q => p _ _ q⟩
structure StOk (C : Cn) (α : Nat → Addr) (F H : Hp) (σ : St) (δ : En) : Prop where
  fh : Same F H
  ph : Same C.P H
  bp : Same C.B C.P
  f0 : Same C.F0 F
  fp : ∀ a o, F a = some o → C.F0 a = some o ∨ C.P a = none
  len : σ.length = δ.length
  fr : ∀ (i : Nat) (d : D), δ[i]? = some (Sl.fr d) → ∃ v, σ[i]? = some (some v) ∧ Rep C.K F d v
  bo : ∀ (i : Nat) (d : D), δ[i]? = some (Sl.bo d) → ∃ v, σ[i]? = some (some v) ∧ RepR C.K F C.B v d
  ow : ∀ (i : Nat) (s : Sl) (d : D), δ[i]? = some s → s.own = some d → σ[i]? = some (some (V.ref (α i))) ∧ F (α i) = none ∧ C.P (α i) = none ∧ RepO C.K F H (α i) d
  io : ∀ (i : Nat) (d : D), δ[i]? = some (Sl.io d) → α i = C.bt i
  inj : ∀ (i j : Nat) (s t : Sl) (d e : D), δ[i]? = some s → δ[j]? = some t → s.own = some d → t.own = some e → α i = α j → i = j
  sc : ∀ (i : Nat) (ns : List Int), δ[i]? = some (Sl.sc ns) → ∃ a, σ[i]? = some (some (V.ref a)) ∧ (ns.length ≤ 1000000 ∧ SqL C.K C.B a (ns.map V.int) ∨ 1000000 < ns.length ∧ (C.W = WA a ∨ ∃ dd fld y, C.W = WF a dd fld y ∧ C.Q dd = some (.xd [(fld, y)])))
  b2 : ∀ (i : Nat) (ds : List D), δ[i]? = some (Sl.b2 ds) → ∃ vs, σ[i]? = some (some (V.ref (C.bt i))) ∧ F (C.bt i) = some (.lst vs) ∧ Parts C.K C.Q F vs ds
  qp : Same C.Q C.P

/-- only new things are laid, and frozen -/
structure New (F H F' H' : Hp) : Prop where
  ff : Same F F'
  fh : Same F' H'
  hh : Same H H'
  nw : ∀ a o, F' a = some o → F a = some o ∨ H a = none
theorem New.refl {F H : Hp} (h : Same F H) : New F H F H := ⟨Same.refl _, h, Same.refl _, fun _ _ q => Or.inl q⟩
theorem New.trans {F H F1 H1 F2 H2 : Hp} (a : New F H F1 H1) (b : New F1 H1 F2 H2) : New F H F2 H2 :=
  ⟨a.ff.trans b.ff, b.fh, a.hh.trans b.hh, fun x o q => by
    rcases b.nw x o q with q | q
    · exact a.nw x o q
    · exact Or.inr (a.hh.free q)⟩
theorem same_upd {H : Hp} {p : Addr} {o : HO} (h : H p = none) : Same H (upd H p o) := fun a u e => by
  rw [upd_ne (ne_of_none e h)]
  exact e
/-- one new object, frozen at once -/
theorem New.lay {F H : Hp} {p : Addr} {o : HO} (fh : Same F H) (h : H p = none) : New F H (upd F p o) (upd H p o) :=
  ⟨same_upd (fh.free h), fun a u e => by
    by_cases q : a = p
    · subst q
      rw [upd_same] at e ⊢
      exact e
    · rw [upd_ne q] at e ⊢
      exact fh a u e, same_upd h, fun a u e => by
    by_cases q : a = p
    · subst q
      exact Or.inr h
    · rw [upd_ne q] at e
      exact Or.inl e⟩
/-- one new object, not frozen -/
theorem New.put {F H : Hp} {p : Addr} {o : HO} (fh : Same F H) (h : H p = none) : New F H F (upd H p o) :=
  ⟨Same.refl _, fh.trans (same_upd h), same_upd h, fun _ _ q => Or.inl q⟩

section
variable {C : Cn} {α : Nat → Addr} {F H F' H' : Hp} {σ : St} {δ : En}
theorem StOk.new (S : StOk C α F H σ δ) (n : New F H F' H') : StOk C α F' H' σ δ where
  fh := n.fh
  ph := S.ph.trans n.hh
  bp := S.bp
  f0 := S.f0.trans n.ff
  fp := fun a o q => by
    rcases n.nw a o q with q | q
    · exact S.fp a o q
    · exact Or.inr (S.ph.free q)
  len := S.len
  fr := fun i d q => let ⟨v, h1, h2⟩ := S.fr i d q; ⟨v, h1, h2.mono n.ff⟩
  bo := fun i d q => let ⟨v, h1, h2⟩ := S.bo i d q; ⟨v, h1, h2.mono n.ff (Same.refl _)⟩
  ow := fun i s d q r => by
    obtain ⟨h1, h2, h3, h4⟩ := S.ow i s d q r
    refine ⟨h1, ?_, h3, h4.mono n.ff fun o q => n.hh _ _ q⟩
    cases e : F' (α i) with
    | none => rfl
    | some o =>
      rcases n.nw _ _ e with z | z
      · rw [h2] at z; cases z
      · obtain ⟨u, hu⟩ := h4.there
        rw [hu] at z; cases z
  io := S.io
  inj := S.inj
  sc := S.sc
  b2 := fun i ds q => by
    obtain ⟨vs, h1, h2, h3⟩ := S.b2 i ds q
    exact ⟨vs, h1, n.ff _ _ h2, h3.mono (Same.refl _) n.ff⟩
  qp := S.qp
theorem StOk.look (S : StOk C α F H σ δ) {i : Nat} {s : Sl} {d : D} (h : δ[i]? = some s) (hd : s.dat = some d) : ∃ v, σ[i]? = some (some v) ∧ RepR C.K F H v d := by
  cases s with
  | un => cases hd
  | fr e =>
    cases hd
    obtain ⟨v, h1, h2⟩ := S.fr i d h
    exact ⟨v, h1, Or.inl h2⟩
  | bo e =>
    cases hd
    obtain ⟨v, h1, h2⟩ := S.bo i d h
    exact ⟨v, h1, h2.mono (Same.refl _) (S.bp.trans S.ph)⟩
  | ow e =>
    cases hd
    obtain ⟨h1, h2, h3, h4⟩ := S.ow i _ d h rfl
    exact ⟨_, h1, Or.inr ⟨_, rfl, h4⟩⟩
  | io e =>
    cases hd
    obtain ⟨h1, h2, h3, h4⟩ := S.ow i _ d h rfl
    exact ⟨_, h1, Or.inr ⟨_, rfl, h4⟩⟩
  | sc ns => cases hd
  | b2 ds => cases hd
/-- a slot is stored: frozen data -/
theorem StOk.set (S : StOk C α F H σ δ) {i : Nat} {d : D} {v : V} (h : Rep C.K F d v) : StOk C α F H (σ.set i (some v)) (δ.set i (.fr d)) := by
  have key : ∀ (j : Nat) (s : Sl), (δ.set i (Sl.fr d))[j]? = some s → (j = i ∧ s = Sl.fr d ∧ i < δ.length) ∨ (j ≠ i ∧ δ[j]? = some s) := fun j s e => by
    by_cases q : j = i
    · subst q
      by_cases l : j < δ.length
      · rw [List.getElem?_set_self l] at e
        exact Or.inl ⟨rfl, (Option.some.inj e).symm, l⟩
      · rw [List.getElem?_eq_none (by rw [List.length_set]; omega)] at e
        cases e
    · rw [List.getElem?_set_ne (Ne.symm q)] at e
      exact Or.inr ⟨q, e⟩
  have sg : ∀ (j : Nat), j ≠ i → (σ.set i (some v))[j]? = σ[j]? := fun j q => List.getElem?_set_ne (Ne.symm q)
  refine ⟨S.fh, S.ph, S.bp, S.f0, S.fp, by rw [List.length_set, List.length_set]; exact S.len, fun j e q => ?_, fun j e q => ?_, fun j s e q r => ?_, fun j e q => ?_, fun j k s t e f q1 q2 r1 r2 => ?_, fun j ns q => ?_, fun j ds q => ?_, S.qp⟩
  · rcases key j _ q with ⟨rfl, z, l⟩ | ⟨n, q⟩
    · cases z
      exact ⟨v, by rw [List.getElem?_set_self (by rw [S.len]; exact l)], h⟩
    · rw [sg j n]
      exact S.fr j e q
  · rcases key j _ q with ⟨rfl, z, l⟩ | ⟨n, q⟩
    · cases z
    · rw [sg j n]
      exact S.bo j e q
  · rcases key j _ q with ⟨rfl, z, l⟩ | ⟨n, q⟩
    · subst z
      cases r
    · rw [sg j n]
      exact S.ow j s e q r
  · rcases key j _ q with ⟨rfl, z, l⟩ | ⟨n, q⟩
    · cases z
    · exact S.io j e q
  · rcases key j _ q1 with ⟨rfl, z, l⟩ | ⟨n, q1⟩
    · subst z
      cases r1
    · rcases key k _ q2 with ⟨rfl, z, l⟩ | ⟨n, q2⟩
      · subst z
        cases r2
      · exact S.inj j k s t e f q1 q2 r1 r2
  · rcases key j _ q with ⟨rfl, z, l⟩ | ⟨n, q⟩
    · cases z
    · rw [sg j n]
      exact S.sc j ns q
  · rcases key j _ q with ⟨rfl, z, l⟩ | ⟨n, q⟩
    · cases z
    · rw [sg j n]
      exact S.b2 j ds q
/-- a slot is stored: an own object, new at p -/
theorem StOk.setO (S : StOk C α F H σ δ) {i : Nat} {d : D} {p : Addr} (h : RepO C.K F H p d) (hF : F p = none) (hP : C.P p = none) (hne : ∀ (j : Nat) (s : Sl) (e : D), δ[j]? = some s → s.own = some e → j ≠ i → α j ≠ p) :
    StOk C (fun j => if j = i then p else α j) F H (σ.set i (some (.ref p))) (δ.set i (.ow d)) := by
  have key : ∀ (j : Nat) (s : Sl), (δ.set i (Sl.ow d))[j]? = some s → (j = i ∧ s = Sl.ow d ∧ i < δ.length) ∨ (j ≠ i ∧ δ[j]? = some s) := fun j s e => by
    by_cases q : j = i
    · subst q
      by_cases l : j < δ.length
      · rw [List.getElem?_set_self l] at e
        exact Or.inl ⟨rfl, (Option.some.inj e).symm, l⟩
      · rw [List.getElem?_eq_none (by rw [List.length_set]; omega)] at e
        cases e
    · rw [List.getElem?_set_ne (Ne.symm q)] at e
      exact Or.inr ⟨q, e⟩
  have sg : ∀ (j : Nat), j ≠ i → (σ.set i (some (V.ref p)))[j]? = σ[j]? := fun j q => List.getElem?_set_ne (Ne.symm q)
  refine ⟨S.fh, S.ph, S.bp, S.f0, S.fp, by rw [List.length_set, List.length_set]; exact S.len, fun j e q => ?_, fun j e q => ?_, fun j s e q r => ?_, fun j e q => ?_, fun j k s t e f q1 q2 r1 r2 r3 => ?_, fun j ns q => ?_, fun j ds q => ?_, S.qp⟩
  · rcases key j _ q with ⟨rfl, z, l⟩ | ⟨n, q⟩
    · cases z
    · rw [sg j n]
      exact S.fr j e q
  · rcases key j _ q with ⟨rfl, z, l⟩ | ⟨n, q⟩
    · cases z
    · rw [sg j n]
      exact S.bo j e q
  · rcases key j _ q with ⟨rfl, z, l⟩ | ⟨n, q⟩
    · subst z
      cases r
      rw [if_pos rfl]
      exact ⟨by rw [List.getElem?_set_self (by rw [S.len]; exact l)], hF, hP, h⟩
    · rw [sg j n, if_neg n]
      exact S.ow j s e q r
  · rcases key j _ q with ⟨rfl, z, l⟩ | ⟨n, q⟩
    · cases z
    · rw [if_neg n]
      exact S.io j e q
  · rcases key j _ q1 with ⟨ej, z, l⟩ | ⟨n, p1⟩
    · rcases key k _ q2 with ⟨ek, z2, l2⟩ | ⟨n2, p2⟩
      · rw [ej, ek]
      · rw [if_pos ej, if_neg n2] at r3
        exact absurd r3.symm (hne k t f p2 r2 n2)
    · rcases key k _ q2 with ⟨ek, z2, l2⟩ | ⟨n2, p2⟩
      · rw [if_neg n, if_pos ek] at r3
        exact absurd r3 (hne j s e p1 r1 n)
      · rw [if_neg n, if_neg n2] at r3
        exact S.inj j k s t e f p1 p2 r1 r2 r3
  · rcases key j _ q with ⟨rfl, z, l⟩ | ⟨n, q⟩
    · cases z
    · rw [sg j n]
      exact S.sc j ns q
  · rcases key j _ q with ⟨rfl, z, l⟩ | ⟨n, q⟩
    · cases z
    · rw [sg j n]
      exact S.b2 j ds q
/-- an object that is neither frozen, nor kept, nor another slot's own is changed -/
theorem StOk.poke (S : StOk C α F H σ δ) {p : Addr} {o : HO} (hF : F p = none) (hP : C.P p = none) (hne : ∀ (j : Nat) (s : Sl) (e : D), δ[j]? = some s → s.own = some e → α j ≠ p) : StOk C α F (upd H p o) σ δ where
  fh := fun a u q => by rw [upd_ne (ne_of_none q hF)]; exact S.fh a u q
  ph := fun a u q => by rw [upd_ne (ne_of_none q hP)]; exact S.ph a u q
  bp := S.bp
  f0 := S.f0
  fp := S.fp
  len := S.len
  fr := S.fr
  bo := S.bo
  ow := fun j s e q r => by
    obtain ⟨h1, h2, h3, h4⟩ := S.ow j s e q r
    refine ⟨h1, h2, h3, h4.mono (Same.refl _) fun u z => ?_⟩
    rw [upd_ne (hne j s e q r)]
    exact z
  io := S.io
  inj := S.inj
  sc := S.sc
  b2 := S.b2
  qp := S.qp
/-- an own object is changed -/
theorem StOk.poke1 (S : StOk C α F H σ δ) {i : Nat} {s t : Sl} {d e : D} {o : HO} (hi : δ[i]? = some s) (hs : s.own = some d) (ht : t.own = some e) (hk : ∀ z, t = .io z → ∃ y, s = .io y) (ho : RepO C.K F (upd H (α i) o) (α i) e) : StOk C α F (upd H (α i) o) σ (δ.set i t) := by
  obtain ⟨h1, h2, h3, h4⟩ := S.ow i s d hi hs
  have li : i < δ.length := (List.getElem?_eq_some_iff.mp hi).1
  have key : ∀ (j : Nat) (u : Sl), (δ.set i t)[j]? = some u → (j = i ∧ u = t) ∨ (j ≠ i ∧ δ[j]? = some u) := fun j u e => by
    by_cases q : j = i
    · subst q
      rw [List.getElem?_set_self li] at e
      exact Or.inl ⟨rfl, (Option.some.inj e).symm⟩
    · rw [List.getElem?_set_ne (Ne.symm q)] at e
      exact Or.inr ⟨q, e⟩
  have tf : ∀ d, t ≠ .fr d := fun d z => by rw [z] at ht; cases ht
  have tb : ∀ d, t ≠ .bo d := fun d z => by rw [z] at ht; cases ht
  have tc : ∀ d, t ≠ .sc d := fun d z => by rw [z] at ht; cases ht
  have td : ∀ d, t ≠ .b2 d := fun d z => by rw [z] at ht; cases ht
  refine ⟨fun a u q => ?_, fun a u q => ?_, S.bp, S.f0, S.fp, by rw [List.length_set]; exact S.len, fun j e q => ?_, fun j e q => ?_, fun j u e q r => ?_, fun j e q => ?_, fun j k u v e f q1 q2 r1 r2 r3 => ?_, fun j ns q => ?_, fun j ds q => ?_, S.qp⟩
  · rw [upd_ne (ne_of_none q h2)]; exact S.fh a u q
  · rw [upd_ne (ne_of_none q h3)]; exact S.ph a u q
  · rcases key j _ q with ⟨ej, z⟩ | ⟨n, q⟩
    · exact absurd z.symm (tf _)
    · exact S.fr j e q
  · rcases key j _ q with ⟨ej, z⟩ | ⟨n, q⟩
    · exact absurd z.symm (tb _)
    · exact S.bo j e q
  · rcases key j _ q with ⟨ej, z⟩ | ⟨n, q⟩
    · subst z
      rw [ht] at r
      cases r
      rw [ej]
      exact ⟨h1, h2, h3, ho⟩
    · obtain ⟨g1, g2, g3, g4⟩ := S.ow j u e q r
      refine ⟨g1, g2, g3, g4.mono (Same.refl _) fun w z => ?_⟩
      rw [upd_ne fun z => n (S.inj j i u s e d q hi r hs z)]
      exact z
  · rcases key j _ q with ⟨ej, z⟩ | ⟨n, q⟩
    · obtain ⟨y, hy⟩ := hk _ z.symm
      rw [ej]
      exact S.io i y (by rw [hi, hy])
    · exact S.io j e q
  · rcases key j _ q1 with ⟨ej, z⟩ | ⟨n, p1⟩
    · rcases key k _ q2 with ⟨ek, z2⟩ | ⟨n2, p2⟩
      · rw [ej, ek]
      · rw [ej] at r3 ⊢
        exact S.inj i k s v d f hi p2 hs r2 r3
    · rcases key k _ q2 with ⟨ek, z2⟩ | ⟨n2, p2⟩
      · rw [ek] at r3 ⊢
        exact S.inj j i u s e d p1 hi r1 hs r3
      · exact S.inj j k u v e f p1 p2 r1 r2 r3
  · rcases key j _ q with ⟨ej, z⟩ | ⟨n, q⟩
    · exact absurd z.symm (tc _)
    · exact S.sc j ns q
  · rcases key j _ q with ⟨ej, z⟩ | ⟨n, q⟩
    · exact absurd z.symm (td _)
    · exact S.b2 j ds q
/-- slots forgotten -/
def wipeE (δ : En) : List Nat → En
  | [] => δ
  | v :: vs => (wipeE δ vs).set v .un
theorem wipeE_get {δ : En} {i : Nat} {s : Sl} : ∀ {vs : List Nat}, (wipeE δ vs)[i]? = some s → s = .un ∨ (i ∉ vs ∧ δ[i]? = some s)
  | [], h => Or.inr ⟨by simp, h⟩
  | v :: vs, h => by
    unfold wipeE at h
    by_cases q : i = v
    · subst q
      by_cases l : i < (wipeE δ vs).length
      · rw [List.getElem?_set_self l] at h
        exact Or.inl (Option.some.inj h).symm
      · rw [List.getElem?_eq_none (by rw [List.length_set]; omega)] at h
        cases h
    · rw [List.getElem?_set_ne (Ne.symm q)] at h
      rcases wipeE_get h with z | ⟨z1, z2⟩
      · exact Or.inl z
      · exact Or.inr ⟨by simp [q, z1], z2⟩
theorem wipeE_len {δ : En} : ∀ vs : List Nat, (wipeE δ vs).length = δ.length
  | [] => rfl
  | v :: vs => by unfold wipeE; rw [List.length_set, wipeE_len vs]
theorem wipe_get {σ : St} {i : Nat} : ∀ {vs : List Nat}, i ∉ vs → (wipe σ vs)[i]? = σ[i]?
  | [], _ => rfl
  | v :: vs, h => by
    unfold wipe
    rw [List.getElem?_set_ne fun z => h (by simp [z]), wipe_get fun z => h (by simp [z])]
/-- the same slots, but for the forgotten ones -/
theorem StOk.wiped (S : StOk C α F H σ δ) {vs : List Nat} {σ' : St} (hl : σ'.length = σ.length) (hs : ∀ i, i ∉ vs → σ'[i]? = σ[i]?) : StOk C α F H σ' (wipeE δ vs) where
  fh := S.fh
  ph := S.ph
  bp := S.bp
  f0 := S.f0
  fp := S.fp
  len := by rw [hl, wipeE_len]; exact S.len
  fr := fun j e q => by
    rcases wipeE_get q with z | ⟨z1, z2⟩
    · cases z
    · rw [hs j z1]; exact S.fr j e z2
  bo := fun j e q => by
    rcases wipeE_get q with z | ⟨z1, z2⟩
    · cases z
    · rw [hs j z1]; exact S.bo j e z2
  ow := fun j s e q r => by
    rcases wipeE_get q with z | ⟨z1, z2⟩
    · subst z; cases r
    · rw [hs j z1]; exact S.ow j s e z2 r
  io := fun j e q => by
    rcases wipeE_get q with z | ⟨z1, z2⟩
    · cases z
    · exact S.io j e z2
  inj := fun j k s t e f q1 q2 r1 r2 r3 => by
    rcases wipeE_get q1 with z | ⟨z1, z2⟩
    · subst z; cases r1
    · rcases wipeE_get q2 with z | ⟨y1, y2⟩
      · subst z; cases r2
      · exact S.inj j k s t e f z2 y2 r1 r2 r3
  sc := fun j ns q => by
    rcases wipeE_get q with z | ⟨z1, z2⟩
    · cases z
    · rw [hs j z1]; exact S.sc j ns z2
  b2 := fun j ds q => by
    rcases wipeE_get q with z | ⟨z1, z2⟩
    · cases z
    · rw [hs j z1]; exact S.b2 j ds z2
  qp := S.qp
end
end DL

set_option Elab.async false
set_option linter.all false
set_option maxRecDepth 100000
set_option maxHeartbeats 400000
/-! DLb: the judgements. -/
namespace DL
open PySem L2

inductive R (α : Type) where
  | ok (a : α) (δ : En)
  | ex (x : Xn) (δ : En)
abbrev M (α : Type) := En → Option (R α)
def M.ret {α : Type} (a : α) : M α := fun δ => some (.ok a δ)
def M.bind {α β : Type} (m : M α) (f : α → M β) : M β := fun δ => match m δ with
  | none => none
  | some (.ex x δ') => some (.ex x δ')
  | some (.ok a δ') => f a δ'
def M.lift {α : Type} (o : Option α) : M α := fun δ => match o with
  | some a => some (.ok a δ)
  | none => none
theorem M.bind_ok {α β : Type} {m : M α} {f : α → M β} {δ δ' : En} {a : α} (h : m δ = some (.ok a δ')) : M.bind m f δ = f a δ' := by unfold M.bind; rw [h]
theorem M.bind_ex {α β : Type} {m : M α} {f : α → M β} {δ δ' : En} {x : Xn} (h : m δ = some (.ex x δ')) : M.bind m f δ = some (.ex x δ') := by unfold M.bind; rw [h]

def XRep (K : Fg) (F H : Hp) (x : Xn) (cls : Value) (dd : Option Addr) : Prop :=
  cls = .ref x.C ∧ ((x.ns = [] ∧ x.ds = [] ∧ dd = none) ∨ ∃ a vs, dd = some a ∧ H a = some (.xd (x.ns.zip vs)) ∧ x.ns ≠ [] ∧ x.ns.length = x.ds.length ∧ Reps K F x.ds vs ∧ F a = none)

abbrev Rl (β α : Type) := Hp → St → β → α → Prop
abbrev Pr := Hp → St → Prop
def relD (K : Fg) : Rl V D := fun F _ v d => Rep K F d v
def relB : Rl Bool Bool := fun _ _ b c => b = c

/-- t computes what m computes -/
def J {β α : Type} (K : Fg) (W : WX) (pre : Pr) (t : St → Hp → (β → Hp → Prop) → Prop) (rel : Rl β α) (m : M α) : Prop :=
  ∀ (C : Cn), C.K = K → C.W = W → ∀ (al : Nat → Addr) (F H : Hp) (σ : St) (δ : En), StOk C al F H σ δ → pre F σ → ∀ r, m δ = some r → ∀ Q : β → Hp → Prop,
    (∀ a δ', r = .ok a δ' → ∀ al' F' H' b, Same F F' → StOk C al' F' H' σ δ' → rel F' σ b a → Q b H') →
    (∀ x δ', r = .ex x δ' → ∀ al' F' H' cls dd, Same F F' → StOk C al' F' H' σ δ' → XRep K F' H' x cls dd → W cls dd σ H') → t σ H Q
/-- the same of a new object of one's own -/
def Jn (K : Fg) (W : WX) (pre : Pr) (t : TE) (m : M D) : Prop :=
  ∀ (C : Cn), C.K = K → C.W = W → ∀ (al : Nat → Addr) (F H : Hp) (σ : St) (δ : En), StOk C al F H σ δ → pre F σ → ∀ r, m δ = some r → ∀ Q : VK,
    (∀ d δ', r = .ok d δ' → ∀ al' F' H' p, Same F F' → StOk C al' F' H' σ δ' → F' p = none → C.P p = none → (∀ (j : Nat) s e, δ'[j]? = some s → Sl.own s = some e → al' j ≠ p) → RepO K F' H' p d → Q (.ref p) H') →
    (∀ x δ', r = .ex x δ' → ∀ al' F' H' cls dd, Same F F' → StOk C al' F' H' σ δ' → XRep K F' H' x cls dd → W cls dd σ H') → t σ H Q
def tru : Pr := fun _ _ => True
abbrev Ev (K : Fg) (W : WX) (te : TE) (m : M D) : Prop := J K W tru te (relD K) m
abbrev En1 (K : Fg) (W : WX) (te : TE) (m : M D) : Prop := Jn K W tru te m
abbrev Et (K : Fg) (W : WX) (tt : TT) (m : M Bool) : Prop := J K W tru tt relB m

def MonoP (pre : Pr) : Prop := ∀ F F' σ, Same F F' → pre F σ → pre F' σ
def MonoR {β α : Type} (rel : Rl β α) : Prop := ∀ F F' σ b a, Same F F' → rel F σ b a → rel F' σ b a
theorem monoT : MonoP tru := fun _ _ _ _ _ => trivial
theorem monoD {K : Fg} : MonoR (relD K) := fun _ _ _ _ _ e h => Rep.mono e h
theorem MonoP.and {p q : Pr} (a : MonoP p) (b : MonoP q) : MonoP fun F σ => p F σ ∧ q F σ := fun F F' σ e h => ⟨a F F' σ e h.1, b F F' σ e h.2⟩
theorem MonoR.at {β α : Type} {rel : Rl β α} (h : MonoR rel) {b : β} {a : α} : MonoP fun F σ => rel F σ b a := fun F F' σ e q => h F F' σ b a e q

section
variable {K : Fg} {W : WX} {pre : Pr}
theorem J.bind {β γ α ε : Type} {t1 : St → Hp → (β → Hp → Prop) → Prop} {t2 : β → St → Hp → (γ → Hp → Prop) → Prop} {rel1 : Rl β α} {rel2 : Rl γ ε} {m : M α} {f : α → M ε}
    (h1 : J K W pre t1 rel1 m) (mp : MonoP pre) (h2 : ∀ a b, J K W (fun F σ => pre F σ ∧ rel1 F σ b a) (t2 b) rel2 (f a)) : J K W pre (fun σ H Q => t1 σ H fun b H1 => t2 b σ H1 Q) rel2 (m.bind f) := by
  intro C hK hW al F H σ δ S hp r hr Q hok hex
  cases e : m δ with
  | none => unfold M.bind at hr; rw [e] at hr; cases hr
  | some r1 =>
    refine h1 C hK hW al F H σ δ S hp r1 e _ (fun a δ1 e1 al1 F1 H1 b s1 S1 rel => ?_) fun x δ1 e1 al1 F1 H1 cls dd s1 S1 xr => ?_
    · subst e1
      rw [M.bind_ok e] at hr
      exact h2 a b C hK hW al1 F1 H1 σ δ1 S1 ⟨mp _ _ _ s1 hp, rel⟩ r hr Q (fun a2 δ2 e2 al2 F2 H2 b2 s2 S2 rel2 => hok a2 δ2 e2 al2 F2 H2 b2 (s1.trans s2) S2 rel2)
        fun x δ2 e2 al2 F2 H2 cls dd s2 S2 xr => hex x δ2 e2 al2 F2 H2 cls dd (s1.trans s2) S2 xr
    · subst e1
      rw [M.bind_ex e] at hr
      cases hr
      exact hex x δ1 rfl al1 F1 H1 cls dd s1 S1 xr
theorem J.bindN {β α : Type} {t1 : St → Hp → (β → Hp → Prop) → Prop} {t2 : β → TE} {rel1 : Rl β α} {m : M α} {f : α → M D}
    (h1 : J K W pre t1 rel1 m) (mp : MonoP pre) (h2 : ∀ a b, Jn K W (fun F σ => pre F σ ∧ rel1 F σ b a) (t2 b) (f a)) : Jn K W pre (fun σ H Q => t1 σ H fun b H1 => t2 b σ H1 Q) (m.bind f) := by
  intro C hK hW al F H σ δ S hp r hr Q hok hex
  cases e : m δ with
  | none => unfold M.bind at hr; rw [e] at hr; cases hr
  | some r1 =>
    refine h1 C hK hW al F H σ δ S hp r1 e _ (fun a δ1 e1 al1 F1 H1 b s1 S1 rel => ?_) fun x δ1 e1 al1 F1 H1 cls dd s1 S1 xr => ?_
    · subst e1
      rw [M.bind_ok e] at hr
      exact h2 a b C hK hW al1 F1 H1 σ δ1 S1 ⟨mp _ _ _ s1 hp, rel⟩ r hr Q (fun a2 δ2 e2 al2 F2 H2 p s2 S2 a1 a2 a3 a4 => hok _ δ2 e2 al2 F2 H2 p (s1.trans s2) S2 a1 a2 a3 a4)
        fun x δ2 e2 al2 F2 H2 cls dd s2 S2 xr => hex x δ2 e2 al2 F2 H2 cls dd (s1.trans s2) S2 xr
    · subst e1
      rw [M.bind_ex e] at hr
      cases hr
      exact hex x δ1 rfl al1 F1 H1 cls dd s1 S1 xr
theorem J.wk {β α : Type} {t : St → Hp → (β → Hp → Prop) → Prop} {rel : Rl β α} {m : M α} {p q : Pr} (h : J K W p t rel m) (i : ∀ F σ, q F σ → p F σ) : J K W q t rel m :=
  fun C hK hW al F H σ δ S hp => h C hK hW al F H σ δ S (i _ _ hp)
/-- a new object frozen -/
theorem Jn.frz {t : TE} {m : M D} (h : Jn K W pre t m) : J K W pre t (relD K) m := by
  intro C hK hW al F H σ δ S hp r hr Q hok hex
  refine h C hK hW al F H σ δ S hp r hr Q (fun d δ' e al' F' H' p s S' n1 n2 n3 o => ?_) hex
  obtain ⟨u, hu, rp⟩ := o.freeze n1
  have fs : Same F' (upd F' p u) := same_upd n1
  refine hok d δ' e al' (upd F' p u) H' (.ref p) (s.trans fs) ⟨fun a v q => ?_, S'.ph, S'.bp, S'.f0.trans fs, fun a v q => ?_, S'.len, fun i d q => ?_, fun i d q => ?_, fun i s d q r => ?_, S'.io, S'.inj, S'.sc, fun i ds q => ?_, S'.qp⟩ rp
  · by_cases z : a = p
    · subst z
      rw [upd_same] at q
      rw [← q]
      exact hu
    · rw [upd_ne z] at q
      exact S'.fh a v q
  · by_cases z : a = p
    · subst z
      exact Or.inr n2
    · rw [upd_ne z] at q
      exact S'.fp a v q
  · obtain ⟨v, h1, h2⟩ := S'.fr i d q
    exact ⟨v, h1, h2.mono fs⟩
  · obtain ⟨v, h1, h2⟩ := S'.bo i d q
    exact ⟨v, h1, h2.mono fs (Same.refl _)⟩
  · obtain ⟨h1, h2, h3, h4⟩ := S'.ow i s d q r
    refine ⟨h1, ?_, h3, h4.mono fs fun o z => z⟩
    rw [upd_ne (n3 i s d q r)]
    exact h2
  · obtain ⟨vs, h1, h2, h3⟩ := S'.b2 i ds q
    exact ⟨vs, h1, fs _ _ h2, h3.mono (Same.refl _) fs⟩
end

/-! ### names, constants -/
def mVar (i : Nat) : M D := fun δ => match δ[i]? with
  | some (.fr d) => some (.ok d δ)
  | some (.ow d) => some (.ok d (δ.set i (.fr d)))
  | _ => none
def mC (d : D) : M D := M.ret d
section
variable {K : Fg} {W : WX}
/-- an own object is frozen in its slot -/
theorem StOk.frz {C : Cn} {al : Nat → Addr} {F H : Hp} {σ : St} {δ : En} {i : Nat} {d : D} (S : StOk C al F H σ δ) (h : δ[i]? = some (.ow d)) :
    ∃ F', Same F F' ∧ StOk C al F' H σ (δ.set i (.fr d)) ∧ σ[i]? = some (some (.ref (al i))) ∧ Rep C.K F' d (.ref (al i)) := by
  obtain ⟨h1, h2, h3, h4⟩ := S.ow i _ d h rfl
  obtain ⟨u, hu, rp⟩ := h4.freeze h2
  have fs : Same F (upd F (al i) u) := same_upd h2
  have li : i < δ.length := (List.getElem?_eq_some_iff.mp h).1
  have key : ∀ (j : Nat) (s : Sl), (δ.set i (Sl.fr d))[j]? = some s → (j = i ∧ s = Sl.fr d) ∨ (j ≠ i ∧ δ[j]? = some s) := fun j s e => by
    by_cases q : j = i
    · subst q
      rw [List.getElem?_set_self li] at e
      exact Or.inl ⟨rfl, (Option.some.inj e).symm⟩
    · rw [List.getElem?_set_ne (Ne.symm q)] at e
      exact Or.inr ⟨q, e⟩
  refine ⟨_, fs, ⟨fun a v q => ?_, S.ph, S.bp, S.f0.trans fs, fun a v q => ?_, by rw [List.length_set]; exact S.len, fun j e q => ?_, fun j e q => ?_, fun j s e q r => ?_, fun j e q => ?_, fun j k s t e f q1 q2 r1 r2 r3 => ?_, fun j ns q => ?_, fun j ds q => ?_, S.qp⟩, h1, rp⟩
  · by_cases z : a = al i
    · rw [z] at q ⊢
      rw [upd_same] at q
      rw [← q]
      exact hu
    · rw [upd_ne z] at q
      exact S.fh a v q
  · by_cases z : a = al i
    · rw [z]
      exact Or.inr h3
    · rw [upd_ne z] at q
      exact S.fp a v q
  · rcases key j _ q with ⟨ej, z⟩ | ⟨n, q⟩
    · cases z
      rw [ej]
      exact ⟨_, h1, rp⟩
    · obtain ⟨v, g1, g2⟩ := S.fr j e q
      exact ⟨v, g1, g2.mono fs⟩
  · rcases key j _ q with ⟨ej, z⟩ | ⟨n, q⟩
    · cases z
    · obtain ⟨v, g1, g2⟩ := S.bo j e q
      exact ⟨v, g1, g2.mono fs (Same.refl _)⟩
  · rcases key j _ q with ⟨ej, z⟩ | ⟨n, q⟩
    · subst z
      cases r
    · obtain ⟨g1, g2, g3, g4⟩ := S.ow j s e q r
      refine ⟨g1, ?_, g3, g4.mono fs fun o z => z⟩
      rw [upd_ne fun z => n (S.inj j i s _ e d q h r rfl z)]
      exact g2
  · rcases key j _ q with ⟨ej, z⟩ | ⟨n, q⟩
    · cases z
    · exact S.io j e q
  · rcases key j _ q1 with ⟨ej, z⟩ | ⟨n, p1⟩
    · subst z
      cases r1
    · rcases key k _ q2 with ⟨ek, z⟩ | ⟨n2, p2⟩
      · subst z
        cases r2
      · exact S.inj j k s t e f p1 p2 r1 r2 r3
  · rcases key j _ q with ⟨ej, z⟩ | ⟨n, q⟩
    · cases z
    · exact S.sc j ns q
  · rcases key j _ q with ⟨ej, z⟩ | ⟨n, q⟩
    · cases z
    · obtain ⟨vs, g1, g2, g3⟩ := S.b2 j ds q
      exact ⟨vs, g1, fs _ _ g2, g3.mono (Same.refl _) fs⟩
theorem ev_var {i : Nat} : Ev K W (tVar i) (mVar i) := by
  intro C hK hW al F H σ δ S _ r hr Q hok hex
  subst hK
  unfold mVar at hr
  cases e : δ[i]? with
  | none => rw [e] at hr; cases hr
  | some s =>
    rw [e] at hr
    cases s with
    | fr d =>
      cases hr
      obtain ⟨v, h1, h2⟩ := S.fr i d e
      exact ⟨v, h1, hok d δ rfl al F H v (Same.refl _) S h2⟩
    | ow d =>
      cases hr
      obtain ⟨F', s, S', h1, h2⟩ := S.frz e
      exact ⟨_, h1, hok d _ rfl al F' H _ s S' h2⟩
    | _ => cases hr
theorem ev_c {v : V} {d : D} (h : ∀ F, Rep K F d v) : Ev K W (tC v) (mC d) := by
  intro C hK hW al F H σ δ S _ r hr Q hok hex
  cases hr
  exact hok d δ rfl al F H v (Same.refl _) S (h F)
end

/-! ### operands: a value, or a slot that is looked at when the operation is done -/
inductive Op where
  | val (d : D) | slot (i : Nat) | part (i k : Nat)
def rd : Op → En → Option D
  | .val d, _ => some d
  | .slot i, δ => match δ[i]? with
    | some s => s.dat
    | none => none
  | .part i k, δ => match δ[i]? with
    | some (.b2 ds) => ds[k]?
    | _ => none
def relO (K : Fg) : Rl V Op := fun F σ v o => match o with
  | .val d => Rep K F d v
  | .slot i => σ[i]? = some (some v)
  | .part i k => ∃ p vs, σ[i]? = some (some (V.ref p)) ∧ F p = some (.lst vs) ∧ vs[k]? = some v
theorem monoO {K : Fg} : MonoR (relO K) := fun F F' σ v o e h => by
  cases o with
  | val d => exact Rep.mono e h
  | slot i => exact h
  | part i k => obtain ⟨p, vs, h1, h2, h3⟩ := h; exact ⟨p, vs, h1, e _ _ h2, h3⟩
theorem parts_get {K : Fg} {P F : Hp} : ∀ {vs : List V} {ds : List D} {k : Nat} {v : V} {d : D}, Parts K P F vs ds → vs[k]? = some v → ds[k]? = some d → ∃ b, v = V.ref b ∧ RepO K F P b d
  | _, _, k, v, d, .nil, e, _ => by simp at e
  | _, _, 0, v, d, .cons r t, e, g => by simp at e g; subst e; subst g; exact r
  | _, _, k + 1, v, d, .cons r t, e, g => parts_get (k := k) t (by simpa using e) (by simpa using g)
abbrev Eo (K : Fg) (W : WX) (te : TE) (m : M Op) : Prop := J K W tru te (relO K) m
def mVal (m : M D) : M Op := m.bind fun d => M.ret (.val d)
def mRd (o : Op) : M D := fun δ => match rd o δ with
  | some d => some (.ok d δ)
  | none => none
def mOv (i : Nat) : M Op := fun δ => match δ[i]? with
  | some s => match s.dat with
    | some _ => some (.ok (.slot i) δ)
    | none => none
  | none => none

theorem StOk.opd {C : Cn} {al : Nat → Addr} {F H : Hp} {σ : St} {δ : En} (S : StOk C al F H σ δ) {o : Op} {v : V} {d : D} (h : relO C.K F σ v o) (hd : rd o δ = some d) : RepR C.K F H v d := by
  cases o with
  | val e =>
    cases hd
    exact Or.inl h
  | slot i =>
    simp only [rd] at hd
    cases e : δ[i]? with
    | none => rw [e] at hd; cases hd
    | some s =>
      rw [e] at hd
      obtain ⟨u, h1, h2⟩ := S.look e hd
      have h' : σ[i]? = some (some v) := h
      rw [h1] at h'
      cases h'
      exact h2
  | part i k =>
    obtain ⟨p, vs, h1, h2, h3⟩ := h
    simp only [rd] at hd
    cases e : δ[i]? with
    | none => rw [e] at hd; cases hd
    | some s =>
      cases s with
      | b2 ds =>
        rw [e] at hd
        obtain ⟨ws, g1, g2, g3⟩ := S.b2 i ds e
        rw [h1] at g1
        cases g1
        rw [h2] at g2
        cases g2
        obtain ⟨b, rfl, rb⟩ := parts_get g3 h3 hd
        exact Or.inr ⟨b, rfl, rb.mono (Same.refl _) fun o q => S.ph _ _ (S.qp _ _ q)⟩
      | _ => rw [e] at hd; cases hd
section
variable {K : Fg} {W : WX} {ta tb : TE} {pre : Pr}
theorem eo_val {m : M D} (h : Ev K W ta m) : Eo K W ta (mVal m) := by
  have g := J.bind (t2 := fun b _ H Q => Q b H) (rel2 := relO K) (f := fun d => M.ret (.val d)) h monoT fun a b => by
    intro C hK hW al F H σ δ S hp r hr Q hok hex
    cases hr
    exact hok _ δ rfl al F H b (Same.refl _) S hp.2
  exact g
/-- a slot that holds something -/
theorem eo_var {i : Nat} : Eo K W (tVar i) (mOv i) := by
  intro C hK hW al F H σ δ S _ r hr Q hok hex
  unfold mOv at hr
  cases e : δ[i]? with
  | none => simp only [e] at hr; cases hr
  | some s =>
    cases e2 : s.dat with
    | none => simp only [e, e2] at hr; cases hr
    | some d =>
      simp only [e, e2] at hr
      cases hr
      obtain ⟨v, h1, h2⟩ := S.look e e2
      exact ⟨v, h1, hok _ δ rfl al F H v (Same.refl _) S h1⟩
end
/-! ### primitives -/
/-- r of readable data gives data (new things may be laid) -/
def Prim1 (K : Fg) (r : V → Hp → VK → Prop) (f : D → Option D) : Prop := ∀ (F H : Hp) (v : V) (d e : D), Same F H → RepR K F H v d → f d = some e → ∀ Q : VK, (∀ F' H' u, New F H F' H' → Rep K F' e u → Q u H') → r v H Q
def Prim2 (K : Fg) (r : R2) (f : D → D → Option D) : Prop := ∀ (F H : Hp) (v w : V) (d e z : D), Same F H → RepR K F H v d → RepR K F H w e → f d e = some z → ∀ Q : VK, (∀ F' H' u, New F H F' H' → Rep K F' z u → Q u H') → r v w H Q
def PrimN2 (K : Fg) (r : R2) (f : D → D → Option (List D)) : Prop := ∀ (F H : Hp) (v w : V) (d e : D) (ds : List D), Same F H → RepR K F H v d → RepR K F H w e → f d e = some ds → ∀ Q : VK, (∀ p H' vs, H p = none → Same H H' → H' p = some (.lst vs) → ds.length ≤ LB → Reps K F ds vs → Q (.ref p) H') → r v w H Q

def m1 (f : D → Option D) (a : M Op) : M D := a.bind fun o => (mRd o).bind fun d => M.lift (f d)
def m2 (f : D → D → Option D) (a b : M Op) : M D := a.bind fun o => b.bind fun q => (mRd o).bind fun d => (mRd q).bind fun e => M.lift (f d e)
def mn1 (f : D → Option (List D)) (a : M Op) : M D := a.bind fun o => (mRd o).bind fun d => M.lift ((f d).map D.lst)
def mn2 (f : D → D → Option (List D)) (a b : M Op) : M D := a.bind fun o => b.bind fun q => (mRd o).bind fun d => (mRd q).bind fun e => M.lift ((f d e).map D.lst)
theorem rd_bind {β : Type} {o : Op} {δ : En} {f : D → M β} {r : R β} (h : (mRd o).bind f δ = some r) : ∃ d, rd o δ = some d ∧ f d δ = some r := by
  unfold M.bind mRd at h
  cases e : rd o δ with
  | none => simp only [e] at h; cases h
  | some d => simp only [e] at h; exact ⟨d, rfl, h⟩
theorem lift_some {β : Type} {o : Option β} {δ : En} {r : R β} (h : M.lift o δ = some r) : ∃ d, o = some d ∧ r = .ok d δ := by
  unfold M.lift at h
  cases o with
  | none => cases h
  | some d => cases h; exact ⟨d, rfl, rfl⟩
section
variable {K : Fg} {W : WX} {ta tb : TE} {pre : Pr}
theorem ev_1 {r : V → Hp → VK → Prop} {f : D → Option D} {a : M Op} (p : Prim1 K r f) (ha : Eo K W ta a) : Ev K W (fun σ H Q => ta σ H fun x H1 => r x H1 Q) (m1 f a) := by
  refine J.bind (t2 := fun x _ H Q => r x H Q) ha monoT fun o v => ?_
  intro C hK hW al F H σ δ S hp q hr Q hok hex
  subst hK
  obtain ⟨d, h1, hr⟩ := rd_bind hr
  obtain ⟨e, h2, rfl⟩ := lift_some hr
  exact p F H v d e S.fh (S.opd hp.2 h1) h2 Q fun F' H' u n ru => hok e δ rfl al F' H' u n.ff (S.new n) ru
theorem ev_2 {r : R2} {f : D → D → Option D} {a b : M Op} (p : Prim2 K r f) (ha : Eo K W ta a) (hb : Eo K W tb b) : Ev K W (tOp r ta tb) (m2 f a b) := by
  refine J.bind (t2 := fun x σ H Q => tb σ H fun y H2 => r x y H2 Q) ha monoT fun o v => ?_
  refine J.bind (t2 := fun y _ H Q => r v y H Q) (hb.wk fun _ _ _ => trivial) (monoT.and monoO.at) fun q w => ?_
  intro C hK hW al F H σ δ S hp r' hr Q hok hex
  subst hK
  obtain ⟨d, h1, hr⟩ := rd_bind hr
  obtain ⟨e, h2, hr⟩ := rd_bind hr
  obtain ⟨z, h3, rfl⟩ := lift_some hr
  exact p F H v w d e z S.fh (S.opd hp.1.2 h1) (S.opd hp.2 h2) h3 Q fun F' H' u n ru => hok z δ rfl al F' H' u n.ff (S.new n) ru
theorem newO {C : Cn} {al : Nat → Addr} {F H H' : Hp} {σ : St} {δ : En} {p : Addr} {vs : List V} {ds : List D} (S : StOk C al F H σ δ) (hp : H p = none) (hh : Same H H') (ho : H' p = some (.lst vs)) (hl : ds.length ≤ LB) (hr : Reps C.K F ds vs) :
    StOk C al F H' σ δ ∧ F p = none ∧ C.P p = none ∧ (∀ (j : Nat) s e, δ[j]? = some s → Sl.own s = some e → al j ≠ p) ∧ RepO C.K F H' p (.lst ds) := by
  refine ⟨S.new ⟨Same.refl _, S.fh.trans hh, hh, fun _ _ q => Or.inl q⟩, S.fh.free hp, S.ph.free hp, fun j s e q r z => ?_, vs, ho, hl, hr⟩
  obtain ⟨_, _, _, h4⟩ := S.ow j s e q r
  obtain ⟨u, hu⟩ := h4.there
  rw [z, hp] at hu
  cases hu
theorem en_2 {r : R2} {f : D → D → Option (List D)} {a b : M Op} (p : PrimN2 K r f) (ha : Eo K W ta a) (hb : Eo K W tb b) : En1 K W (tOp r ta tb) (mn2 f a b) := by
  refine J.bindN (t2 := fun x σ H Q => tb σ H fun y H2 => r x y H2 Q) ha monoT fun o v => ?_
  refine J.bindN (t2 := fun y _ H Q => r v y H Q) (hb.wk fun _ _ _ => trivial) (monoT.and monoO.at) fun q w => ?_
  intro C hK hW al F H σ δ S hp r' hr Q hok hex
  subst hK
  obtain ⟨d, h1, hr⟩ := rd_bind hr
  obtain ⟨e, h2, hr⟩ := rd_bind hr
  obtain ⟨z, h3, rfl⟩ := lift_some hr
  cases h4 : f d e with
  | none => rw [h4] at h3; cases h3
  | some ds =>
    rw [h4] at h3
    cases h3
    refine p F H v w d e ds S.fh (S.opd hp.1.2 h1) (S.opd hp.2 h2) h4 Q fun x H' vs hx hh ho hl hr => ?_
    obtain ⟨g1, g2, g3, g4, g5⟩ := newO S hx hh ho hl hr
    exact hok _ δ rfl al F H' x (Same.refl _) g1 g2 g3 g4 g5
end

/-! ### arguments -/
def relA (K : Fg) : Rl (List V) (List Op) := fun F σ vs os => Paired (fun v o => relO K F σ v o) vs os
abbrev Ea (K : Fg) (W : WX) (ta : TA) (m : M (List Op)) : Prop := J K W tru ta (relA K) m
def maNil : M (List Op) := M.ret []
def maCons (a : M Op) (b : M (List Op)) : M (List Op) := a.bind fun o => b.bind fun os => M.ret (o :: os)
section
variable {K : Fg} {W : WX}
theorem ea_nil : Ea K W tNil maNil := by
  intro C hK hW al F H σ δ S hp r hr Q hok hex
  cases hr
  exact hok [] δ rfl al F H [] (Same.refl _) S .nil
theorem ea_cons {te : TE} {tr : TA} {a : M Op} {b : M (List Op)} (ha : Eo K W te a) (hb : Ea K W tr b) : Ea K W (tCons te tr) (maCons a b) := by
  refine J.bind (t2 := fun x σ H Q => tr σ H fun xs H2 => Q (x :: xs) H2) ha monoT fun o v => ?_
  refine J.bind (t2 := fun xs _ H Q => Q (v :: xs) H) (hb.wk fun _ _ _ => trivial) (monoT.and monoO.at) fun q w => ?_
  intro C hK hW al F H σ δ S hp r' hr Q hok hex
  cases hr
  exact hok _ δ rfl al F H _ (Same.refl _) S (.cons hp.1.2 hp.2)
/-- what arguments hold -/
def rds : List Op → En → Option (List D)
  | [], _ => some []
  | o :: os, δ => match rd o δ, rds os δ with
    | some d, some ds => some (d :: ds)
    | _, _ => none
theorem StOk.opds {C : Cn} {al : Nat → Addr} {F H : Hp} {σ : St} {δ : En} (S : StOk C al F H σ δ) : ∀ {os : List Op} {vs : List V} {ds : List D}, relA C.K F σ vs os → rds os δ = some ds → Paired (fun v d => RepR C.K F H v d) vs ds
  | [], _, ds, h, e => by
    cases h
    cases e
    exact .nil
  | o :: os, _, ds, h, e => by
    cases h with
    | cons r t =>
      unfold rds at e
      cases e1 : rd o δ with
      | none => rw [e1] at e; cases e
      | some d =>
        cases e2 : rds os δ with
        | none => rw [e1, e2] at e; cases e
        | some ds' =>
          rw [e1, e2] at e
          cases e
          exact .cons (S.opd r e1) (S.opds t e2)
def mRds (os : List Op) : M (List D) := fun δ => match rds os δ with
  | some ds => some (.ok ds δ)
  | none => none
theorem rds_bind {β : Type} {os : List Op} {δ : En} {f : List D → M β} {r : R β} (h : (mRds os).bind f δ = some r) : ∃ ds, rds os δ = some ds ∧ f ds δ = some r := by
  unfold M.bind mRds at h
  cases e : rds os δ with
  | none => simp only [e] at h; cases h
  | some d => simp only [e] at h; exact ⟨d, rfl, h⟩
def PrimA (K : Fg) (r : List V → Hp → VK → Prop) (f : List D → Option D) : Prop := ∀ (F H : Hp) (vs : List V) (ds : List D) (e : D), Same F H → Paired (fun v d => RepR K F H v d) vs ds → f ds = some e → ∀ Q : VK, (∀ F' H' u, New F H F' H' → Rep K F' e u → Q u H') → r vs H Q
def mA (f : List D → Option D) (a : M (List Op)) : M D := a.bind fun os => (mRds os).bind fun ds => M.lift (f ds)
def mnA (f : List D → Option (List D)) (a : M (List Op)) : M D := a.bind fun os => (mRds os).bind fun ds => M.lift ((f ds).map D.lst)
theorem ev_A {ta : TA} {r : List V → Hp → VK → Prop} {f : List D → Option D} {a : M (List Op)} (p : PrimA K r f) (ha : Ea K W ta a) : Ev K W (tCB r ta) (mA f a) := by
  refine J.bind (t2 := fun x _ H Q => r x H Q) ha monoT fun o v => ?_
  intro C hK hW al F H σ δ S hp q hr Q hok hex
  subst hK
  obtain ⟨d, h1, hr⟩ := rds_bind hr
  obtain ⟨e, h2, rfl⟩ := lift_some hr
  exact p F H v d e S.fh (S.opds hp.2 h1) h2 Q fun F' H' u n ru => hok e δ rfl al F' H' u n.ff (S.new n) ru
end

/-! ### displays: frozen values -/
def relS (K : Fg) : Rl (List V) (List D) := fun F _ vs ds => Reps K F ds vs
abbrev Eds (K : Fg) (W : WX) (ta : TA) (m : M (List D)) : Prop := J K W tru ta (relS K) m
def mdNil : M (List D) := M.ret []
def mdCons (a : M D) (b : M (List D)) : M (List D) := a.bind fun d => b.bind fun ds => M.ret (d :: ds)
def mTup (a : M (List D)) : M D := a.bind fun ds => M.lift (if ds.length ≤ LB then some (.tup ds) else none)
def mLst (a : M (List D)) : M D := a.bind fun ds => M.lift (if ds.length ≤ LB then some (.lst ds) else none)
section
variable {K : Fg} {W : WX}
theorem ed_nil : Eds K W tNil mdNil := by
  intro C hK hW al F H σ δ S hp r hr Q hok hex
  cases hr
  exact hok [] δ rfl al F H [] (Same.refl _) S reps_nil
theorem ed_cons {te : TE} {tr : TA} {a : M D} {b : M (List D)} (ha : Ev K W te a) (hb : Eds K W tr b) : Eds K W (tCons te tr) (mdCons a b) := by
  refine J.bind (t2 := fun x σ H Q => tr σ H fun xs H2 => Q (x :: xs) H2) ha monoT fun o v => ?_
  refine J.bind (t2 := fun xs _ H Q => Q (v :: xs) H) (hb.wk fun _ _ _ => trivial) (monoT.and monoD.at) fun q w => ?_
  intro C hK hW al F H σ δ S hp r' hr Q hok hex
  cases hr
  exact hok _ δ rfl al F H _ (Same.refl _) S (reps_cons hp.1.2 hp.2)
theorem if_some {β : Type} {c : Prop} [Decidable c] {x y : β} (h : (if c then some x else none) = some y) : c ∧ x = y := by
  by_cases q : c
  · rw [if_pos q] at h
    exact ⟨q, Option.some.inj h⟩
  · rw [if_neg q] at h
    cases h
/-- a new tuple -/
theorem newT {K : Fg} {F H : Hp} {p : Addr} {o : Obj} {ds : List D} {vs : List V} (fh : Same F H) (hn : H p = none) (ho : o.dict = none) (hl : ds.length ≤ LB) (hs : Reps K F ds vs) : New F H (upd F p (.frz o (.tup vs))) (upd H p (.frz o (.tup vs))) ∧ Rep K (upd F p (.frz o (.tup vs))) (.tup ds) (.ref p) := by
  have n : New F H (upd F p (.frz o (.tup vs))) (upd H p (.frz o (.tup vs))) := New.lay fh hn
  exact ⟨n, Rep.tup_iff.mpr ⟨p, vs, rfl, Or.inl ⟨o, ho, upd_same⟩, hl, hs.mono n.ff⟩⟩
theorem en_lst {ta : TA} {a : M (List D)} (ha : Eds K W ta a) : En1 K W (tLst ta) (mLst a) := by
  refine J.bindN (t2 := fun (xs : List V) (_ : St) (H : Hp) (Q : VK) => xs.length ≤ sizeLine ∧ ∀ p, H p = none → Q (V.ref p) (upd H p (.lst xs))) ha monoT fun ds vs => ?_
  intro C hK hW al F H σ δ S hp r hr Q hok hex
  subst hK
  obtain ⟨e, h2, rfl⟩ := lift_some hr
  obtain ⟨hl, rfl⟩ := if_some h2
  have hs : Reps C.K F ds vs := hp.2
  refine ⟨by rw [hs.len]; exact LB_size hl, fun p hn => ?_⟩
  obtain ⟨g1, g2, g3, g4, g5⟩ := newO S hn (same_upd hn) upd_same hl hs
  exact hok _ δ rfl al F _ p (Same.refl _) g1 g2 g3 g4 g5
end
end DL

set_option Elab.async false
set_option linter.all false
set_option maxRecDepth 100000
set_option maxHeartbeats 400000
/-! DLc: statements, loops, comprehensions. -/
namespace DL
open PySem L2

inductive Ou where
  | nx (δ : En) | rt (d : D) (δ : En) | rn (d : D) (δ : En) | bk (δ : En) | ct (δ : En) | ex (x : Xn) (δ : En)
def EndOk (C : Cn) (F : Hp) (Z : Ends) : Ou → Prop
  | .nx δ' => ∀ al' F' H' σ', Same F F' → StOk C al' F' H' σ' δ' → Z.nx σ' H'
  | .rt d δ' => ∀ al' F' H' σ' v, Same F F' → StOk C al' F' H' σ' δ' → Rep C.K F' d v → Z.rt v H'
  | .rn d δ' => ∀ al' F' H' σ' p, Same F F' → StOk C al' F' H' σ' δ' → F' p = none → C.P p = none → RepO C.K F' H' p d → Z.rt (.ref p) H'
  | .bk δ' => ∀ al' F' H' σ', Same F F' → StOk C al' F' H' σ' δ' → Z.bk σ' H'
  | .ct δ' => ∀ al' F' H' σ', Same F F' → StOk C al' F' H' σ' δ' → Z.ct σ' H'
  | .ex x δ' => ∀ al' F' H' σ' cls dd, Same F F' → StOk C al' F' H' σ' δ' → XRep C.K F' H' x cls dd → C.W cls dd σ' H'
theorem EndOk.mono {C : Cn} {F F1 : Hp} {Z : Ends} {o : Ou} (e : Same F F1) (h : EndOk C F Z o) : EndOk C F1 Z o := by
  cases o with
  | nx δ' => exact fun al' F' H' σ' s => h al' F' H' σ' (e.trans s)
  | rt d δ' => exact fun al' F' H' σ' v s => h al' F' H' σ' v (e.trans s)
  | rn d δ' => exact fun al' F' H' σ' p s => h al' F' H' σ' p (e.trans s)
  | bk δ' => exact fun al' F' H' σ' s => h al' F' H' σ' (e.trans s)
  | ct δ' => exact fun al' F' H' σ' s => h al' F' H' σ' (e.trans s)
  | ex x δ' => exact fun al' F' H' σ' cls dd s => h al' F' H' σ' cls dd (e.trans s)
abbrev Ms := En → Option Ou
def Es (K : Fg) (W : WX) (ts : TS) (m : Ms) : Prop :=
  ∀ (C : Cn), C.K = K → C.W = W → ∀ (al : Nat → Addr) (F H : Hp) (σ : St) (δ : En), StOk C al F H σ δ → ∀ o, m δ = some o → ∀ Z : Ends, EndOk C F Z o → ts Z σ H
/-- an expression, then something -/
def mS {α : Type} (m : M α) (k : α → Ms) : Ms := fun δ => match m δ with
  | none => none
  | some (.ex x δ') => some (.ex x δ')
  | some (.ok a δ') => k a δ'
section
variable {K : Fg} {W : WX}
theorem es_of {β α : Type} {t1 : St → Hp → (β → Hp → Prop) → Prop} {rel : Rl β α} {u : β → TS} {m : M α} {k : α → Ms} (h : J K W tru t1 rel m)
    (hk : ∀ a b, ∀ (C : Cn), C.K = K → C.W = W → ∀ (al : Nat → Addr) (F H : Hp) (σ : St) (δ : En), StOk C al F H σ δ → rel F σ b a → ∀ o, k a δ = some o → ∀ Z : Ends, EndOk C F Z o → u b Z σ H) :
    Es K W (fun Z σ H => t1 σ H fun b H1 => u b Z σ H1) (mS m k) := by
  intro C hK hW al F H σ δ S o ho Z hZ
  cases e : m δ with
  | none => unfold mS at ho; rw [e] at ho; cases ho
  | some r =>
    refine h C hK hW al F H σ δ S trivial r e _ (fun a δ1 e1 al1 F1 H1 b s1 S1 rl => ?_) fun x δ1 e1 al1 F1 H1 cls dd s1 S1 xr => ?_
    · subst e1
      have ho' : k a δ1 = some o := by unfold mS at ho; rw [e] at ho; exact ho
      exact hk a b C hK hW al1 F1 H1 σ δ1 S1 rl o ho' Z (hZ.mono s1)
    · subst e1
      unfold mS at ho
      rw [e] at ho
      cases ho
      subst hK
      rw [← hW]
      exact hZ al1 F1 H1 σ cls dd s1 S1 xr
theorem es_ofN {t1 : TE} {u : V → TS} {m : M D} {k : D → Ms} (h : En1 K W t1 m)
    (hk : ∀ d p, ∀ (C : Cn), C.K = K → C.W = W → ∀ (al : Nat → Addr) (F H : Hp) (σ : St) (δ : En), StOk C al F H σ δ → F p = none → C.P p = none → (∀ (j : Nat) s e, δ[j]? = some s → Sl.own s = some e → al j ≠ p) → RepO K F H p d → ∀ o, k d δ = some o → ∀ Z : Ends, EndOk C F Z o → u (.ref p) Z σ H) :
    Es K W (fun Z σ H => t1 σ H fun b H1 => u b Z σ H1) (mS m k) := by
  intro C hK hW al F H σ δ S o ho Z hZ
  cases e : m δ with
  | none => unfold mS at ho; rw [e] at ho; cases ho
  | some r =>
    refine h C hK hW al F H σ δ S trivial r e _ (fun a δ1 e1 al1 F1 H1 p s1 S1 n1 n2 n3 n4 => ?_) fun x δ1 e1 al1 F1 H1 cls dd s1 S1 xr => ?_
    · subst e1
      have ho' : k a δ1 = some o := by unfold mS at ho; rw [e] at ho; exact ho
      exact hk a p C hK hW al1 F1 H1 σ δ1 S1 n1 n2 n3 n4 o ho' Z (hZ.mono s1)
    · subst e1
      unfold mS at ho
      rw [e] at ho
      cases ho
      subst hK
      rw [← hW]
      exact hZ al1 F1 H1 σ cls dd s1 S1 xr

/-! ### blocks -/
def mNext : Ms := fun δ => some (.nx δ)
def mSeq (a b : Ms) : Ms := fun δ => match a δ with
  | some (.nx δ') => b δ'
  | r => r
theorem es_next : Es K W tNext mNext := fun C hK hW al F H σ δ S o ho Z hZ => by
  cases ho
  exact hZ al F H σ (Same.refl _) S
theorem es_seq {t u : TS} {a b : Ms} (ha : Es K W t a) (hb : Es K W u b) : Es K W (tSeq t u) (mSeq a b) := by
  intro C hK hW al F H σ δ S o ho Z hZ
  cases e : a δ with
  | none => unfold mSeq at ho; rw [e] at ho; cases ho
  | some r =>
    refine ha C hK hW al F H σ δ S r e { Z with nx := u Z } ?_
    unfold mSeq at ho
    rw [e] at ho
    cases r with
    | nx δ1 => exact fun al1 F1 H1 σ1 s1 S1 => hb C hK hW al1 F1 H1 σ1 δ1 S1 o ho Z (hZ.mono s1)
    | rt d δ1 => cases ho; exact hZ
    | rn d δ1 => cases ho; exact hZ
    | bk δ1 => cases ho; exact hZ
    | ct δ1 => cases ho; exact hZ
    | ex x δ1 => cases ho; exact hZ
def mIf (c : M Bool) (a b : Ms) : Ms := mS c fun k => if k then a else b
theorem es_if {tc : TT} {t u : TS} {c : M Bool} {a b : Ms} (hc : Et K W tc c) (ha : Es K W t a) (hb : Es K W u b) : Es K W (tIfS tc t u) (mIf c a b) := by
  refine es_of (u := fun (b : Bool) Z σ H => if b = true then t Z σ H else u Z σ H) hc fun k b C hK hW al F H σ δ S rl o ho Z hZ => ?_
  have e : b = k := rl
  subst e
  cases b with
  | true => exact ha C hK hW al F H σ δ S o ho Z hZ
  | false => exact hb C hK hW al F H σ δ S o ho Z hZ
def mRet (m : M D) : Ms := mS m fun d δ => some (.rt d δ)
theorem es_ret {te : TE} {m : M D} (h : Ev K W te m) : Es K W (tRet te) (mRet m) := by
  refine es_of (u := fun (v : V) Z σ H => Z.rt v H) h fun d v C hK hW al F H σ δ S rl o ho Z hZ => ?_
  cases ho
  subst hK
  exact hZ al F H σ v (Same.refl _) S rl
/-- a new object of one's own is handed back -/
def mRetW (m : M D) : Ms := mS m fun d δ => some (.rn d δ)
theorem es_retW {te : TE} {m : M D} (h : En1 K W te m) : Es K W (tRet te) (mRetW m) := by
  refine es_ofN (u := fun (v : V) Z σ H => Z.rt v H) h fun d p C hK hW al F H σ δ S n1 n2 n3 n4 o ho Z hZ => ?_
  cases ho
  subst hK
  exact hZ al F H σ p (Same.refl _) S n1 n2 n4
def mRetO (i : Nat) : Ms := fun δ => match δ[i]? with
  | some (.ow d) => some (.rn d δ)
  | _ => none
def mDrop (m : M D) : Ms := mS m fun _ δ => some (.nx δ)
/-! ### targets -/
abbrev Mg := D → En → Option En
def Eg (K : Fg) (b : Bool) (g : TG) (m : Mg) : Prop :=
  ∀ (C : Cn), C.K = K → ∀ (al : Nat → Addr) (F H : Hp) (σ : St) (δ : En), StOk C al F H σ δ → ∀ d v δ', Rq K b F d v → m d δ = some δ' → ∀ Q : St → Hp → Prop, (∀ al' F' H' σ', Same F F' → StOk C al' F' H' σ' δ' → Q σ' H') → g v σ H Q
def Egs (K : Fg) (g : TGs) (m : List D → En → Option En) : Prop :=
  ∀ (C : Cn), C.K = K → ∀ (al : Nat → Addr) (F H : Hp) (σ : St) (δ : En), StOk C al F H σ δ → ∀ ds vs δ', Reps K F ds vs → m ds δ = some δ' → ∀ Q : St → Hp → Prop, (∀ al' F' H' σ', Same F F' → StOk C al' F' H' σ' δ' → Q σ' H') → g vs σ H Q
def gN (i : Nat) : Mg := fun d δ => some (δ.set i (.fr d))
theorem eg_name {i : Nat} : Eg K false (gName i) (gN i) := fun C hK al F H σ δ S d v δ' h e Q k => by
  cases e
  subst hK
  exact k al F H _ (Same.refl _) (S.set h)
def gs0 : List D → En → Option En := fun ds δ => match ds with
  | [] => some δ
  | _ => none
def gsC (a : Mg) (b : List D → En → Option En) : List D → En → Option En := fun ds δ => match ds with
  | d :: r => match a d δ with
    | some δ' => b r δ'
    | none => none
  | [] => none
def gT (m : List D → En → Option En) : Mg := fun d δ => match d with
  | .tup ds => m ds δ
  | _ => none
theorem egs_nil : Egs K gNil gs0 := fun C hK al F H σ δ S ds vs δ' h e Q k => by
  cases ds with
  | nil =>
    cases e
    exact ⟨h.inv0, k al F H σ (Same.refl _) S⟩
  | cons d r => cases e
theorem egs_cons {t : TG} {u : TGs} {a : Mg} {b : List D → En → Option En} (ha : Eg K false t a) (hb : Egs K u b) : Egs K (gCons t u) (gsC a b) := fun C hK al F H σ δ S ds vs δ' h e Q k => by
  cases ds with
  | nil => cases e
  | cons d r =>
    obtain ⟨v, us, rfl, h1, h2⟩ := h.inv
    cases e1 : a d δ with
    | none => simp only [gsC, e1] at e; cases e
    | some δ1 =>
      simp only [gsC, e1] at e
      exact ⟨v, us, rfl, ha C hK al F H σ δ S d v δ1 h1 e1 _ fun al1 F1 H1 σ1 s1 S1 => hb C hK al1 F1 H1 σ1 δ1 S1 r us δ' (h2.mono s1) e Q fun al2 F2 H2 σ2 s2 S2 => k al2 F2 H2 σ2 (s1.trans s2) S2⟩
/-- how many targets -/
def GsN (b : List D → En → Option En) (n : Nat) : Prop := ∀ ds δ δ', b ds δ = some δ' → ds.length = n
theorem gsn0 : GsN gs0 0 := fun ds δ δ' h => by cases ds with
  | nil => rfl
  | cons d r => cases h
theorem gsnC {a : Mg} {b : List D → En → Option En} {n : Nat} (h : GsN b n) : GsN (gsC a b) (n + 1) := fun ds δ δ' e => by cases ds with
  | nil => cases e
  | cons d r =>
    cases e1 : a d δ with
    | none => simp only [gsC, e1] at e; cases e
    | some δ1 =>
      simp only [gsC, e1] at e
      simp [h r δ1 δ' e]

theorem eg_tup {u : TGs} {b : List D → En → Option En} {n : Nat} {q : Bool} (hb : Egs K u b) (h : GsN b n) : Eg K q (gTup K n u) (gT b) := fun C hK al F H σ δ S d v δ' hr e Q k => by
  cases d with
  | tup ds =>
    obtain ⟨a, vs, rfl, h1, h3⟩ := Rq.tup hr
    have e' : b ds δ = some δ' := e
    exact ⟨a, vs, rfl, same_t S.fh h1, by rw [h3.len]; exact h ds δ δ' e', hb C hK al F H σ δ S ds vs δ' h3 e' Q k⟩
  | _ => cases e
def mAsg (g : Mg) (m : M D) : Ms := mS m fun d δ => match g d δ with
  | some δ' => some (.nx δ')
  | none => none
theorem es_asg {te : TE} {g : TG} {m : M D} {a : Mg} (h : Ev K W te m) (hg : Eg K false g a) : Es K W (tAsg te g) (mAsg a m) := by
  refine es_of (u := fun (v : V) Z σ H => g v σ H Z.nx) h fun d v C hK hW al F H σ δ S rl o ho Z hZ => ?_
  cases e : a d δ with
  | none => simp only [e] at ho; cases ho
  | some δ1 =>
    simp only [e] at ho
    cases ho
    exact hg C hK al F H σ δ S d v δ1 rl e Z.nx fun al' F' H' σ' s S' => hZ al' F' H' σ' s S'
/-- x = a new object of one's own -/
def mAsgO (i : Nat) (m : M D) : Ms := mS m fun d δ => some (.nx (δ.set i (.ow d)))
theorem es_asgO {te : TE} {i : Nat} {m : M D} (h : En1 K W te m) : Es K W (tAsg te (gName i)) (mAsgO i m) := by
  refine es_ofN (u := fun (v : V) Z σ H => gName i v σ H Z.nx) h fun d p C hK hW al F H σ δ S n1 n2 n3 n4 o ho Z hZ => ?_
  cases ho
  subst hK
  exact hZ _ F H _ (Same.refl _) (S.setO n4 n1 n2 fun j s e q r _ => n3 j s e q r)

/-! ### what a loop walks -/
def Walks (C : Cn) (b : Bool) (Fw : Hp) (I : It) (ds : List D) : Prop := ds.length ≤ LB ∧ ∀ F H, Same Fw F → Same F H → Same C.P H → ∀ i : Nat,
  (∀ d, ds[i]? = some d → I.go i H ∧ ∀ x H', I.yld i H x H' → ∃ F', New F H F' H' ∧ Rq C.K b F' d x) ∧ (ds.length ≤ i → I.stop i H)
def Ei (K : Fg) (W : WX) (b : Bool) (wi : TI) (m : M (List D)) : Prop :=
  ∀ (C : Cn), C.K = K → C.W = W → ∀ (al : Nat → Addr) (F H : Hp) (σ : St) (δ : En), StOk C al F H σ δ → ∀ r, m δ = some r → ∀ R : It → Hp → Prop,
    (∀ ds δ', r = .ok ds δ' → ∀ al' F' H' I, Same F F' → StOk C al' F' H' σ δ' → Walks C b F' I ds → R I H') →
    (∀ x δ', r = .ex x δ' → ∀ al' F' H' cls dd, Same F F' → StOk C al' F' H' σ δ' → XRep K F' H' x cls dd → W cls dd σ H') → wi σ H R
def mSeqOf (m : M D) : M (List D) := m.bind fun d => M.lift (match d with
  | .lst ds => some ds
  | _ => none)
def mTupOf (m : M D) : M (List D) := m.bind fun d => M.lift (match d with
  | .tup ds => some ds
  | _ => none)
theorem ei_list {tl : TE} {m : M D} (h : Ev K W tl m) : Ei K W false (iList K tl) (mSeqOf m) := by
  intro C hK hW al F H σ δ S r hr R hok hex
  cases e : m δ with
  | none => unfold mSeqOf M.bind at hr; rw [e] at hr; cases hr
  | some r1 =>
    refine h C hK hW al F H σ δ S trivial r1 e _ (fun d δ1 e1 al1 F1 H1 v s1 S1 rl => ?_) fun x δ1 e1 al1 F1 H1 cls dd s1 S1 xr => ?_
    · subst e1
      have hr' : mSeqOf m δ = some r := hr
      unfold mSeqOf at hr'
      rw [M.bind_ok e] at hr'
      obtain ⟨ds, h2, rfl⟩ := lift_some hr'
      cases d with
      | lst es =>
        cases h2
        subst hK
        obtain ⟨a, vs, rfl, g1, g2, g3⟩ := Rep.lst_iff.mp rl
        refine ⟨a, rfl, ⟨vs, Or.inl (Or.inl (S1.fh _ _ g1))⟩, hok _ δ1 rfl al1 F1 H1 _ s1 S1 ⟨g2, fun F2 H2 f1 f2 _ i => ⟨fun d hd => ?_, fun hl => ?_⟩⟩⟩
        · obtain ⟨u, hu, ru⟩ := g3.get hd
          have ha : H2 a = some (.lst vs) := f2 _ _ (f1 _ _ g1)
          refine ⟨⟨vs, u, Or.inl (Or.inl ha), hu⟩, fun x H' y => ?_⟩
          obtain ⟨rfl, y⟩ := y
          have q := y vs (Or.inl (Or.inl ha))
          rw [hu] at q
          cases q
          exact ⟨F2, New.refl f2, ru.mono f1⟩
        · exact ⟨vs, Or.inl (Or.inl (f2 _ _ (f1 _ _ g1))), by rw [g3.len]; exact hl⟩
      | _ => cases h2
    · subst e1
      unfold mSeqOf at hr
      rw [M.bind_ex e] at hr
      cases hr
      exact hex x δ1 rfl al1 F1 H1 cls dd s1 S1 xr
/-- from an argument list of frozen values -/
theorem ei_args {ta : TA} {m : M (List D)} {u : List V → Hp → (It → Hp → Prop) → Prop} {f : List D → Option (List D)} {b : Bool} (h : Eds K W ta m)
    (hu : ∀ (C : Cn) (F H : Hp) (as : List D) (vs : List V) (ds : List D), C.K = K → Same F H → Reps K F as vs → f as = some ds → ∀ R : It → Hp → Prop, (∀ I, Walks C b F I ds → R I H) → u vs H R) :
    Ei K W b (fun σ H R => ta σ H fun vs H1 => u vs H1 R) (m.bind fun as => M.lift (f as)) := by
  intro C hK hW al F H σ δ S r hr R hok hex
  cases e : m δ with
  | none => unfold M.bind at hr; rw [e] at hr; cases hr
  | some r1 =>
    refine h C hK hW al F H σ δ S trivial r1 e _ (fun as δ1 e1 al1 F1 H1 vs s1 S1 rl => ?_) fun x δ1 e1 al1 F1 H1 cls dd s1 S1 xr => ?_
    · subst e1
      rw [M.bind_ok e] at hr
      obtain ⟨ds, h2, rfl⟩ := lift_some hr
      exact hu C F1 H1 as vs ds hK S1.fh rl h2 R fun I w => hok ds δ1 rfl al1 F1 H1 I s1 S1 w
    · subst e1
      rw [M.bind_ex e] at hr
      cases hr
      exact hex x δ1 rfl al1 F1 H1 cls dd s1 S1 xr
def rangeD (lo : Int) (n : Nat) : List D := (List.range n).map fun i => .int (lo + (i : Nat))
theorem rangeD_get {lo : Int} {n i : Nat} {d : D} (h : (rangeD lo n)[i]? = some d) : i < n ∧ d = .int (lo + (i : Nat)) := by
  unfold rangeD at h
  rw [List.getElem?_map] at h
  by_cases q : i < n
  · rw [List.getElem?_range q] at h
    exact ⟨q, (Option.some.inj h).symm⟩
  · rw [List.getElem?_eq_none (by rw [List.length_range]; omega)] at h
    cases h
theorem rangeD_len {lo : Int} {n : Nat} : (rangeD lo n).length = n := by unfold rangeD; rw [List.length_map, List.length_range]
theorem walks_range {C : Cn} {F : Hp} {lo : Int} {n : Nat} (hn : n ≤ LB) : Walks C false F (Itr lo n) (rangeD lo n) := ⟨by rw [rangeD_len]; exact hn, fun F2 H2 f1 f2 _ i => ⟨fun d hd => by
    obtain ⟨q, rfl⟩ := rangeD_get hd
    refine ⟨q, fun x H' y => ?_⟩
    obtain ⟨rfl, rfl⟩ := y
    exact ⟨F2, New.refl f2, (Rep.int_iff (K := C.K) (F := F2)).mpr rfl⟩, fun hl => by
    rw [rangeD_len] at hl
    exact hl⟩⟩
def rg1 : List D → Option (List D)
  | [.int j] => if -1000000 ≤ j ∧ j ≤ 1000000 then some (rangeD 0 j.toNat) else none
  | _ => none
def mIt (f : List D → Option (List D)) (m : M (List D)) : M (List D) := m.bind fun as => M.lift (f as)
theorem ei_range1 {ta : TA} {m : M (List D)} (h : Eds K W ta m) : Ei K W false (iRng1 ta) (mIt rg1 m) := by
  refine ei_args (u := fun vs H R => ∃ j : Int, vs = [.int j] ∧ -(2 ^ 62) ≤ j ∧ j < 2 ^ 62 ∧ R (Itr 0 j.toNat) H) h fun C F H as vs ds hK fh rs hf R hR => ?_
  match as, hf with
  | [.int j], hf =>
    obtain ⟨⟨h1, h2⟩, rfl⟩ := if_some hf
    obtain ⟨v, us, rfl, r1, r2⟩ := rs.inv
    cases r2.inv0
    exact ⟨j, by rw [Rep.int_iff.mp r1], by omega, by omega, hR _ (walks_range (by unfold LB; omega))⟩
/-! ### for -/
def forL (g : Mg) (b : Ms) : List D → Ms
  | [], δ => some (.nx δ)
  | d :: ds, δ => match g d δ with
    | none => none
    | some δ1 => match b δ1 with
      | some (.nx δ2) => forL g b ds δ2
      | some (.ct δ2) => forL g b ds δ2
      | some (.bk δ2) => some (.nx δ2)
      | r => r
def mFor (it : M (List D)) (g : Mg) (b : Ms) : Ms := mS it fun ds => forL g b ds
theorem es_for {wi : TI} {g : TG} {tb : TS} {it : M (List D)} {a : Mg} {b : Ms} {q : Bool} (hi : Ei K W q wi it) (hg : Eg K q g a) (hb : Es K W tb b) : Es K W (tFor wi g tb) (mFor it a b) := by
  intro C hK hW al F H σ δ S o ho Z hZ
  cases e : it δ with
  | none => unfold mFor mS at ho; rw [e] at ho; cases ho
  | some r =>
    refine hi C hK hW al F H σ δ S r e _ (fun ds δ1 e1 al1 F1 H1 I s1 S1 wk => ?_) fun x δ1 e1 al1 F1 H1 cls dd s1 S1 xr => ?_
    · subst e1
      have ho' : forL a b ds δ1 = some o := by unfold mFor mS at ho; rw [e] at ho; exact ho
      refine ⟨fun i n σ2 H2 => n = ds.length - i ∧ i ≤ ds.length ∧ ∃ al2 F2 δ2, Same F1 F2 ∧ StOk C al2 F2 H2 σ2 δ2 ∧ forL a b (ds.drop i) δ2 = some o, ⟨ds.length, rfl, Nat.zero_le _, al1, F1, δ1, Same.refl _, S1, ho'⟩, ?_⟩
      rintro i n σ2 H2 ⟨rfl, hi, al2, F2, δ2, s2, S2, h2⟩
      by_cases hl : i < ds.length
      · have hd : ds[i]? = some ds[i] := List.getElem?_eq_getElem hl
        obtain ⟨go, yl⟩ := (wk.2 F2 H2 s2 S2.fh S2.ph i).1 _ hd
        have hdr : ds.drop i = ds[i] :: ds.drop (i + 1) := List.drop_eq_getElem_cons hl
        rw [hdr] at h2
        refine Or.inr ⟨go, fun σ3 H3 => ∃ al3 F3 δ3, Same F1 F3 ∧ StOk C al3 F3 H3 σ3 δ3 ∧ forL a b (ds.drop (i + 1)) δ3 = some o, fun σ3 H3 q => ⟨ds.length - (i + 1), by omega, rfl, hl, q⟩, fun x H3 y => ?_⟩
        obtain ⟨F3, nw, rx⟩ := yl x H3 y
        have S3 := S2.new nw
        cases e2 : a ds[i] δ2 with
        | none => simp only [forL, e2] at h2; cases h2
        | some δ3 =>
          subst hK
          refine hg C rfl al2 F3 H3 σ2 δ2 S3 _ x δ3 rx e2 _ fun al4 F4 H4 σ4 s4 S4 => ?_
          cases e3 : b δ3 with
          | none => simp only [forL, e2, e3] at h2; cases h2
          | some r3 =>
            have s14 : Same F1 F4 := s2.trans (nw.ff.trans s4)
            refine hb C rfl hW al4 F4 H4 σ4 δ3 S4 r3 e3 _ ?_
            cases r3 with
            | nx δ5 =>
              simp only [forL, e2, e3] at h2
              exact fun al5 F5 H5 σ5 s5 S5 => ⟨al5, F5, δ5, s14.trans s5, S5, h2⟩
            | ct δ5 =>
              simp only [forL, e2, e3] at h2
              exact fun al5 F5 H5 σ5 s5 S5 => ⟨al5, F5, δ5, s14.trans s5, S5, h2⟩
            | bk δ5 =>
              simp only [forL, e2, e3] at h2
              cases h2
              exact fun al5 F5 H5 σ5 s5 S5 => hZ al5 F5 H5 σ5 (s1.trans (s14.trans s5)) S5
            | rt d δ5 =>
              simp only [forL, e2, e3] at h2
              cases h2
              exact hZ.mono (s1.trans s14)
            | rn d δ5 =>
              simp only [forL, e2, e3] at h2
              cases h2
              exact hZ.mono (s1.trans s14)
            | ex x δ5 =>
              simp only [forL, e2, e3] at h2
              cases h2
              exact hZ.mono (s1.trans s14)
      · have hdr : ds.drop i = [] := List.drop_eq_nil_of_le (by omega)
        rw [hdr] at h2
        cases h2
        exact Or.inl ⟨(wk.2 F2 H2 s2 S2.fh S2.ph i).2 (by omega), hZ al2 F2 H2 σ2 (s1.trans s2) S2⟩
    · subst e1
      unfold mFor mS at ho
      rw [e] at ho
      cases ho
      subst hK
      rw [← hW]
      exact hZ al1 F1 H1 σ cls dd s1 S1 xr
/-! ### while -/
end
end DL

set_option Elab.async false
set_option linter.all false
set_option maxRecDepth 100000
set_option maxHeartbeats 400000
/-! DLd: tests, comprehensions, calls, objects, changes of own objects. -/
namespace DL
open PySem L2
section
variable {K : Fg} {W : WX}
/-! ### tests -/
def mTest (m : M D) : M Bool := m.bind fun d => M.lift (match d with
  | .bl b => some b
  | _ => none)
theorem et_test {te : TE} {m : M D} (h : Ev K W te m) : Et K W (tTest te) (mTest m) := by
  refine J.bind (t2 := fun (x : V) (_ : St) (H : Hp) (Q : Bool → Hp → Prop) => ∃ k, x = V.bl k ∧ Q k H) h monoT fun d v => ?_
  intro C hK hW al F H σ δ S hp r hr Q hok hex
  obtain ⟨b, h2, rfl⟩ := lift_some hr
  cases d with
  | bl c =>
    cases h2
    have hv : Rep K F (.bl b) v := hp.2
    exact ⟨b, Rep.bl_iff.mp hv, hok b δ rfl al F H b (Same.refl _) S rfl⟩
  | _ => cases h2
theorem et_B {te : TE} {m : M D} (h : Ev K W te m) : Et K W (tB te) (mTest m) := et_test h
def mAnd (a b : M Bool) : M Bool := a.bind fun k => if k then b else M.ret false
def mOr (a b : M Bool) : M Bool := a.bind fun k => if k then M.ret true else b
def mNot (a : M Bool) : M Bool := a.bind fun k => M.ret (!k)
theorem et_or {t u : TT} {a b : M Bool} (ha : Et K W t a) (hb : Et K W u b) : Et K W (tOr t u) (mOr a b) := by
  refine J.bind (t2 := fun (c : Bool) σ H Q => if c = true then Q true H else u σ H Q) ha monoT fun k c => ?_
  intro C hK hW al F H σ δ S hp r hr Q hok hex
  have e : c = k := hp.2
  subst e
  cases c with
  | false => exact hb C hK hW al F H σ δ S trivial r hr Q hok hex
  | true =>
    cases hr
    exact hok true δ rfl al F H true (Same.refl _) S rfl
theorem et_not {t : TT} {a : M Bool} (ha : Et K W t a) : Et K W (tNot t) (mNot a) := by
  refine J.bind (t2 := fun (c : Bool) σ H Q => Q (!c) H) ha monoT fun k c => ?_
  intro C hK hW al F H σ δ S hp r hr Q hok hex
  have e : c = k := hp.2
  subst e
  cases hr
  exact hok _ δ rfl al F H _ (Same.refl _) S rfl
/-! values of and, or, not (truths) -/
def mAndV (a b : M D) : M D := a.bind fun d => match d with
  | .bl true => b
  | .bl false => M.ret (.bl false)
  | _ => fun _ => none
def mOrV (a b : M D) : M D := a.bind fun d => match d with
  | .bl true => M.ret (.bl true)
  | .bl false => b
  | _ => fun _ => none
def mNotV (a : M D) : M D := a.bind fun d => M.lift (match d with
  | .bl b => some (.bl (!b))
  | _ => none)
def mIfE (c : M Bool) (a b : M D) : M D := c.bind fun k => if k then a else b
/-- a < b < c -/
def mChain (f g : D → D → Option D) (a b c : M Op) : M D := a.bind fun o => b.bind fun q => (mRd o).bind fun d => (mRd q).bind fun e => (M.lift (f d e)).bind fun z => match z with
  | .bl true => c.bind fun p => (mRd q).bind fun e => (mRd p).bind fun y => M.lift (g e y)
  | .bl false => M.ret (.bl false)
  | _ => fun _ => none
/-! ### comprehensions -/
def lcL (g : Mg) (t : M Bool) (e : M D) (vs : List Nat) : List D → List D → En → Option (R (List D))
  | acc, [], δ => some (.ok acc δ)
  | acc, d :: ds, δ => match g d δ with
    | none => none
    | some δ1 => match t δ1 with
      | some (.ok false δ2) => lcL g t e vs acc ds (wipeE δ2 vs)
      | some (.ok true δ2) => match e δ2 with
        | some (.ok y δ3) => lcL g t e vs (acc ++ [y]) ds (wipeE δ3 vs)
        | _ => none
      | _ => none
def mLc (it : M (List D)) (g : Mg) (t : M Bool) (e : M D) (vs : List Nat) : M D := it.bind fun ds => fun δ => match lcL g t e vs [] ds (wipeE δ vs) with
  | some (.ok acc δ') => some (.ok (.lst acc) δ')
  | _ => none
/-- the target writes to these slots alone -/
def Gw (g : TG) (vs : List Nat) : Prop := ∀ v σ H Q, g v σ H Q → g v σ H fun σ2 H2 => wipe σ2 vs = wipe σ vs ∧ Q σ2 H2
theorem wipe_set {σ : St} {x : Option V} {j : Nat} : ∀ {vs : List Nat}, j ∈ vs → wipe (σ.set j x) vs = wipe σ vs
  | [], h => by simp at h
  | v :: vs, h => by
    unfold wipe
    by_cases q : j = v
    · subst q
      by_cases z : j ∈ vs
      · rw [wipe_set z]
      · have c : ∀ (us : List Nat) (τ : St), j ∉ us → wipe (τ.set j x) us = (wipe τ us).set j x := by
          intro us
          induction us with
          | nil => intro τ _; rfl
          | cons u us ih =>
            intro τ hu
            unfold wipe
            rw [ih τ (fun z => hu (by simp [z])), List.set_comm _ _ (fun z => hu (by simp [z]))]
        rw [c vs σ z, List.set_set]
    · rw [wipe_set (by simpa [q] using h)]
theorem gw_name {j : Nat} {vs : List Nat} (h : j ∈ vs) : Gw (gName j) vs := fun v σ H Q q => ⟨wipe_set h, q⟩
def Gws (g : TGs) (vs : List Nat) : Prop := ∀ us σ H Q, g us σ H Q → g us σ H fun σ2 H2 => wipe σ2 vs = wipe σ vs ∧ Q σ2 H2
theorem gw_nil {vs : List Nat} : Gws gNil vs := fun us σ H Q q => ⟨q.1, rfl, q.2⟩
theorem gw_cons {t : TG} {u : TGs} {vs : List Nat} (mo : ∀ v σ H (P Q : St → Hp → Prop), (∀ a b, P a b → Q a b) → t v σ H P → t v σ H Q) (ha : Gw t vs) (mu : ∀ us σ H (P Q : St → Hp → Prop), (∀ a b, P a b → Q a b) → u us σ H P → u us σ H Q) (hb : Gws u vs) : Gws (gCons t u) vs := fun us σ H Q q => by
  obtain ⟨v, r, e, q⟩ := q
  refine ⟨v, r, e, mo _ _ _ _ _ (fun σ1 H1 z => ?_) (ha v σ H _ q)⟩
  obtain ⟨z1, z2⟩ := z
  refine mu _ _ _ _ _ (fun σ2 H2 y => ?_) (hb r σ1 H1 Q z2)
  exact ⟨y.1.trans z1, y.2⟩
/-- readings are monotone -/
def Gm (t : TG) : Prop := ∀ v σ H (P Q : St → Hp → Prop), (∀ a b, P a b → Q a b) → t v σ H P → t v σ H Q
def Gms (t : TGs) : Prop := ∀ v σ H (P Q : St → Hp → Prop), (∀ a b, P a b → Q a b) → t v σ H P → t v σ H Q
theorem gm_name {i : Nat} : Gm (gName i) := fun v σ H P Q k h => k _ _ h
theorem gm_nil : Gms gNil := fun v σ H P Q k h => ⟨h.1, k _ _ h.2⟩
theorem gm_cons {t : TG} {u : TGs} (ht : Gm t) (hu : Gms u) : Gms (gCons t u) := fun v σ H P Q k h => by
  obtain ⟨a, r, e, h⟩ := h
  exact ⟨a, r, e, ht _ _ _ _ _ (fun σ1 H1 z => hu _ _ _ _ _ k z) h⟩
theorem gm_tup {n : Nat} {u : TGs} (hu : Gms u) : Gm (gTup K n u) := fun v σ H P Q k h => by
  obtain ⟨a, xs, e1, e2, e3, h⟩ := h
  exact ⟨a, xs, e1, e2, e3, hu _ _ _ _ _ k h⟩
theorem gw_tup {n : Nat} {u : TGs} {vs : List Nat} (hu : Gws u vs) : Gw (gTup K n u) vs := fun v σ H Q h => by
  obtain ⟨a, xs, e1, e2, e3, h⟩ := h
  exact ⟨a, xs, e1, e2, e3, hu _ _ _ _ h⟩
theorem wipe_wipe {σ : St} {vs : List Nat} : wipe (wipe σ vs) vs = wipe σ vs := by
  have h : ∀ (us : List Nat) (τ : St), (∀ u ∈ us, u ∈ vs) → wipe (wipe τ us) vs = wipe τ vs := by
    intro us
    induction us with
    | nil => intro τ _; rfl
    | cons u us ih =>
      intro τ hu
      show wipe ((wipe τ us).set u none) vs = wipe τ vs
      rw [wipe_set (hu u (by simp)), ih τ fun w hw => hu w (by simp [hw])]
  exact h vs σ fun _ z => z
theorem en_lc {wi : TI} {g : TG} {tt : TT} {te : TE} {vs : List Nat} {it : M (List D)} {a : Mg} {t : M Bool} {e : M D} {q : Bool} (hi : Ei K W q wi it) (hg : Eg K q g a) (gw : Gw g vs) (gm : Gm g) (ht : Et K W tt t) (he : Ev K W te e) :
    En1 K W (tLc wi g tt te vs) (mLc it a t e vs) := by
  intro C hK hW al F H σ δ S _ r hr Q hok hex
  cases e0 : it δ with
  | none => unfold mLc M.bind at hr; rw [e0] at hr; cases hr
  | some r0 =>
    refine hi C hK hW al F H σ δ S r0 e0 _ (fun ds δ1 e1 al1 F1 H1 I s1 S1 wk => ?_) fun x δ1 e1 al1 F1 H1 cls dd s1 S1 xr => ?_
    · subst e1
      unfold mLc at hr
      rw [M.bind_ok e0] at hr
      cases e2 : lcL a t e vs [] ds (wipeE δ1 vs) with
      | none => simp only [e2] at hr; cases hr
      | some r2 =>
        cases r2 with
        | ex x δx => simp only [e2] at hr; cases hr
        | ok acc δz =>
          simp only [e2] at hr
          cases hr
          subst hK
          intro Dl hD
          -- the invariant: the list at Dl holds what is made so far
          refine ⟨fun i n H2 => n = ds.length - i ∧ i ≤ ds.length ∧ ∃ al2 F2 δ2 as us, Same F1 F2 ∧ StOk C al2 F2 H2 (wipe σ vs) δ2 ∧ F2 Dl = none ∧ (∀ (j : Nat) s d, δ2[j]? = some s → Sl.own s = some d → al2 j ≠ Dl) ∧ H2 Dl = some (.lst us) ∧ as.length ≤ i ∧ Reps C.K F2 as us ∧ (∀ j, j ∈ vs → δ2[j]? = some .un ∨ δ2[j]? = none) ∧ lcL a t e vs as (ds.drop i) δ2 = some (.ok acc δz), ?_, ?_⟩
          · have n1 : C.P Dl = none := S1.ph.free hD
            have n2 : F1 Dl = none := S1.fh.free hD
            have n3 : ∀ (j : Nat) s d, δ1[j]? = some s → Sl.own s = some d → al1 j ≠ Dl := fun j s d q r z => by
              obtain ⟨_, _, _, h4⟩ := S1.ow j s d q r
              obtain ⟨u, hu⟩ := h4.there
              rw [z, hD] at hu
              cases hu
            refine ⟨ds.length, rfl, Nat.zero_le _, al1, F1, wipeE δ1 vs, [], [], Same.refl _, (S1.poke n2 n1 n3).wiped (wipe_length _ _) fun i hi => wipe_get hi, n2, fun j s d q r => ?_, upd_same, Nat.le_refl _, reps_nil, fun j hj => ?_, e2⟩
            · rcases wipeE_get q with z | ⟨z1, z2⟩
              · subst z; cases r
              · exact n3 j s d z2 r
            · cases q : (wipeE δ1 vs)[j]? with
              | none => exact Or.inr rfl
              | some s =>
                rcases wipeE_get q with z | ⟨z1, z2⟩
                · rw [z]; exact Or.inl rfl
                · exact absurd hj z1
          · rintro i n H2 ⟨rfl, hi, al2, F2, δ2, as, us, s2, S2, nF, nO, hDl, hla, hra, hun, h2⟩
            by_cases hl : i < ds.length
            · have hd : ds[i]? = some ds[i] := List.getElem?_eq_getElem hl
              obtain ⟨go, yl⟩ := (wk.2 F2 H2 s2 S2.fh S2.ph i).1 _ hd
              rw [List.drop_eq_getElem_cons hl] at h2
              refine Or.inr ⟨go, fun H3 => ∃ al3 F3 δ3 as3 us3, Same F1 F3 ∧ StOk C al3 F3 H3 (wipe σ vs) δ3 ∧ F3 Dl = none ∧ (∀ (j : Nat) s d, δ3[j]? = some s → Sl.own s = some d → al3 j ≠ Dl) ∧ H3 Dl = some (.lst us3) ∧ as3.length ≤ i + 1 ∧ Reps C.K F3 as3 us3 ∧ (∀ j, j ∈ vs → δ3[j]? = some .un ∨ δ3[j]? = none) ∧ lcL a t e vs as3 (ds.drop (i + 1)) δ3 = some (.ok acc δz), fun H3 q => ⟨ds.length - (i + 1), by omega, rfl, hl, q⟩, fun x H3 y => ?_⟩
              obtain ⟨F3, nw, rx⟩ := yl x H3 y
              -- the context in which Dl is kept
              let C' : Cn := { C with P := upd C.P Dl (.lst us), F0 := F3 }
              have cP : C.P Dl = none := by
                cases q : C.P Dl with
                | none => rfl
                | some o =>
                  exfalso
                  -- Dl was new
                  have := S1.ph.free hD
                  rw [q] at this
                  cases this
              have S3 := S2.new nw
              have hD3 : H3 Dl = some (.lst us) := nw.hh _ _ hDl
              have nF3 : F3 Dl = none := by
                cases q : F3 Dl with
                | none => rfl
                | some o =>
                  rcases nw.nw _ _ q with z | z
                  · rw [nF] at z; cases z
                  · rw [hDl] at z; cases z
              have S3' : StOk C' al2 F3 H3 (wipe σ vs) δ2 := by
                refine ⟨S3.fh, fun b o q => ?_, fun b o q => ?_, Same.refl _, fun b o q => Or.inl q, S3.len, S3.fr, S3.bo, fun j s d q r => ?_, S3.io, S3.inj, S3.sc, S3.b2, fun b o q => (same_upd cP) _ _ (S3.qp b o q)⟩
                · by_cases z : b = Dl
                  · subst z
                    rw [show C'.P b = upd C.P b (.lst us) b from rfl, upd_same] at q
                    cases q
                    exact hD3
                  · rw [show C'.P b = upd C.P Dl (.lst us) b from rfl, upd_ne z] at q
                    exact S3.ph b o q
                · have q' := S3.bp b o q
                  show upd C.P Dl (.lst us) b = some o
                  rw [upd_ne (ne_of_none q' cP)]
                  exact q'
                · obtain ⟨g1, g2, g3, g4⟩ := S3.ow j s d q r
                  refine ⟨g1, g2, ?_, g4⟩
                  show upd C.P Dl (.lst us) (al2 j) = none
                  rw [upd_ne (nO j s d q r)]
                  exact g3
              -- back to C
              have back : ∀ {al4 : Nat → Addr} {F4 H4 : Hp} {σ4 : St} {δ4 : En}, StOk C' al4 F4 H4 σ4 δ4 → StOk C al4 F4 H4 σ4 δ4 ∧ F4 Dl = none ∧ H4 Dl = some (.lst us) ∧ ∀ (j : Nat) s d, δ4[j]? = some s → Sl.own s = some d → al4 j ≠ Dl := fun {al4 F4 H4 σ4 δ4} S4 => by
                have pD : C'.P Dl = some (.lst us) := upd_same
                have no : ∀ (j : Nat) s d, δ4[j]? = some s → Sl.own s = some d → al4 j ≠ Dl := fun j s d q r z => by
                  obtain ⟨_, _, g3, _⟩ := S4.ow j s d q r
                  rw [z, pD] at g3
                  cases g3
                refine ⟨⟨S4.fh, fun b o q => S4.ph b o ?_, S2.bp, S3.f0.trans S4.f0, fun b o q => ?_, S4.len, S4.fr, S4.bo, fun j s d q r => ?_, S4.io, S4.inj, S4.sc, S4.b2, S2.qp⟩, ?_, S4.ph _ _ pD, no⟩
                · show upd C.P Dl (.lst us) b = some o
                  rw [upd_ne (ne_of_none q cP)]
                  exact q
                · rcases S4.fp b o q with z | z
                  · exact S3.fp b o z
                  · refine Or.inr ?_
                    by_cases w : b = Dl
                    · rw [w]; exact cP
                    · have z' : upd C.P Dl (.lst us) b = none := z
                      rw [upd_ne w] at z'
                      exact z'
                · obtain ⟨g1, g2, g3, g4⟩ := S4.ow j s d q r
                  refine ⟨g1, g2, ?_, g4⟩
                  have z' : upd C.P Dl (.lst us) (al4 j) = none := g3
                  rw [upd_ne (no j s d q r)] at z'
                  exact z'
                · cases q : F4 Dl with
                  | none => rfl
                  | some o =>
                    rcases S4.fp _ _ q with z | z
                    · rw [show C'.F0 Dl = F3 Dl from rfl, nF3] at z; cases z
                    · rw [pD] at z; cases z
              cases e3 : a ds[i] δ2 with
              | none => simp only [lcL, e3] at h2; cases h2
              | some δ3 =>
                have G := hg C' rfl al2 F3 H3 (wipe σ vs) δ2 S3' _ x δ3 rx e3 (fun σ4 H4 => ∃ al4 F4, Same F3 F4 ∧ StOk C' al4 F4 H4 σ4 δ3) fun al4 F4 H4 σ4 s4 S4 => ⟨al4, F4, s4, S4⟩
                refine gm _ _ _ _ _ (fun σ4 H4 z => ?_) (gw _ _ _ _ G)
                obtain ⟨wz, al4, F4, s4, S4⟩ := z
                rw [wipe_wipe] at wz
                refine ⟨wz, ?_⟩
                -- slots are forgotten again
                have lw : (wipe σ vs).length = σ4.length := by rw [← wz, wipe_length]
                have gt : ∀ j, j ∉ vs → (wipe σ vs)[j]? = σ4[j]? := fun j hj => by rw [← wz]; exact wipe_get hj
                cases e4 : t δ3 with
                | none => simp only [lcL, e3, e4] at h2; cases h2
                | some r4 =>
                  refine ht C' rfl hW al4 F4 H4 σ4 δ3 S4 trivial r4 e4 _ (fun k δ5 e5 al5 F5 H5 k' s5 S5 rl => ?_) fun x δ5 e5 al5 F5 H5 cls dd s5 S5 xr => ?_
                  · subst e5
                    have ek : k' = k := rl
                    subst ek
                    cases k' with
                    | false =>
                      simp only [lcL, e3, e4] at h2
                      show ∃ _, _
                      obtain ⟨B1, B2, B3, B4⟩ := back S5
                      refine ⟨al5, F5, wipeE δ5 vs, as, us, ((s2.trans nw.ff).trans s4).trans s5, B1.wiped lw gt, B2, fun j s d q r => ?_, B3, by omega, hra.mono ((nw.ff.trans s4).trans s5), fun j hj => ?_, h2⟩
                      · rcases wipeE_get q with z | ⟨z1, z2⟩
                        · subst z; cases r
                        · exact B4 j s d z2 r
                      · cases q : (wipeE δ5 vs)[j]? with
                        | none => exact Or.inr rfl
                        | some s =>
                          rcases wipeE_get q with z | ⟨z1, z2⟩
                          · rw [z]; exact Or.inl rfl
                          · exact absurd hj z1
                    | true =>
                      cases e6 : e δ5 with
                      | none => simp only [lcL, e3, e4, e6] at h2; cases h2
                      | some r6 =>
                        cases r6 with
                        | ex x δx => simp only [lcL, e3, e4, e6] at h2; cases h2
                        | ok y δ7 =>
                          simp only [lcL, e3, e4, e6] at h2
                          show te σ4 H5 _
                          refine he C' rfl hW al5 F5 H5 σ4 δ5 S5 trivial _ e6 _ (fun y' δ8 e8 al8 F8 H8 v s8 S8 rl => ?_) fun x δ8 e8 => by cases e8
                          cases e8
                          obtain ⟨B1, B2, B3, B4⟩ := back S8
                          have sF : Same F2 F8 := ((nw.ff.trans s4).trans s5).trans s8
                          have l1 : us.length = as.length := hra.len
                          refine ⟨us, B3, by rw [l1]; exact LB_lt (by have := wk.1; omega), al8, F8, wipeE δ7 vs, as ++ [y], us ++ [v], s2.trans sF, (B1.poke B2 cP B4).wiped lw gt, B2, fun j s d q r => ?_, upd_same, by rw [List.length_append]; show as.length + 1 ≤ i + 1; omega, Reps.app (hra.mono sF) (reps_cons rl reps_nil), fun j hj => ?_, h2⟩
                          · rcases wipeE_get q with z | ⟨z1, z2⟩
                            · subst z; cases r
                            · exact B4 j s d z2 r
                          · cases q : (wipeE δ7 vs)[j]? with
                            | none => exact Or.inr rfl
                            | some s =>
                              rcases wipeE_get q with z | ⟨z1, z2⟩
                              · rw [z]; exact Or.inl rfl
                              · exact absurd hj z1
                  · subst e5
                    simp only [lcL, e3, e4] at h2
                    cases h2
            · have hdr : ds.drop i = [] := List.drop_eq_nil_of_le (by omega)
              rw [hdr] at h2
              cases h2
              refine Or.inl ⟨(wk.2 F2 H2 s2 S2.fh S2.ph i).2 (by omega), ?_⟩
              have hs : StOk C al2 F2 H2 σ δz := by
                refine ⟨S2.fh, S2.ph, S2.bp, S2.f0, S2.fp, by rw [← S2.len, wipe_length], fun j d q => ?_, fun j d q => ?_, fun j s d q r => ?_, S2.io, S2.inj, fun j ns q => ?_, fun j es q => ?_, S2.qp⟩
                · have hj : j ∉ vs := fun z => by rcases hun j z with w | w <;> rw [w] at q <;> cases q
                  rw [← wipe_get (σ := σ) hj]
                  exact S2.fr j d q
                · have hj : j ∉ vs := fun z => by rcases hun j z with w | w <;> rw [w] at q <;> cases q
                  rw [← wipe_get (σ := σ) hj]
                  exact S2.bo j d q
                · have hj : j ∉ vs := fun z => by
                    rcases hun j z with w | w
                    · rw [w] at q; cases q; cases r
                    · rw [w] at q; cases q
                  rw [← wipe_get (σ := σ) hj]
                  exact S2.ow j s d q r
                · have hj : j ∉ vs := fun z => by rcases hun j z with w | w <;> rw [w] at q <;> cases q
                  rw [← wipe_get (σ := σ) hj]
                  exact S2.sc j ns q
                · have hj : j ∉ vs := fun z => by rcases hun j z with w | w <;> rw [w] at q <;> cases q
                  rw [← wipe_get (σ := σ) hj]
                  exact S2.b2 j es q
              have ll : acc.length ≤ LB := by have := wk.1; omega
              exact hok _ _ rfl al2 F2 H2 Dl (s1.trans s2) hs nF (S1.ph.free hD) nO ⟨us, hDl, ll, hra⟩
    · subst e1
      unfold mLc at hr
      rw [M.bind_ex e0] at hr
      cases hr
      exact hex x δ1 rfl al1 F1 H1 cls dd s1 S1 xr
def mYes : M Bool := M.ret true
theorem et_yes : Et K W tYes mYes := by
  intro C hK hW al F H σ δ S _ r hr Q hok hex
  cases hr
  exact hok true δ rfl al F H true (Same.refl _) S rfl
end
end DL

set_option Elab.async false
set_option linter.all false
set_option maxRecDepth 100000
set_option maxHeartbeats 400000
/-! DLe: the promises of defs, calls, objects, changes of own objects. -/
namespace DL
open PySem L2
inductive PK where
  | fr | bo | io
def PK.sl : PK → D → Sl
  | .fr, d => .fr d
  | .bo, d => .bo d
  | .io, d => .io d
def entry : List PK → List D → En
  | k :: ks, d :: ds => k.sl d :: entry ks ds
  | _, _ => []
/-- what a def promises: of frozen, borrowed, handed-in things ds it computes f ds (its result, and what its slots hold behind it) -/
def SpD (K : Fg) (ks : List PK) (f : List D → Option (R D)) : Sp := fun vs H Q E => ∃ (C : Cn) (al : Nat → Addr) (ds : List D) (r : R D), C.K = K ∧ vs.length = ks.length ∧ ds.length = ks.length ∧ StOk C al C.F0 H (vs.map some) (entry ks ds) ∧ f ds = some r ∧
  (∀ d δ', r = .ok d δ' → ∀ al' F' H' σ' v, Same C.F0 F' → StOk C al' F' H' σ' δ' → Rep K F' d v → Q v H') ∧
  (∀ x δ', r = .ex x δ' → ∀ al' F' H' σ' cls dd, Same C.F0 F' → StOk C al' F' H' σ' δ' → XRep K F' H' x cls dd → E cls dd H')
def startE (n : Nat) (es : En) : En := es ++ List.replicate (n - es.length) .un
theorem entry_len : ∀ {ks : List PK} {ds : List D}, ds.length = ks.length → (entry ks ds).length = ks.length
  | [], [], _ => rfl
  | k :: ks, d :: ds, h => by simp [entry, entry_len (ks := ks) (ds := ds) (by simpa using h)]
  | [], d :: ds, h => by simp at h
  | k :: ks, [], h => by simp at h
theorem StOk.begin {C : Cn} {al : Nat → Addr} {F H : Hp} {N : List Str} {vs : List V} {es : En} (S : StOk C al F H (vs.map some) es) : StOk C al F H (start N vs) (startE N.length es) := by
  have hl : vs.length = es.length := by simpa using S.len
  have gE : ∀ (j : Nat) s, (startE N.length es)[j]? = some s → s = .un ∨ es[j]? = some s := fun j s q => by
    unfold startE at q
    by_cases z : j < es.length
    · rw [List.getElem?_append_left z] at q
      exact Or.inr q
    · rw [List.getElem?_append_right (by omega)] at q
      rw [List.getElem?_replicate] at q
      split at q
      · exact Or.inl (Option.some.inj q).symm
      · cases q
  have gS : ∀ (j : Nat), j < es.length → (start N vs)[j]? = (vs.map some)[j]? := fun j z => by
    unfold L2.start
    rw [List.getElem?_append_left (by rw [List.length_map, hl]; exact z)]
  have lt : ∀ (j : Nat) s, es[j]? = some s → j < es.length := fun j s q => (List.getElem?_eq_some_iff.mp q).1
  refine ⟨S.fh, S.ph, S.bp, S.f0, S.fp, ?_, fun j e q => ?_, fun j e q => ?_, fun j s e q r => ?_, fun j e q => ?_, fun j k s t e f q1 q2 r1 r2 r3 => ?_, fun j ns q => ?_, fun j ds q => ?_, S.qp⟩
  · unfold L2.start startE
    rw [List.length_append, List.length_append, List.length_map, List.length_replicate, List.length_replicate, hl]
  · rcases gE j _ q with z | z
    · cases z
    · rw [gS j (lt j _ z)]; exact S.fr j e z
  · rcases gE j _ q with z | z
    · cases z
    · rw [gS j (lt j _ z)]; exact S.bo j e z
  · rcases gE j _ q with z | z
    · subst z; cases r
    · rw [gS j (lt j _ z)]; exact S.ow j s e z r
  · rcases gE j _ q with z | z
    · cases z
    · exact S.io j e z
  · rcases gE j _ q1 with z | z
    · subst z; cases r1
    · rcases gE k _ q2 with y | y
      · subst y; cases r2
      · exact S.inj j k s t e f z y r1 r2 r3
  · rcases gE j _ q with z | z
    · cases z
    · rw [gS j (lt j _ z)]; exact S.sc j ns z
  · rcases gE j _ q with z | z
    · cases z
    · rw [gS j (lt j _ z)]; exact S.b2 j ds z
abbrev W0 : WX := fun _ _ _ _ => False
/-- no slot holds an error -/
def Short (δ : En) : Prop := ∀ (i : Nat) (ns : List Int), δ[i]? = some (Sl.sc ns) → ns.length ≤ 1000000
theorem short_entry : ∀ (ks : List PK) (ds : List D), Short (entry ks ds)
  | k :: ks, d :: ds => fun i ns h => by
    cases i with
    | zero => cases k <;> simp [entry, PK.sl] at h
    | succ i => exact short_entry ks ds i ns (by simpa [entry] using h)
  | [], ds => fun i ns h => by simp [entry] at h
  | k :: ks, [] => fun i ns h => by simp [entry] at h
theorem short_nil : Short [] := fun i ns h => by simp at h
theorem short_io {e : D} : Short [.io e] := fun i ns h => by
  cases i with
  | zero => simp at h
  | succ i => simp at h
/-- the context of a body with another wish -/
theorem StOk.wish {C : Cn} {al : Nat → Addr} {F H : Hp} {σ : St} {δ : En} (S : StOk C al F H σ δ) (W : WX) (hs : Short δ) : StOk { C with W := W } al F H σ δ :=
  ⟨S.fh, S.ph, S.bp, S.f0, S.fp, S.len, S.fr, S.bo, S.ow, S.io, S.inj, fun i ns q => by
    obtain ⟨a, h1, h2⟩ := S.sc i ns q
    exact ⟨a, h1, Or.inl (h2.resolve_right fun z => absurd z.1 (by have := hs i ns q; omega))⟩, S.b2, S.qp⟩
theorem StOk.unwish {C : Cn} {al : Nat → Addr} {F H : Hp} {σ : St} {δ : En} {W : WX} (S : StOk { C with W := W } al F H σ δ) (hs : Short δ) : StOk C al F H σ δ :=
  ⟨S.fh, S.ph, S.bp, S.f0, S.fp, S.len, S.fr, S.bo, S.ow, S.io, S.inj, fun i ns q => by
    obtain ⟨a, h1, h2⟩ := S.sc i ns q
    exact ⟨a, h1, Or.inl (h2.resolve_right fun z => absurd z.1 (by have := hs i ns q; omega))⟩, S.b2, S.qp⟩

/-! ### calls -/
def frOk : List PK → List Op → Bool
  | [], [] => true
  | .fr :: ks, .val _ :: os => frOk ks os
  | .bo :: ks, _ :: os => frOk ks os
  | _, _ => false
/-- a call without a thing to be changed -/
def mCall (ks : List PK) (f : List D → Option (R D)) (a : M (List Op)) : M D := a.bind fun os => (mRds os).bind fun ds => fun δ => if frOk ks os then match f ds with
  | some (.ok d _) => some (.ok d δ)
  | some (.ex x _) => some (.ex x δ)
  | none => none else none
theorem entry_get : ∀ {ks : List PK} {ds : List D} {i : Nat} {s : Sl}, (entry ks ds)[i]? = some s → ∃ k d, ks[i]? = some k ∧ ds[i]? = some d ∧ s = k.sl d
  | [], ds, i, s, h => by simp [entry] at h
  | k :: ks, [], i, s, h => by simp [entry] at h
  | k :: ks, d :: ds, 0, s, h => ⟨k, d, rfl, rfl, by simpa [entry] using h.symm⟩
  | k :: ks, d :: ds, i + 1, s, h => by
    obtain ⟨k', d', h1, h2, h3⟩ := entry_get (ks := ks) (ds := ds) (i := i) (s := s) (by simpa [entry] using h)
    exact ⟨k', d', by simpa using h1, by simpa using h2, h3⟩
theorem frOk_get : ∀ {ks : List PK} {os : List Op} {i : Nat} {k : PK}, frOk ks os = true → ks[i]? = some k → k = .bo ∨ (k = .fr ∧ ∃ d, os[i]? = some (.val d))
  | [], os, i, k, h, e => by simp at e
  | .fr :: ks, .val d :: os, 0, k, h, e => by
    have : PK.fr = k := by simpa using e
    exact Or.inr ⟨this.symm, d, rfl⟩
  | .bo :: ks, o :: os, 0, k, h, e => by
    have : PK.bo = k := by simpa using e
    exact Or.inl this.symm
  | .fr :: ks, .val d :: os, i + 1, k, h, e => by
    rcases frOk_get (ks := ks) (os := os) (i := i) (k := k) h (by simpa using e) with z | ⟨z, d', z2⟩
    · exact Or.inl z
    · exact Or.inr ⟨z, d', by simpa using z2⟩
  | .bo :: ks, o :: os, i + 1, k, h, e => by
    rcases frOk_get (ks := ks) (os := os) (i := i) (k := k) h (by simpa using e) with z | ⟨z, d', z2⟩
    · exact Or.inl z
    · exact Or.inr ⟨z, d', by simpa using z2⟩
  | .io :: ks, o :: os, i, k, h, e => by simp [frOk] at h
  | .fr :: ks, .slot j :: os, i, k, h, e => by simp [frOk] at h
  | .fr :: ks, .part j l :: os, i, k, h, e => by simp [frOk] at h
  | .fr :: ks, [], i, k, h, e => by simp [frOk] at h
  | .bo :: ks, [], i, k, h, e => by simp [frOk] at h
  | .io :: ks, [], i, k, h, e => by simp [frOk] at h
theorem frOk_len : ∀ {ks : List PK} {os : List Op}, frOk ks os = true → ks.length = os.length
  | [], [], h => rfl
  | .fr :: ks, .val d :: os, h => by simp [frOk_len (ks := ks) (os := os) h]
  | .bo :: ks, o :: os, h => by simp [frOk_len (ks := ks) (os := os) h]
  | .io :: ks, o :: os, h => by simp [frOk] at h
  | .fr :: ks, .slot j :: os, h => by simp [frOk] at h
  | .fr :: ks, .part j l :: os, h => by simp [frOk] at h
  | .fr :: ks, [], h => by simp [frOk] at h
  | .bo :: ks, [], h => by simp [frOk] at h
  | .io :: ks, [], h => by simp [frOk] at h
  | [], o :: os, h => by simp [frOk] at h
theorem paired_get {α β : Type} {Rr : α → β → Prop} : ∀ {as : List α} {bs : List β} {i : Nat} {b : β}, Paired Rr as bs → bs[i]? = some b → ∃ a, as[i]? = some a ∧ Rr a b
  | _, _, i, b, .nil, e => by simp at e
  | _, _, 0, b, .cons r t, e => by simp at e; subst e; exact ⟨_, rfl, r⟩
  | _, _, i + 1, b, .cons r t, e => by
    obtain ⟨a, h1, h2⟩ := paired_get (i := i) t (by simpa using e)
    exact ⟨a, by simpa using h1, h2⟩
theorem rds_len : ∀ {os : List Op} {δ : En} {ds : List D}, rds os δ = some ds → ds.length = os.length
  | [], δ, ds, h => by cases h; rfl
  | o :: os, δ, ds, h => by
    simp only [rds] at h
    cases e1 : rd o δ with
    | none => simp only [e1] at h; cases h
    | some d =>
      cases e2 : rds os δ with
      | none => simp only [e1, e2] at h; cases h
      | some ds' =>
        simp only [e1, e2] at h
        cases h
        simp [rds_len e2]
theorem rds_get : ∀ {os : List Op} {δ : En} {ds : List D} {i : Nat} {o : Op}, rds os δ = some ds → os[i]? = some o → ∃ d, ds[i]? = some d ∧ rd o δ = some d
  | [], δ, ds, i, o, h, e => by simp at e
  | p :: os, δ, ds, i, o, h, e => by
    simp only [rds] at h
    cases e1 : rd p δ with
    | none => simp only [e1] at h; cases h
    | some d =>
      cases e2 : rds os δ with
      | none => simp only [e1, e2] at h; cases h
      | some ds' =>
        simp only [e1, e2] at h
        cases h
        cases i with
        | zero =>
          have : p = o := by simpa using e
          subst this
          exact ⟨d, rfl, e1⟩
        | succ i =>
          obtain ⟨d', h1, h2⟩ := rds_get (i := i) (o := o) e2 (by simpa using e)
          exact ⟨d', by simpa using h1, h2⟩
/-- no error is let out -/
def NoEx (f : List D → Option (R D)) : Prop := ∀ ds x δ, f ds ≠ some (.ex x δ)
section
variable {K : Fg} {W : WX}
theorem ev_call {ks : List PK} {f : List D → Option (R D)} {a : M (List Op)} {ta : TA} {E : XK} (ha : Ea K W ta a) (hW : (∀ cls dd σ H, W cls dd σ H → E cls dd H) ∨ NoEx f) : Ev K W (tCall (SpD K ks f) [] E ta) (mCall ks f a) := by
  refine J.bind (t2 := fun (vs : List V) (_ : St) (H : Hp) (Q : VK) => SpD K ks f (vs ++ []) H Q E) ha monoT fun os vs => ?_
  intro C hK hWC al F H σ δ S hp r hr Q hok hex
  subst hK
  obtain ⟨ds, h1, hr⟩ := rds_bind hr
  by_cases hf : frOk ks os = true
  · simp only [hf, if_true] at hr
    have hrel : relA C.K F σ vs os := hp.2
    have hP : Paired (fun v d => RepR C.K F H v d) vs ds := S.opds hrel h1
    have lk := frOk_len hf
    have lv : vs.length = os.length := hrel.length
    have ld := rds_len h1
    cases e : f ds with
    | none => simp only [e] at hr; cases hr
    | some q =>
      have St1 : StOk { K := C.K, P := H, B := H, F0 := F, bt := fun _ => 0, W := C.W } (fun _ => 0) F H (vs.map some) (entry ks ds) := by
        have ge : ∀ (i : Nat) s, (entry ks ds)[i]? = some s → ∃ v d, (vs.map some)[i]? = some (some v) ∧ ((s = .bo d ∧ RepR C.K F H v d) ∨ (s = .fr d ∧ Rep C.K F d v)) := fun i s q => by
          obtain ⟨k, d, g1, g2, g3⟩ := entry_get q
          obtain ⟨v, g4, g5⟩ := paired_get hP g2
          refine ⟨v, d, by rw [List.getElem?_map, g4]; rfl, ?_⟩
          rcases frOk_get hf g1 with z | ⟨z, d', z2⟩
          · subst z; exact Or.inl ⟨g3, g5⟩
          · subst z
            refine Or.inr ⟨g3, ?_⟩
            obtain ⟨d2, g6, g7⟩ := rds_get h1 z2
            rw [g2] at g6
            cases g6
            cases g7
            obtain ⟨v', g8, g9⟩ := paired_get hrel z2
            rw [g4] at g8
            cases g8
            exact g9
        refine ⟨S.fh, Same.refl _, Same.refl _, Same.refl _, fun b o q => Or.inl q, by rw [List.length_map, entry_len (by omega)]; omega, fun i d q => ?_, fun i d q => ?_, fun i s d q r => ?_, fun i d q => ?_, fun i j s t d e q1 q2 r1 r2 => ?_, fun i ns q => ?_, fun i ns q => ?_, fun _ _ q => by cases q⟩
        · obtain ⟨v, d', g1, g2 | g2⟩ := ge i _ q
          · cases g2.1
          · cases g2.1; exact ⟨v, g1, g2.2⟩
        · obtain ⟨v, d', g1, g2 | g2⟩ := ge i _ q
          · cases g2.1; exact ⟨v, g1, g2.2⟩
          · cases g2.1
        · obtain ⟨v, d', g1, g2 | g2⟩ := ge i _ q
          · rw [g2.1] at r; cases r
          · rw [g2.1] at r; cases r
        · obtain ⟨v, d', g1, g2 | g2⟩ := ge i _ q
          · cases g2.1
          · cases g2.1
        · obtain ⟨v, d', g1, g2 | g2⟩ := ge i _ q1
          · rw [g2.1] at r1; cases r1
          · rw [g2.1] at r1; cases r1
        · obtain ⟨v, d', g1, g2 | g2⟩ := ge i _ q
          · cases g2.1
          · cases g2.1
        · obtain ⟨v, d', g1, g2 | g2⟩ := ge i _ q
          · cases g2.1
          · cases g2.1
      refine ⟨{ K := C.K, P := H, B := H, F0 := F, bt := fun _ => 0, W := C.W }, fun _ => 0, ds, q, rfl, by rw [List.append_nil]; omega, by omega, (by rw [List.append_nil]; exact St1), e, fun d δ' e1 al' F' H' σ' v s' S' rv => ?_, fun x δ' e1 al' F' H' σ' cls dd s' S' xr => ?_⟩
      · subst e1
        simp only [e] at hr
        cases hr
        have nw : New F H F' H' := ⟨s', S'.fh, S'.ph, S'.fp⟩
        exact hok d δ rfl al F' H' v s' (S.new nw) rv
      · subst e1
        simp only [e] at hr
        cases hr
        have nw : New F H F' H' := ⟨s', S'.fh, S'.ph, S'.fp⟩
        rcases hW with hW | hW
        · exact hW _ _ σ _ (hex x δ rfl al F' H' cls dd s' (S.new nw) xr)
        · exact absurd e (hW _ _ _)
  · simp only [hf] at hr
    cases hr
/-- a call whose first argument, the own object of slot i, is changed -/
def apart (i : Nat) : List Op → Bool
  | [] => true
  | .slot j :: os => j != i && apart i os
  | .val _ :: os => apart i os
  | .part j _ :: os => j != i && apart i os
def reown (s : Sl) (d : D) : Sl := match s with
  | .io _ => .io d
  | _ => .ow d
def ioOut (i : Nat) (s : Sl) (δ δ' : En) : Option En := match δ'[(0 : Nat)]? with
  | some (Sl.io e) => some (δ.set i (reown s e))
  | _ => none
def mCallS1 (i : Nat) (ks : List PK) (f : List D → Option (R D)) (a : M (List Op)) : M D := a.bind fun os => (mRds os).bind fun ds => fun δ => match δ[i]? with
  | some s => match s.own with
    | some c => if frOk ks os && apart i os then match f (c :: ds) with
      | some (.ok d δ') => match ioOut i s δ δ' with
        | some δ2 => some (.ok d δ2)
        | none => none
      | some (.ex x δ') => match ioOut i s δ δ' with
        | some δ2 => some (.ex x δ2)
        | none => none
      | none => none else none
    | none => none
  | none => none
def mCallS (i : Nat) (ks : List PK) (f : List D → Option (R D)) (a : M (List Op)) : M D := fun δ => match δ[i]? with
  | some s => match s.own with
    | some _ => mCallS1 i ks f a δ
    | none => none
  | none => none
theorem apart_get : ∀ {i : Nat} {os : List Op} {j k : Nat}, apart i os = true → os[k]? = some (.slot j) → j ≠ i
  | i, [], j, k, h, e => by simp at e
  | i, .slot l :: os, j, 0, h, e => by
    have : l = j := by simpa using e
    subst this
    simp only [apart, Bool.and_eq_true, bne_iff_ne] at h
    exact h.1
  | i, .val d :: os, j, 0, h, e => by simp at e
  | i, .part l m :: os, j, 0, h, e => by simp at e
  | i, .part l m :: os, j, k + 1, h, e => by
    simp only [apart, Bool.and_eq_true] at h
    exact apart_get (os := os) (k := k) h.2 (by simpa using e)
  | i, .slot l :: os, j, k + 1, h, e => by
    simp only [apart, Bool.and_eq_true] at h
    exact apart_get (os := os) (k := k) h.2 (by simpa using e)
  | i, .val d :: os, j, k + 1, h, e => apart_get (os := os) (k := k) h (by simpa using e)
theorem reown_own {s : Sl} {d : D} : (reown s d).own = some d := by cases s <;> rfl
theorem reown_io {s : Sl} {d z : D} (h : reown s d = .io z) : ∃ y, s = .io y := by
  cases s with
  | io y => exact ⟨y, rfl⟩
  | _ => cases h
/-- behind such a call -/
theorem StOk.back {C : Cn} {al : Nat → Addr} {F H F' H' : Hp} {σ : St} {δ : En} {i : Nat} {s : Sl} {c e : D} (S : StOk C al F H σ δ) (hi : δ[i]? = some s) (hs : s.own = some c)
    (ff : Same F F') (fh : Same F' H') (pc : ∀ a o, a ≠ al i → H a = some o → H' a = some o) (fp : ∀ a o, F' a = some o → F a = some o ∨ a = al i ∨ H a = none) (nF : F' (al i) = none) (ro : RepO C.K F' H' (al i) e) :
    StOk C al F' H' σ (δ.set i (reown s e)) := by
  obtain ⟨h1, h2, h3, h4⟩ := S.ow i s c hi hs
  have li : i < δ.length := (List.getElem?_eq_some_iff.mp hi).1
  have key : ∀ (j : Nat) (u : Sl), (δ.set i (reown s e))[j]? = some u → (j = i ∧ u = reown s e) ∨ (j ≠ i ∧ δ[j]? = some u) := fun j u e => by
    by_cases q : j = i
    · subst q
      rw [List.getElem?_set_self li] at e
      exact Or.inl ⟨rfl, (Option.some.inj e).symm⟩
    · rw [List.getElem?_set_ne (Ne.symm q)] at e
      exact Or.inr ⟨q, e⟩
  have ne : ∀ d, reown s e ≠ .fr d ∧ reown s e ≠ .bo d := fun d => ⟨fun z => (by
      have hz := reown_own (s := s) (d := e)
      rw [z] at hz
      cases hz), fun z => (by
      have hz := reown_own (s := s) (d := e)
      rw [z] at hz
      cases hz)⟩
  refine ⟨fh, fun a o q => pc a o (ne_of_none q h3) (S.ph a o q), S.bp, S.f0.trans ff, fun a o q => ?_, by rw [List.length_set]; exact S.len, fun j d q => ?_, fun j d q => ?_, fun j u d q r => ?_, fun j d q => ?_, fun j k u v d f q1 q2 r1 r2 r3 => ?_, fun j ns q => ?_, fun j es q => ?_, S.qp⟩
  · rcases fp a o q with z | z | z
    · exact S.fp a o z
    · rw [z]; exact Or.inr h3
    · exact Or.inr (S.ph.free z)
  · rcases key j _ q with ⟨ej, z⟩ | ⟨n, q⟩
    · exact absurd z.symm (ne d).1
    · obtain ⟨v, g1, g2⟩ := S.fr j d q
      exact ⟨v, g1, g2.mono ff⟩
  · rcases key j _ q with ⟨ej, z⟩ | ⟨n, q⟩
    · exact absurd z.symm (ne d).2
    · obtain ⟨v, g1, g2⟩ := S.bo j d q
      exact ⟨v, g1, g2.mono ff (Same.refl _)⟩
  · rcases key j _ q with ⟨ej, z⟩ | ⟨n, q⟩
    · subst z
      rw [reown_own] at r
      cases r
      rw [ej]
      exact ⟨h1, nF, h3, ro⟩
    · obtain ⟨g1, g2, g3, g4⟩ := S.ow j u d q r
      have na : al j ≠ al i := fun z => n (S.inj j i u s d c q hi r hs z)
      refine ⟨g1, ?_, g3, g4.mono ff fun o z => pc _ o na z⟩
      cases z : F' (al j) with
      | none => rfl
      | some o =>
        rcases fp _ _ z with y | y | y
        · rw [g2] at y; cases y
        · exact absurd y na
        · obtain ⟨o', ho⟩ := g4.there
          rw [ho] at y; cases y
  · rcases key j _ q with ⟨ej, z⟩ | ⟨n, q⟩
    · obtain ⟨y, hy⟩ := reown_io z.symm
      rw [ej]
      exact S.io i y (by rw [hi, hy])
    · exact S.io j d q
  · rcases key j _ q1 with ⟨ej, z⟩ | ⟨n, p1⟩
    · rcases key k _ q2 with ⟨ek, z2⟩ | ⟨n2, p2⟩
      · rw [ej, ek]
      · rw [ej] at r3 ⊢
        exact S.inj i k s v c f hi p2 hs r2 r3
    · rcases key k _ q2 with ⟨ek, z2⟩ | ⟨n2, p2⟩
      · rw [ek] at r3 ⊢
        exact S.inj j i u s d c p1 hi r1 hs r3
      · exact S.inj j k u v d f p1 p2 r1 r2 r3
  · rcases key j _ q with ⟨ej, z⟩ | ⟨n, q⟩
    · have := reown_own (s := s) (d := e)
      rw [← z] at this
      cases this
    · exact S.sc j ns q
  · rcases key j _ q with ⟨ej, z⟩ | ⟨n, q⟩
    · exact absurd z (by cases s <;> (intro w; cases w))
    · obtain ⟨vs, g1, g2, g3⟩ := S.b2 j es q
      exact ⟨vs, g1, ff _ _ g2, g3.mono (Same.refl _) ff⟩
/-- at the entry of such a call -/
theorem StOk.enter {C : Cn} {al : Nat → Addr} {F H : Hp} {σ : St} {δ : En} {i : Nat} {s : Sl} {c : D} {ks : List PK} {os : List Op} {ds : List D} {vs : List V} (S : StOk C al F H σ δ) (hi : δ[i]? = some s) (hs : s.own = some c)
    (hf : frOk ks os = true) (ha : apart i os = true) (hrel : relA C.K F σ vs os) (h1 : rds os δ = some ds) :
    StOk { K := C.K, P := fun a => if a = al i then none else H a, B := fun a => if a = al i then none else H a, F0 := F, bt := fun _ => al i, W := C.W } (fun _ => al i) F H ((V.ref (al i) :: vs).map some) (entry (.io :: ks) (c :: ds)) := by
  obtain ⟨o1, o2, o3, o4⟩ := S.ow i s c hi hs
  have hP : Paired (fun v d => RepR C.K F H v d) vs ds := S.opds hrel h1
  have lk := frOk_len hf
  have lv : vs.length = os.length := hrel.length
  have ld := rds_len h1
  have pH : Same (fun a => if a = al i then none else H a) H := fun a o q => by
    by_cases z : a = al i
    · simp [z] at q
    · simpa [z] using q
  have ge : ∀ (i' : Nat) s, (entry ks ds)[i']? = some s → ∃ v d, (vs.map some)[i']? = some (some v) ∧ ((s = .bo d ∧ RepR C.K F (fun a => if a = al i then none else H a) v d) ∨ (s = .fr d ∧ Rep C.K F d v)) := fun i' s' q => by
    obtain ⟨k, d, g1, g2, g3⟩ := entry_get q
    obtain ⟨v, g4, g5⟩ := paired_get hP g2
    refine ⟨v, d, by rw [List.getElem?_map, g4]; rfl, ?_⟩
    rcases frOk_get hf g1 with z | ⟨z, d', z2⟩
    · subst z
      refine Or.inl ⟨g3, ?_⟩
      -- which operand is it
      have lo : i' < os.length := by have := (List.getElem?_eq_some_iff.mp g2).1; omega
      have ho : os[i']? = some os[i'] := List.getElem?_eq_getElem lo
      obtain ⟨d2, g6, g7⟩ := rds_get h1 ho
      rw [g2] at g6
      cases g6
      obtain ⟨v', g8, g9⟩ := paired_get hrel ho
      rw [g4] at g8
      cases g8
      cases e : os[i'] with
      | val d3 =>
        rw [e] at g7 g9
        cases g7
        exact Or.inl g9
      | part j k =>
        rw [e] at g7 g9
        obtain ⟨p, ws, y1, y2, y3⟩ := g9
        simp only [rd] at g7
        cases e2 : δ[j]? with
        | none => rw [e2] at g7; cases g7
        | some sj =>
          rw [e2] at g7
          cases sj with
          | b2 es =>
            obtain ⟨us, x1, x2, x3⟩ := S.b2 j es e2
            rw [y1] at x1
            cases x1
            rw [y2] at x2
            cases x2
            obtain ⟨b, rfl, rb⟩ := parts_get x3 y3 g7
            refine Or.inr ⟨b, rfl, rb.mono (Same.refl _) fun o q => ?_⟩
            have q' := S.qp _ _ q
            have : b ≠ al i := ne_of_none q' o3
            simp only [this, if_false]
            exact S.ph _ o q'
          | _ => cases g7
      | slot j =>
        rw [e] at ho g7 g9
        have nj : j ≠ i := apart_get ha ho
        simp only [rd] at g7
        cases e2 : δ[j]? with
        | none => rw [e2] at g7; cases g7
        | some sj =>
          rw [e2] at g7
          have g9 : σ[j]? = some (some v) := g9
          cases sj with
          | un => cases g7
          | sc ns => cases g7
          | b2 ds => cases g7
          | fr d3 =>
            cases g7
            obtain ⟨u, y1, y2⟩ := S.fr j d e2
            rw [g9] at y1; cases y1
            exact Or.inl y2
          | bo d3 =>
            cases g7
            obtain ⟨u, y1, y2⟩ := S.bo j d e2
            rw [g9] at y1; cases y1
            refine y2.mono (Same.refl _) fun a o q => ?_
            have q' := S.bp a o q
            have : a ≠ al i := ne_of_none q' o3
            simp only [this, if_false]
            exact S.ph a o q'
          | ow d3 =>
            cases g7
            obtain ⟨y1, y2, y3, y4⟩ := S.ow j _ d e2 rfl
            rw [g9] at y1; cases y1
            refine Or.inr ⟨al j, rfl, y4.mono (Same.refl _) fun o z => ?_⟩
            have : al j ≠ al i := fun w => nj (S.inj j i _ s d c e2 hi rfl hs w)
            simp only [this, if_false]
            exact z
          | io d3 =>
            cases g7
            obtain ⟨y1, y2, y3, y4⟩ := S.ow j _ d e2 rfl
            rw [g9] at y1; cases y1
            refine Or.inr ⟨al j, rfl, y4.mono (Same.refl _) fun o z => ?_⟩
            have : al j ≠ al i := fun w => nj (S.inj j i _ s d c e2 hi rfl hs w)
            simp only [this, if_false]
            exact z
    · subst z
      refine Or.inr ⟨g3, ?_⟩
      obtain ⟨d2, g6, g7⟩ := rds_get h1 z2
      rw [g2] at g6
      cases g6
      cases g7
      obtain ⟨v', g8, g9⟩ := paired_get hrel z2
      rw [g4] at g8
      cases g8
      exact g9
  have g0 : ∀ (j : Nat) s', (entry (.io :: ks) (c :: ds))[j]? = some s' → (j = 0 ∧ s' = .io c) ∨ ∃ v d, ((V.ref (al i) :: vs).map some)[j]? = some (some v) ∧ ((s' = .bo d ∧ RepR C.K F (fun a => if a = al i then none else H a) v d) ∨ (s' = .fr d ∧ Rep C.K F d v)) := fun j s' q => by
    cases j with
    | zero => exact Or.inl ⟨rfl, by simpa [entry, PK.sl] using q.symm⟩
    | succ j =>
      obtain ⟨v, d, y1, y2⟩ := ge j s' (by simpa [entry] using q)
      exact Or.inr ⟨v, d, by simpa using y1, y2⟩
  refine ⟨S.fh, pH, Same.refl _, Same.refl _, fun b o q => Or.inl q, ?_, fun j d q => ?_, fun j d q => ?_, fun j u d q r => ?_, fun j d q => rfl, fun j k u v d f q1 q2 r1 r2 r3 => ?_, fun j ns q => ?_, fun j ns q => ?_, fun _ _ q => by cases q⟩
  · show ((V.ref (al i) :: vs).map some).length = (PK.io.sl c :: entry ks ds).length
    rw [List.length_map, List.length_cons, List.length_cons, entry_len (by omega)]
    omega
  · rcases g0 j _ q with ⟨_, z⟩ | ⟨v, d', y1, y2 | y2⟩
    · cases z
    · cases y2.1
    · cases y2.1; exact ⟨v, y1, y2.2⟩
  · rcases g0 j _ q with ⟨_, z⟩ | ⟨v, d', y1, y2 | y2⟩
    · cases z
    · cases y2.1; exact ⟨v, y1, y2.2⟩
    · cases y2.1
  · rcases g0 j _ q with ⟨z1, z⟩ | ⟨v, d', y1, y2 | y2⟩
    · subst z
      cases r
      subst z1
      exact ⟨rfl, o2, by simp, o4⟩
    · rw [y2.1] at r; cases r
    · rw [y2.1] at r; cases r
  · rcases g0 j _ q1 with ⟨z1, z⟩ | ⟨v', d', y1, y2 | y2⟩
    · rcases g0 k _ q2 with ⟨z3, z4⟩ | ⟨v', d', y1, y2 | y2⟩
      · rw [z1, z3]
      · rw [y2.1] at r2; cases r2
      · rw [y2.1] at r2; cases r2
    · rw [y2.1] at r1; cases r1
    · rw [y2.1] at r1; cases r1
  · rcases g0 j _ q with ⟨_, z⟩ | ⟨v, d', y1, y2 | y2⟩
    · cases z
    · cases y2.1
    · cases y2.1
  · rcases g0 j _ q with ⟨_, z⟩ | ⟨v, d', y1, y2 | y2⟩
    · cases z
    · cases y2.1
    · cases y2.1
theorem io_behind {C : Cn} {al al' : Nat → Addr} {F H F' H' : Hp} {σ σ' : St} {δ δ' : En} {i : Nat} {s : Sl} {c e : D} {W' : WX} (S : StOk C al F H σ δ) (hi : δ[i]? = some s) (hs : s.own = some c)
    (S' : StOk { K := C.K, P := fun a => if a = al i then none else H a, B := fun a => if a = al i then none else H a, F0 := F, bt := fun _ => al i, W := W' } al' F' H' σ' δ') (he : δ'[0]? = some (.io e)) : StOk C al F' H' σ (δ.set i (reown s e)) := by
  obtain ⟨y1, y2, y3, y4⟩ := S'.ow 0 _ e he rfl
  have e0 : al' 0 = al i := S'.io 0 e he
  rw [e0] at y2 y4
  refine S.back hi hs S'.f0 S'.fh (fun a o n q => S'.ph a o ?_) (fun a o q => ?_) y2 y4
  · simp only [n, if_false]
    exact q
  · rcases S'.fp a o q with z | z
    · exact Or.inl z
    · by_cases w : a = al i
      · exact Or.inr (Or.inl w)
      · refine Or.inr (Or.inr ?_)
        have z' : (if a = al i then none else H a) = none := z
        simpa [w] using z'
theorem ev_callS {i : Nat} {ks : List PK} {f : List D → Option (R D)} {a : M (List Op)} {ta : TA} {E : XK} (ha : Ea K W ta a) (hW : (∀ cls dd σ H, W cls dd σ H → E cls dd H) ∨ NoEx f) :
    Ev K W (tCall (SpD K (.io :: ks) f) [] E (tCons (tVar i) ta)) (mCallS i ks f a) := by
  intro C hK hWC al F H σ δ S hp r hr Q hok hex
  subst hK
  unfold mCallS at hr
  cases q0 : δ[i]? with
  | none => simp only [q0] at hr; cases hr
  | some s0 =>
    cases q1 : s0.own with
    | none => simp only [q0, q1] at hr; cases hr
    | some c0 =>
      simp only [q0, q1] at hr
      obtain ⟨hv, _, _, _⟩ := S.ow i s0 c0 q0 q1
      refine ⟨_, hv, ?_⟩
      cases e0 : a δ with
      | none => unfold mCallS1 M.bind at hr; rw [e0] at hr; cases hr
      | some r0 =>
        refine ha C rfl hWC al F H σ δ S trivial r0 e0 _ (fun os δ1 e' al1 F1 H1 vs s1 S1 rl => ?_) fun x δ1 e' al1 F1 H1 cls dd s1 S1 xr => ?_
        · subst e'
          unfold mCallS1 at hr
          rw [M.bind_ok e0] at hr
          obtain ⟨ds, h1, hr⟩ := rds_bind hr
          cases e1 : δ1[i]? with
          | none => simp only [e1] at hr; cases hr
          | some s =>
            cases e2 : s.own with
            | none => simp only [e1, e2] at hr; cases hr
            | some c =>
              by_cases hf : (frOk ks os && apart i os) = true
              · simp only [e1, e2, hf, if_true] at hr
                obtain ⟨hf1, hf2⟩ := Bool.and_eq_true_iff.mp hf
                obtain ⟨o1, o2, o3, o4⟩ := S1.ow i s c e1 e2
                have ea : al i = al1 i := by
                  rw [hv] at o1
                  exact V.ref.inj (Option.some.inj (Option.some.inj o1))
                rw [ea]
                have St1 := S1.enter e1 e2 hf1 hf2 rl h1
                cases e3 : f (c :: ds) with
                | none => simp only [e3] at hr; cases hr
                | some q =>
                  have lk := frOk_len hf1
                  have lv : vs.length = os.length := rl.length
                  have ld := rds_len h1
                  refine ⟨{ K := C.K, P := fun a => if a = al1 i then none else H1 a, B := fun a => if a = al1 i then none else H1 a, F0 := F1, bt := fun _ => al1 i, W := C.W }, fun _ => al1 i, c :: ds, q, rfl, by rw [List.append_nil]; simp; omega, by simp; omega, (by rw [List.append_nil]; exact St1), e3, fun d δ2 e4 al' F' H' σ' v s' S' rv => ?_, fun x δ2 e4 al' F' H' σ' cls dd s' S' xr => ?_⟩
                  · subst e4
                    simp only [e3] at hr
                    unfold ioOut at hr
                    cases e5 : δ2[0]? with
                    | none => simp only [e5] at hr; cases hr
                    | some s0 =>
                      cases s0 with
                      | io e =>
                        simp only [e5] at hr
                        cases hr
                        exact hok d _ rfl al1 F' H' v (s1.trans s') (io_behind S1 e1 e2 S' e5) rv
                      | _ => simp only [e5] at hr; cases hr
                  · subst e4
                    simp only [e3] at hr
                    unfold ioOut at hr
                    cases e5 : δ2[0]? with
                    | none => simp only [e5] at hr; cases hr
                    | some s0 =>
                      cases s0 with
                      | io e =>
                        simp only [e5] at hr
                        cases hr
                        rcases hW with hW | hW
                        · exact hW _ _ σ _ (hex x _ rfl al1 F' H' cls dd (s1.trans s') (io_behind S1 e1 e2 S' e5) xr)
                        · exact absurd e3 (hW _ _ _)
                      | _ => simp only [e5] at hr; cases hr
              · simp only [e1, e2, hf] at hr
                cases hr
        · subst e'
          unfold mCallS1 at hr
          rw [M.bind_ex e0] at hr
          cases hr
          exact hex x δ1 rfl al1 F1 H1 cls dd s1 S1 xr
end
end DL

set_option Elab.async false
set_option linter.all false
set_option maxRecDepth 100000
set_option maxHeartbeats 400000
/-! DLf: the primitives. -/
namespace DL
open PySem L2
section
variable {K : Fg} {F H : Hp} {v w : V}
theorem RepR.non (h : RepR K F H v .non) : v = .non := by
  rcases h with h | ⟨a, _, h⟩
  · exact Rep.non_iff.mp h
  · exact h.elim
theorem RepR.bl {b : Bool} (h : RepR K F H v (.bl b)) : v = .bl b := by
  rcases h with h | ⟨a, _, h⟩
  · exact Rep.bl_iff.mp h
  · exact h.elim
theorem RepR.int {i : Int} (h : RepR K F H v (.int i)) : v = .int i := by
  rcases h with h | ⟨a, _, h⟩
  · exact Rep.int_iff.mp h
  · exact h.elim
theorem RepR.str {x : Str} (h : RepR K F H v (.str x)) : v = .str x := by
  rcases h with h | ⟨a, _, h⟩
  · exact Rep.str_iff.mp h
  · exact h.elim
theorem RepR.tup {ds : List D} (h : RepR K F H v (.tup ds)) : ∃ a vs, v = .ref a ∧ TupR K F a vs ∧ ds.length ≤ LB ∧ Reps K F ds vs := by
  rcases h with h | ⟨a, _, h⟩
  · exact Rep.tup_iff.mp h
  · exact h.elim
theorem RepR.lst {ds : List D} (h : RepR K F H v (.lst ds)) (fh : Same F H) : ∃ a vs, v = .ref a ∧ H a = some (.lst vs) ∧ ds.length ≤ LB ∧ Reps K F ds vs := by
  rcases h with h | ⟨a, e, vs, h1, h2, h3⟩
  · obtain ⟨a, vs, e, h1, h2, h3⟩ := Rep.lst_iff.mp h
    exact ⟨a, vs, e, fh _ _ h1, h2, h3⟩
  · exact ⟨a, vs, e, h1, h2, h3⟩
theorem RepR.ins {C : Addr} {ns : List Str} {ds : List D} (h : RepR K F H v (.ins C ns ds)) (fh : Same F H) : ∃ a dx vs, v = .ref a ∧ H a = some (.ins C dx (ns.zip vs)) ∧ ns.length = ds.length ∧ Reps K F ds vs := by
  rcases h with h | ⟨a, e, dx, vs, h1, h2, h3⟩
  · obtain ⟨a, dx, vs, e, h1, h2, h3⟩ := Rep.ins_iff.mp h
    exact ⟨a, dx, vs, e, fh _ _ h1, h2, h3⟩
  · exact ⟨a, dx, vs, e, h1, h2, h3⟩
theorem RepR.dk {ks : List Key} {ds : List D} (h : RepR K F H v (.dk ks ds)) (fh : Same F H) : ∃ a vs, v = .ref a ∧ Rd H a (.dK (ks.zip vs)) ∧ ks.length = ds.length ∧ ds.length ≤ LB ∧ Reps K F ds vs := by
  rcases h with h | ⟨a, e, vs, h1, h2, h3, h4⟩
  · obtain ⟨a, vs, e, h1, h2, h3, h4⟩ := Rep.dk_iff.mp h
    exact ⟨a, vs, e, same_rd fh h1, h2, h3, h4⟩
  · exact ⟨a, vs, e, Or.inl h1, h2, h3, h4⟩
theorem RepR.ob {n : Nat} {C : Addr} {ns : List Str} {ds : List D} (fh : Same F H) (h : RepR K F H v (.ob n C ns ds)) : ∃ a vs, v = .ref a ∧ RepB H n C ns a vs ∧ Reps K F ds vs := by
  rcases h with h | ⟨a, e, h⟩
  · obtain ⟨a, vs, h1, h2, h3⟩ := Rep.ob_iff.mp h
    exact ⟨a, vs, h1, h2.mono fh, h3⟩
  · exact h.elim
theorem RepR.fn {f : Addr} (h : RepR K F H v (.fn f)) : v = .ref f := by
  rcases h with h | ⟨a, e, h⟩
  · exact Rep.fn_iff.mp h
  · exact h.elim
theorem RepR.dn {hs : List Int} {ks ds : List D} (h : RepR K F H v (.dn hs ks ds)) (fh : Same F H) : ∃ a o bs vs nks, v = .ref a ∧ H a = some (dnO a o hs bs vs) ∧ keysT ks = some nks ∧ nks.Nodup ∧ hs.length = ks.length ∧ ks.length = ds.length ∧ ds.length ≤ LB ∧ Reps K F ks (bs.map V.ref) ∧ Reps K F ds vs := by
  rcases h with h | ⟨a, e, o, bs, vs, nks, h1, h2, h3, h4, h5, h6, h7, h8⟩
  · obtain ⟨a, o, bs, vs, nks, e, h1, h2⟩ := Rep.dn_iff.mp h
    exact ⟨a, o, bs, vs, nks, e, fh _ _ h1, h2⟩
  · exact ⟨a, o, bs, vs, nks, e, h1, h2, h3, h4, h5, h6, h7, h8⟩
/-- all is data in the heap as it stands -/
theorem RepR.full {d : D} (h : RepR K F H v d) (fh : Same F H) : Rep K H d v := by
  rcases h with h | ⟨a, e, h⟩
  · exact h.mono fh
  · cases d with
    | lst ds => obtain ⟨vs, h1, h2, h3⟩ := h; exact Rep.lst_iff.mpr ⟨a, vs, e, h1, h2, h3.mono fh⟩
    | ins C ns ds => obtain ⟨dx, vs, h1, h2, h3⟩ := h; exact Rep.ins_iff.mpr ⟨a, dx, vs, e, h1, h2, h3.mono fh⟩
    | dk ks ds => obtain ⟨vs, h1, h2, h3, h4⟩ := h; exact Rep.dk_iff.mpr ⟨a, vs, e, Or.inl h1, h2, h3, h4.mono fh⟩
    | dn hs ks ds => obtain ⟨o, bs, vs, nks, h1, h2, h3, h4, h5, h6, h7, h8⟩ := h; exact Rep.dn_iff.mpr ⟨a, o, bs, vs, nks, e, h1, h2, h3, h4, h5, h6, h7.mono fh, h8.mono fh⟩
    | _ => exact h.elim
end

/-! ### numbers -/
section
variable {K : Fg}
def fI (C : Int → Int → Bool) (g : Int → Int → D) : D → D → Option D
  | .int i, .int j => if C i j then some (g i j) else none
  | _, _ => none
theorem prim_I {C : Int → Int → Prop} {Cb : Int → Int → Bool} {gv : Int → Int → V} {gd : Int → Int → D} (hc : ∀ i j, Cb i j = true → C i j) (hg : ∀ i j F, Rep K F (gd i j) (gv i j)) : Prim2 K (rI C gv) (fI Cb gd) := by
  intro F H v w d e z fh hv hw hf Q k
  match d, e, hf with
  | .int i, .int j, hf =>
    have hf : (if Cb i j = true then some (gd i j) else none) = some z := hf
    obtain ⟨h1, rfl⟩ := if_some hf
    exact ⟨i, j, hv.int, hw.int, hc i j h1, k F H _ (New.refl fh) (hg i j F)⟩
def fI0 (g : Int → Int → D) : D → D → Option D
  | .int i, .int j => some (g i j)
  | _, _ => none
theorem prim_I0 {gv : Int → Int → V} {gd : Int → Int → D} (hg : ∀ i j F, Rep K F (gd i j) (gv i j)) : Prim2 K (rI0 gv) (fI0 gd) := by
  intro F H v w d e z fh hv hw hf Q k
  match d, e, hf with
  | .int i, .int j, hf =>
    cases hf
    exact ⟨i, j, hv.int, hw.int, k F H _ (New.refl fh) (hg i j F)⟩
theorem Prim2.or {r r' : R2} {f g : D → D → Option D} (h : Prim2 K r f) (h' : Prim2 K r' g) : Prim2 K (fun x y H Q => r x y H Q ∨ r' x y H Q) (fun d e => (f d e).or (g d e)) := by
  intro F H v w d e z fh hv hw hf Q k
  have hf : (f d e).or (g d e) = some z := hf
  cases q : f d e with
  | none => rw [q] at hf; exact Or.inr (h' F H v w d e z fh hv hw hf Q k)
  | some y =>
    rw [q] at hf
    have hy : y = z := Option.some.inj hf
    subst hy
    exact Or.inl (h F H v w d e y fh hv hw q Q k)
theorem Prim1.or {r r' : V → Hp → VK → Prop} {f g : D → Option D} (h : Prim1 K r f) (h' : Prim1 K r' g) : Prim1 K (fun x H Q => r x H Q ∨ r' x H Q) (fun d => (f d).or (g d)) := by
  intro F H v d z fh hv hf Q k
  have hf : (f d).or (g d) = some z := hf
  cases q : f d with
  | none => rw [q] at hf; exact Or.inr (h' F H v d z fh hv hf Q k)
  | some y =>
    rw [q] at hf
    have hy : y = z := Option.some.inj hf
    subst hy
    exact Or.inl (h F H v d y fh hv q Q k)
theorem PrimA.or {r r' : List V → Hp → VK → Prop} {f g : List D → Option D} (h : PrimA K r f) (h' : PrimA K r' g) : PrimA K (fun x H Q => r x H Q ∨ r' x H Q) (fun d => (f d).or (g d)) := by
  intro F H v d z fh hv hf Q k
  have hf : (f d).or (g d) = some z := hf
  cases q : f d with
  | none => rw [q] at hf; exact Or.inr (h' F H v d z fh hv hf Q k)
  | some y =>
    rw [q] at hf
    have hy : y = z := Option.some.inj hf
    subst hy
    exact Or.inl (h F H v d y fh hv q Q k)
def small64 (i : Int) : Bool := decide (-(2 ^ 64) < i) && decide (i < 2 ^ 64)
def mulOk (i j : Int) : Bool := small64 i || small64 j
theorem prim_mul : Prim2 K (rI CMul fun i j => .int (i * j)) (fI mulOk fun i j => .int (i * j)) := prim_I (fun i j h => by
  unfold mulOk small64 at h
  simp only [Bool.or_eq_true, Bool.and_eq_true, decide_eq_true_eq] at h
  exact h) fun i j F => Rep.int_iff.mpr rfl
def divOk (_ j : Int) : Bool := decide (0 < j) && decide (j < 1073741824)
theorem prim_div : Prim2 K (rI CDiv fun i j => .int (i / j)) (fI divOk fun i j => .int (i / j)) := prim_I (fun i j h => by
  unfold divOk at h
  simp only [Bool.and_eq_true, decide_eq_true_eq] at h
  exact h) fun i j F => Rep.int_iff.mpr rfl
def modOk (_ j : Int) : Bool := decide (0 < j)
theorem prim_mod : Prim2 K (rI (fun _ j => 0 < j) fun i j => .int (i % j)) (fI modOk fun i j => .int (i % j)) := prim_I (fun i j h => by
  unfold modOk at h
  simpa using h) fun i j F => Rep.int_iff.mpr rfl
def powOk (i j : Int) : Bool := decide (0 ≤ j) && (decide (j ≤ 1000000) && decide (i.natAbs < 2 ^ 64))
theorem prim_pow : Prim2 K (rI CPow fun i j => .int (i ^ j.toNat)) (fI powOk fun i j => .int (i ^ j.toNat)) := prim_I (fun i j h => by
  unfold powOk at h
  simp only [Bool.and_eq_true, decide_eq_true_eq] at h
  exact h) fun i j F => Rep.int_iff.mpr rfl
theorem prim_addI : Prim2 K (rI0 fun i j => .int (i + j)) (fI0 fun i j => .int (i + j)) := prim_I0 fun i j F => Rep.int_iff.mpr rfl
theorem prim_gtI : Prim2 K (rI0 fun i j => .bl (decide (j < i))) (fI0 fun i j => .bl (decide (j < i))) := prim_I0 fun i j F => Rep.bl_iff.mpr rfl
theorem prim_geI : Prim2 K (rI0 fun i j => .bl (decide (j ≤ i))) (fI0 fun i j => .bl (decide (j ≤ i))) := prim_I0 fun i j F => Rep.bl_iff.mpr rfl

/-! ### + of numbers, texts, lists, tuples -/
def rStrCat : R2 := fun x y H Q => ∃ i j : Str, x = .str i ∧ y = .str j ∧ i.length + j.length ≤ sizeLine ∧ Q (.str (i ++ j)) H
def fStrCat : D → D → Option D
  | .str i, .str j => if i.length + j.length ≤ 1000000 then some (.str (i ++ j)) else none
  | _, _ => none
theorem prim_strCat : Prim2 K rStrCat fStrCat := by
  intro F H v w d e z fh hv hw hf Q k
  match d, e, hf with
  | .str i, .str j, hf =>
    obtain ⟨h1, rfl⟩ := if_some (show (if i.length + j.length ≤ 1000000 then some (D.str (i ++ j)) else none) = some z from hf)
    exact ⟨i, j, hv.str, hw.str, LB_size h1, k F H _ (New.refl fh) (Rep.str_iff.mpr rfl)⟩
def fCatL : D → D → Option D
  | .lst xs, .lst ys => if xs.length + ys.length ≤ 1000000 then some (.lst (xs ++ ys)) else none
  | _, _ => none
theorem prim_catL : Prim2 K rCat fCatL := by
  intro F H v w d e z fh hv hw hf Q k
  match d, e, hf with
  | .lst xs, .lst ys, hf =>
    obtain ⟨h1, rfl⟩ := if_some (show (if xs.length + ys.length ≤ 1000000 then some (D.lst (xs ++ ys)) else none) = some z from hf)
    obtain ⟨a, vs, rfl, g1, g2, g3⟩ := hv.lst fh
    obtain ⟨b, us, rfl, g4, g5, g6⟩ := hw.lst fh
    refine ⟨a, b, vs, us, rfl, rfl, g1, g4, by rw [g3.len, g6.len]; exact LB_size h1, fun p hp => ?_⟩
    have n : New F H (upd F p (.lst (vs ++ us))) (upd H p (.lst (vs ++ us))) := New.lay fh hp
    exact k _ _ _ n (Rep.lst_iff.mpr ⟨p, _, rfl, upd_same, by rw [List.length_append]; exact h1, (g3.app g6).mono n.ff⟩)
/-- t + u, the new tuple's object known -/
def rCatZ (K : Fg) : R2 := fun x y H Q => ∃ a b xs ys, x = .ref a ∧ y = .ref b ∧ SqT K H a xs ∧ SqT K H b ys ∧ xs.length + ys.length ≤ sizeLine ∧
  (xs = [] → Q (.ref b) H) ∧ (xs ≠ [] → ys = [] → Q (.ref a) H) ∧ (xs ≠ [] → ys ≠ [] → ∀ p o, H p = none → Obj.dict o = none → Q (.ref p) (upd H p (.frz o (.tup (xs ++ ys)))))
theorem op_catZ {X : Cx} : OpR X (binaryOp .Add) (rCatZ X.K) := by
  intro pins s σ H x y v u Q I rx ry h
  obtain ⟨a, b, xs, ys, rfl, rfl, ha, hb, hz, q0, q1, q2⟩ := h
  by_cases hx : xs = []
  · exact op_catA pins s σ H _ _ v u Q I rx ry ⟨a, b, xs, ys, rfl, rfl, ha, hb, hz, q0, fun h => absurd hx h, fun h => absurd hx h⟩
  · by_cases hy : ys = []
    · exact op_catA pins s σ H _ _ v u Q I rx ry ⟨a, b, xs, ys, rfl, rfl, ha, hb, hz, fun h => absurd h hx, fun _ h => q1 hx h, fun _ h => absurd hy h⟩
    · cases rx
      cases ry
      obtain ⟨us, r1, p1, _⟩ := I.tuple ha
      obtain ⟨ws, r2, p2, _⟩ := I.tuple hb
      refine HT.cat_tup p1 p2 (fun z => hx (r1.nil_iff.mp z)) (fun z => absurd (r2.nil_iff.mp z) hy) (fun _ => ?_) (by rw [← r1.length, ← r2.length]; exact hz)
      refine ⟨.ref s.heap.objs.size, upd H s.heap.objs.size (.frz { cls := .type "tuple", data := .seq (us ++ ws).toArray } (.tup (xs ++ ys))), I.laid (t' := s.toks) (fun b ob q => Heap.get?_push_of_some _ q) (Nat.le_refl _) ?_, rfl, q2 hx hy _ _ (I.hok.fresh (Nat.le_refl _)) rfl⟩
      exact ⟨Heap.get?_push_size _ rfl, by rw [List.length_append]; exact hz, _, r1.append r2, PyProof.Rows.IsTup.new _ _⟩
def fCatT : D → D → Option D
  | .tup xs, .tup ys => if xs.length + ys.length ≤ 1000000 then some (.tup (xs ++ ys)) else none
  | _, _ => none
theorem prim_catZ : Prim2 K (rCatZ K) fCatT := by
  intro F H v w d e z fh hv hw hf Q k
  match d, e, hf with
  | .tup xs, .tup ys, hf =>
    obtain ⟨h1, rfl⟩ := if_some (show (if xs.length + ys.length ≤ 1000000 then some (D.tup (xs ++ ys)) else none) = some z from hf)
    obtain ⟨a, vs, rfl, g1, g2, g3⟩ := hv.tup
    obtain ⟨b, us, rfl, g4, g5, g6⟩ := hw.tup
    have l1 := g3.len
    have l2 := g6.len
    refine ⟨a, b, vs, us, rfl, rfl, same_t fh g1.sq, same_t fh g4.sq, by rw [l1, l2]; exact LB_size h1, fun e1 => ?_, fun _ e1 => ?_, fun _ _ p o hp ho => ?_⟩
    · have : xs = [] := by
        cases xs with
        | nil => rfl
        | cons x xs => rw [e1] at l1; simp at l1
      subst this
      exact k F H _ (New.refl fh) (Rep.tup_iff.mpr ⟨b, us, rfl, g4, g5, g6⟩)
    · have : ys = [] := by
        cases ys with
        | nil => rfl
        | cons x xs => rw [e1] at l2; simp at l2
      subst this
      refine k F H _ (New.refl fh) ?_
      rw [List.append_nil]
      exact Rep.tup_iff.mpr ⟨a, vs, rfl, g1, g2, g3⟩
    · obtain ⟨n, hr⟩ := newT (K := K) fh hp ho (by rw [List.length_append]; exact h1) (g3.app g6)
      exact k _ _ _ n hr
def rAddA (K : Fg) : R2 := fun x y H Q => rI0 (fun i j => .int (i + j)) x y H Q ∨ (rStrCat x y H Q ∨ (rCat x y H Q ∨ rCatZ K x y H Q))
theorem op_addA {X : Cx} : OpR X (binaryOp .Add) (rAddA X.K) := op_add.or (op_add_str.or (op_cat.or op_catZ))
def addD (d e : D) : Option D := (fI0 (fun i j => .int (i + j)) d e).or ((fStrCat d e).or ((fCatL d e).or (fCatT d e)))
theorem prim_add : Prim2 K (rAddA K) addD := prim_addI.or (prim_strCat.or (prim_catL.or prim_catZ))

/-! ### == of data -/
mutual
def toPy : D → Option PyData
  | .non => some .none
  | .bl b => some (.bool b)
  | .int i => some (.int i)
  | .str x => some (.str x)
  | .tup ds => (toPys ds).map .tuple
  | .lst ds => (toPys ds).map .list
  | .ins _ _ _ => none
  | .dk _ _ => none
  | .dn _ _ _ => none
  | .fn _ => none
  | .ob _ _ _ _ => none
def toPys : List D → Option (List PyData)
  | [] => some []
  | d :: ds => match toPy d, toPys ds with
    | some p, some ps => some (p :: ps)
    | _, _ => none
end
mutual
theorem toPy_dp {K : Fg} {H : Hp} : ∀ {d : D} {v : V} {p : PyData}, Rep K H d v → toPy d = some p → Dp K H v p
  | .non, v, p, h, e => by cases e; rw [Rep.non_iff.mp h]; exact .non
  | .bl b, v, p, h, e => by cases e; rw [Rep.bl_iff.mp h]; exact .bl b
  | .int i, v, p, h, e => by cases e; rw [Rep.int_iff.mp h]; exact .int i
  | .str x, v, p, h, e => by cases e; rw [Rep.str_iff.mp h]; exact .str x
  | .tup ds, v, p, h, e => by
    obtain ⟨a, vs, rfl, g1, g2, g3⟩ := Rep.tup_iff.mp h
    simp only [toPy] at e
    cases q : toPys ds with
    | none => rw [q] at e; cases e
    | some ps => rw [q] at e; cases e; exact .tup g1.sq (toPys_dp g3 q)
  | .lst ds, v, p, h, e => by
    obtain ⟨a, vs, rfl, g1, g2, g3⟩ := Rep.lst_iff.mp h
    simp only [toPy] at e
    cases q : toPys ds with
    | none => rw [q] at e; cases e
    | some ps => rw [q] at e; cases e; exact .lst (Or.inl (Or.inl g1)) (toPys_dp g3 q)
  | .ins _ _ _, v, p, h, e => by cases e
  | .dk _ _, v, p, h, e => by cases e
  | .dn _ _ _, v, p, h, e => by cases e
  | .fn _, v, p, h, e => by cases e
  | .ob _ _ _ _, v, p, h, e => by cases e
theorem toPys_dp {K : Fg} {H : Hp} : ∀ {ds : List D} {vs : List V} {ps : List PyData}, Reps K H ds vs → toPys ds = some ps → DpAll K H vs ps
  | [], vs, ps, h, e => by cases e; rw [h.inv0]; exact .nil
  | d :: ds, vs, ps, h, e => by
    obtain ⟨v, us, rfl, h1, h2⟩ := h.inv
    simp only [toPys] at e
    cases q1 : toPy d with
    | none => simp only [q1] at e; cases e
    | some p =>
      cases q2 : toPys ds with
      | none => simp only [q1, q2] at e; cases e
      | some qs => simp only [q1, q2] at e; cases e; exact .cons (toPy_dp h1 q1) (toPys_dp h2 q2)
end
/-- whether two data are equal, as Python tells it -/
def pyEq (d e : D) : Option Bool := match toPy d, toPy e with
  | some p, some q => if SeqAt.shaped p && SeqAt.shaped q then some (PyData.eqv p q) else none
  | _, _ => none
def eqD (d e : D) : Option D := (pyEq d e).map D.bl
def neD (d e : D) : Option D := (pyEq d e).map fun b => D.bl (!b)
theorem pyEq_some {d e : D} {b : Bool} (h : pyEq d e = some b) : ∃ p q, toPy d = some p ∧ toPy e = some q ∧ SeqAt.shaped p = true ∧ SeqAt.shaped q = true ∧ b = PyData.eqv p q := by
  unfold pyEq at h
  cases e1 : toPy d with
  | none => simp only [e1] at h; cases h
  | some p =>
    cases e2 : toPy e with
    | none => simp only [e1, e2] at h; cases h
    | some q =>
      simp only [e1, e2] at h
      obtain ⟨h1, h2⟩ := if_some h
      obtain ⟨h3, h4⟩ := Bool.and_eq_true_iff.mp h1
      exact ⟨p, q, rfl, rfl, h3, h4, h2.symm⟩
theorem prim_eq : Prim2 K (rEqD K) eqD := by
  intro F H v w d e z fh hv hw hf Q k
  unfold eqD at hf
  cases h : pyEq d e with
  | none => rw [h] at hf; cases hf
  | some b =>
    rw [h] at hf
    cases hf
    obtain ⟨p, q, h1, h2, h3, h4, rfl⟩ := pyEq_some h
    exact ⟨p, q, toPy_dp (hv.full fh) h1, toPy_dp (hw.full fh) h2, h3, h4, k F H _ (New.refl fh) (Rep.bl_iff.mpr rfl)⟩
theorem prim_ne : Prim2 K (rNeD K) neD := by
  intro F H v w d e z fh hv hw hf Q k
  unfold neD at hf
  cases h : pyEq d e with
  | none => rw [h] at hf; cases hf
  | some b =>
    rw [h] at hf
    cases hf
    obtain ⟨p, q, h1, h2, h3, h4, rfl⟩ := pyEq_some h
    exact ⟨p, q, toPy_dp (hv.full fh) h1, toPy_dp (hw.full fh) h2, h3, h4, k F H _ (New.refl fh) (Rep.bl_iff.mpr rfl)⟩
end
end DL

set_option Elab.async false
set_option linter.all false
set_option maxRecDepth 100000
set_option maxHeartbeats 400000
/-! DLg: more primitives: len, isinstance, items, slices, list(), tuple(), sorted, dicts, methods. -/
namespace DL
open PySem L2
section
variable {K : Fg}
theorem paired1 {α β : Type} {Rr : α → β → Prop} {as : List α} {b : β} (h : Paired Rr as [b]) : ∃ a, as = [a] ∧ Rr a b := by
  cases h with
  | cons r t => cases t; exact ⟨_, rfl, r⟩
/-- a primitive of one value from one of an argument list -/
def fA1 (f : D → Option D) : List D → Option D
  | [d] => f d
  | _ => none
def fN1 (f : D → Option (List D)) : List D → Option (List D)
  | [d] => f d
  | _ => none
theorem primA1 {r : List V → Hp → VK → Prop} {f : D → Option D} (h : ∀ (F H : Hp) (v : V) (d e : D), Same F H → RepR K F H v d → f d = some e → ∀ Q : VK, (∀ F' H' u, New F H F' H' → Rep K F' e u → Q u H') → r [v] H Q) : PrimA K r (fA1 f) := by
  intro F H vs ds e fh hp hf Q k
  match ds, hp, hf with
  | [d], hp, hf =>
    obtain ⟨v, rfl, hv⟩ := paired1 hp
    exact h F H v d e fh hv hf Q k
/-! ### len -/
def rLen (K : Fg) : List V → Hp → VK → Prop := fun xs H Q => ∃ x n, xs = [x] ∧ LenV K x H n ∧ Q (.int n) H
def lenD : D → Option D
  | .str x => if x.length ≤ 1000000 then some (.int x.length) else none
  | .lst ds => some (.int ds.length)
  | .tup ds => some (.int ds.length)
  | _ => none
theorem prim_len : PrimA K (rLen K) (fA1 lenD) := primA1 fun F H v d e fh hv hf Q k => by
  cases d with
  | str x =>
    obtain ⟨h1, rfl⟩ := if_some (show (if x.length ≤ 1000000 then some (D.int x.length) else none) = some e from hf)
    exact ⟨v, x.length, rfl, by rw [hv.str]; exact ⟨LB_size h1, rfl⟩, k F H _ (New.refl fh) (Rep.int_iff.mpr rfl)⟩
  | lst ds =>
    cases hf
    obtain ⟨a, vs, rfl, g1, g2, g3⟩ := hv.lst fh
    exact ⟨_, ds.length, rfl, Or.inl ⟨vs, Or.inl (Or.inl g1), g3.len.symm⟩, k F H _ (New.refl fh) (Rep.int_iff.mpr rfl)⟩
  | tup ds =>
    cases hf
    obtain ⟨a, vs, rfl, g1, g2, g3⟩ := hv.tup
    exact ⟨_, ds.length, rfl, Or.inr ⟨vs, same_t fh g1.sq, g3.len.symm⟩, k F H _ (New.refl fh) (Rep.int_iff.mpr rfl)⟩
  | _ => cases hf
/-! ### isinstance of a built-in class -/
def tyN : D → Option String
  | .non => some "NoneType"
  | .bl _ => some "bool"
  | .int _ => some "int"
  | .str _ => some "str"
  | .tup _ => some "tuple"
  | .lst _ => some "list"
  | .dk _ _ => some "dict"
  | .ins _ _ _ => none
  | .dn _ _ _ => none
  | .fn _ => none
  | .ob _ _ _ _ => none
/-- isinstance(x, T) -/
def isB (T : String) (d : D) : Option D := match tyN d with
  | some t => (kitB t T).map D.bl
  | none => none
/-! ### items -/
def ixD : D → D → Option D
  | .lst ds, .int i => atI ds i
  | .tup ds, .int i => atI ds i
  | .str x, .int i => if x.length ≤ 1000000 then (atI x.cps.toList i).map fun c => D.str ⟨#[c]⟩ else none
  | _, _ => none
theorem atI_len {α β : Type} {xs : List α} {ys : List β} {i : Int} {x : α} (hl : xs.length = ys.length) (h : atI xs i = some x) : ∃ j : Nat, xs[j]? = some x ∧ ∀ y, ys[j]? = some y → atI ys i = some y := by
  unfold atI at h ⊢
  cases e : ixN xs.length i with
  | none => rw [e] at h; cases h
  | some j =>
    rw [e] at h
    refine ⟨j, h, fun y hy => ?_⟩
    rw [← hl, e]
    exact hy
theorem prim_ix : Prim2 K (rIx K) ixD := by
  intro F H v w d e z fh hv hw hf Q k
  cases e with
  | int i =>
   cases d with
   | lst ds =>
    obtain ⟨a, vs, rfl, g1, g2, g3⟩ := hv.lst fh
    obtain ⟨j, h1, h2⟩ := atI_len g3.len.symm hf
    obtain ⟨u, h3, h4⟩ := g3.get h1
    exact Or.inl ⟨a, vs, i, u, rfl, hw.int, Or.inl (Or.inl g1), h2 u h3, k F H _ (New.refl fh) h4⟩
   | tup ds =>
    obtain ⟨a, vs, rfl, g1, g2, g3⟩ := hv.tup
    obtain ⟨j, h1, h2⟩ := atI_len g3.len.symm hf
    obtain ⟨u, h3, h4⟩ := g3.get h1
    exact Or.inr (Or.inl ⟨a, vs, i, u, rfl, hw.int, same_t fh g1.sq, h2 u h3, k F H _ (New.refl fh) h4⟩)
   | str x =>
    have hf : (if x.length ≤ 1000000 then (atI x.cps.toList i).map fun c => D.str ⟨#[c]⟩ else none) = some z := hf
    by_cases hl : x.length ≤ 1000000
    · rw [if_pos hl] at hf
      cases h1 : atI x.cps.toList i with
      | none => rw [h1] at hf; cases hf
      | some c =>
        rw [h1] at hf
        cases hf
        exact Or.inr (Or.inr ⟨x, i, c, hv.str, hw.int, LB_size hl, h1, k F H _ (New.refl fh) (Rep.str_iff.mpr rfl)⟩)
    · rw [if_neg hl] at hf; cases hf
   | _ => cases hf
  | _ => cases d <;> cases hf
/-! ### slices -/
/-- t[lo:hi], the new tuple's object known -/
def rSlZ (K : Fg) : V → Option Int → Option Int → Hp → VK → Prop := fun x lo hi H Q => ∃ a xs, x = .ref a ∧ SqT K H a xs ∧
  (HT.sIx xs.length 0 lo = 0 ∧ HT.sIx xs.length xs.length hi = xs.length → Q (.ref a) H) ∧ (¬ (HT.sIx xs.length 0 lo = 0 ∧ HT.sIx xs.length xs.length hi = xs.length) → ∀ p o, H p = none → Obj.dict o = none → Q (.ref p) (upd H p (.frz o (.tup (cutV xs lo hi)))))
theorem sl_tupZ {X : Cx} : SlR X (rSlZ X.K) := by
  intro pins s σ H x v vl vu lo hi sl Q I rx hs pl pu h
  obtain ⟨a, xs, rfl, hx, q1, q2⟩ := h
  by_cases hw : HT.sIx xs.length 0 lo = 0 ∧ HT.sIx xs.length xs.length hi = xs.length
  · exact sl_tupA pins s σ H _ v vl vu lo hi sl Q I rx hs pl pu ⟨a, xs, rfl, hx, q1, fun h => absurd hw h⟩
  · cases rx
    obtain ⟨us, r, ht, hz⟩ := I.tuple hx
    have hlen : us.toArray.size = xs.length := by rw [List.size_toArray]; exact r.length.symm
    refine ⟨"tuple", _, PyProof.Rows.slot_tuple_getitem.lookup, ht.typeIs, HT.getItem_tuple_cut ht hs pl pu (by rw [hlen]; exact hw) ?_ (by rw [hlen]; exact hz)⟩
    rw [hlen]
    refine ⟨.ref s.heap.objs.size, upd H s.heap.objs.size (.frz { cls := .type "tuple", data := .seq ((us.toArray.toList.drop (HT.sIx xs.length 0 lo)).take (HT.sIx xs.length xs.length hi - HT.sIx xs.length 0 lo)).toArray } (.tup (cutV xs lo hi))), I.laid (t' := s.toks) (fun b ob q => Heap.get?_push_of_some _ q) (Nat.le_refl _) ⟨Heap.get?_push_size _ rfl, ?_⟩, rfl, q2 hw _ _ (I.hok.fresh (Nat.le_refl _)) rfl⟩
    exact ⟨Nat.le_trans (cutV_length xs lo hi) hz, _, (r.drop (HT.sIx xs.length 0 lo)).take (HT.sIx xs.length xs.length hi - HT.sIx xs.length 0 lo), PyProof.Rows.IsTup.new _ _⟩
def PrimSl (K : Fg) (r : V → Option Int → Option Int → Hp → VK → Prop) (f : D → Option Int → Option Int → Option D) : Prop := ∀ (F H : Hp) (v : V) (d : D) (lo hi : Option Int) (e : D), Same F H → RepR K F H v d → f d lo hi = some e → ∀ Q : VK, (∀ F' H' u, New F H F' H' → Rep K F' e u → Q u H') → r v lo hi H Q
def cutD (xs : List D) (lo hi : Option Int) : List D := (xs.drop (HT.sIx xs.length 0 lo)).take (HT.sIx xs.length xs.length hi - HT.sIx xs.length 0 lo)
theorem cutD_reps {F : Hp} {ds : List D} {vs : List V} {lo hi : Option Int} (h : Reps K F ds vs) : Reps K F (cutD ds lo hi) (cutV vs lo hi) := by
  unfold cutD cutV
  rw [h.len]
  exact (h.drop _).take _
theorem cutD_len {ds : List D} {lo hi : Option Int} : (cutD ds lo hi).length ≤ ds.length := by
  unfold cutD
  rw [List.length_take, List.length_drop]
  omega
def slD : D → Option Int → Option Int → Option D
  | .lst ds, lo, hi => some (.lst (cutD ds lo hi))
  | .tup ds, lo, hi => some (.tup (cutD ds lo hi))
  | .str x, lo, hi => if x.length ≤ 1000000 then some (.str (cutS x lo hi)) else none
  | _, _, _ => none
def rSlAny (K : Fg) : V → Option Int → Option Int → Hp → VK → Prop := fun x lo hi H Q => rSlL K x lo hi H Q ∨ (rSlZ K x lo hi H Q ∨ rSlS x lo hi H Q)
theorem sl_any {X : Cx} : SlR X (rSlAny X.K) := sl_list.or (sl_tupZ.or sl_str)
theorem prim_sl : PrimSl K (rSlAny K) slD := by
  intro F H v d lo hi e fh hv hf Q k
  cases d with
  | lst ds =>
    cases hf
    obtain ⟨a, vs, rfl, g1, g2, g3⟩ := hv.lst fh
    refine Or.inl ⟨a, vs, rfl, Or.inl (Or.inl g1), fun p hp => ?_⟩
    have n : New F H (upd F p (.lst (cutV vs lo hi))) (upd H p (.lst (cutV vs lo hi))) := New.lay fh hp
    exact k _ _ _ n (Rep.lst_iff.mpr ⟨p, _, rfl, upd_same, Nat.le_trans cutD_len g2, (cutD_reps g3).mono n.ff⟩)
  | tup ds =>
    cases hf
    obtain ⟨a, vs, rfl, g1, g2, g3⟩ := hv.tup
    refine Or.inr (Or.inl ⟨a, vs, rfl, same_t fh g1.sq, fun e => ?_, fun _ p o hp ho => ?_⟩)
    · have : cutD ds lo hi = ds := by
        unfold cutD
        rw [← g3.len, e.1, e.2, List.drop_zero, Nat.sub_zero, g3.len, List.take_length]
      refine k F H _ (New.refl fh) ?_
      rw [this]
      exact Rep.tup_iff.mpr ⟨a, vs, rfl, g1, g2, g3⟩
    · obtain ⟨n, hr⟩ := newT (K := K) fh hp ho (Nat.le_trans cutD_len g2) (cutD_reps (lo := lo) (hi := hi) g3)
      exact k _ _ _ n hr
  | str x =>
    obtain ⟨h1, rfl⟩ := if_some (show (if x.length ≤ 1000000 then some (D.str (cutS x lo hi)) else none) = some e from hf)
    exact Or.inr (Or.inr ⟨x, hv.str, LB_size h1, k F H _ (New.refl fh) (Rep.str_iff.mpr rfl)⟩)
  | _ => cases hf
/-- a slice's part -/
def relP : Rl (Option Int) (Option Int) := fun _ _ a b => a = b
abbrev Ep (K : Fg) (W : WX) (t : TO) (m : M (Option Int)) : Prop := J K W tru t relP m
def mpNone : M (Option Int) := M.ret none
def mpSome (m : M D) : M (Option Int) := m.bind fun d => M.lift (match d with
  | .int i => some (some i)
  | _ => none)
theorem ep_none {W : WX} : Ep K W tNoPart mpNone := by
  intro C hK hW al F H σ δ S _ r hr Q hok hex
  cases hr
  exact hok _ δ rfl al F H _ (Same.refl _) S rfl
theorem ep_some {W : WX} {te : TE} {m : M D} (h : Ev K W te m) : Ep K W (tPart te) (mpSome m) := by
  refine J.bind (t2 := fun (x : V) (_ : St) (H : Hp) (Q : Option Int → Hp → Prop) => ∃ i, x = V.int i ∧ Q (some i) H) h monoT fun d v => ?_
  intro C hK hW al F H σ δ S hp r hr Q hok hex
  obtain ⟨b, h2, rfl⟩ := lift_some hr
  cases d with
  | int i =>
    cases h2
    have hv : Rep K F (.int i) v := hp.2
    exact ⟨i, Rep.int_iff.mp hv, hok _ δ rfl al F H _ (Same.refl _) S rfl⟩
  | _ => cases h2
def mSl (f : D → Option Int → Option Int → Option D) (a : M Op) (l u : M (Option Int)) : M D := a.bind fun o => l.bind fun lo => u.bind fun hi => (mRd o).bind fun d => M.lift (f d lo hi)
theorem monoPt : MonoR relP := fun _ _ _ _ _ _ h => h
theorem ev_sl {W : WX} {r : V → Option Int → Option Int → Hp → VK → Prop} {f : D → Option Int → Option Int → Option D} {te : TE} {tl th : TO} {a : M Op} {l u : M (Option Int)} (p : PrimSl K r f) (ha : Eo K W te a) (hl : Ep K W tl l) (hu : Ep K W th u) : Ev K W (tSl r te tl th) (mSl f a l u) := by
  refine J.bind (t2 := fun x σ H Q => tl σ H fun l H2 => th σ H2 fun u H3 => r x l u H3 Q) ha monoT fun o v => ?_
  refine J.bind (t2 := fun l σ H Q => th σ H fun u H3 => r v l u H3 Q) (hl.wk fun _ _ _ => trivial) (monoT.and monoO.at) fun lo lo' => ?_
  refine J.bind (t2 := fun u σ H Q => r v lo' u H Q) (hu.wk fun _ _ _ => trivial) ((monoT.and monoO.at).and monoPt.at) fun hi hi' => ?_
  intro C hK hW al F H σ δ S hp r' hr Q hok hex
  subst hK
  obtain ⟨d, h1, hr⟩ := rd_bind hr
  obtain ⟨z, h3, rfl⟩ := lift_some hr
  have e1 : lo' = lo := hp.1.2
  have e2 : hi' = hi := hp.2
  subst e1 e2
  exact p F H v d lo' hi' z S.fh (S.opd hp.1.1.2 h1) h3 Q fun F' H' u n ru => hok z δ rfl al F' H' u n.ff (S.new n) ru
/-! ### list(), tuple() -/
def listD : D → Option (List D)
  | .lst ds => some ds
  | .tup ds => some ds
  | _ => none
def tupD : D → Option D
  | .lst ds => some (.tup ds)
  | .tup ds => some (.tup ds)
  | _ => none
/-! ### all, any, abs, int, max, min of two numbers -/
def intD : D → Option D
  | .int i => some (.int i)
  | .bl b => some (.int (if b then 1 else 0))
  | _ => none
theorem prim_int : PrimA K (fun xs H Q => (∃ i, xs = [V.int i] ∧ Q (.int i) H) ∨ ∃ k, xs = [V.bl k] ∧ Q (.int (if k then 1 else 0)) H) (fA1 intD) := primA1 fun F H v d e fh hv hf Q k => by
  cases d with
  | int i =>
    cases hf
    exact Or.inl ⟨i, by rw [hv.int], k F H _ (New.refl fh) (Rep.int_iff.mpr rfl)⟩
  | bl b =>
    cases hf
    exact Or.inr ⟨b, by rw [hv.bl], k F H _ (New.refl fh) (Rep.int_iff.mpr rfl)⟩
  | _ => cases hf
/-! ### a sign in a text -/
/-! ### dicts -/
end
end DL

set_option Elab.async false
set_option linter.all false
set_option maxRecDepth 100000
set_option maxHeartbeats 400000
/-! DLh: own objects changed; objects made; fields. -/
namespace DL
open PySem L2
section
variable {K : Fg} {W : WX}
def ownL (δ : En) (i : Nat) : Option (Sl × List D) := match δ[i]? with
  | some s => match s.own with
    | some (.lst ds) => some (s, ds)
    | _ => none
  | none => none
theorem ownL_some {δ : En} {i : Nat} {s : Sl} {ds : List D} (h : ownL δ i = some (s, ds)) : δ[i]? = some s ∧ s.own = some (.lst ds) := by
  unfold ownL at h
  cases e : δ[i]? with
  | none => simp only [e] at h; cases h
  | some s' =>
    cases e2 : s'.own with
    | none => simp only [e, e2] at h; cases h
    | some d =>
      cases d with
      | lst es =>
        simp only [e, e2] at h
        cases h
        exact ⟨rfl, e2⟩
      | _ => simp only [e, e2] at h; cases h
def mMut (f : List D → List D → Option (List D × D)) (i : Nat) (a : M (List D)) : M D := fun δ => match ownL δ i with
  | none => none
  | some _ => (a.bind fun as => fun δ1 => match ownL δ1 i with
    | none => none
    | some (s, ds) => match f ds as with
      | none => none
      | some (nw, res) => some (.ok res (δ1.set i (reown s (.lst nw))))) δ
def appF : List D → List D → Option (List D × D) := fun ds as => match as with
  | [d] => if ds.length < 1000000 then some (ds ++ [d], .non) else none
  | _ => none
/-! ### x[i] = e -/
/-- the slot's value, looked at before the place is reckoned -/
def mHas (i : Nat) (m : Ms) : Ms := fun δ => match ownL δ i with
  | some _ => m δ
  | none => none
theorem es_setI {i : Nat} {te ti : TE} {ix v : M D} (hv : Ev K W te v) (hi : Ev K W ti ix) : Es K W (tAsg te (gSub (tVar i) ti rSetL)) (mS v fun d => mHas i (mS ix fun j => fun δ => match j with
    | .int n => match ownL δ i with
      | some (s, ds) => match ixN ds.length n with
        | some m => some (.nx (δ.set i (reown s (.lst (ds.set m d)))))
        | none => none
      | none => none
    | _ => none)) := by
  refine es_of (u := fun (v : V) Z σ H => gSub (tVar i) ti rSetL v σ H Z.nx) hv fun d v C hK hW al F H σ δ S rl o ho Z hZ => ?_
  unfold mHas at ho
  cases e0 : ownL δ i with
  | none => simp only [e0] at ho; cases ho
  | some p0 =>
    obtain ⟨s0, ds0⟩ := p0
    simp only [e0] at ho
    obtain ⟨h1, h2⟩ := ownL_some e0
    obtain ⟨o1, o2, o3, o4⟩ := S.ow i s0 _ h1 h2
    refine ⟨_, o1, ?_⟩
    cases e : ix δ with
    | none => unfold mS at ho; rw [e] at ho; cases ho
    | some r =>
      refine hi C hK hW al F H σ δ S trivial r e _ (fun j δ1 e1 al1 F1 H1 w s1 S1 rj => ?_) fun x δ1 e1 al1 F1 H1 cls dd s1 S1 xr => ?_
      · subst e1
        unfold mS at ho
        rw [e] at ho
        cases j with
        | int n =>
          cases e2 : ownL δ1 i with
          | none => simp only [e2] at ho; cases ho
          | some p1 =>
            obtain ⟨s, ds⟩ := p1
            cases e3 : ixN ds.length n with
            | none => simp only [e2, e3] at ho; cases ho
            | some m =>
              simp only [e2, e3] at ho
              cases ho
              subst hK
              obtain ⟨g1, g2⟩ := ownL_some e2
              obtain ⟨y1, y2, y3, vs, y4, y5, y6⟩ := S1.ow i s _ g1 g2
              have ea : al i = al1 i := by
                rw [o1] at y1
                exact V.ref.inj (Option.some.inj (Option.some.inj y1))
              have rd : Rep C.K F d v := rl
              refine ⟨al i, vs, n, m, rfl, Rep.int_iff.mp rj, by rw [ea]; exact y4, by rw [y6.len]; exact e3, ?_⟩
              rw [ea]
              refine hZ al1 F1 _ σ s1 ?_
              exact S1.poke1 g1 g2 (reown_own (s := s) (d := .lst (ds.set m d))) (fun z hz => reown_io hz) ⟨vs.set m v, upd_same, by rw [List.length_set]; exact y5, y6.set (rd.mono s1) m⟩
        | _ => cases ho
      · subst e1
        unfold mS at ho
        rw [e] at ho
        cases ho
        subst hK
        rw [← hW] at *
        exact hZ al1 F1 H1 σ cls dd s1 S1 xr
/-! ### fields -/
structure ClsOk (K : Fg) (C : Addr) (f : Str) : Prop where
  cl : Cls K C
  na : NoAttr K C f
/-- self.f = e, f new -/
def ownI (δ : En) (i : Nat) : Option (Sl × Addr × List Str × List D) := match δ[i]? with
  | some s => match s.own with
    | some (.ins C ns ds) => some (s, C, ns, ds)
    | _ => none
  | none => none
def mSetF (C : Addr) (i : Nat) (f : Str) (m : M D) : Ms := mS m fun d => fun δ => match ownI δ i with
  | some (s, C', ns, ds) => if C' = C ∧ ns.length < 100 ∧ f ∉ ns then some (.nx (δ.set i (reown s (.ins C (ns ++ [f]) (ds ++ [d]))))) else none
  | none => none
/-! ### C(..) -/
end
end DL

set_option Elab.async false
set_option linter.all false
set_option maxRecDepth 100000
set_option maxHeartbeats 400000
/-! DLi: the judgements over the text: a rule of the hand layer and what it computes, together. -/
namespace DL
open PySem L2
structure XE (X : Cx) (W : WX) (e : Expr) (t : TE) (m : M D) : Prop where
  p : PE X e t
  v : Ev X.K W t m
structure XN (X : Cx) (W : WX) (e : Expr) (t : TE) (m : M D) : Prop where
  p : PE X e t
  v : En1 X.K W t m
structure XO (X : Cx) (W : WX) (e : Expr) (t : TE) (m : M Op) : Prop where
  p : PE X e t
  v : Eo X.K W t m
structure XT (X : Cx) (W : WX) (e : Expr) (t : TT) (m : M Bool) : Prop where
  p : PT X e t
  v : Et X.K W t m
structure XW (X : Cx) (W : WX) (e : Expr) (t : TT) (m : M Bool) : Prop where
  p : PW X e t
  v : Et X.K W t m
structure XA (X : Cx) (W : WX) (es : List Expr) (t : TA) (m : M (List Op)) : Prop where
  p : PA X es t
  v : Ea X.K W t m
structure XD (X : Cx) (W : WX) (es : List Expr) (t : TA) (m : M (List D)) : Prop where
  p : PA X es t
  v : Eds X.K W t m
structure XP (X : Cx) (W : WX) (e : Option Expr) (t : TO) (m : M (Option Int)) : Prop where
  p : PO X e t
  v : Ep X.K W t m
structure XG (X : Cx) (b : Bool) (e : Expr) (t : TG) (m : Mg) (vs : List Nat) : Prop where
  p : PG X e t
  v : Eg X.K b t m
  w : Gw t vs
  n : Gm t
structure XGs (X : Cx) (es : List Expr) (t : TGs) (m : List D → En → Option En) (n : Nat) (vs : List Nat) : Prop where
  p : PGs X es t
  v : Egs X.K t m
  l : GsN m n
  w : Gws t vs
  k : Gms t
structure XI (X : Cx) (W : WX) (b : Bool) (tg e : Expr) (t : TI) (m : M (List D)) : Prop where
  p : PI X tg e t
  v : Ei X.K W b t m
structure XTs (X : Cx) (W : WX) (es : List Expr) (t : TT) (m : M Bool) : Prop where
  p : PTs X es t
  v : Et X.K W t m
structure XS (X : Cx) (W : WX) (s : Stmt) (t : TS) (m : Ms) : Prop where
  p : PS X s t
  v : Es X.K W t m
structure XB (X : Cx) (W : WX) (s : List Stmt) (t : TS) (m : Ms) : Prop where
  p : PSs X s t
  v : Es X.K W t m
section
variable {X : Cx} {W : WX} {a b c e o : Expr} {es : List Expr} {ta tb tc te to : TE} {pos p2 : Pos} {ma mb mc me : M D} {oa ob oc : M Op}
/-! values -/
theorem x_var (i : Nat) {x : Str} (hN : X.N[i]? = some x := by rfl) (hv : Vis X.env.scope x := by first | exact Or.inl rfl | exact Or.inr (Or.inl rfl) | exact Or.inr (Or.inr rfl)) (hd : (x == ("__debug__" : Str)) = false := by decide)
    (hcd : (x == ("__classdict__" : Str)) = false := by decide) : XE X W (.Name x pos) (tVar i) (mVar i) := ⟨pe_var hN hv hd hcd, ev_var⟩
theorem o_var (i : Nat) {x : Str} (hN : X.N[i]? = some x := by rfl) (hv : Vis X.env.scope x := by first | exact Or.inl rfl | exact Or.inr (Or.inl rfl) | exact Or.inr (Or.inr rfl)) (hd : (x == ("__debug__" : Str)) = false := by decide)
    (hcd : (x == ("__classdict__" : Str)) = false := by decide) : XO X W (.Name x pos) (tVar i) (mOv i) := ⟨pe_var hN hv hd hcd, eo_var⟩
theorem o_e (h : XE X W e te me) : XO X W e te (mVal me) := ⟨h.p, eo_val h.v⟩
theorem x_n (h : XN X W e te me) : XE X W e te me := ⟨h.p, Jn.frz h.v⟩
theorem x_int {i : Int} {j : Nat} : XE X W (.Constant (.int i) j pos) (tC (.int i)) (mC (.int i)) := ⟨pe_int, ev_c fun F => Rep.int_iff.mpr rfl⟩
theorem x_bl {i : Bool} {j : Nat} : XE X W (.Constant (.bool i) j pos) (tC (.bl i)) (mC (.bl i)) := ⟨pe_bl, ev_c fun F => Rep.bl_iff.mpr rfl⟩
theorem x_non {j : Nat} : XE X W (.Constant .none j pos) (tC .non) (mC .non) := ⟨pe_non, ev_c fun F => Rep.non_iff.mpr rfl⟩
theorem x_str {x : Str} {j : Nat} : XE X W (.Constant (.str x) j pos) (tC (.str x)) (mC (.str x)) := ⟨pe_str, ev_c fun F => Rep.str_iff.mpr rfl⟩
/-! operators -/
theorem x_add {K : Fg} (ha : XO X W a ta oa) (hb : XO X W b tb ob) (hK : X.K = K := by rfl) : XE X W (.BinOp a .Add b pos) (tOp (rAddA K) ta tb) (m2 addD oa ob) := by
  subst hK
  exact ⟨pe_op op_addA ha.p hb.p, ev_2 prim_add ha.v hb.v⟩
theorem x_mul (ha : XO X W a ta oa) (hb : XO X W b tb ob) : XE X W (.BinOp a .Mult b pos) (tOp (rI CMul fun i j => .int (i * j)) ta tb) (m2 (fI mulOk fun i j => .int (i * j)) oa ob) := ⟨pe_op op_mul ha.p hb.p, ev_2 prim_mul ha.v hb.v⟩
theorem x_div (ha : XO X W a ta oa) (hb : XO X W b tb ob) : XE X W (.BinOp a .FloorDiv b pos) (tOp (rI CDiv fun i j => .int (i / j)) ta tb) (m2 (fI divOk fun i j => .int (i / j)) oa ob) := ⟨pe_op op_fdiv ha.p hb.p, ev_2 prim_div ha.v hb.v⟩
theorem x_mod (ha : XO X W a ta oa) (hb : XO X W b tb ob) : XE X W (.BinOp a .Mod b pos) (tOp (rI (fun _ j => 0 < j) fun i j => .int (i % j)) ta tb) (m2 (fI modOk fun i j => .int (i % j)) oa ob) := ⟨pe_op op_mod ha.p hb.p, ev_2 prim_mod ha.v hb.v⟩
theorem x_pow (ha : XO X W a ta oa) (hb : XO X W b tb ob) : XE X W (.BinOp a .Pow b pos) (tOp (rI CPow fun i j => .int (i ^ j.toNat)) ta tb) (m2 (fI powOk fun i j => .int (i ^ j.toNat)) oa ob) := ⟨pe_op op_pow ha.p hb.p, ev_2 prim_pow ha.v hb.v⟩
theorem x_ge (ha : XO X W a ta oa) (hb : XO X W b tb ob) : XE X W (.Compare a [.GtE] [b] pos) (tOp (rI0 fun i j => .bl (decide (j ≤ i))) ta tb) (m2 (fI0 fun i j => .bl (decide (j ≤ i))) oa ob) := ⟨pe_cmpR op_ge ha.p hb.p (nomark _), ev_2 prim_geI ha.v hb.v⟩
theorem x_eq {K : Fg} {k : Nat} (hr : Room k X.A) (ha : XO X W a ta oa) (hb : XO X W b tb ob) (hK : X.K = K := by rfl) : XE X W (.Compare a [.Eq] [b] pos) (tOp (rEqD K) ta tb) (m2 eqD oa ob) := by
  subst hK
  exact ⟨pe_cmpR (op_eqD hr.units) ha.p hb.p (nomark _), ev_2 prim_eq ha.v hb.v⟩
/-! truths -/
theorem t_val (ha : XE X W a ta ma) (he : ∀ whole, isTrue a X.env whole = (do let v ← whole; standAt a.pos; holding [v] (truthy v)) := by intro _; rfl) : XT X W a (tB ta) (mTest ma) := ⟨pt_val ha.p he, et_B ha.v⟩
theorem t_not {t : TT} {m : M Bool} (ha : XT X W a t m) : XT X W (.UnaryOp .Not a pos) (tNot t) (mNot m) := ⟨pt_not ha.p, et_not ha.v⟩
theorem t_w {t : TT} {m : M Bool} (h : XW X W a t m) : XT X W a t m := ⟨h.p.pt, h.v⟩
theorem w_or {t u : TT} {m n : M Bool} {rest : List Expr} (ha : XT X W a t m) (hb : XW X W (.BoolOp .Or (b :: rest) pos) u n) : XW X W (.BoolOp .Or (a :: b :: rest) pos) (tOr t u) (mOr m n) := ⟨pw_or ha.p hb.p, et_or ha.v hb.v⟩
theorem w_or1 {t : TT} {m : M Bool} (ha : XT X W a t m) : XW X W (.BoolOp .Or [a] pos) t m := ⟨pw_or1 ha.p, ha.v⟩
/-! items, slices -/
theorem x_ix {K : Fg} (ha : XO X W a ta oa) (hb : XO X W b tb ob) (hs : PlainIx b := by exact fun _ _ => rfl) (hK : X.K = K := by rfl) : XE X W (.Subscript a b pos) (tOp (rIx K) ta tb) (m2 ixD oa ob) := by
  subst hK
  exact ⟨pe_ix ix_seq ha.p hb.p hs, ev_2 prim_ix ha.v hb.v⟩
theorem p_none : XP X W none tNoPart mpNone := ⟨po_none, ep_none⟩
theorem p_some (h : XE X W e te me) : XP X W (some e) (tPart te) (mpSome me) := ⟨po_some h.p, ep_some h.v⟩
theorem x_sl {K : Fg} {lo hi : Option Expr} {tl th : TO} {l u : M (Option Int)} (ha : XO X W a ta oa) (hl : XP X W lo tl l) (hu : XP X W hi th u) (hK : X.K = K := by rfl) : XE X W (.Subscript a (.Slice lo hi none p2) pos) (tSl (rSlAny K) ta tl th) (mSl slD oa l u) := by
  subst hK
  exact ⟨pe_slice sl_any ha.p hl.p hu.p, ev_sl prim_sl ha.v hl.v hu.v⟩
/-! arguments, displays -/
theorem a_nil : XA X W [] tNil maNil := ⟨pa_nil, ea_nil⟩
theorem a_cons {tr : TA} {m : M (List Op)} (ha : XO X W e te oa) (hr : XA X W es tr m) (hs : starEach (e :: es) X.env = (false, eval e X.env) :: starEach es X.env := by rfl) : XA X W (e :: es) (tCons te tr) (maCons oa m) := ⟨pa_cons ha.p hr.p hs, ea_cons ha.v hr.v⟩
theorem d_nil : XD X W [] tNil mdNil := ⟨pa_nil, ed_nil⟩
theorem d_cons {tr : TA} {m : M (List D)} (ha : XE X W e te me) (hr : XD X W es tr m) (hs : starEach (e :: es) X.env = (false, eval e X.env) :: starEach es X.env := by rfl) : XD X W (e :: es) (tCons te tr) (mdCons me m) := ⟨pa_cons ha.p hr.p hs, ed_cons ha.v hr.v⟩
theorem n_lst {t : TA} {m : M (List D)} (h : XD X W es t m) : XN X W (.List es pos) (tLst t) (mLst m) := ⟨pe_lst h.p, en_lst h.v⟩
/-! built-ins -/
theorem x_cb {x : Str} {id : String} {r : List V → Hp → VK → Prop} {f : List D → Option D} {t : TA} {m : M (List Op)} (cr : CallR X (.builtin id) r) (pr : PrimA X.K r f) (hv : bootBuiltins x = some (.builtin id)) (hm : X.mg x = none) (h : XA X W (e :: es) t m) (hg : Gl X x := by rfl) (hn : x ≠ "__name__" := by decide) (hdb : (x == ("__debug__" : Str)) = false := by decide)
    (hs : starEach (e :: es) X.env = (false, eval e X.env) :: starEach es X.env := by rfl) (hpl : (backTo pos (starEach es X.env)).any (·.1) = false := by rfl) : XE X W (.Call (.Name x p2) (e :: es) [] pos) (tCB r t) (mA f m) := ⟨pe_callB cr hg hm hv h.p hn hdb hs hpl, ev_A pr h.v⟩
theorem x_ct {x : Str} {T : String} {r : List V → Hp → VK → Prop} {f : List D → Option D} {t : TA} {m : M (List Op)} (cr : CallR X (.type T) r) (pr : PrimA X.K r f) (hv : bootBuiltins x = some (.type T)) (hm : X.mg x = none) (h : XA X W (e :: es) t m) (hg : Gl X x := by rfl) (hn : x ≠ "__name__" := by decide) (hdb : (x == ("__debug__" : Str)) = false := by decide)
    (hs : starEach (e :: es) X.env = (false, eval e X.env) :: starEach es X.env := by rfl) (hpl : (backTo pos (starEach es X.env)).any (·.1) = false := by rfl) : XE X W (.Call (.Name x p2) (e :: es) [] pos) (tCB r t) (mA f m) := ⟨pe_callTy cr hg hm hv h.p hn hdb hs hpl, ev_A pr h.v⟩
/-! calls of defs -/
theorem x_call {K : Fg} {x : Str} {f : Addr} {fd : FuncData} {ps : List Str} {k j : Nat} {ks : List PK} {F : List D → Option (R D)} {t : TA} {m : M (List Op)} (hN : NoEx F) (G : FnOk X.prog X.w X.K X.mg X.base CX0 k f fd ps (SpD X.K ks F)) (hr : Room j X.A) (hkj : k ≤ j) (hm : X.mg x = some (.ref f)) (hk : PySem.W.keepIn X.K (.ref f) = true) (hb : Binds X.K fd ps []) (h : XA X W (e :: es) t m) (hg : Gl X x := by rfl)
    (hdb : (x == ("__debug__" : Str)) = false := by decide) (hs : starEach (e :: es) X.env = (false, eval e X.env) :: starEach es X.env := by rfl) (hpl : (backTo pos (starEach es X.env)).any (·.1) = false := by rfl) (hK : X.K = K := by rfl) :
    XE X W (.Call (.Name x p2) (e :: es) [] pos) (tCall (SpD K ks F) [] E0 t) (mCall ks F m) := by
  subst hK
  exact ⟨pe_call G (hr.mono hkj) hg hm hk hb .nil pass0 h.p hdb hs hpl, ev_call h.v (Or.inr hN)⟩
theorem x_callS {K : Fg} {x : Str} {f : Addr} {fd : FuncData} {ps : List Str} {k j i : Nat} {ks : List PK} {F : List D → Option (R D)} {t : TA} {m : M (List Op)} (hN : NoEx F) (G : FnOk X.prog X.w X.K X.mg X.base CX0 k f fd ps (SpD X.K (.io :: ks) F)) (hr : Room j X.A) (hkj : k ≤ j) (hm : X.mg x = some (.ref f)) (hk : PySem.W.keepIn X.K (.ref f) = true) (hb : Binds X.K fd ps []) (hp : PE X e (tVar i)) (h : XA X W es t m) (hg : Gl X x := by rfl)
    (hdb : (x == ("__debug__" : Str)) = false := by decide) (hs : starEach (e :: es) X.env = (false, eval e X.env) :: starEach es X.env := by rfl) (hpl : (backTo pos (starEach es X.env)).any (·.1) = false := by rfl) (hK : X.K = K := by rfl) :
    XE X W (.Call (.Name x p2) (e :: es) [] pos) (tCall (SpD K (.io :: ks) F) [] E0 (tCons (tVar i) t)) (mCallS i ks F m) := by
  subst hK
  exact ⟨pe_call G (hr.mono hkj) hg hm hk hb .nil pass0 (pa_cons hp h.p hs) hdb hs hpl, ev_callS h.v (Or.inr hN)⟩
/-! fields, methods of lists of one's own -/
/-! statements -/
variable {st : Stmt} {rest : List Stmt} {t u : TS} {m n : Ms}
theorem b_nil : XB X W [] tNext mNext := ⟨pss_nil, es_next⟩
theorem b_cons (h1 : XS X W st t m) (h2 : XB X W rest u n) : XB X W (st :: rest) (tSeq t u) (mSeq m n) := ⟨pss_cons h1.p h2.p, es_seq h1.v h2.v⟩
theorem b_one (h1 : XS X W st t m) : XB X W [st] t m := ⟨pss_one h1.p, h1.v⟩
theorem s_ret (h : XE X W e te me) : XS X W (.Return (some e) pos) (tRet te) (mRet me) := ⟨ps_ret h.p, es_ret h.v⟩
theorem s_if {tc : TT} {mc : M Bool} {xs ys : List Stmt} (hc : XT X W c tc mc) (ha : XB X W xs t m) (hb : XB X W ys u n) : XS X W (.If c xs ys pos) (tIfS tc t u) (mIf mc m n) := ⟨ps_if hc.p ha.p hb.p, es_if hc.v ha.v hb.v⟩
theorem s_set (i : Nat) {x : Str} {pos' : Pos} (h : XE X W e te me) (hN : X.N.Nodup) (hi : X.N[i]? = some x := by rfl) (hx : Loc X.env.scope x := by first | exact Or.inl rfl | exact Or.inr rfl) (hs : swapsWith e (some (.Name x pos')) pos.line X.env = pure false := by rfl) (hf : X.fn x = true ∨ X.env.scope.names.lookup x = some .local := by first | exact .inl rfl | exact .inr rfl) :
    XS X W (.Assign [.Name x pos'] e pos) (tAsg te (gName i)) (mAsg (gN i) me) := ⟨ps_set hN hi hx h.p hs hf, es_asg h.v eg_name⟩
theorem s_setO (i : Nat) {x : Str} {pos' : Pos} (h : XN X W e te me) (hN : X.N.Nodup) (hi : X.N[i]? = some x := by rfl) (hx : Loc X.env.scope x := by first | exact Or.inl rfl | exact Or.inr rfl) (hs : swapsWith e (some (.Name x pos')) pos.line X.env = pure false := by rfl) (hf : X.fn x = true ∨ X.env.scope.names.lookup x = some .local := by first | exact .inl rfl | exact .inr rfl) :
    XS X W (.Assign [.Name x pos'] e pos) (tAsg te (gName i)) (mAsgO i me) := ⟨ps_set hN hi hx h.p hs hf, es_asgO h.v⟩
theorem g_name (i : Nat) {x : Str} {vs : List Nat} (hN : X.N.Nodup) (hv : i ∈ vs := by decide) (hi : X.N[i]? = some x := by rfl) (hx : Loc X.env.scope x := by first | exact Or.inl rfl | exact Or.inr rfl) (hf : X.fn x = true ∨ X.env.scope.names.lookup x = some .local := by first | exact .inl rfl | exact .inr rfl) : XG X false (.Name x pos) (gName i) (gN i) vs := ⟨pg_name hN hi hx hf, eg_name, gw_name hv, gm_name⟩
theorem gs_nil {vs : List Nat} : XGs X [] gNil gs0 0 vs := ⟨pgs_nil, egs_nil, gsn0, gw_nil, gm_nil⟩
theorem gs_cons {t : TG} {u : TGs} {a : Mg} {b : List D → En → Option En} {n : Nat} {vs : List Nat} (h1 : XG X false e t a vs) (h2 : XGs X es u b n vs) (hs : (assignEach (e :: es) X.env).map (·.2) = assign e X.env :: (assignEach es X.env).map (·.2) := by rfl) : XGs X (e :: es) (gCons t u) (gsC a b) (n + 1) vs := ⟨pgs_cons h1.p h2.p hs, egs_cons h1.v h2.v, gsnC h2.l, gw_cons h1.n h1.w h2.k h2.w, gm_cons h1.n h2.k⟩
theorem g_tup {K : Fg} {q : Bool} {t : TGs} {b : List D → En → Option En} {n k : Nat} {vs : List Nat} (hc : X.calm = true) (h : XGs X es t b n vs) (hn : (assignEach es X.env).length = n := by rfl) (hst : (assignEach es X.env).findIdx? (·.1) = none := by rfl) (hK : X.K = K := by rfl) : XG X q (.Tuple es k pos) (gTup K n t) (gT b) vs := by
  subst hK
  exact ⟨pg_tup hc h.p hn hst, eg_tup h.v h.l, gw_tup h.w, gm_tup h.k⟩
/-! loops -/
variable {tg : Expr}
theorem i_list {K : Fg} (h : XE X W e te me) (hK : X.K = K := by rfl) : XI X W false tg e (iList K te) (mSeqOf me) := by
  subst hK
  exact ⟨pi_list h.p, ei_list h.v⟩
theorem i_range1 {t : TA} {m : M (List D)} (hm : X.mg "range" = none) (h : XD X W [a] t m) (hg : Gl X "range" := by rfl) (hs : starEach [a] X.env = [(false, eval a X.env)] := by rfl) : XI X W false tg (.Call (.Name "range" p2) [a] [] pos) (iRng1 t) (mIt rg1 m) := ⟨pi_range1 hg hm h.p hs, ei_range1 h.v⟩
theorem s_for {q : Bool} {wi : TI} {g : TG} {a : Mg} {vs : List Nat} {it : M (List D)} {body : List Stmt} (hp : PassesOwn (model X.prog X.w) X.A X.env X.xe) (hc : X.calm = true) (hi : XI X W q tg e wi it) (hg : XG X q tg g a vs) (hb : XB X W body t m) (hs : ∀ x, foldedSetIterable e X.env x = pure x := by intro _; rfl) : XS X W (.For tg e body [] pos) (tFor wi g t) (mFor it a m) := ⟨ps_for hp hc hi.p hg.p hb.p hs, es_for hi.v hg.v hb.v⟩
theorem s_setI {i : Nat} {ix : Expr} {ti : TE} {mi : M D} {tpos : Pos} (ho : PE X o (tVar i)) (hi : XE X W ix ti mi) (h : XE X W e te me) (ha : ∀ v, assign (.Subscript o ix tpos) X.env v = (do
      let ov ← holding [v] (eval o X.env)
      let iv ← holding [v, ov] (eval ix X.env)
      standAt tpos
      holding [v, ov, iv] (setItem ov iv v)
      release [v, ov, iv] []) := by intro _; rfl) (hs : swapsWithSole [.Subscript o ix tpos] e pos.line X.env = pure false := by rfl) (hw : swappedStores [.Subscript o ix tpos] e X.env = pure none := by rfl) (h1 : (assignEach [.Subscript o ix tpos] X.env).map (·.2) = [assign (.Subscript o ix tpos) X.env] := by rfl) :
    XS X W (.Assign [.Subscript o ix tpos] e pos) (tAsg te (gSub (tVar i) ti rSetL)) (mS me fun d => mHas i (mS mi fun j => fun δ => match j with
      | .int n => match ownL δ i with
        | some (s, ds) => match ixN ds.length n with
          | some m => some (.nx (δ.set i (reown s (.lst (ds.set m d)))))
          | none => none
        | none => none
      | _ => none)) := ⟨ps_asg h.p (pg_sub ho hi.p set_list ha) hs hw h1, es_setI h.v hi.v⟩
/-! comprehensions -/
theorem ts_nil : XTs X W [] tYes mYes := ⟨pts_nil, et_yes⟩
section
variable {q : Bool} {elt iter : Expr} {ifs : List Expr} {scope : Scope} {own : List (Str × Nat)} {wi : TI} {g : TG} {tt : TT} {it : M (List D)} {ga : Mg} {mt : M Bool}
theorem n_lc (hc : X.calm = true) (hN : X.N.Nodup) (hi : XI X W q tg iter wi it) (ok : BlkOk X.N X.env.scope scope own)
    (hg : ∀ (s : Shared) (H : Hp) (C : Addr) (cl : List (Str × Addr)) (fp : List Addr), XG (X.blk s H scope (PySem.compEnvC scope cl C X.env) fp) q tg g ga (own.map (·.2))) (ht : ∀ (s : Shared) (H : Hp) (C : Addr) (cl : List (Str × Addr)) (fp : List Addr), XTs (X.blk s H scope (PySem.compEnvC scope cl C X.env) fp) W ifs tt mt)
    (he : ∀ (s : Shared) (H : Hp) (C : Addr) (cl : List (Str × Addr)) (fp : List Addr), XE (X.blk s H scope (PySem.compEnvC scope cl C X.env) fp) W elt te me) (hs : ∀ x, foldedSetIterable iter X.env x = pure x := by intro _; rfl) :
    XN X W (.ListComp elt [⟨tg, iter, ifs, 0⟩] scope pos) (tLc wi g tt te (own.map (·.2))) (mLc it ga mt me (own.map (·.2))) :=
  ⟨pe_lc hc hN hi.p ok (fun s H C cl fp => (hg s H C cl fp).p) (fun s H C cl fp => (ht s H C cl fp).p) (fun s H C cl fp => (he s H C cl fp).p) hs,
    en_lc hi.v (hg X.s_0 X.H_0 0 [] []).v (hg X.s_0 X.H_0 0 [] []).w (hg X.s_0 X.H_0 0 [] []).n (ht X.s_0 X.H_0 0 [] []).v (he X.s_0 X.H_0 0 [] []).v⟩
end
end
end DL

set_option Elab.async false
set_option linter.all false
set_option maxRecDepth 100000
set_option maxHeartbeats 400000
/-! DLj: defs as plain functions of their arguments. -/
namespace DL
open PySem L2
theorem StOk.take {C : Cn} {al : Nat → Addr} {F H : Hp} {σ : St} {δ : En} (S : StOk C al F H σ δ) (n : Nat) : StOk C al F H (σ.take n) (δ.take n) := by
  have gE : ∀ (j : Nat) s, (δ.take n)[j]? = some s → j < n ∧ δ[j]? = some s := fun j s q => by
    rw [List.getElem?_take] at q
    by_cases z : j < n
    · rw [if_pos z] at q; exact ⟨z, q⟩
    · rw [if_neg z] at q; cases q
  have gS : ∀ (j : Nat), j < n → (σ.take n)[j]? = σ[j]? := fun j z => by rw [List.getElem?_take, if_pos z]
  refine ⟨S.fh, S.ph, S.bp, S.f0, S.fp, by rw [List.length_take, List.length_take, S.len], fun j e q => ?_, fun j e q => ?_, fun j s e q r => ?_, fun j e q => ?_, fun j k s t e f q1 q2 r1 r2 r3 => ?_, fun j ns q => ?_, fun j ds q => ?_, S.qp⟩
  · obtain ⟨z, q⟩ := gE j _ q; rw [gS j z]; exact S.fr j e q
  · obtain ⟨z, q⟩ := gE j _ q; rw [gS j z]; exact S.bo j e q
  · obtain ⟨z, q⟩ := gE j _ q; rw [gS j z]; exact S.ow j s e q r
  · obtain ⟨z, q⟩ := gE j _ q; exact S.io j e q
  · obtain ⟨z, q1⟩ := gE j _ q1; obtain ⟨z2, q2⟩ := gE k _ q2; exact S.inj j k s t e f q1 q2 r1 r2 r3
  · obtain ⟨z, q⟩ := gE j _ q; rw [gS j z]; exact S.sc j ns q
  · obtain ⟨z, q⟩ := gE j _ q; rw [gS j z]; exact S.b2 j ds q
/-- the promise of a def that changes nothing -/
abbrev pF (g : List D → Option D) : List D → Option (R D) := fun ds => (g ds).map fun d => R.ok d []
abbrev SpP (K : Fg) (ks : List PK) (g : List D → Option D) : Sp := SpD K ks (pF g)
/-- .. that changes its first argument alone -/
abbrev iF (g : List D → Option (D × D)) : List D → Option (R D) := fun ds => (g ds).map fun p => R.ok p.1 [.io p.2]
abbrev SpI (K : Fg) (ks : List PK) (g : List D → Option (D × D)) : Sp := SpD K (.io :: ks) (iF g)
def defG (n : Nat) (ks : List PK) (m : Ms) : List D → Option D := fun ds => match m (startE n (entry ks ds)) with
  | some (.rt d _) => some d
  | some (.nx _) => some .non
  | _ => none
def io0 (δ : En) : Option D := match δ[(0 : Nat)]? with
  | some (Sl.io e) => some e
  | _ => none
def defI (n : Nat) (ks : List PK) (m : Ms) : List D → Option (D × D) := fun ds => match m (startE n (entry (.io :: ks) ds)) with
  | some (.rt d δ) => (io0 δ).map fun e => (d, e)
  | some (.nx δ) => (io0 δ).map fun e => (.non, e)
  | _ => none
section
variable {P : Program} {w : World} {K : Fg} {mg : Str → Option Value} {base : Heap}
theorem fn_g {x qual : Str} {st : Stmt} {f : Addr} {fd : FuncData} {N ps : List Str} {k : Nat} {ks : List PK} {m : Ms} (F : Fun K x qual st f fd) (S : FnScope N ps (defScope st)) (hks : ks.length = ps.length)
    (hb : ∀ (cdv : Value) (A : Around) (outer : List Env) (s : Shared) (H : Hp) (E : XK), Room k (A.deeper (PyProof.Rows.envOfC qual (defScope st) s.heap.objs.size f cdv)) → ∃ t, XB (cxOf CX0 P w K mg base N qual (defScope st) f cdv A outer s H E).nox W0 (defBody st) t m) :
    FnOk P w K mg base CX0 (k + 1) f fd ps (SpP K ks (defG N.length ks m)) := by
  refine F.ok S (fun vs H Q E h => ?_) (fun cdv A outer s H vs Q E hr h => ?_)
  · obtain ⟨C, al, ds, r, _, h1, _⟩ := h
    rw [h1, hks]
  · obtain ⟨t, B⟩ := hb cdv A outer s H E hr
    refine ⟨t, B.p, ?_⟩
    obtain ⟨C, al, ds, r, hK, h1, h2, S0, hf, hok, _⟩ := h
    subst hK
    have S1 := (S0.wish W0 (short_entry _ _)).begin (N := N)
    have hf : (defG N.length ks m ds).map (fun d => R.ok d []) = some r := hf
    unfold defG at hf
    cases e : m (startE N.length (entry ks ds)) with
    | none => rw [e] at hf; cases hf
    | some o =>
      refine B.v { C with W := W0 } rfl rfl al C.F0 H _ _ S1 o e _ ?_
      rw [e] at hf
      cases o with
      | nx δ => cases hf; exact fun al' F' H' σ' s' S' => hok _ _ rfl al' F' H' _ .non s' ((S'.take 0).unwish short_nil) (Rep.non_iff.mpr rfl)
      | rt d δ => cases hf; exact fun al' F' H' σ' v s' S' rv => hok d _ rfl al' F' H' _ v s' ((S'.take 0).unwish short_nil) rv
      | rn d δ => cases hf
      | bk δ => cases hf
      | ct δ => cases hf
      | ex x δ => cases hf
theorem io0_some {δ : En} {e : D} (h : io0 δ = some e) : δ.take 1 = [.io e] := by
  unfold io0 at h
  cases δ with
  | nil => cases h
  | cons s r =>
    cases s with
    | io d => cases h; rfl
    | _ => cases h
theorem fn_i {x qual : Str} {st : Stmt} {f : Addr} {fd : FuncData} {N ps : List Str} {k : Nat} {ks : List PK} {m : Ms} (F : Fun K x qual st f fd) (S : FnScope N ps (defScope st)) (hks : ks.length + 1 = ps.length)
    (hb : ∀ (cdv : Value) (A : Around) (outer : List Env) (s : Shared) (H : Hp) (E : XK), Room k (A.deeper (PyProof.Rows.envOfC qual (defScope st) s.heap.objs.size f cdv)) → ∃ t, XB (cxOf CX0 P w K mg base N qual (defScope st) f cdv A outer s H E).nox W0 (defBody st) t m) :
    FnOk P w K mg base CX0 (k + 1) f fd ps (SpI K ks (defI N.length ks m)) := by
  refine F.ok S (fun vs H Q E h => ?_) (fun cdv A outer s H vs Q E hr h => ?_)
  · obtain ⟨C, al, ds, r, _, h1, _⟩ := h
    rw [h1, ← hks]
    rfl
  · obtain ⟨t, B⟩ := hb cdv A outer s H E hr
    refine ⟨t, B.p, ?_⟩
    obtain ⟨C, al, ds, r, hK, h1, h2, S0, hf, hok, _⟩ := h
    subst hK
    have S1 := (S0.wish W0 (short_entry _ _)).begin (N := N)
    have hf : (defI N.length ks m ds).map (fun p => R.ok p.1 [.io p.2]) = some r := hf
    unfold defI at hf
    cases e : m (startE N.length (entry (.io :: ks) ds)) with
    | none => rw [e] at hf; cases hf
    | some o =>
      refine B.v { C with W := W0 } rfl rfl al C.F0 H _ _ S1 o e _ ?_
      rw [e] at hf
      cases o with
      | nx δ =>
        cases e2 : io0 δ with
        | none => simp only [e2] at hf; cases hf
        | some c =>
          simp only [e2] at hf
          cases hf
          exact fun al' F' H' σ' s' S' => hok _ _ rfl al' F' H' _ .non s' (by have S3 := S'.take 1; rw [io0_some e2] at S3; exact S3.unwish short_io) (Rep.non_iff.mpr rfl)
      | rt d δ =>
        cases e2 : io0 δ with
        | none => simp only [e2] at hf; cases hf
        | some c =>
          simp only [e2] at hf
          cases hf
          exact fun al' F' H' σ' v s' S' rv => hok d _ rfl al' F' H' _ v s' (by have S3 := S'.take 1; rw [io0_some e2] at S3; exact S3.unwish short_io) rv
      | rn d δ => cases hf
      | bk δ => cases hf
      | ct δ => cases hf
      | ex x δ => cases hf
end
/-! calls, said by the plain functions -/
def mCallP (ks : List PK) (g : List D → Option D) (a : M (List Op)) : M D := a.bind fun os => (mRds os).bind fun ds => fun δ => if frOk ks os then (match g ds with
  | some d => some (.ok d δ)
  | none => none) else none
theorem mCallP_eq (ks : List PK) (g : List D → Option D) (a : M (List Op)) : mCall ks (pF g) a = mCallP ks g a := by
  unfold mCall mCallP pF
  congr 1
  funext os
  congr 1
  funext ds δ
  cases g ds <;> rfl
def mCallI (i : Nat) (ks : List PK) (g : List D → Option (D × D)) (a : M (List Op)) : M D := fun δ => match δ[i]? with
  | some s => match s.own with
    | some _ => (a.bind fun os => (mRds os).bind fun ds => fun δ1 => match δ1[i]? with
      | some s1 => match s1.own with
        | some c => if frOk ks os && apart i os then (match g (c :: ds) with
          | some p => some (.ok p.1 (δ1.set i (reown s1 p.2)))
          | none => none) else none
        | none => none
      | none => none) δ
    | none => none
  | none => none
theorem mCallI_eq (i : Nat) (ks : List PK) (g : List D → Option (D × D)) (a : M (List Op)) : mCallS i ks (iF g) a = mCallI i ks g a := by
  unfold mCallS mCallI mCallS1 iF ioOut
  funext δ
  cases δ[i]? with
  | none => rfl
  | some s =>
    cases h0 : s.own with
    | none => simp only [h0]
    | some c0 =>
      simp only [h0]
      congr 1
      congr 1
      funext os
      congr 1
      funext ds δ1
      cases δ1[i]? with
      | none => rfl
      | some s1 =>
        cases h1 : s1.own with
        | none => simp only [h1]
        | some c => simp only [h1]; cases g (c :: ds) <;> rfl
def mMakeP (C : Addr) (ks : List PK) (g : List D → Option (D × D)) (a : M (List Op)) : M D := a.bind fun os => (mRds os).bind fun ds => fun δ => if frOk ks os then (match g (.ins C [] [] :: ds) with
  | some (.non, .ins C' ns es) => some (.ok (.ins C' ns es) δ)
  | _ => none) else none
theorem noex_pF {g : List D → Option D} : NoEx (pF g) := fun ds x δ h => by
  have h : (g ds).map (fun d => R.ok d []) = some (.ex x δ) := h
  cases e : g ds with
  | none => rw [e] at h; cases h
  | some d => rw [e] at h; cases h
theorem noex_iF {g : List D → Option (D × D)} : NoEx (iF g) := fun ds x δ h => by
  have h : (g ds).map (fun p => R.ok p.1 [.io p.2]) = some (.ex x δ) := h
  cases e : g ds with
  | none => rw [e] at h; cases h
  | some d => rw [e] at h; cases h
section
variable {X : Cx} {W : WX} {e : Expr} {es : List Expr} {pos p2 : Pos}
theorem x_cp {x : Str} {f : Addr} {fd : FuncData} {ps : List Str} {k j : Nat} {ks : List PK} {g : List D → Option D} {t : TA} {m : M (List Op)} (G : FnOk X.prog X.w X.K X.mg X.base CX0 k f fd ps (SpP X.K ks g)) (hr : Room j X.A) (hkj : k ≤ j) (hm : X.mg x = some (.ref f)) (hk : PySem.W.keepIn X.K (.ref f) = true) (hb : Binds X.K fd ps []) (h : XA X W (e :: es) t m) (hg : Gl X x := by rfl)
    (hdb : (x == ("__debug__" : Str)) = false := by decide) (hs : starEach (e :: es) X.env = (false, eval e X.env) :: starEach es X.env := by rfl) (hpl : (backTo pos (starEach es X.env)).any (·.1) = false := by rfl) :
    XE X W (.Call (.Name x p2) (e :: es) [] pos) (tCall (SpP X.K ks g) [] E0 t) (mCallP ks g m) := by
  rw [← mCallP_eq]
  exact x_call noex_pF G hr hkj hm hk hb h hg hdb hs hpl
theorem x_ci {x : Str} {f : Addr} {fd : FuncData} {ps : List Str} {k j i : Nat} {ks : List PK} {g : List D → Option (D × D)} {t : TA} {m : M (List Op)} (G : FnOk X.prog X.w X.K X.mg X.base CX0 k f fd ps (SpI X.K ks g)) (hr : Room j X.A) (hkj : k ≤ j) (hm : X.mg x = some (.ref f)) (hk : PySem.W.keepIn X.K (.ref f) = true) (hb : Binds X.K fd ps []) (hp : PE X e (tVar i)) (h : XA X W es t m) (hg : Gl X x := by rfl)
    (hdb : (x == ("__debug__" : Str)) = false := by decide) (hs : starEach (e :: es) X.env = (false, eval e X.env) :: starEach es X.env := by rfl) (hpl : (backTo pos (starEach es X.env)).any (·.1) = false := by rfl) :
    XE X W (.Call (.Name x p2) (e :: es) [] pos) (tCall (SpI X.K ks g) [] E0 (tCons (tVar i) t)) (mCallI i ks g m) := by
  rw [← mCallI_eq]
  exact x_callS noex_iF G hr hkj hm hk hb hp h hg hdb hs hpl
end
end DL

set_option Elab.async false
set_option linter.all false
set_option maxRecDepth 100000
set_option maxHeartbeats 400000
/-! DLk: sorted, counts. -/
namespace DL
open PySem L2
open PySem.W (EachIs AllAlike Sortable dataLe alike)
open PyProof.Rows (seqObj)
/-! ### sorting data -/
def encD (d : D) : PyData := (toPy d).getD .none
def tupNe : PyData → Bool
  | .tuple (_ :: _) => true
  | _ => false
def notTN : PyData → Bool
  | .none => false
  | .tuple _ => false
  | _ => true
def sortOk (ds : List D) : Bool := decide (ds.length ≤ 1000000) && ((ds.all fun d => (toPy d).isSome && decide ((encD d).depth ≤ 60)) && ((ds.all fun d => ds.all fun e => alike (encD d) (encD e)) && ((ds.all fun d => tupNe (encD d)) || (ds.all fun d => notTN (encD d)))))
def sortD (ds : List D) : List D := ds.mergeSort (dataLe false encD)
structure SortOk (ds : List D) : Prop where
  len : ds.length ≤ LB
  py : ∀ d ∈ ds, toPy d = some (encD d)
  dep : ∀ d ∈ ds, (encD d).depth ≤ 60
  al : ∀ d ∈ ds, ∀ e ∈ ds, alike (encD d) (encD e) = true
  kd : (∀ d ∈ ds, tupNe (encD d) = true) ∨ ∀ d ∈ ds, notTN (encD d) = true
theorem sortOk_iff {ds : List D} : sortOk ds = true ↔ SortOk ds := by
  unfold sortOk
  simp only [Bool.and_eq_true, Bool.or_eq_true, decide_eq_true_eq, List.all_eq_true]
  constructor
  · rintro ⟨h1, h2, h3, h4⟩
    refine ⟨h1, fun d hd => ?_, fun d hd => (h2 d hd).2, h3, h4⟩
    have := (h2 d hd).1
    unfold encD
    cases e : toPy d with
    | none => rw [e] at this; cases this
    | some p => rfl
  · rintro ⟨h1, h2, h3, h4, h5⟩
    exact ⟨h1, fun d hd => ⟨by rw [h2 d hd]; rfl, h3 d hd⟩, h4, h5⟩
theorem SortOk.perm {ds es : List D} (h : SortOk ds) (p : es.Perm ds) : SortOk es :=
  ⟨by rw [p.length_eq]; exact h.len, fun d hd => h.py d (p.mem_iff.mp hd), fun d hd => h.dep d (p.mem_iff.mp hd), fun d hd e he => h.al d (p.mem_iff.mp hd) e (p.mem_iff.mp he),
    h.kd.imp (fun z d hd => z d (p.mem_iff.mp hd)) fun z d hd => z d (p.mem_iff.mp hd)⟩
theorem SortOk.alike {ds : List D} (h : SortOk ds) : AllAlike (ds.map encD) := by
  intro x hx y hy
  obtain ⟨d, hd, rfl⟩ := List.mem_map.mp hx
  obtain ⟨e, he, rfl⟩ := List.mem_map.mp hy
  exact h.al d hd e he
mutual
theorem reads_lt {h : Heap} : ∀ {v : Value} {d : PyData} {as : List Addr}, Reads h v d as → ∀ b ∈ as, b < h.objs.size
  | _, _, _, .none, b, m => by cases m
  | _, _, _, .bool _, b, m => by cases m
  | _, _, _, .int _ _, b, m => by cases m
  | _, _, _, .str _ _, b, m => by cases m
  | _, _, _, .list h1 _ _ h4, b, m => by
    rcases List.mem_cons.mp m with e | m
    · rw [e]; exact Heap.lt_size h1
    · exact readsAll_lt h4 b m
  | _, _, _, .tuple h1 _ _ h4, b, m => readsAll_lt h4 b m
  | _, _, _, .dict h1 _ _ h4 h5, b, m => by
    rcases List.mem_append.mp m with m | m
    · rcases List.mem_cons.mp m with e | m
      · rw [e]; exact Heap.lt_size h1
      · exact readsAll_lt h4 b m
    · exact readsAll_lt h5 b m
theorem readsAll_lt {h : Heap} : ∀ {vs : List Value} {ds : List PyData} {as : List Addr}, ReadsAll h vs ds as → ∀ b ∈ as, b < h.objs.size
  | _, _, _, .nil, b, m => by cases m
  | _, _, _, .cons h1 h2, b, m => by
    rcases List.mem_append.mp m with m | m
    · exact reads_lt h1 b m
    · exact readsAll_lt h2 b m
end
section
variable {X : Cx} {pins : List (Addr × Obj)} {σ : St} {F H : Hp} {s : Shared}
def sortF : D → Option (List D)
  | .lst ds => if sortOk ds then some (sortD ds) else none
  | .tup ds => if sortOk ds then some (sortD ds) else none
  | _ => none
end
end DL

set_option Elab.async false
set_option linter.all false
set_option maxRecDepth 100000
set_option maxHeartbeats 1000000
/-! DLl: sets of whole numbers or texts: made of a list or a tuple, their length, sorted. -/
namespace DL
open PySem L2
def kOf (e : Int × Value) : Key := match e.2 with
  | .int i _ => Sum.inl i
  | .str x _ => Sum.inr x
  | _ => Sum.inl 0
def GoodK (w : World) (e : Int × Value) : Prop := ∃ k, RelV (kV k) e.2 ∧ e.1 = keyH w k
theorem kOf_rel {k : Key} {v : Value} {h : Int} (r : RelV (kV k) v) : kOf (h, v) = k := by
  cases k with
  | inl i => obtain ⟨t, rfl⟩ := r; rfl
  | inr x => obtain ⟨t, rfl⟩ := r; rfl
theorem GoodK.is {P : Program} {w : World} {e : Int × Value} (g : GoodK w e) (k : Key) : (mixKind P w).is k e.2 = true ↔ kOf e = k := by
  obtain ⟨k0, h1, h2⟩ := g
  have e0 : kOf e = k0 := kOf_rel (h := e.1) h1
  rw [e0]
  have z := kV_is (P := P) (w := w) h1
  exact ⟨fun q => (mixKind P w).inj _ _ _ z q, fun q => q ▸ z⟩
/-- what a table holds -/
structure TabG (w : World) (ks : List Key) (es : Array (Int × Value)) (t : SetTable) : Prop where
  good : ∀ e ∈ es.toList, GoodK w e
  nd : (es.toList.map kOf).Nodup
  mem : ∀ k, k ∈ es.toList.map kOf ↔ k ∈ ks
  le : es.size ≤ ks.length
  sb : es.size < scanBound
  fits : t.fits es.size = true
  ris : Ris t.place.toList
  led : w.params.followText "set-order" = true ∨ t.led = true
def SetG (w : World) (h : Heap) (a : Addr) (ks : List Key) : Prop := ∃ o es ep t, h.get? a = some o ∧ o.ExactSet ∧ o.data = .set es ep t ∧ TabG w ks es t
theorem SetG.keep {w : World} {h h' : Heap} {a : Addr} {ks : List Key} (R : SetG w h a ks) (k : ∀ o, h.get? a = some o → h'.get? a = some o) : SetG w h' a ks := by
  obtain ⟨o, es, ep, t, ho, r⟩ := R
  exact ⟨o, es, ep, t, k o ho, r⟩
section
variable {P : Program} {w : World} {A : Around} {E : Value → Shared → Prop} {s : Shared} {a : Addr} {ks : List Key}
end
end DL

set_option Elab.async false
set_option linter.all false
set_option maxRecDepth 100000
set_option maxHeartbeats 400000
/-! DLm: len(set(xs)), sorted(set(xs)); counts; comparisons of data. -/
namespace DL
open PySem L2
open PySem.W (EachIs AllAlike Sortable dataLe alike)
open PyProof.Rows (seqObj)
/-- each key once -/
def inK (k : Key) (ks : List Key) : Bool := ks.any fun q => decide (q = k)
theorem inK_iff {k : Key} {ks : List Key} : inK k ks = true ↔ k ∈ ks := by
  unfold inK
  rw [List.any_eq_true]
  exact ⟨fun ⟨q, h, e⟩ => of_decide_eq_true e ▸ h, fun h => ⟨k, h, decide_eq_true rfl⟩⟩
def dd : List Key → List Key
  | [] => []
  | k :: r => if inK k r then dd r else k :: dd r
theorem mem_dd {k : Key} : ∀ {ks : List Key}, k ∈ dd ks ↔ k ∈ ks
  | [] => Iff.rfl
  | q :: r => by
    unfold dd
    by_cases e : inK q r = true
    · rw [if_pos e, mem_dd, List.mem_cons]
      exact ⟨Or.inr, fun z => z.elim (fun z => z ▸ inK_iff.mp e) id⟩
    · rw [if_neg e, List.mem_cons, List.mem_cons, mem_dd]
theorem nodup_dd : ∀ (ks : List Key), (dd ks).Nodup
  | [] => List.nodup_nil
  | q :: r => by
    unfold dd
    by_cases e : inK q r = true
    · rw [if_pos e]; exact nodup_dd r
    · rw [if_neg e]; exact List.nodup_cons.mpr ⟨fun z => e (inK_iff.mpr (mem_dd.mp z)), nodup_dd r⟩
theorem TabG.perm {w : World} {ks : List Key} {es : Array (Int × Value)} {t : SetTable} (T : TabG w ks es t) : (es.toList.map kOf).Perm (dd ks) :=
  (List.perm_ext_iff_of_nodup T.nd (nodup_dd ks)).mpr fun k => (T.mem k).trans mem_dd.symm
theorem TabG.size {w : World} {ks : List Key} {es : Array (Int × Value)} {t : SetTable} (T : TabG w ks es t) : es.size = (dd ks).length := by
  have := T.perm.length_eq
  rw [List.length_map, Array.length_toList] at this
  exact this
section
variable {X : Cx}
/-! the order of keys is one of equals alone -/
/-! what the mirrors say -/
def seqD : D → Option (List D)
  | .lst ds => some ds
  | .tup ds => some ds
  | _ => none
end
end DL

set_option Elab.async false
set_option linter.all false
set_option maxRecDepth 100000
set_option maxHeartbeats 400000
/-! DLn: more that is walked (texts, enumerate), count, turned about, unpacked. -/
namespace DL
open PySem L2
open PySem.W (EachIs AllAlike Sortable dataLe alike)
/-! ### for c in text -/
section
variable {K : Fg} {W : WX}
end
/-! ### enumerate -/
section
variable {prog : Program} {w : World} {A : Around} {E : Value → Shared → Prop} {s : Shared}
set_option maxHeartbeats 1000000 in
theorem meets_enum1 {v : Value} {o : Obj} {H : Heap → Prop} (B : Begins v o H) : Meets (Builtin.«enumerate.__new__» ⟨[.type "enumerate", v], []⟩) (fun _ R s => H s.heap ∧
      R (.ok (.ret (.ref (s.heap.push o).objs.size))) { s with heap := (s.heap.push o).push { cls := .type "enumerate", data := .fields #[.none, .bool false, .ref s.heap.objs.size, rawInt 0, .none, .none] } }) :=
  .of_wp fun prog w A R s h => by
    obtain ⟨hp, g, d, tk, os⟩ := s
    obtain ⟨h1, h⟩ := h
    have hsub := sub_enumerate
    have q1 : ∀ {A' : Around} {E : Value → Shared → Prop} {Q : Value → Shared → Prop}, Q (.ref hp.objs.size) ⟨hp.push o, g, d, tk, os⟩ → wpAny (model prog w) A' (pyIter v) Q E ⟨hp, g, d, tk, os⟩ := fun q => B.iter prog w _ _ ⟨hp, g, d, tk, os⟩ _ h1 q
    wp_walk
    refine wpAny_stack_any fun st => wpAny_pure ?_
    split
    · rename_i c _ _ _ _ _
      cases (c == Value.type "enumerate") <;> (wp_walk using q1; exact ⟨_, rfl, h⟩)
    · wp_walk using q1
      exact ⟨_, rfl, h⟩
theorem enum_call1 {v : Value} {o : Obj} {H : Heap → Prop} {Q : Value → Shared → Prop} (B : Begins v o H) (h1 : H s.heap)
    (h : ∀ h', IsEnum h' (s.heap.objs.size + 1) s.heap.objs.size 0 .none → h'.get? s.heap.objs.size = some o → (∀ b o, s.heap.get? b = some o → h'.get? b = some o) → Q (.ref (s.heap.objs.size + 1)) { s with heap := h' }) :
    wpAny (model prog w) A (call (.type "enumerate") [v]) Q E s := by
  refine callType_new F.called_enumerate (by decide) (F.typeCall_enumerate_1 _) (F.newCall_enumerate_1 _) (fun ob => F.args_object_init_2 ob _) F.entry_enumerate_new (meets_enum1 B) ⟨h1, ?_⟩
  have hz : (s.heap.push o).objs.size = s.heap.objs.size + 1 := Heap.size_push ..
  show _ ∧ _
  rw [hz]
  have he := Heap.get?_push_size (s.heap.push o) (o := { cls := .type "enumerate", data := .fields #[.none, .bool false, .ref s.heap.objs.size, rawInt 0, .none, .none] }) rfl
  rw [hz] at he
  exact ⟨⟨_, he, rfl⟩, h _ he (Heap.get?_push_of_some _ (Heap.get?_push_size _ B.free)) fun b o x => Heap.get?_push_of_some _ (Heap.get?_push_of_some _ x)⟩
end
/-- the sequence at a (t: a tuple) as it stands at each turn -/
def SqB (K : Fg) (t : Bool) (H : Hp) (a : Addr) (xs : List V) : Prop := if t then SqT K H a xs else SqL K H a xs
def IteB (K : Fg) (t : Bool) (a : Addr) : It :=
  ⟨fun i H => ∃ (xs : List V) (x : V), SqB K t H a xs ∧ xs[i]? = some x, fun i H v H' => ∃ T x, v = .ref T ∧ H T = none ∧ H' = upd H T (.tup [.int (i : Nat), x]) ∧ ∀ xs, SqB K t H a xs → xs[i]? = some x, fun i H => ∃ xs : List V, SqB K t H a xs ∧ xs.length ≤ i⟩
theorem turn_enumT {P : Program} {w : World} {K : Fg} {elts : List Expr} {kk : Nat} {tpos : Pos} (a e it : Addr) (hei : e ≠ it) (hea : e ≠ a) (hai : a ≠ it) :
    Turn P w K (.Tuple elts kk tpos) (IteB K true a) [e, it] e (fun i h => (∃ old, IsEnum h e it ((i : Nat) : Int) old) ∧ h.IsTupleIter it a i) where
  mem := by simp
  obj := fun i h st b hb => by
    obtain ⟨⟨old, he⟩, ⟨o, ho, hc, hd⟩⟩ := st
    rcases (show b = e ∨ b = it by simpa using hb) with z | z
    · rw [z]; exact ⟨_, he, fun v q => nomatch q⟩
    · rw [z]; exact ⟨o, ho, fun v q => by rw [hd] at q; cases q⟩
  keep := fun i h h' st k => let ⟨⟨old, he⟩, hi⟩ := st; ⟨⟨old, k e (by simp) _ he⟩, hi.at fun o q => k it (by simp) o q⟩
  item := by
    intro X hP hw hK hc i pins s σ H E I hf st hg
    subst hP hw hK
    obtain ⟨⟨old, he⟩, hit⟩ := st
    obtain ⟨xs, x, hq, hx⟩ := hg
    have hq : SqT X.K H a xs := hq
    obtain ⟨its, rv, p, hz⟩ := I.tuple hq
    obtain ⟨u, hu, ru⟩ := rv.get hx
    have hel : e < s.heap.objs.size := Heap.lt_size he
    have hil : it < s.heap.objs.size := by obtain ⟨_, q, _⟩ := hit; exact Heap.lt_size q
    have hlt : i < its.toArray.size := by rw [List.size_toArray]; exact (List.getElem?_eq_some_iff.mp hu).1
    refine wpAny_pyNext_enum_itemD (Draws.tuple (A := X.A.in1) (I.ok.hd hc) it a hai its.toArray) he ⟨hit, p⟩ hlt hei (by simp [hei, hea]) fun y h' tk hy ho st' hT hsz hk => ?_
    have hy : its.toArray[i]? = some y := hy
    have eu : u = y := by
      have : its[i]? = some y := by simpa using hy
      rw [hu] at this
      exact Option.some.inj this
    subst eu
    refine ⟨_, rfl, wpAny_letOwnedTupleGo_enum (s := { s with heap := h', toks := tk + 1 }) ho fun h2 he2 sb => ?_⟩
    have hT2 := (sb.2 _ (Nat.ne_of_gt hel)).trans hT
    have new : ObjOk X.prog X.w (upd H s.heap.objs.size (.tup [.int (i : Nat), x])) h2 s.heap.objs.size (.tup [.int (i : Nat), x]) := ⟨by show 2 ≤ sizeLine; decide, [.int i tk, u], .cons ⟨_, rfl⟩ (.cons ru .nil), ⟨_, hT2, rfl, _, rfl⟩⟩
    have I1 : Inv X pins σ (upd H s.heap.objs.size (.tup [.int (i : Nat), x])) { s with heap := h2, toks := tk + 1 } :=
      I.turnedNew (ch := [e, it]) (fun b ob hb q => (sb.2 b (fun z => hb (by simp [z]))).trans (hk b ob (fun z => hb (by simp [z])) (fun z => hb (by simp [z])) q)) hf (Nat.le_refl _) new
    refine ⟨.ref s.heap.objs.size, _, I1, rfl, ⟨_, x, rfl, I.hok.fresh (Nat.le_refl _), rfl, fun ys hy => by rw [I.tuple_inj hy hq]; exact hx⟩, ⟨⟨u, ?_⟩, st'.1.at fun o q => (sb.2 it (Ne.symm hei)).trans q⟩, fun b hb => ?_⟩
    · have e1 : ((i + 1 : Nat) : Int) = (i : Int) + 1 := by omega
      rw [e1]
      exact he2
    · have hb' : b < s.heap.objs.size := by
        rcases (show b = e ∨ b = it by simpa using hb) with z | z
        · rw [z]; exact hel
        · rw [z]; exact hil
      rw [upd_ne (Nat.ne_of_lt hb')]
      exact (hf b hb).1
  done := by
    intro X hP hw hK hc i pins s σ H E I hf st hg
    subst hP hw hK
    obtain ⟨⟨old, he⟩, hit⟩ := st
    obtain ⟨xs, hq, hx⟩ := hg
    have hq : SqT X.K H a xs := hq
    obtain ⟨its, rv, p, hz⟩ := I.tuple hq
    obtain ⟨f0, f1, f2, f3, f4, f5⟩ := hf it (by simp)
    have hl := rv.length
    have hT : s.TypeIs (.ref e) "enumerate" := ⟨_, he, rfl⟩
    unfold pyNext
    refine wpAny_bind (wpAny_attempt (wpAny_callSpecial?_slot (name := Str.ofString "__next__") hT F.slot_enumerate_next (wpAny_call_entry F.slot_enumerate_next hT F.entry_enumerate_next ?_ (F.args_enumerate_next_1 _))))
    show wpAny _ _ (field (.ref e) 2 >>= _) _ _ _
    refine wpAny_bind (wpAny_field he rfl (x := .ref it) rfl ?_)
    refine wpAny_bind (wpAny_nextOf_tuple_end (I.ok.hd hc) hit p (by simp; omega) fun h' y eb hx' => ?_)
    obtain ⟨o, ho, hcl⟩ := hx'
    refine wpAny_bind (wpAny_isInstance (T := "StopIteration") (b := true) ⟨o, ho, hcl⟩ isSubtype_stop ?_)
    exact wpAny_pure ⟨rfl, I.turned (t' := s.toks) (fun b o hb q => eb b o hb q) f0 f1 f3 f4 f5⟩
  self := fun A i s Q E st h => let ⟨⟨_, he⟩, _⟩ := st; wpAny_pyIter_enum he h
def iEnumB (K : Fg) (ta : TA) : TI := fun σ H R => ta σ H fun vs H1 => ∃ a xs, vs = [.ref a] ∧ ((SqL K H1 a xs ∧ R (Ite K a) H1) ∨ (SqT K H1 a xs ∧ R (IteB K true a) H1))
theorem pi_enumB {X : Cx} {e : Expr} {ta : TA} {p pos tpos : Pos} {elts : List Expr} {kk : Nat} (hg : Gl X "enumerate") (hm : X.mg "enumerate" = none) (ha : PA X [e] ta) (hs : starEach [e] X.env = [(false, eval e X.env)] := by rfl) :
    PI X (.Tuple elts kk tpos) (.Call (.Name "enumerate" p) [e] [] pos) (iEnumB X.K ta) := by
  refine ⟨fun pins s σ H R I h => ?_⟩
  refine PyProof.Rows.Call_ (ld_blt I hg hm PyProof.Rows.boot_enumerate (PyProof.Rows.callWith_type1 (thn (ha.run pos pins s σ H _ I h) fun us s1 ⟨vs, H1, I1, r1, q1⟩ => ?_) hs rfl))
  · obtain ⟨a, xs, rfl, q⟩ := q1
    rw [Vals.ref1 r1]
    have fpk : ∀ b ∈ [s1.heap.objs.size + 1, s1.heap.objs.size], FpOk X pins H1 b := fun b hb => by
      have hle : s1.heap.objs.size ≤ b := by
        rcases (show b = s1.heap.objs.size + 1 ∨ b = s1.heap.objs.size by simpa using hb) with z | z
        · rw [z]; exact Nat.le_add_right _ _
        · rw [z]; exact Nat.le_refl _
      exact I1.fpOk hle (I1.hok.fresh hle)
    rcases q with ⟨hq, q⟩ | ⟨hq, q⟩
    · obtain ⟨its, rv, p', hz⟩ := I1.list hq
      refine enum_call1 (begins_list a its.toArray) p'.isList fun h' he hit hk => wpAny_pyIter_enum he ?_
      exact ⟨s1.heap.objs.size + 1, _, _, _, H1, rfl, I1.kept (t' := s1.toks) hk, turn_enum a (s1.heap.objs.size + 1) s1.heap.objs.size, ⟨⟨.none, he⟩, ⟨_, hit, rfl, rfl⟩, Nat.succ_ne_self _⟩, fpk, q⟩
    · obtain ⟨its, rv, p', hz⟩ := I1.tuple hq
      have hlt : a < s1.heap.objs.size := by obtain ⟨o, ho, _⟩ := p'; exact Heap.lt_size ho
      refine enum_call1 (begins_tuple a its.toArray) p' fun h' he hit hk => wpAny_pyIter_enum he ?_
      exact ⟨s1.heap.objs.size + 1, _, _, _, H1, rfl, I1.kept (t' := s1.toks) hk, turn_enumT a (s1.heap.objs.size + 1) s1.heap.objs.size (Nat.succ_ne_self _) (Nat.ne_of_gt (Nat.lt_succ_of_lt hlt)) (Nat.ne_of_lt hlt), ⟨⟨.none, he⟩, ⟨_, hit, rfl, rfl⟩⟩, fpk, q⟩
def enumD (ds : List D) : List D := ds.zipIdx.map fun p => .tup [.int (p.2 : Nat), p.1]
def enumF : List D → Option (List D)
  | [.lst ds] => some (enumD ds)
  | [.tup ds] => some (enumD ds)
  | _ => none
theorem enumD_get {ds : List D} {i : Nat} {d : D} (h : (enumD ds)[i]? = some d) : ∃ e, ds[i]? = some e ∧ d = .tup [.int (i : Nat), e] := by
  unfold enumD at h
  rw [List.getElem?_map, List.getElem?_zipIdx] at h
  cases e : ds[i]? with
  | none => rw [e] at h; cases h
  | some x =>
    rw [e] at h
    refine ⟨x, rfl, ?_⟩
    have := Option.some.inj h
    rw [← this, Nat.zero_add]
theorem enumD_len (ds : List D) : (enumD ds).length = ds.length := by unfold enumD; rw [List.length_map, List.length_zipIdx]
theorem new_pair {K : Fg} {F H : Hp} {T : Addr} {i : Nat} {x : V} {e : D} (fh : Same F H) (hT : H T = none) (rx : Rep K F e x) : ∃ F', New F H F' (upd H T (.tup [.int (i : Nat), x])) ∧ Rq K true F' (.tup [.int (i : Nat), e]) (.ref T) := by
  refine ⟨upd F T (.tup [.int (i : Nat), x]), New.lay fh hT, T, [.int (i : Nat), x], rfl, Or.inl (Or.inl upd_same), reps_cons (Rep.int_iff.mpr rfl) (reps_cons (rx.mono (same_upd (fh.free hT))) reps_nil)⟩
section
variable {K : Fg} {W : WX}
theorem ei_enum {ta : TA} {m : M (List D)} (h : Eds K W ta m) : Ei K W true (iEnumB K ta) (mIt enumF m) := by
  refine ei_args (u := fun vs H R => ∃ a xs, vs = [.ref a] ∧ ((SqL K H a xs ∧ R (Ite K a) H) ∨ (SqT K H a xs ∧ R (IteB K true a) H))) h fun C F H as vs ds hK fh rs hf R hR => ?_
  match as, hf with
  | [.lst es], hf =>
    cases hf
    obtain ⟨v, us, rfl, r1, r2⟩ := rs.inv
    cases r2.inv0
    obtain ⟨a, ws, rfl, g1, g2, g3⟩ := Rep.lst_iff.mp r1
    refine ⟨a, ws, rfl, Or.inl ⟨Or.inl (Or.inl (fh _ _ g1)), hR _ ⟨by rw [enumD_len]; exact g2, fun F2 H2 f1 f2 _ i => ⟨fun d hd => ?_, fun hl => ?_⟩⟩⟩⟩
    · obtain ⟨e, he, rfl⟩ := enumD_get hd
      obtain ⟨u, hu, ru⟩ := g3.get he
      have ha : SqL K H2 a ws := Or.inl (Or.inl (f2 _ _ (f1 _ _ g1)))
      refine ⟨⟨ws, u, ha, hu⟩, fun x H' y => ?_⟩
      obtain ⟨T, x', rfl, hT, rfl, y⟩ := y
      have q := y ws ha
      rw [hu] at q
      cases q
      rw [hK]
      exact new_pair f2 hT (ru.mono f1)
    · rw [enumD_len] at hl
      exact ⟨ws, Or.inl (Or.inl (f2 _ _ (f1 _ _ g1))), by rw [g3.len]; exact hl⟩
  | [.tup es], hf =>
    cases hf
    obtain ⟨v, us, rfl, r1, r2⟩ := rs.inv
    cases r2.inv0
    obtain ⟨a, ws, rfl, g1, g2, g3⟩ := Rep.tup_iff.mp r1
    refine ⟨a, ws, rfl, Or.inr ⟨same_t fh g1.sq, hR _ ⟨by rw [enumD_len]; exact g2, fun F2 H2 f1 f2 _ i => ⟨fun d hd => ?_, fun hl => ?_⟩⟩⟩⟩
    · obtain ⟨e, he, rfl⟩ := enumD_get hd
      obtain ⟨u, hu, ru⟩ := g3.get he
      have ha : SqT K H2 a ws := same_t f2 (same_t f1 g1.sq)
      refine ⟨⟨ws, u, ha, hu⟩, fun x H' y => ?_⟩
      obtain ⟨T, x', rfl, hT, rfl, y⟩ := y
      have q := y ws ha
      rw [hu] at q
      cases q
      rw [hK]
      exact new_pair f2 hT (ru.mono f1)
    · rw [enumD_len] at hl
      exact ⟨ws, same_t f2 (same_t f1 g1.sq), by rw [g3.len]; exact hl⟩
theorem i_enum {K : Fg} {X : Cx} {e : Expr} {elts : List Expr} {kk : Nat} {t : TA} {m : M (List D)} {p2 pos tpos : Pos} (hm : X.mg "enumerate" = none) (h : XD X W [e] t m) (hg : Gl X "enumerate" := by rfl) (hs : starEach [e] X.env = [(false, eval e X.env)] := by rfl) (hK : X.K = K := by rfl) :
    XI X W true (.Tuple elts kk tpos) (.Call (.Name "enumerate" p2) [e] [] pos) (iEnumB K t) (mIt enumF m) := by
  subst hK
  exact ⟨pi_enumB hg hm h.p hs, ei_enum h.v⟩
end
end DL

set_option Elab.async false
set_option linter.all false
set_option maxRecDepth 100000
set_option maxHeartbeats 400000
/-! DLo: x.count(y), x[::-1], a, b = list, the script cut. -/
namespace DL
open PySem L2
mutual
theorem toPy_plain : ∀ {d : D} {p : PyData}, toPy d = some p → p.plain = true
  | .non, p, e => by cases e; rfl
  | .bl b, p, e => by cases e; rfl
  | .int i, p, e => by cases e; rfl
  | .str x, p, e => by cases e; rfl
  | .tup ds, p, e => by
    simp only [toPy] at e
    cases q : toPys ds with
    | none => rw [q] at e; cases e
    | some ps => rw [q] at e; cases e; simpa only [PyData.plain] using toPys_plain q
  | .lst ds, p, e => by
    simp only [toPy] at e
    cases q : toPys ds with
    | none => rw [q] at e; cases e
    | some ps => rw [q] at e; cases e; simpa only [PyData.plain] using toPys_plain q
  | .ins _ _ _, p, e => by cases e
  | .dk _ _, p, e => by cases e
  | .dn _ _ _, p, e => by cases e
  | .fn _, p, e => by cases e
  | .ob _ _ _ _, p, e => by cases e
theorem toPys_plain : ∀ {ds : List D} {ps : List PyData}, toPys ds = some ps → PyData.plainAll ps = true
  | [], ps, e => by cases e; rfl
  | d :: ds, ps, e => by
    simp only [toPys] at e
    cases q1 : toPy d with
    | none => simp only [q1] at e; cases e
    | some p =>
      cases q2 : toPys ds with
      | none => simp only [q1, q2] at e; cases e
      | some qs => simp only [q1, q2] at e; cases e; simp only [PyData.plainAll, toPy_plain q1, toPys_plain q2, Bool.and_self]
end
/-! ### count -/
section
variable {X : Cx} {o e : Expr} {to : TE} {t : TA} {apos cpos : Pos}
def kindD : D → Option Bool
  | .lst _ => some false
  | .tup _ => some true
  | _ => none
def cntD (d e : D) : Option D := match seqD d, toPy e with
  | some ds, some p => match toPys ds with
    | some ps => if p.depth ≤ 60 then some (.int ((ps.countP fun z => PyData.eqv z p : Nat) : Int)) else none
    | none => none
  | _, _ => none
def mCount (a b : M Op) : M D := a.bind fun o => (mRd o).bind fun d0 => match kindD d0 with
  | none => fun _ => none
  | some k => b.bind fun q => (mRd o).bind fun d => (mRd q).bind fun e => M.lift (if kindD d = some k then cntD d e else none)
end
/-! ### x[::-1] of a list -/
def revLD : D → Option (List D)
  | .lst ds => some ds.reverse
  | _ => none
section
variable {K : Fg} {W : WX} {X : Cx}
/-! ### a, b = list -/
def gTL (m : List D → En → Option En) : Mg := fun d δ => match d with
  | .lst ds => m ds δ
  | _ => none
/-! ### the script, cut -/
def mScSl (i : Nat) (lo hi : Option Int) : M D := fun δ => match δ[i]? with
  | some (.sc ns) => if ns.length ≤ 1000000 then some (.ok (.lst (cutD (ns.map D.int) lo hi)) δ) else none
  | _ => none
/-- a bound told by the text -/
def CP (t : TO) (o : Option Int) : Prop := ∀ (σ : St) (H : Hp) (Q : Option Int → Hp → Prop), Q o H → t σ H Q
theorem cp_none : CP tNoPart none := fun σ H Q h => h
theorem cp_int {i : Int} : CP (tPart (tC (.int i))) (some i) := fun σ H Q h => ⟨i, rfl, h⟩
theorem ints_reps {F : Hp} : ∀ (ns : List Int), Reps K F (ns.map D.int) (ns.map V.int)
  | [] => reps_nil
  | n :: r => reps_cons (Rep.int_iff.mpr rfl) (ints_reps r)
theorem sql_up {F F' : Hp} (e : Same F F') {a : Addr} {xs : List V} (h : SqL K F a xs) : SqL K F' a xs := by
  rcases h with h | h
  · exact Or.inl (same_rd e h)
  · exact Or.inr h
theorem ev_scSl {i : Nat} {tl th : TO} {lo hi : Option Int} (hl : CP tl lo) (hu : CP th hi) : Ev K W (tSl (rSlAny K) (tVar i) tl th) (mScSl i lo hi) := by
  intro C hK hW al F H σ δ S hp r hr Q hok hex
  unfold mScSl at hr
  cases e : δ[i]? with
  | none => simp only [e] at hr; cases hr
  | some s =>
    cases s with
    | sc ns =>
      simp only [e] at hr
      by_cases hn : ns.length ≤ 1000000
      · rw [if_pos hn] at hr
        cases hr
        subst hK
        obtain ⟨a, h1, h2⟩ := S.sc i ns e
        replace h2 := (h2.resolve_right fun z => absurd z.1 (by omega)).2
        refine ⟨.ref a, h1, hl _ _ _ (hu _ _ _ (Or.inl ⟨a, ns.map V.int, rfl, sql_up (S.bp.trans S.ph) h2, fun p hp => ?_⟩))⟩
        have n : New F H (upd F p (.lst (cutV (ns.map V.int) lo hi))) (upd H p (.lst (cutV (ns.map V.int) lo hi))) := New.lay S.fh hp
        exact hok _ δ rfl al _ _ _ n.ff (S.new n) (Rep.lst_iff.mpr ⟨p, _, rfl, upd_same, Nat.le_trans cutD_len (by rw [List.length_map]; exact hn), (cutD_reps (ints_reps ns)).mono n.ff⟩)
      · rw [if_neg hn] at hr; cases hr
    | _ => simp only [e] at hr; cases hr
theorem x_scSl {K : Fg} {i : Nat} {a : Expr} {lo hi : Option Expr} {tl th : TO} {ol oh : Option Int} {p2 pos : Pos} (ha : PE X a (tVar i)) (pl : PO X lo tl) (ph : PO X hi th) (hl : CP tl ol) (hu : CP th oh) (hK : X.K = K := by rfl) : XE X W (.Subscript a (.Slice lo hi none p2) pos) (tSl (rSlAny K) (tVar i) tl th) (mScSl i ol oh) := by
  subst hK
  exact ⟨pe_slice sl_any ha pl ph, ev_scSl hl hu⟩
end
end DL

set_option Elab.async false
set_option linter.all false
set_option maxRecDepth 100000
set_option maxHeartbeats 400000
/-! DLp: defs of the top by what they promise; the law's own end. -/
namespace DL
open PySem L2
/-- a def of the top as it was written -/
structure DefK (K : Fg) (x : Str) (st : Stmt) : Prop where
  ex : ∃ f fd, PySem.W.nsIn K mainGlobals x = some (some (.ref f)) ∧ Fun K x x st f fd ∧ PySem.W.keepIn K (.ref f) = true ∧ ∃ kV dc pm an cd ct, fd = PySem.W.fnOf x x (defArgs st) (defBody st) (defScope st) .none kV dc pm an cd ct
theorem defK_mk {K : Fg} {x : Str} {st : Stmt} {f : Addr} {od an : Option Addr} {sl : Array (Option Value)} {oc kV dc pm cd ct : Value} (a : PySem.W.nsIn K mainGlobals x = some (some (.ref f)))
    (l : K.lookup f = some ⟨oc, od, .func (PySem.W.fnOf x x (defArgs st) (defBody st) (defScope st) .none kV dc pm an cd ct), sl⟩) (c : PySem.W.codeIn K cd x = true) (k : PySem.W.keepIn K (.ref f) = true) : DefK K x st := ⟨f, _, a, fun_mk l c k, k, _, _, _, _, _, _, rfl⟩
/-- a method of a class -/
structure MetK (K : Fg) (C : Addr) (x qual : Str) (st : Stmt) (f : Addr) : Prop where
  ex : ∃ fd, PySem.W.findIn K (.ref C) x = some (some (.ref f)) ∧ PySem.W.isFn K (.ref f) = true ∧ Fun K x qual st f fd ∧ PySem.W.keepIn K (.ref f) = true
theorem metK_mk {K : Fg} {C : Addr} {x qual : Str} {st : Stmt} {f : Addr} {od an : Option Addr} {sl : Array (Option Value)} {oc kV dc pm cd ct : Value} (a : PySem.W.findIn K (.ref C) x = some (some (.ref f))) (i : PySem.W.isFn K (.ref f) = true)
    (l : K.lookup f = some ⟨oc, od, .func (PySem.W.fnOf x qual (defArgs st) (defBody st) (defScope st) .none kV dc pm an cd ct), sl⟩) (c : PySem.W.codeIn K cd qual = true) (k : PySem.W.keepIn K (.ref f) = true) : MetK K C x qual st f := ⟨_, a, i, fun_mk l c k, k⟩
/-- a class that makes objects -/
structure ClsK (K : Fg) (x : Str) (C : Addr) : Prop where
  a : PySem.W.nsIn K mainGlobals x = some (some (.ref C))
  pg : PySem.W.plainGet K C Str.empty = true
  hd : PySem.W.hasDictIn K C = true
  po : PySem.W.plainOver K C = true
  sa : PySem.W.findIn K (.ref C) "__setattr__" = some (some (.builtin "object.__setattr__"))
  mks : PySem.W.makesIn K C = true
  kc : PySem.W.keepIn K (.ref C) = true
theorem ClsK.cls {K : Fg} {x : Str} {C : Addr} (c : ClsK K x C) : Cls K C := ⟨c.pg, c.hd, c.po, c.sa⟩
section
variable (P : Program) (w : World) (K : Fg) (mg : Str → Option Value) (base : Heap)
structure CallP (x : Str) (k : Nat) (ps : List Str) (ks : List PK) (g : List D → Option D) : Prop where
  ex : ∃ f fd, mg x = some (.ref f) ∧ PySem.W.keepIn K (.ref f) = true ∧ Binds K fd ps [] ∧ FnOk P w K mg base CX0 k f fd ps (SpP K ks g)
structure CallI (x : Str) (k : Nat) (ps : List Str) (ks : List PK) (g : List D → Option (D × D)) : Prop where
  ex : ∃ f fd, mg x = some (.ref f) ∧ PySem.W.keepIn K (.ref f) = true ∧ Binds K fd ps [] ∧ FnOk P w K mg base CX0 k f fd ps (SpI K ks g)
structure MakeI (x : Str) (C : Addr) (k : Nat) (ps : List Str) (ks : List PK) (g : List D → Option (D × D)) : Prop where
  ex : ∃ f fd, mg x = some (.ref C) ∧ Mk K C f ∧ Binds K fd ps [] ∧ FnOk P w K mg base CX0 k f fd ps (SpI K ks g)
end
section
variable {X : Cx} {W : WX} {e : Expr} {es : List Expr} {pos p2 : Pos}
theorem x_cq {K : Fg} {x : Str} {ps : List Str} {k j : Nat} {ks : List PK} {g : List D → Option D} {t : TA} {m : M (List Op)} (c : CallP X.prog X.w X.K X.mg X.base x k ps ks g) (hr : Room j X.A) (h : XA X W (e :: es) t m) (hkj : k ≤ j := by decide) (hg : Gl X x := by rfl)
    (hdb : (x == ("__debug__" : Str)) = false := by decide) (hs : starEach (e :: es) X.env = (false, eval e X.env) :: starEach es X.env := by rfl) (hpl : (backTo pos (starEach es X.env)).any (·.1) = false := by rfl) (hK : X.K = K := by rfl) :
    XE X W (.Call (.Name x p2) (e :: es) [] pos) (tCall (SpP K ks g) [] E0 t) (mCallP ks g m) := by
  subst hK
  obtain ⟨f, fd, h1, h2, h3, h4⟩ := c.ex
  exact x_cp h4 hr hkj h1 h2 h3 h hg hdb hs hpl
theorem x_cqi {K : Fg} {x : Str} {ps : List Str} {k j i : Nat} {ks : List PK} {g : List D → Option (D × D)} {t : TA} {m : M (List Op)} (c : CallI X.prog X.w X.K X.mg X.base x k ps ks g) (hr : Room j X.A) (hp : XE X W e (tVar i) (mVar i)) (h : XA X W es t m) (hkj : k ≤ j := by decide) (hg : Gl X x := by rfl)
    (hdb : (x == ("__debug__" : Str)) = false := by decide) (hs : starEach (e :: es) X.env = (false, eval e X.env) :: starEach es X.env := by rfl) (hpl : (backTo pos (starEach es X.env)).any (·.1) = false := by rfl) (hK : X.K = K := by rfl) :
    XE X W (.Call (.Name x p2) (e :: es) [] pos) (tCall (SpI K ks g) [] E0 (tCons (tVar i) t)) (mCallI i ks g m) := by
  subst hK
  obtain ⟨f, fd, h1, h2, h3, h4⟩ := c.ex
  exact x_ci h4 hr hkj h1 h2 h3 hp.p h hg hdb hs hpl
end
section
variable {P : Program} {w : World} {K : Fg} {mg : Str → Option Value} {base h : Heap}
theorem callP_of {x : Str} {st : Stmt} {k : Nat} {ps : List Str} {ks : List PK} {g : List D → Option D} (d : DefK K x st) (X : K.In h) (G : h.Ns mainGlobals mg) (hb : ∀ {f : Addr} {fd : FuncData}, Fun K x x st f fd → Binds K fd ps [])
    (hf : ∀ {f : Addr} {fd : FuncData}, Fun K x x st f fd → FnOk P w K mg base CX0 k f fd ps (SpP K ks g)) : CallP P w K mg base x k ps ks g := by
  obtain ⟨f, fd, h1, h2, h3, _⟩ := d.ex
  exact ⟨f, fd, PySem.W.mg_of X G h1, h3, hb h2, hf h2⟩
theorem callI_of {x : Str} {st : Stmt} {k : Nat} {ps : List Str} {ks : List PK} {g : List D → Option (D × D)} (d : DefK K x st) (X : K.In h) (G : h.Ns mainGlobals mg) (hb : ∀ {f : Addr} {fd : FuncData}, Fun K x x st f fd → Binds K fd ps [])
    (hf : ∀ {f : Addr} {fd : FuncData}, Fun K x x st f fd → FnOk P w K mg base CX0 k f fd ps (SpI K ks g)) : CallI P w K mg base x k ps ks g := by
  obtain ⟨f, fd, h1, h2, h3, _⟩ := d.ex
  exact ⟨f, fd, PySem.W.mg_of X G h1, h3, hb h2, hf h2⟩
/-! ### the law -/
def spLawD (K : Fg) : Sp := fun vs H Q _ => ∃ (a : Addr) (ns : List Int), vs = [.ref a] ∧ SqL K H a (ns.map V.int) ∧ ns.length ≤ 63 ∧ ∀ H', Q (.bl true) H'
def lawOk (m : Ms) (n : Nat) : Prop := ∀ ns : List Int, ns.length ≤ 63 → ∃ δ, m (startE n [Sl.sc ns]) = some (.rt (.bl true) δ)
theorem law_fn {x qual y : Str} {st : Stmt} {f : Addr} {fd : FuncData} {N : List Str} {k : Nat} {m : Ms} (F : Fun K x qual st f fd) (S : FnScope N [y] (defScope st)) (hm : lawOk m N.length)
    (hb : ∀ (cdv : Value) (A : Around) (outer : List Env) (s : Shared) (H : Hp) (E : XK), Room k (A.deeper (PyProof.Rows.envOfC qual (defScope st) s.heap.objs.size f cdv)) → ∃ t, XB (cxOf CX0 P w K mg base N qual (defScope st) f cdv A outer s H E).nox W0 (defBody st) t m) :
    FnOk P w K mg base CX0 (k + 1) f fd [y] (spLawD K) := by
  refine F.ok S (fun vs H Q E h => ?_) (fun cdv A outer s H vs Q E hr h => ?_)
  · obtain ⟨a, ns, rfl, _⟩ := h
    rfl
  · obtain ⟨t, B⟩ := hb cdv A outer s H E hr
    refine ⟨t, B.p, ?_⟩
    obtain ⟨a, ns, rfl, hS, hl, q⟩ := h
    obtain ⟨δ, e⟩ := hm ns hl
    have S0 : StOk { K := K, P := H, B := H, F0 := fun _ => none, bt := fun _ => 0, W := W0 } (fun _ => 0) (fun _ => none) H ([V.ref a].map some) [Sl.sc ns] := by
      have one : ∀ (i : Nat) (s : Sl), [Sl.sc ns][i]? = some s → i = 0 ∧ s = .sc ns := fun i s z => by
        cases i with
        | zero => exact ⟨rfl, (Option.some.inj z).symm⟩
        | succ i => simp at z
      refine ⟨fun _ _ z => (by cases z), Same.refl _, Same.refl _, fun _ _ z => (by cases z), fun _ _ z => (by cases z), rfl, fun i d z => ?_, fun i d z => ?_, fun i s d z r => ?_, fun i d z => ?_, fun i j s t d e z1 z2 r1 r2 _ => ?_, fun i ms z => ?_, fun i ms z => ?_, fun _ _ z => by cases z⟩
      · cases (one i _ z).2
      · cases (one i _ z).2
      · rw [(one i _ z).2] at r; cases r
      · cases (one i _ z).2
      · rw [(one i _ z1).2] at r1; cases r1
      · obtain ⟨rfl, e⟩ := one i _ z
        cases e
        exact ⟨a, rfl, Or.inl ⟨by omega, hS⟩⟩
      · cases (one i _ z).2
    refine B.v _ rfl rfl _ _ H _ _ (S0.begin (N := N)) _ e _ ?_
    exact fun al' F' H' σ' v s' S' rv => by rw [Rep.bl_iff.mp rv]; exact q H'
end
end DL

set_option Elab.async false
set_option linter.all false
set_option maxRecDepth 100000
set_option maxHeartbeats 400000
/-! DLq: tests by comparison; the built-ins that are called most. -/
namespace DL
open PySem L2
section
variable {X : Cx} {W : WX} {a b c : Expr} {ta tb tc : TE} {pos p2 : Pos} {oa ob oc : M Op}
theorem t_gt (ha : XO X W a ta oa) (hb : XO X W b tb ob) : XT X W (.Compare a [.Gt] [b] pos) (tTest (tOp (rI0 fun i j => .bl (decide (j < i))) ta tb)) (mTest (m2 (fI0 fun i j => .bl (decide (j < i))) oa ob)) := ⟨pt_cmpR op_gt ha.p hb.p (nomark _), et_test (ev_2 prim_gtI ha.v hb.v)⟩
theorem t_ne {K : Fg} {k : Nat} (hr : Room k X.A) (ha : XO X W a ta oa) (hb : XO X W b tb ob) (hK : X.K = K := by rfl) : XT X W (.Compare a [.NotEq] [b] pos) (tTest (tOp (rNeD K) ta tb)) (mTest (m2 neD oa ob)) := by
  subst hK
  exact ⟨pt_cmpR (op_neD hr.units) ha.p hb.p (nomark _), et_test (ev_2 prim_ne ha.v hb.v)⟩
theorem x_len {K : Fg} (hm : X.mg "len" = none) (ha : XO X W a ta oa) (hg : Gl X "len" := by rfl) (hs : starEach [a] X.env = (false, eval a X.env) :: starEach [] X.env := by rfl) (hK : X.K = K := by rfl) : XE X W (.Call (.Name "len" p2) [a] [] pos) (tCB (rLen K) (tCons ta tNil)) (mA (fA1 lenD) (maCons oa maNil)) := by
  subst hK
  exact x_cb call_len prim_len boot_len hm (a_cons ha a_nil hs) hg (by decide) (by decide) hs rfl
/-- x[i] = e, x a list of one's own -/
def mPutI (i : Nat) (mi me : M D) : Ms := mS me fun d => mHas i (mS mi fun j => fun δ => match j with
      | .int n => match ownL δ i with
        | some (s, ds) => match ixN ds.length n with
          | some m => some (.nx (δ.set i (reown s (.lst (ds.set m d)))))
          | none => none
        | none => none
      | _ => none)
theorem s_putI {o e : Expr} {te : TE} {me : M D} {i : Nat} {ix : Expr} {ti : TE} {mi : M D} {tpos : Pos} (ho : PE X o (tVar i)) (hi : XE X W ix ti mi) (h : XE X W e te me) (ha : ∀ v, assign (.Subscript o ix tpos) X.env v = (do
      let ov ← holding [v] (eval o X.env)
      let iv ← holding [v, ov] (eval ix X.env)
      standAt tpos
      holding [v, ov, iv] (setItem ov iv v)
      release [v, ov, iv] []) := by intro _; rfl) (hs : swapsWithSole [.Subscript o ix tpos] e pos.line X.env = pure false := by rfl) (hw : swappedStores [.Subscript o ix tpos] e X.env = pure none := by rfl) (h1 : (assignEach [.Subscript o ix tpos] X.env).map (·.2) = [assign (.Subscript o ix tpos) X.env] := by rfl) :
    XS X W (.Assign [.Subscript o ix tpos] e pos) (tAsg te (gSub (tVar i) ti rSetL)) (mPutI i mi me) := s_setI ho hi h ha hs hw h1
end
end DL

set_option Elab.async false
set_option linter.all false
set_option maxRecDepth 100000
set_option maxHeartbeats 400000
/-! DLr: defs that hand back a new object, the caller's own from then on. -/
namespace DL
open PySem L2
theorem StOk.callee {C : Cn} {al : Nat → Addr} {F H : Hp} {σ : St} {δ : En} {ks : List PK} {os : List Op} {vs : List V} {ds : List D} (S : StOk C al F H σ δ) (hrel : relA C.K F σ vs os) (h1 : rds os δ = some ds) (hf : frOk ks os = true) :
    vs.length = ks.length ∧ ds.length = ks.length ∧ StOk { K := C.K, P := H, B := H, F0 := F, bt := fun _ => 0, W := C.W } (fun _ => 0) F H (vs.map some) (entry ks ds) := by
  have hP : Paired (fun v d => RepR C.K F H v d) vs ds := S.opds hrel h1
  have lk := frOk_len hf
  have lv : vs.length = os.length := hrel.length
  have ld := rds_len h1
  refine ⟨by omega, by omega, ?_⟩
  have ge : ∀ (i : Nat) s, (entry ks ds)[i]? = some s → ∃ v d, (vs.map some)[i]? = some (some v) ∧ ((s = .bo d ∧ RepR C.K F H v d) ∨ (s = .fr d ∧ Rep C.K F d v)) := fun i s q => by
    obtain ⟨k, d, g1, g2, g3⟩ := entry_get q
    obtain ⟨v, g4, g5⟩ := paired_get hP g2
    refine ⟨v, d, by rw [List.getElem?_map, g4]; rfl, ?_⟩
    rcases frOk_get hf g1 with z | ⟨z, d', z2⟩
    · subst z; exact Or.inl ⟨g3, g5⟩
    · subst z
      refine Or.inr ⟨g3, ?_⟩
      obtain ⟨d2, g6, g7⟩ := rds_get h1 z2
      rw [g2] at g6
      cases g6
      cases g7
      obtain ⟨v', g8, g9⟩ := paired_get hrel z2
      rw [g4] at g8
      cases g8
      exact g9
  refine ⟨S.fh, Same.refl _, Same.refl _, Same.refl _, fun b o q => Or.inl q, by rw [List.length_map, entry_len (by omega)]; omega, fun i d q => ?_, fun i d q => ?_, fun i s d q r => ?_, fun i d q => ?_, fun i j s t d e q1 q2 r1 r2 => ?_, fun i ns q => ?_, fun i ns q => ?_, fun _ _ q => by cases q⟩
  · obtain ⟨v, d', g1, g2 | g2⟩ := ge i _ q
    · cases g2.1
    · cases g2.1; exact ⟨v, g1, g2.2⟩
  · obtain ⟨v, d', g1, g2 | g2⟩ := ge i _ q
    · cases g2.1; exact ⟨v, g1, g2.2⟩
    · cases g2.1
  · obtain ⟨v, d', g1, g2 | g2⟩ := ge i _ q
    · rw [g2.1] at r; cases r
    · rw [g2.1] at r; cases r
  · obtain ⟨v, d', g1, g2 | g2⟩ := ge i _ q
    · cases g2.1
    · cases g2.1
  · obtain ⟨v, d', g1, g2 | g2⟩ := ge i _ q1
    · rw [g2.1] at r1; cases r1
    · rw [g2.1] at r1; cases r1
  · obtain ⟨v, d', g1, g2 | g2⟩ := ge i _ q
    · cases g2.1
    · cases g2.1
  · obtain ⟨v, d', g1, g2 | g2⟩ := ge i _ q
    · cases g2.1
    · cases g2.1
/-- a new object comes back -/
def SpN (K : Fg) (ks : List PK) (g : List D → Option D) : Sp := fun vs H Q _ => ∃ (C : Cn) (al : Nat → Addr) (ds : List D) (d : D), C.K = K ∧ vs.length = ks.length ∧ ds.length = ks.length ∧ StOk C al C.F0 H (vs.map some) (entry ks ds) ∧ g ds = some d ∧
  ∀ al' F' H' σ' δ' p, Same C.F0 F' → StOk C al' F' H' σ' δ' → F' p = none → C.P p = none → RepO K F' H' p d → Q (.ref p) H'
def defN (n : Nat) (ks : List PK) (m : Ms) : List D → Option D := fun ds => match m (startE n (entry ks ds)) with
  | some (.rn d _) => some d
  | _ => none
section
variable {P : Program} {w : World} {K : Fg} {mg : Str → Option Value} {base : Heap}
theorem fn_n {x qual : Str} {st : Stmt} {f : Addr} {fd : FuncData} {N ps : List Str} {k : Nat} {ks : List PK} {m : Ms} (F : Fun K x qual st f fd) (S : FnScope N ps (defScope st)) (hks : ks.length = ps.length)
    (hb : ∀ (cdv : Value) (A : Around) (outer : List Env) (s : Shared) (H : Hp) (E : XK), Room k (A.deeper (PyProof.Rows.envOfC qual (defScope st) s.heap.objs.size f cdv)) → ∃ t, XB (cxOf CX0 P w K mg base N qual (defScope st) f cdv A outer s H E).nox W0 (defBody st) t m) :
    FnOk P w K mg base CX0 (k + 1) f fd ps (SpN K ks (defN N.length ks m)) := by
  refine F.ok S (fun vs H Q E h => ?_) (fun cdv A outer s H vs Q E hr h => ?_)
  · obtain ⟨C, al, ds, d, _, h1, _⟩ := h
    rw [h1, hks]
  · obtain ⟨t, B⟩ := hb cdv A outer s H E hr
    refine ⟨t, B.p, ?_⟩
    obtain ⟨C, al, ds, d, hK, h1, h2, S0, hf, hok⟩ := h
    subst hK
    have S1 := (S0.wish W0 (short_entry _ _)).begin (N := N)
    unfold defN at hf
    cases e : m (startE N.length (entry ks ds)) with
    | none => rw [e] at hf; cases hf
    | some o =>
      rw [e] at hf
      refine B.v { C with W := W0 } rfl rfl al C.F0 H _ _ S1 o e _ ?_
      cases o with
      | rn z δ => cases hf; exact fun al' F' H' σ' p s' S' n1 n2 n3 => hok al' F' H' _ _ p s' ((S'.take 0).unwish short_nil) n1 n2 n3
      | _ => cases hf
end
def mCallN (ks : List PK) (g : List D → Option D) (a : M (List Op)) : M D := a.bind fun os => (mRds os).bind fun ds => fun δ => if frOk ks os then (match g ds with
  | some d => some (.ok d δ)
  | none => none) else none
theorem en_callN {K : Fg} {W : WX} {ks : List PK} {g : List D → Option D} {a : M (List Op)} {ta : TA} {E : XK} (ha : Ea K W ta a) : En1 K W (tCall (SpN K ks g) [] E ta) (mCallN ks g a) := by
  refine J.bindN (t2 := fun (vs : List V) (_ : St) (H : Hp) (Q : VK) => SpN K ks g (vs ++ []) H Q E) ha monoT fun os vs => ?_
  intro C hK hWC al F H σ δ S hp r hr Q hok hex
  subst hK
  obtain ⟨ds, h1, hr⟩ := rds_bind hr
  by_cases hf : frOk ks os = true
  · simp only [hf, if_true] at hr
    obtain ⟨l1, l2, St1⟩ := S.callee hp.2 h1 hf
    cases e : g ds with
    | none => simp only [e] at hr; cases hr
    | some d =>
      simp only [e] at hr
      cases hr
      refine ⟨{ K := C.K, P := H, B := H, F0 := F, bt := fun _ => 0, W := C.W }, fun _ => 0, ds, d, rfl, by rw [List.append_nil]; exact l1, l2, (by rw [List.append_nil]; exact St1), e, fun al' F' H' σ' δ' p s' S' n1 n2 n3 => ?_⟩
      have nw : New F H F' H' := ⟨s', S'.fh, S'.ph, S'.fp⟩
      have n2 : H p = none := n2
      refine hok d δ rfl al F' H' p s' (S.new nw) n1 (S.ph.free n2) (fun j s e q r z => ?_) n3
      obtain ⟨_, _, _, h4⟩ := S.ow j s e q r
      obtain ⟨u, hu⟩ := h4.there
      rw [z, n2] at hu
      cases hu
  · simp only [hf] at hr
    cases hr
structure CallN (P : Program) (w : World) (K : Fg) (mg : Str → Option Value) (base : Heap) (x : Str) (k : Nat) (ps : List Str) (ks : List PK) (g : List D → Option D) : Prop where
  ex : ∃ f fd, mg x = some (.ref f) ∧ PySem.W.keepIn K (.ref f) = true ∧ Binds K fd ps [] ∧ FnOk P w K mg base CX0 k f fd ps (SpN K ks g)
theorem callN_of {P : Program} {w : World} {K : Fg} {mg : Str → Option Value} {base h : Heap} {x : Str} {st : Stmt} {k : Nat} {ps : List Str} {ks : List PK} {g : List D → Option D} (d : DefK K x st) (X : K.In h) (G : h.Ns mainGlobals mg) (hb : ∀ {f : Addr} {fd : FuncData}, Fun K x x st f fd → Binds K fd ps [])
    (hf : ∀ {f : Addr} {fd : FuncData}, Fun K x x st f fd → FnOk P w K mg base CX0 k f fd ps (SpN K ks g)) : CallN P w K mg base x k ps ks g := by
  obtain ⟨f, fd, h1, h2, h3, _⟩ := d.ex
  exact ⟨f, fd, PySem.W.mg_of X G h1, h3, hb h2, hf h2⟩
section
variable {X : Cx} {W : WX} {e : Expr} {es : List Expr} {pos p2 : Pos}
theorem n_cn {K : Fg} {x : Str} {ps : List Str} {k j : Nat} {ks : List PK} {g : List D → Option D} {t : TA} {m : M (List Op)} (c : CallN X.prog X.w X.K X.mg X.base x k ps ks g) (hr : Room j X.A) (h : XA X W (e :: es) t m) (hkj : k ≤ j := by decide) (hg : Gl X x := by rfl)
    (hdb : (x == ("__debug__" : Str)) = false := by decide) (hs : starEach (e :: es) X.env = (false, eval e X.env) :: starEach es X.env := by rfl) (hpl : (backTo pos (starEach es X.env)).any (·.1) = false := by rfl) (hK : X.K = K := by rfl) :
    XN X W (.Call (.Name x p2) (e :: es) [] pos) (tCall (SpN K ks g) [] E0 t) (mCallN ks g m) := by
  subst hK
  obtain ⟨f, fd, h1, h2, h3, h4⟩ := c.ex
  exact ⟨pe_call h4 (hr.mono hkj) hg h1 h2 h3 .nil pass0 h.p hdb hs hpl, en_callN h.v⟩
theorem s_retW {te : TE} {me : M D} (h : XN X W e te me) : XS X W (.Return (some e) pos) (tRet te) (mRetW me) := ⟨ps_ret h.p, es_retW h.v⟩
end
end DL

set_option Elab.async false
set_option linter.all false
set_option maxRecDepth 100000
set_option maxHeartbeats 400000
/-! DLs: a list of a slot walked, whether it is frozen, borrowed or one's own. -/
namespace DL
open PySem L2
def mSeqB (i : Nat) : M (List D) := fun δ => match δ[i]? with
  | some (.bo (.lst ds)) => some (.ok ds δ)
  | some (.bo _) => none
  | _ => mSeqOf (mVar i) δ
section
variable {K : Fg} {W : WX}
end
end DL

set_option Elab.async false
set_option linter.all false
set_option maxRecDepth 100000
set_option maxHeartbeats 400000
/-! DLt: max, min of two, int, list times n, pop(i), remove(x), reverse(). -/
namespace DL
open PySem L2
section
variable {X : Cx} {W : WX} {a b : Expr} {ta tb : TE} {oa ob : M Op} {p2 pos : Pos}
theorem x_int1 (hm : X.mg "int" = none) (ha : XO X W a ta oa) (hg : Gl X "int" := by rfl) (hs : starEach [a] X.env = (false, eval a X.env) :: starEach [] X.env := by rfl) :
    XE X W (.Call (.Name "int" p2) [a] [] pos) (tCB (fun xs H Q => (∃ i, xs = [V.int i] ∧ Q (.int i) H) ∨ ∃ k, xs = [V.bl k] ∧ Q (.int (if k then 1 else 0)) H) (tCons ta tNil)) (mA (fA1 intD) (maCons oa maNil)) :=
  x_ct call_int1 prim_int (by decide +kernel) hm (a_cons ha a_nil hs) hg (by decide) (by decide) hs rfl
end
/-! ### range with a step -/
section
variable {K : Fg} {W : WX}
end
/-! ### list times n -/
def repF : D → D → Option (List D)
  | .lst ds, .int k => if -1000000 ≤ k ∧ k ≤ 1000000 ∧ ds.length * k.toNat ≤ 1000000 then some (List.replicate k.toNat ds).flatten else none
  | _, _ => none
theorem reps_rep {K : Fg} {F : Hp} {ds : List D} {vs : List V} (h : Reps K F ds vs) : ∀ n : Nat, Reps K F (List.replicate n ds).flatten (List.replicate n vs).flatten
  | 0 => reps_nil
  | n + 1 => by
    rw [List.replicate_succ, List.replicate_succ, List.flatten_cons, List.flatten_cons]
    exact h.app (reps_rep h n)
theorem primN_rep {K : Fg} : PrimN2 K rRep repF := by
  intro F H v w d e ds fh hv hw hf Q k
  cases d with
  | lst es =>
    cases e with
    | int n =>
      obtain ⟨h1, h2⟩ := if_some (show (if -1000000 ≤ n ∧ n ≤ 1000000 ∧ es.length * n.toNat ≤ 1000000 then some (List.replicate n.toNat es).flatten else none) = some ds from hf)
      subst h2
      obtain ⟨a, vs, rfl, g1, g2, g3⟩ := hv.lst fh
      have hl : (List.replicate n.toNat es).flatten.length ≤ LB := by
        rw [List.length_flatten, List.map_replicate, List.sum_replicate_nat]
        have := h1.2.2
        unfold LB
        rw [Nat.mul_comm]
        exact this
      refine ⟨a, n, vs, rfl, hw.int, g1, by omega, by omega, by rw [g3.len]; exact LB_size h1.2.2, fun p hp => k p _ _ hp (same_upd hp) upd_same hl (reps_rep g3 n.toNat)⟩
    | _ => cases hf
  | _ => cases e <;> cases hf
section
variable {X : Cx} {W : WX} {a b : Expr} {ta tb : TE} {oa ob : M Op} {pos : Pos}
theorem n_rep (ha : XO X W a ta oa) (hb : XO X W b tb ob) : XN X W (.BinOp a .Mult b pos) (tOp rRep ta tb) (mn2 repF oa ob) := ⟨pe_op op_rep ha.p hb.p, en_2 primN_rep ha.v hb.v⟩
end
/-! ### texts compared -/
section
variable {X : Cx} {W : WX} {a b : Expr} {ta tb : TE} {oa ob : M Op} {pos : Pos}
end
/-! ### remove -/
section
variable {X : Cx} {W : WX} {o e : Expr} {apos pos : Pos}
end
end DL

set_option Elab.async false
set_option linter.all false
set_option maxRecDepth 100000
set_option maxHeartbeats 1000000
/-! DLu: list(zip(xs, ys)), sorted. -/
namespace DL
open PySem PySem.W PySem.Calls PyProof.Rows
abbrev IsZf (h : Heap) (z TI TO : Addr) (f0 f1 : Value) : Prop := h.get? z = some { cls := .type "zip", dict := none, data := .fields #[f0, f1, .bool false, .ref TI, .ref TO], slots := #[] }
section
variable {prog : Program} {w : World} {A : Around} {E : Value → Shared → Prop} {s : Shared}
theorem owned_out {z TI TO T : Addr} {b1 : Bool} {oT : Obj} {Q : Bool → Shared → Prop} (hz : IsZf s.heap z TI TO (rawInt T) (.bool b1)) (hT : s.heap.get? T = some oT)
    (hQ : ∀ h', IsZf h' z TI TO (rawInt T) (.bool true) → Heap.SameBut z s.heap h' → Q false { s with heap := h' }) : wpAny (model prog w) A (Builtin.SmallTypes.ownedTupleIsFree (.ref z)) Q E s := by
  unfold Builtin.SmallTypes.ownedTupleIsFree
  refine wpAny_bind (wpAny_field hz rfl (x := rawInt T) rfl ?_)
  show wpAny _ _ (loadIfAlive ((T : Int).toNat) >>= _) _ _ _
  rw [Int.toNat_natCast]
  refine wpAny_bind (kdx_alive hT ?_)
  simp only [Option.isNone_some, Bool.false_eq_true, if_false]
  refine wpAny_bind (wpAny_field hz rfl (x := .bool b1) rfl ?_)
  cases b1 with
  | true =>
    rw [if_neg (show ¬ ((Value.bool true != Value.bool true) = true) from Bool.false_ne_true)]
    exact wpAny_pure (hQ _ hz (Heap.SameBut.refl _ _))
  | false =>
    rw [if_pos (show (Value.bool false != Value.bool true) = true from rfl)]
    refine wpAny_bind (wpAny_setField_rec hz (by simp) fun h₃ he₃ hs₃ => ?_)
    exact wpAny_pure (hQ h₃ he₃ hs₃)
theorem zip_next_out {z TI TO i1 i2 l1 l2 T : Addr} {k1 k2 : Nat} {b1 : Bool} {oT : Obj} {xs ys : Array Value} {x y : Value} {Q : Value → Shared → Prop} (D : ZipApart z TI TO i1 i2 l1 l2)
    (hz : IsZf s.heap z TI TO (rawInt T) (.bool b1)) (hT : s.heap.get? T = some oT) (hTI : IsPair s.heap TI (.ref i1) (.ref i2))
    (h1 : s.heap.IsListIter i1 l1 k1) (h2 : s.heap.IsListIter i2 l2 k2) (hl1 : s.heap.IsList l1 xs) (hl2 : s.heap.IsList l2 ys) (hx : xs[k1]? = some x) (hy : ys[k2]? = some y)
    (hQ : ∀ h', IsZf h' z TI TO (rawInt T) (.bool true) → h'.IsListIter i1 l1 (k1 + 1) → h'.IsListIter i2 l2 (k2 + 1) → IsPair h' s.heap.objs.size x y → h'.objs.size = s.heap.objs.size + 1 →
      (∀ c o, c ≠ z → c ≠ i1 → c ≠ i2 → s.heap.get? c = some o → h'.get? c = some o) → Q (.ref s.heap.objs.size) { s with heap := h' }) :
    wpAny (model prog w) A (Builtin.«zip.__next__» ⟨[.ref z], []⟩) (fun fin s' => ∃ v, fin = .done (.ret v) ∧ Q v s') E s := by
  show wpAny _ _ (field (.ref z) 2 >>= _) _ _ _
  refine wpAny_bind (wpAny_field hz rfl (x := .bool false) rfl ?_)
  show wpAny _ _ (field (.ref z) 3 >>= _) _ _ _
  refine wpAny_bind (wpAny_field hz rfl (x := .ref TI) rfl ?_)
  refine wpAny_bind (wpAny_seqItems hTI rfl ?_)
  show wpAny _ _ (Builtin.SmallTypes.ownedTupleIsFree (.ref z) >>= _) _ _ _
  refine wpAny_bind (owned_out hz hT fun h₁ hz₁ hs₁ => ?_)
  simp only [Bool.false_eq_true, if_false]
  refine wpAny_bind ?_
  rw [← Array.forIn_toList]
  simp only [List.forIn_cons, List.forIn_nil]
  refine wpAny_bind (wpAny_bind (wpAny_holding ?_))
  show wpAny _ _ (Builtin.SmallTypes.nextOf (.ref i1) >>= _) _ _ _
  refine wpAny_bind (wpAny_nextOf_list_item (h1.extBut hs₁.extBut D.i1z) (hl1.extBut hs₁.extBut D.l1z) hx fun h₂ h1₂ hs₂ => wpAny_pure ?_)
  refine wpAny_pure ?_
  refine wpAny_bind (wpAny_bind (wpAny_holding ?_))
  show wpAny _ _ (Builtin.SmallTypes.nextOf (.ref i2) >>= _) _ _ _
  refine wpAny_bind (wpAny_nextOf_list_item ((h2.extBut hs₁.extBut D.i2z).extBut hs₂.extBut D.i12.symm)
    ((hl2.extBut hs₁.extBut D.l2z).extBut hs₂.extBut D.l2i1) hy fun h₄ h2₄ hs₄ => wpAny_pure ?_)
  refine wpAny_pure (wpAny_pure ?_)
  refine wpAny_bind (wpAny_newTuple (hsz := by show 2 ≤ sizeLine; decide) ?_)
  have hsz : h₄.objs.size = s.heap.objs.size := by rw [hs₄.1, hs₂.1, hs₁.1]
  have hz₄ : IsZf h₄ z TI TO (rawInt T) (.bool true) := hs₄.extBut _ _ D.i2z.symm (hs₂.extBut _ _ D.i1z.symm hz₁)
  have h1₄ : h₄.IsListIter i1 l1 (k1 + 1) := h1₂.extBut hs₄.extBut D.i12
  have hk : ∀ c o, c ≠ z → c ≠ i1 → c ≠ i2 → s.heap.get? c = some o → h₄.get? c = some o := fun c o c1 c3 c4 e => hs₄.extBut _ _ c4 (hs₂.extBut _ _ c3 (hs₁.extBut _ _ c1 e))
  refine wpAny_pure ⟨_, rfl, ?_⟩
  show Q (.ref h₄.objs.size) _
  have hT₅ : IsPair (h₄.push { cls := .type "tuple", data := .seq #[x, y] }) h₄.objs.size x y := Heap.get?_push_size _ rfl
  have hz5 : (h₄.push { cls := .type "tuple", data := .seq #[x, y] }).objs.size = h₄.objs.size + 1 := Heap.size_push ..
  rw [hsz] at hT₅ hz5 ⊢
  exact hQ _ (Heap.get?_push_of_some _ hz₄) (h1₄.at fun o e => Heap.get?_push_of_some _ e) (h2₄.at fun o e => Heap.get?_push_of_some _ e) hT₅ hz5 fun c o c1 c3 c4 e => Heap.get?_push_of_some _ (hk c o c1 c3 c4 e)
theorem zip_end_out {z TI TO i1 i2 l1 l2 T : Addr} {k1 k2 : Nat} {b1 : Bool} {oT : Obj} {xs ys : Array Value} {Q : Fin → Shared → Prop} (hh : A.handled = none) (D : ZipApart z TI TO i1 i2 l1 l2)
    (hz : IsZf s.heap z TI TO (rawInt T) (.bool b1)) (hT : s.heap.get? T = some oT) (hTI : IsPair s.heap TI (.ref i1) (.ref i2))
    (h1 : s.heap.IsListIter i1 l1 k1) (h2 : s.heap.IsListIter i2 l2 k2) (hl1 : s.heap.IsList l1 xs) (hl2 : s.heap.IsList l2 ys) (hend : xs[k1]? = none ∨ ys[k2]? = none)
    (hE : ∀ h' e, (∀ c o, c ≠ z → c ≠ i1 → c ≠ i2 → s.heap.get? c = some o → h'.get? c = some o) → (∃ o, h'.get? e = some o ∧ o.cls = .type "StopIteration") → E (.ref e) { s with heap := h' }) :
    wpAny (model prog w) A (Builtin.«zip.__next__» ⟨[.ref z], []⟩) Q E s := by
  show wpAny _ _ (field (.ref z) 2 >>= _) _ _ _
  refine wpAny_bind (wpAny_field hz rfl (x := .bool false) rfl ?_)
  show wpAny _ _ (field (.ref z) 3 >>= _) _ _ _
  refine wpAny_bind (wpAny_field hz rfl (x := .ref TI) rfl ?_)
  refine wpAny_bind (wpAny_seqItems hTI rfl ?_)
  show wpAny _ _ (Builtin.SmallTypes.ownedTupleIsFree (.ref z) >>= _) _ _ _
  refine wpAny_bind (owned_out hz hT fun h₁ hz₁ hs₁ => ?_)
  simp only [Bool.false_eq_true, if_false]
  refine wpAny_bind ?_
  rw [← Array.forIn_toList]
  simp only [List.forIn_cons, List.forIn_nil]
  refine wpAny_bind (wpAny_bind (wpAny_holding ?_))
  show wpAny _ _ (Builtin.SmallTypes.nextOf (.ref i1) >>= _) _ _ _
  cases hx : xs[k1]? with
  | none => exact wpAny_bind (wpAny_nextOf_list_end hh (h1.extBut hs₁.extBut D.i1z) (hl1.extBut hs₁.extBut D.l1z) hx fun h₂ e hs₂ he => hE h₂ e (fun c o c1 c3 _ x => hs₂ _ _ c3 (hs₁.extBut _ _ c1 x)) he)
  | some x =>
    have hy : ys[k2]? = none := by rcases hend with h | h; rw [hx] at h; cases h; exact h
    refine wpAny_bind (wpAny_nextOf_list_item (h1.extBut hs₁.extBut D.i1z) (hl1.extBut hs₁.extBut D.l1z) hx fun h₂ h1₂ hs₂ => wpAny_pure ?_)
    refine wpAny_pure ?_
    refine wpAny_bind (wpAny_bind (wpAny_holding ?_))
    show wpAny _ _ (Builtin.SmallTypes.nextOf (.ref i2) >>= _) _ _ _
    exact wpAny_bind (wpAny_nextOf_list_end hh ((h2.extBut hs₁.extBut D.i2z).extBut hs₂.extBut D.i12.symm) ((hl2.extBut hs₁.extBut D.l2z).extBut hs₂.extBut D.l2i1) hy fun h₄ e hs₄ he =>
      hE h₄ e (fun c o c1 c3 c4 x => hs₄ _ _ c4 (hs₂.extBut _ _ c3 (hs₁.extBut _ _ c1 x))) he)
/-- a zip of two lists, k of its pairs handed out and kept -/
structure ZSt (h : Heap) (z TI TO i1 i2 l1 l2 S : Addr) (k : Nat) : Prop where
  pti : IsPair h TI (.ref i1) (.ref i2)
  p1 : h.IsListIter i1 l1 k
  p2 : h.IsListIter i2 l2 k
  pz : (IsZf h z TI TO .none (.bool false) ∧ ∃ a b, IsPair h TO a b) ∨ ∃ (T : Addr) (b1 : Bool) (oT : Obj), IsZf h z TI TO (rawInt T) (.bool b1) ∧ h.get? T = some oT ∧ T ≠ z ∧ T ≠ i1 ∧ T ≠ i2 ∧ T ≠ S
theorem ZSt.item {z TI TO i1 i2 l1 l2 S : Addr} {k : Nat} {xs ys : Array Value} {x y : Value} {Q : Option Value → Shared → Prop} (D : ZipApart z TI TO i1 i2 l1 l2) (Z : ZSt s.heap z TI TO i1 i2 l1 l2 S k) (hS : S < s.heap.objs.size)
    (hl1 : s.heap.IsList l1 xs) (hl2 : s.heap.IsList l2 ys) (hx : xs[k]? = some x) (hy : ys[k]? = some y)
    (hQ : ∀ h', ZSt h' z TI TO i1 i2 l1 l2 S (k + 1) → IsPair h' s.heap.objs.size x y → h'.objs.size = s.heap.objs.size + 1 →
      (∀ c o, c ≠ z → c ≠ TO → c ≠ i1 → c ≠ i2 → s.heap.get? c = some o → h'.get? c = some o) → Q (some (.ref s.heap.objs.size)) { s with heap := h' }) :
    wpAny (model prog w) A (pyNext (.ref z)) Q E s := by
  have l1s : i1 < s.heap.objs.size := by obtain ⟨_, e, _⟩ := Z.p1; exact Heap.lt_size e
  have l2s : i2 < s.heap.objs.size := by obtain ⟨_, e, _⟩ := Z.p2; exact Heap.lt_size e
  rcases Z.pz with ⟨hz, a, b, hTO⟩ | ⟨T, b1, oT, hz, hT, n1, n2, n3, n4⟩
  · have lz := Heap.lt_size hz
    refine wpAny_pyNext_zip_item D hz Z.pti hTO Z.p1 Z.p2 hl1 hl2 hx hy fun h' a1 a2 a3 a4 a5 a6 a7 => ?_
    exact hQ h' ⟨a7 _ _ D.TIz D.TITO D.TIi1 D.TIi2 Z.pti, a3, a4, Or.inr ⟨_, false, _, a1, a5, Nat.ne_of_gt lz, Nat.ne_of_gt l1s, Nat.ne_of_gt l2s, Nat.ne_of_gt hS⟩⟩ a5 a6 a7
  · have hty : s.TypeIs (.ref z) "zip" := ⟨_, hz, rfl⟩
    unfold pyNext
    refine wpAny_bind (wpAny_attempt (wpAny_callSpecial?_slot (name := Str.ofString "__next__") hty F.slot_zip_next
      (wpAny_call_entry F.slot_zip_next hty F.entry_zip_next
        (zip_next_out D hz hT Z.pti Z.p1 Z.p2 hl1 hl2 hx hy fun h' a1 a3 a4 a5 a6 a7 => wpAny_pure ?_) (F.args_zip_next_1 _))))
    exact hQ h' ⟨a7 _ _ D.TIz D.TIi1 D.TIi2 Z.pti, a3, a4, Or.inr ⟨T, true, oT, a1, a7 _ _ n1 n2 n3 hT, n1, n2, n3, n4⟩⟩ a5 a6 fun c o c1 _ c3 c4 e => a7 c o c1 c3 c4 e
theorem ZSt.done {z TI TO i1 i2 l1 l2 S : Addr} {k : Nat} {xs ys : Array Value} {Q : Option Value → Shared → Prop} (hh : A.handled = none) (D : ZipApart z TI TO i1 i2 l1 l2) (Z : ZSt s.heap z TI TO i1 i2 l1 l2 S k)
    (hl1 : s.heap.IsList l1 xs) (hl2 : s.heap.IsList l2 ys) (hend : xs[k]? = none ∨ ys[k]? = none)
    (hQ : ∀ h', (∀ c o, c ≠ z → c ≠ TO → c ≠ i1 → c ≠ i2 → s.heap.get? c = some o → h'.get? c = some o) → Q none { s with heap := h' }) : wpAny (model prog w) A (pyNext (.ref z)) Q E s := by
  rcases Z.pz with ⟨hz, a, b, hTO⟩ | ⟨T, b1, oT, hz, hT, n1, n2, n3, n4⟩
  · exact wpAny_pyNext_zip_end hh D hz Z.pti hTO Z.p1 Z.p2 hl1 hl2 hend hQ
  · have hty : s.TypeIs (.ref z) "zip" := ⟨_, hz, rfl⟩
    unfold pyNext
    refine wpAny_bind (wpAny_attempt (wpAny_callSpecial?_slot (name := Str.ofString "__next__") hty F.slot_zip_next
      (wpAny_call_entry F.slot_zip_next hty F.entry_zip_next (zip_end_out hh D hz hT Z.pti Z.p1 Z.p2 hl1 hl2 hend fun h' e hk he => ?_) (F.args_zip_next_1 _))))
    obtain ⟨o, ho, hc⟩ := he
    refine wpAny_bind (wpAny_isInstance (T := "StopIteration") (b := true) ⟨o, ho, hc⟩ isSubtype_stop ?_)
    exact wpAny_pure (hQ _ fun c o c1 _ c3 c4 e => hk c o c1 c3 c4 e)
theorem ZSt.keep {h h' : Heap} {z TI TO i1 i2 l1 l2 S : Addr} {k : Nat} (Z : ZSt h z TI TO i1 i2 l1 l2 S k) (up : ∀ b o, b ≠ S → h.get? b = some o → h'.get? b = some o) (nz : z ≠ S) (nTI : TI ≠ S) (nTO : TO ≠ S) (n1 : i1 ≠ S) (n2 : i2 ≠ S) : ZSt h' z TI TO i1 i2 l1 l2 S k :=
  ⟨up _ _ nTI Z.pti, Z.p1.at fun o e => up _ o n1 e, Z.p2.at fun o e => up _ o n2 e, Z.pz.imp (fun ⟨a, b, c, d⟩ => ⟨up _ _ nz a, b, c, up _ _ nTO d⟩) fun ⟨T, b1, oT, hz, hT, a1, a2, a3, a4⟩ => ⟨T, b1, oT, up _ _ nz hz, up _ _ a4 hT, a1, a2, a3, a4⟩⟩
end
structure ZG (xs ys : Array Value) (lo : Addr) (h : Heap) (as : List Addr) : Prop where
  rise : as.Pairwise (· < ·)
  above : ∀ a ∈ as, lo < a
  pairs : ∀ (j : Nat) (a : Addr), as[j]? = some a → ∃ x y, xs[j]? = some x ∧ ys[j]? = some y ∧ IsPair h a x y
theorem ZG.there {xs ys : Array Value} {lo : Addr} {h : Heap} {as : List Addr} (g : ZG xs ys lo h as) {a : Addr} (ha : a ∈ as) : a < h.objs.size := by
  obtain ⟨j, hj⟩ := List.mem_iff_getElem?.mp ha
  obtain ⟨_, _, _, _, e⟩ := g.pairs j a hj
  exact Heap.lt_size e
section
variable {prog : Program} {w : World} {A : Around} {s : Shared} {R : Result → Shared → Prop} {xs ys : Array Value}
end
end DL

set_option Elab.async false
set_option linter.all false
set_option maxRecDepth 100000
set_option maxHeartbeats 1000000
/-! DLv: list(zip(xs, ys)) as a rule over data. -/
namespace DL
open PySem L2
section
variable {X : Cx} {pins : List (Addr × Obj)} {σ : St} {H H' : Hp} {s : Shared} {h' : Heap}
end
section
variable {X : Cx} {e1 e2 : Expr} {t : TA} {p p1 pos1 pos : Pos}
end
section
variable {K : Fg} {W : WX}
end
end DL

set_option Elab.async false
set_option linter.all false
set_option maxRecDepth 100000
set_option maxHeartbeats 400000
/-! DLw: enumerate of a list of a slot, whether it is frozen, borrowed or one's own. -/
namespace DL
open PySem L2
def mEnumB (i : Nat) : M (List D) := fun δ => match δ[i]? with
  | some (.bo (.lst ds)) => some (.ok (enumD ds) δ)
  | some (.bo _) => none
  | _ => mIt enumF (mdCons (mVar i) mdNil) δ
section
variable {K : Fg} {W : WX}
end
end DL

set_option Elab.async false
set_option linter.all false
set_option maxRecDepth 100000
set_option maxHeartbeats 400000
/-! DLx: a, b = x, y; // by great numbers. -/
namespace DL
open PySem L2
section
variable {X : Cx} {W : WX} {a b : Expr} {ta tb : TE} {oa ob : M Op} {pos : Pos}
end
def mPar (i j : Nat) (m : M (List D)) : Ms := mS m fun ds => match ds with
  | [a, b] => fun δ => some (.nx ((δ.set i (.fr a)).set j (.fr b)))
  | _ => fun _ => none
section
variable {K : Fg} {W : WX}
end
end DL

set_option Elab.async false
set_option linter.all false
set_option maxRecDepth 100000
set_option maxHeartbeats 400000
/-! DLy: continue; a text in a tuple of texts; max, min of a list of ints. -/
namespace DL
open PySem L2
section
variable {X : Cx} {W : WX} {pos : Pos}
end
section
variable {X : Cx} {W : WX} {a b : Expr} {ta tb : TE} {oa ob : M Op} {pos : Pos}
end
/-! ### max, min of a list -/
section
variable {X : Cx} {W : WX} {a : Expr} {ta : TE} {oa : M Op} {p2 pos : Pos}
end
end DL

set_option Elab.async false
set_option linter.all false
set_option maxRecDepth 100000
set_option maxHeartbeats 400000
/-! DLz: data compared by order; list(range(..)). -/
namespace DL
open PySem L2
open PySem.W (alike)
/-! ### data compared -/
section
variable {X : Cx}
variable {W : WX} {a b : Expr} {ta tb : TE} {oa ob : M Op} {p2 pos : Pos}
end
/-! ### list(range(..)) -/
section
variable {X : Cx} {W : WX} {a b : Expr} {ta tb : TE} {oa ob : M Op} {p2 p3 pos pos2 : Pos}
end
end DL

set_option Elab.async false
set_option linter.all false
set_option maxRecDepth 100000
set_option maxHeartbeats 400000
/-! DLzb: min, max of two data. -/
namespace DL
open PySem L2
open PySem.W (alike)
section
variable {prog : Program} {w : World} {A : Around} {E : Value → Shared → Prop} {s : Shared} {a b : Value} {p q : PyData} {as bs : List Addr} {Q : Value → Shared → Prop}
end
/-! ### min, max of two tuples -/
section
variable {X : Cx}
variable {W : WX} {a b : Expr} {ta tb : TE} {oa ob : M Op} {p2 pos : Pos}
end
end DL

set_option Elab.async false
set_option linter.all false
set_option maxRecDepth 100000
set_option maxHeartbeats 400000
/-! DLzc: == by a class's own def. -/
namespace DL
open PySem L2
section
variable {X : Cx} {n m : Nat} {C f : Addr} {fd : FuncData} {ps : List Str} {S : Sp}
end
/-- what is known of a class's own == -/
structure EqO (P : Program) (w : World) (K : Fg) (mg : Str → Option Value) (base : Heap) (C : Addr) (k : Nat) (g : List D → Option D) : Prop where
  ex : ∃ f fd ps, PySem.W.findIn K (.ref C) "__eq__" = some (some (.ref f)) ∧ PySem.W.isFn K (.ref f) = true ∧ Binds K fd ps [] ∧ FnOk P w K mg base CX0 k f fd ps (SpP K [.bo, .bo] g)
section
variable {X : Cx} {W : WX} {a b : Expr} {ta tb : TE} {oa ob : M Op} {pos : Pos}
end
end DL

set_option Elab.async false
set_option linter.all false
set_option maxRecDepth 100000
set_option maxHeartbeats 400000
/-! DLzd: l.index(x) of data. -/
namespace DL
open PySem L2
section
variable {X : Cx} {o e : Expr} {apos cpos : Pos}
end
end DL

set_option Elab.async false
set_option linter.all false
set_option maxRecDepth 100000
set_option maxHeartbeats 400000
/-! DLze: isinstance of an own class; a class's own ==, as the top has written it. -/
namespace DL
open PySem L2
/-- an own class, as isinstance asks for it -/
structure InsK (K : Fg) (C : Addr) : Prop where
  i : C8.InsC K C
  ty : PySem.W.typeIn K (.ref C) = some (.type "type")
section
variable {X : Cx} {W : WX} {a : Expr} {ta : TE} {oa : M Op} {pos : Pos}
end
section
variable {P : Program} {w : World} {K : Fg} {mg : Str → Option Value} {base h : Heap}
end
end DL

set_option Elab.async false
set_option linter.all false
set_option maxRecDepth 100000
set_option maxHeartbeats 1000000
/-! DLzf: zip(text, list), the text of ASCII signs: one step, the end, the making. -/
namespace DL
open PySem PySem.W PySem.Calls PyProof.Rows
section
variable {prog : Program} {w : World} {A : Around} {E : Value → Shared → Prop} {s : Shared}
end
end DL

set_option Elab.async false
set_option linter.all false
set_option maxRecDepth 100000
set_option maxHeartbeats 1000000
/-! DLzg: for a, b in zip(text, list). -/
namespace DL
open PySem
section
open PySem.W PySem.Calls PyProof.Rows
variable {prog : Program} {w : World} {A : Around} {E : Value → Shared → Prop} {s : Shared}
end
open L2
section
variable {K : Fg} {W : WX}
end
end DL

set_option Elab.async false
set_option linter.all false
set_option maxRecDepth 100000
set_option maxHeartbeats 400000
/-! DLzh: an own object lent while an expression runs. -/
namespace DL
open PySem L2
section
variable {K : Fg} {W : WX}
end
section
variable {X : Cx} {W : WX} {te : TE} {pos : Pos} {me : M D} {tg : Expr} {q : Bool} {elt iter : Expr} {ifs : List Expr} {scope : Scope} {own : List (Str × Nat)} {wi : TI} {g : TG} {tt : TT} {it : M (List D)} {ga : Mg} {mt : M Bool}
end
end DL

set_option Elab.async false
set_option linter.all false
set_option maxRecDepth 100000
set_option maxHeartbeats 400000
/-! DLzi: min, max of a tuple or a list of two tuples. -/
namespace DL
open PySem L2
open PySem.W (alike)
section
variable {prog : Program} {w : World} {A : Around} {E : Value → Shared → Prop} {s : Shared} {a b : Value} {p q : PyData} {as bs : List Addr} {Q : Value → Shared → Prop} {l : Addr}
end
section
variable {X : Cx}
variable {W : WX} {a : Expr} {ta : TE} {oa : M Op} {p2 pos : Pos}
end
end DL

set_option Elab.async false
set_option linter.all false
set_option maxRecDepth 100000
set_option maxHeartbeats 400000
/-! DLzj: != by a class's own ==; an item of a list or of a dict. -/
namespace DL
open PySem L2
section
variable {prog : Program} {w : World} {A : Around} {E : Value → Shared → Prop} {s : Shared} {K : PySem.W.Frag} {x C L f : Addr} {h₀ : Heap} {m : Str → Option Value} {ox : Obj} {od : Option Obj} {b tb : Value}
end
/-! the rule -/
section
variable {X : Cx} {n m : Nat} {C f : Addr} {fd : FuncData} {ps : List Str} {S : Sp}
end
/-- what is known of a class's != -/
structure NeO (P : Program) (w : World) (K : Fg) (mg : Str → Option Value) (base : Heap) (C : Addr) (k : Nat) (g : List D → Option D) : Prop where
  eq : EqO P w K mg base C k g
  ne : PySem.W.findIn K (.ref C) "__ne__" = some (some (.builtin "object.__ne__"))
  ob : PySem.W.mroIn K C (.type "object") = some true
section
variable {X : Cx} {W : WX} {a b : Expr} {ta tb : TE} {oa ob : M Op} {pos : Pos}
end
/-! an item of a list, a tuple, a text or a dict -/
section
variable {X : Cx} {W : WX} {a b : Expr} {ta tb : TE} {oa ob : M Op} {pos : Pos}
end
end DL

set_option Elab.async false
set_option linter.all false
set_option maxRecDepth 100000
set_option maxHeartbeats 400000
/-! MAa: plain laws about what mirrors compute: loops, comprehensions. -/
namespace DL
open PySem L2
/-- a comprehension without a test, its element of the item alone -/
theorem lcL_map {α : Type} (enc f : α → D) (g : Mg) (e : M D) (vs : List Nat) (ω : En) : ∀ (as : List α) (acc : List D), (∀ a ∈ as, ∃ δ1 δ2, g (enc a) ω = some δ1 ∧ e δ1 = some (.ok (f a) δ2) ∧ wipeE δ2 vs = ω) →
    lcL g mYes e vs acc (as.map enc) ω = some (.ok (acc ++ as.map f) ω)
  | [], acc, _ => by rw [List.map_nil, List.map_nil, List.append_nil]; rfl
  | a :: as, acc, h => by
    obtain ⟨δ1, δ2, h1, h2, h3⟩ := h a List.mem_cons_self
    rw [List.map_cons]
    simp only [lcL, h1, mYes, M.ret, h2, h3]
    have := lcL_map enc f g e vs ω as (acc ++ [f a]) fun a' m => h a' (List.mem_cons_of_mem _ m)
    refine this.trans ?_
    rw [List.map_cons, List.append_assoc]
    rfl
theorem mLc_map {α : Type} {as : List α} {enc f : α → D} {it : M (List D)} {g : Mg} {e : M D} {vs : List Nat} {δ δ0 ω : En} (hit : it δ = some (.ok (as.map enc) δ0)) (hw : wipeE δ0 vs = ω)
    (h : ∀ a ∈ as, ∃ δ1 δ2, g (enc a) ω = some δ1 ∧ e δ1 = some (.ok (f a) δ2) ∧ wipeE δ2 vs = ω) : mLc it g mYes e vs δ = some (.ok (.lst (as.map f)) ω) := by
  unfold mLc M.bind
  simp only [hit, hw, lcL_map enc f g e vs ω as [] h, List.nil_append]
end DL

set_option Elab.async false
set_option linter.all false
set_option maxRecDepth 100000
set_option maxHeartbeats 400000
/-! MAb: plain data (no truths, no objects): equality, membership, counts, sorting said by data alone. -/
namespace DL
open PySem L2
noncomputable instance : DecidableEq D := fun a b => Classical.propDecidable (a = b)
/-- data without truths, objects and dicts, of a depth -/
def Pl : Nat → D → Prop
  | _, .non => True
  | _, .int _ => True
  | _, .str x => PyData.strOk x = true
  | 0, _ => False
  | n + 1, .tup ds => ∀ d ∈ ds, Pl n d
  | n + 1, .lst ds => ∀ d ∈ ds, Pl n d
  | _ + 1, _ => False
theorem Pl.non {n : Nat} : Pl n .non := by cases n <;> simp [Pl]
theorem Pl.int {n : Nat} {i : Int} : Pl n (.int i) := by cases n <;> simp [Pl]
theorem Pl.str {n : Nat} {x : Str} (h : PyData.strOk x = true) : Pl n (.str x) := by cases n <;> simp [Pl, h]
theorem Pl.str_iff {n : Nat} {x : Str} : Pl n (.str x) ↔ PyData.strOk x = true := by cases n <;> simp [Pl]
theorem Pl.tup {n : Nat} {ds : List D} (h : ∀ d ∈ ds, Pl n d) : Pl (n + 1) (.tup ds) := by simpa [Pl] using h
theorem Pl.lst {n : Nat} {ds : List D} (h : ∀ d ∈ ds, Pl n d) : Pl (n + 1) (.lst ds) := by simpa [Pl] using h
theorem Pl.tup_iff {n : Nat} {ds : List D} : Pl (n + 1) (.tup ds) ↔ ∀ d ∈ ds, Pl n d := by simp [Pl]
theorem Pl.lst_iff {n : Nat} {ds : List D} : Pl (n + 1) (.lst ds) ↔ ∀ d ∈ ds, Pl n d := by simp [Pl]
theorem Pl.up : ∀ {n : Nat} {d : D}, Pl n d → Pl (n + 1) d
  | 0, d, h => by cases d <;> simp [Pl] at h ⊢; exact h
  | n + 1, d, h => by
    cases d <;> simp [Pl] at h ⊢
    · exact h
    · exact fun d hd => (h d hd).up
    · exact fun d hd => (h d hd).up
theorem Pl.mono {n m : Nat} {d : D} (h : Pl n d) (l : n ≤ m) : Pl m d := by
  induction l with
  | refl => exact h
  | step _ ih => exact ih.up
theorem toPys_enc : ∀ {ds : List D}, (∀ d ∈ ds, toPy d = some (encD d)) → toPys ds = some (ds.map encD)
  | [], _ => rfl
  | d :: ds, h => by
    have h1 := h d List.mem_cons_self
    have h2 := toPys_enc (ds := ds) fun e he => h e (List.mem_cons_of_mem _ he)
    simp only [toPys, h1, h2, List.map_cons]
theorem canLayAll {ps : List PyData} : (∀ p ∈ ps, p.canLay0 = true) → PyData.canLayAll0 ps = true := by
  induction ps with
  | nil => intro; simp [PyData.canLayAll0]
  | cons p ps ih => intro h; simp [PyData.canLayAll0, h p List.mem_cons_self, ih fun q hq => h q (List.mem_cons_of_mem _ hq)]
theorem depthAll_le {ps : List PyData} {n : Nat} : (∀ p ∈ ps, p.depth ≤ n) → PyData.depthAll ps ≤ n := by
  induction ps with
  | nil => intro; simp [PyData.depthAll]
  | cons p ps ih => intro h; rw [PyData.depthAll]; exact Nat.max_le.mpr ⟨h p List.mem_cons_self, ih fun q hq => h q (List.mem_cons_of_mem _ hq)⟩
theorem Pl.enc : ∀ {n : Nat} {d : D}, Pl n d → toPy d = some (encD d) ∧ (encD d).canLay0 = true ∧ (encD d).depth ≤ n
  | n, .non, _ => ⟨rfl, by simp [encD, toPy, PyData.canLay0], by simp [encD, toPy, PyData.depth]⟩
  | n, .int i, _ => ⟨rfl, by simp [encD, toPy, PyData.canLay0], by simp [encD, toPy, PyData.depth]⟩
  | n, .str x, h => ⟨rfl, by simp [encD, toPy, PyData.canLay0, Pl.str_iff.mp h], by simp [encD, toPy, PyData.depth]⟩
  | n + 1, .tup ds, h => by
    have h := Pl.tup_iff.mp h
    have e := toPys_enc fun d hd => (h d hd).enc.1
    have e1 : encD (.tup ds) = .tuple (ds.map encD) := by simp [encD, toPy, e]
    refine ⟨by rw [e1]; simp [toPy, e], ?_, ?_⟩
    · rw [e1]; simp only [PyData.canLay0]; exact canLayAll fun p hp => by obtain ⟨d, hd, rfl⟩ := List.mem_map.mp hp; exact (h d hd).enc.2.1
    · rw [e1]; simp only [PyData.depth]; exact Nat.succ_le_succ (depthAll_le fun p hp => by obtain ⟨d, hd, rfl⟩ := List.mem_map.mp hp; exact (h d hd).enc.2.2)
  | n + 1, .lst ds, h => by
    have h := Pl.lst_iff.mp h
    have e := toPys_enc fun d hd => (h d hd).enc.1
    have e1 : encD (.lst ds) = .list (ds.map encD) := by simp [encD, toPy, e]
    refine ⟨by rw [e1]; simp [toPy, e], ?_, ?_⟩
    · rw [e1]; simp only [PyData.canLay0]; exact canLayAll fun p hp => by obtain ⟨d, hd, rfl⟩ := List.mem_map.mp hp; exact (h d hd).enc.2.1
    · rw [e1]; simp only [PyData.depth]; exact Nat.succ_le_succ (depthAll_le fun p hp => by obtain ⟨d, hd, rfl⟩ := List.mem_map.mp hp; exact (h d hd).enc.2.2)
  | 0, .bl _, h => by simp [Pl] at h
  | n + 1, .bl _, h => by simp [Pl] at h
  | 0, .ins _ _ _, h => by simp [Pl] at h
  | n + 1, .ins _ _ _, h => by simp [Pl] at h
  | 0, .dk _ _, h => by simp [Pl] at h
  | n + 1, .dk _ _, h => by simp [Pl] at h
  | 0, .dn _ _ _, h => by simp [Pl] at h
  | n + 1, .dn _ _ _, h => by simp [Pl] at h
  | 0, .ob _ _ _ _, h => by simp [Pl] at h
  | n + 1, .ob _ _ _ _, h => by simp [Pl] at h
  | 0, .fn _, h => by simp [Pl] at h
  | n + 1, .fn _, h => by simp [Pl] at h
  | 0, .tup _, h => by simp [Pl] at h
  | 0, .lst _, h => by simp [Pl] at h
theorem encD_tup {n : Nat} {ds : List D} (h : ∀ d ∈ ds, Pl n d) : encD (.tup ds) = .tuple (ds.map encD) := by
  simp [encD, toPy, toPys_enc fun d hd => (h d hd).enc.1]
theorem encD_lst {n : Nat} {ds : List D} (h : ∀ d ∈ ds, Pl n d) : encD (.lst ds) = .list (ds.map encD) := by
  simp [encD, toPy, toPys_enc fun d hd => (h d hd).enc.1]
theorem eqvAll_iff : ∀ {ds es : List D}, (∀ d ∈ ds, ∀ e ∈ es, (PyData.eqv (encD d) (encD e) = true ↔ d = e)) → (PyData.eqvAll (ds.map encD) (es.map encD) = true ↔ ds = es)
  | [], [], _ => by simp [PyData.eqvAll]
  | [], e :: es, _ => by simp [PyData.eqvAll]
  | d :: ds, [], _ => by simp [PyData.eqvAll]
  | d :: ds, e :: es, h => by
    have h1 := h d List.mem_cons_self e List.mem_cons_self
    have h2 := eqvAll_iff (ds := ds) (es := es) fun x hx y hy => h x (List.mem_cons_of_mem _ hx) y (List.mem_cons_of_mem _ hy)
    simp [PyData.eqvAll, h1, h2]
theorem Pl.eqv : ∀ {n : Nat} {d e : D}, Pl n d → Pl n e → (PyData.eqv (encD d) (encD e) = true ↔ d = e)
  | 0, d, e, hd, he => by
    cases d <;> simp [Pl] at hd <;> cases e <;> simp [Pl] at he <;> simp [encD, toPy, PyData.eqv]
  | n + 1, d, e, hd, he => by
    cases d <;> simp [Pl] at hd <;> cases e <;> simp [Pl] at he <;> (try rw [encD_tup hd]) <;> (try rw [encD_lst hd]) <;> (try rw [encD_tup he]) <;> (try rw [encD_lst he]) <;> (try simp [encD, toPy, PyData.eqv])
    · exact eqvAll_iff fun x hx y hy => Pl.eqv (hd x hx) (he y hy)
    · exact eqvAll_iff fun x hx y hy => Pl.eqv (hd x hx) (he y hy)
theorem Pl.shaped {n : Nat} {d : D} (h : Pl n d) (hn : n ≤ 64) : SeqAt.shaped (encD d) = true := by
  have := h.enc
  simp only [SeqAt.shaped, this.2.1, Bool.true_and, decide_eq_true_eq]
  omega
theorem eqvB {n : Nat} {d e : D} (hd : Pl n d) (he : Pl n e) : PyData.eqv (encD d) (encD e) = decide (d = e) := by
  rw [Bool.eq_iff_iff, hd.eqv he, decide_eq_true_iff]
theorem pyEq_pl {n : Nat} {d e : D} (hn : n ≤ 64) (hd : Pl n d) (he : Pl n e) : pyEq d e = some (decide (d = e)) := by
  simp only [pyEq, hd.enc.1, he.enc.1, hd.shaped hn, he.shaped hn, Bool.and_self, if_true, eqvB hd he]
theorem eqD_pl (n : Nat) {d e : D} (hd : Pl n d) (he : Pl n e) (hn : n ≤ 64 := by decide) : eqD d e = some (.bl (decide (d = e))) := by
  simp only [eqD, pyEq_pl hn hd he, Option.map_some]
end DL

set_option Elab.async false
set_option linter.all false
set_option maxRecDepth 100000
set_option maxHeartbeats 400000
/-! ME: mirrors evaluated step by step: each word applied to an environment, by words over what its first part came to. `simp_arith only [..]` runs a mirror. -/
namespace DL
open PySem L2
section
variable {α β : Type}
def bK (f : α → M β) : Option (R α) → Option (R β)
  | some (.ok a δ) => f a δ
  | some (.ex x δ) => some (.ex x δ)
  | none => none
theorem bind_e (m : M α) (f : α → M β) (δ : En) : M.bind m f δ = bK f (m δ) := by unfold M.bind bK; rcases m δ with _ | (_ | _) <;> rfl
def liftK (o : Option α) (δ : En) : Option (R α) := match o with
  | some a => some (.ok a δ)
  | none => none
theorem lift_e (o : Option α) (δ : En) : M.lift o δ = liftK o δ := (rfl)
theorem liftK_s (a : α) (δ : En) : liftK (some a) δ = some (.ok a δ) := (rfl)
def sK (k : α → Ms) : Option (R α) → Option Ou
  | some (.ok a δ) => k a δ
  | some (.ex x δ) => some (.ex x δ)
  | none => none
theorem mS_e (m : M α) (k : α → Ms) (δ : En) : mS m k δ = sK k (m δ) := by unfold mS sK; rcases m δ with _ | (_ | _) <;> rfl
end
theorem mC_e (d : D) (δ : En) : mC d δ = some (.ok d δ) := (rfl)
def varK (i : Nat) (δ : En) : Option Sl → Option (R D)
  | some (.fr d) => some (.ok d δ)
  | some (.ow d) => some (.ok d (δ.set i (.fr d)))
  | _ => none
theorem mVar_e (i : Nat) (δ : En) : mVar i δ = varK i δ δ[i]? := (rfl)
def ovK (i : Nat) (δ : En) : Option Sl → Option (R Op)
  | some (.fr _) => some (.ok (.slot i) δ)
  | some (.bo _) => some (.ok (.slot i) δ)
  | some (.ow _) => some (.ok (.slot i) δ)
  | some (.io _) => some (.ok (.slot i) δ)
  | _ => none
theorem mOv_e (i : Nat) (δ : En) : mOv i δ = ovK i δ δ[i]? := by unfold mOv ovK; rcases δ[i]? with _ | s <;> first | rfl | (cases s <;> rfl)
def valK : Option (R D) → Option (R Op)
  | some (.ok d δ) => some (.ok (.val d) δ)
  | some (.ex x δ) => some (.ex x δ)
  | none => none
theorem mVal_e (m : M D) (δ : En) : mVal m δ = valK (m δ) := by unfold mVal M.bind valK M.ret; rcases m δ with _ | (_ | _) <;> rfl
def datK : Option Sl → Option D
  | some (.fr d) => some d
  | some (.bo d) => some d
  | some (.ow d) => some d
  | some (.io d) => some d
  | _ => none
theorem rd_v (d : D) (δ : En) : rd (.val d) δ = some d := (rfl)
theorem rd_s (i : Nat) (δ : En) : rd (.slot i) δ = datK δ[i]? := by show (match δ[i]? with | some s => s.dat | none => none) = _; unfold datK; rcases δ[i]? with _ | s <;> first | rfl | (cases s <;> rfl)
theorem mRd_e (o : Op) (δ : En) : mRd o δ = liftK (rd o δ) δ := by unfold mRd liftK; cases rd o δ <;> rfl
def m1L (f : D → Option D) (δ : En) : Option D → Option (R D)
  | some d => liftK (f d) δ
  | none => none
def m1K (f : D → Option D) : Option (R Op) → Option (R D)
  | some (.ok o δ) => m1L f δ (rd o δ)
  | some (.ex x δ) => some (.ex x δ)
  | none => none
theorem m1_e (f : D → Option D) (a : M Op) (δ : En) : m1 f a δ = m1K f (a δ) := by
  unfold m1 m1K
  rw [bind_e]
  rcases a δ with _ | (⟨o, δ'⟩ | _) <;> first | rfl | skip
  simp only [bK, bind_e, mRd]
  unfold m1L
  cases rd o δ' <;> rfl
theorem m1K_o (f : D → Option D) (o : Op) (δ : En) : m1K f (some (.ok o δ)) = m1L f δ (rd o δ) := (rfl)
theorem m1L_s (f : D → Option D) (d : D) (δ : En) : m1L f δ (some d) = liftK (f d) δ := (rfl)
def m2K (f : D → D → Option D) (b : M Op) : Option (R Op) → Option (R D) := bK fun o => b.bind fun q => (mRd o).bind fun d => (mRd q).bind fun e => M.lift (f d e)
def m2L (f : D → D → Option D) (o : Op) : Option (R Op) → Option (R D) := bK fun q => (mRd o).bind fun d => (mRd q).bind fun e => M.lift (f d e)
def m2N (f : D → D → Option D) (δ : En) : Option D → Option D → Option (R D)
  | some d, some e => liftK (f d e) δ
  | _, _ => none
theorem m2_e (f : D → D → Option D) (a b : M Op) (δ : En) : m2 f a b δ = m2K f b (a δ) := by unfold m2 m2K; rw [bind_e]
theorem m2K_o (f : D → D → Option D) (b : M Op) (o : Op) (δ : En) : m2K f b (some (.ok o δ)) = m2L f o (b δ) := by unfold m2K m2L; simp only [bK, bind_e]
theorem m2L_o (f : D → D → Option D) (o q : Op) (δ : En) : m2L f o (some (.ok q δ)) = m2N f δ (rd o δ) (rd q δ) := by
  unfold m2L m2N
  simp only [bK, bind_e, mRd_e, lift_e]
  cases h1 : rd o δ <;> cases h2 : rd q δ <;> simp only [h1, h2, bK, liftK, bind_e, mRd_e, lift_e]
theorem m2N_s (f : D → D → Option D) (d e : D) (δ : En) : m2N f δ (some d) (some e) = liftK (f d e) δ := (rfl)
def lstM : Option (List D) → Option D := Option.map D.lst
theorem lstM_s (ds : List D) : lstM (some ds) = some (.lst ds) := (rfl)
theorem mn1_e (f : D → Option (List D)) (a : M Op) (δ : En) : mn1 f a δ = m1K (fun d => lstM (f d)) (a δ) := m1_e (fun d => lstM (f d)) a δ
theorem mn2_e (f : D → D → Option (List D)) (a b : M Op) (δ : En) : mn2 f a b δ = m2K (fun d e => lstM (f d e)) b (a δ) := m2_e (fun d e => lstM (f d e)) a b δ
/-! arguments -/
theorem maNil_e (δ : En) : maNil δ = some (.ok [] δ) := (rfl)
def acK (b : M (List Op)) : Option (R Op) → Option (R (List Op)) := bK fun o => b.bind fun os => M.ret (o :: os)
def acL (o : Op) : Option (R (List Op)) → Option (R (List Op))
  | some (.ok os δ) => some (.ok (o :: os) δ)
  | some (.ex x δ) => some (.ex x δ)
  | none => none
theorem maCons_e (a : M Op) (b : M (List Op)) (δ : En) : maCons a b δ = acK b (a δ) := by unfold maCons acK; rw [bind_e]
theorem acK_o (b : M (List Op)) (o : Op) (δ : En) : acK b (some (.ok o δ)) = acL o (b δ) := by unfold acK acL; simp only [bK, M.bind, M.ret]; rcases b δ with _ | (_ | _) <;> rfl
theorem mdNil_e (δ : En) : mdNil δ = some (.ok [] δ) := (rfl)
def dcK (b : M (List D)) : Option (R D) → Option (R (List D)) := bK fun o => b.bind fun os => M.ret (o :: os)
def dcL (o : D) : Option (R (List D)) → Option (R (List D))
  | some (.ok os δ) => some (.ok (o :: os) δ)
  | some (.ex x δ) => some (.ex x δ)
  | none => none
theorem mdCons_e (a : M D) (b : M (List D)) (δ : En) : mdCons a b δ = dcK b (a δ) := by unfold mdCons dcK; rw [bind_e]
theorem dcK_o (b : M (List D)) (o : D) (δ : En) : dcK b (some (.ok o δ)) = dcL o (b δ) := by unfold dcK dcL; simp only [bK, M.bind, M.ret]; rcases b δ with _ | (_ | _) <;> rfl
def consO : Option D → Option (List D) → Option (List D)
  | some d, some ds => some (d :: ds)
  | _, _ => none
theorem rds_n (δ : En) : rds [] δ = some [] := (rfl)
theorem rds_c (o : Op) (os : List Op) (δ : En) : rds (o :: os) δ = consO (rd o δ) (rds os δ) := (rfl)
theorem consO_s (d : D) (ds : List D) : consO (some d) (some ds) = some (d :: ds) := (rfl)
def aK (f : List D → Option D) : Option (R (List Op)) → Option (R D) := bK fun os => (mRds os).bind fun ds => M.lift (f ds)
def aL (f : List D → Option D) (δ : En) : Option (List D) → Option (R D)
  | some ds => liftK (f ds) δ
  | none => none
theorem mA_e (f : List D → Option D) (a : M (List Op)) (δ : En) : mA f a δ = aK f (a δ) := by unfold mA aK; rw [bind_e]
theorem mnA_e (f : List D → Option (List D)) (a : M (List Op)) (δ : En) : mnA f a δ = aK (fun ds => lstM (f ds)) (a δ) := mA_e (fun ds => lstM (f ds)) a δ
theorem aK_o (f : List D → Option D) (os : List Op) (δ : En) : aK f (some (.ok os δ)) = aL f δ (rds os δ) := by unfold aK aL; simp only [bK, M.bind, mRds]; cases rds os δ <;> rfl
theorem aL_s (f : List D → Option D) (ds : List D) (δ : En) : aL f δ (some ds) = liftK (f ds) δ := (rfl)
theorem fA1_e (f : D → Option D) (d : D) : fA1 f [d] = f d := (rfl)
theorem fN1_e (f : D → Option (List D)) (d : D) : fN1 f [d] = f d := (rfl)
def tupK : Option (R (List D)) → Option (R D)
  | some (.ok ds δ) => if ds.length ≤ LB then some (.ok (.tup ds) δ) else none
  | some (.ex x δ) => some (.ex x δ)
  | none => none
theorem mTup_e (a : M (List D)) (δ : En) : mTup a δ = tupK (a δ) := by unfold mTup M.bind tupK M.lift; rcases a δ with _ | (⟨ds, _⟩ | _) <;> first | rfl | (by_cases h : ds.length ≤ LB <;> simp [h])
def lstK : Option (R (List D)) → Option (R D)
  | some (.ok ds δ) => if ds.length ≤ LB then some (.ok (.lst ds) δ) else none
  | some (.ex x δ) => some (.ex x δ)
  | none => none
theorem mLst_e (a : M (List D)) (δ : En) : mLst a δ = lstK (a δ) := by unfold mLst M.bind lstK M.lift; rcases a δ with _ | (⟨ds, _⟩ | _) <;> first | rfl | (by_cases h : ds.length ≤ LB <;> simp [h])
/-! tests -/
def testK : Option (R D) → Option (R Bool)
  | some (.ok (.bl b) δ) => some (.ok b δ)
  | some (.ex x δ) => some (.ex x δ)
  | _ => none
theorem mTest_e (m : M D) (δ : En) : mTest m δ = testK (m δ) := by unfold mTest M.bind testK M.lift; rcases m δ with _ | (⟨d, _⟩ | _) <;> first | rfl | (cases d <;> rfl)
def notK : Option (R Bool) → Option (R Bool)
  | some (.ok b δ) => some (.ok (!b) δ)
  | some (.ex x δ) => some (.ex x δ)
  | none => none
theorem mNot_e (m : M Bool) (δ : En) : mNot m δ = notK (m δ) := by unfold mNot M.bind notK M.ret; rcases m δ with _ | (_ | _) <;> rfl
def andK (b : M Bool) : Option (R Bool) → Option (R Bool)
  | some (.ok true δ) => b δ
  | some (.ok false δ) => some (.ok false δ)
  | some (.ex x δ) => some (.ex x δ)
  | none => none
theorem mAnd_e (a b : M Bool) (δ : En) : mAnd a b δ = andK b (a δ) := by unfold mAnd M.bind andK M.ret; rcases a δ with _ | (⟨k, _⟩ | _) <;> first | rfl | (cases k <;> rfl)
def orK (b : M Bool) : Option (R Bool) → Option (R Bool)
  | some (.ok false δ) => b δ
  | some (.ok true δ) => some (.ok true δ)
  | some (.ex x δ) => some (.ex x δ)
  | none => none
theorem mOr_e (a b : M Bool) (δ : En) : mOr a b δ = orK b (a δ) := by unfold mOr M.bind orK M.ret; rcases a δ with _ | (⟨k, _⟩ | _) <;> first | rfl | (cases k <;> rfl)
def andvK (b : M D) : Option (R D) → Option (R D)
  | some (.ok (.bl true) δ) => b δ
  | some (.ok (.bl false) δ) => some (.ok (.bl false) δ)
  | some (.ex x δ) => some (.ex x δ)
  | _ => none
theorem mAndV_e (a b : M D) (δ : En) : mAndV a b δ = andvK b (a δ) := by
  unfold mAndV M.bind andvK M.ret
  rcases a δ with _ | (⟨k, _⟩ | _) <;> first | rfl | (cases k <;> first | rfl | skip)
  rename_i b' ; cases b' <;> rfl
def orvK (b : M D) : Option (R D) → Option (R D)
  | some (.ok (.bl false) δ) => b δ
  | some (.ok (.bl true) δ) => some (.ok (.bl true) δ)
  | some (.ex x δ) => some (.ex x δ)
  | _ => none
theorem mOrV_e (a b : M D) (δ : En) : mOrV a b δ = orvK b (a δ) := by
  unfold mOrV M.bind orvK M.ret
  rcases a δ with _ | (⟨k, _⟩ | _) <;> first | rfl | (cases k <;> first | rfl | skip)
  rename_i b' ; cases b' <;> rfl
def notvK : Option (R D) → Option (R D)
  | some (.ok (.bl b) δ) => some (.ok (.bl (!b)) δ)
  | some (.ex x δ) => some (.ex x δ)
  | _ => none
theorem mNotV_e (a : M D) (δ : En) : mNotV a δ = notvK (a δ) := by unfold mNotV M.bind notvK M.lift; rcases a δ with _ | (⟨d, _⟩ | _) <;> first | rfl | (cases d <;> rfl)
def ifeK (a b : M D) : Option (R Bool) → Option (R D)
  | some (.ok true δ) => a δ
  | some (.ok false δ) => b δ
  | some (.ex x δ) => some (.ex x δ)
  | none => none
theorem mIfE_e (c : M Bool) (a b : M D) (δ : En) : mIfE c a b δ = ifeK a b (c δ) := by unfold mIfE M.bind ifeK; rcases c δ with _ | (⟨k, _⟩ | _) <;> first | rfl | (cases k <;> rfl)
def chN (g : D → D → Option D) (q : Op) (c : M Op) (δ : En) : Option D → Option (R D)
  | some (.bl true) => m2K (fun e y => g e y) c (some (.ok q δ))
  | some (.bl false) => some (.ok (.bl false) δ)
  | _ => none
def chM (f g : D → D → Option D) (q : Op) (c : M Op) (δ : En) : Option D → Option D → Option (R D)
  | some d, some e => chN g q c δ (f d e)
  | _, _ => none
def chL (f g : D → D → Option D) (o : Op) (c : M Op) : Option (R Op) → Option (R D)
  | some (.ok q δ) => chM f g q c δ (rd o δ) (rd q δ)
  | some (.ex x δ) => some (.ex x δ)
  | none => none
def chK (f g : D → D → Option D) (b c : M Op) : Option (R Op) → Option (R D)
  | some (.ok o δ) => chL f g o c (b δ)
  | some (.ex x δ) => some (.ex x δ)
  | none => none
theorem mChain_e (f g : D → D → Option D) (a b c : M Op) (δ : En) : mChain f g a b c δ = chK f g b c (a δ) := by
  unfold mChain chK
  rw [bind_e]
  rcases a δ with _ | (⟨o, δ1⟩ | _) <;> first | rfl | skip
  simp only [bK, bind_e]
  unfold chL
  rcases b δ1 with _ | (⟨q, δ2⟩ | _) <;> first | rfl | skip
  simp only [bK, mRd]
  unfold chM
  cases rd o δ2 with
  | none => rfl
  | some d =>
    simp only [bK, bind_e, mRd]
    cases rd q δ2 with
    | none => rfl
    | some e =>
      simp only [bK, bind_e, lift_e]
      cases f d e with
      | none => rfl
      | some z =>
        simp only [liftK, bK]
        cases z <;> first | rfl | skip
        rename_i k
        cases k <;> first | rfl | skip
        try simp only [chN, m2K, bK, bind_e]
/-! statements -/
theorem mNext_e (δ : En) : mNext δ = some (.nx δ) := (rfl)
def seqK (b : Ms) : Option Ou → Option Ou
  | some (.nx δ) => b δ
  | some (.rt d δ) => some (.rt d δ)
  | some (.rn d δ) => some (.rn d δ)
  | some (.bk δ) => some (.bk δ)
  | some (.ct δ) => some (.ct δ)
  | some (.ex x δ) => some (.ex x δ)
  | none => none
theorem mSeq_e (a b : Ms) (δ : En) : mSeq a b δ = seqK b (a δ) := by unfold mSeq seqK; rcases a δ with _ | o <;> first | rfl | (cases o <;> rfl)
def ifK (a b : Ms) : Option (R Bool) → Option Ou
  | some (.ok true δ) => a δ
  | some (.ok false δ) => b δ
  | some (.ex x δ) => some (.ex x δ)
  | none => none
theorem mIf_e (c : M Bool) (a b : Ms) (δ : En) : mIf c a b δ = ifK a b (c δ) := by unfold mIf mS ifK; rcases c δ with _ | (⟨k, _⟩ | _) <;> first | rfl | (cases k <;> rfl)
def retK : Option (R D) → Option Ou
  | some (.ok d δ) => some (.rt d δ)
  | some (.ex x δ) => some (.ex x δ)
  | none => none
theorem mRet_e (m : M D) (δ : En) : mRet m δ = retK (m δ) := by unfold mRet mS retK; rcases m δ with _ | (_ | _) <;> rfl
def retwK : Option (R D) → Option Ou
  | some (.ok d δ) => some (.rn d δ)
  | some (.ex x δ) => some (.ex x δ)
  | none => none
theorem mRetW_e (m : M D) (δ : En) : mRetW m δ = retwK (m δ) := by unfold mRetW mS retwK; rcases m δ with _ | (_ | _) <;> rfl
def retoK (δ : En) : Option Sl → Option Ou
  | some (.ow d) => some (.rn d δ)
  | _ => none
theorem mRetO_e (i : Nat) (δ : En) : mRetO i δ = retoK δ δ[i]? := (rfl)
def dropK : Option (R D) → Option Ou
  | some (.ok _ δ) => some (.nx δ)
  | some (.ex x δ) => some (.ex x δ)
  | none => none
theorem mDrop_e (m : M D) (δ : En) : mDrop m δ = dropK (m δ) := by unfold mDrop mS dropK; rcases m δ with _ | (_ | _) <;> rfl
def nxK : Option En → Option Ou
  | some δ => some (.nx δ)
  | none => none
def asgK (g : Mg) : Option (R D) → Option Ou
  | some (.ok d δ) => nxK (g d δ)
  | some (.ex x δ) => some (.ex x δ)
  | none => none
theorem mAsg_e (g : Mg) (m : M D) (δ : En) : mAsg g m δ = asgK g (m δ) := by unfold mAsg mS asgK nxK; rcases m δ with _ | (⟨d, δ'⟩ | _) <;> first | rfl | (simp only []; cases g d δ' <;> rfl)
def asgoK (i : Nat) : Option (R D) → Option Ou
  | some (.ok d δ) => some (.nx (δ.set i (.ow d)))
  | some (.ex x δ) => some (.ex x δ)
  | none => none
theorem mAsgO_e (i : Nat) (m : M D) (δ : En) : mAsgO i m δ = asgoK i (m δ) := by unfold mAsgO mS asgoK; rcases m δ with _ | (_ | _) <;> rfl
def parK (i j : Nat) : Option (R (List D)) → Option Ou
  | some (.ok [a, b] δ) => some (.nx ((δ.set i (.fr a)).set j (.fr b)))
  | some (.ex x δ) => some (.ex x δ)
  | _ => none
theorem mPar_e (i j : Nat) (m : M (List D)) (δ : En) : mPar i j m δ = parK i j (m δ) := by
  unfold mPar mS parK
  rcases m δ with _ | (⟨ds, δ'⟩ | _) <;> first | rfl | skip
  match ds with
  | [] => rfl
  | [_] => rfl
  | [_, _] => rfl
  | _ :: _ :: _ :: _ => rfl
theorem gN_e (i : Nat) (d : D) (δ : En) : gN i d δ = some (δ.set i (.fr d)) := (rfl)
theorem gs0_e (δ : En) : gs0 [] δ = some δ := (rfl)
def gscK (b : List D → En → Option En) (r : List D) : Option En → Option En
  | some δ => b r δ
  | none => none
theorem gsC_e (a : Mg) (b : List D → En → Option En) (d : D) (r : List D) (δ : En) : gsC a b (d :: r) δ = gscK b r (a d δ) := by show (match a d δ with | some δ' => b r δ' | none => none) = _; unfold gscK; cases a d δ <;> rfl
theorem gT_e (m : List D → En → Option En) (ds : List D) (δ : En) : gT m (.tup ds) δ = m ds δ := (rfl)
theorem gTL_e (m : List D → En → Option En) (ds : List D) (δ : En) : gTL m (.lst ds) δ = m ds δ := (rfl)
def itK (f : List D → Option (List D)) : Option (R (List D)) → Option (R (List D))
  | some (.ok as δ) => liftK (f as) δ
  | some (.ex x δ) => some (.ex x δ)
  | none => none
theorem mIt_e (f : List D → Option (List D)) (m : M (List D)) (δ : En) : mIt f m δ = itK f (m δ) := by unfold mIt M.bind itK; rcases m δ with _ | (_ | _) <;> rfl
def sqK : Option (R D) → Option (R (List D))
  | some (.ok (.lst ds) δ) => some (.ok ds δ)
  | some (.ex x δ) => some (.ex x δ)
  | _ => none
theorem mSeqOf_e (m : M D) (δ : En) : mSeqOf m δ = sqK (m δ) := by unfold mSeqOf M.bind sqK M.lift; rcases m δ with _ | (⟨d, _⟩ | _) <;> first | rfl | (cases d <;> rfl)
def tqK : Option (R D) → Option (R (List D))
  | some (.ok (.tup ds) δ) => some (.ok ds δ)
  | some (.ex x δ) => some (.ex x δ)
  | _ => none
theorem mTupOf_e (m : M D) (δ : En) : mTupOf m δ = tqK (m δ) := by unfold mTupOf M.bind tqK M.lift; rcases m δ with _ | (⟨d, _⟩ | _) <;> first | rfl | (cases d <;> rfl)
def sbK (i : Nat) (δ : En) : Option Sl → Option (R (List D))
  | some (.bo (.lst ds)) => some (.ok ds δ)
  | some (.fr (.lst ds)) => some (.ok ds δ)
  | some (.ow (.lst ds)) => some (.ok ds (δ.set i (.fr (.lst ds))))
  | _ => none
theorem mSeqB_e (i : Nat) (δ : En) : mSeqB i δ = sbK i δ δ[i]? := by
  unfold mSeqB sbK
  cases h : δ[i]? with
  | none => simp only [mSeqOf_e, mVar_e, h, varK, sqK]
  | some s => cases s with
    | bo d => cases d <;> rfl
    | fr d => simp only [mSeqOf_e, mVar_e, h, varK]; cases d <;> rfl
    | ow d => simp only [mSeqOf_e, mVar_e, h, varK]; cases d <;> rfl
    | _ => simp only [mSeqOf_e, mVar_e, h, varK, sqK]
def enK (i : Nat) (δ : En) : Option Sl → Option (R (List D))
  | some (.bo (.lst ds)) => some (.ok (enumD ds) δ)
  | some (.fr (.lst ds)) => some (.ok (enumD ds) δ)
  | some (.fr (.tup ds)) => some (.ok (enumD ds) δ)
  | some (.ow (.lst ds)) => some (.ok (enumD ds) (δ.set i (.fr (.lst ds))))
  | some (.ow (.tup ds)) => some (.ok (enumD ds) (δ.set i (.fr (.tup ds))))
  | _ => none
theorem mEnumB_e (i : Nat) (δ : En) : mEnumB i δ = enK i δ δ[i]? := by
  unfold mEnumB enK
  cases h : δ[i]? with
  | none => simp only [mIt_e, mdCons_e, mVar_e, h, varK, dcK, bK, itK]
  | some s => cases s with
    | bo d => cases d <;> rfl
    | fr d => simp only [mIt_e, mdCons_e, mVar_e, h, varK, dcK_o, mdNil_e, dcL, itK]; cases d <;> rfl
    | ow d => simp only [mIt_e, mdCons_e, mVar_e, h, varK, dcK_o, mdNil_e, dcL, itK]; cases d <;> rfl
    | _ => simp only [mIt_e, mdCons_e, mVar_e, h, varK, dcK, bK, itK]
def forK (g : Mg) (b : Ms) : Option (R (List D)) → Option Ou
  | some (.ok ds δ) => forL g b ds δ
  | some (.ex x δ) => some (.ex x δ)
  | none => none
theorem mFor_e (it : M (List D)) (g : Mg) (b : Ms) (δ : En) : mFor it g b δ = forK g b (it δ) := by unfold mFor mS forK; rcases it δ with _ | (_ | _) <;> rfl
def flL (g : Mg) (b : Ms) (ds : List D) : Option Ou → Option Ou
  | some (.nx δ) => forL g b ds δ
  | some (.ct δ) => forL g b ds δ
  | some (.bk δ) => some (.nx δ)
  | some (.rt d δ) => some (.rt d δ)
  | some (.rn d δ) => some (.rn d δ)
  | some (.ex x δ) => some (.ex x δ)
  | none => none
def flK (g : Mg) (b : Ms) (ds : List D) : Option En → Option Ou
  | some δ => flL g b ds (b δ)
  | none => none
theorem forL_n (g : Mg) (b : Ms) (δ : En) : forL g b [] δ = some (.nx δ) := (rfl)
theorem forL_c (g : Mg) (b : Ms) (d : D) (ds : List D) (δ : En) : forL g b (d :: ds) δ = flK g b ds (g d δ) := by
  unfold forL flK flL
  rcases g d δ with _ | δ1
  · rfl
  · simp only []
    rcases b δ1 with _ | o <;> first | rfl | (cases o <;> rfl)
/-! calls -/
def cpL (ks : List PK) (g : List D → Option D) (os : List Op) (δ : En) : Option (List D) → Option (R D)
  | some ds => if frOk ks os then liftK (g ds) δ else none
  | none => none
def cpK (ks : List PK) (g : List D → Option D) : Option (R (List Op)) → Option (R D)
  | some (.ok os δ) => cpL ks g os δ (rds os δ)
  | some (.ex x δ) => some (.ex x δ)
  | none => none
theorem mCallP_e (ks : List PK) (g : List D → Option D) (a : M (List Op)) (δ : En) : mCallP ks g a δ = cpK ks g (a δ) := by
  unfold mCallP cpK
  rw [bind_e]
  rcases a δ with _ | (⟨os, δ1⟩ | _) <;> first | rfl | skip
  simp only [bK, bind_e, mRds]
  cases rds os δ1 <;> first | rfl | skip
  simp only [bK, cpL]
  rename_i ds
  cases g ds <;> rfl
theorem mCallN_e (ks : List PK) (g : List D → Option D) (a : M (List Op)) (δ : En) : mCallN ks g a δ = cpK ks g (a δ) := mCallP_e ks g a δ
def ownO (δ : En) (i : Nat) : Option (Sl × D) := match δ[i]? with
  | some (.ow d) => some (.ow d, d)
  | some (.io d) => some (.io d, d)
  | _ => none
def ownK : Option Sl → Option (Sl × D)
  | some (.ow d) => some (.ow d, d)
  | some (.io d) => some (.io d, d)
  | _ => none
theorem ownO_e (δ : En) (i : Nat) : ownO δ i = ownK δ[i]? := (rfl)
def ciM (i : Nat) (δ : En) (s : Sl) : Option (D × D) → Option (R D)
  | some p => some (.ok p.1 (δ.set i (reown s p.2)))
  | none => none
def ciL (i : Nat) (ks : List PK) (g : List D → Option (D × D)) (os : List Op) (δ : En) : Option (Sl × D) → Option (List D) → Option (R D)
  | some (s, c), some ds => if frOk ks os && apart i os then ciM i δ s (g (c :: ds)) else none
  | _, _ => none
def ciK (i : Nat) (ks : List PK) (g : List D → Option (D × D)) : Option (R (List Op)) → Option (R D)
  | some (.ok os δ) => ciL i ks g os δ (ownO δ i) (rds os δ)
  | some (.ex x δ) => some (.ex x δ)
  | none => none
def ciH (i : Nat) (ks : List PK) (g : List D → Option (D × D)) (a : M (List Op)) (δ : En) : Option (Sl × D) → Option (R D)
  | some _ => ciK i ks g (a δ)
  | none => none
theorem mCallI_e (i : Nat) (ks : List PK) (g : List D → Option (D × D)) (a : M (List Op)) (δ : En) : mCallI i ks g a δ = ciH i ks g a δ (ownO δ i) := by
  have key : (a.bind fun os => (mRds os).bind fun ds => fun δ1 => match δ1[i]? with
      | some s1 => match s1.own with
        | some c => if frOk ks os && apart i os then (match g (c :: ds) with
          | some p => some (.ok p.1 (δ1.set i (reown s1 p.2)))
          | none => none) else none
        | none => none
      | none => none) δ = ciK i ks g (a δ) := by
    unfold ciK
    rw [bind_e]
    rcases a δ with _ | (⟨os, δ1⟩ | _) <;> first | rfl | skip
    simp only [bK, bind_e, mRds]
    unfold ownO
    cases rds os δ1 with
    | none => simp only [bK]; rcases δ1[i]? with _ | s <;> first | rfl | (cases s <;> rfl)
    | some ds =>
      simp only [bK]
      rcases δ1[i]? with _ | s
      · rfl
      · cases s with
        | ow d => simp only [Sl.own, ciL]; cases g (d :: ds) <;> rfl
        | io d => simp only [Sl.own, ciL]; cases g (d :: ds) <;> rfl
        | _ => rfl
  unfold mCallI ciH ownO
  rcases δ[i]? with _ | s
  · rfl
  · cases s <;> first | rfl | exact key
def mkN (δ : En) : Option (D × D) → Option (R D)
  | some (.non, .ins C ns es) => some (.ok (.ins C ns es) δ)
  | _ => none
def mkL (C : Addr) (ks : List PK) (g : List D → Option (D × D)) (os : List Op) (δ : En) : Option (List D) → Option (R D)
  | some ds => if frOk ks os then mkN δ (g (.ins C [] [] :: ds)) else none
  | none => none
def mkK (C : Addr) (ks : List PK) (g : List D → Option (D × D)) : Option (R (List Op)) → Option (R D)
  | some (.ok os δ) => mkL C ks g os δ (rds os δ)
  | some (.ex x δ) => some (.ex x δ)
  | none => none
theorem mMakeP_e (C : Addr) (ks : List PK) (g : List D → Option (D × D)) (a : M (List Op)) (δ : En) : mMakeP C ks g a δ = mkK C ks g (a δ) := by
  unfold mMakeP mkK
  rw [bind_e]
  rcases a δ with _ | (⟨os, δ1⟩ | _) <;> first | rfl | skip
  simp only [bK, bind_e, mRds]
  cases rds os δ1 <;> first | rfl | skip
/-! own lists changed -/
def olK : Option Sl → Option (Sl × List D)
  | some (.ow (.lst ds)) => some (.ow (.lst ds), ds)
  | some (.io (.lst ds)) => some (.io (.lst ds), ds)
  | _ => none
theorem ownL_e (δ : En) (i : Nat) : ownL δ i = olK δ[i]? := by
  unfold ownL olK
  rcases δ[i]? with _ | s
  · rfl
  · cases s with
    | ow d => cases d <;> rfl
    | io d => cases d <;> rfl
    | _ => rfl
def muN (i : Nat) (δ : En) (s : Sl) : Option (List D × D) → Option (R D)
  | some (nw, res) => some (.ok res (δ.set i (reown s (.lst nw))))
  | none => none
def muL (f : List D → List D → Option (List D × D)) (i : Nat) (as : List D) (δ : En) : Option (Sl × List D) → Option (R D)
  | some (s, ds) => muN i δ s (f ds as)
  | none => none
def muK (f : List D → List D → Option (List D × D)) (i : Nat) : Option (R (List D)) → Option (R D)
  | some (.ok as δ) => muL f i as δ (ownL δ i)
  | some (.ex x δ) => some (.ex x δ)
  | none => none
def muH (f : List D → List D → Option (List D × D)) (i : Nat) (a : M (List D)) (δ : En) : Option (Sl × List D) → Option (R D)
  | some _ => muK f i (a δ)
  | none => none
theorem mMut_e (f : List D → List D → Option (List D × D)) (i : Nat) (a : M (List D)) (δ : En) : mMut f i a δ = muH f i a δ (ownL δ i) := by
  unfold mMut muH
  cases ownL δ i with
  | none => rfl
  | some p =>
    simp only [bind_e]
    unfold muK
    rcases a δ with _ | (⟨as, δ1⟩ | _) <;> first | rfl | skip
    simp only [bK]
    unfold muL
    rcases ownL δ1 i with _ | ⟨s, ds⟩
    · rfl
    · simp only []
      unfold muN
      rcases f ds as with _ | ⟨nw, res⟩ <;> rfl
theorem appF_e (ds : List D) (d : D) : appF ds [d] = if ds.length < 1000000 then some (ds ++ [d], .non) else none := (rfl)
def puN (i : Nat) (d : D) (δ : En) (s : Sl) (ds : List D) : Option Nat → Option Ou
  | some m => some (.nx (δ.set i (reown s (.lst (ds.set m d)))))
  | none => none
def puM (i : Nat) (d : D) (n : Int) (δ : En) : Option (Sl × List D) → Option Ou
  | some (s, ds) => puN i d δ s ds (ixN ds.length n)
  | none => none
def puL (i : Nat) (d : D) : Option (R D) → Option Ou
  | some (.ok (.int n) δ) => puM i d n δ (ownL δ i)
  | some (.ex x δ) => some (.ex x δ)
  | _ => none
def puH (i : Nat) (d : D) (mi : M D) (δ : En) : Option (Sl × List D) → Option Ou
  | some _ => puL i d (mi δ)
  | none => none
def puK (i : Nat) (mi : M D) : Option (R D) → Option Ou
  | some (.ok d δ) => puH i d mi δ (ownL δ i)
  | some (.ex x δ) => some (.ex x δ)
  | none => none
theorem mPutI_e (i : Nat) (mi me : M D) (δ : En) : mPutI i mi me δ = puK i mi (me δ) := by
  unfold mPutI puK
  rw [mS_e]
  rcases me δ with _ | (⟨d, δ1⟩ | _) <;> first | rfl | skip
  simp only [sK, mHas]
  unfold puH
  cases ownL δ1 i with
  | none => rfl
  | some p =>
    simp only [mS_e]
    unfold puL
    rcases mi δ1 with _ | (⟨j, δ2⟩ | _) <;> first | rfl | skip
    simp only [sK]
    cases j <;> rfl
/-! fields -/
def oiK : Option Sl → Option (Sl × Addr × List Str × List D)
  | some (.ow (.ins C ns ds)) => some (.ow (.ins C ns ds), C, ns, ds)
  | some (.io (.ins C ns ds)) => some (.io (.ins C ns ds), C, ns, ds)
  | _ => none
theorem ownI_e (δ : En) (i : Nat) : ownI δ i = oiK δ[i]? := by
  unfold ownI oiK
  rcases δ[i]? with _ | s
  · rfl
  · cases s with
    | ow d => cases d <;> rfl
    | io d => cases d <;> rfl
    | _ => rfl
def sfL (C : Addr) (i : Nat) (f : Str) (d : D) (δ : En) : Option (Sl × Addr × List Str × List D) → Option Ou
  | some (s, C', ns, ds) => if C' = C ∧ ns.length < 100 ∧ f ∉ ns then some (.nx (δ.set i (reown s (.ins C (ns ++ [f]) (ds ++ [d]))))) else none
  | none => none
def sfK (C : Addr) (i : Nat) (f : Str) : Option (R D) → Option Ou
  | some (.ok d δ) => sfL C i f d δ (ownI δ i)
  | some (.ex x δ) => some (.ex x δ)
  | none => none
theorem mSetF_e (C : Addr) (i : Nat) (f : Str) (m : M D) (δ : En) : mSetF C i f m δ = sfK C i f (m δ) := by
  unfold mSetF sfK
  rw [mS_e]
  rcases m δ with _ | (⟨d, δ1⟩ | _) <;> first | rfl | skip
/-! slices, counts -/
theorem mpNone_e (δ : En) : mpNone δ = some (.ok none δ) := (rfl)
def psK : Option (R D) → Option (R (Option Int))
  | some (.ok (.int i) δ) => some (.ok (some i) δ)
  | some (.ex x δ) => some (.ex x δ)
  | _ => none
theorem mpSome_e (m : M D) (δ : En) : mpSome m δ = psK (m δ) := by unfold mpSome M.bind psK M.lift; rcases m δ with _ | (⟨d, _⟩ | _) <;> first | rfl | (cases d <;> rfl)
def slN (f : D → Option Int → Option Int → Option D) (lo hi : Option Int) (δ : En) : Option D → Option (R D)
  | some d => liftK (f d lo hi) δ
  | none => none
def slM (f : D → Option Int → Option Int → Option D) (o : Op) (lo : Option Int) : Option (R (Option Int)) → Option (R D)
  | some (.ok hi δ) => slN f lo hi δ (rd o δ)
  | some (.ex x δ) => some (.ex x δ)
  | none => none
def slL (f : D → Option Int → Option Int → Option D) (o : Op) (u : M (Option Int)) : Option (R (Option Int)) → Option (R D)
  | some (.ok lo δ) => slM f o lo (u δ)
  | some (.ex x δ) => some (.ex x δ)
  | none => none
def slK (f : D → Option Int → Option Int → Option D) (l u : M (Option Int)) : Option (R Op) → Option (R D)
  | some (.ok o δ) => slL f o u (l δ)
  | some (.ex x δ) => some (.ex x δ)
  | none => none
theorem mSl_e (f : D → Option Int → Option Int → Option D) (a : M Op) (l u : M (Option Int)) (δ : En) : mSl f a l u δ = slK f l u (a δ) := by
  unfold mSl slK
  rw [bind_e]
  rcases a δ with _ | (⟨o, δ1⟩ | _) <;> first | rfl | skip
  simp only [bK, bind_e]
  unfold slL
  rcases l δ1 with _ | (⟨lo, δ2⟩ | _) <;> first | rfl | skip
  simp only [bK, bind_e]
  unfold slM
  rcases u δ2 with _ | (⟨hi, δ3⟩ | _) <;> first | rfl | skip
  simp only [bK, bind_e, mRd]
  unfold slN
  cases rd o δ3 <;> rfl
def cnM (k : Bool) (δ : En) : Option D → Option D → Option (R D)
  | some d, some e => liftK (if kindD d = some k then cntD d e else none) δ
  | _, _ => none
def cnL (o : Op) (k : Bool) : Option (R Op) → Option (R D)
  | some (.ok q δ) => cnM k δ (rd o δ) (rd q δ)
  | some (.ex x δ) => some (.ex x δ)
  | none => none
def cnJ (b : M Op) (o : Op) (δ : En) : Option Bool → Option (R D)
  | some k => cnL o k (b δ)
  | none => none
def cnI (b : M Op) (o : Op) (δ : En) : Option D → Option (R D)
  | some d => cnJ b o δ (kindD d)
  | none => none
def cnK (b : M Op) : Option (R Op) → Option (R D)
  | some (.ok o δ) => cnI b o δ (rd o δ)
  | some (.ex x δ) => some (.ex x δ)
  | none => none
theorem mCount_e (a b : M Op) (δ : En) : mCount a b δ = cnK b (a δ) := by
  unfold mCount cnK
  rw [bind_e]
  rcases a δ with _ | (⟨o, δ1⟩ | _) <;> first | rfl | skip
  simp only [bK, bind_e, mRd]
  unfold cnI
  cases rd o δ1 with
  | none => rfl
  | some d0 =>
    simp only [bK]
    unfold cnJ
    cases kindD d0 with
    | none => rfl
    | some k =>
      simp only [bind_e]
      unfold cnL
      rcases b δ1 with _ | (⟨q, δ2⟩ | _) <;> first | rfl | skip
      simp only [bK, bind_e, mRd]
      unfold cnM
      cases rd o δ2 with
      | none => rfl
      | some d =>
        simp only [bK, bind_e, mRd]
        cases rd q δ2 <;> rfl
def gD : Option Ou → Option D
  | some (.rt d _) => some d
  | some (.nx _) => some .non
  | _ => none
theorem defG_e (n : Nat) (ks : List PK) (m : Ms) (ds : List D) : defG n ks m ds = gD (m (startE n (entry ks ds))) := by unfold defG gD; rcases m (startE n (entry ks ds)) with _ | o <;> first | rfl | (cases o <;> rfl)
def io0K (d : D) : Option Sl → Option (D × D)
  | some (.io e) => some (d, e)
  | _ => none
def gI : Option Ou → Option (D × D)
  | some (.rt d δ) => io0K d δ[(0 : Nat)]?
  | some (.nx δ) => io0K .non δ[(0 : Nat)]?
  | _ => none
theorem io0_map (δ : En) (d : D) : ((io0 δ).map fun e => (d, e)) = io0K d δ[(0 : Nat)]? := by
  unfold io0 io0K
  rcases δ[(0 : Nat)]? with _ | s <;> first | rfl | (cases s <;> rfl)
theorem defI_e (n : Nat) (ks : List PK) (m : Ms) (ds : List D) : defI n ks m ds = gI (m (startE n (entry (.io :: ks) ds))) := by
  unfold defI gI
  rcases m (startE n (entry (.io :: ks) ds)) with _ | o <;> first | rfl | skip
  cases o <;> first | rfl | exact io0_map _ _
def gNw : Option Ou → Option D
  | some (.rn d _) => some d
  | _ => none
theorem defN_e (n : Nat) (ks : List PK) (m : Ms) (ds : List D) : defN n ks m ds = gNw (m (startE n (entry ks ds))) := by unfold defN gNw; rcases m (startE n (entry ks ds)) with _ | o <;> first | rfl | (cases o <;> rfl)
end DL

set_option Elab.async false
set_option linter.all false
set_option maxRecDepth 100000
/-! MF: printed by mk_ev.py: an equation for each way of the words over outcomes. -/
namespace DL
open PySem L2
theorem varK_1 {i} {δ} {d} : varK i δ (some (.fr d)) = some (.ok d δ) := (rfl)
theorem varK_2 {i} {δ} {d} : varK i δ (some (.ow d)) = some (.ok d (δ.set i (.fr d))) := (rfl)
theorem ovK_1 {i} {δ} {u0} : ovK i δ (some (.fr u0)) = some (.ok (.slot i) δ) := (rfl)
theorem ovK_2 {i} {δ} {u0} : ovK i δ (some (.bo u0)) = some (.ok (.slot i) δ) := (rfl)
theorem ovK_3 {i} {δ} {u0} : ovK i δ (some (.ow u0)) = some (.ok (.slot i) δ) := (rfl)
theorem ovK_4 {i} {δ} {u0} : ovK i δ (some (.io u0)) = some (.ok (.slot i) δ) := (rfl)
theorem valK_1 {d} {δ} : valK  (some (.ok d δ)) = some (.ok (.val d) δ) := (rfl)
theorem valK_2 {x} {δ} : valK  (some (.ex x δ)) = some (.ex x δ) := (rfl)
theorem valK_3  : valK  (none) = none := (rfl)
theorem datK_1 {d} : datK  (some (.fr d)) = some d := (rfl)
theorem datK_2 {d} : datK  (some (.bo d)) = some d := (rfl)
theorem datK_3 {d} : datK  (some (.ow d)) = some d := (rfl)
theorem datK_4 {d} : datK  (some (.io d)) = some d := (rfl)
theorem m1L_1 {f} {δ} {d} : m1L f δ (some d) = liftK (f d) δ := (rfl)
theorem m1L_2 {f} {δ} : m1L f δ (none) = none := (rfl)
theorem m1K_1 {f} {o} {δ} : m1K f (some (.ok o δ)) = m1L f δ (rd o δ) := (rfl)
theorem m1K_2 {f} {x} {δ} : m1K f (some (.ex x δ)) = some (.ex x δ) := (rfl)
theorem m1K_3 {f} : m1K f (none) = none := (rfl)
theorem m2N_1 {f} {δ} {d} {e} : m2N f δ (some d) (some e) = liftK (f d e) δ := (rfl)
theorem acL_1 {o} {os} {δ} : acL o (some (.ok os δ)) = some (.ok (o :: os) δ) := (rfl)
theorem acL_2 {o} {x} {δ} : acL o (some (.ex x δ)) = some (.ex x δ) := (rfl)
theorem acL_3 {o} : acL o (none) = none := (rfl)
theorem dcL_1 {o} {os} {δ} : dcL o (some (.ok os δ)) = some (.ok (o :: os) δ) := (rfl)
theorem dcL_2 {o} {x} {δ} : dcL o (some (.ex x δ)) = some (.ex x δ) := (rfl)
theorem dcL_3 {o} : dcL o (none) = none := (rfl)
theorem consO_1 {d} {ds} : consO  (some d) (some ds) = some (d :: ds) := (rfl)
theorem aL_1 {f} {δ} {ds} : aL f δ (some ds) = liftK (f ds) δ := (rfl)
theorem aL_2 {f} {δ} : aL f δ (none) = none := (rfl)
theorem tupK_1 {ds} {δ} : tupK  (some (.ok ds δ)) = if ds.length ≤ LB then some (.ok (.tup ds) δ) else none := (rfl)
theorem tupK_2 {x} {δ} : tupK  (some (.ex x δ)) = some (.ex x δ) := (rfl)
theorem tupK_3  : tupK  (none) = none := (rfl)
theorem lstK_1 {ds} {δ} : lstK  (some (.ok ds δ)) = if ds.length ≤ LB then some (.ok (.lst ds) δ) else none := (rfl)
theorem lstK_2 {x} {δ} : lstK  (some (.ex x δ)) = some (.ex x δ) := (rfl)
theorem lstK_3  : lstK  (none) = none := (rfl)
theorem testK_1 {b} {δ} : testK  (some (.ok (.bl b) δ)) = some (.ok b δ) := (rfl)
theorem testK_2 {x} {δ} : testK  (some (.ex x δ)) = some (.ex x δ) := (rfl)
theorem notK_1 {b} {δ} : notK  (some (.ok b δ)) = some (.ok (!b) δ) := (rfl)
theorem notK_2 {x} {δ} : notK  (some (.ex x δ)) = some (.ex x δ) := (rfl)
theorem notK_3  : notK  (none) = none := (rfl)
theorem andK_1 {b} {δ} : andK b (some (.ok true δ)) = b δ := (rfl)
theorem andK_2 {b} {δ} : andK b (some (.ok false δ)) = some (.ok false δ) := (rfl)
theorem andK_3 {b} {x} {δ} : andK b (some (.ex x δ)) = some (.ex x δ) := (rfl)
theorem andK_4 {b} : andK b (none) = none := (rfl)
theorem orK_1 {b} {δ} : orK b (some (.ok false δ)) = b δ := (rfl)
theorem orK_2 {b} {δ} : orK b (some (.ok true δ)) = some (.ok true δ) := (rfl)
theorem orK_3 {b} {x} {δ} : orK b (some (.ex x δ)) = some (.ex x δ) := (rfl)
theorem orK_4 {b} : orK b (none) = none := (rfl)
theorem andvK_1 {b} {δ} : andvK b (some (.ok (.bl true) δ)) = b δ := (rfl)
theorem andvK_2 {b} {δ} : andvK b (some (.ok (.bl false) δ)) = some (.ok (.bl false) δ) := (rfl)
theorem andvK_3 {b} {x} {δ} : andvK b (some (.ex x δ)) = some (.ex x δ) := (rfl)
theorem orvK_1 {b} {δ} : orvK b (some (.ok (.bl false) δ)) = b δ := (rfl)
theorem orvK_2 {b} {δ} : orvK b (some (.ok (.bl true) δ)) = some (.ok (.bl true) δ) := (rfl)
theorem orvK_3 {b} {x} {δ} : orvK b (some (.ex x δ)) = some (.ex x δ) := (rfl)
theorem notvK_1 {b} {δ} : notvK  (some (.ok (.bl b) δ)) = some (.ok (.bl (!b)) δ) := (rfl)
theorem notvK_2 {x} {δ} : notvK  (some (.ex x δ)) = some (.ex x δ) := (rfl)
theorem ifeK_1 {a} {b} {δ} : ifeK a b (some (.ok true δ)) = a δ := (rfl)
theorem ifeK_2 {a} {b} {δ} : ifeK a b (some (.ok false δ)) = b δ := (rfl)
theorem ifeK_3 {a} {b} {x} {δ} : ifeK a b (some (.ex x δ)) = some (.ex x δ) := (rfl)
theorem ifeK_4 {a} {b} : ifeK a b (none) = none := (rfl)
theorem chN_1 {g} {q} {c} {δ} : chN g q c δ (some (.bl true)) = m2K (fun e y => g e y) c (some (.ok q δ)) := (rfl)
theorem chN_2 {g} {q} {c} {δ} : chN g q c δ (some (.bl false)) = some (.ok (.bl false) δ) := (rfl)
theorem chM_1 {f} {g} {q} {c} {δ} {d} {e} : chM f g q c δ (some d) (some e) = chN g q c δ (f d e) := (rfl)
theorem chL_1 {f} {g} {o} {c} {q} {δ} : chL f g o c (some (.ok q δ)) = chM f g q c δ (rd o δ) (rd q δ) := (rfl)
theorem chL_2 {f} {g} {o} {c} {x} {δ} : chL f g o c (some (.ex x δ)) = some (.ex x δ) := (rfl)
theorem chL_3 {f} {g} {o} {c} : chL f g o c (none) = none := (rfl)
theorem chK_1 {f} {g} {b} {c} {o} {δ} : chK f g b c (some (.ok o δ)) = chL f g o c (b δ) := (rfl)
theorem chK_2 {f} {g} {b} {c} {x} {δ} : chK f g b c (some (.ex x δ)) = some (.ex x δ) := (rfl)
theorem chK_3 {f} {g} {b} {c} : chK f g b c (none) = none := (rfl)
theorem seqK_1 {b} {δ} : seqK b (some (.nx δ)) = b δ := (rfl)
theorem seqK_2 {b} {d} {δ} : seqK b (some (.rt d δ)) = some (.rt d δ) := (rfl)
theorem seqK_3 {b} {d} {δ} : seqK b (some (.rn d δ)) = some (.rn d δ) := (rfl)
theorem seqK_4 {b} {δ} : seqK b (some (.bk δ)) = some (.bk δ) := (rfl)
theorem seqK_5 {b} {δ} : seqK b (some (.ct δ)) = some (.ct δ) := (rfl)
theorem seqK_6 {b} {x} {δ} : seqK b (some (.ex x δ)) = some (.ex x δ) := (rfl)
theorem seqK_7 {b} : seqK b (none) = none := (rfl)
theorem ifK_1 {a} {b} {δ} : ifK a b (some (.ok true δ)) = a δ := (rfl)
theorem ifK_2 {a} {b} {δ} : ifK a b (some (.ok false δ)) = b δ := (rfl)
theorem ifK_3 {a} {b} {x} {δ} : ifK a b (some (.ex x δ)) = some (.ex x δ) := (rfl)
theorem ifK_4 {a} {b} : ifK a b (none) = none := (rfl)
theorem retK_1 {d} {δ} : retK  (some (.ok d δ)) = some (.rt d δ) := (rfl)
theorem retK_2 {x} {δ} : retK  (some (.ex x δ)) = some (.ex x δ) := (rfl)
theorem retK_3  : retK  (none) = none := (rfl)
theorem retwK_1 {d} {δ} : retwK  (some (.ok d δ)) = some (.rn d δ) := (rfl)
theorem retwK_2 {x} {δ} : retwK  (some (.ex x δ)) = some (.ex x δ) := (rfl)
theorem retwK_3  : retwK  (none) = none := (rfl)
theorem retoK_1 {δ} {d} : retoK δ (some (.ow d)) = some (.rn d δ) := (rfl)
theorem dropK_1 {u0} {δ} : dropK  (some (.ok u0 δ)) = some (.nx δ) := (rfl)
theorem dropK_2 {x} {δ} : dropK  (some (.ex x δ)) = some (.ex x δ) := (rfl)
theorem dropK_3  : dropK  (none) = none := (rfl)
theorem nxK_1 {δ} : nxK  (some δ) = some (.nx δ) := (rfl)
theorem nxK_2  : nxK  (none) = none := (rfl)
theorem asgK_1 {g} {d} {δ} : asgK g (some (.ok d δ)) = nxK (g d δ) := (rfl)
theorem asgK_2 {g} {x} {δ} : asgK g (some (.ex x δ)) = some (.ex x δ) := (rfl)
theorem asgK_3 {g} : asgK g (none) = none := (rfl)
theorem asgoK_1 {i} {d} {δ} : asgoK i (some (.ok d δ)) = some (.nx (δ.set i (.ow d))) := (rfl)
theorem asgoK_2 {i} {x} {δ} : asgoK i (some (.ex x δ)) = some (.ex x δ) := (rfl)
theorem asgoK_3 {i} : asgoK i (none) = none := (rfl)
theorem parK_1 {i} {j} {a} {b} {δ} : parK i j (some (.ok [a, b] δ)) = some (.nx ((δ.set i (.fr a)).set j (.fr b))) := (rfl)
theorem parK_2 {i} {j} {x} {δ} : parK i j (some (.ex x δ)) = some (.ex x δ) := (rfl)
theorem gscK_1 {b} {r} {δ} : gscK b r (some δ) = b r δ := (rfl)
theorem gscK_2 {b} {r} : gscK b r (none) = none := (rfl)
theorem itK_1 {f} {as} {δ} : itK f (some (.ok as δ)) = liftK (f as) δ := (rfl)
theorem itK_2 {f} {x} {δ} : itK f (some (.ex x δ)) = some (.ex x δ) := (rfl)
theorem itK_3 {f} : itK f (none) = none := (rfl)
theorem sqK_1 {ds} {δ} : sqK  (some (.ok (.lst ds) δ)) = some (.ok ds δ) := (rfl)
theorem sqK_2 {x} {δ} : sqK  (some (.ex x δ)) = some (.ex x δ) := (rfl)
theorem tqK_1 {ds} {δ} : tqK  (some (.ok (.tup ds) δ)) = some (.ok ds δ) := (rfl)
theorem tqK_2 {x} {δ} : tqK  (some (.ex x δ)) = some (.ex x δ) := (rfl)
theorem sbK_1 {i} {δ} {ds} : sbK i δ (some (.bo (.lst ds))) = some (.ok ds δ) := (rfl)
theorem sbK_2 {i} {δ} {ds} : sbK i δ (some (.fr (.lst ds))) = some (.ok ds δ) := (rfl)
theorem sbK_3 {i} {δ} {ds} : sbK i δ (some (.ow (.lst ds))) = some (.ok ds (δ.set i (.fr (.lst ds)))) := (rfl)
theorem enK_1 {i} {δ} {ds} : enK i δ (some (.bo (.lst ds))) = some (.ok (enumD ds) δ) := (rfl)
theorem enK_2 {i} {δ} {ds} : enK i δ (some (.fr (.lst ds))) = some (.ok (enumD ds) δ) := (rfl)
theorem enK_3 {i} {δ} {ds} : enK i δ (some (.fr (.tup ds))) = some (.ok (enumD ds) δ) := (rfl)
theorem enK_4 {i} {δ} {ds} : enK i δ (some (.ow (.lst ds))) = some (.ok (enumD ds) (δ.set i (.fr (.lst ds)))) := (rfl)
theorem enK_5 {i} {δ} {ds} : enK i δ (some (.ow (.tup ds))) = some (.ok (enumD ds) (δ.set i (.fr (.tup ds)))) := (rfl)
theorem forK_1 {g} {b} {ds} {δ} : forK g b (some (.ok ds δ)) = forL g b ds δ := (rfl)
theorem forK_2 {g} {b} {x} {δ} : forK g b (some (.ex x δ)) = some (.ex x δ) := (rfl)
theorem forK_3 {g} {b} : forK g b (none) = none := (rfl)
theorem flL_1 {g} {b} {ds} {δ} : flL g b ds (some (.nx δ)) = forL g b ds δ := (rfl)
theorem flL_2 {g} {b} {ds} {δ} : flL g b ds (some (.ct δ)) = forL g b ds δ := (rfl)
theorem flL_3 {g} {b} {ds} {δ} : flL g b ds (some (.bk δ)) = some (.nx δ) := (rfl)
theorem flL_4 {g} {b} {ds} {d} {δ} : flL g b ds (some (.rt d δ)) = some (.rt d δ) := (rfl)
theorem flL_5 {g} {b} {ds} {d} {δ} : flL g b ds (some (.rn d δ)) = some (.rn d δ) := (rfl)
theorem flL_6 {g} {b} {ds} {x} {δ} : flL g b ds (some (.ex x δ)) = some (.ex x δ) := (rfl)
theorem flL_7 {g} {b} {ds} : flL g b ds (none) = none := (rfl)
theorem flK_1 {g} {b} {ds} {δ} : flK g b ds (some δ) = flL g b ds (b δ) := (rfl)
theorem flK_2 {g} {b} {ds} : flK g b ds (none) = none := (rfl)
theorem cpL_1 {ks} {g} {os} {δ} {ds} : cpL ks g os δ (some ds) = if frOk ks os then liftK (g ds) δ else none := (rfl)
theorem cpL_2 {ks} {g} {os} {δ} : cpL ks g os δ (none) = none := (rfl)
theorem cpK_1 {ks} {g} {os} {δ} : cpK ks g (some (.ok os δ)) = cpL ks g os δ (rds os δ) := (rfl)
theorem cpK_2 {ks} {g} {x} {δ} : cpK ks g (some (.ex x δ)) = some (.ex x δ) := (rfl)
theorem cpK_3 {ks} {g} : cpK ks g (none) = none := (rfl)
theorem ownK_1 {d} : ownK  (some (.ow d)) = some (.ow d, d) := (rfl)
theorem ownK_2 {d} : ownK  (some (.io d)) = some (.io d, d) := (rfl)
theorem ciM_1 {i} {δ} {s} {p} : ciM i δ s (some p) = some (.ok p.1 (δ.set i (reown s p.2))) := (rfl)
theorem ciM_2 {i} {δ} {s} : ciM i δ s (none) = none := (rfl)
theorem ciL_1 {i} {ks} {g} {os} {δ} {s} {c} {ds} : ciL i ks g os δ (some (s, c)) (some ds) = if frOk ks os && apart i os then ciM i δ s (g (c :: ds)) else none := (rfl)
theorem ciK_1 {i} {ks} {g} {os} {δ} : ciK i ks g (some (.ok os δ)) = ciL i ks g os δ (ownO δ i) (rds os δ) := (rfl)
theorem ciK_2 {i} {ks} {g} {x} {δ} : ciK i ks g (some (.ex x δ)) = some (.ex x δ) := (rfl)
theorem ciK_3 {i} {ks} {g} : ciK i ks g (none) = none := (rfl)
theorem ciH_1 {i} {ks} {g} {a} {δ} {u0} : ciH i ks g a δ (some u0) = ciK i ks g (a δ) := (rfl)
theorem ciH_2 {i} {ks} {g} {a} {δ} : ciH i ks g a δ (none) = none := (rfl)
theorem mkN_1 {δ} {C} {ns} {es} : mkN δ (some (.non, .ins C ns es)) = some (.ok (.ins C ns es) δ) := (rfl)
theorem mkL_1 {C} {ks} {g} {os} {δ} {ds} : mkL C ks g os δ (some ds) = if frOk ks os then mkN δ (g (.ins C [] [] :: ds)) else none := (rfl)
theorem mkL_2 {C} {ks} {g} {os} {δ} : mkL C ks g os δ (none) = none := (rfl)
theorem mkK_1 {C} {ks} {g} {os} {δ} : mkK C ks g (some (.ok os δ)) = mkL C ks g os δ (rds os δ) := (rfl)
theorem mkK_2 {C} {ks} {g} {x} {δ} : mkK C ks g (some (.ex x δ)) = some (.ex x δ) := (rfl)
theorem mkK_3 {C} {ks} {g} : mkK C ks g (none) = none := (rfl)
theorem olK_1 {ds} : olK  (some (.ow (.lst ds))) = some (.ow (.lst ds), ds) := (rfl)
theorem olK_2 {ds} : olK  (some (.io (.lst ds))) = some (.io (.lst ds), ds) := (rfl)
theorem muN_1 {i} {δ} {s} {nw} {res} : muN i δ s (some (nw, res)) = some (.ok res (δ.set i (reown s (.lst nw)))) := (rfl)
theorem muN_2 {i} {δ} {s} : muN i δ s (none) = none := (rfl)
theorem muL_1 {f} {i} {as} {δ} {s} {ds} : muL f i as δ (some (s, ds)) = muN i δ s (f ds as) := (rfl)
theorem muL_2 {f} {i} {as} {δ} : muL f i as δ (none) = none := (rfl)
theorem muK_1 {f} {i} {as} {δ} : muK f i (some (.ok as δ)) = muL f i as δ (ownL δ i) := (rfl)
theorem muK_2 {f} {i} {x} {δ} : muK f i (some (.ex x δ)) = some (.ex x δ) := (rfl)
theorem muK_3 {f} {i} : muK f i (none) = none := (rfl)
theorem muH_1 {f} {i} {a} {δ} {u0} : muH f i a δ (some u0) = muK f i (a δ) := (rfl)
theorem muH_2 {f} {i} {a} {δ} : muH f i a δ (none) = none := (rfl)
theorem puN_1 {i} {d} {δ} {s} {ds} {m} : puN i d δ s ds (some m) = some (.nx (δ.set i (reown s (.lst (ds.set m d))))) := (rfl)
theorem puN_2 {i} {d} {δ} {s} {ds} : puN i d δ s ds (none) = none := (rfl)
theorem puM_1 {i} {d} {n} {δ} {s} {ds} : puM i d n δ (some (s, ds)) = puN i d δ s ds (ixN ds.length n) := (rfl)
theorem puM_2 {i} {d} {n} {δ} : puM i d n δ (none) = none := (rfl)
theorem puL_1 {i} {d} {n} {δ} : puL i d (some (.ok (.int n) δ)) = puM i d n δ (ownL δ i) := (rfl)
theorem puL_2 {i} {d} {x} {δ} : puL i d (some (.ex x δ)) = some (.ex x δ) := (rfl)
theorem puH_1 {i} {d} {mi} {δ} {u0} : puH i d mi δ (some u0) = puL i d (mi δ) := (rfl)
theorem puH_2 {i} {d} {mi} {δ} : puH i d mi δ (none) = none := (rfl)
theorem puK_1 {i} {mi} {d} {δ} : puK i mi (some (.ok d δ)) = puH i d mi δ (ownL δ i) := (rfl)
theorem puK_2 {i} {mi} {x} {δ} : puK i mi (some (.ex x δ)) = some (.ex x δ) := (rfl)
theorem puK_3 {i} {mi} : puK i mi (none) = none := (rfl)
theorem oiK_1 {C} {ns} {ds} : oiK  (some (.ow (.ins C ns ds))) = some (.ow (.ins C ns ds), C, ns, ds) := (rfl)
theorem oiK_2 {C} {ns} {ds} : oiK  (some (.io (.ins C ns ds))) = some (.io (.ins C ns ds), C, ns, ds) := (rfl)
theorem sfL_1 {C} {i} {f} {d} {δ} {s} {C'} {ns} {ds} : sfL C i f d δ (some (s, C', ns, ds)) = if C' = C ∧ ns.length < 100 ∧ f ∉ ns then some (.nx (δ.set i (reown s (.ins C (ns ++ [f]) (ds ++ [d]))))) else none := (rfl)
theorem sfL_2 {C} {i} {f} {d} {δ} : sfL C i f d δ (none) = none := (rfl)
theorem sfK_1 {C} {i} {f} {d} {δ} : sfK C i f (some (.ok d δ)) = sfL C i f d δ (ownI δ i) := (rfl)
theorem sfK_2 {C} {i} {f} {x} {δ} : sfK C i f (some (.ex x δ)) = some (.ex x δ) := (rfl)
theorem sfK_3 {C} {i} {f} : sfK C i f (none) = none := (rfl)
theorem psK_1 {i} {δ} : psK  (some (.ok (.int i) δ)) = some (.ok (some i) δ) := (rfl)
theorem psK_2 {x} {δ} : psK  (some (.ex x δ)) = some (.ex x δ) := (rfl)
theorem slN_1 {f} {lo} {hi} {δ} {d} : slN f lo hi δ (some d) = liftK (f d lo hi) δ := (rfl)
theorem slN_2 {f} {lo} {hi} {δ} : slN f lo hi δ (none) = none := (rfl)
theorem slM_1 {f} {o} {lo} {hi} {δ} : slM f o lo (some (.ok hi δ)) = slN f lo hi δ (rd o δ) := (rfl)
theorem slM_2 {f} {o} {lo} {x} {δ} : slM f o lo (some (.ex x δ)) = some (.ex x δ) := (rfl)
theorem slM_3 {f} {o} {lo} : slM f o lo (none) = none := (rfl)
theorem slL_1 {f} {o} {u} {lo} {δ} : slL f o u (some (.ok lo δ)) = slM f o lo (u δ) := (rfl)
theorem slL_2 {f} {o} {u} {x} {δ} : slL f o u (some (.ex x δ)) = some (.ex x δ) := (rfl)
theorem slL_3 {f} {o} {u} : slL f o u (none) = none := (rfl)
theorem slK_1 {f} {l} {u} {o} {δ} : slK f l u (some (.ok o δ)) = slL f o u (l δ) := (rfl)
theorem slK_2 {f} {l} {u} {x} {δ} : slK f l u (some (.ex x δ)) = some (.ex x δ) := (rfl)
theorem slK_3 {f} {l} {u} : slK f l u (none) = none := (rfl)
theorem cnM_1 {k} {δ} {d} {e} : cnM k δ (some d) (some e) = liftK (if kindD d = some k then cntD d e else none) δ := (rfl)
theorem cnL_1 {o} {k} {q} {δ} : cnL o k (some (.ok q δ)) = cnM k δ (rd o δ) (rd q δ) := (rfl)
theorem cnL_2 {o} {k} {x} {δ} : cnL o k (some (.ex x δ)) = some (.ex x δ) := (rfl)
theorem cnL_3 {o} {k} : cnL o k (none) = none := (rfl)
theorem cnJ_1 {b} {o} {δ} {k} : cnJ b o δ (some k) = cnL o k (b δ) := (rfl)
theorem cnJ_2 {b} {o} {δ} : cnJ b o δ (none) = none := (rfl)
theorem cnI_1 {b} {o} {δ} {d} : cnI b o δ (some d) = cnJ b o δ (kindD d) := (rfl)
theorem cnI_2 {b} {o} {δ} : cnI b o δ (none) = none := (rfl)
theorem cnK_1 {b} {o} {δ} : cnK b (some (.ok o δ)) = cnI b o δ (rd o δ) := (rfl)
theorem cnK_2 {b} {x} {δ} : cnK b (some (.ex x δ)) = some (.ex x δ) := (rfl)
theorem cnK_3 {b} : cnK b (none) = none := (rfl)
theorem gD_1 {d} {u0} : gD  (some (.rt d u0)) = some d := (rfl)
theorem gD_2 {u0} : gD  (some (.nx u0)) = some .non := (rfl)
theorem io0K_1 {d} {e} : io0K d (some (.io e)) = some (d, e) := (rfl)
theorem gI_1 {d} {δ} : gI  (some (.rt d δ)) = io0K d δ[(0 : Nat)]? := (rfl)
theorem gI_2 {δ} : gI  (some (.nx δ)) = io0K .non δ[(0 : Nat)]? := (rfl)
theorem gNw_1 {d} {u0} : gNw  (some (.rn d u0)) = some d := (rfl)
theorem isB_str_non  : isB "str" .non = some (.bl false) := (rfl)
theorem isB_str_bl {z : Bool} : isB "str" (.bl z) = some (.bl false) := (rfl)
theorem isB_str_int {z : Int} : isB "str" (.int z) = some (.bl false) := (rfl)
theorem isB_str_str {z : Str} : isB "str" (.str z) = some (.bl true) := (rfl)
theorem isB_str_tup {z : List D} : isB "str" (.tup z) = some (.bl false) := (rfl)
theorem isB_str_lst {z : List D} : isB "str" (.lst z) = some (.bl false) := (rfl)
theorem isB_str_dk {z : List Key} {y : List D} : isB "str" (.dk z y) = some (.bl false) := (rfl)
theorem isB_list_non  : isB "list" .non = some (.bl false) := (rfl)
theorem isB_list_bl {z : Bool} : isB "list" (.bl z) = some (.bl false) := (rfl)
theorem isB_list_int {z : Int} : isB "list" (.int z) = some (.bl false) := (rfl)
theorem isB_list_str {z : Str} : isB "list" (.str z) = some (.bl false) := (rfl)
theorem isB_list_tup {z : List D} : isB "list" (.tup z) = some (.bl false) := (rfl)
theorem isB_list_lst {z : List D} : isB "list" (.lst z) = some (.bl true) := (rfl)
theorem isB_list_dk {z : List Key} {y : List D} : isB "list" (.dk z y) = some (.bl false) := (rfl)
theorem isB_tuple_non  : isB "tuple" .non = some (.bl false) := (rfl)
theorem isB_tuple_bl {z : Bool} : isB "tuple" (.bl z) = some (.bl false) := (rfl)
theorem isB_tuple_int {z : Int} : isB "tuple" (.int z) = some (.bl false) := (rfl)
theorem isB_tuple_str {z : Str} : isB "tuple" (.str z) = some (.bl false) := (rfl)
theorem isB_tuple_tup {z : List D} : isB "tuple" (.tup z) = some (.bl true) := (rfl)
theorem isB_tuple_lst {z : List D} : isB "tuple" (.lst z) = some (.bl false) := (rfl)
theorem isB_tuple_dk {z : List Key} {y : List D} : isB "tuple" (.dk z y) = some (.bl false) := (rfl)
theorem isB_int_non  : isB "int" .non = some (.bl false) := (rfl)
theorem isB_int_bl {z : Bool} : isB "int" (.bl z) = some (.bl true) := (rfl)
theorem isB_int_int {z : Int} : isB "int" (.int z) = some (.bl true) := (rfl)
theorem isB_int_str {z : Str} : isB "int" (.str z) = some (.bl false) := (rfl)
theorem isB_int_tup {z : List D} : isB "int" (.tup z) = some (.bl false) := (rfl)
theorem isB_int_lst {z : List D} : isB "int" (.lst z) = some (.bl false) := (rfl)
theorem isB_int_dk {z : List Key} {y : List D} : isB "int" (.dk z y) = some (.bl false) := (rfl)
theorem isB_bool_non  : isB "bool" .non = some (.bl false) := (rfl)
theorem isB_bool_bl {z : Bool} : isB "bool" (.bl z) = some (.bl true) := (rfl)
theorem isB_bool_int {z : Int} : isB "bool" (.int z) = some (.bl false) := (rfl)
theorem isB_bool_str {z : Str} : isB "bool" (.str z) = some (.bl false) := (rfl)
theorem isB_bool_tup {z : List D} : isB "bool" (.tup z) = some (.bl false) := (rfl)
theorem isB_bool_lst {z : List D} : isB "bool" (.lst z) = some (.bl false) := (rfl)
theorem isB_bool_dk {z : List Key} {y : List D} : isB "bool" (.dk z y) = some (.bl false) := (rfl)
theorem isB_dict_non  : isB "dict" .non = some (.bl false) := (rfl)
theorem isB_dict_bl {z : Bool} : isB "dict" (.bl z) = some (.bl false) := (rfl)
theorem isB_dict_int {z : Int} : isB "dict" (.int z) = some (.bl false) := (rfl)
theorem isB_dict_str {z : Str} : isB "dict" (.str z) = some (.bl false) := (rfl)
theorem isB_dict_tup {z : List D} : isB "dict" (.tup z) = some (.bl false) := (rfl)
theorem isB_dict_lst {z : List D} : isB "dict" (.lst z) = some (.bl false) := (rfl)
theorem isB_dict_dk {z : List Key} {y : List D} : isB "dict" (.dk z y) = some (.bl true) := (rfl)
theorem bK_1 {α β : Type} {f : α → M β} {a : α} {δ : En} : bK f (some (.ok a δ)) = f a δ := (rfl)
theorem sK_1 {α : Type} {f : α → Ms} {a : α} {δ : En} : sK f (some (.ok a δ)) = f a δ := (rfl)
theorem fI0_ii {g : Int → Int → D} {i j : Int} : fI0 g (.int i) (.int j) = some (g i j) := (rfl)
theorem fI_ii {C : Int → Int → Bool} {g : Int → Int → D} {i j : Int} : fI C g (.int i) (.int j) = if C i j then some (g i j) else none := (rfl)
theorem addD_ii {i j : Int} : addD (.int i) (.int j) = some (.int (i + j)) := (rfl)
theorem lenD_lst {ds : List D} : lenD (.lst ds) = some (.int ds.length) := (rfl)
theorem lenD_tup {ds : List D} : lenD (.tup ds) = some (.int ds.length) := (rfl)
theorem tupD_lst {ds : List D} : tupD (.lst ds) = some (.tup ds) := (rfl)
theorem tupD_tup {ds : List D} : tupD (.tup ds) = some (.tup ds) := (rfl)
theorem listD_lst {ds : List D} : listD (.lst ds) = some ds := (rfl)
theorem listD_tup {ds : List D} : listD (.tup ds) = some ds := (rfl)
theorem kindD_lst {ds : List D} : DL.kindD (.lst ds) = some false := (rfl)
theorem kindD_tup {ds : List D} : DL.kindD (.tup ds) = some true := (rfl)
theorem revLD_lst {ds : List D} : revLD (.lst ds) = some ds.reverse := (rfl)
theorem rown_ow {d e : D} : reown (.ow d) e = .ow e := (rfl)
theorem rown_io {d e : D} : reown (.io d) e = .io e := (rfl)
theorem sl_fr {d : D} : PK.sl .fr d = .fr d := (rfl)
theorem sl_bo {d : D} : PK.sl .bo d = .bo d := (rfl)
theorem sl_io {d : D} : PK.sl .io d = .io d := (rfl)
theorem entry_n {ds : List D} : entry [] ds = [] := (rfl)
theorem entry_c {k : PK} {ks : List PK} {d : D} {ds : List D} : entry (k :: ks) (d :: ds) = k.sl d :: entry ks ds := (rfl)
theorem frOk_n : frOk [] [] = true := (rfl)
theorem frOk_f {ks : List PK} {d : D} {os : List Op} : frOk (.fr :: ks) (.val d :: os) = frOk ks os := (rfl)
theorem frOk_b {ks : List PK} {o : Op} {os : List Op} : frOk (.bo :: ks) (o :: os) = frOk ks os := by cases o <;> rfl
theorem apart_n {i : Nat} : apart i [] = true := (rfl)
theorem apart_v {i : Nat} {d : D} {os : List Op} : apart i (.val d :: os) = apart i os := (rfl)
theorem apart_s {i j : Nat} {os : List Op} : apart i (.slot j :: os) = (j != i && apart i os) := (rfl)
end DL

open PySem L2 DL in
local macro_rules
  | `(tactic| simp_arith only [$as,*]) => `(tactic| simp only [lift_e, liftK_s, mC_e, mVar_e, mOv_e, mVal_e, rd_v, rd_s, m1_e, m1K_o, m1L_s, m2_e, m2K_o, m2L_o, m2N_s, lstM_s, mn1_e, mn2_e, maNil_e, maCons_e, acK_o, mdNil_e, mdCons_e, dcK_o, rds_n, rds_c, consO_s, mA_e, mnA_e, aK_o, aL_s, fA1_e, fN1_e, mTup_e, mLst_e, mTest_e, mNot_e, mAnd_e, mOr_e, mAndV_e, mOrV_e, mNotV_e, mIfE_e, mChain_e, mNext_e, mSeq_e, mIf_e, mRet_e, mRetW_e, mRetO_e, mDrop_e, mAsg_e, mAsgO_e, mPar_e, gN_e, gs0_e, gsC_e, gT_e, gTL_e, mIt_e, mSeqOf_e, mTupOf_e, mSeqB_e, mEnumB_e, mFor_e, forL_n, forL_c, mCallP_e, mCallN_e, ownO_e, mCallI_e, mMakeP_e, ownL_e, mMut_e, appF_e, mPutI_e, ownI_e, mSetF_e, mpNone_e, mpSome_e, mSl_e, mCount_e, defG_e, defI_e, defN_e, varK_1, varK_2, ovK_1, ovK_2, ovK_3, ovK_4, valK_1, valK_2, valK_3, datK_1, datK_2, datK_3, datK_4, m1L_1, m1L_2, m1K_1, m1K_2, m1K_3, m2N_1, acL_1, acL_2, acL_3, dcL_1, dcL_2, dcL_3, consO_1, aL_1, aL_2, tupK_1, tupK_2, tupK_3, lstK_1, lstK_2, lstK_3, testK_1, testK_2, notK_1, notK_2, notK_3, andK_1, andK_2, andK_3, andK_4, orK_1, orK_2, orK_3, orK_4, andvK_1, andvK_2, andvK_3, orvK_1, orvK_2, orvK_3, notvK_1, notvK_2, ifeK_1, ifeK_2, ifeK_3, ifeK_4, chN_1, chN_2, chM_1, chL_1, chL_2, chL_3, chK_1, chK_2, chK_3, seqK_1, seqK_2, seqK_3, seqK_4, seqK_5, seqK_6, seqK_7, ifK_1, ifK_2, ifK_3, ifK_4, retK_1, retK_2, retK_3, retwK_1, retwK_2, retwK_3, retoK_1, dropK_1, dropK_2, dropK_3, nxK_1, nxK_2, asgK_1, asgK_2, asgK_3, asgoK_1, asgoK_2, asgoK_3, parK_1, parK_2, gscK_1, gscK_2, itK_1, itK_2, itK_3, sqK_1, sqK_2, tqK_1, tqK_2, sbK_1, sbK_2, sbK_3, enK_1, enK_2, enK_3, enK_4, enK_5, forK_1, forK_2, forK_3, flL_1, flL_2, flL_3, flL_4, flL_5, flL_6, flL_7, flK_1, flK_2, cpL_1, cpL_2, cpK_1, cpK_2, cpK_3, ownK_1, ownK_2, ciM_1, ciM_2, ciL_1, ciK_1, ciK_2, ciK_3, ciH_1, ciH_2, mkN_1, mkL_1, mkL_2, mkK_1, mkK_2, mkK_3, olK_1, olK_2, muN_1, muN_2, muL_1, muL_2, muK_1, muK_2, muK_3, muH_1, muH_2, puN_1, puN_2, puM_1, puM_2, puL_1, puL_2, puH_1, puH_2, puK_1, puK_2, puK_3, oiK_1, oiK_2, sfL_1, sfL_2, sfK_1, sfK_2, sfK_3, psK_1, psK_2, slN_1, slN_2, slM_1, slM_2, slM_3, slL_1, slL_2, slL_3, slK_1, slK_2, slK_3, cnM_1, cnL_1, cnL_2, cnL_3, cnJ_1, cnJ_2, cnI_1, cnI_2, cnK_1, cnK_2, cnK_3, gD_1, gD_2, io0K_1, gI_1, gI_2, gNw_1, isB_str_non, isB_str_bl, isB_str_int, isB_str_str, isB_str_tup, isB_str_lst, isB_str_dk, isB_list_non, isB_list_bl, isB_list_int, isB_list_str, isB_list_tup, isB_list_lst, isB_list_dk, isB_tuple_non, isB_tuple_bl, isB_tuple_int, isB_tuple_str, isB_tuple_tup, isB_tuple_lst, isB_tuple_dk, isB_int_non, isB_int_bl, isB_int_int, isB_int_str, isB_int_tup, isB_int_lst, isB_int_dk, isB_bool_non, isB_bool_bl, isB_bool_int, isB_bool_str, isB_bool_tup, isB_bool_lst, isB_bool_dk, isB_dict_non, isB_dict_bl, isB_dict_int, isB_dict_str, isB_dict_tup, isB_dict_lst, isB_dict_dk, bK_1, sK_1, fI0_ii, fI_ii, addD_ii, lenD_lst, lenD_tup, tupD_lst, tupD_tup, listD_lst, listD_tup, kindD_lst, kindD_tup, revLD_lst, rown_ow, rown_io, sl_fr, sl_bo, sl_io, entry_n, entry_c, frOk_n, frOk_f, frOk_b, apart_n, apart_v, apart_s, startE, List.length_cons, List.length_nil, List.replicate, List.cons_append, List.nil_append, Nat.reduceAdd, Nat.reduceSub, Nat.zero_add, List.getElem?_cons_zero, List.getElem?_cons_succ, List.set_cons_zero, List.set_cons_succ, if_true, if_false, reduceIte, decide_true, decide_false, Bool.not_true, Bool.not_false, Bool.and_self, Bool.true_and, Bool.and_true, Bool.false_eq_true, LB, Nat.reduceLeDiff, Nat.reduceLT, Nat.reduceBNe, Nat.reduceBEq, $as,*])
set_option Elab.async false
set_option linter.all false
set_option maxRecDepth 100000
set_option maxHeartbeats 400000
/-! MAc: loops by an invariant over how far they are. -/
namespace DL
open PySem L2
theorem forL_from {α : Type} (enc : α → D) (g : Mg) (b : Ms) (Inv : Nat → En → Prop) : ∀ (as pre : List α) (δ : En), Inv pre.length δ →
    (∀ (i : Nat) (a : α) δ, (pre ++ as)[i]? = some a → Inv i δ → ∃ δ1 δ2, g (enc a) δ = some δ1 ∧ b δ1 = some (.nx δ2) ∧ Inv (i + 1) δ2) → ∃ δ', forL g b (as.map enc) δ = some (.nx δ') ∧ Inv (pre ++ as).length δ'
  | [], pre, δ, h, _ => ⟨δ, rfl, by rw [List.append_nil]; exact h⟩
  | a :: as, pre, δ, h, hs => by
    have e : pre ++ a :: as = (pre ++ [a]) ++ as := by simp
    obtain ⟨δ1, δ2, h1, h2, h3⟩ := hs pre.length a δ (by simp) h
    obtain ⟨δ', h4, h5⟩ := forL_from enc g b Inv as (pre ++ [a]) δ2 (by simpa using h3) (by rw [← e]; exact hs)
    refine ⟨δ', ?_, by rw [e]; exact h5⟩
    rw [List.map_cons]
    simp only [forL, h1, h2]
    exact h4
/-- a loop over as, by what holds behind i turns -/
theorem forL_ix {α : Type} {enc : α → D} {g : Mg} {b : Ms} {as : List α} (Inv : Nat → En → Prop) {δ : En} (h0 : Inv 0 δ)
    (hs : ∀ (i : Nat) (a : α) δ, as[i]? = some a → Inv i δ → ∃ δ1 δ2, g (enc a) δ = some δ1 ∧ b δ1 = some (.nx δ2) ∧ Inv (i + 1) δ2) : ∃ δ', forL g b (as.map enc) δ = some (.nx δ') ∧ Inv as.length δ' :=
  forL_from enc g b Inv as [] δ h0 hs
theorem mulOk_r {i j : Int} (h : -1000000 ≤ j ∧ j ≤ 1000000) : mulOk i j = true := by
  unfold mulOk small64
  simp only [Bool.or_eq_true, Bool.and_eq_true, decide_eq_true_eq]
  right
  omega
end DL

set_option Elab.async false
set_option linter.all false
set_option maxRecDepth 100000
set_option maxHeartbeats 400000
/-! MAd: sorting data: what sortD gives. -/
namespace DL
open PySem L2
open PySem.W (dataLe dataLt alike keyToks)
abbrev dLe : D → D → Bool := dataLe false encD
theorem dLe_eq (a b : D) : dLe a b = !dataLt (encD b) (encD a) := rfl
theorem lt_irr (p : PyData) : dataLt p p = false := PyProof.Rows.lex_irrefl _
theorem lt_tr {p q r : PyData} (h1 : dataLt p q = true) (h2 : dataLt q r = true) : dataLt p r = true := PyProof.Rows.lex_trans _ _ _ h1 h2
theorem lt_tot {p q : PyData} (h1 : dataLt p q = false) (h2 : dataLt q p = false) : keyToks p = keyToks q := PyProof.Rows.lex_total _ _ h1 h2
theorem dLe_total (a b : D) : (dLe a b || dLe b a) = true := by
  rw [dLe_eq, dLe_eq]
  cases h1 : dataLt (encD b) (encD a) with
  | false => rfl
  | true =>
    cases h2 : dataLt (encD a) (encD b) with
    | false => rfl
    | true =>
      have := lt_tr h1 h2
      rw [lt_irr] at this
      cases this
theorem dLe_trans (a b c : D) (h1 : dLe a b = true) (h2 : dLe b c = true) : dLe a c = true := by
  rw [dLe_eq, Bool.not_eq_true'] at *
  cases h3 : dataLt (encD c) (encD a) with
  | false => rfl
  | true =>
    cases h4 : dataLt (encD a) (encD b) with
    | true =>
      have := lt_tr h3 h4
      rw [h2] at this
      cases this
    | false =>
      have e := lt_tot h4 h1
      have : dataLt (encD c) (encD b) = true := by
        unfold dataLt at h3 ⊢
        rw [← e]
        exact h3
      rw [h2] at this
      cases this
theorem sortD_perm (ds : List D) : (sortD ds).Perm ds := List.mergeSort_perm ds _
theorem sortD_sorted (ds : List D) : (sortD ds).Pairwise fun a b => dLe a b = true := List.pairwise_mergeSort dLe_trans dLe_total ds
theorem sortD_of {ds : List D} (h : ds.Pairwise fun a b => dLe a b = true) : sortD ds = ds := List.mergeSort_of_pairwise h
theorem sortD_idem (ds : List D) : sortD (sortD ds) = sortD ds := sortD_of (sortD_sorted ds)
theorem perm_map {α : Type} {f : α → D} {ds : List D} {as : List α} (p : ds.Perm (as.map f)) : ∃ bs : List α, ds = bs.map f ∧ bs.Perm as := by
  generalize hl : as.map f = l at p
  induction p generalizing as with
  | nil => exact ⟨[], rfl, by have : as = [] := by simpa using hl
                              rw [this]⟩
  | cons x p ih =>
    cases as with
    | nil => cases hl
    | cons a as =>
      rw [List.map_cons] at hl
      cases hl
      obtain ⟨bs, rfl, q⟩ := ih rfl
      exact ⟨a :: bs, rfl, q.cons a⟩
  | swap x y l =>
    cases as with
    | nil => cases hl
    | cons a as =>
      cases as with
      | nil => cases hl
      | cons b as =>
        rw [List.map_cons, List.map_cons] at hl
        cases hl
        exact ⟨b :: a :: as, rfl, List.Perm.swap a b as⟩
  | trans p1 p2 ih1 ih2 =>
    obtain ⟨bs, rfl, q⟩ := ih2 hl
    obtain ⟨bs', rfl, q'⟩ := ih1 rfl
    exact ⟨bs', rfl, q'.trans q⟩
end DL

set_option linter.all false
/-! PGa: plain arithmetic: factorials, products, ways to change about. -/
namespace PG
def fac : Nat → Nat
  | 0 => 1
  | n + 1 => fac n * (n + 1)
/-- the product -/
def pr : List Nat → Nat
  | [] => 1
  | n :: ns => n * pr ns
section
variable {α : Type} [DecidableEq α]
/-- the ways, one by one: each behind those that are like it -/
def rk : List α → List α → Nat
  | _, [] => 1
  | pre, x :: xs => (1 + pre.count x) * rk (pre ++ [x]) xs
def ways (ns xs : List α) : Nat := pr (ns.map fun n => fac (xs.count n))
/-- the ways of corners and of ends: each corner behind those like it, then its ends -/
def ch {β : Type} [DecidableEq β] (own : α → List β) : List α → List α → Nat
  | _, [] => 1
  | pre, x :: xs => (1 + pre.count x) * rk [] (own x) * ch own (pre ++ [x]) xs
end
end PG

set_option linter.all false
/-! PGb: plain: in how many ways ends fall into pairs. -/
namespace PG
section
variable {α : Type} [DecidableEq α]
end
end PG

set_option linter.all false
/-! PGc: plain: ways when one is taken away; sums over kinds. -/
namespace PG
section
variable {α : Type} [DecidableEq α]
end
end PG

set_option linter.all false
/-! PGd: plain Lean: how many unlike ones a list has; marks tied together; rings. -/
namespace PG
section
variable {α : Type} [DecidableEq α]
def dp : List α → List α
  | [] => []
  | x :: r => if x ∈ r then dp r else x :: dp r
/-- how many unlike ones there are -/
def nd (m : List α) : Nat := (dp m).length
end
/-- marks x and y tied: the higher one is called as the lower -/
def tie (m : List Int) (x y : Int) : List Int := m.map fun z => if z = max x y then min x y else z
end PG

set_option linter.all false
/-! PGe: plain Lean: marks tied join by join; how many joins tie what is tied already; two drawings beside one another. -/
namespace PG
end PG

set_option Elab.async false
set_option linter.all false
set_option maxRecDepth 100000
set_option maxHeartbeats 400000
/-! PMa: printed by gen.py: what the defs on stocks, and the laws' drawing helpers, compute. -/
namespace G
open PySem L2 DL
structure Cs where
  stock : Addr
  drawing : Addr
  weights : Addr
  desk : Addr
  x : Nat → Addr
  w : World
def m__law_pick (c : Cs) : Ms := mSeq (mIf (mTest (m2 (fI0 fun i j => .bl (decide (j ≤ i))) (mVal (m2 ixD (mOv 0) (mVal (mC (.int 0))))) (mVal (m2 (fI powOk fun i j => .int (i ^ j.toNat)) (mVal (mC (.int 10))) (mVal (mC (.int 15))))))) (mSeq (mAsg (gN 2) (m2 (fI modOk fun i j => .int (i % j)) (mVal (m2 ixD (mOv 0) (mVal (mC (.int 0))))) (mOv 1))) (mSeq (mPutI 0 (mC (.int 0)) (m2 (fI divOk fun i j => .int (i / j)) (mVal (m2 ixD (mOv 0) (mVal (mC (.int 0))))) (mOv 1))) (mRet (mVar 2)))) (mNext)) (mSeq (mPutI 0 (mC (.int 2)) (m2 addD (mVal (m2 ixD (mOv 0) (mVal (mC (.int 2))))) (mVal (mC (.int 1))))) (mSeq (mAsg (gN 3) (m2 (fI modOk fun i j => .int (i % j)) (mVal (m2 addD (mVal (m2 addD (mVal (m2 (fI mulOk fun i j => .int (i * j)) (mVal (m2 ixD (mOv 0) (mVal (mC (.int 1))))) (mVal (mC (.int 48271))))) (mVal (m2 (fI mulOk fun i j => .int (i * j)) (mVal (mC (.int 7919))) (mVal (m2 ixD (mOv 0) (mVal (mC (.int 2))))))))) (mVal (mC (.int 12345))))) (mVal (mC (.int 2147483647))))) (mSeq (mAsg (gN 3) (m2 (fI modOk fun i j => .int (i % j)) (mVal (m2 (fI mulOk fun i j => .int (i * j)) (mOv 3) (mVal (m2 addD (mVal (m2 (fI divOk fun i j => .int (i / j)) (mOv 3) (mVal (mC (.int 997))))) (mVal (mC (.int 69069))))))) (mVal (mC (.int 2147483629))))) (mSeq (mPutI 0 (mC (.int 1)) (mVar 3)) (mRet (m2 (fI modOk fun i j => .int (i % j)) (mVal (m2 (fI divOk fun i j => .int (i / j)) (mOv 3) (mVal (mC (.int 11))))) (mOv 1)))))))
def g__law_pick (c : Cs) : List D → Option (D × D) := defI 4 [.fr] (m__law_pick c)
end G

set_option Elab.async false
set_option linter.all false
set_option maxRecDepth 100000
set_option maxHeartbeats 400000
/-! PMb: printed by gen.py: what the defs on ends and counts, and the laws' grounds, compute. -/
namespace G
open PySem L2 DL
end G

set_option Elab.async false
set_option linter.all false
set_option maxRecDepth 100000
set_option maxHeartbeats 400000
/-! PMc: printed by gen.py: fractions, sums, and the laws' own reckonings. -/
namespace G
open PySem L2 DL
end G

set_option Elab.async false
set_option linter.all false
set_option maxRecDepth 100000
set_option maxHeartbeats 400000
/-! PMd: printed by gen.py: drawings, and the laws' drawn ones. -/
namespace G
open PySem L2 DL
end G

set_option Elab.async false
set_option linter.all false
set_option maxRecDepth 100000
set_option maxHeartbeats 4000000
/-! PMe: printed by gen.py: parts, and the first family of the laws' helpers. -/
namespace GA
open PySem L2 DL G
abbrev N__law_source_of : List Str := ["_law_cell"]
def m__law_source_of (c : Cs) : Ms := mRetW (mLst (mdCons (m2 (fI mulOk fun i j => .int (i * j)) (mOv 0) (mVal (mA (fA1 intD) (maCons (mVal (m2 (fI0 fun i j => .bl (decide (j ≤ i))) (mOv 0) (mVal (m2 (fI powOk fun i j => .int (i ^ j.toNat)) (mVal (mC (.int 10))) (mVal (mC (.int 18))))))) maNil)))) (mdCons (m2 (fI modOk fun i j => .int (i % j)) (mOv 0) (mVal (mC (.int 2147483647)))) (mdCons (mC (.int 0)) mdNil))))
def g__law_source_of (c : Cs) : List D → Option D := defN 1 [.fr] (m__law_source_of c)
abbrev N__law_next : List Str := ["_law_source", "_law_many", "_law_found", "_law_prime", "_law_figure"]
def m__law_next (c : Cs) : Ms := mSeq (mIf (mTest (m2 (fI0 fun i j => .bl (decide (j < i))) (mVal (m2 ixD (mOv 0) (mVal (mC (.int 0))))) (mVal (mC (.int 0))))) (mSeq (mAsg (gN 2) (m2 (fI modOk fun i j => .int (i % j)) (mVal (m2 ixD (mOv 0) (mVal (mC (.int 0))))) (mOv 1))) (mSeq (mPutI 0 (mC (.int 0)) (m2 (fI divOk fun i j => .int (i / j)) (mVal (m2 ixD (mOv 0) (mVal (mC (.int 0))))) (mOv 1))) (mRet (mVar 2)))) (mNext)) (mSeq (mPutI 0 (mC (.int 2)) (m2 addD (mVal (m2 ixD (mOv 0) (mVal (mC (.int 2))))) (mVal (mC (.int 1))))) (mSeq (mAsg (gN 3) (m2 ixD (mVal (mLst (mdCons (mC (.int 2147483647)) (mdCons (mC (.int 2147483629)) (mdCons (mC (.int 2147483587)) (mdCons (mC (.int 2147483579)) (mdCons (mC (.int 2147483563)) (mdCons (mC (.int 2147483549)) (mdCons (mC (.int 2147483543)) mdNil))))))))) (mVal (m2 (fI modOk fun i j => .int (i % j)) (mVal (m2 ixD (mOv 0) (mVal (mC (.int 2))))) (mVal (mC (.int 7))))))) (mSeq (mAsg (gN 4) (m2 (fI modOk fun i j => .int (i % j)) (mVal (m2 (fI powOk fun i j => .int (i ^ j.toNat)) (mVal (m2 addD (mVal (m2 addD (mVal (m2 ixD (mOv 0) (mVal (mC (.int 1))))) (mVal (m2 (fI mulOk fun i j => .int (i * j)) (mVal (mC (.int 7919))) (mVal (m2 ixD (mOv 0) (mVal (mC (.int 2))))))))) (mVal (mC (.int 1))))) (mVal (mC (.int 5))))) (mOv 3))) (mSeq (mAsg (gN 4) (m2 (fI modOk fun i j => .int (i % j)) (mVal (m2 (fI mulOk fun i j => .int (i * j)) (mVal (m2 addD (mOv 4) (mVal (m2 ixD (mOv 0) (mVal (mC (.int 2))))))) (mVal (m2 addD (mVal (m2 (fI divOk fun i j => .int (i / j)) (mOv 4) (mVal (mC (.int 1009))))) (mVal (mC (.int 69621))))))) (mOv 3))) (mRet (m2 (fI modOk fun i j => .int (i % j)) (mVal (m2 (fI divOk fun i j => .int (i / j)) (mOv 4) (mVal (mC (.int 7))))) (mOv 1)))))))
def g__law_next (c : Cs) : List D → Option (D × D) := defI 5 [.fr] (m__law_next c)
abbrev N__law_one : List Str := ["_law_source", "_law_some"]
def m__law_one (c : Cs) : Ms := mRet (m2 ixD (mOv 1) (mVal (mCallI 0 [.fr] (g__law_next c) (maCons (mVal (mA (fA1 lenD) (maCons (mOv 1) maNil))) maNil))))
def g__law_one (c : Cs) : List D → Option (D × D) := defI 2 [.fr] (m__law_one c)
end GA

set_option Elab.async false
set_option linter.all false
set_option maxRecDepth 100000
set_option maxHeartbeats 400000
/-! MBa: what the drawing helpers of the laws (state, pick, words) give. -/
namespace G
open PySem L2 DL
/-- the state that is drawn from -/
def rs (a b k : Int) : D := .lst [.int a, .int b, .int k]
section
theorem pick_spec (c : Cs) (a b k n : Int) (h0 : 0 < n) (h1 : n < 1073741824) : ∃ r a' b' k', g__law_pick c [rs a b k, .int n] = some (.int r, rs a' b' k') ∧ 0 ≤ r ∧ r < n := by
  unfold rs
  by_cases h : 1000000000000000 ≤ a
  · refine ⟨a % n, a / n, b, k, ?_, Int.emod_nonneg _ (by omega), Int.emod_lt_of_pos _ h0⟩
    simp [defI, startE, entry, PK.sl, mSeq, mIf, mTest, m2, M.bind, mVal, mOv, mC, M.ret, Sl.dat, mRd, rd, M.lift, ixD, atI, fI, fI0, powOk, modOk, divOk, mulOk, DL.small64, mS, mAsg, gN, mPutI, mHas, ownL, Sl.own, ixN, reown, mRet, mVar, mNext, io0, addD, g__law_pick, m__law_pick, h, h0, h1]
  · let x := (b * 48271 + 7919 * (k + 1) + 12345) % 2147483647
    have hx0 : 0 ≤ x := Int.emod_nonneg _ (by decide)
    have hx1 : x < 2147483647 := Int.emod_lt_of_pos _ (by decide)
    let y := x * (x / 997 + 69069) % 2147483629
    refine ⟨y / 11 % n, a, y, k + 1, ?_, Int.emod_nonneg _ (by omega), Int.emod_lt_of_pos _ h0⟩
    have e1 : (b * 48271 + 7919 * (k + 1) + 12345) % 2147483647 = x := rfl
    have e2 : x * (x / 997 + 69069) % 2147483629 = y := rfl
    have s1 : -18446744073709551616 < x ∧ x < 18446744073709551616 := by omega
    simp [defI, startE, entry, PK.sl, mSeq, mIf, mTest, m2, M.bind, mVal, mOv, mC, M.ret, Sl.dat, mRd, rd, M.lift, ixD, atI, fI, fI0, powOk, modOk, divOk, mulOk, DL.small64, mS, mAsg, gN, mPutI, mHas, ownL, Sl.own, ixN, reown, mRet, mVar, mNext, io0, addD, g__law_pick, m__law_pick, h, h0, h1, e1, e2, s1]
end
/-- small letters alone -/
def Low (x : Str) : Prop := ∀ c ∈ x.cps.toList, 97 ≤ c ∧ c ≤ 122
def NameOk (x : Str) : Prop := 1 ≤ x.cps.size ∧ x.cps.size ≤ 8 ∧ Low x
theorem str_len (x : Str) : x.length = x.cps.size := rfl
theorem app_cps (x y : Str) : (x ++ y).cps.toList = x.cps.toList ++ y.cps.toList := by
  show (x.cps ++ y.cps).toList = _
  rw [Array.toList_append]
theorem app_size (x y : Str) : (x ++ y).cps.size = x.cps.size + y.cps.size := by
  show (x.cps ++ y.cps).size = _
  rw [Array.size_append]
theorem Low.app {x y : Str} (h : Low x) (g : Low y) : Low (x ++ y) := fun c hc => by
  rw [app_cps, List.mem_append] at hc
  exact hc.elim (h c) (g c)
def abc : Str := "abcdefghijklmnopqrstuvwxyz"
theorem abc_list : abc.cps.toList = (List.range 26).map (· + 97) := by decide +kernel
theorem abc_at {r : Int} (h0 : 0 ≤ r) (h1 : r < 26) : ixD (.str abc) (.int r) = some (.str ⟨#[r.toNat + 97]⟩) := by
  have hl : abc.cps.toList.length = 26 := by decide +kernel
  have e : atI abc.cps.toList r = some (r.toNat + 97) := by
    unfold atI ixN
    rw [hl, abc_list]
    have : r.toNat < 26 := by omega
    simp [h0, h1, this]
    try omega
  have hs : abc.length ≤ 1000000 := by decide +kernel
  simp only [ixD, hs, if_true, e, Option.map_some]
theorem low1 {c : Nat} (h : 97 ≤ c ∧ c ≤ 122) : Low ⟨#[c]⟩ := fun d hd => by
  have : d = c := by simpa using hd
  rw [this]; exact h
section
/-- one more letter -/
def letterB (c : Cs) : Ms := mAsg (gN 4) (m2 addD (mOv 4) (mVal (m2 ixD (mVal (mC (.str "abcdefghijklmnopqrstuvwxyz"))) (mVal (mCallI 0 [.fr] (g__law_pick c) (maCons (mVal (mC (.int 26))) maNil))))))
theorem letter_step (c : Cs) (a b k m : Int) (f2 f3 f5 : Sl) (w : Str) (hw : w.cps.size ≤ 100) (hl : Low w) (y : D) : ∃ δ1, gN 5 y [.io (rs a b k), .fr (.int m), f2, f3, .fr (.str w), f5] = some δ1 ∧ ∃ a' b' k' w', letterB c δ1 = some (.nx [.io (rs a' b' k'), .fr (.int m), f2, f3, .fr (.str w'), .fr y]) ∧ Low w' ∧ w'.cps.size = w.cps.size + 1 := by
  obtain ⟨r, a', b', k', hp, h0, h1⟩ := pick_spec c a b k 26 (by decide) (by decide)
  refine ⟨_, rfl, a', b', k', w ++ ⟨#[r.toNat + 97]⟩, ?_, hl.app (low1 (by omega)), app_size _ _⟩
  have e : ixD (.str "abcdefghijklmnopqrstuvwxyz") (.int r) = some (.str ⟨#[r.toNat + 97]⟩) := abc_at h0 h1
  have hz : w.length + 1 ≤ 1000000 := by rw [str_len]; omega
  have ea : addD (.str w) (.str ⟨#[r.toNat + 97]⟩) = some (.str (w ++ ⟨#[r.toNat + 97]⟩)) := by
    have hz' : w.length + (⟨#[r.toNat + 97]⟩ : Str).length ≤ 1000000 := hz
    simp [defI, startE, entry, PK.sl, mSeq, mIf, mTest, m2, M.bind, mVal, mOv, mC, M.ret, Sl.dat, mRd, rd, M.lift, fI, fI0, mS, mAsg, gN, mHas, ownL, Sl.own, reown, mRet, mVar, mNext, io0, mCallI, maCons, maNil, mRds, rds, frOk, apart, addD, fI0, fStrCat, hz']
  unfold letterB
  simp [defI, startE, entry, PK.sl, mSeq, mIf, mTest, m2, M.bind, mVal, mOv, mC, M.ret, Sl.dat, mRd, rd, M.lift, fI, fI0, mS, mAsg, gN, mHas, ownL, Sl.own, reown, mRet, mVar, mNext, io0, mCallI, maCons, maNil, mRds, rds, frOk, apart, hp, e, ea]
/-- letters one by one -/
theorem letters (c : Cs) (m : Int) (f2 f3 : Sl) : ∀ (n : Nat) (ds : List D), ds.length = n → ∀ (a b k : Int) (w : Str) (f5 : Sl), w.cps.size + n ≤ 100 → Low w →
    ∃ a' b' k' w' f5', forL (gN 5) (letterB c) ds [.io (rs a b k), .fr (.int m), f2, f3, .fr (.str w), f5] = some (.nx [.io (rs a' b' k'), .fr (.int m), f2, f3, .fr (.str w'), f5']) ∧ Low w' ∧ w'.cps.size = w.cps.size + n
  | 0, ds, hd, a, b, k, w, f5, hw, hl => by
    cases ds with
    | nil => exact ⟨a, b, k, w, f5, rfl, hl, rfl⟩
    | cons d ds => simp [defI, startE, entry, PK.sl, mSeq, mIf, mTest, m2, M.bind, mVal, mOv, mC, M.ret, Sl.dat, mRd, rd, M.lift, fI, fI0, mS, mAsg, gN, mHas, ownL, Sl.own, reown, mRet, mVar, mNext, io0, mCallI, maCons, maNil, mRds, rds, frOk, apart] at hd
  | n + 1, ds, hd, a, b, k, w, f5, hw, hl => by
    cases ds with
    | nil => simp [defI, startE, entry, PK.sl, mSeq, mIf, mTest, m2, M.bind, mVal, mOv, mC, M.ret, Sl.dat, mRd, rd, M.lift, fI, fI0, mS, mAsg, gN, mHas, ownL, Sl.own, reown, mRet, mVar, mNext, io0, mCallI, maCons, maNil, mRds, rds, frOk, apart] at hd
    | cons d ds =>
      obtain ⟨δ1, h1, a1, b1, k1, w1, h2, h3, h4⟩ := letter_step c a b k m f2 f3 f5 w (by omega) hl d
      obtain ⟨a', b', k', w', f5', h5, h6, h7⟩ := letters c m f2 f3 n ds (by simpa using hd) a1 b1 k1 w1 (.fr d) (by omega) h3
      refine ⟨a', b', k', w', f5', ?_, h6, by omega⟩
      simp only [forL, h1, h2]
      exact h5
def sgn : List Nat := [115, 111, 114, 116, 101, 110, 100]
end
end G

set_option Elab.async false
set_option linter.all false
set_option maxRecDepth 100000
set_option maxHeartbeats 400000
/-! MBb: the rows of a stock as the laws draw them. -/
namespace G
open PySem L2 DL
def kindD (p : Str × List Str) : D := .tup [.str p.1, .tup (p.2.map .str)]
def strLe (x y : Str) : Bool := decide (x.cps.toList ≤ y.cps.toList)
/-- texts sorted -/
def sortS (xs : List Str) : List Str := xs.mergeSort strLe
section
theorem atI_nat {α : Type} {xs : List α} {r : Int} (h0 : 0 ≤ r) (h1 : r < xs.length) : ∃ h : r.toNat < xs.length, atI xs r = some xs[r.toNat] := by
  have h : r.toNat < xs.length := by omega
  refine ⟨h, ?_⟩
  unfold atI ixN
  simp [defI, startE, entry, PK.sl, mSeq, mIf, mTest, m2, M.bind, mVal, mOv, mC, M.ret, Sl.dat, mRd, rd, M.lift, fI, fI0, mS, mAsg, gN, mHas, ownL, Sl.own, reown, mRet, mVar, mNext, io0, mCallI, maCons, maNil, mRds, rds, frOk, apart, mdCons, mdNil, mLst, mIt, mFor, mDrop, mMut, appF, mA, fA1, lenD, wipeE, h0, h1, h]
/-- kinds of drawn ends under drawn names -/
def KindsOk (sorts : List (Str × Str)) (m : Nat) (ks : List (Str × List Str)) : Prop := ∀ p ∈ ks, ∃ xs : List Str, p.2 = sortS xs ∧ (∀ y ∈ xs, y ∈ sorts.map fun q => q.1) ∧ 1 ≤ xs.length ∧ xs.length ≤ m
end
end G

set_option Elab.async false
set_option linter.all false
set_option maxRecDepth 100000
set_option maxHeartbeats 1000000
/-! MBc: a stock's rows drawn. -/
namespace G
open PySem L2 DL
structure SortsOk (sorts : List (Str × Str)) : Prop where
  lo : 1 ≤ sorts.length
  hi : sorts.length ≤ 3
  nm : ∀ p ∈ sorts, NameOk p.1 ∧ NameOk p.2
  nd : (sorts.map fun p => p.1).Nodup
  mu : ∀ p ∈ sorts, (p.2, p.1) ∈ sorts
section
end
end G

set_option Elab.async false
set_option linter.all false
set_option maxRecDepth 100000
set_option maxHeartbeats 1000000
/-! MCa: a stock that is in order is made. -/
namespace G
open PySem L2 DL
theorem NameOk.ok {x : Str} (h : NameOk x) : PyData.strOk x = true := by
  unfold PyData.strOk
  rw [Array.all_eq_true']
  intro c hc
  have := h.2.2 c (Array.mem_toList_iff.mpr hc)
  exact decide_eq_true (by omega)
theorem NameOk.pl {x : Str} (h : NameOk x) {n : Nat} : Pl n (.str x) := Pl.str h.ok
theorem eqD_int (i j : Int) : eqD (.int i) (.int j) = some (.bl (decide (i = j))) := by
  rw [eqD_pl 0 Pl.int Pl.int]; simp
section
variable (c : Cs) {sorts : List (Str × Str)} (hS : SortsOk sorts)
include hS
end
end G

set_option Elab.async false
set_option linter.all false
set_option maxRecDepth 100000
set_option maxHeartbeats 1000000
/-! MCb: kinds in order; a stock made. -/
namespace G
open PySem L2 DL
theorem strLe_trans (a b c : Str) (h1 : strLe a b = true) (h2 : strLe b c = true) : strLe a c = true := by
  unfold strLe at *
  simp only [decide_eq_true_eq] at *
  exact List.le_trans h1 h2
theorem strLe_total (a b : Str) : (strLe a b || strLe b a) = true := by
  unfold strLe
  simp only [Bool.or_eq_true, decide_eq_true_eq]
  exact List.le_total _ _
theorem sortS_sorted (xs : List Str) : (sortS xs).Pairwise fun a b => strLe a b = true := List.pairwise_mergeSort strLe_trans strLe_total xs
theorem sortS_perm (xs : List Str) : (sortS xs).Perm xs := List.mergeSort_perm xs strLe
theorem sortS_of {xs : List Str} (h : xs.Pairwise fun a b => strLe a b = true) : sortS xs = xs := List.mergeSort_of_pairwise h
theorem sortS_idem (xs : List Str) : sortS (sortS xs) = sortS xs := sortS_of (sortS_sorted xs)
theorem sortS_len (xs : List Str) : (sortS xs).length = xs.length := (sortS_perm xs).length_eq
theorem sortS_mem {x : Str} {xs : List Str} : x ∈ sortS xs ↔ x ∈ xs := (sortS_perm xs).mem_iff
/-- a kind's ends, told: sorted, one to five of the sorts -/
structure EndsOk (sorts : List (Str × Str)) (es : List Str) : Prop where
  so : sortS es = es
  mem : ∀ y ∈ es, y ∈ sorts.map fun q => q.1
  lo : 1 ≤ es.length
  hi : es.length ≤ 5
theorem KindsOk.ends {sorts : List (Str × Str)} {m : Nat} {ks : List (Str × List Str)} (h : KindsOk sorts m ks) (hm : m ≤ 5) {p : Str × List Str} (hp : p ∈ ks) : EndsOk sorts p.2 := by
  obtain ⟨xs, e, h1, h2, h3⟩ := h p hp
  rw [e]
  exact ⟨sortS_idem xs, fun y hy => h1 y (sortS_mem.mp hy), by rw [sortS_len]; exact h2, by rw [sortS_len]; omega⟩
section
variable (c : Cs) {sorts : List (Str × Str)} (hS : SortsOk sorts)
include hS
theorem sort_name {y : Str} (h : y ∈ sorts.map fun q => q.1) : NameOk y := by
  obtain ⟨p, hp, rfl⟩ := List.mem_map.mp h
  exact (hS.nm p hp).1
end
end G

set_option Elab.async false
set_option linter.all false
set_option maxRecDepth 100000
set_option maxHeartbeats 1000000
/-! MCc: a stock made; its kinds looked up; corners in order. -/
namespace G
open PySem L2 DL
/-- a stock's values -/
structure StockOk (sorts : List (Str × Str)) (ks : List (Str × List Str)) : Prop where
  so : SortsOk sorts
  lo : 1 ≤ ks.length
  hi : ks.length ≤ 4
  nm : ∀ p ∈ ks, NameOk p.1
  nd : (ks.map fun p => p.1).Nodup
  en : ∀ p ∈ ks, EndsOk sorts p.2
section
variable (c : Cs) {sorts : List (Str × Str)} {ks : List (Str × List Str)} (hS : StockOk sorts ks)
include hS
end
/-! dicts of pairs -/
def lk {α : Type} : List (Str × α) → Str → Option α
  | [], _ => none
  | p :: ps, n => if p.1 = n then some p.2 else lk ps n
section
variable (c : Cs) {sorts : List (Str × Str)} {ks : List (Str × List Str)} (hS : StockOk sorts ks)
include hS
/-- corners: up to six kinds' names -/
structure CornersOk (ks : List (Str × List Str)) (cs : List Str) : Prop where
  hi : cs.length ≤ 6
  mem : ∀ n ∈ cs, n ∈ ks.map fun p => p.1
end
end G

set_option Elab.async false
set_option linter.all false
set_option maxRecDepth 100000
set_option maxHeartbeats 1000000
/-! MGa: factorial, group. -/
namespace G
open PySem L2 DL PG
/-- a kind's ends -/
def ownOf (ks : List (Str × List Str)) (n : Str) : List Str := ((lk (ks.map fun p => (p.1, p)) n).map fun p => p.2).getD []
section
variable (c : Cs) {sorts : List (Str × Str)} {ks : List (Str × List Str)} (hS : StockOk sorts ks)
include hS
end
end G

set_option Elab.async false
set_option linter.all false
set_option maxRecDepth 100000
set_option maxHeartbeats 1000000
/-! MGb: what the laws' helpers draw: the state, corners; lists cut, numbered. -/
namespace G
open PySem L2 DL PG
theorem cut_to {xs : List D} {i : Nat} : cutD xs none (some (i : Int)) = xs.take i := by
  unfold cutD
  rw [HT.sIx_none, HT.sIx_nat, List.drop_zero, Nat.sub_zero]
  by_cases h : i ≤ xs.length
  · rw [Nat.min_eq_left h]
  · rw [Nat.min_eq_right (by omega), List.take_length, List.take_of_length_le (by omega)]
theorem enum_map {α : Type} (enc : α → D) (xs : List α) : enumD (xs.map enc) = xs.zipIdx.map fun p => .tup [.int (p.2 : Nat), enc p.1] := by
  unfold enumD
  rw [List.zipIdx_map, List.map_map]
  rfl
/-- the cells that are gone through -/
theorem cells_cut (ns : List Int) (k : Nat) (h : ns.length ≤ 63) (tl : List Int) (htl : tl.length ≤ 10) : addD (.lst (cutD (ns.map D.int) none (some (k : Int)))) (.lst (tl.map .int)) = some (.lst ((ns.take k ++ tl).map .int)) := by
  rw [cut_to]
  have hl : (List.take k (ns.map D.int)).length + (tl.map D.int).length ≤ 1000000 := by
    rw [List.length_take, List.length_map, List.length_map]; omega
  simp only [addD, fI0, fStrCat, fCatL, fCatT, Option.or, hl, if_true, List.map_append, List.map_take]
end G

set_option Elab.async false
set_option linter.all false
set_option maxRecDepth 100000
set_option maxHeartbeats 1000000
/-! MDa: legs in order; all ends there. -/
namespace G
open PySem L2 DL PG
abbrev pairD (p : Str × Str) : D := .tup [.str p.1, .str p.2]
/-- legs as a drawing has them -/
structure LegsOk (sorts legs : List (Str × Str)) : Prop where
  hi : legs.length ≤ 6
  nm : ∀ p ∈ legs, NameOk p.1 ∧ p.2 ∈ sorts.map fun q => q.1
  nd : (legs.map fun p => p.1).Nodup
  so : sortD (legs.map pairD) = legs.map pairD
theorem pairs_sortOk (ps : List (Str × Str)) (h : ps.length ≤ 1000) : SortOk (ps.map pairD) := by
  refine ⟨by rw [List.length_map]; unfold LB; omega, fun d hd => ?_, fun d hd => ?_, fun d hd e he => ?_, Or.inl fun d hd => ?_⟩
  · obtain ⟨x, _, rfl⟩ := List.mem_map.mp hd; rfl
  · obtain ⟨x, _, rfl⟩ := List.mem_map.mp hd
    show (PyData.tuple [.str x.1, .str x.2]).depth ≤ 60
    simp [PyData.depth, PyData.depthAll]
  · obtain ⟨x, _, rfl⟩ := List.mem_map.mp hd
    obtain ⟨y, _, rfl⟩ := List.mem_map.mp he
    show PySem.W.alike (.tuple [.str x.1, .str x.2]) (.tuple [.str y.1, .str y.2]) = true
    simp [PySem.W.alike, PySem.W.alikeAll]
  · obtain ⟨x, _, rfl⟩ := List.mem_map.mp hd; rfl
theorem sortF_pairs (ps : List (Str × Str)) (h : ps.length ≤ 1000) : sortF (.lst (ps.map pairD)) = some (sortD (ps.map pairD)) := by
  simp only [sortF, sortOk_iff.mpr (pairs_sortOk ps h), if_true]
section
variable (c : Cs) {sorts : List (Str × Str)} {ks : List (Str × List Str)} (hS : StockOk sorts ks)
include hS
theorem LegsOk.two {legs : List (Str × Str)} (hL : LegsOk sorts legs) : ∀ p ∈ legs, NameOk p.1 ∧ NameOk p.2 := fun p hp => ⟨(hL.nm p hp).1, sort_name hS.so (hL.nm p hp).2⟩
end
/-- an end: its place, its sort -/
abbrev endD (p : Nat × Str) : D := .tup [.int (p.1 : Nat), .str p.2]
/-- their sorts -/
def endSorts (ks : List (Str × List Str)) (cs : List Str) (legs : List (Str × Str)) : List Str := cs.flatMap (ownOf ks) ++ legs.map fun p => p.2
section
variable (c : Cs) {sorts : List (Str × Str)} {ks : List (Str × List Str)} (hS : StockOk sorts ks)
include hS
end
end G

set_option Elab.async false
set_option linter.all false
set_option maxRecDepth 100000
set_option maxHeartbeats 1000000
/-! MDb: count told. -/
namespace G
open PySem L2 DL PG
theorem mulOk_l {i j : Int} (h : 0 ≤ i ∧ i < 18446744073709551616) : mulOk i j = true := by
  unfold mulOk DL.small64
  simp only [Bool.or_eq_true, Bool.and_eq_true, decide_eq_true_eq]
  left
  omega
section
variable (c : Cs) {sorts : List (Str × Str)} {ks : List (Str × List Str)} (hS : StockOk sorts ks)
include hS
end
end G

set_option Elab.async false
set_option linter.all false
set_option maxRecDepth 100000
set_option maxHeartbeats 1000000
/-! MDc: the laws' own helpers: ends, wanted ends, grounds. -/
namespace G
open PySem L2 DL PG
section
variable (c : Cs) {sorts : List (Str × Str)} {ks : List (Str × List Str)} (hS : StockOk sorts ks)
include hS
/-- the sorts that are lacking -/
def wantL (sorts : List (Str × Str)) (ss : List Str) : List Str := sorts.flatMap fun q => if q.1 = q.2 then List.replicate (ss.count q.1 % 2) q.1 else List.replicate (ss.count q.1 - ss.count q.2) q.2
end
end G

set_option Elab.async false
set_option linter.all false
set_option maxRecDepth 100000
set_option maxHeartbeats 1000000
/-! MDd: grounds: corners and legs as the laws draw them. -/
namespace G
open PySem L2 DL PG
section
variable (c : Cs) {sorts : List (Str × Str)} {ks : List (Str × List Str)} (hS : StockOk sorts ks)
include hS
end
/-- what the grounds are: corners, legs; all told, there are no more ends than may be; the legs are those drawn and those that lack -/
structure Grounds (sorts : List (Str × Str)) (ks : List (Str × List Str)) (most far : Nat) (cs : List Str) (legs : List (Str × Str)) : Prop where
  co : CornersOk ks cs
  le : LegsOk sorts legs
  cm : cs.length ≤ most
  fa : (endSorts ks cs legs).length ≤ far
  lz : ∀ p ∈ legs, ∃ s ∈ sgn, p.1.cps.toList.getLast? = some s
  ba : ∃ extra : List Str, (∀ x ∈ extra, x ∈ sorts.map fun p => p.1) ∧ ((legs.map fun p => p.2).Perm (extra ++ wantL sorts (extra ++ cs.flatMap (ownOf ks))))
theorem Grounds.nz {sorts : List (Str × Str)} {ks : List (Str × List Str)} {most far : Nat} {cs : List Str} {legs : List (Str × Str)} (h : Grounds sorts ks most far cs legs) : ∀ p ∈ legs, p.1 ≠ "zz" := fun p hp e => by
  obtain ⟨s, hs, hl⟩ := h.lz p hp
  rw [e] at hl
  have : s = 122 := (Option.some.inj hl).symm
  rw [this] at hs
  exact absurd hs (by decide)
section
variable (c : Cs) {sorts : List (Str × Str)} {ks : List (Str × List Str)} (hS : StockOk sorts ks)
include hS
end
end G

set_option Elab.async false
set_option linter.all false
set_option maxRecDepth 100000
set_option maxHeartbeats 1000000
/-! MDe: lists of texts: the first taken, one removed; legs cut, one more. -/
namespace G
open PySem L2 DL PG
theorem LegsOk.sorted {sorts legs : List (Str × Str)} (h : LegsOk sorts legs) : (legs.map pairD).Pairwise fun a b => dLe a b = true := by
  have := sortD_sorted (legs.map pairD)
  rwa [h.so] at this
def zz : Str := "zz"
theorem zz_name : NameOk zz := by
  refine ⟨by decide, by decide, fun c hc => ?_⟩
  have : ∀ c ∈ zz.cps.toList, 97 ≤ c ∧ c ≤ 122 := by decide
  exact this c hc
theorem LegsOk.more {sorts legs : List (Str × Str)} (h : LegsOk sorts legs) (hl : legs.length < 6) (nz : ∀ p ∈ legs, p.1 ≠ zz) {x : Str} (hx : x ∈ sorts.map fun q => q.1) : ∃ legs', sortF (.lst ((legs ++ [((zz : Str), x)]).map pairD)) = some (legs'.map pairD) ∧ LegsOk sorts legs' := by
  obtain ⟨legs', e, p⟩ := perm_map (sortD_perm ((legs ++ [((zz : Str), x)]).map pairD))
  refine ⟨legs', by rw [sortF_pairs _ (by rw [List.length_append]; simp; omega), e], ⟨by rw [p.length_eq, List.length_append]; simp; omega, fun q hq => ?_, ?_, ?_⟩⟩
  · rcases List.mem_append.mp (p.mem_iff.mp hq) with hq | hq
    · exact h.nm q hq
    · rw [List.mem_singleton.mp hq]; exact ⟨zz_name, hx⟩
  · refine (p.map fun q => q.1).nodup_iff.mpr ?_
    rw [List.map_append, List.nodup_append]
    refine ⟨h.nd, by simp, fun a ha b hb e => ?_⟩
    obtain ⟨q, hq, rfl⟩ := List.mem_map.mp ha
    have : b = zz := by simpa using hb
    exact nz q hq (e.trans this)
  · rw [← e]; exact sortD_idem _
end G

set_option Elab.async false
set_option linter.all false
set_option maxRecDepth 100000
set_option maxHeartbeats 2000000
/-! MHa: the laws' own reckonings: changes, ways. -/
namespace G
open PySem L2 DL PG
section
variable (c : Cs) {sorts : List (Str × Str)} {ks : List (Str × List Str)} (hS : StockOk sorts ks)
include hS
/-- what the law itself reckons -/
def chN (ks : List (Str × List Str)) (cs : List Str) : Nat := rk [] cs * pr (cs.map fun n => rk [] (ownOf ks n))
theorem CornersOk.perm {cs ds : List Str} (hC : CornersOk ks cs) (p : ds.Perm cs) : CornersOk ks ds := ⟨by rw [p.length_eq]; exact hC.hi, fun n hn => hC.mem n (p.mem_iff.mp hn)⟩
end
section
variable (c : Cs) {sorts : List (Str × Str)} {ks : List (Str × List Str)} (hS : StockOk sorts ks)
include hS
end
end G

set_option Elab.async false
set_option linter.all false
set_option maxRecDepth 100000
set_option maxHeartbeats 1000000
/-! MHb: fractions in lowest terms; sum_all told. -/
namespace G
open PySem L2 DL PG
section
variable (c : Cs) {sorts : List (Str × Str)} {ks : List (Str × List Str)} (hS : StockOk sorts ks)
include hS
end
end G

set_option Elab.async false
set_option linter.all false
set_option maxRecDepth 100000
set_option maxHeartbeats 1000000
/-! MHc: legs put together; counts with an end taken away; fractions added. -/
namespace G
open PySem L2 DL PG
theorem LegsOk.sub {sorts legs legs' : List (Str × Str)} (h : LegsOk sorts legs) (s : legs'.Sublist legs) : LegsOk sorts legs' :=
  ⟨Nat.le_trans s.length_le h.hi, fun p hp => h.nm p (s.subset hp), List.Nodup.sublist (s.map _) h.nd, sortD_of (List.Pairwise.sublist (s.map _) h.sorted)⟩
theorem LegsOk.app {sorts legs qs : List (Str × Str)} (h : LegsOk sorts legs) (hl : legs.length + qs.length ≤ 6) (hn : ∀ q ∈ qs, NameOk q.1 ∧ q.2 ∈ sorts.map fun r => r.1) (nd : (qs.map fun q => q.1).Nodup) (dj : ∀ p ∈ legs, ∀ q ∈ qs, p.1 ≠ q.1) :
    ∃ legs', sortF (.lst ((legs ++ qs).map pairD)) = some (legs'.map pairD) ∧ LegsOk sorts legs' ∧ legs'.Perm (legs ++ qs) := by
  obtain ⟨legs', e, p⟩ := perm_map (sortD_perm ((legs ++ qs).map pairD))
  refine ⟨legs', by rw [sortF_pairs _ (by rw [List.length_append]; omega), e], ⟨by rw [p.length_eq, List.length_append]; omega, fun q hq => ?_, ?_, ?_⟩, p⟩
  · rcases List.mem_append.mp (p.mem_iff.mp hq) with hq | hq
    · exact h.nm q hq
    · exact hn q hq
  · refine (p.map fun q => q.1).nodup_iff.mpr ?_
    rw [List.map_append, List.nodup_append]
    refine ⟨h.nd, nd, fun a ha b hb e => ?_⟩
    obtain ⟨q, hq, rfl⟩ := List.mem_map.mp ha
    obtain ⟨r, hr, rfl⟩ := List.mem_map.mp hb
    exact dj q hq r hr e
  · rw [← e]; exact sortD_idem _
section
variable {sorts : List (Str × Str)} {ks : List (Str × List Str)} (hS : StockOk sorts ks)
include hS
end
end G

set_option Elab.async false
set_option linter.all false
set_option maxRecDepth 100000
set_option maxHeartbeats 400000
/-! MIa: sets of marks. -/
namespace G
open PySem L2 DL
end G

set_option Elab.async false
set_option linter.all false
set_option maxRecDepth 100000
set_option maxHeartbeats 400000
/-! MIb: marks tied join by join. -/
namespace G
open PySem L2 DL
/-- a join: place, sort, far place, its sort -/
abbrev Jo := Nat × Str × Nat × Str
def joD (j : Jo) : D := .tup [.int (j.1 : Nat), .str j.2.1, .int (j.2.2.1 : Nat), .str j.2.2.2]
end G

set_option Elab.async false
set_option linter.all false
set_option maxRecDepth 100000
set_option maxHeartbeats 400000
/-! MIc: rings told. -/
namespace G
open PySem L2 DL
end G

set_option Elab.async false
set_option linter.all false
set_option maxRecDepth 100000
set_option maxHeartbeats 1000000
/-! MJa: ends that can all be joined; a pairing by draws. -/
namespace G
open PySem L2 DL PG
/-- each sort is there as often as its partner; one that is its own an even number of times -/
def Bal (sorts : List (Str × Str)) (ss : List Str) : Prop := ∀ q ∈ sorts, (q.1 = q.2 → ss.count q.1 % 2 = 0) ∧ ss.count q.1 = ss.count q.2
/-- numbers removed -/
def nI (i : Nat) : D := .int (i : Nat)
section
variable (c : Cs) {sorts : List (Str × Str)} {ks : List (Str × List Str)} (hS : StockOk sorts ks)
include hS
end
end G

set_option Elab.async false
set_option linter.all false
set_option maxRecDepth 100000
set_option maxHeartbeats 1000000
/-! MJb: a pairing drawn; its joins. -/
namespace G
open PySem L2 DL PG
theorem Bal.perm {sorts : List (Str × Str)} {ss ts : List Str} (h : Bal sorts ss) (p : ss.Perm ts) : Bal sorts ts := fun q hq => by
  rw [← p.count_eq, ← p.count_eq]; exact h q hq
section
variable (c : Cs) {sorts : List (Str × Str)} {ks : List (Str × List Str)} (hS : StockOk sorts ks)
include hS
end
/-- ends in order -/
theorem toks_end (p : Nat × Str) : PySem.W.keyToks (encD (endD p)) = [.inl 1, .inl (p.1 : Nat), .inl 1, .inr p.2.cps.toList, .inl 0] := rfl
theorem lt_first {a b : Int} {r t : List (Int ⊕ List Nat)} (h : a < b) : PyProof.Rows.lexLt PyProof.Rows.itemOrd (.inl 1 :: .inl a :: r) (.inl 1 :: .inl b :: t) = true := by
  rw [PyProof.Rows.lex_self, PyProof.Rows.lex_diff (O := PyProof.Rows.itemOrd) (fun z => by have := Sum.inl.inj z; omega)]
  exact decide_eq_true h
theorem le_first {a b : Int} {r t : List (Int ⊕ List Nat)} (h : PyProof.Rows.lexLt PyProof.Rows.itemOrd (.inl 1 :: .inl a :: r) (.inl 1 :: .inl b :: t) = false) : b ≤ a := by
  by_cases z : a < b
  · rw [lt_first z] at h; cases h
  · omega
theorem end_le {p q : Nat × Str} (h : dLe (endD p) (endD q) = true) : p.1 ≤ q.1 := by
  rw [dLe_eq] at h
  have h' : PySem.W.dataLt (encD (endD q)) (encD (endD p)) = false := by simpa using h
  unfold PySem.W.dataLt at h'
  rw [toks_end, toks_end] at h'
  have := le_first h'
  omega
def joE (j : Jo) : List (Nat × Str) := [(j.1, j.2.1), (j.2.2.1, j.2.2.2)]
/-- joins as a drawing has them -/
structure JoinsOk (sorts : List (Str × Str)) (ends : List (Nat × Str)) (js : List Jo) : Prop where
  le : ∀ j ∈ js, dLe (endD (j.1, j.2.1)) (endD (j.2.2.1, j.2.2.2)) = true
  pt : ∀ j ∈ js, (j.2.1, j.2.2.2) ∈ sorts
  so : sortD (js.map joD) = js.map joD
  pm : (js.flatMap joE).Perm ends
end G

set_option Elab.async false
set_option linter.all false
set_option maxRecDepth 100000
set_option maxHeartbeats 1000000
/-! MJc: a drawing made. -/
namespace G
open PySem L2 DL PG
theorem joE_len : ∀ js : List Jo, (js.flatMap joE).length = 2 * js.length
  | [] => rfl
  | j :: js => by rw [List.flatMap_cons, List.length_append, joE_len js, List.length_cons]; simp [joE]; omega
theorem JoinsOk.len {sorts : List (Str × Str)} {ends : List (Nat × Str)} {js : List Jo} (h : JoinsOk sorts ends js) : 2 * js.length = ends.length := by rw [← joE_len, h.pm.length_eq]
section
variable (c : Cs) {sorts : List (Str × Str)} {ks : List (Str × List Str)} (hS : StockOk sorts ks)
include hS
end
end G

set_option Elab.async false
set_option linter.all false
set_option maxRecDepth 100000
set_option maxHeartbeats 1000000
/-! MJd: a drawing drawn. -/
namespace G
open PySem L2 DL PG
section
variable (c : Cs) {sorts : List (Str × Str)} {ks : List (Str × List Str)} (hS : StockOk sorts ks)
include hS
end
end G

set_option Elab.async false
set_option linter.all false
set_option maxRecDepth 100000
set_option maxHeartbeats 1000000
/-! MJe: joins moved; a leg's place among legs. -/
namespace G
open PySem L2 DL PG
section
variable (c : Cs) {sorts : List (Str × Str)} {ks : List (Str × List Str)} (hS : StockOk sorts ks)
include hS
end
end G

set_option Elab.async false
set_option linter.all false
set_option maxRecDepth 100000
set_option maxHeartbeats 1000000
/-! MJf: two drawings beside one another. -/
namespace G
open PySem L2 DL PG
section
variable (c : Cs) {sorts : List (Str × Str)} {ks : List (Str × List Str)} (hS : StockOk sorts ks)
include hS
end
end G

set_option Elab.async false
set_option linter.all false
set_option maxRecDepth 100000
set_option maxHeartbeats 1000000
/-! MJg: inner joins of two drawings beside one another; their rings. -/
namespace G
open PySem L2 DL PG
section
variable {sorts : List (Str × Str)} {ks : List (Str × List Str)}
theorem JoinsOk.up {ends : List (Nat × Str)} {js : List Jo} (h : JoinsOk sorts ends js) {j : Jo} (hj : j ∈ js) : j.1 ≤ j.2.2.1 := end_le (h.le j hj)
end
end G

set_option Elab.async false
set_option linter.all false
set_option maxRecDepth 100000
set_option maxHeartbeats 1000000
/-! NAa: the draws of the first family: next, one, names. -/
namespace GA
open PySem L2 DL G PG
/-- a source that was drawn from at most m times -/
def Sr (m : Nat) (R : D) : Prop := ∃ a b k : Int, R = rs a b k ∧ 0 ≤ b ∧ b < 2147483647 ∧ 0 ≤ k ∧ k ≤ (m : Int)
theorem Sr.mono {m n : Nat} {R : D} (h : Sr m R) (l : m ≤ n) : Sr n R := by
  obtain ⟨a, b, k, e, h1, h2, h3, h4⟩ := h
  exact ⟨a, b, k, e, h1, h2, h3, by omega⟩
theorem source_ok (c : Cs) (i : Int) : ∃ R, g__law_source_of c [.int i] = some R ∧ Sr 0 R := by
  have h1 : powOk 10 18 = true := by decide +kernel
  have h2 : modOk i 2147483647 = true := by simp [modOk]
  have e : (10 : Int) ^ (18 : Int).toNat = 1000000000000000000 := by decide +kernel
  by_cases h : (1000000000000000000 : Int) ≤ i
  · have hm : mulOk i 1 = true := mulOk_r (by decide)
    have h' : ((1000000000000000000 : Int) ≤ i) = True := by simp [h]
    refine ⟨rs (i * 1) (i % 2147483647) 0, ?_, _, _, _, rfl, Int.emod_nonneg _ (by decide), Int.emod_lt_of_pos _ (by decide), by decide, by decide⟩
    have i1 : intD (.bl true) = some (.int 1) := rfl
    simp_arith only [g__law_source_of, m__law_source_of, h1, e, h', i1, hm, h2, rs]
  · have hm : mulOk i 0 = true := mulOk_r (by decide)
    have h' : ((1000000000000000000 : Int) ≤ i) = False := by simp [h]
    refine ⟨rs (i * 0) (i % 2147483647) 0, ?_, _, _, _, rfl, Int.emod_nonneg _ (by decide), Int.emod_lt_of_pos _ (by decide), by decide, by decide⟩
    have i1 : intD (.bl false) = some (.int 0) := rfl
    simp_arith only [g__law_source_of, m__law_source_of, h1, e, h', i1, hm, h2, rs]
theorem prime_at (j : Int) : ∃ p : Int, ixD (.lst [.int 2147483647, .int 2147483629, .int 2147483587, .int 2147483579, .int 2147483563, .int 2147483549, .int 2147483543]) (.int (j % 7)) = some (.int p) ∧ 2147483000 < p ∧ p ≤ 2147483647 := by
  have h0 := Int.emod_nonneg j (show (7 : Int) ≠ 0 by decide)
  have h1 := Int.emod_lt_of_pos j (show (0 : Int) < 7 by decide)
  generalize j % 7 = r at h0 h1
  have : r = 0 ∨ r = 1 ∨ r = 2 ∨ r = 3 ∨ r = 4 ∨ r = 5 ∨ r = 6 := by omega
  rcases this with rfl | rfl | rfl | rfl | rfl | rfl | rfl <;> exact ⟨_, rfl, by decide, by decide⟩
theorem next_spec (c : Cs) {m : Nat} {R : D} (hR : Sr m R) (hm : m ≤ 1000000) (n : Int) (h0 : 0 < n) (h1 : n < 1000000) : ∃ (r : Int) (R' : D), g__law_next c [R, .int n] = some (.int r, R') ∧ 0 ≤ r ∧ r < n ∧ Sr (m + 1) R' := by
  obtain ⟨a, b, k, rfl, b0, b1, k0, k1⟩ := hR
  have i0 : ∀ a b k : Int, ixD (.lst [.int a, .int b, .int k]) (.int 0) = some (.int a) := fun _ _ _ => rfl
  have i1 : ∀ a b k : Int, ixD (.lst [.int a, .int b, .int k]) (.int 1) = some (.int b) := fun _ _ _ => rfl
  have i2 : ∀ a b k : Int, ixD (.lst [.int a, .int b, .int k]) (.int 2) = some (.int k) := fun _ _ _ => rfl
  have n0 : ixN 3 0 = some 0 := rfl
  have n2 : ixN 3 2 = some 2 := rfl
  have hmn : modOk a n = true := by simp [modOk, h0]
  have hdn : divOk a n = true := by simp [divOk, h0]; omega
  by_cases h : 0 < a
  · refine ⟨a % n, rs (a / n) b k, ?_, Int.emod_nonneg _ (by omega), Int.emod_lt_of_pos _ h0, _, _, _, rfl, b0, b1, k0, by omega⟩
    have h' : (0 < a) = True := by simp [h]
    unfold rs
    simp_arith only [g__law_next, m__law_next, i0, h', hmn, hdn, n0]
  · obtain ⟨p, hp, p0, p1⟩ := prime_at (k + 1)
    have h' : (0 < a) = False := by simp [h]
    obtain ⟨x, hx⟩ : ∃ x, x = (b + 7919 * (k + 1) + 1) ^ (5 : Int).toNat % p := ⟨_, rfl⟩
    have x0 : 0 ≤ x := by rw [hx]; exact Int.emod_nonneg _ (by omega)
    have x1 : x < p := by rw [hx]; exact Int.emod_lt_of_pos _ (by omega)
    obtain ⟨y, hy⟩ : ∃ y, y = (x + (k + 1)) * (x / 1009 + 69621) % p := ⟨_, rfl⟩
    have y0 : 0 ≤ y := by rw [hy]; exact Int.emod_nonneg _ (by omega)
    refine ⟨y / 7 % n, rs a b (k + 1), ?_, Int.emod_nonneg _ (by omega), Int.emod_lt_of_pos _ h0, _, _, _, rfl, b0, b1, by omega, by omega⟩
    have m7 : modOk (k + 1) 7 = true := by simp [modOk]
    have mm : mulOk 7919 (k + 1) = true := mulOk_l (by decide)
    have pw : powOk (b + 7919 * (k + 1) + 1) 5 = true := by
      unfold powOk
      simp only [Bool.and_eq_true, decide_eq_true_eq]
      omega
    have mp : ∀ z, modOk z p = true := fun z => by simp [modOk]; omega
    have d9 : divOk x 1009 = true := by simp [divOk]
    have mx : mulOk (x + (k + 1)) (x / 1009 + 69621) = true := mulOk_l (by omega)
    have d7 : divOk y 7 = true := by simp [divOk]
    have mn : modOk (y / 7) n = true := by simp [modOk, h0]
    unfold rs
    simp_arith only [g__law_next, m__law_next, i0, i1, i2, h', n2, m7, mm, pw, hp, mp, ← hx, ← hy, d9, mx, d7, mn]
end GA

set_option Elab.async false
set_option linter.all false
set_option maxRecDepth 100000
set_option maxHeartbeats 1000000
/-! NAb: one of some; names. -/
namespace GA
open PySem L2 DL G PG
theorem one_spec (c : Cs) {m : Nat} {R : D} (hR : Sr m R) (hm : m ≤ 1000000) {ds : List D} (h0 : 0 < ds.length) (h1 : ds.length < 1000000) : ∃ (i : Nat) (h : i < ds.length) (R' : D), g__law_one c [R, .lst ds] = some (ds[i], R') ∧ Sr (m + 1) R' := by
  obtain ⟨r, R', hp, r0, r1, hS⟩ := next_spec c hR hm (ds.length : Nat) (by omega) (by omega)
  obtain ⟨h2, h3⟩ := atI_nat (xs := ds) r0 r1
  refine ⟨r.toNat, h2, R', ?_, hS⟩
  have e1 : lenD (.lst ds) = some (.int (ds.length : Nat)) := rfl
  have e2 : ixD (.lst ds) (.int r) = some ds[r.toNat] := h3
  simp_arith only [g__law_one, m__law_one, e1, hp, e2]
end GA

set_option Elab.async false
set_option linter.all false
set_option maxRecDepth 100000
set_option maxHeartbeats 1000000
/-! NAc: a stock drawn. -/
namespace GA
open PySem L2 DL G PG
end GA

set_option Elab.async false
set_option linter.all false
set_option maxRecDepth 100000
set_option maxHeartbeats 1000000
/-! NAd: ends there, sorts that lack, things mixed. -/
namespace GA
open PySem L2 DL G PG
section
variable (c : Cs) {sorts : List (Str × Str)} {ks : List (Str × List Str)} (hS : StockOk sorts ks)
include hS
end
end GA

set_option Elab.async false
set_option linter.all false
set_option maxRecDepth 100000
set_option maxHeartbeats 1000000
/-! NAe: ends joined by draws. -/
namespace GA
open PySem L2 DL G PG
end GA

set_option Elab.async false
set_option linter.all false
set_option maxRecDepth 100000
set_option maxHeartbeats 1000000
/-! NAf: joins of ends, by draws. -/
namespace GA
open PySem L2 DL G PG
theorem rg1_nat {n : Nat} (h : n ≤ 1000000) : rg1 [.int (n : Nat)] = some ((List.range n).map nI) := by
  have : -1000000 ≤ (n : Int) ∧ (n : Int) ≤ 1000000 := by omega
  simp only [rg1, this, and_self, if_true, rangeD, Int.toNat_natCast]
  congr 1
  refine List.map_congr_left fun i _ => ?_
  show D.int (0 + (i : Int)) = .int (i : Int)
  rw [Int.zero_add]
section
variable (c : Cs) {sorts : List (Str × Str)} {ks : List (Str × List Str)} (hS : StockOk sorts ks)
include hS
end
end GA

set_option Elab.async false
set_option linter.all false
set_option maxRecDepth 100000
set_option maxHeartbeats 400000
/-! DLzn: errors of own classes without fields: raised, let out of a def, caught, asked for their class. -/
namespace DL
open PySem L2
/-! ### raise -/
/-- what K says of an own class of errors without fields -/
structure ExK (K : Fg) (C : Addr) : Prop where
  q : PySem.W.excIn K C [.type "ValueError", .type "Exception", .type "BaseException", .type "object"] "ValueError.__new__" = true
  kC : PySem.W.keepIn K (.ref C) = true
  h1 : PySem.W.subIn K (.ref C) (.type "BaseException") = some true
  h2 : PySem.W.typeIn K (.ref C) = some (.type "type")
/-! ### defs that may raise -/
section
variable {P : Program} {w : World} {K : Fg} {mg : Str → Option Value} {base : Heap}
end
/-! ### their calls -/
structure CallX (P : Program) (w : World) (K : Fg) (mg : Str → Option Value) (base : Heap) (x : Str) (k : Nat) (ps : List Str) (ks : List PK) (g : List D → Option (R D)) : Prop where
  ex : ∃ f fd, mg x = some (.ref f) ∧ PySem.W.keepIn K (.ref f) = true ∧ Binds K fd ps [] ∧ FnOk P w K mg base (L2.CX P w) k f fd ps (SpD K ks g)
section
variable {X : Cx} {W : WX} {e : Expr} {es : List Expr} {pos p2 : Pos}
end
/-! ### {} -/
/-! ### a caught error's class -/
theorem xMark_ex : ∃ l : List Int, 1000000 < l.length := ⟨List.replicate 1000001 0, by rw [List.length_replicate]; decide⟩
noncomputable def xMark : List Int := xMark_ex.choose
theorem xMark_len : 1000000 < xMark.length := xMark_ex.choose_spec
section
variable {X : Cx} {a D0 : Addr} {oe : Obj} {pn : List (Addr × Obj)} {i : Nat} {b : Bool} {e y : Str} {C : Addr} {p3 p4 p5 pos : Pos} {m0 : M D}
end
/-! ### try -/
def shortB (δ : En) : Bool := δ.all fun s => match s with
  | .sc ns => decide (ns.length ≤ 1000000)
  | _ => true
theorem short_of {δ : En} (h : shortB δ = true) : Short δ := fun i ns q => by
  have := List.all_eq_true.mp h (.sc ns) (List.mem_of_getElem? q)
  simpa using this
def ouE : Ou → En
  | .nx δ => δ
  | .rt _ δ => δ
  | .rn _ δ => δ
  | .bk δ => δ
  | .ct δ => δ
  | .ex _ δ => δ
/-- behind the suite its name is gone -/
def ouSet (i : Nat) : Ou → Option Ou
  | .nx δ => some (.nx (wipeE δ [i]))
  | .rt d δ => some (.rt d (wipeE δ [i]))
  | .rn d δ => some (.rn d (wipeE δ [i]))
  | .bk δ => some (.bk (wipeE δ [i]))
  | .ct δ => some (.ct (wipeE δ [i]))
  | .ex _ _ => none
theorem StOk.hold {C : Cn} {al : Nat → Addr} {F H : Hp} {σ : St} {δ : En} (S : StOk C al F H σ δ) (hs : Short δ) (i : Nat) (a : Addr) : StOk { C with W := WA a } al F H (σ.set i (some (.ref a))) (δ.set i (.sc xMark)) := by
  have key : ∀ (j : Nat) s, (δ.set i (Sl.sc xMark))[j]? = some s → (j = i ∧ s = Sl.sc xMark ∧ i < δ.length) ∨ (j ≠ i ∧ δ[j]? = some s) := fun j s q => by
    by_cases z : j = i
    · subst z
      rw [List.getElem?_set_self'] at q
      cases e : δ[j]? with
      | none => rw [e] at q; cases q
      | some u =>
        rw [e] at q
        cases q
        exact Or.inl ⟨rfl, rfl, (List.getElem?_eq_some_iff.mp e).1⟩
    · rw [List.getElem?_set_ne (Ne.symm z)] at q
      exact Or.inr ⟨z, q⟩
  have sg : ∀ j, j ≠ i → (σ.set i (some (V.ref a)))[j]? = σ[j]? := fun j z => List.getElem?_set_ne (Ne.symm z)
  refine ⟨S.fh, S.ph, S.bp, S.f0, S.fp, by rw [List.length_set, List.length_set]; exact S.len, fun j e q => ?_, fun j e q => ?_, fun j s e q r => ?_, fun j e q => ?_, fun j k s t e f q1 q2 r1 r2 r3 => ?_, fun j ns q => ?_, fun j ds q => ?_, S.qp⟩
  · rcases key j _ q with ⟨_, z, _⟩ | ⟨n, q⟩
    · cases z
    · rw [sg j n]; exact S.fr j e q
  · rcases key j _ q with ⟨_, z, _⟩ | ⟨n, q⟩
    · cases z
    · rw [sg j n]; exact S.bo j e q
  · rcases key j _ q with ⟨_, z, _⟩ | ⟨n, q⟩
    · rw [z] at r; cases r
    · rw [sg j n]; exact S.ow j s e q r
  · rcases key j _ q with ⟨_, z, _⟩ | ⟨n, q⟩
    · cases z
    · exact S.io j e q
  · rcases key j _ q1 with ⟨_, z, _⟩ | ⟨n, q1⟩
    · rw [z] at r1; cases r1
    · rcases key k _ q2 with ⟨_, z, _⟩ | ⟨n2, q2⟩
      · rw [z] at r2; cases r2
      · exact S.inj j k s t e f q1 q2 r1 r2 r3
  · rcases key j _ q with ⟨rfl, z, l⟩ | ⟨n, q⟩
    · cases z
      exact ⟨a, List.getElem?_set_self (by rw [S.len]; exact l), Or.inr ⟨xMark_len, Or.inl rfl⟩⟩
    · rw [sg j n]
      obtain ⟨a', h1, h2⟩ := S.sc j ns q
      exact ⟨a', h1, Or.inl (h2.resolve_right fun z => absurd z.1 (by have := hs j ns q; omega))⟩
  · rcases key j _ q with ⟨_, z, _⟩ | ⟨n, q⟩
    · cases z
    · rw [sg j n]; exact S.b2 j ds q
theorem wiped1 {C : Cn} {al : Nat → Addr} {F H : Hp} {σ : St} {δ : En} (S : StOk C al F H σ δ) (i : Nat) : StOk C al F H (σ.set i none) (wipeE δ [i]) :=
  S.wiped (by rw [List.length_set]) fun j hj => List.getElem?_set_ne fun z => hj (by rw [z]; exact List.mem_cons_self)
theorem wiped0 {C : Cn} {al : Nat → Addr} {F H : Hp} {σ : St} {δ : En} (S : StOk C al F H σ δ) (i : Nat) : StOk C al F H σ (wipeE δ [i]) := S.wiped rfl fun j hj => rfl
section
variable {X : Cx} {W : WX} {st : Stmt} {rest : List Stmt} {m n : Ms}
end
end DL

set_option Elab.async false
set_option linter.all false
set_option maxRecDepth 100000
set_option maxHeartbeats 400000
/-! DLzo: several except clauses, with and without a name. -/
namespace DL
open PySem L2
/-- a clause: its class, the slot of its name, its suite's reading -/
abbrev Cl := Value × Option Nat × (Addr → Value → Option Addr → TS)
def clE (i : Option Nat) (D : Ends) : Ends := match i with
  | none => D
  | some i => { nx := fun σ' H' => D.nx (σ'.set i none) H', rt := D.rt, bk := fun σ' H' => D.bk (σ'.set i none) H', ct := fun σ' H' => D.ct (σ'.set i none) H' }
def clS (i : Option Nat) (σ : St) (a : Addr) : St := match i with
  | none => σ
  | some i => σ.set i (some (.ref a))
def wCl (K : Fg) (Wout : WX) (D : Ends) : List Cl → WX
  | [] => Wout
  | (c, i, ts) :: r => fun cls d σ H => ∃ b, PySem.W.exmOne K cls c = some b ∧ (b = true → ∀ a, H a = none → ts a cls d (clE i D) (clS i σ a) H) ∧ (b = false → wCl K Wout D r cls d σ H)
inductive Cls' (X : Cx) : List ExceptHandler → List Cl → Prop
  | nil : Cls' X [] []
  | cons {x : Str} {c : Value} {ts : Addr → Value → Option Addr → TS} {b₀ : Stmt} {suite : List Stmt} {np pos' : Pos} {n : Option Str} {i : Option Nat} {hds : List ExceptHandler} {l : List Cl} (hc : Names X x c)
      (hi : (n = none ∧ i = none) ∨ ∃ y j, n = some y ∧ i = some j ∧ X.N[j]? = some y ∧ X.env.kindOf y = some .local)
      (hsu : ∀ (a : Addr) (oe : Obj) (cls : Value) (d : Option Addr) (pn : List (Addr × Obj)), Zc cls d oe → (∃ vs, oe.data = .fields vs) → PSs (X.suite a ((a, oe) :: pn)) (b₀ :: suite) (ts a cls d)) (r : Cls' X hds l) :
      Cls' X (.ExceptHandler (some (.Name x np)) n (b₀ :: suite) pos' :: hds) ((c, i, ts) :: l)
section
variable {X : Cx} {body : List Stmt} {h₀ : ExceptHandler} {hds : List ExceptHandler} {l : List Cl} {pos : Pos} {tb : WX → TS} {Wout : WX}
end
/-! ### what it computes -/
/-- a clause: which errors it takes, its name's slot, its suite -/
abbrev ClM := List Nat × Option Nat × (Nat → Ms)
noncomputable def clD (i : Option Nat) (δ : En) : En := match i with
  | none => δ
  | some i => δ.set i (.sc xMark)
def ouNo : Ou → Option Ou
  | .ex _ _ => none
  | o => some o
def ouSetO (i : Option Nat) (o : Ou) : Option Ou := match i with
  | none => ouNo o
  | some i => ouSet i o
noncomputable def mCls (δ : En) (tg : Nat) : List ClM → Option Ou
  | [] => none
  | (ts, i, ms) :: r => if tg ∈ ts then (match ms tg (clD i δ) with
    | none => none
    | some o => match ouSetO i o with
      | none => none
      | some o' => if shortB (ouE o') = true then some o' else none) else mCls δ tg r
theorem StOk.clD {C : Cn} {al : Nat → Addr} {F H : Hp} {σ : St} {δ : En} (S : StOk C al F H σ δ) (hs : Short δ) (i : Option Nat) (a : Addr) : StOk { C with W := WA a } al F H (clS i σ a) (clD i δ) := by
  cases i with
  | none => exact S.wish (WA a) hs
  | some i => exact S.hold hs i a
theorem endOk_cl {C : Cn} {F : Hp} {Z : Ends} {i : Option Nat} {a : Addr} {o o' : Ou} (hZ : EndOk C F Z o') (h : ouSetO i o = some o') (hs : shortB (ouE o') = true) : EndOk { C with W := WA a } F (clE i Z) o := by
  have hs := short_of hs
  cases i with
  | none =>
    cases o with
    | ex _ _ => cases h
    | nx δ => cases h; exact fun al2 F2 H2 σ2 s2 S2 => hZ al2 F2 H2 _ s2 (S2.unwish hs)
    | bk δ => cases h; exact fun al2 F2 H2 σ2 s2 S2 => hZ al2 F2 H2 _ s2 (S2.unwish hs)
    | ct δ => cases h; exact fun al2 F2 H2 σ2 s2 S2 => hZ al2 F2 H2 _ s2 (S2.unwish hs)
    | rt d δ => cases h; exact fun al2 F2 H2 σ2 v s2 S2 rv => hZ al2 F2 H2 _ v s2 (S2.unwish hs) rv
    | rn d δ => cases h; exact fun al2 F2 H2 σ2 p s2 S2 => hZ al2 F2 H2 _ p s2 (S2.unwish hs)
  | some i =>
    cases o with
    | ex _ _ => cases h
    | nx δ => cases h; exact fun al2 F2 H2 σ2 s2 S2 => hZ al2 F2 H2 _ s2 ((wiped1 S2 i).unwish hs)
    | bk δ => cases h; exact fun al2 F2 H2 σ2 s2 S2 => hZ al2 F2 H2 _ s2 ((wiped1 S2 i).unwish hs)
    | ct δ => cases h; exact fun al2 F2 H2 σ2 s2 S2 => hZ al2 F2 H2 _ s2 ((wiped1 S2 i).unwish hs)
    | rt d δ => cases h; exact fun al2 F2 H2 σ2 v s2 S2 rv => hZ al2 F2 H2 _ v s2 ((wiped0 S2 i).unwish hs) rv
    | rn d δ => cases h; exact fun al2 F2 H2 σ2 p s2 S2 => hZ al2 F2 H2 _ p s2 ((wiped0 S2 i).unwish hs)
inductive XCl (X : Cx) (R : List Nat) (cx : Nat → Addr) : List ExceptHandler → List ClM → Prop
  | nil : XCl X R cx [] []
  | cons {x : Str} {c : Value} {ts : List Nat} {b₀ : Stmt} {suite : List Stmt} {np pos' : Pos} {n : Option Str} {i : Option Nat} {ms : Nat → Ms} {hds : List ExceptHandler} {cl : List ClM} (hc : Names X x c)
      (hi : (n = none ∧ i = none) ∨ ∃ y j, n = some y ∧ i = some j ∧ X.N[j]? = some y ∧ X.env.kindOf y = some .local) (hx : ∀ tg ∈ R, PySem.W.exmOne X.K (.ref (cx tg)) c = some (decide (tg ∈ ts)))
      (hsu : ∀ tg ∈ R, tg ∈ ts → ∀ (a : Addr) (oe : Obj) (pn : List (Addr × Obj)), Zc (.ref (cx tg)) none oe → (∃ vs, oe.data = .fields vs) → ∃ t, XB (X.suite a ((a, oe) :: pn)) (WA a) (b₀ :: suite) t (ms tg)) (r : XCl X R cx hds cl) :
      XCl X R cx (.ExceptHandler (some (.Name x np)) n (b₀ :: suite) pos' :: hds) ((ts, i, ms) :: cl)
theorem XCl.read {X : Cx} {R : List Nat} {cx : Nat → Addr} {hds : List ExceptHandler} {cl : List ClM} (h : XCl X R cx hds cl) : ∃ l, Cls' X hds l ∧ ∀ (C : Cn), C.K = X.K → ∀ (al : Nat → Addr) (F H : Hp) (σ : St) (δ : En) (Z : Ends) (tg : Nat), StOk C al F H σ δ → Short δ → tg ∈ R → ∀ o, mCls δ tg cl = some o → EndOk C F Z o → wCl X.K W0 Z l (.ref (cx tg)) none σ H := by
  induction h with
  | nil => exact ⟨[], .nil, fun C hK al F H σ δ Z tg S hs hR o ho => by cases ho⟩
  | @cons x c ts b₀ suite np pos' n i ms hds cl hc hi hx hsu r ih =>
    obtain ⟨l, hl, ih⟩ := ih
    refine ⟨(c, i, fun a cls d Z σ H => ∃ tg, cls = .ref (cx tg) ∧ d = none ∧ tg ∈ R ∧ tg ∈ ts ∧ ∀ (h : tg ∈ R) (h2 : tg ∈ ts) oe pn (hz : Zc (.ref (cx tg)) none oe) (hf : ∃ vs, oe.data = .fields vs), (hsu tg h h2 a oe pn hz hf).choose Z σ H) :: l, .cons hc hi (fun a oe cls d pn hz hf => ?_) hl, fun C hK al F H σ δ Z tg S hs hR o ho hZ => ?_⟩
    · refine ⟨fun pins s σ H D I h => ?_⟩
      obtain ⟨tg, rfl, rfl, hR, hT, h⟩ := h
      exact (hsu tg hR hT a oe pn hz hf).choose_spec.p.run pins s σ H D I (h hR hT oe pn hz hf)
    · refine ⟨_, hx tg hR, fun hb a ha => ?_, fun hb => ?_⟩
      · have hT : tg ∈ ts := of_decide_eq_true hb
        refine ⟨tg, rfl, rfl, hR, hT, fun h h2 oe pn hz hf => ?_⟩
        unfold mCls at ho
        rw [if_pos hT] at ho
        cases e2 : ms tg (DL.clD i δ) with
        | none => rw [e2] at ho; cases ho
        | some o2 =>
          rw [e2] at ho
          refine (hsu tg h h2 a oe pn hz hf).choose_spec.v { C with W := WA a } hK rfl al F H _ _ (S.clD hs i a) o2 e2 _ ?_
          cases e3 : ouSetO i o2 with
          | none => simp only [e3] at ho; cases ho
          | some o3 =>
            simp only [e3] at ho
            obtain ⟨h3, h4⟩ := if_some ho
            subst h4
            exact endOk_cl hZ e3 h3
      · have hT : tg ∉ ts := of_decide_eq_false hb
        unfold mCls at ho
        rw [if_neg hT] at ho
        exact ih C hK al F H σ δ Z tg S hs hR o ho hZ
end DL

set_option Elab.async false
set_option linter.all false
set_option maxRecDepth 100000
set_option maxHeartbeats 400000
/-! DLzp: a tuple times a number from 2 on, the new tuple's object known. -/
namespace DL
open PySem PySem.Spec PyProof.Rows L2
end DL

set_option Elab.async false
set_option linter.all false
set_option maxRecDepth 100000
set_option maxHeartbeats 400000
/-! DLzq: t.index(i) of a tuple of ints; a tuple times a number from 1 on. -/
namespace DL
open PySem PySem.Spec PyProof.Rows L2
/-! ### t.index(i) -/
section
variable {X : Cx} {o e : Expr} {to : TE} {t : TA} {apos cpos : Pos}
end
/-! ### a tuple times one: itself -/
end DL

set_option Elab.async false
set_option linter.all false
set_option maxRecDepth 100000
set_option maxHeartbeats 400000
/-! DLzr: a def that raises, called where it doesn't. -/
namespace DL
open PySem L2
section
variable {X : Cx} {W : WX} {e : Expr} {es : List Expr} {pos p2 : Pos}
end
/-! ### l + m as a new list of one's own -/
section
variable {X : Cx} {W : WX} {a b : Expr} {ta tb : TE} {oa ob : M Op} {pos : Pos}
end
end DL

set_option Elab.async false
set_option linter.all false
set_option maxRecDepth 100000
set_option maxHeartbeats 400000
/-! DLzs: min of a list of data. -/
namespace DL
open PySem PySem.Spec PyProof.Rows L2
open PySem.W (alike dataLt)
structure MinOk (ds : List D) : Prop where
  ne : ds ≠ []
  py : ∀ d ∈ ds, toPy d = some (encD d)
  nn : ∀ d ∈ ds, encD d ≠ .none
  dep : PyData.depthAll (ds.map encD) ≤ 60
  al : ∀ d ∈ ds, ∀ e ∈ ds, alike (encD d) (encD e) = true
section
variable {X : Cx} {W : WX} {a : Expr} {ta : TE} {oa : M Op} {p2 pos : Pos}
end
/-! ### a number in, not in a tuple of numbers -/
section
variable {X : Cx} {W : WX} {a b : Expr} {ta tb : TE} {oa ob : M Op} {pos : Pos}
end
/-! ### x is None, as a test -/
end DL

set_option Elab.async false
set_option linter.all false
set_option maxRecDepth 100000
set_option maxHeartbeats 400000
/-! DLzt: rules that ask for units alone (within an except suite); str(i). -/
namespace DL
open PySem L2
section
variable {X : Cx} {W : WX} {a b o e : Expr} {ta tb : TE} {oa ob : M Op} {pos p2 apos cpos : Pos}
end
/-! ### str(i) -/
section
variable {X : Cx} {W : WX} {a : Expr} {ta : TE} {oa : M Op} {p2 pos : Pos}
end
end DL

set_option Elab.async false
set_option linter.all false
set_option maxRecDepth 100000
set_option maxHeartbeats 400000
/-! DLzu: a list of new lists of one's own: handed on by parts, compared, its parts changed in a loop. -/
namespace DL
open PySem L2
/-! ### objects that are kept from being changed -/
/-- neither frozen, nor kept, nor an own slot's -/
def Free (C : Cn) (al : Nat → Addr) (F : Hp) (δ : En) (b : Addr) : Prop := F b = none ∧ C.P b = none ∧ ∀ (j : Nat) s e, δ[j]? = some s → Sl.own s = some e → al j ≠ b
section
variable {C : Cn} {al al' : Nat → Addr} {F H F' H' : Hp} {σ σ' : St} {δ δ' : En} {bs : List Addr}
end
/-! ### the parts are made -/

/-- new objects of one's own, one after another -/
def JL (K : Fg) (W : WX) (t : TA) (m : M (List D)) : Prop :=
  ∀ (C : Cn), C.K = K → C.W = W → ∀ (al : Nat → Addr) (F H : Hp) (σ : St) (δ : En), StOk C al F H σ δ → ∀ r, m δ = some r → ∀ Q : List V → Hp → Prop,
    (∀ ds δ', r = .ok ds δ' → ∀ al' F' H' (bs : List Addr), Same F F' → StOk C al' F' H' σ δ' → bs.Nodup → (∀ b ∈ bs, Free C al' F' δ' b) → (∀ b ∈ bs, ∃ o, H' b = some o) → Parts K H' F' (bs.map V.ref) ds → ds.length ≤ LB → Q (bs.map V.ref) H') →
    (∀ x δ', r = .ex x δ' → ∀ al' F' H' cls dd, Same F F' → StOk C al' F' H' σ δ' → XRep K F' H' x cls dd → W cls dd σ H') → t σ H Q
section
variable {K : Fg} {W : WX}
end
/-! ### the block -/
def noB2 (δ : En) : Bool := δ.all fun s => match s with
  | .b2 _ => false
  | _ => true
theorem noB2_get {δ : En} (h : noB2 δ = true) {j : Nat} {ds : List D} (q : δ[j]? = some (Sl.b2 ds)) : False := by
  have := List.all_eq_true.mp h (.b2 ds) (List.mem_of_getElem? q)
  cases this
section
variable {K : Fg} {W : WX}
theorem repO_noxd {F H : Hp} {a : Addr} {d : D} (h : RepO K F H a d) {fs : List (Str × V)} : H a ≠ some (.xd fs) := fun q => by
  cases d with
  | lst ds => obtain ⟨vs, h1, _⟩ := h; rw [h1] at q; cases q
  | ins C ns ds => obtain ⟨dx, vs, h1, _⟩ := h; rw [h1] at q; cases q
  | dk ks ds => obtain ⟨vs, h1, _⟩ := h; rw [h1] at q; cases q
  | dn hs ks ds => obtain ⟨o, bs, vs, nks, h1, _⟩ := h; rw [h1] at q; have z : HO.ext _ = HO.xd fs := Option.some.inj q; cases z
  | _ => exact h.elim
end
end DL

set_option Elab.async false
set_option linter.all false
set_option maxRecDepth 100000
set_option maxHeartbeats 400000
/-! DLzv: a list of new lists: the rules over the text. -/
namespace DL
open PySem L2
/-! ### an item of it as an operand -/
section
variable {K : Fg} {W : WX}
/-! ### compared -/
end
/-! ### the text -/
structure XL (X : Cx) (W : WX) (es : List Expr) (t : TA) (m : M (List D)) : Prop where
  p : PA X es t
  v : JL X.K W t m
/-- the first statements of a block -/
structure XPr (X : Cx) (W : WX) (s : List Stmt) (t : TS) (m : Ms) : Prop where
  p : ∀ (rest : List Stmt) (u : TS), PSs X rest u → PSs X (s ++ rest) (tSeq t u)
  v : Es X.K W t m
section
variable {X : Cx} {W : WX} {a b e : Expr} {es : List Expr} {te ta tb : TE} {pos p2 p3 pos' : Pos} {me ma : M D} {ob : M Op} {st : Stmt} {ss : List Stmt} {t u : TS} {m n : Ms}
end
end DL

set_option Elab.async false
set_option linter.all false
set_option maxRecDepth 100000
set_option maxHeartbeats 400000
/-! DLzw: == by a class's own def, of an instance and plain data. -/
namespace DL
open PySem L2
section
variable {X : Cx} {n m : Nat} {C f : Addr} {fd : FuncData} {ps : List Str} {S : Sp}
end
section
variable {X : Cx} {W : WX} {a b : Expr} {ta tb : TE} {oa ob : M Op} {pos : Pos}
end
end DL

set_option Elab.async false
set_option linter.all false
set_option maxRecDepth 100000
set_option maxHeartbeats 400000
/-! DLzx: errors of own classes with a field: made, raised. -/
namespace DL
open PySem L2
/-- what K says of the class whose __init__ is called by name -/
structure EeK (K : Fg) (C : Addr) : Prop where
  hg : PySem.W.specialIn K (.ref C) "__getattribute__" = some (some (.builtin "type.__getattribute__"))
  hm : PySem.W.typeIn K (.ref C) = some (.type "type")
  hr : PySem.W.readsIn K C (.type "type") = true
  he : PySem.W.findCls K (.ref C) (.type "type") "__init__" = some (.val (.builtin "ValueError.__init__"))
section
variable {X : Cx} {o e : Expr} {es : List Expr} {to te : TE} {ta : TA} {f x : Str} {p p' p1 p2 pos : Pos} {C : Addr}
theorem pe_eeinit {pl : Sem Bool} (k : EeK X.K C) (hg : Gl X x) (hm : X.mg x = some (.ref C)) (ha : PA X (e :: es) ta) (hdb : (x == ("__debug__" : Str)) = false := by decide)
    (hc : eval (.Call (.Attribute (.Name x p1) "__init__" p2) (e :: es) [] pos) X.env = (do
      let ov ← eval (.Name x p1) X.env
      standAt p2.atName
      let (f, first) ← holding [ov] (getMethod ov "__init__" pl)
      callWith pos f first (backTo pos (starEach (e :: es) X.env)) (backToKw pos (keywordEach [] X.env))) := by rfl)
    (he : starEach (e :: es) X.env = (false, eval e X.env) :: starEach es X.env := by rfl) (hpl : (backTo pos (starEach es X.env)).any (·.1) = false := by rfl) :
    PE X (.Call (.Attribute (.Name x p1) "__init__" p2) (e :: es) [] pos) (tVeI X.K ta) := by
  refine ⟨fun pins s σ H Q I h => ?_⟩
  refine PySem.W.methodCall_KW (ld_glob I hg hm ?_ hdb) hc
  obtain ⟨m, fr⟩ := I.fr
  refine PySem.W.method_of_cls fr I.ok.mod.kin k.hg (PySem.W.cls_val fr I.ok.mod.kin k.hm k.hr k.he (by decide +kernel) ?_)
  show wpAny _ _ (callWith pos (Value.builtin "ValueError.__init__") [] (backTo pos (starEach (e :: es) X.env)) []) _ _ _
  refine PyProof.Rows.callWith_method1 (thn (ha.run pos pins _ σ H _ (I.tok _) h) fun us s1 ⟨vs, H1, I1, r1, a, C, ws, ev, hl, T, ea, q⟩ => ?_) he hpl
  subst ev
  cases r1 with
  | @cons _ u0 _ ur ra rw' =>
    obtain rfl : u0 = Value.ref a := ra
    have hlen : ur.length ≤ sizeLine := by
      rw [← Paired.length rw', sizeLine_eq]
      omega
    exact oinit_ok T I1 ea hlen fun s' J => ⟨.non, H1, J, rfl, q⟩
end
/-- what such a class's own __init__ promises: EndError.__init__(self, ".."); self.f = x -/
def SpE (K : Fg) (f : Str) : Sp := fun vs H Q _ => ∃ (a C : Addr) (y : V), vs = [.ref a, y] ∧ OexC K C ∧ PySem.W.findIn K (.ref C) f = some none ∧ H a = some (exo a C none) ∧
  ∀ dx, H dx = none → dx ≠ a → Q .non (upd (upd H dx (exd dx [(f, y)])) a (exo a C (some dx)))
section
variable {P : Program} {w : World} {K : Fg} {mg : Str → Option Value} {base : Heap}
theorem fn_e {qual : Str} {st : Stmt} {f : Addr} {fd : FuncData} {N ps : List Str} {fld m : Str} (F : Fun K "__init__" qual st f fd) (S : FnScope N ps (defScope st)) (hps : ps.length = 2)
    (hb : ∀ (cdv : Value) (A : Around) (outer : List Env) (s : Shared) (H : Hp) (E : XK), PSs (cxOf CX0 P w K mg base N qual (defScope st) f cdv A outer s H E).nox (defBody st) (tSeq (tDrop (tVeI K (tCons (tVar 0) (tCons (tC (.str m)) tNil)))) (tOst K fld (tVar 0) (tVar 1)))) :
    FnOk P w K mg base CX0 1 f fd ps (SpE K fld) := by
  refine F.ok S (fun vs H Q E h => ?_) (fun cdv A outer s H vs Q E hr h => ?_)
  · obtain ⟨a, C, y, rfl, _⟩ := h
    rw [hps]; rfl
  · refine ⟨_, hb cdv A outer s H E, ?_⟩
    obtain ⟨a, C, y, rfl, T, hn, ha, q⟩ := h
    have g0 : (start N [V.ref a, y])[0]? = some (some (.ref a)) := rfl
    have g1 : (start N [V.ref a, y])[1]? = some (some y) := rfl
    refine ⟨.ref a, g0, a, C, [.str m], rfl, (show 1 ≤ 1000 from by decide), T, ha, ?_⟩
    refine ⟨y, g1, .ref a, g0, a, C, rfl, T, hn, Or.inl ⟨ha, fun dx h1 h2 => ?_⟩⟩
    exact q dx h1 h2
end
/-! ### raised -/
/-- what is known of such a class -/
structure ExF (P : Program) (w : World) (K : Fg) (mg : Str → Option Value) (base : Heap) (C : Addr) (fld : Str) : Prop where
  T : OexC K C
  hn : PySem.W.findIn K (.ref C) fld = some none
  ex : ∃ f fd ps, PySem.W.findIn K (.ref C) "__init__" = some (some (.ref f)) ∧ PySem.W.typeIn K (.ref f) = some (.type "function") ∧ Binds K fd ps [] ∧ FnOk P w K mg base CX0 1 f fd ps (SpE K fld)
section
variable {X : Cx} {W : WX} {e : Expr} {te : TE} {m : M D} {x fld : Str} {C : Addr} {tg : Nat} {p pos pos' : Pos}
end
end DL

set_option Elab.async false
set_option linter.all false
set_option maxRecDepth 100000
set_option maxHeartbeats 400000
/-! DLzy: classes whose __init__ may raise. -/
namespace DL
open PySem L2
section
variable {K : Fg} {W : WX}
end
section
variable {P : Program} {w : World} {K : Fg} {mg : Str → Option Value} {base : Heap}
end
structure MakeX (P : Program) (w : World) (K : Fg) (mg : Str → Option Value) (base : Heap) (x : Str) (C : Addr) (k : Nat) (ps : List Str) (ks : List PK) (g : List D → Option (R D)) : Prop where
  ex : ∃ f fd, mg x = some (.ref C) ∧ Mk K C f ∧ Binds K fd ps [] ∧ FnOk P w K mg base (L2.CX P w) k f fd ps (SpD K (.io :: ks) g)
section
variable {X : Cx} {W : WX} {e : Expr} {es : List Expr} {pos p2 : Pos}
end
section
variable {P : Program} {w : World} {K : Fg} {mg : Str → Option Value} {base h : Heap}
end
end DL

set_option Elab.async false
set_option linter.all false
set_option maxRecDepth 100000
set_option maxHeartbeats 400000
/-! DLzz: in a suite that holds an error with a field: its field, its class. -/
namespace DL
open PySem L2
/-! ### its class -/
section
variable {X : Cx} {a D0 dd : Addr} {oe : Obj} {pn : List (Addr × Obj)}
theorem exc_cls {K : Fg} {D : Addr} (C : ExcC K D) : (PySem.W.clsIn K D).isSome = true := by
  obtain ⟨cd, hc, _⟩ := PySem.W.any_some C.hd
  rw [hc]; rfl
end
section
variable {K : Fg} {i : Nat} {a dd D0 : Addr} {fld : Str} {y : V} {b : Bool}
end
section
variable {X : Cx} {a D0 dd : Addr} {oe : Obj} {pn : List (Addr × Obj)} {i : Nat} {b : Bool} {e yy fld : Str} {y : V} {C : Addr} {p3 p4 p5 pos : Pos} {m0 : M D}
end
end DL

set_option Elab.async false
set_option linter.all false
set_option maxRecDepth 100000
set_option maxHeartbeats 400000
/-! DLzzA: try with clauses, the errors having one plain field. -/
namespace DL
open PySem L2
/-- plain values -/
def plV : D → Option V
  | .str x => some (.str x)
  | .int i => some (.int i)
  | .bl b => some (.bl b)
  | .non => some .non
  | _ => none
/-- the context of the suite -/
def CF (C : Cn) (a dd : Addr) (fld : Str) (y : V) : Cn := { C with W := WF a dd fld y, P := fun b => if b = dd then some (.xd [(fld, y)]) else C.P b, Q := fun b => if b = dd then some (.xd [(fld, y)]) else C.Q b }
section
variable {C : Cn} {al : Nat → Addr} {F H : Hp} {σ : St} {δ : En} {a dd : Addr} {fld : Str} {y : V}
theorem same_at {P H : Hp} {dd : Addr} {o : HO} (h : Same P H) (e : H dd = some o) : Same P (fun b => if b = dd then some o else P b) := fun b u q => by
  by_cases z : b = dd
  · subst z
    have := h _ _ q
    rw [e] at this
    rw [← this]
    exact if_pos rfl
  · exact (if_neg z).trans q
/-- into the suite -/
theorem StOk.inF (S : StOk C al F H σ δ) (hs : Short δ) (e : H dd = some (.xd [(fld, y)])) (hF : F dd = none) : StOk (CF C a dd fld y) al F H σ δ := by
  have sP : Same C.P (CF C a dd fld y).P := same_at S.ph e
  have sQ : Same C.Q (CF C a dd fld y).Q := same_at (S.qp.trans S.ph) e
  refine ⟨S.fh, fun b u q => ?_, S.bp.trans sP, S.f0, fun b u q => ?_, S.len, S.fr, S.bo, fun j s d q r => ?_, S.io, S.inj, fun j ns q => ?_, fun j ds q => ?_, fun b u q => ?_⟩
  · have q : (if b = dd then some (HO.xd [(fld, y)]) else C.P b) = some u := q
    by_cases z : b = dd
    · rw [if_pos z] at q; rw [z, e]; exact q
    · rw [if_neg z] at q; exact S.ph b u q
  · have z : b ≠ dd := fun z => by rw [z, hF] at q; cases q
    rcases S.fp b u q with g | g
    · exact Or.inl g
    · exact Or.inr ((if_neg z).trans g)
  · obtain ⟨g1, g2, g3, g4⟩ := S.ow j s d q r
    have z : al j ≠ dd := fun z => repO_noxd g4 (by rw [z]; exact e)
    exact ⟨g1, g2, (if_neg z).trans g3, g4⟩
  · obtain ⟨b, h1, h2⟩ := S.sc j ns q
    exact ⟨b, h1, Or.inl (h2.resolve_right fun z => absurd z.1 (by have := hs j ns q; omega))⟩
  · obtain ⟨vs, h1, h2, h3⟩ := S.b2 j ds q
    exact ⟨vs, h1, h2, h3.mono sQ (Same.refl _)⟩
  · have q : (if b = dd then some (HO.xd [(fld, y)]) else C.Q b) = some u := q
    by_cases z : b = dd
    · rw [if_pos z] at q; exact (if_pos z).trans q
    · rw [if_neg z] at q; exact (if_neg z).trans (S.qp _ _ q)
/-- the suite's name -/
theorem StOk.holdF (S : StOk C al F H σ δ) (hs : Short δ) (i : Nat) (e : H dd = some (.xd [(fld, y)])) (hF : F dd = none) : StOk (CF C a dd fld y) al F H (σ.set i (some (.ref a))) (δ.set i (.sc xMark)) := by
  have T := S.inF (a := a) hs e hF
  have key : ∀ (j : Nat) s, (δ.set i (Sl.sc xMark))[j]? = some s → (j = i ∧ s = Sl.sc xMark ∧ i < δ.length) ∨ (j ≠ i ∧ δ[j]? = some s) := fun j s q => by
    by_cases z : j = i
    · subst z
      rw [List.getElem?_set_self'] at q
      cases e : δ[j]? with
      | none => rw [e] at q; cases q
      | some u =>
        rw [e] at q
        cases q
        exact Or.inl ⟨rfl, rfl, (List.getElem?_eq_some_iff.mp e).1⟩
    · rw [List.getElem?_set_ne (Ne.symm z)] at q
      exact Or.inr ⟨z, q⟩
  have sg : ∀ j, j ≠ i → (σ.set i (some (V.ref a)))[j]? = σ[j]? := fun j z => List.getElem?_set_ne (Ne.symm z)
  refine ⟨T.fh, T.ph, T.bp, T.f0, T.fp, by rw [List.length_set, List.length_set]; exact T.len, fun j e q => ?_, fun j e q => ?_, fun j s e q r => ?_, fun j e q => ?_, fun j k s t e f q1 q2 r1 r2 r3 => ?_, fun j ns q => ?_, fun j ds q => ?_, T.qp⟩
  · rcases key j _ q with ⟨_, z, _⟩ | ⟨n, q⟩
    · cases z
    · rw [sg j n]; exact T.fr j e q
  · rcases key j _ q with ⟨_, z, _⟩ | ⟨n, q⟩
    · cases z
    · rw [sg j n]; exact T.bo j e q
  · rcases key j _ q with ⟨_, z, _⟩ | ⟨n, q⟩
    · rw [z] at r; cases r
    · rw [sg j n]; exact T.ow j s e q r
  · rcases key j _ q with ⟨_, z, _⟩ | ⟨n, q⟩
    · cases z
    · exact T.io j e q
  · rcases key j _ q1 with ⟨_, z, _⟩ | ⟨n, q1⟩
    · rw [z] at r1; cases r1
    · rcases key k _ q2 with ⟨_, z, _⟩ | ⟨n2, q2⟩
      · rw [z] at r2; cases r2
      · exact T.inj j k s t e f q1 q2 r1 r2 r3
  · rcases key j _ q with ⟨rfl, z, l⟩ | ⟨n, q⟩
    · cases z
      exact ⟨a, List.getElem?_set_self (by rw [S.len]; exact l), Or.inr ⟨xMark_len, Or.inr ⟨dd, fld, y, rfl, if_pos rfl⟩⟩⟩
    · rw [sg j n]
      exact T.sc j ns q
  · rcases key j _ q with ⟨_, z, _⟩ | ⟨n, q⟩
    · cases z
    · rw [sg j n]; exact T.b2 j ds q
/-- out of the suite -/
theorem StOk.outF {al' : Nat → Addr} {F' H' : Hp} {σ' : St} {δ' : En} (S : StOk C al F H σ δ) (e : H dd = some (.xd [(fld, y)])) (S' : StOk (CF C a dd fld y) al' F' H' σ' δ') (hs : Short δ') (hn : noB2 δ' = true) : StOk C al' F' H' σ' δ' := by
  have sP : Same C.P (CF C a dd fld y).P := same_at S.ph e
  refine ⟨S'.fh, sP.trans S'.ph, S.bp, S'.f0, fun b u q => ?_, S'.len, S'.fr, S'.bo, fun j s d q r => ?_, S'.io, S'.inj, fun j ns q => ?_, fun j ds q => (noB2_get hn q).elim, S.qp⟩
  · rcases S'.fp b u q with g | g
    · exact Or.inl g
    · have g : (if b = dd then some (HO.xd [(fld, y)]) else C.P b) = none := g
      by_cases z : b = dd
      · rw [if_pos z] at g; cases g
      · rw [if_neg z] at g; exact Or.inr g
  · obtain ⟨g1, g2, g3, g4⟩ := S'.ow j s d q r
    have g3 : (if al' j = dd then some (HO.xd [(fld, y)]) else C.P (al' j)) = none := g3
    by_cases z : al' j = dd
    · rw [if_pos z] at g3; cases g3
    · rw [if_neg z] at g3; exact ⟨g1, g2, g3, g4⟩
  · obtain ⟨b, h1, h2⟩ := S'.sc j ns q
    exact ⟨b, h1, Or.inl (h2.resolve_right fun z => absurd z.1 (by have := hs j ns q; omega))⟩
end
end DL

set_option Elab.async false
set_option linter.all false
set_option maxRecDepth 100000
set_option maxHeartbeats 400000
/-! DLzzB: try with clauses, the errors having one plain field: the rule. -/
namespace DL
open PySem L2
abbrev ClF := List Nat × Option Nat × (Nat → D → Ms)
noncomputable def mClsF (δ : En) (tg : Nat) (d : D) : List ClF → Option Ou
  | [] => none
  | (ts, i, ms) :: r => if tg ∈ ts then (match ms tg d (clD i δ) with
    | none => none
    | some o => match ouSetO i o with
      | none => none
      | some o' => if shortB (ouE o') = true ∧ noB2 (ouE o') = true then some o' else none) else mClsF δ tg d r
section
variable {C : Cn} {al : Nat → Addr} {F H : Hp} {σ : St} {δ : En} {a dd : Addr} {fld : Str} {y : V}
theorem StOk.clF (S : StOk C al F H σ δ) (hs : Short δ) (i : Option Nat) (e : H dd = some (.xd [(fld, y)])) (hF : F dd = none) : StOk (CF C a dd fld y) al F H (clS i σ a) (DL.clD i δ) := by
  cases i with
  | none => exact S.inF hs e hF
  | some i => exact S.holdF hs i e hF
theorem endOk_clF {Z : Ends} {i : Option Nat} {o o' : Ou} (S : StOk C al F H σ δ) (e : H dd = some (.xd [(fld, y)])) (hZ : EndOk C F Z o') (h : ouSetO i o = some o') (hs : shortB (ouE o') = true) (hn : noB2 (ouE o') = true) : EndOk (CF C a dd fld y) F (clE i Z) o := by
  have hs := short_of hs
  have pn : ∀ p, (CF C a dd fld y).P p = none → C.P p = none := fun p g => by
    have g : (if p = dd then some (HO.xd [(fld, y)]) else C.P p) = none := g
    by_cases z : p = dd
    · rw [if_pos z] at g; cases g
    · rw [if_neg z] at g; exact g
  cases i with
  | none =>
    cases o with
    | ex _ _ => cases h
    | nx δ => cases h; exact fun al2 F2 H2 σ2 s2 S2 => hZ al2 F2 H2 _ s2 (S.outF e S2 hs hn)
    | bk δ => cases h; exact fun al2 F2 H2 σ2 s2 S2 => hZ al2 F2 H2 _ s2 (S.outF e S2 hs hn)
    | ct δ => cases h; exact fun al2 F2 H2 σ2 s2 S2 => hZ al2 F2 H2 _ s2 (S.outF e S2 hs hn)
    | rt d δ => cases h; exact fun al2 F2 H2 σ2 v s2 S2 rv => hZ al2 F2 H2 _ v s2 (S.outF e S2 hs hn) rv
    | rn d δ => cases h; exact fun al2 F2 H2 σ2 p s2 S2 n1 n2 ro => hZ al2 F2 H2 _ p s2 (S.outF e S2 hs hn) n1 (pn p n2) ro
  | some i =>
    cases o with
    | ex _ _ => cases h
    | nx δ => cases h; exact fun al2 F2 H2 σ2 s2 S2 => hZ al2 F2 H2 _ s2 (S.outF e (wiped1 S2 i) hs hn)
    | bk δ => cases h; exact fun al2 F2 H2 σ2 s2 S2 => hZ al2 F2 H2 _ s2 (S.outF e (wiped1 S2 i) hs hn)
    | ct δ => cases h; exact fun al2 F2 H2 σ2 s2 S2 => hZ al2 F2 H2 _ s2 (S.outF e (wiped1 S2 i) hs hn)
    | rt d δ => cases h; exact fun al2 F2 H2 σ2 v s2 S2 rv => hZ al2 F2 H2 _ v s2 (S.outF e (wiped0 S2 i) hs hn) rv
    | rn d δ => cases h; exact fun al2 F2 H2 σ2 p s2 S2 n1 n2 ro => hZ al2 F2 H2 _ p s2 (S.outF e (wiped0 S2 i) hs hn) n1 (pn p n2) ro
end
inductive XClF (X : Cx) (R : List Nat) (cx : Nat → Addr) (fld : Str) : List ExceptHandler → List ClF → Prop
  | nil : XClF X R cx fld [] []
  | cons {x : Str} {c : Value} {ts : List Nat} {b₀ : Stmt} {suite : List Stmt} {np pos' : Pos} {n : Option Str} {i : Option Nat} {ms : Nat → D → Ms} {hds : List ExceptHandler} {cl : List ClF} (hc : Names X x c)
      (hi : (n = none ∧ i = none) ∨ ∃ y j, n = some y ∧ i = some j ∧ X.N[j]? = some y ∧ X.env.kindOf y = some .local) (hx : ∀ tg ∈ R, PySem.W.exmOne X.K (.ref (cx tg)) c = some (decide (tg ∈ ts)))
      (hsu : ∀ tg ∈ R, tg ∈ ts → ∀ (d : D) (y : V), plV d = some y → ∀ (a dd : Addr) (oe : Obj) (pn : List (Addr × Obj)), Zc (.ref (cx tg)) (some dd) oe → (∃ vs, oe.data = .fields vs) → ∃ t, XB (X.suite a ((a, oe) :: pn)) (WF a dd fld y) (b₀ :: suite) t (ms tg d)) (r : XClF X R cx fld hds cl) :
      XClF X R cx fld (.ExceptHandler (some (.Name x np)) n (b₀ :: suite) pos' :: hds) ((ts, i, ms) :: cl)
theorem XClF.read {X : Cx} {R : List Nat} {cx : Nat → Addr} {fld : Str} {hds : List ExceptHandler} {cl : List ClF} (h : XClF X R cx fld hds cl) : ∃ l, Cls' X hds l ∧ ∀ (C : Cn), C.K = X.K → ∀ (al : Nat → Addr) (F H : Hp) (σ : St) (δ : En) (Z : Ends) (tg : Nat) (d : D) (y : V) (dd : Addr), StOk C al F H σ δ → Short δ → tg ∈ R → plV d = some y → H dd = some (.xd [(fld, y)]) → F dd = none →
    ∀ o, mClsF δ tg d cl = some o → EndOk C F Z o → wCl X.K W0 Z l (.ref (cx tg)) (some dd) σ H := by
  induction h with
  | nil => exact ⟨[], .nil, fun C hK al F H σ δ Z tg d y dd S hs hR hp e hF o ho => by cases ho⟩
  | @cons x c ts b₀ suite np pos' n i ms hds cl hc hi hx hsu r ih =>
    obtain ⟨l, hl, ih⟩ := ih
    refine ⟨(c, i, fun a cls d' Z σ H => ∃ (tg : Nat) (dd : Addr) (d : D) (y : V), cls = .ref (cx tg) ∧ d' = some dd ∧ tg ∈ R ∧ tg ∈ ts ∧ plV d = some y ∧ ∀ (h : tg ∈ R) (h2 : tg ∈ ts) (hp : plV d = some y) oe pn (hz : Zc (.ref (cx tg)) (some dd) oe) (hf : ∃ vs, oe.data = .fields vs), (hsu tg h h2 d y hp a dd oe pn hz hf).choose Z σ H) :: l, .cons hc hi (fun a oe cls d pn hz hf => ?_) hl, fun C hK al F H σ δ Z tg d y dd S hs hR hp e hF o ho hZ => ?_⟩
    · refine ⟨fun pins s σ H D I h => ?_⟩
      obtain ⟨tg, dd, d, y, rfl, rfl, hR, hT, hp, h⟩ := h
      exact (hsu tg hR hT d y hp a dd oe pn hz hf).choose_spec.p.run pins s σ H D I (h hR hT hp oe pn hz hf)
    · refine ⟨_, hx tg hR, fun hb a ha => ?_, fun hb => ?_⟩
      · have hT : tg ∈ ts := of_decide_eq_true hb
        refine ⟨tg, dd, d, y, rfl, rfl, hR, hT, hp, fun h h2 hp oe pn hz hf => ?_⟩
        unfold mClsF at ho
        rw [if_pos hT] at ho
        cases e2 : ms tg d (DL.clD i δ) with
        | none => rw [e2] at ho; cases ho
        | some o2 =>
          rw [e2] at ho
          refine (hsu tg h h2 d y hp a dd oe pn hz hf).choose_spec.v (CF C a dd fld y) hK rfl al F H _ _ (S.clF hs i e hF) o2 e2 _ ?_
          cases e3 : ouSetO i o2 with
          | none => simp only [e3] at ho; cases ho
          | some o3 =>
            simp only [e3] at ho
            obtain ⟨⟨h3, h5⟩, h4⟩ := if_some ho
            subst h4
            exact endOk_clF S e hZ e3 h3 h5
      · have hT : tg ∉ ts := of_decide_eq_false hb
        unfold mClsF at ho
        rw [if_neg hT] at ho
        exact ih C hK al F H σ δ Z tg d y dd S hs hR hp e hF o ho hZ
end DL

set_option Elab.async false
set_option linter.all false
set_option maxRecDepth 100000
set_option maxHeartbeats 400000
/-! DLzzC: what is known of a class of errors with a field, from decidable facts. -/
namespace DL
open PySem L2 PySem.W
theorem tail_refs : ∀ l : List Value, PySem.W.excTail PySem.HandSPX.veTail l = true → PySem.HandSPX.refsVE l = true
  | [], e => by
    rcases PySem.W.excTail_cases [] e with ⟨c, r, q, _⟩ | q
    · cases q
    · cases q
  | a :: r, e => by
    rcases PySem.W.excTail_cases (a :: r) e with ⟨c, r', q, h⟩ | q
    · obtain ⟨rfl, rfl⟩ := List.cons.inj q
      exact tail_refs r h
    · rw [q]; rfl
theorem oex_cls {K : Fg} {C : Addr} (q : PySem.W.excInitIn K C PySem.HandSPX.veTail "ValueError.__new__" = true) (hd : PySem.W.hasDictIn K C = true) :
    ∃ nm q N bs bm sn sub ab col dd k0 k1 k2 k3 k5, K.lookup C = some (excClassObj nm q C N bs bm true sn sub ab col dd k0 k1 k2 k3 k5 "ValueError.__new__") ∧ PySem.HandSPX.refsVE bm = true := by
  unfold PySem.W.excInitIn at q
  split at q
  · rename_i dd cd sl ho
    split at q
    · rename_i C' bm k0 k1 k2 k3 n k5 hm hs
      simp only [Bool.and_eq_true, beq_iff_eq, Bool.not_eq_true'] at q
      obtain ⟨⟨⟨rfl, rfl⟩, hdel⟩, ht⟩ := q
      obtain ⟨nm, bs, mro, ns, qn, hdc, sn, sub, ab, col, del⟩ := cd
      dsimp only at hm hdel
      subst hm hdel
      have hsl : sl = #[k0, k1, k2, k3, some (.builtin "ValueError.__new__"), k5] := by
        obtain ⟨l⟩ := sl
        exact congrArg Array.mk hs
      subst hsl
      have h2 : hdc = true := by
        unfold PySem.W.hasDictIn PySem.W.clsIn at hd
        rw [ho] at hd
        exact hd
      subst h2
      refine ⟨_, _, _, _, _, _, _, _, _, _, _, _, _, _, _, ho, ?_⟩
      exact tail_refs _ ht
    · cases q
  · cases q
end DL

set_option Elab.async false
set_option linter.all false
set_option maxRecDepth 100000
set_option maxHeartbeats 400000
/-! DYa: errors made by hand: kept as things, asked for their class, their attribute read. -/
namespace DL
open PySem L2
/-! ### laid at an address where nothing stands -/
section
variable {X : Cx} {pins : List (Addr × Obj)} {σ : St} {H : Hp} {s : Shared} {h' : Heap}
theorem un_laidN {fs ex : List Addr} {H : Hp} {h h' : Heap} {a : Addr} {o : HO} (k : ∀ b u, h.get? b = some u → h'.get? b = some u) (hg : h.get? a = none) (hn : H a = none) : Un fs ex H (upd H a o) h h' where
  keep := fun b u q _ _ _ => k b u q
  slot := fun b u q _ _ _ => ⟨u.slots, k b u q⟩
  free := fun b u q n _ => by rw [upd_ne (fun z => by rw [z, hg] at q; cases q)]; exact n
  there := fun b u q _ => ⟨u, k b u q⟩
  tups := fun b xs q => by rw [upd_ne (ne_of_none q hn)]; exact q
  frzs := fun b u xs q => by rw [upd_ne (ne_of_none q hn)]; exact q
  tbls := fun b ps q => ⟨#[], by rw [upd_ne (ne_of_none q hn), q]; simp⟩
theorem hok_laidN {P : Program} {w : World} {H : Hp} {h h' : Heap} {a : Addr} {o : HO} (x : HOk P w H h) (k : ∀ b u, h.get? b = some u → h'.get? b = some u) (hn : H a = none) (new : ObjOk P w (upd H a o) h' a o) : HOk P w (upd H a o) h' := fun b u e => by
  by_cases hb : b = a
  · subst hb; rw [upd_same] at e; cases e; exact new
  · rw [upd_ne hb] at e
    exact (x b u e).stay (fun c v _ q => k c v q) (fun c q => by rw [upd_ne (ne_of_none q hn)]; exact q) fun c xs q => by rw [upd_ne (ne_of_none q hn)]; exact q
theorem inv_laidN {a : Addr} {o : HO} {t' : Nat} (I : Inv X pins σ H s) (k : ∀ b u, s.heap.get? b = some u → h'.get? b = some u) (hg : s.heap.get? a = none) (new : ObjOk X.prog X.w (upd H a o) h' a o) :
    Inv X pins σ (upd H a o) { s with heap := h', toks := t' } := I.un (un_laidN k hg (I.hok.gone hg)) (hok_laidN I.hok k (I.hok.gone hg) new)
end
/-! ### C("text"), C without an __init__ of its own -/
def tEr0 (C : Addr) : TE := fun _ H Q => ∀ a, H a = none → Q (.ref a) (upd H a (exo a C none))
theorem pe_er0 {X : Cx} {x m : Str} {C : Addr} {j : Nat} {p p2 pos : Pos} (e : ExK X.K C) (gC : X.mg x = some (.ref C)) (hg : Gl X x) (hdb : (x == ("__debug__" : Str)) = false := by decide) :
    PE X (.Call (.Name x p) [.Constant (.str m) j p2] [] pos) (tEr0 C) := by
  refine ⟨fun pins s σ H Q I h => ?_⟩
  refine wpAny_Call_Name_kw (ld_glob I hg gC ?_ hdb)
  have ha : PA X [.Constant (.str m) j p2] (tCons (tC (.str m)) tNil) := pa_cons pe_str pa_nil
  refine PySem.W.callWith_K (h₀ := X.base) I.ok.mod.kin e.kC (thn (ha.run pos pins s σ H (fun vs H1 => vs = [V.str m] ∧ H = H1) I ⟨rfl, rfl⟩) fun us s1 hh => ?_)
  obtain ⟨vs, H1, I1, r1, ev, eH⟩ := hh
  subst ev
  rw [← eH] at I1
  refine ⟨I1.kIn, ?_⟩
  cases r1 with
  | cons ru rn =>
    rename_i u us'
    cases rn
    show wpAny _ _ (call (.ref C) [u]) _ _ _
    obtain ⟨bm, N, nm, qn, bs, hdct, sn, sub, ab, col, dd, k0, k1, k2, k3, k5, mN, hC, hN, hni, T⟩ := exc_obj I1.kIn e.q
    refine wpAny_call_exc_subT PySem.F.excBase_ValueError T hC hN hni (fun h' a hm => ?_) (by show 1 ≤ sizeLine; rw [sizeLine_eq]; omega)
    obtain ⟨t, ht, _, _⟩ := hm.there
    have J := inv_laidN (t' := s1.toks) (o := exo a C none) I1 hm.keeps hm.new (exo_ok ht)
    exact ⟨.ref a, _, J, rfl, h a (I1.hok.gone hm.new)⟩
def mEr0 (C : Addr) (tg : Nat) : M D := M.ret (.ob tg C [] [])
theorem ev_er0 {K : Fg} {W : WX} {C : Addr} {tg : Nat} (ht : tg < 100) : Ev K W (tEr0 C) (mEr0 C tg) := by
  intro Cn hK hW al F H σ δ S _ r hr Q hok hex
  cases hr
  intro a ha
  have n : New F H (upd F a (exo a C none)) (upd H a (exo a C none)) := New.lay S.fh ha
  exact hok _ δ rfl al _ _ _ n.ff (S.new n) (Rep.ob_iff.mpr ⟨a, [], rfl, ⟨ht, Or.inl ⟨rfl, upd_same⟩⟩, reps_nil⟩)
theorem x_er0 {X : Cx} {W : WX} {x m : Str} {C : Addr} {tg j : Nat} {p p2 pos : Pos} (e : ExK X.K C) (gC : X.mg x = some (.ref C)) (ht : tg < 100 := by decide) (hg : Gl X x := by rfl) (hdb : (x == ("__debug__" : Str)) = false := by decide) :
    XE X W (.Call (.Name x p) [.Constant (.str m) j p2] [] pos) (tEr0 C) (mEr0 C tg) := ⟨pe_er0 e gC hg hdb, ev_er0 ht⟩
/-! ### C(e), C's own __init__ keeping SpE -/
def tErF (C : Addr) (sp : Sp) (ta : TA) : TE := fun σ H Q => ta σ H fun vs H1 => vs.length ≤ 1000 ∧ ∀ a, H1 a = none → sp (.ref a :: vs) (upd H1 a (exo a C none)) (fun v H2 => v = .non ∧ Q (.ref a) H2) (fun _ _ _ => False)
section
variable {X : Cx} {e : Expr} {es : List Expr} {ta : TA} {p pos : Pos}
theorem pe_erF {CX : CXT} {x : Str} {C fI : Addr} {k : Nat} {fd : FuncData} {ps : List Str} {sp : Sp} (T : OexC X.K C) (iC : PySem.W.findIn X.K (.ref C) "__init__" = some (some (.ref fI))) (tI : PySem.W.typeIn X.K (.ref fI) = some (.type "function"))
    (F1 : FnOk X.prog X.w X.K X.mg X.base CX k fI fd ps sp) (hr : Room (k + 1) X.A) (hb : Binds X.K fd ps []) (hx : Passes CX X (fun _ _ _ => False)) (hg : Gl X x) (hm : X.mg x = some (.ref C)) (ha : PA X (e :: es) ta)
    (hdb : (x == ("__debug__" : Str)) = false := by decide) (he : starEach (e :: es) X.env = (false, eval e X.env) :: starEach es X.env := by rfl) (hpl : (backTo pos (starEach es X.env)).any (·.1) = false := by rfl) :
    PE X (.Call (.Name x p) (e :: es) [] pos) (tErF C sp ta) := by
  refine ⟨fun pins s σ H Q I h => ?_⟩
  obtain ⟨nm, q, N, bs, bm, sn, sub, ab, col, dd, k0, k1, k2, k3, k5, hC, hbm⟩ := T.cls
  refine wpAny_Call_Name_kw (ld_glob I hg hm ?_ hdb)
  refine PySem.W.callWith_K (h₀ := X.base) I.ok.mod.kin T.kC (thn (ha.run pos pins s σ H _ I h) fun us s1 ⟨vs, H1, I1, r1, hz, q1⟩ => ⟨I1.kIn, ?_⟩) he hpl
  show wpAny _ _ (call (.ref C) us) _ _ _
  obtain ⟨hp, g, dr, tk, os⟩ := s1
  have hsz : hp.objs.size ≤ hp.objs.size + 1 := Nat.le_succ _
  have hn : H1 (hp.objs.size + 1) = none := I1.hok.fresh hsz
  have hq := q1 (hp.objs.size + 1) hn
  have kk : ∀ b o, hp.get? b = some o → ((hp.push (PySem.W.kdv_tup us)).push (PySem.HandSPX.excO C hp.objs.size)).get? b = some o := fun b o e => Heap.get?_push_of_some _ (Heap.get?_push_of_some _ e)
  have hget : ((hp.push (PySem.W.kdv_tup us)).push (PySem.HandSPX.excO C hp.objs.size)).get? (hp.objs.size + 1) = some (PySem.HandSPX.excO C hp.objs.size) := by heap_get
  have I2 : Inv X pins σ (upd H1 (hp.objs.size + 1) (exo (hp.objs.size + 1) C none)) ⟨(hp.push (PySem.W.kdv_tup us)).push (PySem.HandSPX.excO C hp.objs.size), g, dr, tk, os⟩ :=
    I1.laid (t' := tk) (a := hp.objs.size + 1) (o := exo (hp.objs.size + 1) C none) (h' := (hp.push (PySem.W.kdv_tup us)).push (PySem.HandSPX.excO C hp.objs.size)) kk hsz (exo_ok hget)
  have r2 : Vals (V.ref (hp.objs.size + 1) :: vs) (Value.ref (hp.objs.size + 1) :: us) := .cons rfl r1
  have hl : (Value.ref (hp.objs.size + 1) :: us).length = ps.length := by
    have e := r2.length
    rw [F1.len _ _ _ _ hq] at e
    exact e.symm
  have hus : us.length ≤ sizeLine := by
    rw [← Paired.length r1, sizeLine_eq]
    omega
  have b0 := hb ⟨(hp.push (PySem.W.kdv_tup us)).push (PySem.HandSPX.excO C hp.objs.size), g, dr, tk, os⟩ (Value.ref (hp.objs.size + 1) :: us) I2.kIn (by rw [List.append_nil]; exact hl)
  rw [List.append_nil] at b0
  refine wpAny_call (PySem.HandSPX.call_own PySem.F.excBase_ValueError (fun Y => PySem.HandSPX.refsVE_contains Y bm hbm) (I1.kIn _ _ hC) (PySem.W.looks_findIn I1.kIn iC) (fun self => PySem.W.bind_fn I1.kIn self tI) hus
    (codeAny_mono (F1.run _ X.stack _ _ ⟨Value.ref (hp.objs.size + 1) :: us, []⟩ (Value.ref (hp.objs.size + 1) :: us) _ _ (fun _ _ _ => False) (hr.make C us []) (I2.env0.make C us []) b0 r2 hq) fun r s' hq' => ?_))
  cases r with
  | error er => exact hx pins σ _ _ er s' I2 hq'
  | ok fl =>
    cases fl with
    | ret u =>
      obtain ⟨v, H2, J, rv, ev, q2⟩ := I2.after hq'
      subst ev
      exact ⟨rv, .ref (hp.objs.size + 1), H2, J, rfl, q2⟩
    | next => exact False.elim hq'
    | brk => exact False.elim hq'
    | cont => exact False.elim hq'
end
def mErF (C : Addr) (fld : Str) (tg : Nat) (m : M D) : M D := m.bind fun d => M.ret (.ob tg C [fld] [d])
theorem two_new {F H : Hp} {a dx C : Addr} {fs : List (Str × V)} (fh : Same F H) (ha : H a = none) (hx : H dx = none) (ne : dx ≠ a) :
    upd (upd (upd H a (exo a C none)) dx (exd dx fs)) a (exo a C (some dx)) = upd (upd H dx (exd dx fs)) a (exo a C (some dx)) ∧ New F H (upd (upd F dx (exd dx fs)) a (exo a C (some dx))) (upd (upd H dx (exd dx fs)) a (exo a C (some dx))) := by
  refine ⟨?_, ?_⟩
  · funext b
    by_cases h2 : b = a
    · rw [h2, upd_same, upd_same]
    · rw [upd_ne h2, upd_ne h2]
      by_cases h : b = dx
      · rw [h, upd_same, upd_same]
      · rw [upd_ne h, upd_ne h, upd_ne h2]
  · have n1 : New F H (upd F dx (exd dx fs)) (upd H dx (exd dx fs)) := New.lay fh hx
    exact n1.trans (New.lay n1.fh (by rw [upd_ne (Ne.symm ne)]; exact ha))
theorem ev_erF {K : Fg} {W : WX} {C : Addr} {fld : Str} {tg : Nat} {te : TE} {m : M D} (ht : tg < 100) (T : OexC K C) (hn : PySem.W.findIn K (.ref C) fld = some none) (hm : Ev K W te m) : Ev K W (tErF C (SpE K fld) (tCons te tNil)) (mErF C fld tg m) := by
  have g := J.bind (rel2 := relD K) (t2 := fun (v : V) (_ : St) (H1 : Hp) (Q : VK) => ([v] : List V).length ≤ 1000 ∧ ∀ a, H1 a = none → SpE K fld [.ref a, v] (upd H1 a (exo a C none)) (fun u H2 => u = .non ∧ Q (.ref a) H2) (fun _ _ _ => False)) (f := fun d => M.ret (.ob tg C [fld] [d])) hm monoT fun d v => by
    intro Cn hK hW al F H σ δ S hp r hr Q hok hex
    cases hr
    subst hK
    refine ⟨(show 1 ≤ 1000 from by decide), fun a ha => ⟨a, C, v, rfl, T, hn, upd_same, fun dx h1 h2 => ?_⟩⟩
    have hx : H dx = none := by rw [upd_ne h2] at h1; exact h1
    obtain ⟨e1, n⟩ := two_new (fs := [(fld, v)]) (C := C) S.fh ha hx h2
    rw [e1]
    refine ⟨rfl, hok _ δ rfl al _ _ _ n.ff (S.new n) (Rep.ob_iff.mpr ⟨a, [v], rfl, ⟨ht, Or.inr ⟨by simp, rfl, dx, upd_same, by rw [upd_ne h2, upd_same]; rfl⟩⟩, reps_cons ((show Rep Cn.K F d v from hp.2).mono n.ff) reps_nil⟩)⟩
  exact g
section
variable {X : Cx} {W : WX} {e : Expr} {te : TE} {m : M D} {x fld : Str} {C : Addr} {tg : Nat} {p pos : Pos}
theorem x_erF (c : ExF X.prog X.w X.K X.mg X.base C fld) {k : Nat} (hr : Room k X.A) (hk : 2 ≤ k) (gC : X.mg x = some (.ref C)) (he : XE X W e te m) (ht : tg < 100 := by decide) (hg : Gl X x := by rfl) (hdb : (x == ("__debug__" : Str)) = false := by decide)
    (hs : starEach [e] X.env = (false, eval e X.env) :: starEach [] X.env := by rfl) (hpl : (backTo pos (starEach [] X.env)).any (·.1) = false := by rfl) :
    XE X W (.Call (.Name x p) [e] [] pos) (tErF C (SpE X.K fld) (tCons te tNil)) (mErF C fld tg m) := by
  obtain ⟨f, fd, ps, h1, h2, h3, h4⟩ := c.ex
  exact ⟨pe_erF c.T h1 h2 h4 (hr.mono hk) h3 pass0 hg gC (pa_cons he.p pa_nil hs) hdb hs hpl, ev_erF ht c.T c.hn he.v⟩
end
/-! ### its class -/
def ErAt (H : Hp) (a C : Addr) : Prop := ∃ dx, H a = some (exo a C dx) ∧ ∀ d, dx = some d → ∃ fs, H d = some (exd d fs)
theorem RepB.er {H : Hp} {n : Nat} {C : Addr} {ns : List Str} {a : Addr} {vs : List V} (h : RepB H n C ns a vs) : ErAt H a C := by
  obtain ⟨_, ⟨_, h⟩ | ⟨_, _, dx, h, g⟩⟩ := h
  · exact ⟨none, h, fun d z => by cases z⟩
  · exact ⟨some dx, h, fun d z => by cases z; exact ⟨_, g⟩⟩
theorem er_inst {P : Program} {w : World} {H : Hp} {s : Shared} {a C : Addr} (hok : HOk P w H s.heap) (h : ErAt H a C) : ∃ oe od, PySem.W.InstAt s.heap a oe C od := by
  obtain ⟨dx, h1, h2⟩ := h
  obtain ⟨t1, g⟩ := exo_at hok h1
  cases dx with
  | none => exact ⟨_, none, g, rfl, rfl, trivial⟩
  | some d =>
    obtain ⟨fs, h3⟩ := h2 d rfl
    obtain ⟨mA, hns, _⟩ := exd_at hok h3
    obtain ⟨od, ho, _⟩ := lookIn_ns hns
    exact ⟨_, some od, g, rfl, rfl, ho⟩
def rIsO (K : Fg) : List V → Hp → VK → Prop := fun xs H Q => ∃ (a C : Addr) (c : V) (cv : Value) (b : Bool), xs = [.ref a, c] ∧ ErAt H a C ∧ ExcC K C ∧ (∀ u, RelV c u → u = cv) ∧ PySem.W.kitOne K (.ref C) cv = some b ∧ Q (.bl b) H
theorem call_isO {X : Cx} : CallR X (.builtin "isinstance") (rIsO X.K) := by
  intro pins s σ H xs us Q I r h
  obtain ⟨a, C, c, cv, b, rfl, ea, T, hcv, e, q⟩ := h
  obtain ⟨u1, u2, rfl, r1, r2⟩ := vals2 r
  cases (show u1 = Value.ref a from r1)
  have ec := hcv _ r2
  subst ec
  obtain ⟨oe, od, J⟩ := er_inst I.hok ea
  exact PySem.W.kia_one (PySem.W.kitx_exc (exc_cls T) T.hg T.hk T.hs T.ha T.hn T.ht T.hm) I.kIn J e (fun z => nomatch z) fun tk => ⟨.bl b, H, I.kept (t' := tk) fun _ _ z => z, rfl, q⟩
/-- isinstance(x, c) of an error made by hand, of one of the classes numbered in L; tb: of which numbers it holds -/
def isOb (cx : Nat → Addr) (L : List Nat) (tb : Nat → Bool) : D → Option D
  | .ob n C _ _ => if C = cx n ∧ n ∈ L then some (.bl (tb n)) else none
  | _ => none
/-- what is known of the classes numbered in L, against c -/
def ObK (K : Fg) (cx : Nat → Addr) (L : List Nat) (tb : Nat → Bool) (cv : Value) : Prop := ∀ n ∈ L, ExcC K (cx n) ∧ PySem.W.kitOne K (.ref (cx n)) cv = some (tb n)
theorem prim_isOb {K : Fg} {cx : Nat → Addr} {L : List Nat} {tb : Nat → Bool} {c : V} {cv : Value} (k : ObK K cx L tb cv) (hcv : ∀ u, RelV c u → u = cv) : Prim1 K (fun x H Q => rIsO K [x, c] H Q) (isOb cx L tb) := by
  intro F H v d e fh hv hf Q kq
  cases d with
  | ob n C ns ds =>
    obtain ⟨⟨h1, h2⟩, h3⟩ := if_some (show (if C = cx n ∧ n ∈ L then some (D.bl (tb n)) else none) = some e from hf)
    obtain ⟨a, vs, rfl, g1, _⟩ := hv.ob fh
    obtain ⟨k1, k2⟩ := k n h2
    rw [← h1] at k1 k2
    exact ⟨a, C, c, cv, tb n, rfl, g1.er, k1, hcv, k2, kq F H _ (New.refl fh) (by rw [← h3]; exact Rep.bl_iff.mpr rfl)⟩
  | _ => cases hf
section
variable {X : Cx} {W : WX} {a : Expr} {ta : TE} {oa : M Op} {pos : Pos} {cx : Nat → Addr} {L : List Nat} {tb : Nat → Bool}
theorem x_isOb {K : Fg} {y : Str} {C : Addr} {p3 p4 : Pos} (k : ObK K cx L tb (.ref C)) (hm : X.mg "isinstance" = none) (hmT : X.mg y = some (.ref C)) (ha : XO X W a ta oa) (hg : Gl X "isinstance" := by rfl) (hgT : Gl X y := by rfl) (hdT : (y == ("__debug__" : Str)) = false := by decide)
    (hs : starEach [a, .Name y p4] X.env = (false, eval a X.env) :: starEach [.Name y p4] X.env := by rfl) (hs2 : starEach [.Name y p4] X.env = (false, eval (.Name y p4) X.env) :: starEach [] X.env := by rfl) (hpl : (backTo pos (starEach [.Name y p4] X.env)).any (·.1) = false := by rfl) (hK : X.K = K := by rfl) :
    XE X W (.Call (.Name "isinstance" p3) [a, .Name y p4] [] pos) (tCB (rIsO K) (tCons ta (tCons (tC (.ref C)) tNil))) (m1 (isOb cx L tb) oa) := by
  subst hK
  exact ⟨pe_callB call_isO hg hm (by decide +kernel) (pa_cons ha.p (pa_cons (pe_glob hgT hmT rfl hdT) pa_nil hs2) hs) (by decide) (by decide) hs hpl, ev_1 (r := fun x H Q => rIsO X.K [x, .ref C] H Q) (prim_isOb k fun u h => h) ha.v⟩
theorem x_isObT {K : Fg} {y : Str} {T : String} {p3 p4 : Pos} (k : ObK K cx L tb (.type T)) (hm : X.mg "isinstance" = none) (hmT : X.mg y = none) (hvT : bootBuiltins y = some (.type T)) (ha : XO X W a ta oa) (hg : Gl X "isinstance" := by rfl) (hgT : Gl X y := by rfl) (hnT : y ≠ "__name__" := by decide) (hdT : (y == ("__debug__" : Str)) = false := by decide)
    (hs : starEach [a, .Name y p4] X.env = (false, eval a X.env) :: starEach [.Name y p4] X.env := by rfl) (hs2 : starEach [.Name y p4] X.env = (false, eval (.Name y p4) X.env) :: starEach [] X.env := by rfl) (hpl : (backTo pos (starEach [.Name y p4] X.env)).any (·.1) = false := by rfl) (hK : X.K = K := by rfl) :
    XE X W (.Call (.Name "isinstance" p3) [a, .Name y p4] [] pos) (tCB (rIsO K) (tCons ta (tCons (tC (.ty T)) tNil))) (m1 (isOb cx L tb) oa) := by
  subst hK
  exact ⟨pe_callB call_isO hg hm (by decide +kernel) (pa_cons ha.p (pa_cons (pe_bltn (v := .ty T) hgT hmT hvT rfl hnT hdT) pa_nil hs2) hs) (by decide) (by decide) hs hpl, ev_1 (r := fun x H Q => rIsO X.K [x, .ty T] H Q) (prim_isOb k fun u h => h) ha.v⟩
end
/-! ### its attribute -/
def tObF (K : Fg) (f : Str) (te : TE) : TE := fun σ H Q => te σ H fun x H1 => ∃ (a C dd : Addr) (fs : List (Str × V)) (v : V), x = .ref a ∧ XfC K C ∧ PySem.W.findIn K (.ref C) f = some none ∧ H1 a = some (exo a C (some dd)) ∧ H1 dd = some (exd dd fs) ∧ fs.lookup f = some v ∧ Q v H1
theorem pe_obF {X : Cx} {e : Expr} {te : TE} {pos : Pos} {n : Str} (he : PE X e te) (hb : attributeBase e n X.env (eval e X.env) = eval e X.env := by rfl) : PE X (.Attribute e n pos) (tObF X.K n te) := by
  refine ⟨fun pins s σ H Q I h => ?_⟩
  refine attr_of hb (thn (he.run pins s σ H _ I h) fun u s1 hh => ?_)
  obtain ⟨x, H1, I1, rx, a, C, dd, fs, v, ex, T, hno, ea, ed, l, q⟩ := hh
  subst ex
  obtain rfl : u = Value.ref a := rx
  obtain ⟨t1, g⟩ := exo_at I1.hok ea
  obtain ⟨mA, hns, hr⟩ := exd_at I1.hok ed
  obtain ⟨od, ho, hl⟩ := lookIn_ns hns
  obtain ⟨u, hu, ru⟩ := RelO.some_of (v := v) (o := mA n) (by rw [← l]; exact hr n)
  have J : PySem.W.InstAt s1.heap a _ C (some od) := ⟨g, rfl, rfl, ho⟩
  exact HandSPX.exc_get I1.kIn J T.ga T.gg T.exC (PySem.W.findObj_own T.hdC hno rfl (by rw [hl, hu])) (handed_of ru) ⟨v, H1, I1.tok _, ru, q⟩
def obF (cx : Nat → Addr) (L : List Nat) (f : Str) : D → Option D
  | .ob n C [g] [d] => if (C = cx n ∧ n ∈ L) ∧ g = f then some d else none
  | _ => none
theorem prim_obF {K : Fg} {cx : Nat → Addr} {L : List Nat} {f : Str} (k : ∀ n ∈ L, XfC K (cx n) ∧ PySem.W.findIn K (.ref (cx n)) f = some none) :
    Prim1 K (fun x H1 Q => ∃ (a C dd : Addr) (fs : List (Str × V)) (v : V), x = .ref a ∧ XfC K C ∧ PySem.W.findIn K (.ref C) f = some none ∧ H1 a = some (exo a C (some dd)) ∧ H1 dd = some (exd dd fs) ∧ fs.lookup f = some v ∧ Q v H1) (obF cx L f) := by
  intro F H v d e fh hv hf Q kq
  unfold obF at hf
  split at hf
  · rename_i n C g d0
    obtain ⟨⟨⟨h1, h2⟩, h4⟩, h3⟩ := if_some hf
    obtain ⟨a, vs, rfl, ⟨_, g1⟩, g2⟩ := hv.ob fh
    obtain ⟨x, us, rfl, g3, g4⟩ := g2.inv
    have := g4.inv0
    subst this h4 h3
    obtain ⟨k1, k2⟩ := k n h2
    rw [← h1] at k1 k2
    rcases g1 with ⟨z, _⟩ | ⟨_, _, dx, g5, g6⟩
    · cases z
    · exact ⟨a, C, dx, _, x, rfl, k1, k2, g5, g6, by simp [List.lookup], kq F H _ (New.refl fh) g3⟩
  · cases hf
theorem x_obF {X : Cx} {W : WX} {a : Expr} {ta : TE} {oa : M Op} {pos : Pos} {cx : Nat → Addr} {L : List Nat} {K : Fg} {f : Str} (k : ∀ n ∈ L, XfC K (cx n) ∧ PySem.W.findIn K (.ref (cx n)) f = some none) (ha : XO X W a ta oa) (hb : attributeBase a f X.env (eval a X.env) = eval a X.env := by rfl) (hK : X.K = K := by rfl) :
    XE X W (.Attribute a f pos) (tObF K f ta) (m1 (obF cx L f) oa) := by
  subst hK
  exact ⟨pe_obF ha.p hb, ev_1 (r := fun x H1 Q => ∃ (a C dd : Addr) (fs : List (Str × V)) (v : V), x = .ref a ∧ XfC X.K C ∧ PySem.W.findIn X.K (.ref C) f = some none ∧ H1 a = some (exo a C (some dd)) ∧ H1 dd = some (exd dd fs) ∧ fs.lookup f = some v ∧ Q v H1) (prim_obF k) ha.v⟩
end DL

set_option Elab.async false
set_option linter.all false
set_option maxRecDepth 100000
set_option maxHeartbeats 4000000
namespace GA
open PySem L2 DL G
/-! ### the text by places -/
def top (i : Nat) : Stmt := PySem.Challenge.pw_endsum_k07_refusals_apart.main.body.getD i (.Pass ⟨0, 0, 0, 0⟩)
abbrev s__law_source_of : Stmt := top 19
abbrev s__law_next : Stmt := top 20
abbrev s__law_one : Stmt := top 21
abbrev s__law_classes : Stmt := top 22
abbrev s_law : Stmt := top 23
abbrev s_NoDrawing___init__ : Stmt := inClass (top 3) 0
abbrev s_NoStock___init__ : Stmt := inClass (top 2) 0
abbrev s_NoText___init__ : Stmt := inClass (top 15) 0
abbrev s_NoWeights___init__ : Stmt := inClass (top 12) 0
abbrev s_NotThere___init__ : Stmt := inClass (top 17) 0
abbrev OBL : List Nat := [1, 2, 3, 4, 5, 6, 7, 8, 9, 10, 11, 12, 13, 14, 15, 16]
structure Txt (K : Fg) (mg : Str → Option Value) (c : Cs) : Prop where
  b_ValueError : mg "ValueError" = none
  b_enumerate : mg "enumerate" = none
  b_int : mg "int" = none
  b_isinstance : mg "isinstance" = none
  b_len : mg "len" = none
  b_range : mg "range" = none
  xg_NoRenaming : mg "NoRenaming" = some (.ref (c.x 3))
  xg_NoMatch : mg "NoMatch" = some (.ref (c.x 4))
  xg_TooMany : mg "TooMany" = some (.ref (c.x 5))
  xg_NoPairing : mg "NoPairing" = some (.ref (c.x 6))
  xg_NoJoin : mg "NoJoin" = some (.ref (c.x 7))
  xg_NoName : mg "NoName" = some (.ref (c.x 8))
  xg_NoLeg : mg "NoLeg" = some (.ref (c.x 9))
  xg_NoCounts : mg "NoCounts" = some (.ref (c.x 10))
  xg_NoColours : mg "NoColours" = some (.ref (c.x 12))
  xg_NoNumbers : mg "NoNumbers" = some (.ref (c.x 13))
  xg_NoRow : mg "NoRow" = some (.ref (c.x 15))
  xg_NoStock : mg "NoStock" = some (.ref (c.x 1))
  xg_NoDrawing : mg "NoDrawing" = some (.ref (c.x 2))
  xg_NoWeights : mg "NoWeights" = some (.ref (c.x 11))
  xg_NoText : mg "NoText" = some (.ref (c.x 14))
  xg_NotThere : mg "NotThere" = some (.ref (c.x 16))
  xg_EndError : mg "EndError" = some (.ref (c.x 0))
  xm_NoRenaming : ExK K (c.x 3)
  xm_NoMatch : ExK K (c.x 4)
  xm_TooMany : ExK K (c.x 5)
  xm_NoPairing : ExK K (c.x 6)
  xm_NoJoin : ExK K (c.x 7)
  xm_NoName : ExK K (c.x 8)
  xm_NoLeg : ExK K (c.x 9)
  xm_NoCounts : ExK K (c.x 10)
  xm_NoColours : ExK K (c.x 12)
  xm_NoNumbers : ExK K (c.x 13)
  xm_NoRow : ExK K (c.x 15)
  xO_NoRenaming : ObK K c.x OBL (fun n => decide (n = 3)) (.ref (c.x 3))
  xO_NoMatch : ObK K c.x OBL (fun n => decide (n = 4)) (.ref (c.x 4))
  xO_TooMany : ObK K c.x OBL (fun n => decide (n = 5)) (.ref (c.x 5))
  xO_NoPairing : ObK K c.x OBL (fun n => decide (n = 6)) (.ref (c.x 6))
  xO_NoJoin : ObK K c.x OBL (fun n => decide (n = 7)) (.ref (c.x 7))
  xO_NoName : ObK K c.x OBL (fun n => decide (n = 8)) (.ref (c.x 8))
  xO_NoLeg : ObK K c.x OBL (fun n => decide (n = 9)) (.ref (c.x 9))
  xO_NoCounts : ObK K c.x OBL (fun n => decide (n = 10)) (.ref (c.x 10))
  xO_NoColours : ObK K c.x OBL (fun n => decide (n = 12)) (.ref (c.x 12))
  xO_NoNumbers : ObK K c.x OBL (fun n => decide (n = 13)) (.ref (c.x 13))
  xO_NoRow : ObK K c.x OBL (fun n => decide (n = 15)) (.ref (c.x 15))
  xO_NoStock : ObK K c.x OBL (fun n => decide (n = 1)) (.ref (c.x 1))
  xO_NoDrawing : ObK K c.x OBL (fun n => decide (n = 2)) (.ref (c.x 2))
  xO_NoWeights : ObK K c.x OBL (fun n => decide (n = 11)) (.ref (c.x 11))
  xO_NoText : ObK K c.x OBL (fun n => decide (n = 14)) (.ref (c.x 14))
  xO_NotThere : ObK K c.x OBL (fun n => decide (n = 16)) (.ref (c.x 16))
  xO_ValueError : ObK K c.x OBL (fun _ => true) (.type "ValueError")
  xO_EndError : ObK K c.x OBL (fun _ => true) (.ref (c.x 0))
  xA_part : ∀ n ∈ ([1, 2, 11] : List Nat), XfC K (c.x n) ∧ PySem.W.findIn K (.ref (c.x n)) "part" = some none
  xA_name : ∀ n ∈ ([16] : List Nat), XfC K (c.x n) ∧ PySem.W.findIn K (.ref (c.x n)) "name" = some none
  xA_at : ∀ n ∈ ([14] : List Nat), XfC K (c.x n) ∧ PySem.W.findIn K (.ref (c.x n)) "at" = some none
/-! ### what each def computes -/
abbrev N__law_classes : List Str := ["_law_found", "_law_kinds"]
def m__law_classes (c : Cs) : Ms := mSeq (mAsgO 1 (mLst (mdCons (m1 (isOb c.x OBL (fun n => decide (n = 3))) (mOv 0)) (mdCons (m1 (isOb c.x OBL (fun n => decide (n = 4))) (mOv 0)) (mdCons (m1 (isOb c.x OBL (fun n => decide (n = 5))) (mOv 0)) mdNil))))) (mSeq (mAsg (gN 1) (m2 addD (mOv 1) (mVal (mLst (mdCons (m1 (isOb c.x OBL (fun n => decide (n = 6))) (mOv 0)) (mdCons (m1 (isOb c.x OBL (fun n => decide (n = 7))) (mOv 0)) (mdCons (m1 (isOb c.x OBL (fun n => decide (n = 8))) (mOv 0)) mdNil))))))) (mSeq (mAsg (gN 1) (m2 addD (mOv 1) (mVal (mLst (mdCons (m1 (isOb c.x OBL (fun n => decide (n = 9))) (mOv 0)) (mdCons (m1 (isOb c.x OBL (fun n => decide (n = 10))) (mOv 0)) (mdCons (m1 (isOb c.x OBL (fun n => decide (n = 12))) (mOv 0)) mdNil))))))) (mSeq (mAsg (gN 1) (m2 addD (mOv 1) (mVal (mLst (mdCons (m1 (isOb c.x OBL (fun n => decide (n = 13))) (mOv 0)) (mdCons (m1 (isOb c.x OBL (fun n => decide (n = 15))) (mOv 0)) (mdCons (m1 (isOb c.x OBL (fun n => decide (n = 1))) (mOv 0)) mdNil))))))) (mSeq (mAsg (gN 1) (m2 addD (mOv 1) (mVal (mLst (mdCons (m1 (isOb c.x OBL (fun n => decide (n = 2))) (mOv 0)) (mdCons (m1 (isOb c.x OBL (fun n => decide (n = 11))) (mOv 0)) (mdCons (m1 (isOb c.x OBL (fun n => decide (n = 14))) (mOv 0)) mdNil))))))) (mRet (m2 addD (mOv 1) (mVal (mLst (mdCons (m1 (isOb c.x OBL (fun n => decide (n = 16))) (mOv 0)) mdNil)))))))))
def g__law_classes (c : Cs) : List D → Option D := defG 2 [.fr] (m__law_classes c)
abbrev N_law : List Str := ["_law_script", "_law_cell", "_law_source", "_law_value_there", "_law_plain", "_law_valued", "_law_at", "_law_one_here", "_law_k"]
def E_law_0 (c : Cs) : M D := m2 eqD (mOv 8) (mOv 6)
def L_law_0 (c : Cs) : M D := mLc (mIt rg1 (mdCons (mC (.int 16)) mdNil)) (gN 8) mYes (E_law_0 c) [8]
def B_law_0 (c : Cs) : Ms := mSeq (mIf (mTest (m2 neD (mVal (mCallP [.fr] (g__law_classes c) (maCons (mVal (mVar 7)) maNil))) (mVal (L_law_0 c)))) (mRet (mC (.bl false))) (mNext)) (mIf (mOr (mNot (mTest (m1 (isOb c.x OBL (fun n => true)) (mOv 7)))) (mNot (mTest (m1 (isOb c.x OBL (fun _ => true)) (mOv 7))))) (mRet (mC (.bl false))) (mNext))
def E_law_1 (c : Cs) : M D := m1 (obF c.x [1, 2, 11] "part") (mOv 7)
def L_law_1 (c : Cs) : M D := mLc (mSeqOf (mSl slD (mOv 5) mpNone (mpSome (mC (.int 3))))) (gN 7) mYes (E_law_1 c) [7]
def B_law_1 (c : Cs) : Ms := mSeq (mAsgO 2 (mCallN [.fr] (g__law_source_of c) (maCons (mVal (mVar 1)) maNil))) (mSeq (mAsg (gN 3) (mCallI 2 [.fr] (g__law_one c) (maCons (mVal (mLst (mdCons (mC (.str "kinds")) (mdCons (mC (.str "joins")) (mdCons (mC (.int 0)) (mdCons (mC (.int 7)) (mdCons (mC .non) (mdCons (mC (.str "stock")) (mdCons (mC (.str "a")) mdNil))))))))) maNil))) (mSeq (mAsgO 4 (mLst (mdCons (mEr0 (c.x 3) 3) (mdCons (mEr0 (c.x 4) 4) (mdCons (mEr0 (c.x 5) 5) (mdCons (mEr0 (c.x 6) 6) (mdCons (mEr0 (c.x 7) 7) (mdCons (mEr0 (c.x 8) 8) (mdCons (mEr0 (c.x 9) 9) mdNil))))))))) (mSeq (mAsg (gN 4) (m2 addD (mOv 4) (mVal (mLst (mdCons (mEr0 (c.x 10) 10) (mdCons (mEr0 (c.x 12) 12) (mdCons (mEr0 (c.x 13) 13) (mdCons (mEr0 (c.x 15) 15) mdNil)))))))) (mSeq (mAsgO 5 (mLst (mdCons (mErF (c.x 1) "part" 1 (mVar 3)) (mdCons (mErF (c.x 2) "part" 2 (mVar 3)) (mdCons (mErF (c.x 11) "part" 11 (mVar 3)) mdNil))))) (mSeq (mAsg (gN 5) (m2 addD (mOv 5) (mVal (mLst (mdCons (mErF (c.x 14) "at" 14 (mVar 3)) (mdCons (mErF (c.x 16) "name" 16 (mVar 3)) mdNil)))))) (mSeq (mFor (mIt enumF (mdCons (m2 addD (mOv 4) (mOv 5)) mdNil)) (gT (gsC (gN 6) (gsC (gN 7) gs0))) (B_law_0 c)) (mSeq (mIf (mTest (m2 neD (mVal (L_law_1 c)) (mVal (mn2 repF (mVal (mLst (mdCons (mVar 3) mdNil))) (mVal (mC (.int 3))))))) (mRet (mC (.bl false))) (mNext)) (mIf (mOr (mTest (m2 neD (mVal (m1 (obF c.x [14] "at") (mVal (m2 ixD (mOv 5) (mVal (mC (.int 3))))))) (mOv 3))) (mTest (m2 neD (mVal (m1 (obF c.x [16] "name") (mVal (m2 ixD (mOv 5) (mVal (mC (.int 4))))))) (mOv 3)))) (mRet (mC (.bl false))) (mNext)))))))))
def m_law (c : Cs) : Ms := mSeq (mFor (mSeqOf (m2 addD (mVal (mScSl 0 none (some 6))) (mVal (mLst (mdCons (mC (.int 0)) (mdCons (mC (.int 1)) mdNil)))))) (gN 1) (B_law_1 c)) (mRet (mC (.bl true)))
/-! ### it does -/
section
variable {P : Program} {w : World} {K : Fg} {mg : Str → Option Value} {base : Heap} {c : Cs}
theorem sc_NoDrawing___init__ : FnScope ["self", "part"] ["self", "part"] (defScope s_NoDrawing___init__) := ⟨rfl, rfl, rfl, by decide +kernel, rfl, by decide +kernel, by decide +kernel⟩
theorem ok_NoDrawing___init__ {f : Addr} {fd : FuncData} (F : Fun K "__init__" "NoDrawing.__init__" s_NoDrawing___init__ f fd) (k : EeK K (c.x 0)) (g : mg "EndError" = some (.ref (c.x 0))) : FnOk P w K mg base CX0 1 f fd ["self", "part"] (SpE K "part") :=
  fn_e (N := ["self", "part"]) F sc_NoDrawing___init__ rfl fun cdv A outer s H E => pss_cons (ps_expr (pe_eeinit k rfl g (pa_cons (x_var (W := W0) 0).p (pa_cons pe_str pa_nil)))) (pss_one (ps_ost (x_var (W := W0) 0).p (x_var (W := W0) 1).p))
theorem sc_NoStock___init__ : FnScope ["self", "part"] ["self", "part"] (defScope s_NoStock___init__) := ⟨rfl, rfl, rfl, by decide +kernel, rfl, by decide +kernel, by decide +kernel⟩
theorem ok_NoStock___init__ {f : Addr} {fd : FuncData} (F : Fun K "__init__" "NoStock.__init__" s_NoStock___init__ f fd) (k : EeK K (c.x 0)) (g : mg "EndError" = some (.ref (c.x 0))) : FnOk P w K mg base CX0 1 f fd ["self", "part"] (SpE K "part") :=
  fn_e (N := ["self", "part"]) F sc_NoStock___init__ rfl fun cdv A outer s H E => pss_cons (ps_expr (pe_eeinit k rfl g (pa_cons (x_var (W := W0) 0).p (pa_cons pe_str pa_nil)))) (pss_one (ps_ost (x_var (W := W0) 0).p (x_var (W := W0) 1).p))
theorem sc_NoText___init__ : FnScope ["self", "at"] ["self", "at"] (defScope s_NoText___init__) := ⟨rfl, rfl, rfl, by decide +kernel, rfl, by decide +kernel, by decide +kernel⟩
theorem ok_NoText___init__ {f : Addr} {fd : FuncData} (F : Fun K "__init__" "NoText.__init__" s_NoText___init__ f fd) (k : EeK K (c.x 0)) (g : mg "EndError" = some (.ref (c.x 0))) : FnOk P w K mg base CX0 1 f fd ["self", "at"] (SpE K "at") :=
  fn_e (N := ["self", "at"]) F sc_NoText___init__ rfl fun cdv A outer s H E => pss_cons (ps_expr (pe_eeinit k rfl g (pa_cons (x_var (W := W0) 0).p (pa_cons pe_str pa_nil)))) (pss_one (ps_ost (x_var (W := W0) 0).p (x_var (W := W0) 1).p))
theorem sc_NoWeights___init__ : FnScope ["self", "part"] ["self", "part"] (defScope s_NoWeights___init__) := ⟨rfl, rfl, rfl, by decide +kernel, rfl, by decide +kernel, by decide +kernel⟩
theorem ok_NoWeights___init__ {f : Addr} {fd : FuncData} (F : Fun K "__init__" "NoWeights.__init__" s_NoWeights___init__ f fd) (k : EeK K (c.x 0)) (g : mg "EndError" = some (.ref (c.x 0))) : FnOk P w K mg base CX0 1 f fd ["self", "part"] (SpE K "part") :=
  fn_e (N := ["self", "part"]) F sc_NoWeights___init__ rfl fun cdv A outer s H E => pss_cons (ps_expr (pe_eeinit k rfl g (pa_cons (x_var (W := W0) 0).p (pa_cons pe_str pa_nil)))) (pss_one (ps_ost (x_var (W := W0) 0).p (x_var (W := W0) 1).p))
theorem sc_NotThere___init__ : FnScope ["self", "name"] ["self", "name"] (defScope s_NotThere___init__) := ⟨rfl, rfl, rfl, by decide +kernel, rfl, by decide +kernel, by decide +kernel⟩
theorem ok_NotThere___init__ {f : Addr} {fd : FuncData} (F : Fun K "__init__" "NotThere.__init__" s_NotThere___init__ f fd) (k : EeK K (c.x 0)) (g : mg "EndError" = some (.ref (c.x 0))) : FnOk P w K mg base CX0 1 f fd ["self", "name"] (SpE K "name") :=
  fn_e (N := ["self", "name"]) F sc_NotThere___init__ rfl fun cdv A outer s H E => pss_cons (ps_expr (pe_eeinit k rfl g (pa_cons (x_var (W := W0) 0).p (pa_cons pe_str pa_nil)))) (pss_one (ps_ost (x_var (W := W0) 0).p (x_var (W := W0) 1).p))
theorem sc__law_source_of : FnScope N__law_source_of ["_law_cell"] (defScope s__law_source_of) := ⟨rfl, rfl, rfl, by decide +kernel, rfl, by decide +kernel, by decide +kernel⟩
theorem ok__law_source_of {f : Addr} {fd : FuncData} (F : Fun K "_law_source_of" "_law_source_of" s__law_source_of f fd) (T : Txt K mg c) : FnOk P w K mg base CX0 1 f fd ["_law_cell"] (SpN K [.fr] (g__law_source_of c)) :=
  fn_n (N := N__law_source_of) (k := 0) F sc__law_source_of rfl fun cdv A outer s H E hr => ⟨_, b_one (s_retW (n_lst (d_cons (x_mul (o_var 0) (o_e (x_int1 T.b_int (o_e (x_ge (o_var 0) (o_e (x_pow (o_e (x_int)) (o_e (x_int))))))))) (d_cons (x_mod (o_var 0) (o_e (x_int))) (d_cons (x_int) d_nil)))))⟩
theorem sc__law_next : FnScope N__law_next ["_law_source", "_law_many"] (defScope s__law_next) := ⟨rfl, rfl, rfl, by decide +kernel, rfl, by decide +kernel, by decide +kernel⟩
theorem ok__law_next {f : Addr} {fd : FuncData} (F : Fun K "_law_next" "_law_next" s__law_next f fd) (T : Txt K mg c) : FnOk P w K mg base CX0 1 f fd ["_law_source", "_law_many"] (SpI K [.fr] (g__law_next c)) :=
  fn_i (N := N__law_next) (k := 0) F sc__law_next rfl fun cdv A outer s H E hr => ⟨_, b_cons (s_if (t_gt (o_e (x_ix (K := K) (o_var 0) (o_e (x_int)))) (o_e (x_int))) (b_cons (s_set 2 (x_mod (o_e (x_ix (K := K) (o_var 0) (o_e (x_int)))) (o_var 1)) sc__law_next.nd) (b_cons (s_putI (x_var (W := W0) 0).p (x_int) (x_div (o_e (x_ix (K := K) (o_var 0) (o_e (x_int)))) (o_var 1))) (b_one (s_ret (x_var 2))))) (b_nil)) (b_cons (s_putI (x_var (W := W0) 0).p (x_int) (x_add (K := K) (o_e (x_ix (K := K) (o_var 0) (o_e (x_int)))) (o_e (x_int)))) (b_cons (s_set 3 (x_ix (K := K) (o_e (x_n (n_lst (d_cons (x_int) (d_cons (x_int) (d_cons (x_int) (d_cons (x_int) (d_cons (x_int) (d_cons (x_int) (d_cons (x_int) d_nil)))))))))) (o_e (x_mod (o_e (x_ix (K := K) (o_var 0) (o_e (x_int)))) (o_e (x_int))))) sc__law_next.nd) (b_cons (s_set 4 (x_mod (o_e (x_pow (o_e (x_add (K := K) (o_e (x_add (K := K) (o_e (x_ix (K := K) (o_var 0) (o_e (x_int)))) (o_e (x_mul (o_e (x_int)) (o_e (x_ix (K := K) (o_var 0) (o_e (x_int)))))))) (o_e (x_int)))) (o_e (x_int)))) (o_var 3)) sc__law_next.nd) (b_cons (s_set 4 (x_mod (o_e (x_mul (o_e (x_add (K := K) (o_var 4) (o_e (x_ix (K := K) (o_var 0) (o_e (x_int)))))) (o_e (x_add (K := K) (o_e (x_div (o_var 4) (o_e (x_int)))) (o_e (x_int)))))) (o_var 3)) sc__law_next.nd) (b_one (s_ret (x_mod (o_e (x_div (o_var 4) (o_e (x_int)))) (o_var 1))))))))⟩
theorem sc__law_one : FnScope N__law_one ["_law_source", "_law_some"] (defScope s__law_one) := ⟨rfl, rfl, rfl, by decide +kernel, rfl, by decide +kernel, by decide +kernel⟩
theorem ok__law_one {f : Addr} {fd : FuncData} (F : Fun K "_law_one" "_law_one" s__law_one f fd) (T : Txt K mg c) (h__law_next : CallI P w K mg base "_law_next" 1 ["_law_source", "_law_many"] [.fr] (g__law_next c)) : FnOk P w K mg base CX0 2 f fd ["_law_source", "_law_some"] (SpI K [.fr] (g__law_one c)) :=
  fn_i (N := N__law_one) (k := 1) F sc__law_one rfl fun cdv A outer s H E hr => ⟨_, b_one (s_ret (x_ix (K := K) (o_var 1) (o_e (x_cqi (K := K) h__law_next hr (x_var 0) (a_cons (o_e (x_len (K := K) T.b_len (o_var 1))) a_nil)))))⟩
theorem sc__law_classes : FnScope N__law_classes ["_law_found"] (defScope s__law_classes) := ⟨rfl, rfl, rfl, by decide +kernel, rfl, by decide +kernel, by decide +kernel⟩
theorem ok__law_classes {f : Addr} {fd : FuncData} (F : Fun K "_law_classes" "_law_classes" s__law_classes f fd) (T : Txt K mg c) : FnOk P w K mg base CX0 1 f fd ["_law_found"] (SpP K [.fr] (g__law_classes c)) :=
  fn_g (N := N__law_classes) (k := 0) F sc__law_classes rfl fun cdv A outer s H E hr => ⟨_, b_cons (s_setO 1 (n_lst (d_cons (x_isOb T.xO_NoRenaming T.b_isinstance T.xg_NoRenaming (o_var 0)) (d_cons (x_isOb T.xO_NoMatch T.b_isinstance T.xg_NoMatch (o_var 0)) (d_cons (x_isOb T.xO_TooMany T.b_isinstance T.xg_TooMany (o_var 0)) d_nil)))) sc__law_classes.nd) (b_cons (s_set 1 (x_add (K := K) (o_var 1) (o_e (x_n (n_lst (d_cons (x_isOb T.xO_NoPairing T.b_isinstance T.xg_NoPairing (o_var 0)) (d_cons (x_isOb T.xO_NoJoin T.b_isinstance T.xg_NoJoin (o_var 0)) (d_cons (x_isOb T.xO_NoName T.b_isinstance T.xg_NoName (o_var 0)) d_nil))))))) sc__law_classes.nd) (b_cons (s_set 1 (x_add (K := K) (o_var 1) (o_e (x_n (n_lst (d_cons (x_isOb T.xO_NoLeg T.b_isinstance T.xg_NoLeg (o_var 0)) (d_cons (x_isOb T.xO_NoCounts T.b_isinstance T.xg_NoCounts (o_var 0)) (d_cons (x_isOb T.xO_NoColours T.b_isinstance T.xg_NoColours (o_var 0)) d_nil))))))) sc__law_classes.nd) (b_cons (s_set 1 (x_add (K := K) (o_var 1) (o_e (x_n (n_lst (d_cons (x_isOb T.xO_NoNumbers T.b_isinstance T.xg_NoNumbers (o_var 0)) (d_cons (x_isOb T.xO_NoRow T.b_isinstance T.xg_NoRow (o_var 0)) (d_cons (x_isOb T.xO_NoStock T.b_isinstance T.xg_NoStock (o_var 0)) d_nil))))))) sc__law_classes.nd) (b_cons (s_set 1 (x_add (K := K) (o_var 1) (o_e (x_n (n_lst (d_cons (x_isOb T.xO_NoDrawing T.b_isinstance T.xg_NoDrawing (o_var 0)) (d_cons (x_isOb T.xO_NoWeights T.b_isinstance T.xg_NoWeights (o_var 0)) (d_cons (x_isOb T.xO_NoText T.b_isinstance T.xg_NoText (o_var 0)) d_nil))))))) sc__law_classes.nd) (b_one (s_ret (x_add (K := K) (o_var 1) (o_e (x_n (n_lst (d_cons (x_isOb T.xO_NotThere T.b_isinstance T.xg_NotThere (o_var 0)) d_nil)))))))))))⟩
theorem sc_law : FnScope N_law ["_law_script"] (defScope s_law) := ⟨rfl, rfl, rfl, by decide +kernel, rfl, by decide +kernel, by decide +kernel⟩
theorem ok_law {f : Addr} {fd : FuncData} (F : Fun K "law" "law" s_law f fd) (T : Txt K mg c) (h__law_source_of : CallN P w K mg base "_law_source_of" 1 ["_law_cell"] [.fr] (g__law_source_of c)) (h__law_one : CallI P w K mg base "_law_one" 2 ["_law_source", "_law_some"] [.fr] (g__law_one c)) (h__law_classes : CallP P w K mg base "_law_classes" 1 ["_law_found"] [.fr] (g__law_classes c)) (hx_NoStock : ExF P w K mg base (c.x 1) "part") (hx_NoDrawing : ExF P w K mg base (c.x 2) "part") (hx_NoWeights : ExF P w K mg base (c.x 11) "part") (hx_NoText : ExF P w K mg base (c.x 14) "at") (hx_NotThere : ExF P w K mg base (c.x 16) "name") (hm : lawOk (m_law c) 9) : FnOk P w K mg base CX0 3 f fd ["_law_script"] (spLawD K) :=
  law_fn (N := N_law) (k := 2) F sc_law hm fun cdv A outer s H E hr => ⟨_, b_cons (s_for PassesOwn.never rfl (i_list (K := K) (x_add (K := K) (o_e (x_scSl (K := K) (x_var (W := W0) 0).p po_none (po_some pe_int) cp_none cp_int)) (o_e (x_n (n_lst (d_cons (x_int) (d_cons (x_int) d_nil))))))) (g_name (vs := [1]) 1 sc_law.nd) (b_cons (s_setO 2 (n_cn (K := K) h__law_source_of hr (a_cons (o_e (x_var 1)) a_nil)) sc_law.nd) (b_cons (s_set 3 (x_cqi (K := K) h__law_one hr (x_var 2) (a_cons (o_e (x_n (n_lst (d_cons (x_str) (d_cons (x_str) (d_cons (x_int) (d_cons (x_int) (d_cons (x_non) (d_cons (x_str) (d_cons (x_str) d_nil)))))))))) a_nil)) sc_law.nd) (b_cons (s_setO 4 (n_lst (d_cons (x_er0 T.xm_NoRenaming T.xg_NoRenaming) (d_cons (x_er0 T.xm_NoMatch T.xg_NoMatch) (d_cons (x_er0 T.xm_TooMany T.xg_TooMany) (d_cons (x_er0 T.xm_NoPairing T.xg_NoPairing) (d_cons (x_er0 T.xm_NoJoin T.xg_NoJoin) (d_cons (x_er0 T.xm_NoName T.xg_NoName) (d_cons (x_er0 T.xm_NoLeg T.xg_NoLeg) d_nil)))))))) sc_law.nd) (b_cons (s_set 4 (x_add (K := K) (o_var 4) (o_e (x_n (n_lst (d_cons (x_er0 T.xm_NoCounts T.xg_NoCounts) (d_cons (x_er0 T.xm_NoColours T.xg_NoColours) (d_cons (x_er0 T.xm_NoNumbers T.xg_NoNumbers) (d_cons (x_er0 T.xm_NoRow T.xg_NoRow) d_nil)))))))) sc_law.nd) (b_cons (s_setO 5 (n_lst (d_cons (x_erF hx_NoStock hr (by decide) T.xg_NoStock (x_var 3)) (d_cons (x_erF hx_NoDrawing hr (by decide) T.xg_NoDrawing (x_var 3)) (d_cons (x_erF hx_NoWeights hr (by decide) T.xg_NoWeights (x_var 3)) d_nil)))) sc_law.nd) (b_cons (s_set 5 (x_add (K := K) (o_var 5) (o_e (x_n (n_lst (d_cons (x_erF hx_NoText hr (by decide) T.xg_NoText (x_var 3)) (d_cons (x_erF hx_NotThere hr (by decide) T.xg_NotThere (x_var 3)) d_nil)))))) sc_law.nd) (b_cons (s_for PassesOwn.never rfl (i_enum (K := K) T.b_enumerate (d_cons (x_add (K := K) (o_var 4) (o_var 5)) d_nil)) (g_tup (K := K) rfl (gs_cons (g_name (vs := [6, 7]) 6 sc_law.nd) (gs_cons (g_name (vs := [6, 7]) 7 sc_law.nd) gs_nil))) (b_cons (s_if (t_ne (K := K) hr (o_e (x_cq (K := K) h__law_classes hr (a_cons (o_e (x_var 7)) a_nil))) (o_e (x_n (n_lc (own := [("_law_k", 8)]) rfl sc_law.nd (i_range1 T.b_range (d_cons (x_int) d_nil)) (blkOk_by (own := [("_law_k", 8)]) (N := N_law) (sc := defScope s_law) (by decide +kernel)) (fun _ _ _ _ _ => (g_name (vs := [8]) 8 sc_law.nd)) (fun _ _ _ _ _ => ts_nil) (fun _ _ _ _ _ => x_eq (K := K) hr (o_var 8) (o_var 6)))))) (b_one (s_ret (x_bl))) (b_nil)) (b_one (s_if (t_w (w_or (t_not (t_val (x_isOb T.xO_EndError T.b_isinstance T.xg_EndError (o_var 7)))) (w_or1 (t_not (t_val (x_isObT (T := "ValueError") T.xO_ValueError T.b_isinstance T.b_ValueError (by decide +kernel) (o_var 7))))))) (b_one (s_ret (x_bl))) (b_nil))))) (b_cons (s_if (t_ne (K := K) hr (o_e (x_n (n_lc (own := [("_law_one_here", 7)]) rfl sc_law.nd (i_list (K := K) (x_sl (K := K) (o_var 5) p_none (p_some (x_int)))) (blkOk_by (own := [("_law_one_here", 7)]) (N := N_law) (sc := defScope s_law) (by decide +kernel)) (fun _ _ _ _ _ => (g_name (vs := [7]) 7 sc_law.nd)) (fun _ _ _ _ _ => ts_nil) (fun _ _ _ _ _ => x_obF T.xA_part (o_var 7))))) (o_e (x_n (n_rep (o_e (x_n (n_lst (d_cons (x_var 3) d_nil)))) (o_e (x_int)))))) (b_one (s_ret (x_bl))) (b_nil)) (b_one (s_if (t_w (w_or (t_ne (K := K) hr (o_e (x_obF T.xA_at (o_e (x_ix (K := K) (o_var 5) (o_e (x_int)))))) (o_var 3)) (w_or1 (t_ne (K := K) hr (o_e (x_obF T.xA_name (o_e (x_ix (K := K) (o_var 5) (o_e (x_int)))))) (o_var 3))))) (b_one (s_ret (x_bl))) (b_nil)))))))))))) (b_one (s_ret (x_bl)))⟩
end
/-! ### what the top has written, all together -/
theorem all_mk {P : Program} {w : World} {K : Fg} {h : Heap} {mg : Str → Option Value} {fa : Addr} {C_NoRenaming C_NoMatch C_TooMany C_NoPairing C_NoJoin C_NoName C_NoLeg C_NoCounts C_NoColours C_NoNumbers C_NoRow C_NoStock C_NoDrawing C_NoWeights C_NoText C_NotThere C_EndError f_NoDrawing___init__ f_NoStock___init__ f_NoText___init__ f_NoWeights___init__ f_NotThere___init__ : Addr} (X : K.In h) (G : h.Ns mainGlobals mg) (hfa : mg "law" = some (.ref fa))
    (z_ValueError : PySem.W.nsIn K mainGlobals "ValueError" = some none)
    (z_enumerate : PySem.W.nsIn K mainGlobals "enumerate" = some none)
    (z_int : PySem.W.nsIn K mainGlobals "int" = some none)
    (z_isinstance : PySem.W.nsIn K mainGlobals "isinstance" = some none)
    (z_len : PySem.W.nsIn K mainGlobals "len" = some none)
    (z_range : PySem.W.nsIn K mainGlobals "range" = some none)
    (d__law_source_of : DefK K "_law_source_of" s__law_source_of)
    (d__law_next : DefK K "_law_next" s__law_next)
    (d__law_one : DefK K "_law_one" s__law_one)
    (d__law_classes : DefK K "_law_classes" s__law_classes)
    (d_law : DefK K "law" s_law)
    (xa_NoRenaming : PySem.W.nsIn K mainGlobals "NoRenaming" = some (some (.ref C_NoRenaming)))
    (xa_NoMatch : PySem.W.nsIn K mainGlobals "NoMatch" = some (some (.ref C_NoMatch)))
    (xa_TooMany : PySem.W.nsIn K mainGlobals "TooMany" = some (some (.ref C_TooMany)))
    (xa_NoPairing : PySem.W.nsIn K mainGlobals "NoPairing" = some (some (.ref C_NoPairing)))
    (xa_NoJoin : PySem.W.nsIn K mainGlobals "NoJoin" = some (some (.ref C_NoJoin)))
    (xa_NoName : PySem.W.nsIn K mainGlobals "NoName" = some (some (.ref C_NoName)))
    (xa_NoLeg : PySem.W.nsIn K mainGlobals "NoLeg" = some (some (.ref C_NoLeg)))
    (xa_NoCounts : PySem.W.nsIn K mainGlobals "NoCounts" = some (some (.ref C_NoCounts)))
    (xa_NoColours : PySem.W.nsIn K mainGlobals "NoColours" = some (some (.ref C_NoColours)))
    (xa_NoNumbers : PySem.W.nsIn K mainGlobals "NoNumbers" = some (some (.ref C_NoNumbers)))
    (xa_NoRow : PySem.W.nsIn K mainGlobals "NoRow" = some (some (.ref C_NoRow)))
    (xa_NoStock : PySem.W.nsIn K mainGlobals "NoStock" = some (some (.ref C_NoStock)))
    (xa_NoDrawing : PySem.W.nsIn K mainGlobals "NoDrawing" = some (some (.ref C_NoDrawing)))
    (xa_NoWeights : PySem.W.nsIn K mainGlobals "NoWeights" = some (some (.ref C_NoWeights)))
    (xa_NoText : PySem.W.nsIn K mainGlobals "NoText" = some (some (.ref C_NoText)))
    (xa_NotThere : PySem.W.nsIn K mainGlobals "NotThere" = some (some (.ref C_NotThere)))
    (xa_EndError : PySem.W.nsIn K mainGlobals "EndError" = some (some (.ref C_EndError)))
    (xq_NoRenaming : PySem.W.excIn K C_NoRenaming [.type "ValueError", .type "Exception", .type "BaseException", .type "object"] "ValueError.__new__" = true)
    (xl_NoRenaming : PySem.W.keepIn K (.ref C_NoRenaming) = true)
    (xq_NoMatch : PySem.W.excIn K C_NoMatch [.type "ValueError", .type "Exception", .type "BaseException", .type "object"] "ValueError.__new__" = true)
    (xl_NoMatch : PySem.W.keepIn K (.ref C_NoMatch) = true)
    (xq_TooMany : PySem.W.excIn K C_TooMany [.type "ValueError", .type "Exception", .type "BaseException", .type "object"] "ValueError.__new__" = true)
    (xl_TooMany : PySem.W.keepIn K (.ref C_TooMany) = true)
    (xq_NoPairing : PySem.W.excIn K C_NoPairing [.type "ValueError", .type "Exception", .type "BaseException", .type "object"] "ValueError.__new__" = true)
    (xl_NoPairing : PySem.W.keepIn K (.ref C_NoPairing) = true)
    (xq_NoJoin : PySem.W.excIn K C_NoJoin [.type "ValueError", .type "Exception", .type "BaseException", .type "object"] "ValueError.__new__" = true)
    (xl_NoJoin : PySem.W.keepIn K (.ref C_NoJoin) = true)
    (xq_NoName : PySem.W.excIn K C_NoName [.type "ValueError", .type "Exception", .type "BaseException", .type "object"] "ValueError.__new__" = true)
    (xl_NoName : PySem.W.keepIn K (.ref C_NoName) = true)
    (xq_NoLeg : PySem.W.excIn K C_NoLeg [.type "ValueError", .type "Exception", .type "BaseException", .type "object"] "ValueError.__new__" = true)
    (xl_NoLeg : PySem.W.keepIn K (.ref C_NoLeg) = true)
    (xq_NoCounts : PySem.W.excIn K C_NoCounts [.type "ValueError", .type "Exception", .type "BaseException", .type "object"] "ValueError.__new__" = true)
    (xl_NoCounts : PySem.W.keepIn K (.ref C_NoCounts) = true)
    (xq_NoColours : PySem.W.excIn K C_NoColours [.type "ValueError", .type "Exception", .type "BaseException", .type "object"] "ValueError.__new__" = true)
    (xl_NoColours : PySem.W.keepIn K (.ref C_NoColours) = true)
    (xq_NoNumbers : PySem.W.excIn K C_NoNumbers [.type "ValueError", .type "Exception", .type "BaseException", .type "object"] "ValueError.__new__" = true)
    (xl_NoNumbers : PySem.W.keepIn K (.ref C_NoNumbers) = true)
    (xq_NoRow : PySem.W.excIn K C_NoRow [.type "ValueError", .type "Exception", .type "BaseException", .type "object"] "ValueError.__new__" = true)
    (xl_NoRow : PySem.W.keepIn K (.ref C_NoRow) = true)
    (xeg_End : PySem.W.specialIn K (.ref C_EndError) "__getattribute__" = some (some (.builtin "type.__getattribute__")))
    (xem_End : PySem.W.typeIn K (.ref C_EndError) = some (.type "type"))
    (xer_End : PySem.W.readsIn K C_EndError (.type "type") = true)
    (xee_End : PySem.W.findCls K (.ref C_EndError) (.type "type") "__init__" = some (.val (.builtin "ValueError.__init__")))
    (xQ_NoDrawing : PySem.W.excInitIn K C_NoDrawing [.type "ValueError", .type "Exception", .type "BaseException", .type "object"] "ValueError.__new__" = true)
    (xu_NoDrawing : PySem.W.findIn K (.ref C_NoDrawing) "__setattr__" = some (some (.builtin "object.__setattr__")))
    (xL_NoDrawing : PySem.W.keepIn K (.ref C_NoDrawing) = true)
    (xz_NoDrawing : PySem.W.findIn K (.ref C_NoDrawing) "part" = some none)
    (xM_NoDrawing : MetK K C_NoDrawing "__init__" "NoDrawing.__init__" s_NoDrawing___init__ f_NoDrawing___init__)
    (xF_NoDrawing : PySem.W.typeIn K (.ref f_NoDrawing___init__) = some (.type "function"))
    (xd_NoDrawing : PySem.W.hasDictIn K C_NoDrawing = true)
    (xQ_NoStock : PySem.W.excInitIn K C_NoStock [.type "ValueError", .type "Exception", .type "BaseException", .type "object"] "ValueError.__new__" = true)
    (xu_NoStock : PySem.W.findIn K (.ref C_NoStock) "__setattr__" = some (some (.builtin "object.__setattr__")))
    (xL_NoStock : PySem.W.keepIn K (.ref C_NoStock) = true)
    (xz_NoStock : PySem.W.findIn K (.ref C_NoStock) "part" = some none)
    (xM_NoStock : MetK K C_NoStock "__init__" "NoStock.__init__" s_NoStock___init__ f_NoStock___init__)
    (xF_NoStock : PySem.W.typeIn K (.ref f_NoStock___init__) = some (.type "function"))
    (xd_NoStock : PySem.W.hasDictIn K C_NoStock = true)
    (xQ_NoText : PySem.W.excInitIn K C_NoText [.type "ValueError", .type "Exception", .type "BaseException", .type "object"] "ValueError.__new__" = true)
    (xu_NoText : PySem.W.findIn K (.ref C_NoText) "__setattr__" = some (some (.builtin "object.__setattr__")))
    (xL_NoText : PySem.W.keepIn K (.ref C_NoText) = true)
    (xz_NoText : PySem.W.findIn K (.ref C_NoText) "at" = some none)
    (xM_NoText : MetK K C_NoText "__init__" "NoText.__init__" s_NoText___init__ f_NoText___init__)
    (xF_NoText : PySem.W.typeIn K (.ref f_NoText___init__) = some (.type "function"))
    (xd_NoText : PySem.W.hasDictIn K C_NoText = true)
    (xQ_NoWeights : PySem.W.excInitIn K C_NoWeights [.type "ValueError", .type "Exception", .type "BaseException", .type "object"] "ValueError.__new__" = true)
    (xu_NoWeights : PySem.W.findIn K (.ref C_NoWeights) "__setattr__" = some (some (.builtin "object.__setattr__")))
    (xL_NoWeights : PySem.W.keepIn K (.ref C_NoWeights) = true)
    (xz_NoWeights : PySem.W.findIn K (.ref C_NoWeights) "part" = some none)
    (xM_NoWeights : MetK K C_NoWeights "__init__" "NoWeights.__init__" s_NoWeights___init__ f_NoWeights___init__)
    (xF_NoWeights : PySem.W.typeIn K (.ref f_NoWeights___init__) = some (.type "function"))
    (xd_NoWeights : PySem.W.hasDictIn K C_NoWeights = true)
    (xQ_NotThere : PySem.W.excInitIn K C_NotThere [.type "ValueError", .type "Exception", .type "BaseException", .type "object"] "ValueError.__new__" = true)
    (xu_NotThere : PySem.W.findIn K (.ref C_NotThere) "__setattr__" = some (some (.builtin "object.__setattr__")))
    (xL_NotThere : PySem.W.keepIn K (.ref C_NotThere) = true)
    (xz_NotThere : PySem.W.findIn K (.ref C_NotThere) "name" = some none)
    (xM_NotThere : MetK K C_NotThere "__init__" "NotThere.__init__" s_NotThere___init__ f_NotThere___init__)
    (xF_NotThere : PySem.W.typeIn K (.ref f_NotThere___init__) = some (.type "function"))
    (xd_NotThere : PySem.W.hasDictIn K C_NotThere = true)
    (xs_NoColours : PySem.W.subIn K (.ref C_NoColours) (.type "BaseException") = some true)
    (xt_NoColours : PySem.W.typeIn K (.ref C_NoColours) = some (.type "type"))
    (xs_NoCounts : PySem.W.subIn K (.ref C_NoCounts) (.type "BaseException") = some true)
    (xt_NoCounts : PySem.W.typeIn K (.ref C_NoCounts) = some (.type "type"))
    (xs_NoDrawing : PySem.W.subIn K (.ref C_NoDrawing) (.type "BaseException") = some true)
    (xt_NoDrawing : PySem.W.typeIn K (.ref C_NoDrawing) = some (.type "type"))
    (xs_NoJoin : PySem.W.subIn K (.ref C_NoJoin) (.type "BaseException") = some true)
    (xt_NoJoin : PySem.W.typeIn K (.ref C_NoJoin) = some (.type "type"))
    (xs_NoLeg : PySem.W.subIn K (.ref C_NoLeg) (.type "BaseException") = some true)
    (xt_NoLeg : PySem.W.typeIn K (.ref C_NoLeg) = some (.type "type"))
    (xs_NoMatch : PySem.W.subIn K (.ref C_NoMatch) (.type "BaseException") = some true)
    (xt_NoMatch : PySem.W.typeIn K (.ref C_NoMatch) = some (.type "type"))
    (xs_NoName : PySem.W.subIn K (.ref C_NoName) (.type "BaseException") = some true)
    (xt_NoName : PySem.W.typeIn K (.ref C_NoName) = some (.type "type"))
    (xs_NoNumbers : PySem.W.subIn K (.ref C_NoNumbers) (.type "BaseException") = some true)
    (xt_NoNumbers : PySem.W.typeIn K (.ref C_NoNumbers) = some (.type "type"))
    (xs_NoPairing : PySem.W.subIn K (.ref C_NoPairing) (.type "BaseException") = some true)
    (xt_NoPairing : PySem.W.typeIn K (.ref C_NoPairing) = some (.type "type"))
    (xs_NoRenaming : PySem.W.subIn K (.ref C_NoRenaming) (.type "BaseException") = some true)
    (xt_NoRenaming : PySem.W.typeIn K (.ref C_NoRenaming) = some (.type "type"))
    (xs_NoRow : PySem.W.subIn K (.ref C_NoRow) (.type "BaseException") = some true)
    (xt_NoRow : PySem.W.typeIn K (.ref C_NoRow) = some (.type "type"))
    (xs_NoStock : PySem.W.subIn K (.ref C_NoStock) (.type "BaseException") = some true)
    (xt_NoStock : PySem.W.typeIn K (.ref C_NoStock) = some (.type "type"))
    (xs_NoText : PySem.W.subIn K (.ref C_NoText) (.type "BaseException") = some true)
    (xt_NoText : PySem.W.typeIn K (.ref C_NoText) = some (.type "type"))
    (xs_NoWeights : PySem.W.subIn K (.ref C_NoWeights) (.type "BaseException") = some true)
    (xt_NoWeights : PySem.W.typeIn K (.ref C_NoWeights) = some (.type "type"))
    (xs_NotThere : PySem.W.subIn K (.ref C_NotThere) (.type "BaseException") = some true)
    (xt_NotThere : PySem.W.typeIn K (.ref C_NotThere) = some (.type "type"))
    (xs_TooMany : PySem.W.subIn K (.ref C_TooMany) (.type "BaseException") = some true)
    (xt_TooMany : PySem.W.typeIn K (.ref C_TooMany) = some (.type "type"))
    (xn : PySem.W.specialIn K (.builtin "object.__class__") "__get__" = some (some (.builtin "getset_descriptor.__get__")))
    (xh : PySem.W.takesIn K (.builtin "object.__class__") = some true)
    (xi_NoStock : PySem.W.findIn K (.ref C_NoStock) "__getattribute__" = some (some (.builtin "BaseException.__getattribute__")))
    (xj_NoStock : PySem.W.findIn K (.ref C_NoStock) "__getattr__" = some none)
    (xf_NoStock : PySem.W.findIn K (.ref C_NoStock) "__class__" = some (some (.builtin "object.__class__")))
    (xo_NoStock : PySem.W.mroIn K C_NoStock (.type "object") = some true)
    (xw_NoStock : PySem.W.kitOne K (.ref C_NoStock) (.type "ValueError") = some true)
    (xW_NoStock : PySem.W.kitOne K (.ref C_NoStock) (.ref C_EndError) = some true)
    (xp_NoStock_NoRenaming : PySem.W.kitOne K (.ref C_NoStock) (.ref C_NoRenaming) = some false)
    (xp_NoStock_NoMatch : PySem.W.kitOne K (.ref C_NoStock) (.ref C_NoMatch) = some false)
    (xp_NoStock_TooMany : PySem.W.kitOne K (.ref C_NoStock) (.ref C_TooMany) = some false)
    (xp_NoStock_NoPairing : PySem.W.kitOne K (.ref C_NoStock) (.ref C_NoPairing) = some false)
    (xp_NoStock_NoJoin : PySem.W.kitOne K (.ref C_NoStock) (.ref C_NoJoin) = some false)
    (xp_NoStock_NoName : PySem.W.kitOne K (.ref C_NoStock) (.ref C_NoName) = some false)
    (xp_NoStock_NoLeg : PySem.W.kitOne K (.ref C_NoStock) (.ref C_NoLeg) = some false)
    (xp_NoStock_NoCounts : PySem.W.kitOne K (.ref C_NoStock) (.ref C_NoCounts) = some false)
    (xp_NoStock_NoColours : PySem.W.kitOne K (.ref C_NoStock) (.ref C_NoColours) = some false)
    (xp_NoStock_NoNumbers : PySem.W.kitOne K (.ref C_NoStock) (.ref C_NoNumbers) = some false)
    (xp_NoStock_NoRow : PySem.W.kitOne K (.ref C_NoStock) (.ref C_NoRow) = some false)
    (xp_NoStock_NoDrawing : PySem.W.kitOne K (.ref C_NoStock) (.ref C_NoDrawing) = some false)
    (xp_NoStock_NoWeights : PySem.W.kitOne K (.ref C_NoStock) (.ref C_NoWeights) = some false)
    (xp_NoStock_NoText : PySem.W.kitOne K (.ref C_NoStock) (.ref C_NoText) = some false)
    (xp_NoStock_NotThere : PySem.W.kitOne K (.ref C_NoStock) (.ref C_NotThere) = some false)
    (xi_NoDrawing : PySem.W.findIn K (.ref C_NoDrawing) "__getattribute__" = some (some (.builtin "BaseException.__getattribute__")))
    (xj_NoDrawing : PySem.W.findIn K (.ref C_NoDrawing) "__getattr__" = some none)
    (xf_NoDrawing : PySem.W.findIn K (.ref C_NoDrawing) "__class__" = some (some (.builtin "object.__class__")))
    (xo_NoDrawing : PySem.W.mroIn K C_NoDrawing (.type "object") = some true)
    (xw_NoDrawing : PySem.W.kitOne K (.ref C_NoDrawing) (.type "ValueError") = some true)
    (xW_NoDrawing : PySem.W.kitOne K (.ref C_NoDrawing) (.ref C_EndError) = some true)
    (xp_NoDrawing_NoRenaming : PySem.W.kitOne K (.ref C_NoDrawing) (.ref C_NoRenaming) = some false)
    (xp_NoDrawing_NoMatch : PySem.W.kitOne K (.ref C_NoDrawing) (.ref C_NoMatch) = some false)
    (xp_NoDrawing_TooMany : PySem.W.kitOne K (.ref C_NoDrawing) (.ref C_TooMany) = some false)
    (xp_NoDrawing_NoPairing : PySem.W.kitOne K (.ref C_NoDrawing) (.ref C_NoPairing) = some false)
    (xp_NoDrawing_NoJoin : PySem.W.kitOne K (.ref C_NoDrawing) (.ref C_NoJoin) = some false)
    (xp_NoDrawing_NoName : PySem.W.kitOne K (.ref C_NoDrawing) (.ref C_NoName) = some false)
    (xp_NoDrawing_NoLeg : PySem.W.kitOne K (.ref C_NoDrawing) (.ref C_NoLeg) = some false)
    (xp_NoDrawing_NoCounts : PySem.W.kitOne K (.ref C_NoDrawing) (.ref C_NoCounts) = some false)
    (xp_NoDrawing_NoColours : PySem.W.kitOne K (.ref C_NoDrawing) (.ref C_NoColours) = some false)
    (xp_NoDrawing_NoNumbers : PySem.W.kitOne K (.ref C_NoDrawing) (.ref C_NoNumbers) = some false)
    (xp_NoDrawing_NoRow : PySem.W.kitOne K (.ref C_NoDrawing) (.ref C_NoRow) = some false)
    (xp_NoDrawing_NoStock : PySem.W.kitOne K (.ref C_NoDrawing) (.ref C_NoStock) = some false)
    (xp_NoDrawing_NoWeights : PySem.W.kitOne K (.ref C_NoDrawing) (.ref C_NoWeights) = some false)
    (xp_NoDrawing_NoText : PySem.W.kitOne K (.ref C_NoDrawing) (.ref C_NoText) = some false)
    (xp_NoDrawing_NotThere : PySem.W.kitOne K (.ref C_NoDrawing) (.ref C_NotThere) = some false)
    (xi_NoRenaming : PySem.W.findIn K (.ref C_NoRenaming) "__getattribute__" = some (some (.builtin "BaseException.__getattribute__")))
    (xj_NoRenaming : PySem.W.findIn K (.ref C_NoRenaming) "__getattr__" = some none)
    (xd_NoRenaming : PySem.W.hasDictIn K C_NoRenaming = true)
    (xf_NoRenaming : PySem.W.findIn K (.ref C_NoRenaming) "__class__" = some (some (.builtin "object.__class__")))
    (xo_NoRenaming : PySem.W.mroIn K C_NoRenaming (.type "object") = some true)
    (xw_NoRenaming : PySem.W.kitOne K (.ref C_NoRenaming) (.type "ValueError") = some true)
    (xW_NoRenaming : PySem.W.kitOne K (.ref C_NoRenaming) (.ref C_EndError) = some true)
    (xp_NoRenaming_NoMatch : PySem.W.kitOne K (.ref C_NoRenaming) (.ref C_NoMatch) = some false)
    (xp_NoRenaming_TooMany : PySem.W.kitOne K (.ref C_NoRenaming) (.ref C_TooMany) = some false)
    (xp_NoRenaming_NoPairing : PySem.W.kitOne K (.ref C_NoRenaming) (.ref C_NoPairing) = some false)
    (xp_NoRenaming_NoJoin : PySem.W.kitOne K (.ref C_NoRenaming) (.ref C_NoJoin) = some false)
    (xp_NoRenaming_NoName : PySem.W.kitOne K (.ref C_NoRenaming) (.ref C_NoName) = some false)
    (xp_NoRenaming_NoLeg : PySem.W.kitOne K (.ref C_NoRenaming) (.ref C_NoLeg) = some false)
    (xp_NoRenaming_NoCounts : PySem.W.kitOne K (.ref C_NoRenaming) (.ref C_NoCounts) = some false)
    (xp_NoRenaming_NoColours : PySem.W.kitOne K (.ref C_NoRenaming) (.ref C_NoColours) = some false)
    (xp_NoRenaming_NoNumbers : PySem.W.kitOne K (.ref C_NoRenaming) (.ref C_NoNumbers) = some false)
    (xp_NoRenaming_NoRow : PySem.W.kitOne K (.ref C_NoRenaming) (.ref C_NoRow) = some false)
    (xp_NoRenaming_NoStock : PySem.W.kitOne K (.ref C_NoRenaming) (.ref C_NoStock) = some false)
    (xp_NoRenaming_NoDrawing : PySem.W.kitOne K (.ref C_NoRenaming) (.ref C_NoDrawing) = some false)
    (xp_NoRenaming_NoWeights : PySem.W.kitOne K (.ref C_NoRenaming) (.ref C_NoWeights) = some false)
    (xp_NoRenaming_NoText : PySem.W.kitOne K (.ref C_NoRenaming) (.ref C_NoText) = some false)
    (xp_NoRenaming_NotThere : PySem.W.kitOne K (.ref C_NoRenaming) (.ref C_NotThere) = some false)
    (xi_NoMatch : PySem.W.findIn K (.ref C_NoMatch) "__getattribute__" = some (some (.builtin "BaseException.__getattribute__")))
    (xj_NoMatch : PySem.W.findIn K (.ref C_NoMatch) "__getattr__" = some none)
    (xd_NoMatch : PySem.W.hasDictIn K C_NoMatch = true)
    (xf_NoMatch : PySem.W.findIn K (.ref C_NoMatch) "__class__" = some (some (.builtin "object.__class__")))
    (xo_NoMatch : PySem.W.mroIn K C_NoMatch (.type "object") = some true)
    (xw_NoMatch : PySem.W.kitOne K (.ref C_NoMatch) (.type "ValueError") = some true)
    (xW_NoMatch : PySem.W.kitOne K (.ref C_NoMatch) (.ref C_EndError) = some true)
    (xp_NoMatch_NoRenaming : PySem.W.kitOne K (.ref C_NoMatch) (.ref C_NoRenaming) = some false)
    (xp_NoMatch_TooMany : PySem.W.kitOne K (.ref C_NoMatch) (.ref C_TooMany) = some false)
    (xp_NoMatch_NoPairing : PySem.W.kitOne K (.ref C_NoMatch) (.ref C_NoPairing) = some false)
    (xp_NoMatch_NoJoin : PySem.W.kitOne K (.ref C_NoMatch) (.ref C_NoJoin) = some false)
    (xp_NoMatch_NoName : PySem.W.kitOne K (.ref C_NoMatch) (.ref C_NoName) = some false)
    (xp_NoMatch_NoLeg : PySem.W.kitOne K (.ref C_NoMatch) (.ref C_NoLeg) = some false)
    (xp_NoMatch_NoCounts : PySem.W.kitOne K (.ref C_NoMatch) (.ref C_NoCounts) = some false)
    (xp_NoMatch_NoColours : PySem.W.kitOne K (.ref C_NoMatch) (.ref C_NoColours) = some false)
    (xp_NoMatch_NoNumbers : PySem.W.kitOne K (.ref C_NoMatch) (.ref C_NoNumbers) = some false)
    (xp_NoMatch_NoRow : PySem.W.kitOne K (.ref C_NoMatch) (.ref C_NoRow) = some false)
    (xp_NoMatch_NoStock : PySem.W.kitOne K (.ref C_NoMatch) (.ref C_NoStock) = some false)
    (xp_NoMatch_NoDrawing : PySem.W.kitOne K (.ref C_NoMatch) (.ref C_NoDrawing) = some false)
    (xp_NoMatch_NoWeights : PySem.W.kitOne K (.ref C_NoMatch) (.ref C_NoWeights) = some false)
    (xp_NoMatch_NoText : PySem.W.kitOne K (.ref C_NoMatch) (.ref C_NoText) = some false)
    (xp_NoMatch_NotThere : PySem.W.kitOne K (.ref C_NoMatch) (.ref C_NotThere) = some false)
    (xi_TooMany : PySem.W.findIn K (.ref C_TooMany) "__getattribute__" = some (some (.builtin "BaseException.__getattribute__")))
    (xj_TooMany : PySem.W.findIn K (.ref C_TooMany) "__getattr__" = some none)
    (xd_TooMany : PySem.W.hasDictIn K C_TooMany = true)
    (xf_TooMany : PySem.W.findIn K (.ref C_TooMany) "__class__" = some (some (.builtin "object.__class__")))
    (xo_TooMany : PySem.W.mroIn K C_TooMany (.type "object") = some true)
    (xw_TooMany : PySem.W.kitOne K (.ref C_TooMany) (.type "ValueError") = some true)
    (xW_TooMany : PySem.W.kitOne K (.ref C_TooMany) (.ref C_EndError) = some true)
    (xp_TooMany_NoRenaming : PySem.W.kitOne K (.ref C_TooMany) (.ref C_NoRenaming) = some false)
    (xp_TooMany_NoMatch : PySem.W.kitOne K (.ref C_TooMany) (.ref C_NoMatch) = some false)
    (xp_TooMany_NoPairing : PySem.W.kitOne K (.ref C_TooMany) (.ref C_NoPairing) = some false)
    (xp_TooMany_NoJoin : PySem.W.kitOne K (.ref C_TooMany) (.ref C_NoJoin) = some false)
    (xp_TooMany_NoName : PySem.W.kitOne K (.ref C_TooMany) (.ref C_NoName) = some false)
    (xp_TooMany_NoLeg : PySem.W.kitOne K (.ref C_TooMany) (.ref C_NoLeg) = some false)
    (xp_TooMany_NoCounts : PySem.W.kitOne K (.ref C_TooMany) (.ref C_NoCounts) = some false)
    (xp_TooMany_NoColours : PySem.W.kitOne K (.ref C_TooMany) (.ref C_NoColours) = some false)
    (xp_TooMany_NoNumbers : PySem.W.kitOne K (.ref C_TooMany) (.ref C_NoNumbers) = some false)
    (xp_TooMany_NoRow : PySem.W.kitOne K (.ref C_TooMany) (.ref C_NoRow) = some false)
    (xp_TooMany_NoStock : PySem.W.kitOne K (.ref C_TooMany) (.ref C_NoStock) = some false)
    (xp_TooMany_NoDrawing : PySem.W.kitOne K (.ref C_TooMany) (.ref C_NoDrawing) = some false)
    (xp_TooMany_NoWeights : PySem.W.kitOne K (.ref C_TooMany) (.ref C_NoWeights) = some false)
    (xp_TooMany_NoText : PySem.W.kitOne K (.ref C_TooMany) (.ref C_NoText) = some false)
    (xp_TooMany_NotThere : PySem.W.kitOne K (.ref C_TooMany) (.ref C_NotThere) = some false)
    (xi_NoPairing : PySem.W.findIn K (.ref C_NoPairing) "__getattribute__" = some (some (.builtin "BaseException.__getattribute__")))
    (xj_NoPairing : PySem.W.findIn K (.ref C_NoPairing) "__getattr__" = some none)
    (xd_NoPairing : PySem.W.hasDictIn K C_NoPairing = true)
    (xf_NoPairing : PySem.W.findIn K (.ref C_NoPairing) "__class__" = some (some (.builtin "object.__class__")))
    (xo_NoPairing : PySem.W.mroIn K C_NoPairing (.type "object") = some true)
    (xw_NoPairing : PySem.W.kitOne K (.ref C_NoPairing) (.type "ValueError") = some true)
    (xW_NoPairing : PySem.W.kitOne K (.ref C_NoPairing) (.ref C_EndError) = some true)
    (xp_NoPairing_NoRenaming : PySem.W.kitOne K (.ref C_NoPairing) (.ref C_NoRenaming) = some false)
    (xp_NoPairing_NoMatch : PySem.W.kitOne K (.ref C_NoPairing) (.ref C_NoMatch) = some false)
    (xp_NoPairing_TooMany : PySem.W.kitOne K (.ref C_NoPairing) (.ref C_TooMany) = some false)
    (xp_NoPairing_NoJoin : PySem.W.kitOne K (.ref C_NoPairing) (.ref C_NoJoin) = some false)
    (xp_NoPairing_NoName : PySem.W.kitOne K (.ref C_NoPairing) (.ref C_NoName) = some false)
    (xp_NoPairing_NoLeg : PySem.W.kitOne K (.ref C_NoPairing) (.ref C_NoLeg) = some false)
    (xp_NoPairing_NoCounts : PySem.W.kitOne K (.ref C_NoPairing) (.ref C_NoCounts) = some false)
    (xp_NoPairing_NoColours : PySem.W.kitOne K (.ref C_NoPairing) (.ref C_NoColours) = some false)
    (xp_NoPairing_NoNumbers : PySem.W.kitOne K (.ref C_NoPairing) (.ref C_NoNumbers) = some false)
    (xp_NoPairing_NoRow : PySem.W.kitOne K (.ref C_NoPairing) (.ref C_NoRow) = some false)
    (xp_NoPairing_NoStock : PySem.W.kitOne K (.ref C_NoPairing) (.ref C_NoStock) = some false)
    (xp_NoPairing_NoDrawing : PySem.W.kitOne K (.ref C_NoPairing) (.ref C_NoDrawing) = some false)
    (xp_NoPairing_NoWeights : PySem.W.kitOne K (.ref C_NoPairing) (.ref C_NoWeights) = some false)
    (xp_NoPairing_NoText : PySem.W.kitOne K (.ref C_NoPairing) (.ref C_NoText) = some false)
    (xp_NoPairing_NotThere : PySem.W.kitOne K (.ref C_NoPairing) (.ref C_NotThere) = some false)
    (xi_NoJoin : PySem.W.findIn K (.ref C_NoJoin) "__getattribute__" = some (some (.builtin "BaseException.__getattribute__")))
    (xj_NoJoin : PySem.W.findIn K (.ref C_NoJoin) "__getattr__" = some none)
    (xd_NoJoin : PySem.W.hasDictIn K C_NoJoin = true)
    (xf_NoJoin : PySem.W.findIn K (.ref C_NoJoin) "__class__" = some (some (.builtin "object.__class__")))
    (xo_NoJoin : PySem.W.mroIn K C_NoJoin (.type "object") = some true)
    (xw_NoJoin : PySem.W.kitOne K (.ref C_NoJoin) (.type "ValueError") = some true)
    (xW_NoJoin : PySem.W.kitOne K (.ref C_NoJoin) (.ref C_EndError) = some true)
    (xp_NoJoin_NoRenaming : PySem.W.kitOne K (.ref C_NoJoin) (.ref C_NoRenaming) = some false)
    (xp_NoJoin_NoMatch : PySem.W.kitOne K (.ref C_NoJoin) (.ref C_NoMatch) = some false)
    (xp_NoJoin_TooMany : PySem.W.kitOne K (.ref C_NoJoin) (.ref C_TooMany) = some false)
    (xp_NoJoin_NoPairing : PySem.W.kitOne K (.ref C_NoJoin) (.ref C_NoPairing) = some false)
    (xp_NoJoin_NoName : PySem.W.kitOne K (.ref C_NoJoin) (.ref C_NoName) = some false)
    (xp_NoJoin_NoLeg : PySem.W.kitOne K (.ref C_NoJoin) (.ref C_NoLeg) = some false)
    (xp_NoJoin_NoCounts : PySem.W.kitOne K (.ref C_NoJoin) (.ref C_NoCounts) = some false)
    (xp_NoJoin_NoColours : PySem.W.kitOne K (.ref C_NoJoin) (.ref C_NoColours) = some false)
    (xp_NoJoin_NoNumbers : PySem.W.kitOne K (.ref C_NoJoin) (.ref C_NoNumbers) = some false)
    (xp_NoJoin_NoRow : PySem.W.kitOne K (.ref C_NoJoin) (.ref C_NoRow) = some false)
    (xp_NoJoin_NoStock : PySem.W.kitOne K (.ref C_NoJoin) (.ref C_NoStock) = some false)
    (xp_NoJoin_NoDrawing : PySem.W.kitOne K (.ref C_NoJoin) (.ref C_NoDrawing) = some false)
    (xp_NoJoin_NoWeights : PySem.W.kitOne K (.ref C_NoJoin) (.ref C_NoWeights) = some false)
    (xp_NoJoin_NoText : PySem.W.kitOne K (.ref C_NoJoin) (.ref C_NoText) = some false)
    (xp_NoJoin_NotThere : PySem.W.kitOne K (.ref C_NoJoin) (.ref C_NotThere) = some false)
    (xi_NoName : PySem.W.findIn K (.ref C_NoName) "__getattribute__" = some (some (.builtin "BaseException.__getattribute__")))
    (xj_NoName : PySem.W.findIn K (.ref C_NoName) "__getattr__" = some none)
    (xd_NoName : PySem.W.hasDictIn K C_NoName = true)
    (xf_NoName : PySem.W.findIn K (.ref C_NoName) "__class__" = some (some (.builtin "object.__class__")))
    (xo_NoName : PySem.W.mroIn K C_NoName (.type "object") = some true)
    (xw_NoName : PySem.W.kitOne K (.ref C_NoName) (.type "ValueError") = some true)
    (xW_NoName : PySem.W.kitOne K (.ref C_NoName) (.ref C_EndError) = some true)
    (xp_NoName_NoRenaming : PySem.W.kitOne K (.ref C_NoName) (.ref C_NoRenaming) = some false)
    (xp_NoName_NoMatch : PySem.W.kitOne K (.ref C_NoName) (.ref C_NoMatch) = some false)
    (xp_NoName_TooMany : PySem.W.kitOne K (.ref C_NoName) (.ref C_TooMany) = some false)
    (xp_NoName_NoPairing : PySem.W.kitOne K (.ref C_NoName) (.ref C_NoPairing) = some false)
    (xp_NoName_NoJoin : PySem.W.kitOne K (.ref C_NoName) (.ref C_NoJoin) = some false)
    (xp_NoName_NoLeg : PySem.W.kitOne K (.ref C_NoName) (.ref C_NoLeg) = some false)
    (xp_NoName_NoCounts : PySem.W.kitOne K (.ref C_NoName) (.ref C_NoCounts) = some false)
    (xp_NoName_NoColours : PySem.W.kitOne K (.ref C_NoName) (.ref C_NoColours) = some false)
    (xp_NoName_NoNumbers : PySem.W.kitOne K (.ref C_NoName) (.ref C_NoNumbers) = some false)
    (xp_NoName_NoRow : PySem.W.kitOne K (.ref C_NoName) (.ref C_NoRow) = some false)
    (xp_NoName_NoStock : PySem.W.kitOne K (.ref C_NoName) (.ref C_NoStock) = some false)
    (xp_NoName_NoDrawing : PySem.W.kitOne K (.ref C_NoName) (.ref C_NoDrawing) = some false)
    (xp_NoName_NoWeights : PySem.W.kitOne K (.ref C_NoName) (.ref C_NoWeights) = some false)
    (xp_NoName_NoText : PySem.W.kitOne K (.ref C_NoName) (.ref C_NoText) = some false)
    (xp_NoName_NotThere : PySem.W.kitOne K (.ref C_NoName) (.ref C_NotThere) = some false)
    (xi_NoLeg : PySem.W.findIn K (.ref C_NoLeg) "__getattribute__" = some (some (.builtin "BaseException.__getattribute__")))
    (xj_NoLeg : PySem.W.findIn K (.ref C_NoLeg) "__getattr__" = some none)
    (xd_NoLeg : PySem.W.hasDictIn K C_NoLeg = true)
    (xf_NoLeg : PySem.W.findIn K (.ref C_NoLeg) "__class__" = some (some (.builtin "object.__class__")))
    (xo_NoLeg : PySem.W.mroIn K C_NoLeg (.type "object") = some true)
    (xw_NoLeg : PySem.W.kitOne K (.ref C_NoLeg) (.type "ValueError") = some true)
    (xW_NoLeg : PySem.W.kitOne K (.ref C_NoLeg) (.ref C_EndError) = some true)
    (xp_NoLeg_NoRenaming : PySem.W.kitOne K (.ref C_NoLeg) (.ref C_NoRenaming) = some false)
    (xp_NoLeg_NoMatch : PySem.W.kitOne K (.ref C_NoLeg) (.ref C_NoMatch) = some false)
    (xp_NoLeg_TooMany : PySem.W.kitOne K (.ref C_NoLeg) (.ref C_TooMany) = some false)
    (xp_NoLeg_NoPairing : PySem.W.kitOne K (.ref C_NoLeg) (.ref C_NoPairing) = some false)
    (xp_NoLeg_NoJoin : PySem.W.kitOne K (.ref C_NoLeg) (.ref C_NoJoin) = some false)
    (xp_NoLeg_NoName : PySem.W.kitOne K (.ref C_NoLeg) (.ref C_NoName) = some false)
    (xp_NoLeg_NoCounts : PySem.W.kitOne K (.ref C_NoLeg) (.ref C_NoCounts) = some false)
    (xp_NoLeg_NoColours : PySem.W.kitOne K (.ref C_NoLeg) (.ref C_NoColours) = some false)
    (xp_NoLeg_NoNumbers : PySem.W.kitOne K (.ref C_NoLeg) (.ref C_NoNumbers) = some false)
    (xp_NoLeg_NoRow : PySem.W.kitOne K (.ref C_NoLeg) (.ref C_NoRow) = some false)
    (xp_NoLeg_NoStock : PySem.W.kitOne K (.ref C_NoLeg) (.ref C_NoStock) = some false)
    (xp_NoLeg_NoDrawing : PySem.W.kitOne K (.ref C_NoLeg) (.ref C_NoDrawing) = some false)
    (xp_NoLeg_NoWeights : PySem.W.kitOne K (.ref C_NoLeg) (.ref C_NoWeights) = some false)
    (xp_NoLeg_NoText : PySem.W.kitOne K (.ref C_NoLeg) (.ref C_NoText) = some false)
    (xp_NoLeg_NotThere : PySem.W.kitOne K (.ref C_NoLeg) (.ref C_NotThere) = some false)
    (xi_NoCounts : PySem.W.findIn K (.ref C_NoCounts) "__getattribute__" = some (some (.builtin "BaseException.__getattribute__")))
    (xj_NoCounts : PySem.W.findIn K (.ref C_NoCounts) "__getattr__" = some none)
    (xd_NoCounts : PySem.W.hasDictIn K C_NoCounts = true)
    (xf_NoCounts : PySem.W.findIn K (.ref C_NoCounts) "__class__" = some (some (.builtin "object.__class__")))
    (xo_NoCounts : PySem.W.mroIn K C_NoCounts (.type "object") = some true)
    (xw_NoCounts : PySem.W.kitOne K (.ref C_NoCounts) (.type "ValueError") = some true)
    (xW_NoCounts : PySem.W.kitOne K (.ref C_NoCounts) (.ref C_EndError) = some true)
    (xp_NoCounts_NoRenaming : PySem.W.kitOne K (.ref C_NoCounts) (.ref C_NoRenaming) = some false)
    (xp_NoCounts_NoMatch : PySem.W.kitOne K (.ref C_NoCounts) (.ref C_NoMatch) = some false)
    (xp_NoCounts_TooMany : PySem.W.kitOne K (.ref C_NoCounts) (.ref C_TooMany) = some false)
    (xp_NoCounts_NoPairing : PySem.W.kitOne K (.ref C_NoCounts) (.ref C_NoPairing) = some false)
    (xp_NoCounts_NoJoin : PySem.W.kitOne K (.ref C_NoCounts) (.ref C_NoJoin) = some false)
    (xp_NoCounts_NoName : PySem.W.kitOne K (.ref C_NoCounts) (.ref C_NoName) = some false)
    (xp_NoCounts_NoLeg : PySem.W.kitOne K (.ref C_NoCounts) (.ref C_NoLeg) = some false)
    (xp_NoCounts_NoColours : PySem.W.kitOne K (.ref C_NoCounts) (.ref C_NoColours) = some false)
    (xp_NoCounts_NoNumbers : PySem.W.kitOne K (.ref C_NoCounts) (.ref C_NoNumbers) = some false)
    (xp_NoCounts_NoRow : PySem.W.kitOne K (.ref C_NoCounts) (.ref C_NoRow) = some false)
    (xp_NoCounts_NoStock : PySem.W.kitOne K (.ref C_NoCounts) (.ref C_NoStock) = some false)
    (xp_NoCounts_NoDrawing : PySem.W.kitOne K (.ref C_NoCounts) (.ref C_NoDrawing) = some false)
    (xp_NoCounts_NoWeights : PySem.W.kitOne K (.ref C_NoCounts) (.ref C_NoWeights) = some false)
    (xp_NoCounts_NoText : PySem.W.kitOne K (.ref C_NoCounts) (.ref C_NoText) = some false)
    (xp_NoCounts_NotThere : PySem.W.kitOne K (.ref C_NoCounts) (.ref C_NotThere) = some false)
    (xi_NoWeights : PySem.W.findIn K (.ref C_NoWeights) "__getattribute__" = some (some (.builtin "BaseException.__getattribute__")))
    (xj_NoWeights : PySem.W.findIn K (.ref C_NoWeights) "__getattr__" = some none)
    (xf_NoWeights : PySem.W.findIn K (.ref C_NoWeights) "__class__" = some (some (.builtin "object.__class__")))
    (xo_NoWeights : PySem.W.mroIn K C_NoWeights (.type "object") = some true)
    (xw_NoWeights : PySem.W.kitOne K (.ref C_NoWeights) (.type "ValueError") = some true)
    (xW_NoWeights : PySem.W.kitOne K (.ref C_NoWeights) (.ref C_EndError) = some true)
    (xp_NoWeights_NoRenaming : PySem.W.kitOne K (.ref C_NoWeights) (.ref C_NoRenaming) = some false)
    (xp_NoWeights_NoMatch : PySem.W.kitOne K (.ref C_NoWeights) (.ref C_NoMatch) = some false)
    (xp_NoWeights_TooMany : PySem.W.kitOne K (.ref C_NoWeights) (.ref C_TooMany) = some false)
    (xp_NoWeights_NoPairing : PySem.W.kitOne K (.ref C_NoWeights) (.ref C_NoPairing) = some false)
    (xp_NoWeights_NoJoin : PySem.W.kitOne K (.ref C_NoWeights) (.ref C_NoJoin) = some false)
    (xp_NoWeights_NoName : PySem.W.kitOne K (.ref C_NoWeights) (.ref C_NoName) = some false)
    (xp_NoWeights_NoLeg : PySem.W.kitOne K (.ref C_NoWeights) (.ref C_NoLeg) = some false)
    (xp_NoWeights_NoCounts : PySem.W.kitOne K (.ref C_NoWeights) (.ref C_NoCounts) = some false)
    (xp_NoWeights_NoColours : PySem.W.kitOne K (.ref C_NoWeights) (.ref C_NoColours) = some false)
    (xp_NoWeights_NoNumbers : PySem.W.kitOne K (.ref C_NoWeights) (.ref C_NoNumbers) = some false)
    (xp_NoWeights_NoRow : PySem.W.kitOne K (.ref C_NoWeights) (.ref C_NoRow) = some false)
    (xp_NoWeights_NoStock : PySem.W.kitOne K (.ref C_NoWeights) (.ref C_NoStock) = some false)
    (xp_NoWeights_NoDrawing : PySem.W.kitOne K (.ref C_NoWeights) (.ref C_NoDrawing) = some false)
    (xp_NoWeights_NoText : PySem.W.kitOne K (.ref C_NoWeights) (.ref C_NoText) = some false)
    (xp_NoWeights_NotThere : PySem.W.kitOne K (.ref C_NoWeights) (.ref C_NotThere) = some false)
    (xi_NoColours : PySem.W.findIn K (.ref C_NoColours) "__getattribute__" = some (some (.builtin "BaseException.__getattribute__")))
    (xj_NoColours : PySem.W.findIn K (.ref C_NoColours) "__getattr__" = some none)
    (xd_NoColours : PySem.W.hasDictIn K C_NoColours = true)
    (xf_NoColours : PySem.W.findIn K (.ref C_NoColours) "__class__" = some (some (.builtin "object.__class__")))
    (xo_NoColours : PySem.W.mroIn K C_NoColours (.type "object") = some true)
    (xw_NoColours : PySem.W.kitOne K (.ref C_NoColours) (.type "ValueError") = some true)
    (xW_NoColours : PySem.W.kitOne K (.ref C_NoColours) (.ref C_EndError) = some true)
    (xp_NoColours_NoRenaming : PySem.W.kitOne K (.ref C_NoColours) (.ref C_NoRenaming) = some false)
    (xp_NoColours_NoMatch : PySem.W.kitOne K (.ref C_NoColours) (.ref C_NoMatch) = some false)
    (xp_NoColours_TooMany : PySem.W.kitOne K (.ref C_NoColours) (.ref C_TooMany) = some false)
    (xp_NoColours_NoPairing : PySem.W.kitOne K (.ref C_NoColours) (.ref C_NoPairing) = some false)
    (xp_NoColours_NoJoin : PySem.W.kitOne K (.ref C_NoColours) (.ref C_NoJoin) = some false)
    (xp_NoColours_NoName : PySem.W.kitOne K (.ref C_NoColours) (.ref C_NoName) = some false)
    (xp_NoColours_NoLeg : PySem.W.kitOne K (.ref C_NoColours) (.ref C_NoLeg) = some false)
    (xp_NoColours_NoCounts : PySem.W.kitOne K (.ref C_NoColours) (.ref C_NoCounts) = some false)
    (xp_NoColours_NoNumbers : PySem.W.kitOne K (.ref C_NoColours) (.ref C_NoNumbers) = some false)
    (xp_NoColours_NoRow : PySem.W.kitOne K (.ref C_NoColours) (.ref C_NoRow) = some false)
    (xp_NoColours_NoStock : PySem.W.kitOne K (.ref C_NoColours) (.ref C_NoStock) = some false)
    (xp_NoColours_NoDrawing : PySem.W.kitOne K (.ref C_NoColours) (.ref C_NoDrawing) = some false)
    (xp_NoColours_NoWeights : PySem.W.kitOne K (.ref C_NoColours) (.ref C_NoWeights) = some false)
    (xp_NoColours_NoText : PySem.W.kitOne K (.ref C_NoColours) (.ref C_NoText) = some false)
    (xp_NoColours_NotThere : PySem.W.kitOne K (.ref C_NoColours) (.ref C_NotThere) = some false)
    (xi_NoNumbers : PySem.W.findIn K (.ref C_NoNumbers) "__getattribute__" = some (some (.builtin "BaseException.__getattribute__")))
    (xj_NoNumbers : PySem.W.findIn K (.ref C_NoNumbers) "__getattr__" = some none)
    (xd_NoNumbers : PySem.W.hasDictIn K C_NoNumbers = true)
    (xf_NoNumbers : PySem.W.findIn K (.ref C_NoNumbers) "__class__" = some (some (.builtin "object.__class__")))
    (xo_NoNumbers : PySem.W.mroIn K C_NoNumbers (.type "object") = some true)
    (xw_NoNumbers : PySem.W.kitOne K (.ref C_NoNumbers) (.type "ValueError") = some true)
    (xW_NoNumbers : PySem.W.kitOne K (.ref C_NoNumbers) (.ref C_EndError) = some true)
    (xp_NoNumbers_NoRenaming : PySem.W.kitOne K (.ref C_NoNumbers) (.ref C_NoRenaming) = some false)
    (xp_NoNumbers_NoMatch : PySem.W.kitOne K (.ref C_NoNumbers) (.ref C_NoMatch) = some false)
    (xp_NoNumbers_TooMany : PySem.W.kitOne K (.ref C_NoNumbers) (.ref C_TooMany) = some false)
    (xp_NoNumbers_NoPairing : PySem.W.kitOne K (.ref C_NoNumbers) (.ref C_NoPairing) = some false)
    (xp_NoNumbers_NoJoin : PySem.W.kitOne K (.ref C_NoNumbers) (.ref C_NoJoin) = some false)
    (xp_NoNumbers_NoName : PySem.W.kitOne K (.ref C_NoNumbers) (.ref C_NoName) = some false)
    (xp_NoNumbers_NoLeg : PySem.W.kitOne K (.ref C_NoNumbers) (.ref C_NoLeg) = some false)
    (xp_NoNumbers_NoCounts : PySem.W.kitOne K (.ref C_NoNumbers) (.ref C_NoCounts) = some false)
    (xp_NoNumbers_NoColours : PySem.W.kitOne K (.ref C_NoNumbers) (.ref C_NoColours) = some false)
    (xp_NoNumbers_NoRow : PySem.W.kitOne K (.ref C_NoNumbers) (.ref C_NoRow) = some false)
    (xp_NoNumbers_NoStock : PySem.W.kitOne K (.ref C_NoNumbers) (.ref C_NoStock) = some false)
    (xp_NoNumbers_NoDrawing : PySem.W.kitOne K (.ref C_NoNumbers) (.ref C_NoDrawing) = some false)
    (xp_NoNumbers_NoWeights : PySem.W.kitOne K (.ref C_NoNumbers) (.ref C_NoWeights) = some false)
    (xp_NoNumbers_NoText : PySem.W.kitOne K (.ref C_NoNumbers) (.ref C_NoText) = some false)
    (xp_NoNumbers_NotThere : PySem.W.kitOne K (.ref C_NoNumbers) (.ref C_NotThere) = some false)
    (xi_NoText : PySem.W.findIn K (.ref C_NoText) "__getattribute__" = some (some (.builtin "BaseException.__getattribute__")))
    (xj_NoText : PySem.W.findIn K (.ref C_NoText) "__getattr__" = some none)
    (xf_NoText : PySem.W.findIn K (.ref C_NoText) "__class__" = some (some (.builtin "object.__class__")))
    (xo_NoText : PySem.W.mroIn K C_NoText (.type "object") = some true)
    (xw_NoText : PySem.W.kitOne K (.ref C_NoText) (.type "ValueError") = some true)
    (xW_NoText : PySem.W.kitOne K (.ref C_NoText) (.ref C_EndError) = some true)
    (xp_NoText_NoRenaming : PySem.W.kitOne K (.ref C_NoText) (.ref C_NoRenaming) = some false)
    (xp_NoText_NoMatch : PySem.W.kitOne K (.ref C_NoText) (.ref C_NoMatch) = some false)
    (xp_NoText_TooMany : PySem.W.kitOne K (.ref C_NoText) (.ref C_TooMany) = some false)
    (xp_NoText_NoPairing : PySem.W.kitOne K (.ref C_NoText) (.ref C_NoPairing) = some false)
    (xp_NoText_NoJoin : PySem.W.kitOne K (.ref C_NoText) (.ref C_NoJoin) = some false)
    (xp_NoText_NoName : PySem.W.kitOne K (.ref C_NoText) (.ref C_NoName) = some false)
    (xp_NoText_NoLeg : PySem.W.kitOne K (.ref C_NoText) (.ref C_NoLeg) = some false)
    (xp_NoText_NoCounts : PySem.W.kitOne K (.ref C_NoText) (.ref C_NoCounts) = some false)
    (xp_NoText_NoColours : PySem.W.kitOne K (.ref C_NoText) (.ref C_NoColours) = some false)
    (xp_NoText_NoNumbers : PySem.W.kitOne K (.ref C_NoText) (.ref C_NoNumbers) = some false)
    (xp_NoText_NoRow : PySem.W.kitOne K (.ref C_NoText) (.ref C_NoRow) = some false)
    (xp_NoText_NoStock : PySem.W.kitOne K (.ref C_NoText) (.ref C_NoStock) = some false)
    (xp_NoText_NoDrawing : PySem.W.kitOne K (.ref C_NoText) (.ref C_NoDrawing) = some false)
    (xp_NoText_NoWeights : PySem.W.kitOne K (.ref C_NoText) (.ref C_NoWeights) = some false)
    (xp_NoText_NotThere : PySem.W.kitOne K (.ref C_NoText) (.ref C_NotThere) = some false)
    (xi_NoRow : PySem.W.findIn K (.ref C_NoRow) "__getattribute__" = some (some (.builtin "BaseException.__getattribute__")))
    (xj_NoRow : PySem.W.findIn K (.ref C_NoRow) "__getattr__" = some none)
    (xd_NoRow : PySem.W.hasDictIn K C_NoRow = true)
    (xf_NoRow : PySem.W.findIn K (.ref C_NoRow) "__class__" = some (some (.builtin "object.__class__")))
    (xo_NoRow : PySem.W.mroIn K C_NoRow (.type "object") = some true)
    (xw_NoRow : PySem.W.kitOne K (.ref C_NoRow) (.type "ValueError") = some true)
    (xW_NoRow : PySem.W.kitOne K (.ref C_NoRow) (.ref C_EndError) = some true)
    (xp_NoRow_NoRenaming : PySem.W.kitOne K (.ref C_NoRow) (.ref C_NoRenaming) = some false)
    (xp_NoRow_NoMatch : PySem.W.kitOne K (.ref C_NoRow) (.ref C_NoMatch) = some false)
    (xp_NoRow_TooMany : PySem.W.kitOne K (.ref C_NoRow) (.ref C_TooMany) = some false)
    (xp_NoRow_NoPairing : PySem.W.kitOne K (.ref C_NoRow) (.ref C_NoPairing) = some false)
    (xp_NoRow_NoJoin : PySem.W.kitOne K (.ref C_NoRow) (.ref C_NoJoin) = some false)
    (xp_NoRow_NoName : PySem.W.kitOne K (.ref C_NoRow) (.ref C_NoName) = some false)
    (xp_NoRow_NoLeg : PySem.W.kitOne K (.ref C_NoRow) (.ref C_NoLeg) = some false)
    (xp_NoRow_NoCounts : PySem.W.kitOne K (.ref C_NoRow) (.ref C_NoCounts) = some false)
    (xp_NoRow_NoColours : PySem.W.kitOne K (.ref C_NoRow) (.ref C_NoColours) = some false)
    (xp_NoRow_NoNumbers : PySem.W.kitOne K (.ref C_NoRow) (.ref C_NoNumbers) = some false)
    (xp_NoRow_NoStock : PySem.W.kitOne K (.ref C_NoRow) (.ref C_NoStock) = some false)
    (xp_NoRow_NoDrawing : PySem.W.kitOne K (.ref C_NoRow) (.ref C_NoDrawing) = some false)
    (xp_NoRow_NoWeights : PySem.W.kitOne K (.ref C_NoRow) (.ref C_NoWeights) = some false)
    (xp_NoRow_NoText : PySem.W.kitOne K (.ref C_NoRow) (.ref C_NoText) = some false)
    (xp_NoRow_NotThere : PySem.W.kitOne K (.ref C_NoRow) (.ref C_NotThere) = some false)
    (xi_NotThere : PySem.W.findIn K (.ref C_NotThere) "__getattribute__" = some (some (.builtin "BaseException.__getattribute__")))
    (xj_NotThere : PySem.W.findIn K (.ref C_NotThere) "__getattr__" = some none)
    (xf_NotThere : PySem.W.findIn K (.ref C_NotThere) "__class__" = some (some (.builtin "object.__class__")))
    (xo_NotThere : PySem.W.mroIn K C_NotThere (.type "object") = some true)
    (xw_NotThere : PySem.W.kitOne K (.ref C_NotThere) (.type "ValueError") = some true)
    (xW_NotThere : PySem.W.kitOne K (.ref C_NotThere) (.ref C_EndError) = some true)
    (xp_NotThere_NoRenaming : PySem.W.kitOne K (.ref C_NotThere) (.ref C_NoRenaming) = some false)
    (xp_NotThere_NoMatch : PySem.W.kitOne K (.ref C_NotThere) (.ref C_NoMatch) = some false)
    (xp_NotThere_TooMany : PySem.W.kitOne K (.ref C_NotThere) (.ref C_TooMany) = some false)
    (xp_NotThere_NoPairing : PySem.W.kitOne K (.ref C_NotThere) (.ref C_NoPairing) = some false)
    (xp_NotThere_NoJoin : PySem.W.kitOne K (.ref C_NotThere) (.ref C_NoJoin) = some false)
    (xp_NotThere_NoName : PySem.W.kitOne K (.ref C_NotThere) (.ref C_NoName) = some false)
    (xp_NotThere_NoLeg : PySem.W.kitOne K (.ref C_NotThere) (.ref C_NoLeg) = some false)
    (xp_NotThere_NoCounts : PySem.W.kitOne K (.ref C_NotThere) (.ref C_NoCounts) = some false)
    (xp_NotThere_NoColours : PySem.W.kitOne K (.ref C_NotThere) (.ref C_NoColours) = some false)
    (xp_NotThere_NoNumbers : PySem.W.kitOne K (.ref C_NotThere) (.ref C_NoNumbers) = some false)
    (xp_NotThere_NoRow : PySem.W.kitOne K (.ref C_NotThere) (.ref C_NoRow) = some false)
    (xp_NotThere_NoStock : PySem.W.kitOne K (.ref C_NotThere) (.ref C_NoStock) = some false)
    (xp_NotThere_NoDrawing : PySem.W.kitOne K (.ref C_NotThere) (.ref C_NoDrawing) = some false)
    (xp_NotThere_NoWeights : PySem.W.kitOne K (.ref C_NotThere) (.ref C_NoWeights) = some false)
    (xp_NotThere_NoText : PySem.W.kitOne K (.ref C_NotThere) (.ref C_NoText) = some false)
    (hm : ∀ c, lawOk (m_law c) 9) :
    ∃ fd : FuncData, (∀ (s : Shared) (v : Value), BindsTo s fd ⟨[v], []⟩ [("_law_script", v)]) ∧ ∀ base : Heap, K.In base → base.Ns mainGlobals mg → FnOk P w K mg base CX0 3 fa fd ["_law_script"] (spLawD K) := by
  obtain ⟨f, fd, h1, h2, h3, kV, dc, pm, an, cd, ct, rfl⟩ := d_law.ex
  have e := hfa.symm.trans (PySem.W.mg_of X G h1)
  cases e
  have T : Txt K mg (Cs.mk 0 0 0 0 (fun n => ([C_EndError, C_NoStock, C_NoDrawing, C_NoRenaming, C_NoMatch, C_TooMany, C_NoPairing, C_NoJoin, C_NoName, C_NoLeg, C_NoCounts, C_NoWeights, C_NoColours, C_NoNumbers, C_NoText, C_NoRow, C_NotThere] : List Addr).getD n 0) w) := ⟨PySem.W.mg_none_of X G z_ValueError,
    PySem.W.mg_none_of X G z_enumerate,
    PySem.W.mg_none_of X G z_int,
    PySem.W.mg_none_of X G z_isinstance,
    PySem.W.mg_none_of X G z_len,
    PySem.W.mg_none_of X G z_range,
    PySem.W.mg_of X G xa_NoRenaming,
    PySem.W.mg_of X G xa_NoMatch,
    PySem.W.mg_of X G xa_TooMany,
    PySem.W.mg_of X G xa_NoPairing,
    PySem.W.mg_of X G xa_NoJoin,
    PySem.W.mg_of X G xa_NoName,
    PySem.W.mg_of X G xa_NoLeg,
    PySem.W.mg_of X G xa_NoCounts,
    PySem.W.mg_of X G xa_NoColours,
    PySem.W.mg_of X G xa_NoNumbers,
    PySem.W.mg_of X G xa_NoRow,
    PySem.W.mg_of X G xa_NoStock,
    PySem.W.mg_of X G xa_NoDrawing,
    PySem.W.mg_of X G xa_NoWeights,
    PySem.W.mg_of X G xa_NoText,
    PySem.W.mg_of X G xa_NotThere,
    PySem.W.mg_of X G xa_EndError,
    ⟨xq_NoRenaming, xl_NoRenaming, xs_NoRenaming, xt_NoRenaming⟩,
    ⟨xq_NoMatch, xl_NoMatch, xs_NoMatch, xt_NoMatch⟩,
    ⟨xq_TooMany, xl_TooMany, xs_TooMany, xt_TooMany⟩,
    ⟨xq_NoPairing, xl_NoPairing, xs_NoPairing, xt_NoPairing⟩,
    ⟨xq_NoJoin, xl_NoJoin, xs_NoJoin, xt_NoJoin⟩,
    ⟨xq_NoName, xl_NoName, xs_NoName, xt_NoName⟩,
    ⟨xq_NoLeg, xl_NoLeg, xs_NoLeg, xt_NoLeg⟩,
    ⟨xq_NoCounts, xl_NoCounts, xs_NoCounts, xt_NoCounts⟩,
    ⟨xq_NoColours, xl_NoColours, xs_NoColours, xt_NoColours⟩,
    ⟨xq_NoNumbers, xl_NoNumbers, xs_NoNumbers, xt_NoNumbers⟩,
    ⟨xq_NoRow, xl_NoRow, xs_NoRow, xt_NoRow⟩,
    (fun tg h => by
      simp only [List.mem_cons, List.not_mem_nil, or_false] at h
      rcases h with rfl | rfl | rfl | rfl | rfl | rfl | rfl | rfl | rfl | rfl | rfl | rfl | rfl | rfl | rfl | rfl
      · exact ⟨⟨xi_NoStock, xj_NoStock, xs_NoStock, xd_NoStock, xf_NoStock, xn, xh, xo_NoStock⟩, xp_NoStock_NoRenaming⟩
      · exact ⟨⟨xi_NoDrawing, xj_NoDrawing, xs_NoDrawing, xd_NoDrawing, xf_NoDrawing, xn, xh, xo_NoDrawing⟩, xp_NoDrawing_NoRenaming⟩
      · exact ⟨⟨xi_NoRenaming, xj_NoRenaming, xs_NoRenaming, xd_NoRenaming, xf_NoRenaming, xn, xh, xo_NoRenaming⟩, if_pos (beq_self_eq_true _)⟩
      · exact ⟨⟨xi_NoMatch, xj_NoMatch, xs_NoMatch, xd_NoMatch, xf_NoMatch, xn, xh, xo_NoMatch⟩, xp_NoMatch_NoRenaming⟩
      · exact ⟨⟨xi_TooMany, xj_TooMany, xs_TooMany, xd_TooMany, xf_TooMany, xn, xh, xo_TooMany⟩, xp_TooMany_NoRenaming⟩
      · exact ⟨⟨xi_NoPairing, xj_NoPairing, xs_NoPairing, xd_NoPairing, xf_NoPairing, xn, xh, xo_NoPairing⟩, xp_NoPairing_NoRenaming⟩
      · exact ⟨⟨xi_NoJoin, xj_NoJoin, xs_NoJoin, xd_NoJoin, xf_NoJoin, xn, xh, xo_NoJoin⟩, xp_NoJoin_NoRenaming⟩
      · exact ⟨⟨xi_NoName, xj_NoName, xs_NoName, xd_NoName, xf_NoName, xn, xh, xo_NoName⟩, xp_NoName_NoRenaming⟩
      · exact ⟨⟨xi_NoLeg, xj_NoLeg, xs_NoLeg, xd_NoLeg, xf_NoLeg, xn, xh, xo_NoLeg⟩, xp_NoLeg_NoRenaming⟩
      · exact ⟨⟨xi_NoCounts, xj_NoCounts, xs_NoCounts, xd_NoCounts, xf_NoCounts, xn, xh, xo_NoCounts⟩, xp_NoCounts_NoRenaming⟩
      · exact ⟨⟨xi_NoWeights, xj_NoWeights, xs_NoWeights, xd_NoWeights, xf_NoWeights, xn, xh, xo_NoWeights⟩, xp_NoWeights_NoRenaming⟩
      · exact ⟨⟨xi_NoColours, xj_NoColours, xs_NoColours, xd_NoColours, xf_NoColours, xn, xh, xo_NoColours⟩, xp_NoColours_NoRenaming⟩
      · exact ⟨⟨xi_NoNumbers, xj_NoNumbers, xs_NoNumbers, xd_NoNumbers, xf_NoNumbers, xn, xh, xo_NoNumbers⟩, xp_NoNumbers_NoRenaming⟩
      · exact ⟨⟨xi_NoText, xj_NoText, xs_NoText, xd_NoText, xf_NoText, xn, xh, xo_NoText⟩, xp_NoText_NoRenaming⟩
      · exact ⟨⟨xi_NoRow, xj_NoRow, xs_NoRow, xd_NoRow, xf_NoRow, xn, xh, xo_NoRow⟩, xp_NoRow_NoRenaming⟩
      · exact ⟨⟨xi_NotThere, xj_NotThere, xs_NotThere, xd_NotThere, xf_NotThere, xn, xh, xo_NotThere⟩, xp_NotThere_NoRenaming⟩),
    (fun tg h => by
      simp only [List.mem_cons, List.not_mem_nil, or_false] at h
      rcases h with rfl | rfl | rfl | rfl | rfl | rfl | rfl | rfl | rfl | rfl | rfl | rfl | rfl | rfl | rfl | rfl
      · exact ⟨⟨xi_NoStock, xj_NoStock, xs_NoStock, xd_NoStock, xf_NoStock, xn, xh, xo_NoStock⟩, xp_NoStock_NoMatch⟩
      · exact ⟨⟨xi_NoDrawing, xj_NoDrawing, xs_NoDrawing, xd_NoDrawing, xf_NoDrawing, xn, xh, xo_NoDrawing⟩, xp_NoDrawing_NoMatch⟩
      · exact ⟨⟨xi_NoRenaming, xj_NoRenaming, xs_NoRenaming, xd_NoRenaming, xf_NoRenaming, xn, xh, xo_NoRenaming⟩, xp_NoRenaming_NoMatch⟩
      · exact ⟨⟨xi_NoMatch, xj_NoMatch, xs_NoMatch, xd_NoMatch, xf_NoMatch, xn, xh, xo_NoMatch⟩, if_pos (beq_self_eq_true _)⟩
      · exact ⟨⟨xi_TooMany, xj_TooMany, xs_TooMany, xd_TooMany, xf_TooMany, xn, xh, xo_TooMany⟩, xp_TooMany_NoMatch⟩
      · exact ⟨⟨xi_NoPairing, xj_NoPairing, xs_NoPairing, xd_NoPairing, xf_NoPairing, xn, xh, xo_NoPairing⟩, xp_NoPairing_NoMatch⟩
      · exact ⟨⟨xi_NoJoin, xj_NoJoin, xs_NoJoin, xd_NoJoin, xf_NoJoin, xn, xh, xo_NoJoin⟩, xp_NoJoin_NoMatch⟩
      · exact ⟨⟨xi_NoName, xj_NoName, xs_NoName, xd_NoName, xf_NoName, xn, xh, xo_NoName⟩, xp_NoName_NoMatch⟩
      · exact ⟨⟨xi_NoLeg, xj_NoLeg, xs_NoLeg, xd_NoLeg, xf_NoLeg, xn, xh, xo_NoLeg⟩, xp_NoLeg_NoMatch⟩
      · exact ⟨⟨xi_NoCounts, xj_NoCounts, xs_NoCounts, xd_NoCounts, xf_NoCounts, xn, xh, xo_NoCounts⟩, xp_NoCounts_NoMatch⟩
      · exact ⟨⟨xi_NoWeights, xj_NoWeights, xs_NoWeights, xd_NoWeights, xf_NoWeights, xn, xh, xo_NoWeights⟩, xp_NoWeights_NoMatch⟩
      · exact ⟨⟨xi_NoColours, xj_NoColours, xs_NoColours, xd_NoColours, xf_NoColours, xn, xh, xo_NoColours⟩, xp_NoColours_NoMatch⟩
      · exact ⟨⟨xi_NoNumbers, xj_NoNumbers, xs_NoNumbers, xd_NoNumbers, xf_NoNumbers, xn, xh, xo_NoNumbers⟩, xp_NoNumbers_NoMatch⟩
      · exact ⟨⟨xi_NoText, xj_NoText, xs_NoText, xd_NoText, xf_NoText, xn, xh, xo_NoText⟩, xp_NoText_NoMatch⟩
      · exact ⟨⟨xi_NoRow, xj_NoRow, xs_NoRow, xd_NoRow, xf_NoRow, xn, xh, xo_NoRow⟩, xp_NoRow_NoMatch⟩
      · exact ⟨⟨xi_NotThere, xj_NotThere, xs_NotThere, xd_NotThere, xf_NotThere, xn, xh, xo_NotThere⟩, xp_NotThere_NoMatch⟩),
    (fun tg h => by
      simp only [List.mem_cons, List.not_mem_nil, or_false] at h
      rcases h with rfl | rfl | rfl | rfl | rfl | rfl | rfl | rfl | rfl | rfl | rfl | rfl | rfl | rfl | rfl | rfl
      · exact ⟨⟨xi_NoStock, xj_NoStock, xs_NoStock, xd_NoStock, xf_NoStock, xn, xh, xo_NoStock⟩, xp_NoStock_TooMany⟩
      · exact ⟨⟨xi_NoDrawing, xj_NoDrawing, xs_NoDrawing, xd_NoDrawing, xf_NoDrawing, xn, xh, xo_NoDrawing⟩, xp_NoDrawing_TooMany⟩
      · exact ⟨⟨xi_NoRenaming, xj_NoRenaming, xs_NoRenaming, xd_NoRenaming, xf_NoRenaming, xn, xh, xo_NoRenaming⟩, xp_NoRenaming_TooMany⟩
      · exact ⟨⟨xi_NoMatch, xj_NoMatch, xs_NoMatch, xd_NoMatch, xf_NoMatch, xn, xh, xo_NoMatch⟩, xp_NoMatch_TooMany⟩
      · exact ⟨⟨xi_TooMany, xj_TooMany, xs_TooMany, xd_TooMany, xf_TooMany, xn, xh, xo_TooMany⟩, if_pos (beq_self_eq_true _)⟩
      · exact ⟨⟨xi_NoPairing, xj_NoPairing, xs_NoPairing, xd_NoPairing, xf_NoPairing, xn, xh, xo_NoPairing⟩, xp_NoPairing_TooMany⟩
      · exact ⟨⟨xi_NoJoin, xj_NoJoin, xs_NoJoin, xd_NoJoin, xf_NoJoin, xn, xh, xo_NoJoin⟩, xp_NoJoin_TooMany⟩
      · exact ⟨⟨xi_NoName, xj_NoName, xs_NoName, xd_NoName, xf_NoName, xn, xh, xo_NoName⟩, xp_NoName_TooMany⟩
      · exact ⟨⟨xi_NoLeg, xj_NoLeg, xs_NoLeg, xd_NoLeg, xf_NoLeg, xn, xh, xo_NoLeg⟩, xp_NoLeg_TooMany⟩
      · exact ⟨⟨xi_NoCounts, xj_NoCounts, xs_NoCounts, xd_NoCounts, xf_NoCounts, xn, xh, xo_NoCounts⟩, xp_NoCounts_TooMany⟩
      · exact ⟨⟨xi_NoWeights, xj_NoWeights, xs_NoWeights, xd_NoWeights, xf_NoWeights, xn, xh, xo_NoWeights⟩, xp_NoWeights_TooMany⟩
      · exact ⟨⟨xi_NoColours, xj_NoColours, xs_NoColours, xd_NoColours, xf_NoColours, xn, xh, xo_NoColours⟩, xp_NoColours_TooMany⟩
      · exact ⟨⟨xi_NoNumbers, xj_NoNumbers, xs_NoNumbers, xd_NoNumbers, xf_NoNumbers, xn, xh, xo_NoNumbers⟩, xp_NoNumbers_TooMany⟩
      · exact ⟨⟨xi_NoText, xj_NoText, xs_NoText, xd_NoText, xf_NoText, xn, xh, xo_NoText⟩, xp_NoText_TooMany⟩
      · exact ⟨⟨xi_NoRow, xj_NoRow, xs_NoRow, xd_NoRow, xf_NoRow, xn, xh, xo_NoRow⟩, xp_NoRow_TooMany⟩
      · exact ⟨⟨xi_NotThere, xj_NotThere, xs_NotThere, xd_NotThere, xf_NotThere, xn, xh, xo_NotThere⟩, xp_NotThere_TooMany⟩),
    (fun tg h => by
      simp only [List.mem_cons, List.not_mem_nil, or_false] at h
      rcases h with rfl | rfl | rfl | rfl | rfl | rfl | rfl | rfl | rfl | rfl | rfl | rfl | rfl | rfl | rfl | rfl
      · exact ⟨⟨xi_NoStock, xj_NoStock, xs_NoStock, xd_NoStock, xf_NoStock, xn, xh, xo_NoStock⟩, xp_NoStock_NoPairing⟩
      · exact ⟨⟨xi_NoDrawing, xj_NoDrawing, xs_NoDrawing, xd_NoDrawing, xf_NoDrawing, xn, xh, xo_NoDrawing⟩, xp_NoDrawing_NoPairing⟩
      · exact ⟨⟨xi_NoRenaming, xj_NoRenaming, xs_NoRenaming, xd_NoRenaming, xf_NoRenaming, xn, xh, xo_NoRenaming⟩, xp_NoRenaming_NoPairing⟩
      · exact ⟨⟨xi_NoMatch, xj_NoMatch, xs_NoMatch, xd_NoMatch, xf_NoMatch, xn, xh, xo_NoMatch⟩, xp_NoMatch_NoPairing⟩
      · exact ⟨⟨xi_TooMany, xj_TooMany, xs_TooMany, xd_TooMany, xf_TooMany, xn, xh, xo_TooMany⟩, xp_TooMany_NoPairing⟩
      · exact ⟨⟨xi_NoPairing, xj_NoPairing, xs_NoPairing, xd_NoPairing, xf_NoPairing, xn, xh, xo_NoPairing⟩, if_pos (beq_self_eq_true _)⟩
      · exact ⟨⟨xi_NoJoin, xj_NoJoin, xs_NoJoin, xd_NoJoin, xf_NoJoin, xn, xh, xo_NoJoin⟩, xp_NoJoin_NoPairing⟩
      · exact ⟨⟨xi_NoName, xj_NoName, xs_NoName, xd_NoName, xf_NoName, xn, xh, xo_NoName⟩, xp_NoName_NoPairing⟩
      · exact ⟨⟨xi_NoLeg, xj_NoLeg, xs_NoLeg, xd_NoLeg, xf_NoLeg, xn, xh, xo_NoLeg⟩, xp_NoLeg_NoPairing⟩
      · exact ⟨⟨xi_NoCounts, xj_NoCounts, xs_NoCounts, xd_NoCounts, xf_NoCounts, xn, xh, xo_NoCounts⟩, xp_NoCounts_NoPairing⟩
      · exact ⟨⟨xi_NoWeights, xj_NoWeights, xs_NoWeights, xd_NoWeights, xf_NoWeights, xn, xh, xo_NoWeights⟩, xp_NoWeights_NoPairing⟩
      · exact ⟨⟨xi_NoColours, xj_NoColours, xs_NoColours, xd_NoColours, xf_NoColours, xn, xh, xo_NoColours⟩, xp_NoColours_NoPairing⟩
      · exact ⟨⟨xi_NoNumbers, xj_NoNumbers, xs_NoNumbers, xd_NoNumbers, xf_NoNumbers, xn, xh, xo_NoNumbers⟩, xp_NoNumbers_NoPairing⟩
      · exact ⟨⟨xi_NoText, xj_NoText, xs_NoText, xd_NoText, xf_NoText, xn, xh, xo_NoText⟩, xp_NoText_NoPairing⟩
      · exact ⟨⟨xi_NoRow, xj_NoRow, xs_NoRow, xd_NoRow, xf_NoRow, xn, xh, xo_NoRow⟩, xp_NoRow_NoPairing⟩
      · exact ⟨⟨xi_NotThere, xj_NotThere, xs_NotThere, xd_NotThere, xf_NotThere, xn, xh, xo_NotThere⟩, xp_NotThere_NoPairing⟩),
    (fun tg h => by
      simp only [List.mem_cons, List.not_mem_nil, or_false] at h
      rcases h with rfl | rfl | rfl | rfl | rfl | rfl | rfl | rfl | rfl | rfl | rfl | rfl | rfl | rfl | rfl | rfl
      · exact ⟨⟨xi_NoStock, xj_NoStock, xs_NoStock, xd_NoStock, xf_NoStock, xn, xh, xo_NoStock⟩, xp_NoStock_NoJoin⟩
      · exact ⟨⟨xi_NoDrawing, xj_NoDrawing, xs_NoDrawing, xd_NoDrawing, xf_NoDrawing, xn, xh, xo_NoDrawing⟩, xp_NoDrawing_NoJoin⟩
      · exact ⟨⟨xi_NoRenaming, xj_NoRenaming, xs_NoRenaming, xd_NoRenaming, xf_NoRenaming, xn, xh, xo_NoRenaming⟩, xp_NoRenaming_NoJoin⟩
      · exact ⟨⟨xi_NoMatch, xj_NoMatch, xs_NoMatch, xd_NoMatch, xf_NoMatch, xn, xh, xo_NoMatch⟩, xp_NoMatch_NoJoin⟩
      · exact ⟨⟨xi_TooMany, xj_TooMany, xs_TooMany, xd_TooMany, xf_TooMany, xn, xh, xo_TooMany⟩, xp_TooMany_NoJoin⟩
      · exact ⟨⟨xi_NoPairing, xj_NoPairing, xs_NoPairing, xd_NoPairing, xf_NoPairing, xn, xh, xo_NoPairing⟩, xp_NoPairing_NoJoin⟩
      · exact ⟨⟨xi_NoJoin, xj_NoJoin, xs_NoJoin, xd_NoJoin, xf_NoJoin, xn, xh, xo_NoJoin⟩, if_pos (beq_self_eq_true _)⟩
      · exact ⟨⟨xi_NoName, xj_NoName, xs_NoName, xd_NoName, xf_NoName, xn, xh, xo_NoName⟩, xp_NoName_NoJoin⟩
      · exact ⟨⟨xi_NoLeg, xj_NoLeg, xs_NoLeg, xd_NoLeg, xf_NoLeg, xn, xh, xo_NoLeg⟩, xp_NoLeg_NoJoin⟩
      · exact ⟨⟨xi_NoCounts, xj_NoCounts, xs_NoCounts, xd_NoCounts, xf_NoCounts, xn, xh, xo_NoCounts⟩, xp_NoCounts_NoJoin⟩
      · exact ⟨⟨xi_NoWeights, xj_NoWeights, xs_NoWeights, xd_NoWeights, xf_NoWeights, xn, xh, xo_NoWeights⟩, xp_NoWeights_NoJoin⟩
      · exact ⟨⟨xi_NoColours, xj_NoColours, xs_NoColours, xd_NoColours, xf_NoColours, xn, xh, xo_NoColours⟩, xp_NoColours_NoJoin⟩
      · exact ⟨⟨xi_NoNumbers, xj_NoNumbers, xs_NoNumbers, xd_NoNumbers, xf_NoNumbers, xn, xh, xo_NoNumbers⟩, xp_NoNumbers_NoJoin⟩
      · exact ⟨⟨xi_NoText, xj_NoText, xs_NoText, xd_NoText, xf_NoText, xn, xh, xo_NoText⟩, xp_NoText_NoJoin⟩
      · exact ⟨⟨xi_NoRow, xj_NoRow, xs_NoRow, xd_NoRow, xf_NoRow, xn, xh, xo_NoRow⟩, xp_NoRow_NoJoin⟩
      · exact ⟨⟨xi_NotThere, xj_NotThere, xs_NotThere, xd_NotThere, xf_NotThere, xn, xh, xo_NotThere⟩, xp_NotThere_NoJoin⟩),
    (fun tg h => by
      simp only [List.mem_cons, List.not_mem_nil, or_false] at h
      rcases h with rfl | rfl | rfl | rfl | rfl | rfl | rfl | rfl | rfl | rfl | rfl | rfl | rfl | rfl | rfl | rfl
      · exact ⟨⟨xi_NoStock, xj_NoStock, xs_NoStock, xd_NoStock, xf_NoStock, xn, xh, xo_NoStock⟩, xp_NoStock_NoName⟩
      · exact ⟨⟨xi_NoDrawing, xj_NoDrawing, xs_NoDrawing, xd_NoDrawing, xf_NoDrawing, xn, xh, xo_NoDrawing⟩, xp_NoDrawing_NoName⟩
      · exact ⟨⟨xi_NoRenaming, xj_NoRenaming, xs_NoRenaming, xd_NoRenaming, xf_NoRenaming, xn, xh, xo_NoRenaming⟩, xp_NoRenaming_NoName⟩
      · exact ⟨⟨xi_NoMatch, xj_NoMatch, xs_NoMatch, xd_NoMatch, xf_NoMatch, xn, xh, xo_NoMatch⟩, xp_NoMatch_NoName⟩
      · exact ⟨⟨xi_TooMany, xj_TooMany, xs_TooMany, xd_TooMany, xf_TooMany, xn, xh, xo_TooMany⟩, xp_TooMany_NoName⟩
      · exact ⟨⟨xi_NoPairing, xj_NoPairing, xs_NoPairing, xd_NoPairing, xf_NoPairing, xn, xh, xo_NoPairing⟩, xp_NoPairing_NoName⟩
      · exact ⟨⟨xi_NoJoin, xj_NoJoin, xs_NoJoin, xd_NoJoin, xf_NoJoin, xn, xh, xo_NoJoin⟩, xp_NoJoin_NoName⟩
      · exact ⟨⟨xi_NoName, xj_NoName, xs_NoName, xd_NoName, xf_NoName, xn, xh, xo_NoName⟩, if_pos (beq_self_eq_true _)⟩
      · exact ⟨⟨xi_NoLeg, xj_NoLeg, xs_NoLeg, xd_NoLeg, xf_NoLeg, xn, xh, xo_NoLeg⟩, xp_NoLeg_NoName⟩
      · exact ⟨⟨xi_NoCounts, xj_NoCounts, xs_NoCounts, xd_NoCounts, xf_NoCounts, xn, xh, xo_NoCounts⟩, xp_NoCounts_NoName⟩
      · exact ⟨⟨xi_NoWeights, xj_NoWeights, xs_NoWeights, xd_NoWeights, xf_NoWeights, xn, xh, xo_NoWeights⟩, xp_NoWeights_NoName⟩
      · exact ⟨⟨xi_NoColours, xj_NoColours, xs_NoColours, xd_NoColours, xf_NoColours, xn, xh, xo_NoColours⟩, xp_NoColours_NoName⟩
      · exact ⟨⟨xi_NoNumbers, xj_NoNumbers, xs_NoNumbers, xd_NoNumbers, xf_NoNumbers, xn, xh, xo_NoNumbers⟩, xp_NoNumbers_NoName⟩
      · exact ⟨⟨xi_NoText, xj_NoText, xs_NoText, xd_NoText, xf_NoText, xn, xh, xo_NoText⟩, xp_NoText_NoName⟩
      · exact ⟨⟨xi_NoRow, xj_NoRow, xs_NoRow, xd_NoRow, xf_NoRow, xn, xh, xo_NoRow⟩, xp_NoRow_NoName⟩
      · exact ⟨⟨xi_NotThere, xj_NotThere, xs_NotThere, xd_NotThere, xf_NotThere, xn, xh, xo_NotThere⟩, xp_NotThere_NoName⟩),
    (fun tg h => by
      simp only [List.mem_cons, List.not_mem_nil, or_false] at h
      rcases h with rfl | rfl | rfl | rfl | rfl | rfl | rfl | rfl | rfl | rfl | rfl | rfl | rfl | rfl | rfl | rfl
      · exact ⟨⟨xi_NoStock, xj_NoStock, xs_NoStock, xd_NoStock, xf_NoStock, xn, xh, xo_NoStock⟩, xp_NoStock_NoLeg⟩
      · exact ⟨⟨xi_NoDrawing, xj_NoDrawing, xs_NoDrawing, xd_NoDrawing, xf_NoDrawing, xn, xh, xo_NoDrawing⟩, xp_NoDrawing_NoLeg⟩
      · exact ⟨⟨xi_NoRenaming, xj_NoRenaming, xs_NoRenaming, xd_NoRenaming, xf_NoRenaming, xn, xh, xo_NoRenaming⟩, xp_NoRenaming_NoLeg⟩
      · exact ⟨⟨xi_NoMatch, xj_NoMatch, xs_NoMatch, xd_NoMatch, xf_NoMatch, xn, xh, xo_NoMatch⟩, xp_NoMatch_NoLeg⟩
      · exact ⟨⟨xi_TooMany, xj_TooMany, xs_TooMany, xd_TooMany, xf_TooMany, xn, xh, xo_TooMany⟩, xp_TooMany_NoLeg⟩
      · exact ⟨⟨xi_NoPairing, xj_NoPairing, xs_NoPairing, xd_NoPairing, xf_NoPairing, xn, xh, xo_NoPairing⟩, xp_NoPairing_NoLeg⟩
      · exact ⟨⟨xi_NoJoin, xj_NoJoin, xs_NoJoin, xd_NoJoin, xf_NoJoin, xn, xh, xo_NoJoin⟩, xp_NoJoin_NoLeg⟩
      · exact ⟨⟨xi_NoName, xj_NoName, xs_NoName, xd_NoName, xf_NoName, xn, xh, xo_NoName⟩, xp_NoName_NoLeg⟩
      · exact ⟨⟨xi_NoLeg, xj_NoLeg, xs_NoLeg, xd_NoLeg, xf_NoLeg, xn, xh, xo_NoLeg⟩, if_pos (beq_self_eq_true _)⟩
      · exact ⟨⟨xi_NoCounts, xj_NoCounts, xs_NoCounts, xd_NoCounts, xf_NoCounts, xn, xh, xo_NoCounts⟩, xp_NoCounts_NoLeg⟩
      · exact ⟨⟨xi_NoWeights, xj_NoWeights, xs_NoWeights, xd_NoWeights, xf_NoWeights, xn, xh, xo_NoWeights⟩, xp_NoWeights_NoLeg⟩
      · exact ⟨⟨xi_NoColours, xj_NoColours, xs_NoColours, xd_NoColours, xf_NoColours, xn, xh, xo_NoColours⟩, xp_NoColours_NoLeg⟩
      · exact ⟨⟨xi_NoNumbers, xj_NoNumbers, xs_NoNumbers, xd_NoNumbers, xf_NoNumbers, xn, xh, xo_NoNumbers⟩, xp_NoNumbers_NoLeg⟩
      · exact ⟨⟨xi_NoText, xj_NoText, xs_NoText, xd_NoText, xf_NoText, xn, xh, xo_NoText⟩, xp_NoText_NoLeg⟩
      · exact ⟨⟨xi_NoRow, xj_NoRow, xs_NoRow, xd_NoRow, xf_NoRow, xn, xh, xo_NoRow⟩, xp_NoRow_NoLeg⟩
      · exact ⟨⟨xi_NotThere, xj_NotThere, xs_NotThere, xd_NotThere, xf_NotThere, xn, xh, xo_NotThere⟩, xp_NotThere_NoLeg⟩),
    (fun tg h => by
      simp only [List.mem_cons, List.not_mem_nil, or_false] at h
      rcases h with rfl | rfl | rfl | rfl | rfl | rfl | rfl | rfl | rfl | rfl | rfl | rfl | rfl | rfl | rfl | rfl
      · exact ⟨⟨xi_NoStock, xj_NoStock, xs_NoStock, xd_NoStock, xf_NoStock, xn, xh, xo_NoStock⟩, xp_NoStock_NoCounts⟩
      · exact ⟨⟨xi_NoDrawing, xj_NoDrawing, xs_NoDrawing, xd_NoDrawing, xf_NoDrawing, xn, xh, xo_NoDrawing⟩, xp_NoDrawing_NoCounts⟩
      · exact ⟨⟨xi_NoRenaming, xj_NoRenaming, xs_NoRenaming, xd_NoRenaming, xf_NoRenaming, xn, xh, xo_NoRenaming⟩, xp_NoRenaming_NoCounts⟩
      · exact ⟨⟨xi_NoMatch, xj_NoMatch, xs_NoMatch, xd_NoMatch, xf_NoMatch, xn, xh, xo_NoMatch⟩, xp_NoMatch_NoCounts⟩
      · exact ⟨⟨xi_TooMany, xj_TooMany, xs_TooMany, xd_TooMany, xf_TooMany, xn, xh, xo_TooMany⟩, xp_TooMany_NoCounts⟩
      · exact ⟨⟨xi_NoPairing, xj_NoPairing, xs_NoPairing, xd_NoPairing, xf_NoPairing, xn, xh, xo_NoPairing⟩, xp_NoPairing_NoCounts⟩
      · exact ⟨⟨xi_NoJoin, xj_NoJoin, xs_NoJoin, xd_NoJoin, xf_NoJoin, xn, xh, xo_NoJoin⟩, xp_NoJoin_NoCounts⟩
      · exact ⟨⟨xi_NoName, xj_NoName, xs_NoName, xd_NoName, xf_NoName, xn, xh, xo_NoName⟩, xp_NoName_NoCounts⟩
      · exact ⟨⟨xi_NoLeg, xj_NoLeg, xs_NoLeg, xd_NoLeg, xf_NoLeg, xn, xh, xo_NoLeg⟩, xp_NoLeg_NoCounts⟩
      · exact ⟨⟨xi_NoCounts, xj_NoCounts, xs_NoCounts, xd_NoCounts, xf_NoCounts, xn, xh, xo_NoCounts⟩, if_pos (beq_self_eq_true _)⟩
      · exact ⟨⟨xi_NoWeights, xj_NoWeights, xs_NoWeights, xd_NoWeights, xf_NoWeights, xn, xh, xo_NoWeights⟩, xp_NoWeights_NoCounts⟩
      · exact ⟨⟨xi_NoColours, xj_NoColours, xs_NoColours, xd_NoColours, xf_NoColours, xn, xh, xo_NoColours⟩, xp_NoColours_NoCounts⟩
      · exact ⟨⟨xi_NoNumbers, xj_NoNumbers, xs_NoNumbers, xd_NoNumbers, xf_NoNumbers, xn, xh, xo_NoNumbers⟩, xp_NoNumbers_NoCounts⟩
      · exact ⟨⟨xi_NoText, xj_NoText, xs_NoText, xd_NoText, xf_NoText, xn, xh, xo_NoText⟩, xp_NoText_NoCounts⟩
      · exact ⟨⟨xi_NoRow, xj_NoRow, xs_NoRow, xd_NoRow, xf_NoRow, xn, xh, xo_NoRow⟩, xp_NoRow_NoCounts⟩
      · exact ⟨⟨xi_NotThere, xj_NotThere, xs_NotThere, xd_NotThere, xf_NotThere, xn, xh, xo_NotThere⟩, xp_NotThere_NoCounts⟩),
    (fun tg h => by
      simp only [List.mem_cons, List.not_mem_nil, or_false] at h
      rcases h with rfl | rfl | rfl | rfl | rfl | rfl | rfl | rfl | rfl | rfl | rfl | rfl | rfl | rfl | rfl | rfl
      · exact ⟨⟨xi_NoStock, xj_NoStock, xs_NoStock, xd_NoStock, xf_NoStock, xn, xh, xo_NoStock⟩, xp_NoStock_NoColours⟩
      · exact ⟨⟨xi_NoDrawing, xj_NoDrawing, xs_NoDrawing, xd_NoDrawing, xf_NoDrawing, xn, xh, xo_NoDrawing⟩, xp_NoDrawing_NoColours⟩
      · exact ⟨⟨xi_NoRenaming, xj_NoRenaming, xs_NoRenaming, xd_NoRenaming, xf_NoRenaming, xn, xh, xo_NoRenaming⟩, xp_NoRenaming_NoColours⟩
      · exact ⟨⟨xi_NoMatch, xj_NoMatch, xs_NoMatch, xd_NoMatch, xf_NoMatch, xn, xh, xo_NoMatch⟩, xp_NoMatch_NoColours⟩
      · exact ⟨⟨xi_TooMany, xj_TooMany, xs_TooMany, xd_TooMany, xf_TooMany, xn, xh, xo_TooMany⟩, xp_TooMany_NoColours⟩
      · exact ⟨⟨xi_NoPairing, xj_NoPairing, xs_NoPairing, xd_NoPairing, xf_NoPairing, xn, xh, xo_NoPairing⟩, xp_NoPairing_NoColours⟩
      · exact ⟨⟨xi_NoJoin, xj_NoJoin, xs_NoJoin, xd_NoJoin, xf_NoJoin, xn, xh, xo_NoJoin⟩, xp_NoJoin_NoColours⟩
      · exact ⟨⟨xi_NoName, xj_NoName, xs_NoName, xd_NoName, xf_NoName, xn, xh, xo_NoName⟩, xp_NoName_NoColours⟩
      · exact ⟨⟨xi_NoLeg, xj_NoLeg, xs_NoLeg, xd_NoLeg, xf_NoLeg, xn, xh, xo_NoLeg⟩, xp_NoLeg_NoColours⟩
      · exact ⟨⟨xi_NoCounts, xj_NoCounts, xs_NoCounts, xd_NoCounts, xf_NoCounts, xn, xh, xo_NoCounts⟩, xp_NoCounts_NoColours⟩
      · exact ⟨⟨xi_NoWeights, xj_NoWeights, xs_NoWeights, xd_NoWeights, xf_NoWeights, xn, xh, xo_NoWeights⟩, xp_NoWeights_NoColours⟩
      · exact ⟨⟨xi_NoColours, xj_NoColours, xs_NoColours, xd_NoColours, xf_NoColours, xn, xh, xo_NoColours⟩, if_pos (beq_self_eq_true _)⟩
      · exact ⟨⟨xi_NoNumbers, xj_NoNumbers, xs_NoNumbers, xd_NoNumbers, xf_NoNumbers, xn, xh, xo_NoNumbers⟩, xp_NoNumbers_NoColours⟩
      · exact ⟨⟨xi_NoText, xj_NoText, xs_NoText, xd_NoText, xf_NoText, xn, xh, xo_NoText⟩, xp_NoText_NoColours⟩
      · exact ⟨⟨xi_NoRow, xj_NoRow, xs_NoRow, xd_NoRow, xf_NoRow, xn, xh, xo_NoRow⟩, xp_NoRow_NoColours⟩
      · exact ⟨⟨xi_NotThere, xj_NotThere, xs_NotThere, xd_NotThere, xf_NotThere, xn, xh, xo_NotThere⟩, xp_NotThere_NoColours⟩),
    (fun tg h => by
      simp only [List.mem_cons, List.not_mem_nil, or_false] at h
      rcases h with rfl | rfl | rfl | rfl | rfl | rfl | rfl | rfl | rfl | rfl | rfl | rfl | rfl | rfl | rfl | rfl
      · exact ⟨⟨xi_NoStock, xj_NoStock, xs_NoStock, xd_NoStock, xf_NoStock, xn, xh, xo_NoStock⟩, xp_NoStock_NoNumbers⟩
      · exact ⟨⟨xi_NoDrawing, xj_NoDrawing, xs_NoDrawing, xd_NoDrawing, xf_NoDrawing, xn, xh, xo_NoDrawing⟩, xp_NoDrawing_NoNumbers⟩
      · exact ⟨⟨xi_NoRenaming, xj_NoRenaming, xs_NoRenaming, xd_NoRenaming, xf_NoRenaming, xn, xh, xo_NoRenaming⟩, xp_NoRenaming_NoNumbers⟩
      · exact ⟨⟨xi_NoMatch, xj_NoMatch, xs_NoMatch, xd_NoMatch, xf_NoMatch, xn, xh, xo_NoMatch⟩, xp_NoMatch_NoNumbers⟩
      · exact ⟨⟨xi_TooMany, xj_TooMany, xs_TooMany, xd_TooMany, xf_TooMany, xn, xh, xo_TooMany⟩, xp_TooMany_NoNumbers⟩
      · exact ⟨⟨xi_NoPairing, xj_NoPairing, xs_NoPairing, xd_NoPairing, xf_NoPairing, xn, xh, xo_NoPairing⟩, xp_NoPairing_NoNumbers⟩
      · exact ⟨⟨xi_NoJoin, xj_NoJoin, xs_NoJoin, xd_NoJoin, xf_NoJoin, xn, xh, xo_NoJoin⟩, xp_NoJoin_NoNumbers⟩
      · exact ⟨⟨xi_NoName, xj_NoName, xs_NoName, xd_NoName, xf_NoName, xn, xh, xo_NoName⟩, xp_NoName_NoNumbers⟩
      · exact ⟨⟨xi_NoLeg, xj_NoLeg, xs_NoLeg, xd_NoLeg, xf_NoLeg, xn, xh, xo_NoLeg⟩, xp_NoLeg_NoNumbers⟩
      · exact ⟨⟨xi_NoCounts, xj_NoCounts, xs_NoCounts, xd_NoCounts, xf_NoCounts, xn, xh, xo_NoCounts⟩, xp_NoCounts_NoNumbers⟩
      · exact ⟨⟨xi_NoWeights, xj_NoWeights, xs_NoWeights, xd_NoWeights, xf_NoWeights, xn, xh, xo_NoWeights⟩, xp_NoWeights_NoNumbers⟩
      · exact ⟨⟨xi_NoColours, xj_NoColours, xs_NoColours, xd_NoColours, xf_NoColours, xn, xh, xo_NoColours⟩, xp_NoColours_NoNumbers⟩
      · exact ⟨⟨xi_NoNumbers, xj_NoNumbers, xs_NoNumbers, xd_NoNumbers, xf_NoNumbers, xn, xh, xo_NoNumbers⟩, if_pos (beq_self_eq_true _)⟩
      · exact ⟨⟨xi_NoText, xj_NoText, xs_NoText, xd_NoText, xf_NoText, xn, xh, xo_NoText⟩, xp_NoText_NoNumbers⟩
      · exact ⟨⟨xi_NoRow, xj_NoRow, xs_NoRow, xd_NoRow, xf_NoRow, xn, xh, xo_NoRow⟩, xp_NoRow_NoNumbers⟩
      · exact ⟨⟨xi_NotThere, xj_NotThere, xs_NotThere, xd_NotThere, xf_NotThere, xn, xh, xo_NotThere⟩, xp_NotThere_NoNumbers⟩),
    (fun tg h => by
      simp only [List.mem_cons, List.not_mem_nil, or_false] at h
      rcases h with rfl | rfl | rfl | rfl | rfl | rfl | rfl | rfl | rfl | rfl | rfl | rfl | rfl | rfl | rfl | rfl
      · exact ⟨⟨xi_NoStock, xj_NoStock, xs_NoStock, xd_NoStock, xf_NoStock, xn, xh, xo_NoStock⟩, xp_NoStock_NoRow⟩
      · exact ⟨⟨xi_NoDrawing, xj_NoDrawing, xs_NoDrawing, xd_NoDrawing, xf_NoDrawing, xn, xh, xo_NoDrawing⟩, xp_NoDrawing_NoRow⟩
      · exact ⟨⟨xi_NoRenaming, xj_NoRenaming, xs_NoRenaming, xd_NoRenaming, xf_NoRenaming, xn, xh, xo_NoRenaming⟩, xp_NoRenaming_NoRow⟩
      · exact ⟨⟨xi_NoMatch, xj_NoMatch, xs_NoMatch, xd_NoMatch, xf_NoMatch, xn, xh, xo_NoMatch⟩, xp_NoMatch_NoRow⟩
      · exact ⟨⟨xi_TooMany, xj_TooMany, xs_TooMany, xd_TooMany, xf_TooMany, xn, xh, xo_TooMany⟩, xp_TooMany_NoRow⟩
      · exact ⟨⟨xi_NoPairing, xj_NoPairing, xs_NoPairing, xd_NoPairing, xf_NoPairing, xn, xh, xo_NoPairing⟩, xp_NoPairing_NoRow⟩
      · exact ⟨⟨xi_NoJoin, xj_NoJoin, xs_NoJoin, xd_NoJoin, xf_NoJoin, xn, xh, xo_NoJoin⟩, xp_NoJoin_NoRow⟩
      · exact ⟨⟨xi_NoName, xj_NoName, xs_NoName, xd_NoName, xf_NoName, xn, xh, xo_NoName⟩, xp_NoName_NoRow⟩
      · exact ⟨⟨xi_NoLeg, xj_NoLeg, xs_NoLeg, xd_NoLeg, xf_NoLeg, xn, xh, xo_NoLeg⟩, xp_NoLeg_NoRow⟩
      · exact ⟨⟨xi_NoCounts, xj_NoCounts, xs_NoCounts, xd_NoCounts, xf_NoCounts, xn, xh, xo_NoCounts⟩, xp_NoCounts_NoRow⟩
      · exact ⟨⟨xi_NoWeights, xj_NoWeights, xs_NoWeights, xd_NoWeights, xf_NoWeights, xn, xh, xo_NoWeights⟩, xp_NoWeights_NoRow⟩
      · exact ⟨⟨xi_NoColours, xj_NoColours, xs_NoColours, xd_NoColours, xf_NoColours, xn, xh, xo_NoColours⟩, xp_NoColours_NoRow⟩
      · exact ⟨⟨xi_NoNumbers, xj_NoNumbers, xs_NoNumbers, xd_NoNumbers, xf_NoNumbers, xn, xh, xo_NoNumbers⟩, xp_NoNumbers_NoRow⟩
      · exact ⟨⟨xi_NoText, xj_NoText, xs_NoText, xd_NoText, xf_NoText, xn, xh, xo_NoText⟩, xp_NoText_NoRow⟩
      · exact ⟨⟨xi_NoRow, xj_NoRow, xs_NoRow, xd_NoRow, xf_NoRow, xn, xh, xo_NoRow⟩, if_pos (beq_self_eq_true _)⟩
      · exact ⟨⟨xi_NotThere, xj_NotThere, xs_NotThere, xd_NotThere, xf_NotThere, xn, xh, xo_NotThere⟩, xp_NotThere_NoRow⟩),
    (fun tg h => by
      simp only [List.mem_cons, List.not_mem_nil, or_false] at h
      rcases h with rfl | rfl | rfl | rfl | rfl | rfl | rfl | rfl | rfl | rfl | rfl | rfl | rfl | rfl | rfl | rfl
      · exact ⟨⟨xi_NoStock, xj_NoStock, xs_NoStock, xd_NoStock, xf_NoStock, xn, xh, xo_NoStock⟩, if_pos (beq_self_eq_true _)⟩
      · exact ⟨⟨xi_NoDrawing, xj_NoDrawing, xs_NoDrawing, xd_NoDrawing, xf_NoDrawing, xn, xh, xo_NoDrawing⟩, xp_NoDrawing_NoStock⟩
      · exact ⟨⟨xi_NoRenaming, xj_NoRenaming, xs_NoRenaming, xd_NoRenaming, xf_NoRenaming, xn, xh, xo_NoRenaming⟩, xp_NoRenaming_NoStock⟩
      · exact ⟨⟨xi_NoMatch, xj_NoMatch, xs_NoMatch, xd_NoMatch, xf_NoMatch, xn, xh, xo_NoMatch⟩, xp_NoMatch_NoStock⟩
      · exact ⟨⟨xi_TooMany, xj_TooMany, xs_TooMany, xd_TooMany, xf_TooMany, xn, xh, xo_TooMany⟩, xp_TooMany_NoStock⟩
      · exact ⟨⟨xi_NoPairing, xj_NoPairing, xs_NoPairing, xd_NoPairing, xf_NoPairing, xn, xh, xo_NoPairing⟩, xp_NoPairing_NoStock⟩
      · exact ⟨⟨xi_NoJoin, xj_NoJoin, xs_NoJoin, xd_NoJoin, xf_NoJoin, xn, xh, xo_NoJoin⟩, xp_NoJoin_NoStock⟩
      · exact ⟨⟨xi_NoName, xj_NoName, xs_NoName, xd_NoName, xf_NoName, xn, xh, xo_NoName⟩, xp_NoName_NoStock⟩
      · exact ⟨⟨xi_NoLeg, xj_NoLeg, xs_NoLeg, xd_NoLeg, xf_NoLeg, xn, xh, xo_NoLeg⟩, xp_NoLeg_NoStock⟩
      · exact ⟨⟨xi_NoCounts, xj_NoCounts, xs_NoCounts, xd_NoCounts, xf_NoCounts, xn, xh, xo_NoCounts⟩, xp_NoCounts_NoStock⟩
      · exact ⟨⟨xi_NoWeights, xj_NoWeights, xs_NoWeights, xd_NoWeights, xf_NoWeights, xn, xh, xo_NoWeights⟩, xp_NoWeights_NoStock⟩
      · exact ⟨⟨xi_NoColours, xj_NoColours, xs_NoColours, xd_NoColours, xf_NoColours, xn, xh, xo_NoColours⟩, xp_NoColours_NoStock⟩
      · exact ⟨⟨xi_NoNumbers, xj_NoNumbers, xs_NoNumbers, xd_NoNumbers, xf_NoNumbers, xn, xh, xo_NoNumbers⟩, xp_NoNumbers_NoStock⟩
      · exact ⟨⟨xi_NoText, xj_NoText, xs_NoText, xd_NoText, xf_NoText, xn, xh, xo_NoText⟩, xp_NoText_NoStock⟩
      · exact ⟨⟨xi_NoRow, xj_NoRow, xs_NoRow, xd_NoRow, xf_NoRow, xn, xh, xo_NoRow⟩, xp_NoRow_NoStock⟩
      · exact ⟨⟨xi_NotThere, xj_NotThere, xs_NotThere, xd_NotThere, xf_NotThere, xn, xh, xo_NotThere⟩, xp_NotThere_NoStock⟩),
    (fun tg h => by
      simp only [List.mem_cons, List.not_mem_nil, or_false] at h
      rcases h with rfl | rfl | rfl | rfl | rfl | rfl | rfl | rfl | rfl | rfl | rfl | rfl | rfl | rfl | rfl | rfl
      · exact ⟨⟨xi_NoStock, xj_NoStock, xs_NoStock, xd_NoStock, xf_NoStock, xn, xh, xo_NoStock⟩, xp_NoStock_NoDrawing⟩
      · exact ⟨⟨xi_NoDrawing, xj_NoDrawing, xs_NoDrawing, xd_NoDrawing, xf_NoDrawing, xn, xh, xo_NoDrawing⟩, if_pos (beq_self_eq_true _)⟩
      · exact ⟨⟨xi_NoRenaming, xj_NoRenaming, xs_NoRenaming, xd_NoRenaming, xf_NoRenaming, xn, xh, xo_NoRenaming⟩, xp_NoRenaming_NoDrawing⟩
      · exact ⟨⟨xi_NoMatch, xj_NoMatch, xs_NoMatch, xd_NoMatch, xf_NoMatch, xn, xh, xo_NoMatch⟩, xp_NoMatch_NoDrawing⟩
      · exact ⟨⟨xi_TooMany, xj_TooMany, xs_TooMany, xd_TooMany, xf_TooMany, xn, xh, xo_TooMany⟩, xp_TooMany_NoDrawing⟩
      · exact ⟨⟨xi_NoPairing, xj_NoPairing, xs_NoPairing, xd_NoPairing, xf_NoPairing, xn, xh, xo_NoPairing⟩, xp_NoPairing_NoDrawing⟩
      · exact ⟨⟨xi_NoJoin, xj_NoJoin, xs_NoJoin, xd_NoJoin, xf_NoJoin, xn, xh, xo_NoJoin⟩, xp_NoJoin_NoDrawing⟩
      · exact ⟨⟨xi_NoName, xj_NoName, xs_NoName, xd_NoName, xf_NoName, xn, xh, xo_NoName⟩, xp_NoName_NoDrawing⟩
      · exact ⟨⟨xi_NoLeg, xj_NoLeg, xs_NoLeg, xd_NoLeg, xf_NoLeg, xn, xh, xo_NoLeg⟩, xp_NoLeg_NoDrawing⟩
      · exact ⟨⟨xi_NoCounts, xj_NoCounts, xs_NoCounts, xd_NoCounts, xf_NoCounts, xn, xh, xo_NoCounts⟩, xp_NoCounts_NoDrawing⟩
      · exact ⟨⟨xi_NoWeights, xj_NoWeights, xs_NoWeights, xd_NoWeights, xf_NoWeights, xn, xh, xo_NoWeights⟩, xp_NoWeights_NoDrawing⟩
      · exact ⟨⟨xi_NoColours, xj_NoColours, xs_NoColours, xd_NoColours, xf_NoColours, xn, xh, xo_NoColours⟩, xp_NoColours_NoDrawing⟩
      · exact ⟨⟨xi_NoNumbers, xj_NoNumbers, xs_NoNumbers, xd_NoNumbers, xf_NoNumbers, xn, xh, xo_NoNumbers⟩, xp_NoNumbers_NoDrawing⟩
      · exact ⟨⟨xi_NoText, xj_NoText, xs_NoText, xd_NoText, xf_NoText, xn, xh, xo_NoText⟩, xp_NoText_NoDrawing⟩
      · exact ⟨⟨xi_NoRow, xj_NoRow, xs_NoRow, xd_NoRow, xf_NoRow, xn, xh, xo_NoRow⟩, xp_NoRow_NoDrawing⟩
      · exact ⟨⟨xi_NotThere, xj_NotThere, xs_NotThere, xd_NotThere, xf_NotThere, xn, xh, xo_NotThere⟩, xp_NotThere_NoDrawing⟩),
    (fun tg h => by
      simp only [List.mem_cons, List.not_mem_nil, or_false] at h
      rcases h with rfl | rfl | rfl | rfl | rfl | rfl | rfl | rfl | rfl | rfl | rfl | rfl | rfl | rfl | rfl | rfl
      · exact ⟨⟨xi_NoStock, xj_NoStock, xs_NoStock, xd_NoStock, xf_NoStock, xn, xh, xo_NoStock⟩, xp_NoStock_NoWeights⟩
      · exact ⟨⟨xi_NoDrawing, xj_NoDrawing, xs_NoDrawing, xd_NoDrawing, xf_NoDrawing, xn, xh, xo_NoDrawing⟩, xp_NoDrawing_NoWeights⟩
      · exact ⟨⟨xi_NoRenaming, xj_NoRenaming, xs_NoRenaming, xd_NoRenaming, xf_NoRenaming, xn, xh, xo_NoRenaming⟩, xp_NoRenaming_NoWeights⟩
      · exact ⟨⟨xi_NoMatch, xj_NoMatch, xs_NoMatch, xd_NoMatch, xf_NoMatch, xn, xh, xo_NoMatch⟩, xp_NoMatch_NoWeights⟩
      · exact ⟨⟨xi_TooMany, xj_TooMany, xs_TooMany, xd_TooMany, xf_TooMany, xn, xh, xo_TooMany⟩, xp_TooMany_NoWeights⟩
      · exact ⟨⟨xi_NoPairing, xj_NoPairing, xs_NoPairing, xd_NoPairing, xf_NoPairing, xn, xh, xo_NoPairing⟩, xp_NoPairing_NoWeights⟩
      · exact ⟨⟨xi_NoJoin, xj_NoJoin, xs_NoJoin, xd_NoJoin, xf_NoJoin, xn, xh, xo_NoJoin⟩, xp_NoJoin_NoWeights⟩
      · exact ⟨⟨xi_NoName, xj_NoName, xs_NoName, xd_NoName, xf_NoName, xn, xh, xo_NoName⟩, xp_NoName_NoWeights⟩
      · exact ⟨⟨xi_NoLeg, xj_NoLeg, xs_NoLeg, xd_NoLeg, xf_NoLeg, xn, xh, xo_NoLeg⟩, xp_NoLeg_NoWeights⟩
      · exact ⟨⟨xi_NoCounts, xj_NoCounts, xs_NoCounts, xd_NoCounts, xf_NoCounts, xn, xh, xo_NoCounts⟩, xp_NoCounts_NoWeights⟩
      · exact ⟨⟨xi_NoWeights, xj_NoWeights, xs_NoWeights, xd_NoWeights, xf_NoWeights, xn, xh, xo_NoWeights⟩, if_pos (beq_self_eq_true _)⟩
      · exact ⟨⟨xi_NoColours, xj_NoColours, xs_NoColours, xd_NoColours, xf_NoColours, xn, xh, xo_NoColours⟩, xp_NoColours_NoWeights⟩
      · exact ⟨⟨xi_NoNumbers, xj_NoNumbers, xs_NoNumbers, xd_NoNumbers, xf_NoNumbers, xn, xh, xo_NoNumbers⟩, xp_NoNumbers_NoWeights⟩
      · exact ⟨⟨xi_NoText, xj_NoText, xs_NoText, xd_NoText, xf_NoText, xn, xh, xo_NoText⟩, xp_NoText_NoWeights⟩
      · exact ⟨⟨xi_NoRow, xj_NoRow, xs_NoRow, xd_NoRow, xf_NoRow, xn, xh, xo_NoRow⟩, xp_NoRow_NoWeights⟩
      · exact ⟨⟨xi_NotThere, xj_NotThere, xs_NotThere, xd_NotThere, xf_NotThere, xn, xh, xo_NotThere⟩, xp_NotThere_NoWeights⟩),
    (fun tg h => by
      simp only [List.mem_cons, List.not_mem_nil, or_false] at h
      rcases h with rfl | rfl | rfl | rfl | rfl | rfl | rfl | rfl | rfl | rfl | rfl | rfl | rfl | rfl | rfl | rfl
      · exact ⟨⟨xi_NoStock, xj_NoStock, xs_NoStock, xd_NoStock, xf_NoStock, xn, xh, xo_NoStock⟩, xp_NoStock_NoText⟩
      · exact ⟨⟨xi_NoDrawing, xj_NoDrawing, xs_NoDrawing, xd_NoDrawing, xf_NoDrawing, xn, xh, xo_NoDrawing⟩, xp_NoDrawing_NoText⟩
      · exact ⟨⟨xi_NoRenaming, xj_NoRenaming, xs_NoRenaming, xd_NoRenaming, xf_NoRenaming, xn, xh, xo_NoRenaming⟩, xp_NoRenaming_NoText⟩
      · exact ⟨⟨xi_NoMatch, xj_NoMatch, xs_NoMatch, xd_NoMatch, xf_NoMatch, xn, xh, xo_NoMatch⟩, xp_NoMatch_NoText⟩
      · exact ⟨⟨xi_TooMany, xj_TooMany, xs_TooMany, xd_TooMany, xf_TooMany, xn, xh, xo_TooMany⟩, xp_TooMany_NoText⟩
      · exact ⟨⟨xi_NoPairing, xj_NoPairing, xs_NoPairing, xd_NoPairing, xf_NoPairing, xn, xh, xo_NoPairing⟩, xp_NoPairing_NoText⟩
      · exact ⟨⟨xi_NoJoin, xj_NoJoin, xs_NoJoin, xd_NoJoin, xf_NoJoin, xn, xh, xo_NoJoin⟩, xp_NoJoin_NoText⟩
      · exact ⟨⟨xi_NoName, xj_NoName, xs_NoName, xd_NoName, xf_NoName, xn, xh, xo_NoName⟩, xp_NoName_NoText⟩
      · exact ⟨⟨xi_NoLeg, xj_NoLeg, xs_NoLeg, xd_NoLeg, xf_NoLeg, xn, xh, xo_NoLeg⟩, xp_NoLeg_NoText⟩
      · exact ⟨⟨xi_NoCounts, xj_NoCounts, xs_NoCounts, xd_NoCounts, xf_NoCounts, xn, xh, xo_NoCounts⟩, xp_NoCounts_NoText⟩
      · exact ⟨⟨xi_NoWeights, xj_NoWeights, xs_NoWeights, xd_NoWeights, xf_NoWeights, xn, xh, xo_NoWeights⟩, xp_NoWeights_NoText⟩
      · exact ⟨⟨xi_NoColours, xj_NoColours, xs_NoColours, xd_NoColours, xf_NoColours, xn, xh, xo_NoColours⟩, xp_NoColours_NoText⟩
      · exact ⟨⟨xi_NoNumbers, xj_NoNumbers, xs_NoNumbers, xd_NoNumbers, xf_NoNumbers, xn, xh, xo_NoNumbers⟩, xp_NoNumbers_NoText⟩
      · exact ⟨⟨xi_NoText, xj_NoText, xs_NoText, xd_NoText, xf_NoText, xn, xh, xo_NoText⟩, if_pos (beq_self_eq_true _)⟩
      · exact ⟨⟨xi_NoRow, xj_NoRow, xs_NoRow, xd_NoRow, xf_NoRow, xn, xh, xo_NoRow⟩, xp_NoRow_NoText⟩
      · exact ⟨⟨xi_NotThere, xj_NotThere, xs_NotThere, xd_NotThere, xf_NotThere, xn, xh, xo_NotThere⟩, xp_NotThere_NoText⟩),
    (fun tg h => by
      simp only [List.mem_cons, List.not_mem_nil, or_false] at h
      rcases h with rfl | rfl | rfl | rfl | rfl | rfl | rfl | rfl | rfl | rfl | rfl | rfl | rfl | rfl | rfl | rfl
      · exact ⟨⟨xi_NoStock, xj_NoStock, xs_NoStock, xd_NoStock, xf_NoStock, xn, xh, xo_NoStock⟩, xp_NoStock_NotThere⟩
      · exact ⟨⟨xi_NoDrawing, xj_NoDrawing, xs_NoDrawing, xd_NoDrawing, xf_NoDrawing, xn, xh, xo_NoDrawing⟩, xp_NoDrawing_NotThere⟩
      · exact ⟨⟨xi_NoRenaming, xj_NoRenaming, xs_NoRenaming, xd_NoRenaming, xf_NoRenaming, xn, xh, xo_NoRenaming⟩, xp_NoRenaming_NotThere⟩
      · exact ⟨⟨xi_NoMatch, xj_NoMatch, xs_NoMatch, xd_NoMatch, xf_NoMatch, xn, xh, xo_NoMatch⟩, xp_NoMatch_NotThere⟩
      · exact ⟨⟨xi_TooMany, xj_TooMany, xs_TooMany, xd_TooMany, xf_TooMany, xn, xh, xo_TooMany⟩, xp_TooMany_NotThere⟩
      · exact ⟨⟨xi_NoPairing, xj_NoPairing, xs_NoPairing, xd_NoPairing, xf_NoPairing, xn, xh, xo_NoPairing⟩, xp_NoPairing_NotThere⟩
      · exact ⟨⟨xi_NoJoin, xj_NoJoin, xs_NoJoin, xd_NoJoin, xf_NoJoin, xn, xh, xo_NoJoin⟩, xp_NoJoin_NotThere⟩
      · exact ⟨⟨xi_NoName, xj_NoName, xs_NoName, xd_NoName, xf_NoName, xn, xh, xo_NoName⟩, xp_NoName_NotThere⟩
      · exact ⟨⟨xi_NoLeg, xj_NoLeg, xs_NoLeg, xd_NoLeg, xf_NoLeg, xn, xh, xo_NoLeg⟩, xp_NoLeg_NotThere⟩
      · exact ⟨⟨xi_NoCounts, xj_NoCounts, xs_NoCounts, xd_NoCounts, xf_NoCounts, xn, xh, xo_NoCounts⟩, xp_NoCounts_NotThere⟩
      · exact ⟨⟨xi_NoWeights, xj_NoWeights, xs_NoWeights, xd_NoWeights, xf_NoWeights, xn, xh, xo_NoWeights⟩, xp_NoWeights_NotThere⟩
      · exact ⟨⟨xi_NoColours, xj_NoColours, xs_NoColours, xd_NoColours, xf_NoColours, xn, xh, xo_NoColours⟩, xp_NoColours_NotThere⟩
      · exact ⟨⟨xi_NoNumbers, xj_NoNumbers, xs_NoNumbers, xd_NoNumbers, xf_NoNumbers, xn, xh, xo_NoNumbers⟩, xp_NoNumbers_NotThere⟩
      · exact ⟨⟨xi_NoText, xj_NoText, xs_NoText, xd_NoText, xf_NoText, xn, xh, xo_NoText⟩, xp_NoText_NotThere⟩
      · exact ⟨⟨xi_NoRow, xj_NoRow, xs_NoRow, xd_NoRow, xf_NoRow, xn, xh, xo_NoRow⟩, xp_NoRow_NotThere⟩
      · exact ⟨⟨xi_NotThere, xj_NotThere, xs_NotThere, xd_NotThere, xf_NotThere, xn, xh, xo_NotThere⟩, if_pos (beq_self_eq_true _)⟩),
    (fun tg h => by
      simp only [List.mem_cons, List.not_mem_nil, or_false] at h
      rcases h with rfl | rfl | rfl | rfl | rfl | rfl | rfl | rfl | rfl | rfl | rfl | rfl | rfl | rfl | rfl | rfl
      · exact ⟨⟨xi_NoStock, xj_NoStock, xs_NoStock, xd_NoStock, xf_NoStock, xn, xh, xo_NoStock⟩, xw_NoStock⟩
      · exact ⟨⟨xi_NoDrawing, xj_NoDrawing, xs_NoDrawing, xd_NoDrawing, xf_NoDrawing, xn, xh, xo_NoDrawing⟩, xw_NoDrawing⟩
      · exact ⟨⟨xi_NoRenaming, xj_NoRenaming, xs_NoRenaming, xd_NoRenaming, xf_NoRenaming, xn, xh, xo_NoRenaming⟩, xw_NoRenaming⟩
      · exact ⟨⟨xi_NoMatch, xj_NoMatch, xs_NoMatch, xd_NoMatch, xf_NoMatch, xn, xh, xo_NoMatch⟩, xw_NoMatch⟩
      · exact ⟨⟨xi_TooMany, xj_TooMany, xs_TooMany, xd_TooMany, xf_TooMany, xn, xh, xo_TooMany⟩, xw_TooMany⟩
      · exact ⟨⟨xi_NoPairing, xj_NoPairing, xs_NoPairing, xd_NoPairing, xf_NoPairing, xn, xh, xo_NoPairing⟩, xw_NoPairing⟩
      · exact ⟨⟨xi_NoJoin, xj_NoJoin, xs_NoJoin, xd_NoJoin, xf_NoJoin, xn, xh, xo_NoJoin⟩, xw_NoJoin⟩
      · exact ⟨⟨xi_NoName, xj_NoName, xs_NoName, xd_NoName, xf_NoName, xn, xh, xo_NoName⟩, xw_NoName⟩
      · exact ⟨⟨xi_NoLeg, xj_NoLeg, xs_NoLeg, xd_NoLeg, xf_NoLeg, xn, xh, xo_NoLeg⟩, xw_NoLeg⟩
      · exact ⟨⟨xi_NoCounts, xj_NoCounts, xs_NoCounts, xd_NoCounts, xf_NoCounts, xn, xh, xo_NoCounts⟩, xw_NoCounts⟩
      · exact ⟨⟨xi_NoWeights, xj_NoWeights, xs_NoWeights, xd_NoWeights, xf_NoWeights, xn, xh, xo_NoWeights⟩, xw_NoWeights⟩
      · exact ⟨⟨xi_NoColours, xj_NoColours, xs_NoColours, xd_NoColours, xf_NoColours, xn, xh, xo_NoColours⟩, xw_NoColours⟩
      · exact ⟨⟨xi_NoNumbers, xj_NoNumbers, xs_NoNumbers, xd_NoNumbers, xf_NoNumbers, xn, xh, xo_NoNumbers⟩, xw_NoNumbers⟩
      · exact ⟨⟨xi_NoText, xj_NoText, xs_NoText, xd_NoText, xf_NoText, xn, xh, xo_NoText⟩, xw_NoText⟩
      · exact ⟨⟨xi_NoRow, xj_NoRow, xs_NoRow, xd_NoRow, xf_NoRow, xn, xh, xo_NoRow⟩, xw_NoRow⟩
      · exact ⟨⟨xi_NotThere, xj_NotThere, xs_NotThere, xd_NotThere, xf_NotThere, xn, xh, xo_NotThere⟩, xw_NotThere⟩),
    (fun tg h => by
      simp only [List.mem_cons, List.not_mem_nil, or_false] at h
      rcases h with rfl | rfl | rfl | rfl | rfl | rfl | rfl | rfl | rfl | rfl | rfl | rfl | rfl | rfl | rfl | rfl
      · exact ⟨⟨xi_NoStock, xj_NoStock, xs_NoStock, xd_NoStock, xf_NoStock, xn, xh, xo_NoStock⟩, xW_NoStock⟩
      · exact ⟨⟨xi_NoDrawing, xj_NoDrawing, xs_NoDrawing, xd_NoDrawing, xf_NoDrawing, xn, xh, xo_NoDrawing⟩, xW_NoDrawing⟩
      · exact ⟨⟨xi_NoRenaming, xj_NoRenaming, xs_NoRenaming, xd_NoRenaming, xf_NoRenaming, xn, xh, xo_NoRenaming⟩, xW_NoRenaming⟩
      · exact ⟨⟨xi_NoMatch, xj_NoMatch, xs_NoMatch, xd_NoMatch, xf_NoMatch, xn, xh, xo_NoMatch⟩, xW_NoMatch⟩
      · exact ⟨⟨xi_TooMany, xj_TooMany, xs_TooMany, xd_TooMany, xf_TooMany, xn, xh, xo_TooMany⟩, xW_TooMany⟩
      · exact ⟨⟨xi_NoPairing, xj_NoPairing, xs_NoPairing, xd_NoPairing, xf_NoPairing, xn, xh, xo_NoPairing⟩, xW_NoPairing⟩
      · exact ⟨⟨xi_NoJoin, xj_NoJoin, xs_NoJoin, xd_NoJoin, xf_NoJoin, xn, xh, xo_NoJoin⟩, xW_NoJoin⟩
      · exact ⟨⟨xi_NoName, xj_NoName, xs_NoName, xd_NoName, xf_NoName, xn, xh, xo_NoName⟩, xW_NoName⟩
      · exact ⟨⟨xi_NoLeg, xj_NoLeg, xs_NoLeg, xd_NoLeg, xf_NoLeg, xn, xh, xo_NoLeg⟩, xW_NoLeg⟩
      · exact ⟨⟨xi_NoCounts, xj_NoCounts, xs_NoCounts, xd_NoCounts, xf_NoCounts, xn, xh, xo_NoCounts⟩, xW_NoCounts⟩
      · exact ⟨⟨xi_NoWeights, xj_NoWeights, xs_NoWeights, xd_NoWeights, xf_NoWeights, xn, xh, xo_NoWeights⟩, xW_NoWeights⟩
      · exact ⟨⟨xi_NoColours, xj_NoColours, xs_NoColours, xd_NoColours, xf_NoColours, xn, xh, xo_NoColours⟩, xW_NoColours⟩
      · exact ⟨⟨xi_NoNumbers, xj_NoNumbers, xs_NoNumbers, xd_NoNumbers, xf_NoNumbers, xn, xh, xo_NoNumbers⟩, xW_NoNumbers⟩
      · exact ⟨⟨xi_NoText, xj_NoText, xs_NoText, xd_NoText, xf_NoText, xn, xh, xo_NoText⟩, xW_NoText⟩
      · exact ⟨⟨xi_NoRow, xj_NoRow, xs_NoRow, xd_NoRow, xf_NoRow, xn, xh, xo_NoRow⟩, xW_NoRow⟩
      · exact ⟨⟨xi_NotThere, xj_NotThere, xs_NotThere, xd_NotThere, xf_NotThere, xn, xh, xo_NotThere⟩, xW_NotThere⟩),
    (fun tg h => by
      simp only [List.mem_cons, List.not_mem_nil, or_false] at h
      rcases h with rfl | rfl | rfl
      · exact ⟨⟨xi_NoStock, xj_NoStock, xs_NoStock, xd_NoStock⟩, xz_NoStock⟩
      · exact ⟨⟨xi_NoDrawing, xj_NoDrawing, xs_NoDrawing, xd_NoDrawing⟩, xz_NoDrawing⟩
      · exact ⟨⟨xi_NoWeights, xj_NoWeights, xs_NoWeights, xd_NoWeights⟩, xz_NoWeights⟩),
    (fun tg h => by
      simp only [List.mem_cons, List.not_mem_nil, or_false] at h
      subst h
      exact ⟨⟨xi_NotThere, xj_NotThere, xs_NotThere, xd_NotThere⟩, xz_NotThere⟩),
    (fun tg h => by
      simp only [List.mem_cons, List.not_mem_nil, or_false] at h
      subst h
      exact ⟨⟨xi_NoText, xj_NoText, xs_NoText, xd_NoText⟩, xz_NoText⟩)⟩
  refine ⟨PySem.W.fnOf "law" "law" (defArgs s_law) (defBody s_law) (defScope s_law) .none kV dc pm an cd ct, fun s v => .of_eq rfl, fun base _ _ => ?_⟩
  have hx_NoDrawing : ExF P w K mg base C_NoDrawing "part" := by
    obtain ⟨fd1, e1, e2, e3, e4⟩ := xM_NoDrawing.ex
    exact ⟨⟨oex_cls xQ_NoDrawing xd_NoDrawing, xu_NoDrawing, xs_NoDrawing, xt_NoDrawing, xL_NoDrawing⟩, xz_NoDrawing, ⟨_, fd1, ["self", "part"], e1, xF_NoDrawing, e3.binds fun _ _ _ _ _ _ us hl => match us, hl with | [_, _], _ => rfl, ok_NoDrawing___init__ (c := (Cs.mk 0 0 0 0 (fun n => ([C_EndError, C_NoStock, C_NoDrawing, C_NoRenaming, C_NoMatch, C_TooMany, C_NoPairing, C_NoJoin, C_NoName, C_NoLeg, C_NoCounts, C_NoWeights, C_NoColours, C_NoNumbers, C_NoText, C_NoRow, C_NotThere] : List Addr).getD n 0) w)) e3 ⟨xeg_End, xem_End, xer_End, xee_End⟩ (PySem.W.mg_of X G xa_EndError)⟩⟩
  have hx_NoStock : ExF P w K mg base C_NoStock "part" := by
    obtain ⟨fd1, e1, e2, e3, e4⟩ := xM_NoStock.ex
    exact ⟨⟨oex_cls xQ_NoStock xd_NoStock, xu_NoStock, xs_NoStock, xt_NoStock, xL_NoStock⟩, xz_NoStock, ⟨_, fd1, ["self", "part"], e1, xF_NoStock, e3.binds fun _ _ _ _ _ _ us hl => match us, hl with | [_, _], _ => rfl, ok_NoStock___init__ (c := (Cs.mk 0 0 0 0 (fun n => ([C_EndError, C_NoStock, C_NoDrawing, C_NoRenaming, C_NoMatch, C_TooMany, C_NoPairing, C_NoJoin, C_NoName, C_NoLeg, C_NoCounts, C_NoWeights, C_NoColours, C_NoNumbers, C_NoText, C_NoRow, C_NotThere] : List Addr).getD n 0) w)) e3 ⟨xeg_End, xem_End, xer_End, xee_End⟩ (PySem.W.mg_of X G xa_EndError)⟩⟩
  have hx_NoText : ExF P w K mg base C_NoText "at" := by
    obtain ⟨fd1, e1, e2, e3, e4⟩ := xM_NoText.ex
    exact ⟨⟨oex_cls xQ_NoText xd_NoText, xu_NoText, xs_NoText, xt_NoText, xL_NoText⟩, xz_NoText, ⟨_, fd1, ["self", "at"], e1, xF_NoText, e3.binds fun _ _ _ _ _ _ us hl => match us, hl with | [_, _], _ => rfl, ok_NoText___init__ (c := (Cs.mk 0 0 0 0 (fun n => ([C_EndError, C_NoStock, C_NoDrawing, C_NoRenaming, C_NoMatch, C_TooMany, C_NoPairing, C_NoJoin, C_NoName, C_NoLeg, C_NoCounts, C_NoWeights, C_NoColours, C_NoNumbers, C_NoText, C_NoRow, C_NotThere] : List Addr).getD n 0) w)) e3 ⟨xeg_End, xem_End, xer_End, xee_End⟩ (PySem.W.mg_of X G xa_EndError)⟩⟩
  have hx_NoWeights : ExF P w K mg base C_NoWeights "part" := by
    obtain ⟨fd1, e1, e2, e3, e4⟩ := xM_NoWeights.ex
    exact ⟨⟨oex_cls xQ_NoWeights xd_NoWeights, xu_NoWeights, xs_NoWeights, xt_NoWeights, xL_NoWeights⟩, xz_NoWeights, ⟨_, fd1, ["self", "part"], e1, xF_NoWeights, e3.binds fun _ _ _ _ _ _ us hl => match us, hl with | [_, _], _ => rfl, ok_NoWeights___init__ (c := (Cs.mk 0 0 0 0 (fun n => ([C_EndError, C_NoStock, C_NoDrawing, C_NoRenaming, C_NoMatch, C_TooMany, C_NoPairing, C_NoJoin, C_NoName, C_NoLeg, C_NoCounts, C_NoWeights, C_NoColours, C_NoNumbers, C_NoText, C_NoRow, C_NotThere] : List Addr).getD n 0) w)) e3 ⟨xeg_End, xem_End, xer_End, xee_End⟩ (PySem.W.mg_of X G xa_EndError)⟩⟩
  have hx_NotThere : ExF P w K mg base C_NotThere "name" := by
    obtain ⟨fd1, e1, e2, e3, e4⟩ := xM_NotThere.ex
    exact ⟨⟨oex_cls xQ_NotThere xd_NotThere, xu_NotThere, xs_NotThere, xt_NotThere, xL_NotThere⟩, xz_NotThere, ⟨_, fd1, ["self", "name"], e1, xF_NotThere, e3.binds fun _ _ _ _ _ _ us hl => match us, hl with | [_, _], _ => rfl, ok_NotThere___init__ (c := (Cs.mk 0 0 0 0 (fun n => ([C_EndError, C_NoStock, C_NoDrawing, C_NoRenaming, C_NoMatch, C_TooMany, C_NoPairing, C_NoJoin, C_NoName, C_NoLeg, C_NoCounts, C_NoWeights, C_NoColours, C_NoNumbers, C_NoText, C_NoRow, C_NotThere] : List Addr).getD n 0) w)) e3 ⟨xeg_End, xem_End, xer_End, xee_End⟩ (PySem.W.mg_of X G xa_EndError)⟩⟩
  have h__law_source_of := callN_of (P := P) (w := w) (base := base) d__law_source_of X G (fun F => F.binds fun _ _ _ _ _ _ us hl => match us, hl with | [_], _ => rfl) (fun F => ok__law_source_of F T )
  have h__law_next := callI_of (P := P) (w := w) (base := base) d__law_next X G (fun F => F.binds fun _ _ _ _ _ _ us hl => match us, hl with | [_, _], _ => rfl) (fun F => ok__law_next F T )
  have h__law_one := callI_of (P := P) (w := w) (base := base) d__law_one X G (fun F => F.binds fun _ _ _ _ _ _ us hl => match us, hl with | [_, _], _ => rfl) (fun F => ok__law_one F T h__law_next)
  have h__law_classes := callP_of (P := P) (w := w) (base := base) d__law_classes X G (fun F => F.binds fun _ _ _ _ _ _ us hl => match us, hl with | [_], _ => rfl) (fun F => ok__law_classes F T )
  exact ok_law h2 T h__law_source_of h__law_one h__law_classes hx_NoStock hx_NoDrawing hx_NoWeights hx_NoText hx_NotThere (hm _)
theorem walk {l : PySem.W.OpenLaw} {q : Program} {loose : List Str} {XP : (Str → Option Value) → Heap → Prop} {YP : World → Heap → Prop} {d : DefRec} {K : Params → Fg} (hn : l.most = some 63) (hdf : d.params.defaults = [])
    (hY : ∀ (w : World) (h : Heap), YP w h → (K w.params).In h) (F : ∀ (w : World) (mg : Str → Option Value) (fa : Addr) (h : Heap), (K w.params).In h → h.Ns mainGlobals mg → mg d.name = some (.ref fa) →
      ∃ fd : FuncData, (∀ (s : Shared) (u : Value), BindsTo s fd ⟨[u], []⟩ [("_law_script", u)]) ∧ ∀ base : Heap, (K w.params).In base → base.Ns mainGlobals mg → FnOk l.prog w (K w.params) mg base CX0 3 fa fd ["_law_script"] (spLawD (K w.params))) :
    PySem.W.WalkO q loose XP YP l.row.toRowW d [] (fun f vs => PySem.call f vs) :=
  L2.walk_of (n := 63) (k := 3) (x := "_law_script") (CX := fun _ => CX0) (sp := fun w => spLawD (K w.params)) hn (by decide) hdf ⟨rfl, by decide, by decide⟩ hY F (fun _ _ a ns hl _ hS => ⟨a, ns, rfl, hS, hl, fun _ => rfl⟩) fun _ _ _ _ _ z => z
end GA

set_option Elab.async false
set_option linter.all false
set_option maxRecDepth 100000
set_option maxHeartbeats 1000000
/-! MK07: the law of refusals apart. -/
namespace GA
open PySem L2 DL G
theorem isOb_n {cx : Nat → Addr} {L : List Nat} {tb : Nat → Bool} {n : Nat} {ns : List Str} {ds : List D} (h : n ∈ L) : isOb cx L tb (.ob n (cx n) ns ds) = some (.bl (tb n)) := if_pos ⟨rfl, h⟩
def tagsL : List Nat := [3, 4, 5, 6, 7, 8, 9, 10, 12, 13, 15, 1, 2, 11, 14, 16]
def er (c : Cs) (d : D) (t : Nat) : D := .ob t (c.x t) (if t = 1 ∨ t = 2 ∨ t = 11 then ["part"] else if t = 14 then ["at"] else if t = 16 then ["name"] else []) (if t = 1 ∨ t = 2 ∨ t = 11 ∨ t = 14 ∨ t = 16 then [d] else [])
theorem classes_ok (c : Cs) {n : Nat} (h : n ∈ OBL) (ns : List Str) (ds : List D) : g__law_classes c [.ob n (c.x n) ns ds] = some (.lst (tagsL.map fun j => .bl (decide (n = j)))) := by
  have e : ∀ tb, isOb c.x OBL tb (.ob n (c.x n) ns ds) = some (.bl (tb n)) := fun tb => isOb_n h
  obtain ⟨X, hX⟩ : ∃ X, X = D.ob n (c.x n) ns ds := ⟨_, rfl⟩
  rw [← hX] at e ⊢
  have a : ∀ xs ys : List D, xs.length + ys.length ≤ 100 → addD (.lst xs) (.lst ys) = some (.lst (xs ++ ys)) := fun xs ys h => by simp [addD, fI0, fStrCat, fCatL, LB, show xs.length + ys.length ≤ 1000000 by omega]
  simp_arith only [g__law_classes, m__law_classes, e, a, List.length_cons, List.length_nil, List.length_append, Nat.reduceAdd, Nat.reduceLeDiff, List.cons_append, List.nil_append, tagsL, List.map_cons, List.map_nil]
theorem ne_row : ∀ i, i < 16 → neD (.lst (tagsL.map fun j => .bl (decide (tagsL.getD i 0 = j)))) (.lst ((List.range 16).map fun k => .bl (decide (k = i)))) = some (.bl false) := by
  have : ∀ i ∈ List.range 16, (match neD (.lst (tagsL.map fun j => .bl (decide (tagsL.getD i 0 = j)))) (.lst ((List.range 16).map fun k => .bl (decide (k = i)))) with | some (.bl false) => true | _ => false) = true := by decide +kernel
  intro i hi
  have h := this i (List.mem_range.mpr hi)
  split at h
  · assumption
  · cases h
def vals7 : List D := [.str "kinds", .str "joins", .int 0, .int 7, .non, .str "stock", .str "a"]
def isF (o : Option D) : Bool := match o with
  | some (.bl false) => true
  | _ => false
theorem isF_some {o : Option D} (h : isF o = true) : o = some (.bl false) := by
  unfold isF at h
  split at h
  · rfl
  · cases h
theorem ne_val : ∀ d ∈ vals7, neD d d = some (.bl false) ∧ neD (.lst [d, d, d]) (.lst [d, d, d]) = some (.bl false) := by
  have : ∀ d ∈ vals7, isF (neD d d) = true ∧ isF (neD (.lst [d, d, d]) (.lst [d, d, d])) = true := by decide +kernel
  intro d h
  exact ⟨isF_some (this d h).1, isF_some (this d h).2⟩
theorem ret_e {α : Type} (a : α) (δ : En) : M.ret a δ = some (.ok a δ) := (rfl)
theorem law_turn (c : Cs) (n : Int) (f0 f2 f3 f4 f5 f6 f7 f8 : Sl) : ∃ s2 s3 s4 s5 s6 s7 s8, B_law_1 c [f0, .fr (.int n), f2, f3, f4, f5, f6, f7, f8] = some (.nx [f0, .fr (.int n), s2, s3, s4, s5, s6, s7, s8]) := by
  obtain ⟨R, h1, hR⟩ := source_ok c n
  obtain ⟨i, hi, R', h2, _⟩ := one_spec c hR (by decide) (ds := vals7) (by decide) (by decide)
  obtain ⟨d, hd⟩ : ∃ d, d = vals7[i] := ⟨_, rfl⟩
  obtain ⟨v1, v2⟩ := ne_val d (hd ▸ List.getElem_mem hi)
  rw [← hd] at h2
  have h2' : g__law_one c [R, .lst [.str "kinds", .str "joins", .int 0, .int 7, .non, .str "stock", .str "a"]] = some (d, R') := h2
  have a1 : addD (.lst [.ob 3 (c.x 3) [] [], .ob 4 (c.x 4) [] [], .ob 5 (c.x 5) [] [], .ob 6 (c.x 6) [] [], .ob 7 (c.x 7) [] [], .ob 8 (c.x 8) [] [], .ob 9 (c.x 9) [] []]) (.lst [.ob 10 (c.x 10) [] [], .ob 12 (c.x 12) [] [], .ob 13 (c.x 13) [] [], .ob 15 (c.x 15) [] []]) =
    some (.lst [.ob 3 (c.x 3) [] [], .ob 4 (c.x 4) [] [], .ob 5 (c.x 5) [] [], .ob 6 (c.x 6) [] [], .ob 7 (c.x 7) [] [], .ob 8 (c.x 8) [] [], .ob 9 (c.x 9) [] [], .ob 10 (c.x 10) [] [], .ob 12 (c.x 12) [] [], .ob 13 (c.x 13) [] [], .ob 15 (c.x 15) [] []]) := rfl
  have a2 : addD (.lst [.ob 1 (c.x 1) ["part"] [d], .ob 2 (c.x 2) ["part"] [d], .ob 11 (c.x 11) ["part"] [d]]) (.lst [.ob 14 (c.x 14) ["at"] [d], .ob 16 (c.x 16) ["name"] [d]]) = some (.lst [.ob 1 (c.x 1) ["part"] [d], .ob 2 (c.x 2) ["part"] [d], .ob 11 (c.x 11) ["part"] [d], .ob 14 (c.x 14) ["at"] [d], .ob 16 (c.x 16) ["name"] [d]]) := rfl
  obtain ⟨PL, hPL⟩ : ∃ PL, PL = D.lst [.ob 3 (c.x 3) [] [], .ob 4 (c.x 4) [] [], .ob 5 (c.x 5) [] [], .ob 6 (c.x 6) [] [], .ob 7 (c.x 7) [] [], .ob 8 (c.x 8) [] [], .ob 9 (c.x 9) [] [], .ob 10 (c.x 10) [] [], .ob 12 (c.x 12) [] [], .ob 13 (c.x 13) [] [], .ob 15 (c.x 15) [] []] := ⟨_, rfl⟩
  obtain ⟨VL, hVL⟩ : ∃ VL, VL = D.lst [.ob 1 (c.x 1) ["part"] [d], .ob 2 (c.x 2) ["part"] [d], .ob 11 (c.x 11) ["part"] [d], .ob 14 (c.x 14) ["at"] [d], .ob 16 (c.x 16) ["name"] [d]] := ⟨_, rfl⟩
  have a3 : addD PL VL = some (.lst (tagsL.map (er c d))) := by rw [hPL, hVL]; rfl
  have en : enumF [.lst (tagsL.map (er c d))] = some (tagsL.zipIdx.map fun p => .tup [.int (p.2 : Nat), er c d p.1]) := congrArg some (enum_map (er c d) tagsL)
  have s3 : slD VL none (some 3) = some (.lst ([1, 2, 11].map (er c d))) := by rw [hVL]; rfl
  have i3 : ixD VL (.int 3) = some (.ob 14 (c.x 14) ["at"] [d]) := by rw [hVL]; rfl
  have i4 : ixD VL (.int 4) = some (.ob 16 (c.x 16) ["name"] [d]) := by rw [hVL]; rfl
  have b3 : obF c.x [14] "at" (.ob 14 (c.x 14) ["at"] [d]) = some d := if_pos ⟨⟨rfl, by decide⟩, rfl⟩
  have b4 : obF c.x [16] "name" (.ob 16 (c.x 16) ["name"] [d]) = some d := if_pos ⟨⟨rfl, by decide⟩, rfl⟩
  have rp : repF (.lst [d]) (.int 3) = some [d, d, d] := rfl
  obtain ⟨δ', h3, s4, s5, s6, s7, s8, e4, e5, rfl⟩ := forL_ix (as := tagsL.zipIdx) (enc := fun p => .tup [.int (p.2 : Nat), er c d p.1]) (g := gT (gsC (gN 6) (gsC (gN 7) gs0))) (b := B_law_0 c)
    (fun _ δ => ∃ s4 s5 s6 s7 s8, s4 = Sl.fr PL ∧ s5 = Sl.fr VL ∧ δ = [f0, .fr (.int n), .ow R', .fr d, s4, s5, s6, s7, s8]) (δ := [f0, .fr (.int n), .ow R', .fr d, .fr PL, .fr VL, f6, f7, f8]) ⟨_, _, _, _, _, rfl, rfl, rfl⟩ (by
      rintro k a δ ha ⟨s4, s5, s6, s7, s8, rfl, rfl, rfl⟩
      obtain ⟨hk, ea⟩ := List.getElem?_eq_some_iff.mp ha
      rw [List.length_zipIdx] at hk
      rw [List.getElem_zipIdx, Nat.zero_add] at ea
      subst ea
      have hk16 : k < 16 := hk
      have hm : tagsL[k] ∈ OBL := by
        have : ∀ t ∈ tagsL, t ∈ OBL := by decide
        exact this _ (List.getElem_mem hk)
      obtain ⟨ns, ds, hE⟩ : ∃ ns ds, er c d tagsL[k] = .ob tagsL[k] (c.x tagsL[k]) ns ds := ⟨_, _, rfl⟩
      have g1 := classes_ok c hm ns ds
      have g2 : ∀ tb, isOb c.x OBL tb (.ob tagsL[k] (c.x tagsL[k]) ns ds) = some (.bl (tb tagsL[k])) := fun tb => isOb_n hm
      rw [← hE] at g1 g2
      obtain ⟨E, hEE⟩ : ∃ E, E = er c d tagsL[k] := ⟨_, rfl⟩
      rw [← hEE] at g1 g2
      have g3 := ne_row k hk16
      have gd : tagsL.getD k 0 = tagsL[k] := by rw [List.getD_eq_getElem?_getD, List.getElem?_eq_getElem hk]; rfl
      rw [gd] at g3
      have rg : rg1 [.int 16] = some ((List.range 16).map nI) := rg1_nat (n := 16) (by decide)
      have lc : L_law_0 c [f0, .fr (.int n), .ow R', .fr d, .fr PL, .fr VL, .fr (.int (k : Nat)), .fr E, s8] = some (.ok (.lst ((List.range 16).map fun j => .bl (decide (j = k)))) [f0, .fr (.int n), .ow R', .fr d, .fr PL, .fr VL, .fr (.int (k : Nat)), .fr E, .un]) := by
        refine mLc_map (as := List.range 16) (enc := nI) (δ0 := [f0, .fr (.int n), .ow R', .fr d, .fr PL, .fr VL, .fr (.int (k : Nat)), .fr E, s8]) (by simp_arith only [rg]) rfl fun j hj =>
          ⟨[f0, .fr (.int n), .ow R', .fr d, .fr PL, .fr VL, .fr (.int (k : Nat)), .fr E, .fr (nI j)], [f0, .fr (.int n), .ow R', .fr d, .fr PL, .fr VL, .fr (.int (k : Nat)), .fr E, .fr (nI j)], rfl, ?_, rfl⟩
        have q : eqD (nI j) (.int (k : Nat)) = some (.bl (decide (j = k))) := by
          rw [show nI j = D.int (j : Nat) from rfl, eqD_int]
          congr 2
          rw [decide_eq_decide]; omega
        simp_arith only [E_law_0, q]
      refine ⟨[f0, .fr (.int n), .ow R', .fr d, .fr PL, .fr VL, .fr (.int (k : Nat)), .fr E, s8], [f0, .fr (.int n), .ow R', .fr d, .fr PL, .fr VL, .fr (.int (k : Nat)), .fr E, .un], ?_, ?_, _, _, _, _, _, rfl, rfl, rfl⟩
      · rw [hEE]; rfl
      · simp_arith only [B_law_0, g1, g2, lc, g3])
  subst e4 e5
  have l1 : L_law_1 c [f0, .fr (.int n), .ow R', .fr d, .fr PL, .fr VL, s6, s7, s8] = some (.ok (.lst [d, d, d]) [f0, .fr (.int n), .ow R', .fr d, .fr PL, .fr VL, s6, .un, s8]) := by
    have := mLc_map (as := [1, 2, 11]) (enc := er c d) (f := fun _ => d) (it := mSeqOf (mSl slD (mOv 5) mpNone (mpSome (mC (.int 3))))) (g := gN 7) (e := E_law_1 c) (vs := [7]) (δ := [f0, .fr (.int n), .ow R', .fr d, .fr PL, .fr VL, s6, s7, s8]) (δ0 := [f0, .fr (.int n), .ow R', .fr d, .fr PL, .fr VL, s6, s7, s8]) (by simp_arith only [s3]) rfl fun t ht =>
      ⟨[f0, .fr (.int n), .ow R', .fr d, .fr PL, .fr VL, s6, .fr (er c d t), s8], [f0, .fr (.int n), .ow R', .fr d, .fr PL, .fr VL, s6, .fr (er c d t), s8], rfl, (by
        have : obF c.x [1, 2, 11] "part" (er c d t) = some d := by
          simp only [List.mem_cons, List.not_mem_nil, or_false] at ht
          rcases ht with rfl | rfl | rfl <;> exact if_pos ⟨⟨rfl, by decide⟩, rfl⟩
        simp_arith only [E_law_1, this]), rfl⟩
    exact this
  refine ⟨.ow R', .fr d, .fr PL, .fr VL, s6, .un, s8, ?_⟩
  simp_arith only [B_law_1, mEr0, mErF, bind_e, ret_e, h1, h2', a1, a2, ← hPL, ← hVL, a3, en, h3, l1, rp, v2, i3, i4, b3, b4, v1]
theorem law_ok : ∀ c, lawOk (m_law c) N_law.length := fun c ns hl => by
  obtain ⟨δ', h1, ⟨s1, s2, s3, s4, s5, s6, s7, s8, rfl⟩⟩ := forL_ix (enc := D.int) (g := gN 1) (b := B_law_1 c) (as := ns.take 6 ++ [0, 1])
    (fun _ δ => ∃ s1 s2 s3 s4 s5 s6 s7 s8, δ = [.sc ns, s1, s2, s3, s4, s5, s6, s7, s8])
    (δ := [.sc ns, .un, .un, .un, .un, .un, .un, .un, .un]) ⟨_, _, _, _, _, _, _, _, rfl⟩ (by
      rintro i n δ _ ⟨s1, s2, s3, s4, s5, s6, s7, s8, rfl⟩
      obtain ⟨t2, t3, t4, t5, t6, t7, t8, h⟩ := law_turn c n (.sc ns) s2 s3 s4 s5 s6 s7 s8
      exact ⟨_, _, rfl, h, _, _, _, _, _, _, _, _, rfl⟩)
  have hc := cells_cut ns 6 hl [0, 1] (by decide)
  have hc' : addD (.lst (cutD (ns.map D.int) none (some 6))) (.lst [.int 0, .int 1]) = some (.lst ((ns.take 6 ++ [0, 1]).map .int)) := hc
  have hs : mScSl 0 none (some 6) [.sc ns, .un, .un, .un, .un, .un, .un, .un, .un] = some (.ok (.lst (cutD (ns.map D.int) none (some 6))) [.sc ns, .un, .un, .un, .un, .un, .un, .un, .un]) := by
    have : ns.length ≤ 1000000 := by omega
    simp only [mScSl, List.getElem?_cons_zero, this, if_true]
  refine ⟨[.sc ns, s1, s2, s3, s4, s5, s6, s7, s8], ?_⟩
  simp_arith only [m_law, hs, hc', h1]
end GA

open PySem PySem.W PyProof.Rows
set_option maxRecDepth 100000 in
set_option maxHeartbeats 0 in
theorem PySem.Challenge.cw_endsum_k07_refusals_apart_holds : PySem.Challenge.rw_endsum_k07_refusals_apart.Holds := by
  w_on; o_law; k_head; (case hw => w_witness2)
  k_fill
  refine GA.walk (l := PySem.Challenge.rw_endsum_k07_refusals_apart) rfl rfl (fun w h Y => PySem.W.kIn_of Y) ?F
  case F =>
    intro w mg fa h KX GX hmg
    refine' GA.all_mk KX GX hmg ?z_ValueError ?z_enumerate ?z_int ?z_isinstance ?z_len ?z_range ?d__law_source_of ?d__law_next ?d__law_one ?d__law_classes ?d_law ?xa_NoRenaming ?xa_NoMatch ?xa_TooMany ?xa_NoPairing ?xa_NoJoin ?xa_NoName ?xa_NoLeg ?xa_NoCounts ?xa_NoColours ?xa_NoNumbers ?xa_NoRow ?xa_NoStock ?xa_NoDrawing ?xa_NoWeights ?xa_NoText ?xa_NotThere ?xa_EndError ?xq_NoRenaming ?xl_NoRenaming ?xq_NoMatch ?xl_NoMatch ?xq_TooMany ?xl_TooMany ?xq_NoPairing ?xl_NoPairing ?xq_NoJoin ?xl_NoJoin ?xq_NoName ?xl_NoName ?xq_NoLeg ?xl_NoLeg ?xq_NoCounts ?xl_NoCounts ?xq_NoColours ?xl_NoColours ?xq_NoNumbers ?xl_NoNumbers ?xq_NoRow ?xl_NoRow ?xeg_End ?xem_End ?xer_End ?xee_End ?xQ_NoDrawing ?xu_NoDrawing ?xL_NoDrawing ?xz_NoDrawing ?xM_NoDrawing ?xF_NoDrawing ?xd_NoDrawing ?xQ_NoStock ?xu_NoStock ?xL_NoStock ?xz_NoStock ?xM_NoStock ?xF_NoStock ?xd_NoStock ?xQ_NoText ?xu_NoText ?xL_NoText ?xz_NoText ?xM_NoText ?xF_NoText ?xd_NoText ?xQ_NoWeights ?xu_NoWeights ?xL_NoWeights ?xz_NoWeights ?xM_NoWeights ?xF_NoWeights ?xd_NoWeights ?xQ_NotThere ?xu_NotThere ?xL_NotThere ?xz_NotThere ?xM_NotThere ?xF_NotThere ?xd_NotThere ?xs_NoColours ?xt_NoColours ?xs_NoCounts ?xt_NoCounts ?xs_NoDrawing ?xt_NoDrawing ?xs_NoJoin ?xt_NoJoin ?xs_NoLeg ?xt_NoLeg ?xs_NoMatch ?xt_NoMatch ?xs_NoName ?xt_NoName ?xs_NoNumbers ?xt_NoNumbers ?xs_NoPairing ?xt_NoPairing ?xs_NoRenaming ?xt_NoRenaming ?xs_NoRow ?xt_NoRow ?xs_NoStock ?xt_NoStock ?xs_NoText ?xt_NoText ?xs_NoWeights ?xt_NoWeights ?xs_NotThere ?xt_NotThere ?xs_TooMany ?xt_TooMany ?xn ?xh ?xi_NoStock ?xj_NoStock ?xf_NoStock ?xo_NoStock ?xw_NoStock ?xW_NoStock ?xp_NoStock_NoRenaming ?xp_NoStock_NoMatch ?xp_NoStock_TooMany ?xp_NoStock_NoPairing ?xp_NoStock_NoJoin ?xp_NoStock_NoName ?xp_NoStock_NoLeg ?xp_NoStock_NoCounts ?xp_NoStock_NoColours ?xp_NoStock_NoNumbers ?xp_NoStock_NoRow ?xp_NoStock_NoDrawing ?xp_NoStock_NoWeights ?xp_NoStock_NoText ?xp_NoStock_NotThere ?xi_NoDrawing ?xj_NoDrawing ?xf_NoDrawing ?xo_NoDrawing ?xw_NoDrawing ?xW_NoDrawing ?xp_NoDrawing_NoRenaming ?xp_NoDrawing_NoMatch ?xp_NoDrawing_TooMany ?xp_NoDrawing_NoPairing ?xp_NoDrawing_NoJoin ?xp_NoDrawing_NoName ?xp_NoDrawing_NoLeg ?xp_NoDrawing_NoCounts ?xp_NoDrawing_NoColours ?xp_NoDrawing_NoNumbers ?xp_NoDrawing_NoRow ?xp_NoDrawing_NoStock ?xp_NoDrawing_NoWeights ?xp_NoDrawing_NoText ?xp_NoDrawing_NotThere ?xi_NoRenaming ?xj_NoRenaming ?xd_NoRenaming ?xf_NoRenaming ?xo_NoRenaming ?xw_NoRenaming ?xW_NoRenaming ?xp_NoRenaming_NoMatch ?xp_NoRenaming_TooMany ?xp_NoRenaming_NoPairing ?xp_NoRenaming_NoJoin ?xp_NoRenaming_NoName ?xp_NoRenaming_NoLeg ?xp_NoRenaming_NoCounts ?xp_NoRenaming_NoColours ?xp_NoRenaming_NoNumbers ?xp_NoRenaming_NoRow ?xp_NoRenaming_NoStock ?xp_NoRenaming_NoDrawing ?xp_NoRenaming_NoWeights ?xp_NoRenaming_NoText ?xp_NoRenaming_NotThere ?xi_NoMatch ?xj_NoMatch ?xd_NoMatch ?xf_NoMatch ?xo_NoMatch ?xw_NoMatch ?xW_NoMatch ?xp_NoMatch_NoRenaming ?xp_NoMatch_TooMany ?xp_NoMatch_NoPairing ?xp_NoMatch_NoJoin ?xp_NoMatch_NoName ?xp_NoMatch_NoLeg ?xp_NoMatch_NoCounts ?xp_NoMatch_NoColours ?xp_NoMatch_NoNumbers ?xp_NoMatch_NoRow ?xp_NoMatch_NoStock ?xp_NoMatch_NoDrawing ?xp_NoMatch_NoWeights ?xp_NoMatch_NoText ?xp_NoMatch_NotThere ?xi_TooMany ?xj_TooMany ?xd_TooMany ?xf_TooMany ?xo_TooMany ?xw_TooMany ?xW_TooMany ?xp_TooMany_NoRenaming ?xp_TooMany_NoMatch ?xp_TooMany_NoPairing ?xp_TooMany_NoJoin ?xp_TooMany_NoName ?xp_TooMany_NoLeg ?xp_TooMany_NoCounts ?xp_TooMany_NoColours ?xp_TooMany_NoNumbers ?xp_TooMany_NoRow ?xp_TooMany_NoStock ?xp_TooMany_NoDrawing ?xp_TooMany_NoWeights ?xp_TooMany_NoText ?xp_TooMany_NotThere ?xi_NoPairing ?xj_NoPairing ?xd_NoPairing ?xf_NoPairing ?xo_NoPairing ?xw_NoPairing ?xW_NoPairing ?xp_NoPairing_NoRenaming ?xp_NoPairing_NoMatch ?xp_NoPairing_TooMany ?xp_NoPairing_NoJoin ?xp_NoPairing_NoName ?xp_NoPairing_NoLeg ?xp_NoPairing_NoCounts ?xp_NoPairing_NoColours ?xp_NoPairing_NoNumbers ?xp_NoPairing_NoRow ?xp_NoPairing_NoStock ?xp_NoPairing_NoDrawing ?xp_NoPairing_NoWeights ?xp_NoPairing_NoText ?xp_NoPairing_NotThere ?xi_NoJoin ?xj_NoJoin ?xd_NoJoin ?xf_NoJoin ?xo_NoJoin ?xw_NoJoin ?xW_NoJoin ?xp_NoJoin_NoRenaming ?xp_NoJoin_NoMatch ?xp_NoJoin_TooMany ?xp_NoJoin_NoPairing ?xp_NoJoin_NoName ?xp_NoJoin_NoLeg ?xp_NoJoin_NoCounts ?xp_NoJoin_NoColours ?xp_NoJoin_NoNumbers ?xp_NoJoin_NoRow ?xp_NoJoin_NoStock ?xp_NoJoin_NoDrawing ?xp_NoJoin_NoWeights ?xp_NoJoin_NoText ?xp_NoJoin_NotThere ?xi_NoName ?xj_NoName ?xd_NoName ?xf_NoName ?xo_NoName ?xw_NoName ?xW_NoName ?xp_NoName_NoRenaming ?xp_NoName_NoMatch ?xp_NoName_TooMany ?xp_NoName_NoPairing ?xp_NoName_NoJoin ?xp_NoName_NoLeg ?xp_NoName_NoCounts ?xp_NoName_NoColours ?xp_NoName_NoNumbers ?xp_NoName_NoRow ?xp_NoName_NoStock ?xp_NoName_NoDrawing ?xp_NoName_NoWeights ?xp_NoName_NoText ?xp_NoName_NotThere ?xi_NoLeg ?xj_NoLeg ?xd_NoLeg ?xf_NoLeg ?xo_NoLeg ?xw_NoLeg ?xW_NoLeg ?xp_NoLeg_NoRenaming ?xp_NoLeg_NoMatch ?xp_NoLeg_TooMany ?xp_NoLeg_NoPairing ?xp_NoLeg_NoJoin ?xp_NoLeg_NoName ?xp_NoLeg_NoCounts ?xp_NoLeg_NoColours ?xp_NoLeg_NoNumbers ?xp_NoLeg_NoRow ?xp_NoLeg_NoStock ?xp_NoLeg_NoDrawing ?xp_NoLeg_NoWeights ?xp_NoLeg_NoText ?xp_NoLeg_NotThere ?xi_NoCounts ?xj_NoCounts ?xd_NoCounts ?xf_NoCounts ?xo_NoCounts ?xw_NoCounts ?xW_NoCounts ?xp_NoCounts_NoRenaming ?xp_NoCounts_NoMatch ?xp_NoCounts_TooMany ?xp_NoCounts_NoPairing ?xp_NoCounts_NoJoin ?xp_NoCounts_NoName ?xp_NoCounts_NoLeg ?xp_NoCounts_NoColours ?xp_NoCounts_NoNumbers ?xp_NoCounts_NoRow ?xp_NoCounts_NoStock ?xp_NoCounts_NoDrawing ?xp_NoCounts_NoWeights ?xp_NoCounts_NoText ?xp_NoCounts_NotThere ?xi_NoWeights ?xj_NoWeights ?xf_NoWeights ?xo_NoWeights ?xw_NoWeights ?xW_NoWeights ?xp_NoWeights_NoRenaming ?xp_NoWeights_NoMatch ?xp_NoWeights_TooMany ?xp_NoWeights_NoPairing ?xp_NoWeights_NoJoin ?xp_NoWeights_NoName ?xp_NoWeights_NoLeg ?xp_NoWeights_NoCounts ?xp_NoWeights_NoColours ?xp_NoWeights_NoNumbers ?xp_NoWeights_NoRow ?xp_NoWeights_NoStock ?xp_NoWeights_NoDrawing ?xp_NoWeights_NoText ?xp_NoWeights_NotThere ?xi_NoColours ?xj_NoColours ?xd_NoColours ?xf_NoColours ?xo_NoColours ?xw_NoColours ?xW_NoColours ?xp_NoColours_NoRenaming ?xp_NoColours_NoMatch ?xp_NoColours_TooMany ?xp_NoColours_NoPairing ?xp_NoColours_NoJoin ?xp_NoColours_NoName ?xp_NoColours_NoLeg ?xp_NoColours_NoCounts ?xp_NoColours_NoNumbers ?xp_NoColours_NoRow ?xp_NoColours_NoStock ?xp_NoColours_NoDrawing ?xp_NoColours_NoWeights ?xp_NoColours_NoText ?xp_NoColours_NotThere ?xi_NoNumbers ?xj_NoNumbers ?xd_NoNumbers ?xf_NoNumbers ?xo_NoNumbers ?xw_NoNumbers ?xW_NoNumbers ?xp_NoNumbers_NoRenaming ?xp_NoNumbers_NoMatch ?xp_NoNumbers_TooMany ?xp_NoNumbers_NoPairing ?xp_NoNumbers_NoJoin ?xp_NoNumbers_NoName ?xp_NoNumbers_NoLeg ?xp_NoNumbers_NoCounts ?xp_NoNumbers_NoColours ?xp_NoNumbers_NoRow ?xp_NoNumbers_NoStock ?xp_NoNumbers_NoDrawing ?xp_NoNumbers_NoWeights ?xp_NoNumbers_NoText ?xp_NoNumbers_NotThere ?xi_NoText ?xj_NoText ?xf_NoText ?xo_NoText ?xw_NoText ?xW_NoText ?xp_NoText_NoRenaming ?xp_NoText_NoMatch ?xp_NoText_TooMany ?xp_NoText_NoPairing ?xp_NoText_NoJoin ?xp_NoText_NoName ?xp_NoText_NoLeg ?xp_NoText_NoCounts ?xp_NoText_NoColours ?xp_NoText_NoNumbers ?xp_NoText_NoRow ?xp_NoText_NoStock ?xp_NoText_NoDrawing ?xp_NoText_NoWeights ?xp_NoText_NotThere ?xi_NoRow ?xj_NoRow ?xd_NoRow ?xf_NoRow ?xo_NoRow ?xw_NoRow ?xW_NoRow ?xp_NoRow_NoRenaming ?xp_NoRow_NoMatch ?xp_NoRow_TooMany ?xp_NoRow_NoPairing ?xp_NoRow_NoJoin ?xp_NoRow_NoName ?xp_NoRow_NoLeg ?xp_NoRow_NoCounts ?xp_NoRow_NoColours ?xp_NoRow_NoNumbers ?xp_NoRow_NoStock ?xp_NoRow_NoDrawing ?xp_NoRow_NoWeights ?xp_NoRow_NoText ?xp_NoRow_NotThere ?xi_NotThere ?xj_NotThere ?xf_NotThere ?xo_NotThere ?xw_NotThere ?xW_NotThere ?xp_NotThere_NoRenaming ?xp_NotThere_NoMatch ?xp_NotThere_TooMany ?xp_NotThere_NoPairing ?xp_NotThere_NoJoin ?xp_NotThere_NoName ?xp_NotThere_NoLeg ?xp_NotThere_NoCounts ?xp_NotThere_NoColours ?xp_NotThere_NoNumbers ?xp_NotThere_NoRow ?xp_NotThere_NoStock ?xp_NotThere_NoDrawing ?xp_NotThere_NoWeights ?xp_NotThere_NoText ?hm
    (case z_ValueError => k_is)
    (case z_enumerate => k_is)
    (case z_int => k_is)
    (case z_isinstance => k_is)
    (case z_len => k_is)
    (case z_range => k_is)
    (case d__law_source_of => refine' DL.defK_mk ?a ?l ?c ?k; (case a => k_is); (case l => k_is); (case c => k_is); (case k => k_is))
    (case d__law_next => refine' DL.defK_mk ?a ?l ?c ?k; (case a => k_is); (case l => k_is); (case c => k_is); (case k => k_is))
    (case d__law_one => refine' DL.defK_mk ?a ?l ?c ?k; (case a => k_is); (case l => k_is); (case c => k_is); (case k => k_is))
    (case d__law_classes => refine' DL.defK_mk ?a ?l ?c ?k; (case a => k_is); (case l => k_is); (case c => k_is); (case k => k_is))
    (case d_law => refine' DL.defK_mk ?a ?l ?c ?k; (case a => k_is); (case l => k_is); (case c => k_is); (case k => k_is))
    (case xa_NoRenaming => k_is)
    (case xa_NoMatch => k_is)
    (case xa_TooMany => k_is)
    (case xa_NoPairing => k_is)
    (case xa_NoJoin => k_is)
    (case xa_NoName => k_is)
    (case xa_NoLeg => k_is)
    (case xa_NoCounts => k_is)
    (case xa_NoColours => k_is)
    (case xa_NoNumbers => k_is)
    (case xa_NoRow => k_is)
    (case xa_NoStock => k_is)
    (case xa_NoDrawing => k_is)
    (case xa_NoWeights => k_is)
    (case xa_NoText => k_is)
    (case xa_NotThere => k_is)
    (case xa_EndError => k_is)
    (case xq_NoRenaming => k_exc)
    (case xl_NoRenaming => k_is)
    (case xq_NoMatch => k_exc)
    (case xl_NoMatch => k_is)
    (case xq_TooMany => k_exc)
    (case xl_TooMany => k_is)
    (case xq_NoPairing => k_exc)
    (case xl_NoPairing => k_is)
    (case xq_NoJoin => k_exc)
    (case xl_NoJoin => k_is)
    (case xq_NoName => k_exc)
    (case xl_NoName => k_is)
    (case xq_NoLeg => k_exc)
    (case xl_NoLeg => k_is)
    (case xq_NoCounts => k_exc)
    (case xl_NoCounts => k_is)
    (case xq_NoColours => k_exc)
    (case xl_NoColours => k_is)
    (case xq_NoNumbers => k_exc)
    (case xl_NoNumbers => k_is)
    (case xq_NoRow => k_exc)
    (case xl_NoRow => k_is)
    (case xeg_End => k_is)
    (case xem_End => k_is)
    (case xer_End => k_is)
    (case xee_End => k_is)
    (case xQ_NoDrawing => kx_is)
    (case xu_NoDrawing => k_is)
    (case xL_NoDrawing => k_is)
    (case xz_NoDrawing => k_is)
    (case xM_NoDrawing => refine' DL.metK_mk ?a ?i ?l ?c ?k; (case a => k_is); (case i => k_is); (case l => k_is); (case c => k_is); (case k => k_is))
    (case xF_NoDrawing => k_is)
    (case xd_NoDrawing => k_is)
    (case xQ_NoStock => kx_is)
    (case xu_NoStock => k_is)
    (case xL_NoStock => k_is)
    (case xz_NoStock => k_is)
    (case xM_NoStock => refine' DL.metK_mk ?a ?i ?l ?c ?k; (case a => k_is); (case i => k_is); (case l => k_is); (case c => k_is); (case k => k_is))
    (case xF_NoStock => k_is)
    (case xd_NoStock => k_is)
    (case xQ_NoText => kx_is)
    (case xu_NoText => k_is)
    (case xL_NoText => k_is)
    (case xz_NoText => k_is)
    (case xM_NoText => refine' DL.metK_mk ?a ?i ?l ?c ?k; (case a => k_is); (case i => k_is); (case l => k_is); (case c => k_is); (case k => k_is))
    (case xF_NoText => k_is)
    (case xd_NoText => k_is)
    (case xQ_NoWeights => kx_is)
    (case xu_NoWeights => k_is)
    (case xL_NoWeights => k_is)
    (case xz_NoWeights => k_is)
    (case xM_NoWeights => refine' DL.metK_mk ?a ?i ?l ?c ?k; (case a => k_is); (case i => k_is); (case l => k_is); (case c => k_is); (case k => k_is))
    (case xF_NoWeights => k_is)
    (case xd_NoWeights => k_is)
    (case xQ_NotThere => kx_is)
    (case xu_NotThere => k_is)
    (case xL_NotThere => k_is)
    (case xz_NotThere => k_is)
    (case xM_NotThere => refine' DL.metK_mk ?a ?i ?l ?c ?k; (case a => k_is); (case i => k_is); (case l => k_is); (case c => k_is); (case k => k_is))
    (case xF_NotThere => k_is)
    (case xd_NotThere => k_is)
    (case xs_NoColours => k_is)
    (case xt_NoColours => k_is)
    (case xs_NoCounts => k_is)
    (case xt_NoCounts => k_is)
    (case xs_NoDrawing => k_is)
    (case xt_NoDrawing => k_is)
    (case xs_NoJoin => k_is)
    (case xt_NoJoin => k_is)
    (case xs_NoLeg => k_is)
    (case xt_NoLeg => k_is)
    (case xs_NoMatch => k_is)
    (case xt_NoMatch => k_is)
    (case xs_NoName => k_is)
    (case xt_NoName => k_is)
    (case xs_NoNumbers => k_is)
    (case xt_NoNumbers => k_is)
    (case xs_NoPairing => k_is)
    (case xt_NoPairing => k_is)
    (case xs_NoRenaming => k_is)
    (case xt_NoRenaming => k_is)
    (case xs_NoRow => k_is)
    (case xt_NoRow => k_is)
    (case xs_NoStock => k_is)
    (case xt_NoStock => k_is)
    (case xs_NoText => k_is)
    (case xt_NoText => k_is)
    (case xs_NoWeights => k_is)
    (case xt_NoWeights => k_is)
    (case xs_NotThere => k_is)
    (case xt_NotThere => k_is)
    (case xs_TooMany => k_is)
    (case xt_TooMany => k_is)
    (case xn => k_is)
    (case xh => k_is)
    (case xi_NoStock => k_is)
    (case xj_NoStock => k_is)
    (case xf_NoStock => k_is)
    (case xo_NoStock => k_is)
    (case xw_NoStock => kit_is)
    (case xW_NoStock => kit_is)
    (case xp_NoStock_NoRenaming => kit_is)
    (case xp_NoStock_NoMatch => kit_is)
    (case xp_NoStock_TooMany => kit_is)
    (case xp_NoStock_NoPairing => kit_is)
    (case xp_NoStock_NoJoin => kit_is)
    (case xp_NoStock_NoName => kit_is)
    (case xp_NoStock_NoLeg => kit_is)
    (case xp_NoStock_NoCounts => kit_is)
    (case xp_NoStock_NoColours => kit_is)
    (case xp_NoStock_NoNumbers => kit_is)
    (case xp_NoStock_NoRow => kit_is)
    (case xp_NoStock_NoDrawing => kit_is)
    (case xp_NoStock_NoWeights => kit_is)
    (case xp_NoStock_NoText => kit_is)
    (case xp_NoStock_NotThere => kit_is)
    (case xi_NoDrawing => k_is)
    (case xj_NoDrawing => k_is)
    (case xf_NoDrawing => k_is)
    (case xo_NoDrawing => k_is)
    (case xw_NoDrawing => kit_is)
    (case xW_NoDrawing => kit_is)
    (case xp_NoDrawing_NoRenaming => kit_is)
    (case xp_NoDrawing_NoMatch => kit_is)
    (case xp_NoDrawing_TooMany => kit_is)
    (case xp_NoDrawing_NoPairing => kit_is)
    (case xp_NoDrawing_NoJoin => kit_is)
    (case xp_NoDrawing_NoName => kit_is)
    (case xp_NoDrawing_NoLeg => kit_is)
    (case xp_NoDrawing_NoCounts => kit_is)
    (case xp_NoDrawing_NoColours => kit_is)
    (case xp_NoDrawing_NoNumbers => kit_is)
    (case xp_NoDrawing_NoRow => kit_is)
    (case xp_NoDrawing_NoStock => kit_is)
    (case xp_NoDrawing_NoWeights => kit_is)
    (case xp_NoDrawing_NoText => kit_is)
    (case xp_NoDrawing_NotThere => kit_is)
    (case xi_NoRenaming => k_is)
    (case xj_NoRenaming => k_is)
    (case xd_NoRenaming => k_is)
    (case xf_NoRenaming => k_is)
    (case xo_NoRenaming => k_is)
    (case xw_NoRenaming => kit_is)
    (case xW_NoRenaming => kit_is)
    (case xp_NoRenaming_NoMatch => kit_is)
    (case xp_NoRenaming_TooMany => kit_is)
    (case xp_NoRenaming_NoPairing => kit_is)
    (case xp_NoRenaming_NoJoin => kit_is)
    (case xp_NoRenaming_NoName => kit_is)
    (case xp_NoRenaming_NoLeg => kit_is)
    (case xp_NoRenaming_NoCounts => kit_is)
    (case xp_NoRenaming_NoColours => kit_is)
    (case xp_NoRenaming_NoNumbers => kit_is)
    (case xp_NoRenaming_NoRow => kit_is)
    (case xp_NoRenaming_NoStock => kit_is)
    (case xp_NoRenaming_NoDrawing => kit_is)
    (case xp_NoRenaming_NoWeights => kit_is)
    (case xp_NoRenaming_NoText => kit_is)
    (case xp_NoRenaming_NotThere => kit_is)
    (case xi_NoMatch => k_is)
    (case xj_NoMatch => k_is)
    (case xd_NoMatch => k_is)
    (case xf_NoMatch => k_is)
    (case xo_NoMatch => k_is)
    (case xw_NoMatch => kit_is)
    (case xW_NoMatch => kit_is)
    (case xp_NoMatch_NoRenaming => kit_is)
    (case xp_NoMatch_TooMany => kit_is)
    (case xp_NoMatch_NoPairing => kit_is)
    (case xp_NoMatch_NoJoin => kit_is)
    (case xp_NoMatch_NoName => kit_is)
    (case xp_NoMatch_NoLeg => kit_is)
    (case xp_NoMatch_NoCounts => kit_is)
    (case xp_NoMatch_NoColours => kit_is)
    (case xp_NoMatch_NoNumbers => kit_is)
    (case xp_NoMatch_NoRow => kit_is)
    (case xp_NoMatch_NoStock => kit_is)
    (case xp_NoMatch_NoDrawing => kit_is)
    (case xp_NoMatch_NoWeights => kit_is)
    (case xp_NoMatch_NoText => kit_is)
    (case xp_NoMatch_NotThere => kit_is)
    (case xi_TooMany => k_is)
    (case xj_TooMany => k_is)
    (case xd_TooMany => k_is)
    (case xf_TooMany => k_is)
    (case xo_TooMany => k_is)
    (case xw_TooMany => kit_is)
    (case xW_TooMany => kit_is)
    (case xp_TooMany_NoRenaming => kit_is)
    (case xp_TooMany_NoMatch => kit_is)
    (case xp_TooMany_NoPairing => kit_is)
    (case xp_TooMany_NoJoin => kit_is)
    (case xp_TooMany_NoName => kit_is)
    (case xp_TooMany_NoLeg => kit_is)
    (case xp_TooMany_NoCounts => kit_is)
    (case xp_TooMany_NoColours => kit_is)
    (case xp_TooMany_NoNumbers => kit_is)
    (case xp_TooMany_NoRow => kit_is)
    (case xp_TooMany_NoStock => kit_is)
    (case xp_TooMany_NoDrawing => kit_is)
    (case xp_TooMany_NoWeights => kit_is)
    (case xp_TooMany_NoText => kit_is)
    (case xp_TooMany_NotThere => kit_is)
    (case xi_NoPairing => k_is)
    (case xj_NoPairing => k_is)
    (case xd_NoPairing => k_is)
    (case xf_NoPairing => k_is)
    (case xo_NoPairing => k_is)
    (case xw_NoPairing => kit_is)
    (case xW_NoPairing => kit_is)
    (case xp_NoPairing_NoRenaming => kit_is)
    (case xp_NoPairing_NoMatch => kit_is)
    (case xp_NoPairing_TooMany => kit_is)
    (case xp_NoPairing_NoJoin => kit_is)
    (case xp_NoPairing_NoName => kit_is)
    (case xp_NoPairing_NoLeg => kit_is)
    (case xp_NoPairing_NoCounts => kit_is)
    (case xp_NoPairing_NoColours => kit_is)
    (case xp_NoPairing_NoNumbers => kit_is)
    (case xp_NoPairing_NoRow => kit_is)
    (case xp_NoPairing_NoStock => kit_is)
    (case xp_NoPairing_NoDrawing => kit_is)
    (case xp_NoPairing_NoWeights => kit_is)
    (case xp_NoPairing_NoText => kit_is)
    (case xp_NoPairing_NotThere => kit_is)
    (case xi_NoJoin => k_is)
    (case xj_NoJoin => k_is)
    (case xd_NoJoin => k_is)
    (case xf_NoJoin => k_is)
    (case xo_NoJoin => k_is)
    (case xw_NoJoin => kit_is)
    (case xW_NoJoin => kit_is)
    (case xp_NoJoin_NoRenaming => kit_is)
    (case xp_NoJoin_NoMatch => kit_is)
    (case xp_NoJoin_TooMany => kit_is)
    (case xp_NoJoin_NoPairing => kit_is)
    (case xp_NoJoin_NoName => kit_is)
    (case xp_NoJoin_NoLeg => kit_is)
    (case xp_NoJoin_NoCounts => kit_is)
    (case xp_NoJoin_NoColours => kit_is)
    (case xp_NoJoin_NoNumbers => kit_is)
    (case xp_NoJoin_NoRow => kit_is)
    (case xp_NoJoin_NoStock => kit_is)
    (case xp_NoJoin_NoDrawing => kit_is)
    (case xp_NoJoin_NoWeights => kit_is)
    (case xp_NoJoin_NoText => kit_is)
    (case xp_NoJoin_NotThere => kit_is)
    (case xi_NoName => k_is)
    (case xj_NoName => k_is)
    (case xd_NoName => k_is)
    (case xf_NoName => k_is)
    (case xo_NoName => k_is)
    (case xw_NoName => kit_is)
    (case xW_NoName => kit_is)
    (case xp_NoName_NoRenaming => kit_is)
    (case xp_NoName_NoMatch => kit_is)
    (case xp_NoName_TooMany => kit_is)
    (case xp_NoName_NoPairing => kit_is)
    (case xp_NoName_NoJoin => kit_is)
    (case xp_NoName_NoLeg => kit_is)
    (case xp_NoName_NoCounts => kit_is)
    (case xp_NoName_NoColours => kit_is)
    (case xp_NoName_NoNumbers => kit_is)
    (case xp_NoName_NoRow => kit_is)
    (case xp_NoName_NoStock => kit_is)
    (case xp_NoName_NoDrawing => kit_is)
    (case xp_NoName_NoWeights => kit_is)
    (case xp_NoName_NoText => kit_is)
    (case xp_NoName_NotThere => kit_is)
    (case xi_NoLeg => k_is)
    (case xj_NoLeg => k_is)
    (case xd_NoLeg => k_is)
    (case xf_NoLeg => k_is)
    (case xo_NoLeg => k_is)
    (case xw_NoLeg => kit_is)
    (case xW_NoLeg => kit_is)
    (case xp_NoLeg_NoRenaming => kit_is)
    (case xp_NoLeg_NoMatch => kit_is)
    (case xp_NoLeg_TooMany => kit_is)
    (case xp_NoLeg_NoPairing => kit_is)
    (case xp_NoLeg_NoJoin => kit_is)
    (case xp_NoLeg_NoName => kit_is)
    (case xp_NoLeg_NoCounts => kit_is)
    (case xp_NoLeg_NoColours => kit_is)
    (case xp_NoLeg_NoNumbers => kit_is)
    (case xp_NoLeg_NoRow => kit_is)
    (case xp_NoLeg_NoStock => kit_is)
    (case xp_NoLeg_NoDrawing => kit_is)
    (case xp_NoLeg_NoWeights => kit_is)
    (case xp_NoLeg_NoText => kit_is)
    (case xp_NoLeg_NotThere => kit_is)
    (case xi_NoCounts => k_is)
    (case xj_NoCounts => k_is)
    (case xd_NoCounts => k_is)
    (case xf_NoCounts => k_is)
    (case xo_NoCounts => k_is)
    (case xw_NoCounts => kit_is)
    (case xW_NoCounts => kit_is)
    (case xp_NoCounts_NoRenaming => kit_is)
    (case xp_NoCounts_NoMatch => kit_is)
    (case xp_NoCounts_TooMany => kit_is)
    (case xp_NoCounts_NoPairing => kit_is)
    (case xp_NoCounts_NoJoin => kit_is)
    (case xp_NoCounts_NoName => kit_is)
    (case xp_NoCounts_NoLeg => kit_is)
    (case xp_NoCounts_NoColours => kit_is)
    (case xp_NoCounts_NoNumbers => kit_is)
    (case xp_NoCounts_NoRow => kit_is)
    (case xp_NoCounts_NoStock => kit_is)
    (case xp_NoCounts_NoDrawing => kit_is)
    (case xp_NoCounts_NoWeights => kit_is)
    (case xp_NoCounts_NoText => kit_is)
    (case xp_NoCounts_NotThere => kit_is)
    (case xi_NoWeights => k_is)
    (case xj_NoWeights => k_is)
    (case xf_NoWeights => k_is)
    (case xo_NoWeights => k_is)
    (case xw_NoWeights => kit_is)
    (case xW_NoWeights => kit_is)
    (case xp_NoWeights_NoRenaming => kit_is)
    (case xp_NoWeights_NoMatch => kit_is)
    (case xp_NoWeights_TooMany => kit_is)
    (case xp_NoWeights_NoPairing => kit_is)
    (case xp_NoWeights_NoJoin => kit_is)
    (case xp_NoWeights_NoName => kit_is)
    (case xp_NoWeights_NoLeg => kit_is)
    (case xp_NoWeights_NoCounts => kit_is)
    (case xp_NoWeights_NoColours => kit_is)
    (case xp_NoWeights_NoNumbers => kit_is)
    (case xp_NoWeights_NoRow => kit_is)
    (case xp_NoWeights_NoStock => kit_is)
    (case xp_NoWeights_NoDrawing => kit_is)
    (case xp_NoWeights_NoText => kit_is)
    (case xp_NoWeights_NotThere => kit_is)
    (case xi_NoColours => k_is)
    (case xj_NoColours => k_is)
    (case xd_NoColours => k_is)
    (case xf_NoColours => k_is)
    (case xo_NoColours => k_is)
    (case xw_NoColours => kit_is)
    (case xW_NoColours => kit_is)
    (case xp_NoColours_NoRenaming => kit_is)
    (case xp_NoColours_NoMatch => kit_is)
    (case xp_NoColours_TooMany => kit_is)
    (case xp_NoColours_NoPairing => kit_is)
    (case xp_NoColours_NoJoin => kit_is)
    (case xp_NoColours_NoName => kit_is)
    (case xp_NoColours_NoLeg => kit_is)
    (case xp_NoColours_NoCounts => kit_is)
    (case xp_NoColours_NoNumbers => kit_is)
    (case xp_NoColours_NoRow => kit_is)
    (case xp_NoColours_NoStock => kit_is)
    (case xp_NoColours_NoDrawing => kit_is)
    (case xp_NoColours_NoWeights => kit_is)
    (case xp_NoColours_NoText => kit_is)
    (case xp_NoColours_NotThere => kit_is)
    (case xi_NoNumbers => k_is)
    (case xj_NoNumbers => k_is)
    (case xd_NoNumbers => k_is)
    (case xf_NoNumbers => k_is)
    (case xo_NoNumbers => k_is)
    (case xw_NoNumbers => kit_is)
    (case xW_NoNumbers => kit_is)
    (case xp_NoNumbers_NoRenaming => kit_is)
    (case xp_NoNumbers_NoMatch => kit_is)
    (case xp_NoNumbers_TooMany => kit_is)
    (case xp_NoNumbers_NoPairing => kit_is)
    (case xp_NoNumbers_NoJoin => kit_is)
    (case xp_NoNumbers_NoName => kit_is)
    (case xp_NoNumbers_NoLeg => kit_is)
    (case xp_NoNumbers_NoCounts => kit_is)
    (case xp_NoNumbers_NoColours => kit_is)
    (case xp_NoNumbers_NoRow => kit_is)
    (case xp_NoNumbers_NoStock => kit_is)
    (case xp_NoNumbers_NoDrawing => kit_is)
    (case xp_NoNumbers_NoWeights => kit_is)
    (case xp_NoNumbers_NoText => kit_is)
    (case xp_NoNumbers_NotThere => kit_is)
    (case xi_NoText => k_is)
    (case xj_NoText => k_is)
    (case xf_NoText => k_is)
    (case xo_NoText => k_is)
    (case xw_NoText => kit_is)
    (case xW_NoText => kit_is)
    (case xp_NoText_NoRenaming => kit_is)
    (case xp_NoText_NoMatch => kit_is)
    (case xp_NoText_TooMany => kit_is)
    (case xp_NoText_NoPairing => kit_is)
    (case xp_NoText_NoJoin => kit_is)
    (case xp_NoText_NoName => kit_is)
    (case xp_NoText_NoLeg => kit_is)
    (case xp_NoText_NoCounts => kit_is)
    (case xp_NoText_NoColours => kit_is)
    (case xp_NoText_NoNumbers => kit_is)
    (case xp_NoText_NoRow => kit_is)
    (case xp_NoText_NoStock => kit_is)
    (case xp_NoText_NoDrawing => kit_is)
    (case xp_NoText_NoWeights => kit_is)
    (case xp_NoText_NotThere => kit_is)
    (case xi_NoRow => k_is)
    (case xj_NoRow => k_is)
    (case xd_NoRow => k_is)
    (case xf_NoRow => k_is)
    (case xo_NoRow => k_is)
    (case xw_NoRow => kit_is)
    (case xW_NoRow => kit_is)
    (case xp_NoRow_NoRenaming => kit_is)
    (case xp_NoRow_NoMatch => kit_is)
    (case xp_NoRow_TooMany => kit_is)
    (case xp_NoRow_NoPairing => kit_is)
    (case xp_NoRow_NoJoin => kit_is)
    (case xp_NoRow_NoName => kit_is)
    (case xp_NoRow_NoLeg => kit_is)
    (case xp_NoRow_NoCounts => kit_is)
    (case xp_NoRow_NoColours => kit_is)
    (case xp_NoRow_NoNumbers => kit_is)
    (case xp_NoRow_NoStock => kit_is)
    (case xp_NoRow_NoDrawing => kit_is)
    (case xp_NoRow_NoWeights => kit_is)
    (case xp_NoRow_NoText => kit_is)
    (case xp_NoRow_NotThere => kit_is)
    (case xi_NotThere => k_is)
    (case xj_NotThere => k_is)
    (case xf_NotThere => k_is)
    (case xo_NotThere => k_is)
    (case xw_NotThere => kit_is)
    (case xW_NotThere => kit_is)
    (case xp_NotThere_NoRenaming => kit_is)
    (case xp_NotThere_NoMatch => kit_is)
    (case xp_NotThere_TooMany => kit_is)
    (case xp_NotThere_NoPairing => kit_is)
    (case xp_NotThere_NoJoin => kit_is)
    (case xp_NotThere_NoName => kit_is)
    (case xp_NotThere_NoLeg => kit_is)
    (case xp_NotThere_NoCounts => kit_is)
    (case xp_NotThere_NoColours => kit_is)
    (case xp_NotThere_NoNumbers => kit_is)
    (case xp_NotThere_NoRow => kit_is)
    (case xp_NotThere_NoStock => kit_is)
    (case xp_NotThere_NoDrawing => kit_is)
    (case xp_NotThere_NoWeights => kit_is)
    (case xp_NotThere_NoText => kit_is)
    (case hm => exact GA.law_ok)
