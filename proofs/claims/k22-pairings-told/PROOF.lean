import PyProof.Rows.All
import Wide.All
import OpenK.AllK
import Wide.FinOn
import HandS.ForMost
import HandS.ForExc
import KE.KeyNested
import HandS.IsInst
import HandS.TupAny
import HandS.Style
import HandS.Deep
import HandS.Wide
import HandS.SortInts
import KE.SortData
import KE.DataFind
import KE.DataCmp
import KE.DataMinMax
import HandS.Set
import HandS.SetFor
import HandS.SetKeys
import HandS.Strs
import HandS.ExcValue
import HandS.Iter
import HandS.NoneIn
import KE.GoesEnum
import KE.GoesMore
import PyProof.ZipIter
import KE.KItemsList
import KE.KDictItemsList
import HandS.Conv
import HandS.OwnEq
import HandS.Codes
import PyProof.Draws
import PyProof.InstNe
import HandS.Zip
import KE.KSortTupAny
import HandS.WordsExc
import HandS.ExcIs
import HandS.TupMul
import KE.KIndexOf
import HandS.TupSets
import HandS.ExcInit
import HandS.ExcField
import KE.KExcIs
import KE.KExcInit
import KE.KExcLine
import PyProof.DictRoadsH
import PyProof.DictMoreH
import HandS.DictTup
import HandS.Dict
import HandS.WideBits
import KE.IntBitsLaws
import PySem.Challenge.RW_endsum_k22_pairings_told
set_option Elab.async false
set_option linter.all false
set_option maxRecDepth 100000
set_option maxHeartbeats 400000
/-! DLa: plain data D, how it stands in a heap (Rep), what a def's slots hold (Sl, StOk), and the judgements Ev, Eo, Et, Ea, Es: a reading of the hand layer computes what a plain function of the slots' data computes. -/
namespace DL
open PySem L2

abbrev Fg := PySem.W.Frag
def LB : Nat := 1000000
theorem LB_size {n : Nat} (h : n ≤ LB) : n ≤ sizeLine := Nat.le_trans h (by decide)
theorem LB_lt {n : Nat} (h : n ≤ LB) : n < sizeLine := Nat.lt_of_le_of_lt h (by decide)

inductive D where
  | non
  | bl (b : Bool)
  | int (i : Int)
  | str (x : Str)
  | tup (xs : List D)
  | lst (xs : List D)
  | ins (C : Addr) (ns : List Str) (ds : List D)
  | dk (ks : List Key) (ds : List D)
  | dn (hs : List Int) (ks ds : List D)
  | fn (f : Addr)

/-! keys of any depth -/
mutual
def keyN : D → Option NestedKey
  | .non => some .none
  | .int i => some (.num i)
  | .str x => some (.text x)
  | .tup ds => match keysN ds with
    | some ks => some (.tup ks)
    | none => none
  | .bl _ => none
  | .lst _ => none
  | .ins _ _ _ => none
  | .dk _ _ => none
  | .dn _ _ _ => none
  | .fn _ => none
def keysN : List D → Option (List NestedKey)
  | [] => some []
  | d :: ds => match keyN d, keysN ds with
    | some k, some ks => some (k :: ks)
    | _, _ => none
end
/-- a tuple as a key -/
def keyT (d : D) : Option NestedKey := match keyN d with
  | some (.tup ks) => if NestedKey.depthAll ks ≤ 7 then some (.tup ks) else none
  | _ => none
def keysT : List D → Option (List NestedKey)
  | [] => some []
  | d :: ds => match keyT d, keysT ds with
    | some k, some ks => some (k :: ks)
    | _, _ => none
/-- the rows of a dict: hashes, keys (tuples), values -/
def ents : List Int → List Addr → List Value → List DictEntry
  | i :: hs, b :: bs, x :: xs => ⟨i, .ref b, x⟩ :: ents hs bs xs
  | _, _, _ => []
def dnP (a : Addr) (o : Obj) (hs : List Int) (bs : List Addr) (vs : List V) (h : Heap) : Prop :=
  h.get? a = some o ∧ (a == sysModules) = false ∧ o.ExactDict ∧ ∃ (es : Array DictEntry) (ep : Nat) (xs : List Value), o.data = .dict es ep ∧ Vals vs xs ∧ es.toList = ents hs bs xs
/-- a dict whose keys are tuples (the object itself is known: it may be walked) -/
def dnO (a : Addr) (o : Obj) (hs : List Int) (bs : List Addr) (vs : List V) : HO := .ext (dnP a o hs bs vs)

/-- a tuple: its object is known (it has no dict of its own) -/
def TupR (K : Fg) (F : Hp) (a : Addr) (vs : List V) : Prop := (∃ o : Obj, o.dict = none ∧ F a = some (.frz o (.tup vs))) ∨
  ∃ (o : Obj) (its : Array Value) (n : Nat), K.lookup a = some o ∧ o.dict = none ∧ o.cls = .type "tuple" ∧ o.data = .seq its n ∧ its.size ≤ sizeLine ∧ Vals vs its.toList
theorem TupR.sq {K : Fg} {F : Hp} {a : Addr} {vs : List V} (h : TupR K F a vs) : SqT K F a vs := by
  rcases h with ⟨o, _, h⟩ | ⟨o, its, n, h1, _, h2, h3, h4, h5⟩
  · exact Or.inl (Or.inr ⟨o, h⟩)
  · exact Or.inr ⟨o, its, n, h1, h2, h3, h4, h5⟩
theorem TupR.mono {K : Fg} {F F' : Hp} (e : Same F F') {a : Addr} {vs : List V} (h : TupR K F a vs) : TupR K F' a vs := by
  rcases h with ⟨o, h1, h⟩ | h
  · exact Or.inl ⟨o, h1, e _ _ h⟩
  · exact Or.inr h
mutual
def Rep (K : Fg) (F : Hp) : D → V → Prop
  | .non, v => v = .non
  | .bl b, v => v = .bl b
  | .int i, v => v = .int i
  | .str x, v => v = .str x
  | .tup ds, v => ∃ a vs, v = .ref a ∧ TupR K F a vs ∧ ds.length ≤ LB ∧ Reps K F ds vs
  | .lst ds, v => ∃ a vs, v = .ref a ∧ F a = some (.lst vs) ∧ ds.length ≤ LB ∧ Reps K F ds vs
  | .ins C ns ds, v => ∃ a dx vs, v = .ref a ∧ F a = some (.ins C dx (ns.zip vs)) ∧ ns.length = ds.length ∧ Reps K F ds vs
  | .dk ks ds, v => ∃ a vs, v = .ref a ∧ Rd F a (.dK (ks.zip vs)) ∧ ks.length = ds.length ∧ ds.length ≤ LB ∧ Reps K F ds vs
  | .dn hs ks ds, v => ∃ a o bs vs nks, v = .ref a ∧ F a = some (dnO a o hs bs vs) ∧ keysT ks = some nks ∧ nks.Nodup ∧ hs.length = ks.length ∧ ks.length = ds.length ∧ ds.length ≤ LB ∧ Reps K F ks (bs.map V.ref) ∧ Reps K F ds vs
  | .fn f, v => v = .ref f
def Reps (K : Fg) (F : Hp) : List D → List V → Prop
  | [], vs => vs = []
  | d :: ds, vs => ∃ v us, vs = v :: us ∧ Rep K F d v ∧ Reps K F ds us
end

theorem same_rd {F F' : Hp} (e : Same F F') {a : Addr} {u : HO} (h : Rd F a u) : Rd F' a u := by
  rcases h with h | ⟨o, h⟩
  · exact Or.inl (e _ _ h)
  · exact Or.inr ⟨o, e _ _ h⟩
theorem same_t {K : Fg} {F F' : Hp} (e : Same F F') {a : Addr} {xs : List V} (h : SqT K F a xs) : SqT K F' a xs := by
  rcases h with h | h
  · exact Or.inl (same_rd e h)
  · exact Or.inr h

mutual
theorem Rep.mono {K : Fg} {F F' : Hp} (e : Same F F') : ∀ {d : D} {v : V}, Rep K F d v → Rep K F' d v
  | .non, v, h => by simpa only [Rep] using h
  | .bl b, v, h => by simpa only [Rep] using h
  | .int i, v, h => by simpa only [Rep] using h
  | .str x, v, h => by simpa only [Rep] using h
  | .tup ds, v, h => by
    simp only [Rep] at h ⊢
    obtain ⟨a, vs, h1, h2, h3, h4⟩ := h
    exact ⟨a, vs, h1, h2.mono e, h3, Reps.mono e h4⟩
  | .lst ds, v, h => by
    simp only [Rep] at h ⊢
    obtain ⟨a, vs, h1, h2, h3, h4⟩ := h
    exact ⟨a, vs, h1, e _ _ h2, h3, Reps.mono e h4⟩
  | .ins C ns ds, v, h => by
    simp only [Rep] at h ⊢
    obtain ⟨a, dx, vs, h1, h2, h3, h4⟩ := h
    exact ⟨a, dx, vs, h1, e _ _ h2, h3, Reps.mono e h4⟩
  | .dk ks ds, v, h => by
    simp only [Rep] at h ⊢
    obtain ⟨a, vs, h1, h2, h3, h4, h5⟩ := h
    exact ⟨a, vs, h1, same_rd e h2, h3, h4, Reps.mono e h5⟩
  | .dn hs ks ds, v, h => by
    simp only [Rep] at h ⊢
    obtain ⟨a, o, bs, vs, nks, h1, h2, h3, h4, h5, h6, h7, h8, h9⟩ := h
    exact ⟨a, o, bs, vs, nks, h1, e _ _ h2, h3, h4, h5, h6, h7, Reps.mono e h8, Reps.mono e h9⟩
  | .fn f, v, h => by simpa only [Rep] using h
theorem Reps.mono {K : Fg} {F F' : Hp} (e : Same F F') : ∀ {ds : List D} {vs : List V}, Reps K F ds vs → Reps K F' ds vs
  | [], vs, h => by simpa only [Reps] using h
  | d :: ds, vs, h => by
    simp only [Reps] at h ⊢
    obtain ⟨v, us, h1, h2, h3⟩ := h
    exact ⟨v, us, h1, Rep.mono e h2, Reps.mono e h3⟩
end

theorem reps_nil {K : Fg} {F : Hp} : Reps K F [] [] := by simp only [Reps]
theorem reps_cons {K : Fg} {F : Hp} {d : D} {ds : List D} {v : V} {vs : List V} (h : Rep K F d v) (t : Reps K F ds vs) : Reps K F (d :: ds) (v :: vs) := by
  simp only [Reps]
  exact ⟨v, vs, rfl, h, t⟩
theorem Reps.inv {K : Fg} {F : Hp} {d : D} {ds : List D} {vs : List V} (h : Reps K F (d :: ds) vs) : ∃ v us, vs = v :: us ∧ Rep K F d v ∧ Reps K F ds us := by simpa only [Reps] using h
theorem Reps.inv0 {K : Fg} {F : Hp} {vs : List V} (h : Reps K F [] vs) : vs = [] := by simpa only [Reps] using h
theorem Reps.len {K : Fg} {F : Hp} : ∀ {ds : List D} {vs : List V}, Reps K F ds vs → vs.length = ds.length
  | [], vs, h => by rw [h.inv0] <;> rfl
  | d :: ds, vs, h => by
    obtain ⟨v, us, rfl, _, h3⟩ := h.inv
    simp [Reps.len h3]
theorem Reps.app {K : Fg} {F : Hp} : ∀ {ds es : List D} {vs us : List V}, Reps K F ds vs → Reps K F es us → Reps K F (ds ++ es) (vs ++ us)
  | [], es, vs, us, h, g => by rw [h.inv0]; exact g
  | d :: ds, es, vs, us, h, g => by
    obtain ⟨v, ws, rfl, h2, h3⟩ := h.inv
    exact reps_cons h2 (Reps.app h3 g)
theorem Reps.get {K : Fg} {F : Hp} : ∀ {ds : List D} {vs : List V} {i : Nat} {d : D}, Reps K F ds vs → ds[i]? = some d → ∃ v, vs[i]? = some v ∧ Rep K F d v
  | [], vs, i, d, h, e => by simp at e
  | x :: ds, vs, 0, d, h, e => by
    obtain ⟨v, us, rfl, h2, h3⟩ := h.inv
    have e' : x = d := by simpa using e
    subst e'
    exact ⟨v, rfl, h2⟩
  | x :: ds, vs, i + 1, d, h, e => by
    obtain ⟨v, us, rfl, h2, h3⟩ := h.inv
    obtain ⟨u, h4, h5⟩ := Reps.get (i := i) h3 (by simpa using e)
    exact ⟨u, by simpa using h4, h5⟩
theorem Reps.take {K : Fg} {F : Hp} : ∀ {ds : List D} {vs : List V} (n : Nat), Reps K F ds vs → Reps K F (ds.take n) (vs.take n)
  | [], vs, n, h => by rw [h.inv0]; simp [Reps]
  | x :: ds, vs, 0, h => by simp [Reps]
  | x :: ds, vs, n + 1, h => by
    obtain ⟨u, us, rfl, h2, h3⟩ := h.inv
    exact reps_cons h2 (Reps.take n h3)
theorem Reps.drop {K : Fg} {F : Hp} : ∀ {ds : List D} {vs : List V} (n : Nat), Reps K F ds vs → Reps K F (ds.drop n) (vs.drop n)
  | [], vs, n, h => by rw [h.inv0]; simp [Reps]
  | x :: ds, vs, 0, h => h
  | x :: ds, vs, n + 1, h => by
    obtain ⟨u, us, rfl, h2, h3⟩ := h.inv
    exact Reps.drop n h3
theorem Reps.set {K : Fg} {F : Hp} {d : D} {v : V} (g : Rep K F d v) : ∀ {ds : List D} {vs : List V} (i : Nat), Reps K F ds vs → Reps K F (ds.set i d) (vs.set i v)
  | [], vs, i, h => by rw [h.inv0]; simp [Reps]
  | x :: ds, vs, 0, h => by
    obtain ⟨u, us, rfl, h2, h3⟩ := h.inv
    exact reps_cons g h3
  | x :: ds, vs, i + 1, h => by
    obtain ⟨u, us, rfl, h2, h3⟩ := h.inv
    exact reps_cons h2 (Reps.set g i h3)
theorem Reps.rev {K : Fg} {F : Hp} : ∀ {ds : List D} {vs : List V}, Reps K F ds vs → Reps K F ds.reverse vs.reverse
  | [], vs, h => by rw [h.inv0]; simp [Reps]
  | x :: ds, vs, h => by
    obtain ⟨u, us, rfl, h2, h3⟩ := h.inv
    rw [List.reverse_cons, List.reverse_cons]
    exact Reps.app (Reps.rev h3) (reps_cons h2 reps_nil)
theorem Reps.erase {K : Fg} {F : Hp} : ∀ {ds : List D} {vs : List V} (i : Nat), Reps K F ds vs → Reps K F (ds.eraseIdx i) (vs.eraseIdx i)
  | [], vs, i, h => by rw [h.inv0]; simp [Reps]
  | x :: ds, vs, 0, h => by
    obtain ⟨u, us, rfl, h2, h3⟩ := h.inv
    exact h3
  | x :: ds, vs, i + 1, h => by
    obtain ⟨u, us, rfl, h2, h3⟩ := h.inv
    exact reps_cons h2 (Reps.erase i h3)

/-! ### inversions -/
section
variable {K : Fg} {F : Hp} {v : V}
theorem Rep.non_iff : Rep K F .non v ↔ v = .non := by simp only [Rep]
theorem Rep.bl_iff {b : Bool} : Rep K F (.bl b) v ↔ v = .bl b := by simp only [Rep]
theorem Rep.int_iff {i : Int} : Rep K F (.int i) v ↔ v = .int i := by simp only [Rep]
theorem Rep.fn_iff {f : Addr} : Rep K F (.fn f) v ↔ v = .ref f := by simp only [Rep]
theorem Rep.str_iff {x : Str} : Rep K F (.str x) v ↔ v = .str x := by simp only [Rep]
theorem Rep.tup_iff {ds : List D} : Rep K F (.tup ds) v ↔ ∃ a vs, v = .ref a ∧ TupR K F a vs ∧ ds.length ≤ LB ∧ Reps K F ds vs := by simp only [Rep]
theorem Rep.lst_iff {ds : List D} : Rep K F (.lst ds) v ↔ ∃ a vs, v = .ref a ∧ F a = some (.lst vs) ∧ ds.length ≤ LB ∧ Reps K F ds vs := by simp only [Rep]
theorem Rep.ins_iff {C : Addr} {ns : List Str} {ds : List D} : Rep K F (.ins C ns ds) v ↔ ∃ a dx vs, v = .ref a ∧ F a = some (.ins C dx (ns.zip vs)) ∧ ns.length = ds.length ∧ Reps K F ds vs := by simp only [Rep]
theorem Rep.dk_iff {ks : List Key} {ds : List D} : Rep K F (.dk ks ds) v ↔ ∃ a vs, v = .ref a ∧ Rd F a (.dK (ks.zip vs)) ∧ ks.length = ds.length ∧ ds.length ≤ LB ∧ Reps K F ds vs := by simp only [Rep]
theorem Rep.dn_iff {hs : List Int} {ks ds : List D} : Rep K F (.dn hs ks ds) v ↔ ∃ a o bs vs nks, v = .ref a ∧ F a = some (dnO a o hs bs vs) ∧ keysT ks = some nks ∧ nks.Nodup ∧ hs.length = ks.length ∧ ks.length = ds.length ∧ ds.length ≤ LB ∧ Reps K F ks (bs.map V.ref) ∧ Reps K F ds vs := by simp only [Rep]
end

/-- a tuple on the way to its parts: nothing but its parts is known -/
def RepW (K : Fg) (F : Hp) (d : D) (v : V) : Prop := match d with
  | .tup ds => ∃ a vs, v = .ref a ∧ SqT K F a vs ∧ Reps K F ds vs
  | d => Rep K F d v
theorem Rep.weak {K : Fg} {F : Hp} {d : D} {v : V} (h : Rep K F d v) : RepW K F d v := by
  cases d with
  | tup ds =>
    obtain ⟨a, vs, h1, h2, h3, h4⟩ := Rep.tup_iff.mp h
    exact ⟨a, vs, h1, h2.sq, h4⟩
  | _ => exact h
def Rq (K : Fg) : Bool → Hp → D → V → Prop
  | true => RepW K
  | false => Rep K
theorem Rq.tup {K : Fg} {F : Hp} {ds : List D} {v : V} : ∀ {b : Bool}, Rq K b F (.tup ds) v → ∃ a vs, v = .ref a ∧ SqT K F a vs ∧ Reps K F ds vs
  | true, h => h
  | false, h => Rep.weak h
/-- an object of one's own at a in H, its parts in F -/
def RepO (K : Fg) (F H : Hp) (a : Addr) : D → Prop
  | .lst ds => ∃ vs, H a = some (.lst vs) ∧ ds.length ≤ LB ∧ Reps K F ds vs
  | .ins C ns ds => ∃ dx vs, H a = some (.ins C dx (ns.zip vs)) ∧ ns.length = ds.length ∧ Reps K F ds vs
  | .dk ks ds => ∃ vs, H a = some (.dK (ks.zip vs)) ∧ ks.length = ds.length ∧ ds.length ≤ LB ∧ Reps K F ds vs
  | .dn hs ks ds => ∃ o bs vs nks, H a = some (dnO a o hs bs vs) ∧ keysT ks = some nks ∧ nks.Nodup ∧ hs.length = ks.length ∧ ks.length = ds.length ∧ ds.length ≤ LB ∧ Reps K F ks (bs.map V.ref) ∧ Reps K F ds vs
  | _ => False
theorem RepO.there {K : Fg} {F H : Hp} {a : Addr} {d : D} (h : RepO K F H a d) : ∃ o, H a = some o := by
  cases d with
  | lst ds => obtain ⟨vs, h, _⟩ := h; exact ⟨_, h⟩
  | ins C ns ds => obtain ⟨dx, vs, h, _⟩ := h; exact ⟨_, h⟩
  | dk ks ds => obtain ⟨vs, h, _⟩ := h; exact ⟨_, h⟩
  | dn hs ks ds => obtain ⟨o, bs, vs, nks, h, _⟩ := h; exact ⟨_, h⟩
  | _ => exact h.elim
theorem RepO.mono {K : Fg} {F F' H H' : Hp} {a : Addr} {d : D} (h : RepO K F H a d) (e : Same F F') (k : ∀ o, H a = some o → H' a = some o) : RepO K F' H' a d := by
  cases d with
  | lst ds => obtain ⟨vs, h1, h2, h3⟩ := h; exact ⟨vs, k _ h1, h2, Reps.mono e h3⟩
  | ins C ns ds => obtain ⟨dx, vs, h1, h2, h3⟩ := h; exact ⟨dx, vs, k _ h1, h2, Reps.mono e h3⟩
  | dk ks ds => obtain ⟨vs, h1, h2, h3, h4⟩ := h; exact ⟨vs, k _ h1, h2, h3, Reps.mono e h4⟩
  | dn hs ks ds => obtain ⟨o, bs, vs, nks, h1, h2, h3, h4, h5, h6, h7, h8⟩ := h; exact ⟨o, bs, vs, nks, k _ h1, h2, h3, h4, h5, h6, Reps.mono e h7, Reps.mono e h8⟩
  | _ => exact h.elim
/-- readable: frozen data, or an object of one's own -/
def RepR (K : Fg) (F H : Hp) (v : V) (d : D) : Prop := Rep K F d v ∨ ∃ a, v = .ref a ∧ RepO K F H a d
theorem RepR.mono {K : Fg} {F F' H H' : Hp} {v : V} {d : D} (h : RepR K F H v d) (e : Same F F') (k : Same H H') : RepR K F' H' v d := by
  rcases h with h | ⟨a, rfl, h⟩
  · exact Or.inl (h.mono e)
  · exact Or.inr ⟨a, rfl, h.mono e fun o q => k _ _ q⟩
/-- an own object is frozen -/
theorem RepO.freeze {K : Fg} {F H : Hp} {a : Addr} {d : D} (h : RepO K F H a d) (hn : F a = none) : ∃ o, H a = some o ∧ Rep K (upd F a o) d (.ref a) := by
  have e : ∀ o, Same F (upd F a o) := fun o b u q => by rw [upd_ne (ne_of_none q hn)]; exact q
  cases d with
  | lst ds =>
    obtain ⟨vs, h1, h2, h3⟩ := h
    exact ⟨_, h1, Rep.lst_iff.mpr ⟨a, vs, rfl, upd_same, h2, Reps.mono (e _) h3⟩⟩
  | ins C ns ds =>
    obtain ⟨dx, vs, h1, h2, h3⟩ := h
    exact ⟨_, h1, Rep.ins_iff.mpr ⟨a, dx, vs, rfl, upd_same, h2, Reps.mono (e _) h3⟩⟩
  | dk ks ds =>
    obtain ⟨vs, h1, h2, h3, h4⟩ := h
    exact ⟨_, h1, Rep.dk_iff.mpr ⟨a, vs, rfl, Or.inl upd_same, h2, h3, Reps.mono (e _) h4⟩⟩
  | dn hs ks ds =>
    obtain ⟨o, bs, vs, nks, h1, h2, h3, h4, h5, h6, h7, h8⟩ := h
    exact ⟨_, h1, Rep.dn_iff.mpr ⟨a, o, bs, vs, nks, rfl, upd_same, h2, h3, h4, h5, h6, Reps.mono (e _) h7, Reps.mono (e _) h8⟩⟩
  | _ => exact h.elim

/-! ### slots -/
/-- un: nothing known; fr: frozen data; bo: borrowed (another's object, read alone); ow: an object of this def's own; io: an object that the caller handed in to be changed; sc: the script; b2: a list of borrowed objects -/
inductive Sl where
  | un | fr (d : D) | bo (d : D) | ow (d : D) | io (d : D) | sc (ns : List Int) | b2 (ds : List D)
abbrev En := List Sl
/-- what is told of an error: its class, its own attributes -/
structure Xn where
  C : Addr
  ns : List Str
  ds : List D
  tg : Nat := 0
/-- the wish that tells which error a suite holds -/
def WA (a : Addr) : WX := fun cls _ _ _ => cls = Value.ref a
/-- the same of an error with a field -/
def WF (a dd : Addr) (fld : Str) (y : V) : WX := fun cls d σ H => cls = Value.ref a ∧ d = some dd ∧ σ = [] ∧ H = fun _ => some (.xd [(fld, y)])

structure Cn where
  K : Fg
  P : Hp
  B : Hp
  F0 : Hp
  bt : Nat → Addr
  W : WX
  Q : Hp := fun _ => none

def Sl.own : Sl → Option D
  | .ow d => some d
  | .io d => some d
  | _ => none
def Sl.dat : Sl → Option D
  | .fr d => some d
  | .bo d => some d
  | .ow d => some d
  | .io d => some d
  | _ => none

/-- the parts of a list of borrowed objects -/
def Parts (K : Fg) (P F : Hp) (vs : List V) (ds : List D) : Prop := Paired (fun v d => ∃ b, v = V.ref b ∧ RepO K F P b d) vs ds
theorem Parts.mono {K : Fg} {P P' F F' : Hp} {vs : List V} {ds : List D} (h : Parts K P F vs ds) (p : Same P P') (e : Same F F') : Parts K P' F' vs ds :=
  Paired.mapP h fun _ _ ⟨b, h1, h2⟩ => ⟨b, h1, h2.mono e fun o q => p _ _ q⟩
structure StOk (C : Cn) (α : Nat → Addr) (F H : Hp) (σ : St) (δ : En) : Prop where
  fh : Same F H
  ph : Same C.P H
  bp : Same C.B C.P
  f0 : Same C.F0 F
  fp : ∀ a o, F a = some o → C.F0 a = some o ∨ C.P a = none
  len : σ.length = δ.length
  fr : ∀ (i : Nat) (d : D), δ[i]? = some (Sl.fr d) → ∃ v, σ[i]? = some (some v) ∧ Rep C.K F d v
  bo : ∀ (i : Nat) (d : D), δ[i]? = some (Sl.bo d) → ∃ v, σ[i]? = some (some v) ∧ RepR C.K F C.B v d
  ow : ∀ (i : Nat) (s : Sl) (d : D), δ[i]? = some s → s.own = some d → σ[i]? = some (some (V.ref (α i))) ∧ F (α i) = none ∧ C.P (α i) = none ∧ RepO C.K F H (α i) d
  io : ∀ (i : Nat) (d : D), δ[i]? = some (Sl.io d) → α i = C.bt i
  inj : ∀ (i j : Nat) (s t : Sl) (d e : D), δ[i]? = some s → δ[j]? = some t → s.own = some d → t.own = some e → α i = α j → i = j
  sc : ∀ (i : Nat) (ns : List Int), δ[i]? = some (Sl.sc ns) → ∃ a, σ[i]? = some (some (V.ref a)) ∧ (ns.length ≤ 1000000 ∧ SqL C.K C.B a (ns.map V.int) ∨ 1000000 < ns.length ∧ (C.W = WA a ∨ ∃ dd fld y, C.W = WF a dd fld y ∧ C.Q dd = some (.xd [(fld, y)])))
  b2 : ∀ (i : Nat) (ds : List D), δ[i]? = some (Sl.b2 ds) → ∃ vs, σ[i]? = some (some (V.ref (C.bt i))) ∧ F (C.bt i) = some (.lst vs) ∧ Parts C.K C.Q F vs ds
  qp : Same C.Q C.P

/-- only new things are laid, and frozen -/
structure New (F H F' H' : Hp) : Prop where
  ff : Same F F'
  fh : Same F' H'
  hh : Same H H'
  nw : ∀ a o, F' a = some o → F a = some o ∨ H a = none
theorem New.refl {F H : Hp} (h : Same F H) : New F H F H := ⟨Same.refl _, h, Same.refl _, fun _ _ q => Or.inl q⟩
theorem New.trans {F H F1 H1 F2 H2 : Hp} (a : New F H F1 H1) (b : New F1 H1 F2 H2) : New F H F2 H2 :=
  ⟨a.ff.trans b.ff, b.fh, a.hh.trans b.hh, fun x o q => by
    rcases b.nw x o q with q | q
    · exact a.nw x o q
    · exact Or.inr (a.hh.free q)⟩
theorem same_upd {H : Hp} {p : Addr} {o : HO} (h : H p = none) : Same H (upd H p o) := fun a u e => by
  rw [upd_ne (ne_of_none e h)]
  exact e
/-- one new object, frozen at once -/
theorem New.lay {F H : Hp} {p : Addr} {o : HO} (fh : Same F H) (h : H p = none) : New F H (upd F p o) (upd H p o) :=
  ⟨same_upd (fh.free h), fun a u e => by
    by_cases q : a = p
    · subst q
      rw [upd_same] at e ⊢
      exact e
    · rw [upd_ne q] at e ⊢
      exact fh a u e, same_upd h, fun a u e => by
    by_cases q : a = p
    · subst q
      exact Or.inr h
    · rw [upd_ne q] at e
      exact Or.inl e⟩
/-- one new object, not frozen -/
theorem New.put {F H : Hp} {p : Addr} {o : HO} (fh : Same F H) (h : H p = none) : New F H F (upd H p o) :=
  ⟨Same.refl _, fh.trans (same_upd h), same_upd h, fun _ _ q => Or.inl q⟩

section
variable {C : Cn} {α : Nat → Addr} {F H F' H' : Hp} {σ : St} {δ : En}
theorem StOk.new (S : StOk C α F H σ δ) (n : New F H F' H') : StOk C α F' H' σ δ where
  fh := n.fh
  ph := S.ph.trans n.hh
  bp := S.bp
  f0 := S.f0.trans n.ff
  fp := fun a o q => by
    rcases n.nw a o q with q | q
    · exact S.fp a o q
    · exact Or.inr (S.ph.free q)
  len := S.len
  fr := fun i d q => let ⟨v, h1, h2⟩ := S.fr i d q; ⟨v, h1, h2.mono n.ff⟩
  bo := fun i d q => let ⟨v, h1, h2⟩ := S.bo i d q; ⟨v, h1, h2.mono n.ff (Same.refl _)⟩
  ow := fun i s d q r => by
    obtain ⟨h1, h2, h3, h4⟩ := S.ow i s d q r
    refine ⟨h1, ?_, h3, h4.mono n.ff fun o q => n.hh _ _ q⟩
    cases e : F' (α i) with
    | none => rfl
    | some o =>
      rcases n.nw _ _ e with z | z
      · rw [h2] at z; cases z
      · obtain ⟨u, hu⟩ := h4.there
        rw [hu] at z; cases z
  io := S.io
  inj := S.inj
  sc := S.sc
  b2 := fun i ds q => by
    obtain ⟨vs, h1, h2, h3⟩ := S.b2 i ds q
    exact ⟨vs, h1, n.ff _ _ h2, h3.mono (Same.refl _) n.ff⟩
  qp := S.qp
theorem StOk.look (S : StOk C α F H σ δ) {i : Nat} {s : Sl} {d : D} (h : δ[i]? = some s) (hd : s.dat = some d) : ∃ v, σ[i]? = some (some v) ∧ RepR C.K F H v d := by
  cases s with
  | un => cases hd
  | fr e =>
    cases hd
    obtain ⟨v, h1, h2⟩ := S.fr i d h
    exact ⟨v, h1, Or.inl h2⟩
  | bo e =>
    cases hd
    obtain ⟨v, h1, h2⟩ := S.bo i d h
    exact ⟨v, h1, h2.mono (Same.refl _) (S.bp.trans S.ph)⟩
  | ow e =>
    cases hd
    obtain ⟨h1, h2, h3, h4⟩ := S.ow i _ d h rfl
    exact ⟨_, h1, Or.inr ⟨_, rfl, h4⟩⟩
  | io e =>
    cases hd
    obtain ⟨h1, h2, h3, h4⟩ := S.ow i _ d h rfl
    exact ⟨_, h1, Or.inr ⟨_, rfl, h4⟩⟩
  | sc ns => cases hd
  | b2 ds => cases hd
/-- a slot is stored: frozen data -/
theorem StOk.set (S : StOk C α F H σ δ) {i : Nat} {d : D} {v : V} (h : Rep C.K F d v) : StOk C α F H (σ.set i (some v)) (δ.set i (.fr d)) := by
  have key : ∀ (j : Nat) (s : Sl), (δ.set i (Sl.fr d))[j]? = some s → (j = i ∧ s = Sl.fr d ∧ i < δ.length) ∨ (j ≠ i ∧ δ[j]? = some s) := fun j s e => by
    by_cases q : j = i
    · subst q
      by_cases l : j < δ.length
      · rw [List.getElem?_set_self l] at e
        exact Or.inl ⟨rfl, (Option.some.inj e).symm, l⟩
      · rw [List.getElem?_eq_none (by rw [List.length_set]; omega)] at e
        cases e
    · rw [List.getElem?_set_ne (Ne.symm q)] at e
      exact Or.inr ⟨q, e⟩
  have sg : ∀ (j : Nat), j ≠ i → (σ.set i (some v))[j]? = σ[j]? := fun j q => List.getElem?_set_ne (Ne.symm q)
  refine ⟨S.fh, S.ph, S.bp, S.f0, S.fp, by rw [List.length_set, List.length_set]; exact S.len, fun j e q => ?_, fun j e q => ?_, fun j s e q r => ?_, fun j e q => ?_, fun j k s t e f q1 q2 r1 r2 => ?_, fun j ns q => ?_, fun j ds q => ?_, S.qp⟩
  · rcases key j _ q with ⟨rfl, z, l⟩ | ⟨n, q⟩
    · cases z
      exact ⟨v, by rw [List.getElem?_set_self (by rw [S.len]; exact l)], h⟩
    · rw [sg j n]
      exact S.fr j e q
  · rcases key j _ q with ⟨rfl, z, l⟩ | ⟨n, q⟩
    · cases z
    · rw [sg j n]
      exact S.bo j e q
  · rcases key j _ q with ⟨rfl, z, l⟩ | ⟨n, q⟩
    · subst z
      cases r
    · rw [sg j n]
      exact S.ow j s e q r
  · rcases key j _ q with ⟨rfl, z, l⟩ | ⟨n, q⟩
    · cases z
    · exact S.io j e q
  · rcases key j _ q1 with ⟨rfl, z, l⟩ | ⟨n, q1⟩
    · subst z
      cases r1
    · rcases key k _ q2 with ⟨rfl, z, l⟩ | ⟨n, q2⟩
      · subst z
        cases r2
      · exact S.inj j k s t e f q1 q2 r1 r2
  · rcases key j _ q with ⟨rfl, z, l⟩ | ⟨n, q⟩
    · cases z
    · rw [sg j n]
      exact S.sc j ns q
  · rcases key j _ q with ⟨rfl, z, l⟩ | ⟨n, q⟩
    · cases z
    · rw [sg j n]
      exact S.b2 j ds q
/-- a slot is stored: an own object, new at p -/
theorem StOk.setO (S : StOk C α F H σ δ) {i : Nat} {d : D} {p : Addr} (h : RepO C.K F H p d) (hF : F p = none) (hP : C.P p = none) (hne : ∀ (j : Nat) (s : Sl) (e : D), δ[j]? = some s → s.own = some e → j ≠ i → α j ≠ p) :
    StOk C (fun j => if j = i then p else α j) F H (σ.set i (some (.ref p))) (δ.set i (.ow d)) := by
  have key : ∀ (j : Nat) (s : Sl), (δ.set i (Sl.ow d))[j]? = some s → (j = i ∧ s = Sl.ow d ∧ i < δ.length) ∨ (j ≠ i ∧ δ[j]? = some s) := fun j s e => by
    by_cases q : j = i
    · subst q
      by_cases l : j < δ.length
      · rw [List.getElem?_set_self l] at e
        exact Or.inl ⟨rfl, (Option.some.inj e).symm, l⟩
      · rw [List.getElem?_eq_none (by rw [List.length_set]; omega)] at e
        cases e
    · rw [List.getElem?_set_ne (Ne.symm q)] at e
      exact Or.inr ⟨q, e⟩
  have sg : ∀ (j : Nat), j ≠ i → (σ.set i (some (V.ref p)))[j]? = σ[j]? := fun j q => List.getElem?_set_ne (Ne.symm q)
  refine ⟨S.fh, S.ph, S.bp, S.f0, S.fp, by rw [List.length_set, List.length_set]; exact S.len, fun j e q => ?_, fun j e q => ?_, fun j s e q r => ?_, fun j e q => ?_, fun j k s t e f q1 q2 r1 r2 r3 => ?_, fun j ns q => ?_, fun j ds q => ?_, S.qp⟩
  · rcases key j _ q with ⟨rfl, z, l⟩ | ⟨n, q⟩
    · cases z
    · rw [sg j n]
      exact S.fr j e q
  · rcases key j _ q with ⟨rfl, z, l⟩ | ⟨n, q⟩
    · cases z
    · rw [sg j n]
      exact S.bo j e q
  · rcases key j _ q with ⟨rfl, z, l⟩ | ⟨n, q⟩
    · subst z
      cases r
      rw [if_pos rfl]
      exact ⟨by rw [List.getElem?_set_self (by rw [S.len]; exact l)], hF, hP, h⟩
    · rw [sg j n, if_neg n]
      exact S.ow j s e q r
  · rcases key j _ q with ⟨rfl, z, l⟩ | ⟨n, q⟩
    · cases z
    · rw [if_neg n]
      exact S.io j e q
  · rcases key j _ q1 with ⟨ej, z, l⟩ | ⟨n, p1⟩
    · rcases key k _ q2 with ⟨ek, z2, l2⟩ | ⟨n2, p2⟩
      · rw [ej, ek]
      · rw [if_pos ej, if_neg n2] at r3
        exact absurd r3.symm (hne k t f p2 r2 n2)
    · rcases key k _ q2 with ⟨ek, z2, l2⟩ | ⟨n2, p2⟩
      · rw [if_neg n, if_pos ek] at r3
        exact absurd r3 (hne j s e p1 r1 n)
      · rw [if_neg n, if_neg n2] at r3
        exact S.inj j k s t e f p1 p2 r1 r2 r3
  · rcases key j _ q with ⟨rfl, z, l⟩ | ⟨n, q⟩
    · cases z
    · rw [sg j n]
      exact S.sc j ns q
  · rcases key j _ q with ⟨rfl, z, l⟩ | ⟨n, q⟩
    · cases z
    · rw [sg j n]
      exact S.b2 j ds q
/-- an object that is neither frozen, nor kept, nor another slot's own is changed -/
theorem StOk.poke (S : StOk C α F H σ δ) {p : Addr} {o : HO} (hF : F p = none) (hP : C.P p = none) (hne : ∀ (j : Nat) (s : Sl) (e : D), δ[j]? = some s → s.own = some e → α j ≠ p) : StOk C α F (upd H p o) σ δ where
  fh := fun a u q => by rw [upd_ne (ne_of_none q hF)]; exact S.fh a u q
  ph := fun a u q => by rw [upd_ne (ne_of_none q hP)]; exact S.ph a u q
  bp := S.bp
  f0 := S.f0
  fp := S.fp
  len := S.len
  fr := S.fr
  bo := S.bo
  ow := fun j s e q r => by
    obtain ⟨h1, h2, h3, h4⟩ := S.ow j s e q r
    refine ⟨h1, h2, h3, h4.mono (Same.refl _) fun u z => ?_⟩
    rw [upd_ne (hne j s e q r)]
    exact z
  io := S.io
  inj := S.inj
  sc := S.sc
  b2 := S.b2
  qp := S.qp
/-- an own object is changed -/
theorem StOk.poke1 (S : StOk C α F H σ δ) {i : Nat} {s t : Sl} {d e : D} {o : HO} (hi : δ[i]? = some s) (hs : s.own = some d) (ht : t.own = some e) (hk : ∀ z, t = .io z → ∃ y, s = .io y) (ho : RepO C.K F (upd H (α i) o) (α i) e) : StOk C α F (upd H (α i) o) σ (δ.set i t) := by
  obtain ⟨h1, h2, h3, h4⟩ := S.ow i s d hi hs
  have li : i < δ.length := (List.getElem?_eq_some_iff.mp hi).1
  have key : ∀ (j : Nat) (u : Sl), (δ.set i t)[j]? = some u → (j = i ∧ u = t) ∨ (j ≠ i ∧ δ[j]? = some u) := fun j u e => by
    by_cases q : j = i
    · subst q
      rw [List.getElem?_set_self li] at e
      exact Or.inl ⟨rfl, (Option.some.inj e).symm⟩
    · rw [List.getElem?_set_ne (Ne.symm q)] at e
      exact Or.inr ⟨q, e⟩
  have tf : ∀ d, t ≠ .fr d := fun d z => by rw [z] at ht; cases ht
  have tb : ∀ d, t ≠ .bo d := fun d z => by rw [z] at ht; cases ht
  have tc : ∀ d, t ≠ .sc d := fun d z => by rw [z] at ht; cases ht
  have td : ∀ d, t ≠ .b2 d := fun d z => by rw [z] at ht; cases ht
  refine ⟨fun a u q => ?_, fun a u q => ?_, S.bp, S.f0, S.fp, by rw [List.length_set]; exact S.len, fun j e q => ?_, fun j e q => ?_, fun j u e q r => ?_, fun j e q => ?_, fun j k u v e f q1 q2 r1 r2 r3 => ?_, fun j ns q => ?_, fun j ds q => ?_, S.qp⟩
  · rw [upd_ne (ne_of_none q h2)]; exact S.fh a u q
  · rw [upd_ne (ne_of_none q h3)]; exact S.ph a u q
  · rcases key j _ q with ⟨ej, z⟩ | ⟨n, q⟩
    · exact absurd z.symm (tf _)
    · exact S.fr j e q
  · rcases key j _ q with ⟨ej, z⟩ | ⟨n, q⟩
    · exact absurd z.symm (tb _)
    · exact S.bo j e q
  · rcases key j _ q with ⟨ej, z⟩ | ⟨n, q⟩
    · subst z
      rw [ht] at r
      cases r
      rw [ej]
      exact ⟨h1, h2, h3, ho⟩
    · obtain ⟨g1, g2, g3, g4⟩ := S.ow j u e q r
      refine ⟨g1, g2, g3, g4.mono (Same.refl _) fun w z => ?_⟩
      rw [upd_ne fun z => n (S.inj j i u s e d q hi r hs z)]
      exact z
  · rcases key j _ q with ⟨ej, z⟩ | ⟨n, q⟩
    · obtain ⟨y, hy⟩ := hk _ z.symm
      rw [ej]
      exact S.io i y (by rw [hi, hy])
    · exact S.io j e q
  · rcases key j _ q1 with ⟨ej, z⟩ | ⟨n, p1⟩
    · rcases key k _ q2 with ⟨ek, z2⟩ | ⟨n2, p2⟩
      · rw [ej, ek]
      · rw [ej] at r3 ⊢
        exact S.inj i k s v d f hi p2 hs r2 r3
    · rcases key k _ q2 with ⟨ek, z2⟩ | ⟨n2, p2⟩
      · rw [ek] at r3 ⊢
        exact S.inj j i u s e d p1 hi r1 hs r3
      · exact S.inj j k u v e f p1 p2 r1 r2 r3
  · rcases key j _ q with ⟨ej, z⟩ | ⟨n, q⟩
    · exact absurd z.symm (tc _)
    · exact S.sc j ns q
  · rcases key j _ q with ⟨ej, z⟩ | ⟨n, q⟩
    · exact absurd z.symm (td _)
    · exact S.b2 j ds q
/-- slots forgotten -/
def wipeE (δ : En) : List Nat → En
  | [] => δ
  | v :: vs => (wipeE δ vs).set v .un
theorem wipeE_get {δ : En} {i : Nat} {s : Sl} : ∀ {vs : List Nat}, (wipeE δ vs)[i]? = some s → s = .un ∨ (i ∉ vs ∧ δ[i]? = some s)
  | [], h => Or.inr ⟨by simp, h⟩
  | v :: vs, h => by
    unfold wipeE at h
    by_cases q : i = v
    · subst q
      by_cases l : i < (wipeE δ vs).length
      · rw [List.getElem?_set_self l] at h
        exact Or.inl (Option.some.inj h).symm
      · rw [List.getElem?_eq_none (by rw [List.length_set]; omega)] at h
        cases h
    · rw [List.getElem?_set_ne (Ne.symm q)] at h
      rcases wipeE_get h with z | ⟨z1, z2⟩
      · exact Or.inl z
      · exact Or.inr ⟨by simp [q, z1], z2⟩
theorem wipeE_len {δ : En} : ∀ vs : List Nat, (wipeE δ vs).length = δ.length
  | [] => rfl
  | v :: vs => by unfold wipeE; rw [List.length_set, wipeE_len vs]
theorem wipe_get {σ : St} {i : Nat} : ∀ {vs : List Nat}, i ∉ vs → (wipe σ vs)[i]? = σ[i]?
  | [], _ => rfl
  | v :: vs, h => by
    unfold wipe
    rw [List.getElem?_set_ne fun z => h (by simp [z]), wipe_get fun z => h (by simp [z])]
/-- the same slots, but for the forgotten ones -/
theorem StOk.wiped (S : StOk C α F H σ δ) {vs : List Nat} {σ' : St} (hl : σ'.length = σ.length) (hs : ∀ i, i ∉ vs → σ'[i]? = σ[i]?) : StOk C α F H σ' (wipeE δ vs) where
  fh := S.fh
  ph := S.ph
  bp := S.bp
  f0 := S.f0
  fp := S.fp
  len := by rw [hl, wipeE_len]; exact S.len
  fr := fun j e q => by
    rcases wipeE_get q with z | ⟨z1, z2⟩
    · cases z
    · rw [hs j z1]; exact S.fr j e z2
  bo := fun j e q => by
    rcases wipeE_get q with z | ⟨z1, z2⟩
    · cases z
    · rw [hs j z1]; exact S.bo j e z2
  ow := fun j s e q r => by
    rcases wipeE_get q with z | ⟨z1, z2⟩
    · subst z; cases r
    · rw [hs j z1]; exact S.ow j s e z2 r
  io := fun j e q => by
    rcases wipeE_get q with z | ⟨z1, z2⟩
    · cases z
    · exact S.io j e z2
  inj := fun j k s t e f q1 q2 r1 r2 r3 => by
    rcases wipeE_get q1 with z | ⟨z1, z2⟩
    · subst z; cases r1
    · rcases wipeE_get q2 with z | ⟨y1, y2⟩
      · subst z; cases r2
      · exact S.inj j k s t e f z2 y2 r1 r2 r3
  sc := fun j ns q => by
    rcases wipeE_get q with z | ⟨z1, z2⟩
    · cases z
    · rw [hs j z1]; exact S.sc j ns z2
  b2 := fun j ds q => by
    rcases wipeE_get q with z | ⟨z1, z2⟩
    · cases z
    · rw [hs j z1]; exact S.b2 j ds z2
  qp := S.qp
end
end DL

set_option Elab.async false
set_option linter.all false
set_option maxRecDepth 100000
set_option maxHeartbeats 400000
/-! DLb: the judgements. -/
namespace DL
open PySem L2

inductive R (α : Type) where
  | ok (a : α) (δ : En)
  | ex (x : Xn) (δ : En)
abbrev M (α : Type) := En → Option (R α)
def M.ret {α : Type} (a : α) : M α := fun δ => some (.ok a δ)
def M.bind {α β : Type} (m : M α) (f : α → M β) : M β := fun δ => match m δ with
  | none => none
  | some (.ex x δ') => some (.ex x δ')
  | some (.ok a δ') => f a δ'
def M.lift {α : Type} (o : Option α) : M α := fun δ => match o with
  | some a => some (.ok a δ)
  | none => none
theorem M.bind_ok {α β : Type} {m : M α} {f : α → M β} {δ δ' : En} {a : α} (h : m δ = some (.ok a δ')) : M.bind m f δ = f a δ' := by unfold M.bind; rw [h]
theorem M.bind_ex {α β : Type} {m : M α} {f : α → M β} {δ δ' : En} {x : Xn} (h : m δ = some (.ex x δ')) : M.bind m f δ = some (.ex x δ') := by unfold M.bind; rw [h]

def XRep (K : Fg) (F H : Hp) (x : Xn) (cls : Value) (dd : Option Addr) : Prop :=
  cls = .ref x.C ∧ ((x.ns = [] ∧ x.ds = [] ∧ dd = none) ∨ ∃ a vs, dd = some a ∧ H a = some (.xd (x.ns.zip vs)) ∧ x.ns ≠ [] ∧ x.ns.length = x.ds.length ∧ Reps K F x.ds vs ∧ F a = none)

abbrev Rl (β α : Type) := Hp → St → β → α → Prop
abbrev Pr := Hp → St → Prop
def relD (K : Fg) : Rl V D := fun F _ v d => Rep K F d v
def relB : Rl Bool Bool := fun _ _ b c => b = c

/-- t computes what m computes -/
def J {β α : Type} (K : Fg) (W : WX) (pre : Pr) (t : St → Hp → (β → Hp → Prop) → Prop) (rel : Rl β α) (m : M α) : Prop :=
  ∀ (C : Cn), C.K = K → C.W = W → ∀ (al : Nat → Addr) (F H : Hp) (σ : St) (δ : En), StOk C al F H σ δ → pre F σ → ∀ r, m δ = some r → ∀ Q : β → Hp → Prop,
    (∀ a δ', r = .ok a δ' → ∀ al' F' H' b, Same F F' → StOk C al' F' H' σ δ' → rel F' σ b a → Q b H') →
    (∀ x δ', r = .ex x δ' → ∀ al' F' H' cls dd, Same F F' → StOk C al' F' H' σ δ' → XRep K F' H' x cls dd → W cls dd σ H') → t σ H Q
/-- the same of a new object of one's own -/
def Jn (K : Fg) (W : WX) (pre : Pr) (t : TE) (m : M D) : Prop :=
  ∀ (C : Cn), C.K = K → C.W = W → ∀ (al : Nat → Addr) (F H : Hp) (σ : St) (δ : En), StOk C al F H σ δ → pre F σ → ∀ r, m δ = some r → ∀ Q : VK,
    (∀ d δ', r = .ok d δ' → ∀ al' F' H' p, Same F F' → StOk C al' F' H' σ δ' → F' p = none → C.P p = none → (∀ (j : Nat) s e, δ'[j]? = some s → Sl.own s = some e → al' j ≠ p) → RepO K F' H' p d → Q (.ref p) H') →
    (∀ x δ', r = .ex x δ' → ∀ al' F' H' cls dd, Same F F' → StOk C al' F' H' σ δ' → XRep K F' H' x cls dd → W cls dd σ H') → t σ H Q
def tru : Pr := fun _ _ => True
abbrev Ev (K : Fg) (W : WX) (te : TE) (m : M D) : Prop := J K W tru te (relD K) m
abbrev En1 (K : Fg) (W : WX) (te : TE) (m : M D) : Prop := Jn K W tru te m
abbrev Et (K : Fg) (W : WX) (tt : TT) (m : M Bool) : Prop := J K W tru tt relB m

def MonoP (pre : Pr) : Prop := ∀ F F' σ, Same F F' → pre F σ → pre F' σ
def MonoR {β α : Type} (rel : Rl β α) : Prop := ∀ F F' σ b a, Same F F' → rel F σ b a → rel F' σ b a
theorem monoT : MonoP tru := fun _ _ _ _ _ => trivial
theorem monoD {K : Fg} : MonoR (relD K) := fun _ _ _ _ _ e h => Rep.mono e h
theorem MonoP.and {p q : Pr} (a : MonoP p) (b : MonoP q) : MonoP fun F σ => p F σ ∧ q F σ := fun F F' σ e h => ⟨a F F' σ e h.1, b F F' σ e h.2⟩
theorem MonoR.at {β α : Type} {rel : Rl β α} (h : MonoR rel) {b : β} {a : α} : MonoP fun F σ => rel F σ b a := fun F F' σ e q => h F F' σ b a e q

section
variable {K : Fg} {W : WX} {pre : Pr}
theorem J.bind {β γ α ε : Type} {t1 : St → Hp → (β → Hp → Prop) → Prop} {t2 : β → St → Hp → (γ → Hp → Prop) → Prop} {rel1 : Rl β α} {rel2 : Rl γ ε} {m : M α} {f : α → M ε}
    (h1 : J K W pre t1 rel1 m) (mp : MonoP pre) (h2 : ∀ a b, J K W (fun F σ => pre F σ ∧ rel1 F σ b a) (t2 b) rel2 (f a)) : J K W pre (fun σ H Q => t1 σ H fun b H1 => t2 b σ H1 Q) rel2 (m.bind f) := by
  intro C hK hW al F H σ δ S hp r hr Q hok hex
  cases e : m δ with
  | none => unfold M.bind at hr; rw [e] at hr; cases hr
  | some r1 =>
    refine h1 C hK hW al F H σ δ S hp r1 e _ (fun a δ1 e1 al1 F1 H1 b s1 S1 rel => ?_) fun x δ1 e1 al1 F1 H1 cls dd s1 S1 xr => ?_
    · subst e1
      rw [M.bind_ok e] at hr
      exact h2 a b C hK hW al1 F1 H1 σ δ1 S1 ⟨mp _ _ _ s1 hp, rel⟩ r hr Q (fun a2 δ2 e2 al2 F2 H2 b2 s2 S2 rel2 => hok a2 δ2 e2 al2 F2 H2 b2 (s1.trans s2) S2 rel2)
        fun x δ2 e2 al2 F2 H2 cls dd s2 S2 xr => hex x δ2 e2 al2 F2 H2 cls dd (s1.trans s2) S2 xr
    · subst e1
      rw [M.bind_ex e] at hr
      cases hr
      exact hex x δ1 rfl al1 F1 H1 cls dd s1 S1 xr
theorem J.bindN {β α : Type} {t1 : St → Hp → (β → Hp → Prop) → Prop} {t2 : β → TE} {rel1 : Rl β α} {m : M α} {f : α → M D}
    (h1 : J K W pre t1 rel1 m) (mp : MonoP pre) (h2 : ∀ a b, Jn K W (fun F σ => pre F σ ∧ rel1 F σ b a) (t2 b) (f a)) : Jn K W pre (fun σ H Q => t1 σ H fun b H1 => t2 b σ H1 Q) (m.bind f) := by
  intro C hK hW al F H σ δ S hp r hr Q hok hex
  cases e : m δ with
  | none => unfold M.bind at hr; rw [e] at hr; cases hr
  | some r1 =>
    refine h1 C hK hW al F H σ δ S hp r1 e _ (fun a δ1 e1 al1 F1 H1 b s1 S1 rel => ?_) fun x δ1 e1 al1 F1 H1 cls dd s1 S1 xr => ?_
    · subst e1
      rw [M.bind_ok e] at hr
      exact h2 a b C hK hW al1 F1 H1 σ δ1 S1 ⟨mp _ _ _ s1 hp, rel⟩ r hr Q (fun a2 δ2 e2 al2 F2 H2 p s2 S2 a1 a2 a3 a4 => hok _ δ2 e2 al2 F2 H2 p (s1.trans s2) S2 a1 a2 a3 a4)
        fun x δ2 e2 al2 F2 H2 cls dd s2 S2 xr => hex x δ2 e2 al2 F2 H2 cls dd (s1.trans s2) S2 xr
    · subst e1
      rw [M.bind_ex e] at hr
      cases hr
      exact hex x δ1 rfl al1 F1 H1 cls dd s1 S1 xr
theorem J.wk {β α : Type} {t : St → Hp → (β → Hp → Prop) → Prop} {rel : Rl β α} {m : M α} {p q : Pr} (h : J K W p t rel m) (i : ∀ F σ, q F σ → p F σ) : J K W q t rel m :=
  fun C hK hW al F H σ δ S hp => h C hK hW al F H σ δ S (i _ _ hp)
/-- a new object frozen -/
theorem Jn.frz {t : TE} {m : M D} (h : Jn K W pre t m) : J K W pre t (relD K) m := by
  intro C hK hW al F H σ δ S hp r hr Q hok hex
  refine h C hK hW al F H σ δ S hp r hr Q (fun d δ' e al' F' H' p s S' n1 n2 n3 o => ?_) hex
  obtain ⟨u, hu, rp⟩ := o.freeze n1
  have fs : Same F' (upd F' p u) := same_upd n1
  refine hok d δ' e al' (upd F' p u) H' (.ref p) (s.trans fs) ⟨fun a v q => ?_, S'.ph, S'.bp, S'.f0.trans fs, fun a v q => ?_, S'.len, fun i d q => ?_, fun i d q => ?_, fun i s d q r => ?_, S'.io, S'.inj, S'.sc, fun i ds q => ?_, S'.qp⟩ rp
  · by_cases z : a = p
    · subst z
      rw [upd_same] at q
      rw [← q]
      exact hu
    · rw [upd_ne z] at q
      exact S'.fh a v q
  · by_cases z : a = p
    · subst z
      exact Or.inr n2
    · rw [upd_ne z] at q
      exact S'.fp a v q
  · obtain ⟨v, h1, h2⟩ := S'.fr i d q
    exact ⟨v, h1, h2.mono fs⟩
  · obtain ⟨v, h1, h2⟩ := S'.bo i d q
    exact ⟨v, h1, h2.mono fs (Same.refl _)⟩
  · obtain ⟨h1, h2, h3, h4⟩ := S'.ow i s d q r
    refine ⟨h1, ?_, h3, h4.mono fs fun o z => z⟩
    rw [upd_ne (n3 i s d q r)]
    exact h2
  · obtain ⟨vs, h1, h2, h3⟩ := S'.b2 i ds q
    exact ⟨vs, h1, fs _ _ h2, h3.mono (Same.refl _) fs⟩
end

/-! ### names, constants -/
def mVar (i : Nat) : M D := fun δ => match δ[i]? with
  | some (.fr d) => some (.ok d δ)
  | some (.ow d) => some (.ok d (δ.set i (.fr d)))
  | _ => none
def mC (d : D) : M D := M.ret d
section
variable {K : Fg} {W : WX}
/-- an own object is frozen in its slot -/
theorem StOk.frz {C : Cn} {al : Nat → Addr} {F H : Hp} {σ : St} {δ : En} {i : Nat} {d : D} (S : StOk C al F H σ δ) (h : δ[i]? = some (.ow d)) :
    ∃ F', Same F F' ∧ StOk C al F' H σ (δ.set i (.fr d)) ∧ σ[i]? = some (some (.ref (al i))) ∧ Rep C.K F' d (.ref (al i)) := by
  obtain ⟨h1, h2, h3, h4⟩ := S.ow i _ d h rfl
  obtain ⟨u, hu, rp⟩ := h4.freeze h2
  have fs : Same F (upd F (al i) u) := same_upd h2
  have li : i < δ.length := (List.getElem?_eq_some_iff.mp h).1
  have key : ∀ (j : Nat) (s : Sl), (δ.set i (Sl.fr d))[j]? = some s → (j = i ∧ s = Sl.fr d) ∨ (j ≠ i ∧ δ[j]? = some s) := fun j s e => by
    by_cases q : j = i
    · subst q
      rw [List.getElem?_set_self li] at e
      exact Or.inl ⟨rfl, (Option.some.inj e).symm⟩
    · rw [List.getElem?_set_ne (Ne.symm q)] at e
      exact Or.inr ⟨q, e⟩
  refine ⟨_, fs, ⟨fun a v q => ?_, S.ph, S.bp, S.f0.trans fs, fun a v q => ?_, by rw [List.length_set]; exact S.len, fun j e q => ?_, fun j e q => ?_, fun j s e q r => ?_, fun j e q => ?_, fun j k s t e f q1 q2 r1 r2 r3 => ?_, fun j ns q => ?_, fun j ds q => ?_, S.qp⟩, h1, rp⟩
  · by_cases z : a = al i
    · rw [z] at q ⊢
      rw [upd_same] at q
      rw [← q]
      exact hu
    · rw [upd_ne z] at q
      exact S.fh a v q
  · by_cases z : a = al i
    · rw [z]
      exact Or.inr h3
    · rw [upd_ne z] at q
      exact S.fp a v q
  · rcases key j _ q with ⟨ej, z⟩ | ⟨n, q⟩
    · cases z
      rw [ej]
      exact ⟨_, h1, rp⟩
    · obtain ⟨v, g1, g2⟩ := S.fr j e q
      exact ⟨v, g1, g2.mono fs⟩
  · rcases key j _ q with ⟨ej, z⟩ | ⟨n, q⟩
    · cases z
    · obtain ⟨v, g1, g2⟩ := S.bo j e q
      exact ⟨v, g1, g2.mono fs (Same.refl _)⟩
  · rcases key j _ q with ⟨ej, z⟩ | ⟨n, q⟩
    · subst z
      cases r
    · obtain ⟨g1, g2, g3, g4⟩ := S.ow j s e q r
      refine ⟨g1, ?_, g3, g4.mono fs fun o z => z⟩
      rw [upd_ne fun z => n (S.inj j i s _ e d q h r rfl z)]
      exact g2
  · rcases key j _ q with ⟨ej, z⟩ | ⟨n, q⟩
    · cases z
    · exact S.io j e q
  · rcases key j _ q1 with ⟨ej, z⟩ | ⟨n, p1⟩
    · subst z
      cases r1
    · rcases key k _ q2 with ⟨ek, z⟩ | ⟨n2, p2⟩
      · subst z
        cases r2
      · exact S.inj j k s t e f p1 p2 r1 r2 r3
  · rcases key j _ q with ⟨ej, z⟩ | ⟨n, q⟩
    · cases z
    · exact S.sc j ns q
  · rcases key j _ q with ⟨ej, z⟩ | ⟨n, q⟩
    · cases z
    · obtain ⟨vs, g1, g2, g3⟩ := S.b2 j ds q
      exact ⟨vs, g1, fs _ _ g2, g3.mono (Same.refl _) fs⟩
theorem ev_var {i : Nat} : Ev K W (tVar i) (mVar i) := by
  intro C hK hW al F H σ δ S _ r hr Q hok hex
  subst hK
  unfold mVar at hr
  cases e : δ[i]? with
  | none => rw [e] at hr; cases hr
  | some s =>
    rw [e] at hr
    cases s with
    | fr d =>
      cases hr
      obtain ⟨v, h1, h2⟩ := S.fr i d e
      exact ⟨v, h1, hok d δ rfl al F H v (Same.refl _) S h2⟩
    | ow d =>
      cases hr
      obtain ⟨F', s, S', h1, h2⟩ := S.frz e
      exact ⟨_, h1, hok d _ rfl al F' H _ s S' h2⟩
    | _ => cases hr
theorem ev_c {v : V} {d : D} (h : ∀ F, Rep K F d v) : Ev K W (tC v) (mC d) := by
  intro C hK hW al F H σ δ S _ r hr Q hok hex
  cases hr
  exact hok d δ rfl al F H v (Same.refl _) S (h F)
end

/-! ### operands: a value, or a slot that is looked at when the operation is done -/
inductive Op where
  | val (d : D) | slot (i : Nat) | part (i k : Nat)
def opIx : Op → Option Nat
  | .val _ => none
  | .slot i => some i
  | .part i _ => some i
def rd : Op → En → Option D
  | .val d, _ => some d
  | .slot i, δ => match δ[i]? with
    | some s => s.dat
    | none => none
  | .part i k, δ => match δ[i]? with
    | some (.b2 ds) => ds[k]?
    | _ => none
def relO (K : Fg) : Rl V Op := fun F σ v o => match o with
  | .val d => Rep K F d v
  | .slot i => σ[i]? = some (some v)
  | .part i k => ∃ p vs, σ[i]? = some (some (V.ref p)) ∧ F p = some (.lst vs) ∧ vs[k]? = some v
theorem monoO {K : Fg} : MonoR (relO K) := fun F F' σ v o e h => by
  cases o with
  | val d => exact Rep.mono e h
  | slot i => exact h
  | part i k => obtain ⟨p, vs, h1, h2, h3⟩ := h; exact ⟨p, vs, h1, e _ _ h2, h3⟩
theorem parts_get {K : Fg} {P F : Hp} : ∀ {vs : List V} {ds : List D} {k : Nat} {v : V} {d : D}, Parts K P F vs ds → vs[k]? = some v → ds[k]? = some d → ∃ b, v = V.ref b ∧ RepO K F P b d
  | _, _, k, v, d, .nil, e, _ => by simp at e
  | _, _, 0, v, d, .cons r t, e, g => by simp at e g; subst e; subst g; exact r
  | _, _, k + 1, v, d, .cons r t, e, g => parts_get (k := k) t (by simpa using e) (by simpa using g)
abbrev Eo (K : Fg) (W : WX) (te : TE) (m : M Op) : Prop := J K W tru te (relO K) m
def mVal (m : M D) : M Op := m.bind fun d => M.ret (.val d)
def mRd (o : Op) : M D := fun δ => match rd o δ with
  | some d => some (.ok d δ)
  | none => none
def mOv (i : Nat) : M Op := fun δ => match δ[i]? with
  | some s => match s.dat with
    | some _ => some (.ok (.slot i) δ)
    | none => none
  | none => none

theorem StOk.opd {C : Cn} {al : Nat → Addr} {F H : Hp} {σ : St} {δ : En} (S : StOk C al F H σ δ) {o : Op} {v : V} {d : D} (h : relO C.K F σ v o) (hd : rd o δ = some d) : RepR C.K F H v d := by
  cases o with
  | val e =>
    cases hd
    exact Or.inl h
  | slot i =>
    simp only [rd] at hd
    cases e : δ[i]? with
    | none => rw [e] at hd; cases hd
    | some s =>
      rw [e] at hd
      obtain ⟨u, h1, h2⟩ := S.look e hd
      have h' : σ[i]? = some (some v) := h
      rw [h1] at h'
      cases h'
      exact h2
  | part i k =>
    obtain ⟨p, vs, h1, h2, h3⟩ := h
    simp only [rd] at hd
    cases e : δ[i]? with
    | none => rw [e] at hd; cases hd
    | some s =>
      cases s with
      | b2 ds =>
        rw [e] at hd
        obtain ⟨ws, g1, g2, g3⟩ := S.b2 i ds e
        rw [h1] at g1
        cases g1
        rw [h2] at g2
        cases g2
        obtain ⟨b, rfl, rb⟩ := parts_get g3 h3 hd
        exact Or.inr ⟨b, rfl, rb.mono (Same.refl _) fun o q => S.ph _ _ (S.qp _ _ q)⟩
      | _ => rw [e] at hd; cases hd
section
variable {K : Fg} {W : WX} {ta tb : TE} {pre : Pr}
theorem eo_val {m : M D} (h : Ev K W ta m) : Eo K W ta (mVal m) := by
  have g := J.bind (t2 := fun b _ H Q => Q b H) (rel2 := relO K) (f := fun d => M.ret (.val d)) h monoT fun a b => by
    intro C hK hW al F H σ δ S hp r hr Q hok hex
    cases hr
    exact hok _ δ rfl al F H b (Same.refl _) S hp.2
  exact g
/-- a slot that holds something -/
theorem eo_var {i : Nat} : Eo K W (tVar i) (mOv i) := by
  intro C hK hW al F H σ δ S _ r hr Q hok hex
  unfold mOv at hr
  cases e : δ[i]? with
  | none => simp only [e] at hr; cases hr
  | some s =>
    cases e2 : s.dat with
    | none => simp only [e, e2] at hr; cases hr
    | some d =>
      simp only [e, e2] at hr
      cases hr
      obtain ⟨v, h1, h2⟩ := S.look e e2
      exact ⟨v, h1, hok _ δ rfl al F H v (Same.refl _) S h1⟩
end
/-! ### primitives -/
/-- r of readable data gives data (new things may be laid) -/
def Prim1 (K : Fg) (r : V → Hp → VK → Prop) (f : D → Option D) : Prop := ∀ (F H : Hp) (v : V) (d e : D), Same F H → RepR K F H v d → f d = some e → ∀ Q : VK, (∀ F' H' u, New F H F' H' → Rep K F' e u → Q u H') → r v H Q
def Prim2 (K : Fg) (r : R2) (f : D → D → Option D) : Prop := ∀ (F H : Hp) (v w : V) (d e z : D), Same F H → RepR K F H v d → RepR K F H w e → f d e = some z → ∀ Q : VK, (∀ F' H' u, New F H F' H' → Rep K F' z u → Q u H') → r v w H Q
/-- .. gives a new list -/
def PrimN1 (K : Fg) (r : V → Hp → VK → Prop) (f : D → Option (List D)) : Prop := ∀ (F H : Hp) (v : V) (d : D) (ds : List D), Same F H → RepR K F H v d → f d = some ds → ∀ Q : VK, (∀ p H' vs, H p = none → Same H H' → H' p = some (.lst vs) → ds.length ≤ LB → Reps K F ds vs → Q (.ref p) H') → r v H Q
def PrimN2 (K : Fg) (r : R2) (f : D → D → Option (List D)) : Prop := ∀ (F H : Hp) (v w : V) (d e : D) (ds : List D), Same F H → RepR K F H v d → RepR K F H w e → f d e = some ds → ∀ Q : VK, (∀ p H' vs, H p = none → Same H H' → H' p = some (.lst vs) → ds.length ≤ LB → Reps K F ds vs → Q (.ref p) H') → r v w H Q

def m1 (f : D → Option D) (a : M Op) : M D := a.bind fun o => (mRd o).bind fun d => M.lift (f d)
def m2 (f : D → D → Option D) (a b : M Op) : M D := a.bind fun o => b.bind fun q => (mRd o).bind fun d => (mRd q).bind fun e => M.lift (f d e)
def mn1 (f : D → Option (List D)) (a : M Op) : M D := a.bind fun o => (mRd o).bind fun d => M.lift ((f d).map D.lst)
def mn2 (f : D → D → Option (List D)) (a b : M Op) : M D := a.bind fun o => b.bind fun q => (mRd o).bind fun d => (mRd q).bind fun e => M.lift ((f d e).map D.lst)
theorem rd_bind {β : Type} {o : Op} {δ : En} {f : D → M β} {r : R β} (h : (mRd o).bind f δ = some r) : ∃ d, rd o δ = some d ∧ f d δ = some r := by
  unfold M.bind mRd at h
  cases e : rd o δ with
  | none => simp only [e] at h; cases h
  | some d => simp only [e] at h; exact ⟨d, rfl, h⟩
theorem lift_some {β : Type} {o : Option β} {δ : En} {r : R β} (h : M.lift o δ = some r) : ∃ d, o = some d ∧ r = .ok d δ := by
  unfold M.lift at h
  cases o with
  | none => cases h
  | some d => cases h; exact ⟨d, rfl, rfl⟩
section
variable {K : Fg} {W : WX} {ta tb : TE} {pre : Pr}
theorem ev_1 {r : V → Hp → VK → Prop} {f : D → Option D} {a : M Op} (p : Prim1 K r f) (ha : Eo K W ta a) : Ev K W (fun σ H Q => ta σ H fun x H1 => r x H1 Q) (m1 f a) := by
  refine J.bind (t2 := fun x _ H Q => r x H Q) ha monoT fun o v => ?_
  intro C hK hW al F H σ δ S hp q hr Q hok hex
  subst hK
  obtain ⟨d, h1, hr⟩ := rd_bind hr
  obtain ⟨e, h2, rfl⟩ := lift_some hr
  exact p F H v d e S.fh (S.opd hp.2 h1) h2 Q fun F' H' u n ru => hok e δ rfl al F' H' u n.ff (S.new n) ru
theorem ev_2 {r : R2} {f : D → D → Option D} {a b : M Op} (p : Prim2 K r f) (ha : Eo K W ta a) (hb : Eo K W tb b) : Ev K W (tOp r ta tb) (m2 f a b) := by
  refine J.bind (t2 := fun x σ H Q => tb σ H fun y H2 => r x y H2 Q) ha monoT fun o v => ?_
  refine J.bind (t2 := fun y _ H Q => r v y H Q) (hb.wk fun _ _ _ => trivial) (monoT.and monoO.at) fun q w => ?_
  intro C hK hW al F H σ δ S hp r' hr Q hok hex
  subst hK
  obtain ⟨d, h1, hr⟩ := rd_bind hr
  obtain ⟨e, h2, hr⟩ := rd_bind hr
  obtain ⟨z, h3, rfl⟩ := lift_some hr
  exact p F H v w d e z S.fh (S.opd hp.1.2 h1) (S.opd hp.2 h2) h3 Q fun F' H' u n ru => hok z δ rfl al F' H' u n.ff (S.new n) ru
theorem newO {C : Cn} {al : Nat → Addr} {F H H' : Hp} {σ : St} {δ : En} {p : Addr} {vs : List V} {ds : List D} (S : StOk C al F H σ δ) (hp : H p = none) (hh : Same H H') (ho : H' p = some (.lst vs)) (hl : ds.length ≤ LB) (hr : Reps C.K F ds vs) :
    StOk C al F H' σ δ ∧ F p = none ∧ C.P p = none ∧ (∀ (j : Nat) s e, δ[j]? = some s → Sl.own s = some e → al j ≠ p) ∧ RepO C.K F H' p (.lst ds) := by
  refine ⟨S.new ⟨Same.refl _, S.fh.trans hh, hh, fun _ _ q => Or.inl q⟩, S.fh.free hp, S.ph.free hp, fun j s e q r z => ?_, vs, ho, hl, hr⟩
  obtain ⟨_, _, _, h4⟩ := S.ow j s e q r
  obtain ⟨u, hu⟩ := h4.there
  rw [z, hp] at hu
  cases hu
theorem en_1 {r : V → Hp → VK → Prop} {f : D → Option (List D)} {a : M Op} (p : PrimN1 K r f) (ha : Eo K W ta a) : En1 K W (fun σ H Q => ta σ H fun x H1 => r x H1 Q) (mn1 f a) := by
  refine J.bindN (t2 := fun x _ H Q => r x H Q) ha monoT fun o v => ?_
  intro C hK hW al F H σ δ S hp q hr Q hok hex
  subst hK
  obtain ⟨d, h1, hr⟩ := rd_bind hr
  obtain ⟨e, h2, rfl⟩ := lift_some hr
  cases h3 : f d with
  | none => rw [h3] at h2; cases h2
  | some ds =>
    rw [h3] at h2
    cases h2
    refine p F H v d ds S.fh (S.opd hp.2 h1) h3 Q fun x H' vs hx hh ho hl hr => ?_
    obtain ⟨g1, g2, g3, g4, g5⟩ := newO S hx hh ho hl hr
    exact hok _ δ rfl al F H' x (Same.refl _) g1 g2 g3 g4 g5
theorem en_2 {r : R2} {f : D → D → Option (List D)} {a b : M Op} (p : PrimN2 K r f) (ha : Eo K W ta a) (hb : Eo K W tb b) : En1 K W (tOp r ta tb) (mn2 f a b) := by
  refine J.bindN (t2 := fun x σ H Q => tb σ H fun y H2 => r x y H2 Q) ha monoT fun o v => ?_
  refine J.bindN (t2 := fun y _ H Q => r v y H Q) (hb.wk fun _ _ _ => trivial) (monoT.and monoO.at) fun q w => ?_
  intro C hK hW al F H σ δ S hp r' hr Q hok hex
  subst hK
  obtain ⟨d, h1, hr⟩ := rd_bind hr
  obtain ⟨e, h2, hr⟩ := rd_bind hr
  obtain ⟨z, h3, rfl⟩ := lift_some hr
  cases h4 : f d e with
  | none => rw [h4] at h3; cases h3
  | some ds =>
    rw [h4] at h3
    cases h3
    refine p F H v w d e ds S.fh (S.opd hp.1.2 h1) (S.opd hp.2 h2) h4 Q fun x H' vs hx hh ho hl hr => ?_
    obtain ⟨g1, g2, g3, g4, g5⟩ := newO S hx hh ho hl hr
    exact hok _ δ rfl al F H' x (Same.refl _) g1 g2 g3 g4 g5
end

/-! ### arguments -/
def relA (K : Fg) : Rl (List V) (List Op) := fun F σ vs os => Paired (fun v o => relO K F σ v o) vs os
abbrev Ea (K : Fg) (W : WX) (ta : TA) (m : M (List Op)) : Prop := J K W tru ta (relA K) m
def maNil : M (List Op) := M.ret []
def maCons (a : M Op) (b : M (List Op)) : M (List Op) := a.bind fun o => b.bind fun os => M.ret (o :: os)
section
variable {K : Fg} {W : WX}
theorem ea_nil : Ea K W tNil maNil := by
  intro C hK hW al F H σ δ S hp r hr Q hok hex
  cases hr
  exact hok [] δ rfl al F H [] (Same.refl _) S .nil
theorem ea_cons {te : TE} {tr : TA} {a : M Op} {b : M (List Op)} (ha : Eo K W te a) (hb : Ea K W tr b) : Ea K W (tCons te tr) (maCons a b) := by
  refine J.bind (t2 := fun x σ H Q => tr σ H fun xs H2 => Q (x :: xs) H2) ha monoT fun o v => ?_
  refine J.bind (t2 := fun xs _ H Q => Q (v :: xs) H) (hb.wk fun _ _ _ => trivial) (monoT.and monoO.at) fun q w => ?_
  intro C hK hW al F H σ δ S hp r' hr Q hok hex
  cases hr
  exact hok _ δ rfl al F H _ (Same.refl _) S (.cons hp.1.2 hp.2)
/-- what arguments hold -/
def rds : List Op → En → Option (List D)
  | [], _ => some []
  | o :: os, δ => match rd o δ, rds os δ with
    | some d, some ds => some (d :: ds)
    | _, _ => none
theorem StOk.opds {C : Cn} {al : Nat → Addr} {F H : Hp} {σ : St} {δ : En} (S : StOk C al F H σ δ) : ∀ {os : List Op} {vs : List V} {ds : List D}, relA C.K F σ vs os → rds os δ = some ds → Paired (fun v d => RepR C.K F H v d) vs ds
  | [], _, ds, h, e => by
    cases h
    cases e
    exact .nil
  | o :: os, _, ds, h, e => by
    cases h with
    | cons r t =>
      unfold rds at e
      cases e1 : rd o δ with
      | none => rw [e1] at e; cases e
      | some d =>
        cases e2 : rds os δ with
        | none => rw [e1, e2] at e; cases e
        | some ds' =>
          rw [e1, e2] at e
          cases e
          exact .cons (S.opd r e1) (S.opds t e2)
def mRds (os : List Op) : M (List D) := fun δ => match rds os δ with
  | some ds => some (.ok ds δ)
  | none => none
theorem rds_bind {β : Type} {os : List Op} {δ : En} {f : List D → M β} {r : R β} (h : (mRds os).bind f δ = some r) : ∃ ds, rds os δ = some ds ∧ f ds δ = some r := by
  unfold M.bind mRds at h
  cases e : rds os δ with
  | none => simp only [e] at h; cases h
  | some d => simp only [e] at h; exact ⟨d, rfl, h⟩
def PrimA (K : Fg) (r : List V → Hp → VK → Prop) (f : List D → Option D) : Prop := ∀ (F H : Hp) (vs : List V) (ds : List D) (e : D), Same F H → Paired (fun v d => RepR K F H v d) vs ds → f ds = some e → ∀ Q : VK, (∀ F' H' u, New F H F' H' → Rep K F' e u → Q u H') → r vs H Q
def PrimNA (K : Fg) (r : List V → Hp → VK → Prop) (f : List D → Option (List D)) : Prop := ∀ (F H : Hp) (vs : List V) (ds es : List D), Same F H → Paired (fun v d => RepR K F H v d) vs ds → f ds = some es → ∀ Q : VK, (∀ p H' us, H p = none → Same H H' → H' p = some (.lst us) → es.length ≤ LB → Reps K F es us → Q (.ref p) H') → r vs H Q
def mA (f : List D → Option D) (a : M (List Op)) : M D := a.bind fun os => (mRds os).bind fun ds => M.lift (f ds)
def mnA (f : List D → Option (List D)) (a : M (List Op)) : M D := a.bind fun os => (mRds os).bind fun ds => M.lift ((f ds).map D.lst)
theorem ev_A {ta : TA} {r : List V → Hp → VK → Prop} {f : List D → Option D} {a : M (List Op)} (p : PrimA K r f) (ha : Ea K W ta a) : Ev K W (tCB r ta) (mA f a) := by
  refine J.bind (t2 := fun x _ H Q => r x H Q) ha monoT fun o v => ?_
  intro C hK hW al F H σ δ S hp q hr Q hok hex
  subst hK
  obtain ⟨d, h1, hr⟩ := rds_bind hr
  obtain ⟨e, h2, rfl⟩ := lift_some hr
  exact p F H v d e S.fh (S.opds hp.2 h1) h2 Q fun F' H' u n ru => hok e δ rfl al F' H' u n.ff (S.new n) ru
theorem en_A {ta : TA} {r : List V → Hp → VK → Prop} {f : List D → Option (List D)} {a : M (List Op)} (p : PrimNA K r f) (ha : Ea K W ta a) : En1 K W (tCB r ta) (mnA f a) := by
  refine J.bindN (t2 := fun x _ H Q => r x H Q) ha monoT fun o v => ?_
  intro C hK hW al F H σ δ S hp q hr Q hok hex
  subst hK
  obtain ⟨d, h1, hr⟩ := rds_bind hr
  obtain ⟨e, h2, rfl⟩ := lift_some hr
  cases h3 : f d with
  | none => rw [h3] at h2; cases h2
  | some ds =>
    rw [h3] at h2
    cases h2
    refine p F H v d ds S.fh (S.opds hp.2 h1) h3 Q fun x H' vs hx hh ho hl hr => ?_
    obtain ⟨g1, g2, g3, g4, g5⟩ := newO S hx hh ho hl hr
    exact hok _ δ rfl al F H' x (Same.refl _) g1 g2 g3 g4 g5
end

/-! ### displays: frozen values -/
def relS (K : Fg) : Rl (List V) (List D) := fun F _ vs ds => Reps K F ds vs
abbrev Eds (K : Fg) (W : WX) (ta : TA) (m : M (List D)) : Prop := J K W tru ta (relS K) m
def mdNil : M (List D) := M.ret []
def mdCons (a : M D) (b : M (List D)) : M (List D) := a.bind fun d => b.bind fun ds => M.ret (d :: ds)
def mTup (a : M (List D)) : M D := a.bind fun ds => M.lift (if ds.length ≤ LB then some (.tup ds) else none)
def mLst (a : M (List D)) : M D := a.bind fun ds => M.lift (if ds.length ≤ LB then some (.lst ds) else none)
section
variable {K : Fg} {W : WX}
theorem ed_nil : Eds K W tNil mdNil := by
  intro C hK hW al F H σ δ S hp r hr Q hok hex
  cases hr
  exact hok [] δ rfl al F H [] (Same.refl _) S reps_nil
theorem ed_cons {te : TE} {tr : TA} {a : M D} {b : M (List D)} (ha : Ev K W te a) (hb : Eds K W tr b) : Eds K W (tCons te tr) (mdCons a b) := by
  refine J.bind (t2 := fun x σ H Q => tr σ H fun xs H2 => Q (x :: xs) H2) ha monoT fun o v => ?_
  refine J.bind (t2 := fun xs _ H Q => Q (v :: xs) H) (hb.wk fun _ _ _ => trivial) (monoT.and monoD.at) fun q w => ?_
  intro C hK hW al F H σ δ S hp r' hr Q hok hex
  cases hr
  exact hok _ δ rfl al F H _ (Same.refl _) S (reps_cons hp.1.2 hp.2)
theorem if_some {β : Type} {c : Prop} [Decidable c] {x y : β} (h : (if c then some x else none) = some y) : c ∧ x = y := by
  by_cases q : c
  · rw [if_pos q] at h
    exact ⟨q, Option.some.inj h⟩
  · rw [if_neg q] at h
    cases h
/-- a display of a tuple: its object is known -/
def tTupZ (t : TA) : TE := fun σ H Q => t σ H fun xs H1 => xs.length ≤ sizeLine ∧ ∀ p o, H1 p = none → o.dict = none → Q (V.ref p) (upd H1 p (.frz o (.tup xs)))
theorem pe_tupZ {X : Cx} {es : List Expr} {t : TA} {pos : Pos} {x1} (h : PA X es t) : PE X (.Tuple es x1 pos) (tTupZ t) := by
  refine ⟨fun pins s σ H Q I hq => ?_⟩
  refine wpAny_Tuple_spliced (thn (h.run pos pins s σ H _ I hq) fun us s1 ⟨xs, H1, I1, r, z, q⟩ => ⟨by rw [← r.length]; exact z, ?_⟩)
  have hf : H1 s1.heap.objs.size = none := I1.hok.fresh (Nat.le_refl _)
  refine ⟨.ref s1.heap.objs.size, upd H1 s1.heap.objs.size (.frz { cls := .type "tuple", data := .seq us.toArray } (.tup xs)), I1.laid (t' := s1.toks) (fun b u e => Heap.get?_push_of_some _ e) (Nat.le_refl _) ?_, rfl, q _ _ hf rfl⟩
  exact ⟨Heap.get?_push_size _ rfl, z, us, r, ⟨_, Heap.get?_push_size _ rfl, rfl, _, rfl⟩⟩
/-- a new tuple -/
theorem newT {K : Fg} {F H : Hp} {p : Addr} {o : Obj} {ds : List D} {vs : List V} (fh : Same F H) (hn : H p = none) (ho : o.dict = none) (hl : ds.length ≤ LB) (hs : Reps K F ds vs) : New F H (upd F p (.frz o (.tup vs))) (upd H p (.frz o (.tup vs))) ∧ Rep K (upd F p (.frz o (.tup vs))) (.tup ds) (.ref p) := by
  have n : New F H (upd F p (.frz o (.tup vs))) (upd H p (.frz o (.tup vs))) := New.lay fh hn
  exact ⟨n, Rep.tup_iff.mpr ⟨p, vs, rfl, Or.inl ⟨o, ho, upd_same⟩, hl, hs.mono n.ff⟩⟩
theorem ev_tup {ta : TA} {a : M (List D)} (ha : Eds K W ta a) : Ev K W (tTupZ ta) (mTup a) := by
  refine J.bind (t2 := fun (xs : List V) (_ : St) (H : Hp) (Q : VK) => xs.length ≤ sizeLine ∧ ∀ p o, H p = none → o.dict = none → Q (V.ref p) (upd H p (.frz o (.tup xs)))) ha monoT fun ds vs => ?_
  intro C hK hW al F H σ δ S hp r hr Q hok hex
  obtain ⟨e, h2, rfl⟩ := lift_some hr
  obtain ⟨hl, rfl⟩ := if_some h2
  have hs : Reps K F ds vs := hp.2
  refine ⟨by rw [hs.len]; exact LB_size hl, fun p o hn ho => ?_⟩
  obtain ⟨n, hr⟩ := newT S.fh hn ho hl hs
  exact hok _ δ rfl al _ _ _ n.ff (S.new n) hr
theorem en_lst {ta : TA} {a : M (List D)} (ha : Eds K W ta a) : En1 K W (tLst ta) (mLst a) := by
  refine J.bindN (t2 := fun (xs : List V) (_ : St) (H : Hp) (Q : VK) => xs.length ≤ sizeLine ∧ ∀ p, H p = none → Q (V.ref p) (upd H p (.lst xs))) ha monoT fun ds vs => ?_
  intro C hK hW al F H σ δ S hp r hr Q hok hex
  subst hK
  obtain ⟨e, h2, rfl⟩ := lift_some hr
  obtain ⟨hl, rfl⟩ := if_some h2
  have hs : Reps C.K F ds vs := hp.2
  refine ⟨by rw [hs.len]; exact LB_size hl, fun p hn => ?_⟩
  obtain ⟨g1, g2, g3, g4, g5⟩ := newO S hn (same_upd hn) upd_same hl hs
  exact hok _ δ rfl al F _ p (Same.refl _) g1 g2 g3 g4 g5
end
end DL

set_option Elab.async false
set_option linter.all false
set_option maxRecDepth 100000
set_option maxHeartbeats 400000
/-! DLc: statements, loops, comprehensions. -/
namespace DL
open PySem L2

inductive Ou where
  | nx (δ : En) | rt (d : D) (δ : En) | rn (d : D) (δ : En) | bk (δ : En) | ct (δ : En) | ex (x : Xn) (δ : En)
def EndOk (C : Cn) (F : Hp) (Z : Ends) : Ou → Prop
  | .nx δ' => ∀ al' F' H' σ', Same F F' → StOk C al' F' H' σ' δ' → Z.nx σ' H'
  | .rt d δ' => ∀ al' F' H' σ' v, Same F F' → StOk C al' F' H' σ' δ' → Rep C.K F' d v → Z.rt v H'
  | .rn d δ' => ∀ al' F' H' σ' p, Same F F' → StOk C al' F' H' σ' δ' → F' p = none → C.P p = none → RepO C.K F' H' p d → Z.rt (.ref p) H'
  | .bk δ' => ∀ al' F' H' σ', Same F F' → StOk C al' F' H' σ' δ' → Z.bk σ' H'
  | .ct δ' => ∀ al' F' H' σ', Same F F' → StOk C al' F' H' σ' δ' → Z.ct σ' H'
  | .ex x δ' => ∀ al' F' H' σ' cls dd, Same F F' → StOk C al' F' H' σ' δ' → XRep C.K F' H' x cls dd → C.W cls dd σ' H'
theorem EndOk.mono {C : Cn} {F F1 : Hp} {Z : Ends} {o : Ou} (e : Same F F1) (h : EndOk C F Z o) : EndOk C F1 Z o := by
  cases o with
  | nx δ' => exact fun al' F' H' σ' s => h al' F' H' σ' (e.trans s)
  | rt d δ' => exact fun al' F' H' σ' v s => h al' F' H' σ' v (e.trans s)
  | rn d δ' => exact fun al' F' H' σ' p s => h al' F' H' σ' p (e.trans s)
  | bk δ' => exact fun al' F' H' σ' s => h al' F' H' σ' (e.trans s)
  | ct δ' => exact fun al' F' H' σ' s => h al' F' H' σ' (e.trans s)
  | ex x δ' => exact fun al' F' H' σ' cls dd s => h al' F' H' σ' cls dd (e.trans s)
abbrev Ms := En → Option Ou
def Es (K : Fg) (W : WX) (ts : TS) (m : Ms) : Prop :=
  ∀ (C : Cn), C.K = K → C.W = W → ∀ (al : Nat → Addr) (F H : Hp) (σ : St) (δ : En), StOk C al F H σ δ → ∀ o, m δ = some o → ∀ Z : Ends, EndOk C F Z o → ts Z σ H
/-- an expression, then something -/
def mS {α : Type} (m : M α) (k : α → Ms) : Ms := fun δ => match m δ with
  | none => none
  | some (.ex x δ') => some (.ex x δ')
  | some (.ok a δ') => k a δ'
section
variable {K : Fg} {W : WX}
theorem es_of {β α : Type} {t1 : St → Hp → (β → Hp → Prop) → Prop} {rel : Rl β α} {u : β → TS} {m : M α} {k : α → Ms} (h : J K W tru t1 rel m)
    (hk : ∀ a b, ∀ (C : Cn), C.K = K → C.W = W → ∀ (al : Nat → Addr) (F H : Hp) (σ : St) (δ : En), StOk C al F H σ δ → rel F σ b a → ∀ o, k a δ = some o → ∀ Z : Ends, EndOk C F Z o → u b Z σ H) :
    Es K W (fun Z σ H => t1 σ H fun b H1 => u b Z σ H1) (mS m k) := by
  intro C hK hW al F H σ δ S o ho Z hZ
  cases e : m δ with
  | none => unfold mS at ho; rw [e] at ho; cases ho
  | some r =>
    refine h C hK hW al F H σ δ S trivial r e _ (fun a δ1 e1 al1 F1 H1 b s1 S1 rl => ?_) fun x δ1 e1 al1 F1 H1 cls dd s1 S1 xr => ?_
    · subst e1
      have ho' : k a δ1 = some o := by unfold mS at ho; rw [e] at ho; exact ho
      exact hk a b C hK hW al1 F1 H1 σ δ1 S1 rl o ho' Z (hZ.mono s1)
    · subst e1
      unfold mS at ho
      rw [e] at ho
      cases ho
      subst hK
      rw [← hW]
      exact hZ al1 F1 H1 σ cls dd s1 S1 xr
theorem es_ofN {t1 : TE} {u : V → TS} {m : M D} {k : D → Ms} (h : En1 K W t1 m)
    (hk : ∀ d p, ∀ (C : Cn), C.K = K → C.W = W → ∀ (al : Nat → Addr) (F H : Hp) (σ : St) (δ : En), StOk C al F H σ δ → F p = none → C.P p = none → (∀ (j : Nat) s e, δ[j]? = some s → Sl.own s = some e → al j ≠ p) → RepO K F H p d → ∀ o, k d δ = some o → ∀ Z : Ends, EndOk C F Z o → u (.ref p) Z σ H) :
    Es K W (fun Z σ H => t1 σ H fun b H1 => u b Z σ H1) (mS m k) := by
  intro C hK hW al F H σ δ S o ho Z hZ
  cases e : m δ with
  | none => unfold mS at ho; rw [e] at ho; cases ho
  | some r =>
    refine h C hK hW al F H σ δ S trivial r e _ (fun a δ1 e1 al1 F1 H1 p s1 S1 n1 n2 n3 n4 => ?_) fun x δ1 e1 al1 F1 H1 cls dd s1 S1 xr => ?_
    · subst e1
      have ho' : k a δ1 = some o := by unfold mS at ho; rw [e] at ho; exact ho
      exact hk a p C hK hW al1 F1 H1 σ δ1 S1 n1 n2 n3 n4 o ho' Z (hZ.mono s1)
    · subst e1
      unfold mS at ho
      rw [e] at ho
      cases ho
      subst hK
      rw [← hW]
      exact hZ al1 F1 H1 σ cls dd s1 S1 xr

/-! ### blocks -/
def mNext : Ms := fun δ => some (.nx δ)
def mSeq (a b : Ms) : Ms := fun δ => match a δ with
  | some (.nx δ') => b δ'
  | r => r
theorem es_next : Es K W tNext mNext := fun C hK hW al F H σ δ S o ho Z hZ => by
  cases ho
  exact hZ al F H σ (Same.refl _) S
theorem es_seq {t u : TS} {a b : Ms} (ha : Es K W t a) (hb : Es K W u b) : Es K W (tSeq t u) (mSeq a b) := by
  intro C hK hW al F H σ δ S o ho Z hZ
  cases e : a δ with
  | none => unfold mSeq at ho; rw [e] at ho; cases ho
  | some r =>
    refine ha C hK hW al F H σ δ S r e { Z with nx := u Z } ?_
    unfold mSeq at ho
    rw [e] at ho
    cases r with
    | nx δ1 => exact fun al1 F1 H1 σ1 s1 S1 => hb C hK hW al1 F1 H1 σ1 δ1 S1 o ho Z (hZ.mono s1)
    | rt d δ1 => cases ho; exact hZ
    | rn d δ1 => cases ho; exact hZ
    | bk δ1 => cases ho; exact hZ
    | ct δ1 => cases ho; exact hZ
    | ex x δ1 => cases ho; exact hZ
def mNever : Ms := fun _ => none
theorem es_never : Es K W tNever mNever := fun C hK hW al F H σ δ S o ho Z hZ => by cases ho
def mIf (c : M Bool) (a b : Ms) : Ms := mS c fun k => if k then a else b
theorem es_if {tc : TT} {t u : TS} {c : M Bool} {a b : Ms} (hc : Et K W tc c) (ha : Es K W t a) (hb : Es K W u b) : Es K W (tIfS tc t u) (mIf c a b) := by
  refine es_of (u := fun (b : Bool) Z σ H => if b = true then t Z σ H else u Z σ H) hc fun k b C hK hW al F H σ δ S rl o ho Z hZ => ?_
  have e : b = k := rl
  subst e
  cases b with
  | true => exact ha C hK hW al F H σ δ S o ho Z hZ
  | false => exact hb C hK hW al F H σ δ S o ho Z hZ
def mRet (m : M D) : Ms := mS m fun d δ => some (.rt d δ)
theorem es_ret {te : TE} {m : M D} (h : Ev K W te m) : Es K W (tRet te) (mRet m) := by
  refine es_of (u := fun (v : V) Z σ H => Z.rt v H) h fun d v C hK hW al F H σ δ S rl o ho Z hZ => ?_
  cases ho
  subst hK
  exact hZ al F H σ v (Same.refl _) S rl
/-- a new object of one's own is handed back -/
def mRetW (m : M D) : Ms := mS m fun d δ => some (.rn d δ)
theorem es_retW {te : TE} {m : M D} (h : En1 K W te m) : Es K W (tRet te) (mRetW m) := by
  refine es_ofN (u := fun (v : V) Z σ H => Z.rt v H) h fun d p C hK hW al F H σ δ S n1 n2 n3 n4 o ho Z hZ => ?_
  cases ho
  subst hK
  exact hZ al F H σ p (Same.refl _) S n1 n2 n4
def mRetO (i : Nat) : Ms := fun δ => match δ[i]? with
  | some (.ow d) => some (.rn d δ)
  | _ => none
theorem es_retO {i : Nat} : Es K W (tRet (tVar i)) (mRetO i) := fun C hK hW al F H σ δ S o ho Z hZ => by
  unfold mRetO at ho
  cases e : δ[i]? with
  | none => simp only [e] at ho; cases ho
  | some s =>
    cases s with
    | ow d =>
      simp only [e] at ho
      cases ho
      obtain ⟨h1, h2, h3, h4⟩ := S.ow i _ d e rfl
      exact ⟨_, h1, hZ al F H σ _ (Same.refl _) S h2 h3 h4⟩
    | _ => simp only [e] at ho; cases ho
def mDrop (m : M D) : Ms := mS m fun _ δ => some (.nx δ)
theorem es_drop {te : TE} {m : M D} (h : Ev K W te m) : Es K W (tDrop te) (mDrop m) := by
  refine es_of (u := fun (v : V) Z σ H => Z.nx σ H) h fun d v C hK hW al F H σ δ S rl o ho Z hZ => ?_
  cases ho
  exact hZ al F H σ (Same.refl _) S

/-! ### targets -/
abbrev Mg := D → En → Option En
def Eg (K : Fg) (b : Bool) (g : TG) (m : Mg) : Prop :=
  ∀ (C : Cn), C.K = K → ∀ (al : Nat → Addr) (F H : Hp) (σ : St) (δ : En), StOk C al F H σ δ → ∀ d v δ', Rq K b F d v → m d δ = some δ' → ∀ Q : St → Hp → Prop, (∀ al' F' H' σ', Same F F' → StOk C al' F' H' σ' δ' → Q σ' H') → g v σ H Q
def Egs (K : Fg) (g : TGs) (m : List D → En → Option En) : Prop :=
  ∀ (C : Cn), C.K = K → ∀ (al : Nat → Addr) (F H : Hp) (σ : St) (δ : En), StOk C al F H σ δ → ∀ ds vs δ', Reps K F ds vs → m ds δ = some δ' → ∀ Q : St → Hp → Prop, (∀ al' F' H' σ', Same F F' → StOk C al' F' H' σ' δ' → Q σ' H') → g vs σ H Q
def gN (i : Nat) : Mg := fun d δ => some (δ.set i (.fr d))
theorem eg_name {i : Nat} : Eg K false (gName i) (gN i) := fun C hK al F H σ δ S d v δ' h e Q k => by
  cases e
  subst hK
  exact k al F H _ (Same.refl _) (S.set h)
def gs0 : List D → En → Option En := fun ds δ => match ds with
  | [] => some δ
  | _ => none
def gsC (a : Mg) (b : List D → En → Option En) : List D → En → Option En := fun ds δ => match ds with
  | d :: r => match a d δ with
    | some δ' => b r δ'
    | none => none
  | [] => none
def gT (m : List D → En → Option En) : Mg := fun d δ => match d with
  | .tup ds => m ds δ
  | _ => none
theorem egs_nil : Egs K gNil gs0 := fun C hK al F H σ δ S ds vs δ' h e Q k => by
  cases ds with
  | nil =>
    cases e
    exact ⟨h.inv0, k al F H σ (Same.refl _) S⟩
  | cons d r => cases e
theorem egs_cons {t : TG} {u : TGs} {a : Mg} {b : List D → En → Option En} (ha : Eg K false t a) (hb : Egs K u b) : Egs K (gCons t u) (gsC a b) := fun C hK al F H σ δ S ds vs δ' h e Q k => by
  cases ds with
  | nil => cases e
  | cons d r =>
    obtain ⟨v, us, rfl, h1, h2⟩ := h.inv
    cases e1 : a d δ with
    | none => simp only [gsC, e1] at e; cases e
    | some δ1 =>
      simp only [gsC, e1] at e
      exact ⟨v, us, rfl, ha C hK al F H σ δ S d v δ1 h1 e1 _ fun al1 F1 H1 σ1 s1 S1 => hb C hK al1 F1 H1 σ1 δ1 S1 r us δ' (h2.mono s1) e Q fun al2 F2 H2 σ2 s2 S2 => k al2 F2 H2 σ2 (s1.trans s2) S2⟩
/-- how many targets -/
def GsN (b : List D → En → Option En) (n : Nat) : Prop := ∀ ds δ δ', b ds δ = some δ' → ds.length = n
theorem gsn0 : GsN gs0 0 := fun ds δ δ' h => by cases ds with
  | nil => rfl
  | cons d r => cases h
theorem gsnC {a : Mg} {b : List D → En → Option En} {n : Nat} (h : GsN b n) : GsN (gsC a b) (n + 1) := fun ds δ δ' e => by cases ds with
  | nil => cases e
  | cons d r =>
    cases e1 : a d δ with
    | none => simp only [gsC, e1] at e; cases e
    | some δ1 =>
      simp only [gsC, e1] at e
      simp [h r δ1 δ' e]

theorem eg_tup {u : TGs} {b : List D → En → Option En} {n : Nat} {q : Bool} (hb : Egs K u b) (h : GsN b n) : Eg K q (gTup K n u) (gT b) := fun C hK al F H σ δ S d v δ' hr e Q k => by
  cases d with
  | tup ds =>
    obtain ⟨a, vs, rfl, h1, h3⟩ := Rq.tup hr
    have e' : b ds δ = some δ' := e
    exact ⟨a, vs, rfl, same_t S.fh h1, by rw [h3.len]; exact h ds δ δ' e', hb C hK al F H σ δ S ds vs δ' h3 e' Q k⟩
  | _ => cases e
def mAsg (g : Mg) (m : M D) : Ms := mS m fun d δ => match g d δ with
  | some δ' => some (.nx δ')
  | none => none
theorem es_asg {te : TE} {g : TG} {m : M D} {a : Mg} (h : Ev K W te m) (hg : Eg K false g a) : Es K W (tAsg te g) (mAsg a m) := by
  refine es_of (u := fun (v : V) Z σ H => g v σ H Z.nx) h fun d v C hK hW al F H σ δ S rl o ho Z hZ => ?_
  cases e : a d δ with
  | none => simp only [e] at ho; cases ho
  | some δ1 =>
    simp only [e] at ho
    cases ho
    exact hg C hK al F H σ δ S d v δ1 rl e Z.nx fun al' F' H' σ' s S' => hZ al' F' H' σ' s S'
/-- x = a new object of one's own -/
def mAsgO (i : Nat) (m : M D) : Ms := mS m fun d δ => some (.nx (δ.set i (.ow d)))
theorem es_asgO {te : TE} {i : Nat} {m : M D} (h : En1 K W te m) : Es K W (tAsg te (gName i)) (mAsgO i m) := by
  refine es_ofN (u := fun (v : V) Z σ H => gName i v σ H Z.nx) h fun d p C hK hW al F H σ δ S n1 n2 n3 n4 o ho Z hZ => ?_
  cases ho
  subst hK
  exact hZ _ F H _ (Same.refl _) (S.setO n4 n1 n2 fun j s e q r _ => n3 j s e q r)

/-! ### what a loop walks -/
def Walks (C : Cn) (b : Bool) (Fw : Hp) (I : It) (ds : List D) : Prop := ds.length ≤ LB ∧ ∀ F H, Same Fw F → Same F H → Same C.P H → ∀ i : Nat,
  (∀ d, ds[i]? = some d → I.go i H ∧ ∀ x H', I.yld i H x H' → ∃ F', New F H F' H' ∧ Rq C.K b F' d x) ∧ (ds.length ≤ i → I.stop i H)
def Ei (K : Fg) (W : WX) (b : Bool) (wi : TI) (m : M (List D)) : Prop :=
  ∀ (C : Cn), C.K = K → C.W = W → ∀ (al : Nat → Addr) (F H : Hp) (σ : St) (δ : En), StOk C al F H σ δ → ∀ r, m δ = some r → ∀ R : It → Hp → Prop,
    (∀ ds δ', r = .ok ds δ' → ∀ al' F' H' I, Same F F' → StOk C al' F' H' σ δ' → Walks C b F' I ds → R I H') →
    (∀ x δ', r = .ex x δ' → ∀ al' F' H' cls dd, Same F F' → StOk C al' F' H' σ δ' → XRep K F' H' x cls dd → W cls dd σ H') → wi σ H R
def mSeqOf (m : M D) : M (List D) := m.bind fun d => M.lift (match d with
  | .lst ds => some ds
  | _ => none)
def mTupOf (m : M D) : M (List D) := m.bind fun d => M.lift (match d with
  | .tup ds => some ds
  | _ => none)
theorem ei_list {tl : TE} {m : M D} (h : Ev K W tl m) : Ei K W false (iList K tl) (mSeqOf m) := by
  intro C hK hW al F H σ δ S r hr R hok hex
  cases e : m δ with
  | none => unfold mSeqOf M.bind at hr; rw [e] at hr; cases hr
  | some r1 =>
    refine h C hK hW al F H σ δ S trivial r1 e _ (fun d δ1 e1 al1 F1 H1 v s1 S1 rl => ?_) fun x δ1 e1 al1 F1 H1 cls dd s1 S1 xr => ?_
    · subst e1
      have hr' : mSeqOf m δ = some r := hr
      unfold mSeqOf at hr'
      rw [M.bind_ok e] at hr'
      obtain ⟨ds, h2, rfl⟩ := lift_some hr'
      cases d with
      | lst es =>
        cases h2
        subst hK
        obtain ⟨a, vs, rfl, g1, g2, g3⟩ := Rep.lst_iff.mp rl
        refine ⟨a, rfl, ⟨vs, Or.inl (Or.inl (S1.fh _ _ g1))⟩, hok _ δ1 rfl al1 F1 H1 _ s1 S1 ⟨g2, fun F2 H2 f1 f2 _ i => ⟨fun d hd => ?_, fun hl => ?_⟩⟩⟩
        · obtain ⟨u, hu, ru⟩ := g3.get hd
          have ha : H2 a = some (.lst vs) := f2 _ _ (f1 _ _ g1)
          refine ⟨⟨vs, u, Or.inl (Or.inl ha), hu⟩, fun x H' y => ?_⟩
          obtain ⟨rfl, y⟩ := y
          have q := y vs (Or.inl (Or.inl ha))
          rw [hu] at q
          cases q
          exact ⟨F2, New.refl f2, ru.mono f1⟩
        · exact ⟨vs, Or.inl (Or.inl (f2 _ _ (f1 _ _ g1))), by rw [g3.len]; exact hl⟩
      | _ => cases h2
    · subst e1
      unfold mSeqOf at hr
      rw [M.bind_ex e] at hr
      cases hr
      exact hex x δ1 rfl al1 F1 H1 cls dd s1 S1 xr
theorem ei_tup {tl : TE} {m : M D} (h : Ev K W tl m) : Ei K W false (iTup K tl) (mTupOf m) := by
  intro C hK hW al F H σ δ S r hr R hok hex
  cases e : m δ with
  | none => unfold mTupOf M.bind at hr; rw [e] at hr; cases hr
  | some r1 =>
    refine h C hK hW al F H σ δ S trivial r1 e _ (fun d δ1 e1 al1 F1 H1 v s1 S1 rl => ?_) fun x δ1 e1 al1 F1 H1 cls dd s1 S1 xr => ?_
    · subst e1
      have hr' : mTupOf m δ = some r := hr
      unfold mTupOf at hr'
      rw [M.bind_ok e] at hr'
      obtain ⟨ds, h2, rfl⟩ := lift_some hr'
      cases d with
      | tup es =>
        cases h2
        subst hK
        obtain ⟨a, vs, rfl, g1, g2, g3⟩ := Rep.tup_iff.mp rl
        refine ⟨a, rfl, ⟨vs, same_t S1.fh g1.sq⟩, hok _ δ1 rfl al1 F1 H1 _ s1 S1 ⟨g2, fun F2 H2 f1 f2 _ i => ⟨fun d hd => ?_, fun hl => ?_⟩⟩⟩
        · obtain ⟨u, hu, ru⟩ := g3.get hd
          have ha : SqT C.K H2 a vs := same_t f2 (same_t f1 g1.sq)
          refine ⟨⟨vs, u, ha, hu⟩, fun x H' y => ?_⟩
          obtain ⟨rfl, y⟩ := y
          have q := y vs ha
          rw [hu] at q
          cases q
          exact ⟨F2, New.refl f2, ru.mono f1⟩
        · exact ⟨vs, same_t f2 (same_t f1 g1.sq), by rw [g3.len]; exact hl⟩
      | _ => cases h2
    · subst e1
      unfold mTupOf at hr
      rw [M.bind_ex e] at hr
      cases hr
      exact hex x δ1 rfl al1 F1 H1 cls dd s1 S1 xr
/-- from an argument list of frozen values -/
theorem ei_args {ta : TA} {m : M (List D)} {u : List V → Hp → (It → Hp → Prop) → Prop} {f : List D → Option (List D)} {b : Bool} (h : Eds K W ta m)
    (hu : ∀ (C : Cn) (F H : Hp) (as : List D) (vs : List V) (ds : List D), C.K = K → Same F H → Reps K F as vs → f as = some ds → ∀ R : It → Hp → Prop, (∀ I, Walks C b F I ds → R I H) → u vs H R) :
    Ei K W b (fun σ H R => ta σ H fun vs H1 => u vs H1 R) (m.bind fun as => M.lift (f as)) := by
  intro C hK hW al F H σ δ S r hr R hok hex
  cases e : m δ with
  | none => unfold M.bind at hr; rw [e] at hr; cases hr
  | some r1 =>
    refine h C hK hW al F H σ δ S trivial r1 e _ (fun as δ1 e1 al1 F1 H1 vs s1 S1 rl => ?_) fun x δ1 e1 al1 F1 H1 cls dd s1 S1 xr => ?_
    · subst e1
      rw [M.bind_ok e] at hr
      obtain ⟨ds, h2, rfl⟩ := lift_some hr
      exact hu C F1 H1 as vs ds hK S1.fh rl h2 R fun I w => hok ds δ1 rfl al1 F1 H1 I s1 S1 w
    · subst e1
      rw [M.bind_ex e] at hr
      cases hr
      exact hex x δ1 rfl al1 F1 H1 cls dd s1 S1 xr
def rangeD (lo : Int) (n : Nat) : List D := (List.range n).map fun i => .int (lo + (i : Nat))
theorem rangeD_get {lo : Int} {n i : Nat} {d : D} (h : (rangeD lo n)[i]? = some d) : i < n ∧ d = .int (lo + (i : Nat)) := by
  unfold rangeD at h
  rw [List.getElem?_map] at h
  by_cases q : i < n
  · rw [List.getElem?_range q] at h
    exact ⟨q, (Option.some.inj h).symm⟩
  · rw [List.getElem?_eq_none (by rw [List.length_range]; omega)] at h
    cases h
theorem rangeD_len {lo : Int} {n : Nat} : (rangeD lo n).length = n := by unfold rangeD; rw [List.length_map, List.length_range]
theorem walks_range {C : Cn} {F : Hp} {lo : Int} {n : Nat} (hn : n ≤ LB) : Walks C false F (Itr lo n) (rangeD lo n) := ⟨by rw [rangeD_len]; exact hn, fun F2 H2 f1 f2 _ i => ⟨fun d hd => by
    obtain ⟨q, rfl⟩ := rangeD_get hd
    refine ⟨q, fun x H' y => ?_⟩
    obtain ⟨rfl, rfl⟩ := y
    exact ⟨F2, New.refl f2, (Rep.int_iff (K := C.K) (F := F2)).mpr rfl⟩, fun hl => by
    rw [rangeD_len] at hl
    exact hl⟩⟩
def rg1 : List D → Option (List D)
  | [.int j] => if -1000000 ≤ j ∧ j ≤ 1000000 then some (rangeD 0 j.toNat) else none
  | _ => none
def rg2 : List D → Option (List D)
  | [.int i, .int j] => if 0 ≤ i ∧ i ≤ 1000000 ∧ -1000000 ≤ j ∧ j ≤ 1000000 then some (rangeD i (j - i).toNat) else none
  | _ => none
def mIt (f : List D → Option (List D)) (m : M (List D)) : M (List D) := m.bind fun as => M.lift (f as)
theorem ei_range1 {ta : TA} {m : M (List D)} (h : Eds K W ta m) : Ei K W false (iRng1 ta) (mIt rg1 m) := by
  refine ei_args (u := fun vs H R => ∃ j : Int, vs = [.int j] ∧ -(2 ^ 62) ≤ j ∧ j < 2 ^ 62 ∧ R (Itr 0 j.toNat) H) h fun C F H as vs ds hK fh rs hf R hR => ?_
  match as, hf with
  | [.int j], hf =>
    obtain ⟨⟨h1, h2⟩, rfl⟩ := if_some hf
    obtain ⟨v, us, rfl, r1, r2⟩ := rs.inv
    cases r2.inv0
    exact ⟨j, by rw [Rep.int_iff.mp r1], by omega, by omega, hR _ (walks_range (by unfold LB; omega))⟩
theorem ei_range2 {ta : TA} {m : M (List D)} (h : Eds K W ta m) : Ei K W false (iRng2 ta) (mIt rg2 m) := by
  refine ei_args (u := fun vs H R => ∃ i j : Int, vs = [.int i, .int j] ∧ (-(2 ^ 62) ≤ i ∧ i < 2 ^ 62 ∧ -(2 ^ 62) ≤ j ∧ j < 2 ^ 62) ∧ R (Itr i (j - i).toNat) H) h fun C F H as vs ds hK fh rs hf R hR => ?_
  match as, hf with
  | [.int i, .int j], hf =>
    obtain ⟨h1, rfl⟩ := if_some hf
    obtain ⟨v, us, rfl, r1, r2⟩ := rs.inv
    obtain ⟨w, ws, rfl, r3, r4⟩ := r2.inv
    cases r4.inv0
    exact ⟨i, j, by rw [Rep.int_iff.mp r1, Rep.int_iff.mp r3], by omega, hR _ (walks_range (by unfold LB; omega))⟩
/-! ### for -/
def forL (g : Mg) (b : Ms) : List D → Ms
  | [], δ => some (.nx δ)
  | d :: ds, δ => match g d δ with
    | none => none
    | some δ1 => match b δ1 with
      | some (.nx δ2) => forL g b ds δ2
      | some (.ct δ2) => forL g b ds δ2
      | some (.bk δ2) => some (.nx δ2)
      | r => r
def mFor (it : M (List D)) (g : Mg) (b : Ms) : Ms := mS it fun ds => forL g b ds
theorem es_for {wi : TI} {g : TG} {tb : TS} {it : M (List D)} {a : Mg} {b : Ms} {q : Bool} (hi : Ei K W q wi it) (hg : Eg K q g a) (hb : Es K W tb b) : Es K W (tFor wi g tb) (mFor it a b) := by
  intro C hK hW al F H σ δ S o ho Z hZ
  cases e : it δ with
  | none => unfold mFor mS at ho; rw [e] at ho; cases ho
  | some r =>
    refine hi C hK hW al F H σ δ S r e _ (fun ds δ1 e1 al1 F1 H1 I s1 S1 wk => ?_) fun x δ1 e1 al1 F1 H1 cls dd s1 S1 xr => ?_
    · subst e1
      have ho' : forL a b ds δ1 = some o := by unfold mFor mS at ho; rw [e] at ho; exact ho
      refine ⟨fun i n σ2 H2 => n = ds.length - i ∧ i ≤ ds.length ∧ ∃ al2 F2 δ2, Same F1 F2 ∧ StOk C al2 F2 H2 σ2 δ2 ∧ forL a b (ds.drop i) δ2 = some o, ⟨ds.length, rfl, Nat.zero_le _, al1, F1, δ1, Same.refl _, S1, ho'⟩, ?_⟩
      rintro i n σ2 H2 ⟨rfl, hi, al2, F2, δ2, s2, S2, h2⟩
      by_cases hl : i < ds.length
      · have hd : ds[i]? = some ds[i] := List.getElem?_eq_getElem hl
        obtain ⟨go, yl⟩ := (wk.2 F2 H2 s2 S2.fh S2.ph i).1 _ hd
        have hdr : ds.drop i = ds[i] :: ds.drop (i + 1) := List.drop_eq_getElem_cons hl
        rw [hdr] at h2
        refine Or.inr ⟨go, fun σ3 H3 => ∃ al3 F3 δ3, Same F1 F3 ∧ StOk C al3 F3 H3 σ3 δ3 ∧ forL a b (ds.drop (i + 1)) δ3 = some o, fun σ3 H3 q => ⟨ds.length - (i + 1), by omega, rfl, hl, q⟩, fun x H3 y => ?_⟩
        obtain ⟨F3, nw, rx⟩ := yl x H3 y
        have S3 := S2.new nw
        cases e2 : a ds[i] δ2 with
        | none => simp only [forL, e2] at h2; cases h2
        | some δ3 =>
          subst hK
          refine hg C rfl al2 F3 H3 σ2 δ2 S3 _ x δ3 rx e2 _ fun al4 F4 H4 σ4 s4 S4 => ?_
          cases e3 : b δ3 with
          | none => simp only [forL, e2, e3] at h2; cases h2
          | some r3 =>
            have s14 : Same F1 F4 := s2.trans (nw.ff.trans s4)
            refine hb C rfl hW al4 F4 H4 σ4 δ3 S4 r3 e3 _ ?_
            cases r3 with
            | nx δ5 =>
              simp only [forL, e2, e3] at h2
              exact fun al5 F5 H5 σ5 s5 S5 => ⟨al5, F5, δ5, s14.trans s5, S5, h2⟩
            | ct δ5 =>
              simp only [forL, e2, e3] at h2
              exact fun al5 F5 H5 σ5 s5 S5 => ⟨al5, F5, δ5, s14.trans s5, S5, h2⟩
            | bk δ5 =>
              simp only [forL, e2, e3] at h2
              cases h2
              exact fun al5 F5 H5 σ5 s5 S5 => hZ al5 F5 H5 σ5 (s1.trans (s14.trans s5)) S5
            | rt d δ5 =>
              simp only [forL, e2, e3] at h2
              cases h2
              exact hZ.mono (s1.trans s14)
            | rn d δ5 =>
              simp only [forL, e2, e3] at h2
              cases h2
              exact hZ.mono (s1.trans s14)
            | ex x δ5 =>
              simp only [forL, e2, e3] at h2
              cases h2
              exact hZ.mono (s1.trans s14)
      · have hdr : ds.drop i = [] := List.drop_eq_nil_of_le (by omega)
        rw [hdr] at h2
        cases h2
        exact Or.inl ⟨(wk.2 F2 H2 s2 S2.fh S2.ph i).2 (by omega), hZ al2 F2 H2 σ2 (s1.trans s2) S2⟩
    · subst e1
      unfold mFor mS at ho
      rw [e] at ho
      cases ho
      subst hK
      rw [← hW]
      exact hZ al1 F1 H1 σ cls dd s1 S1 xr
/-! ### while -/
end
end DL

set_option Elab.async false
set_option linter.all false
set_option maxRecDepth 100000
set_option maxHeartbeats 400000
/-! DLd: tests, comprehensions, calls, objects, changes of own objects. -/
namespace DL
open PySem L2
section
variable {K : Fg} {W : WX}
/-! ### tests -/
def mTest (m : M D) : M Bool := m.bind fun d => M.lift (match d with
  | .bl b => some b
  | _ => none)
theorem et_test {te : TE} {m : M D} (h : Ev K W te m) : Et K W (tTest te) (mTest m) := by
  refine J.bind (t2 := fun (x : V) (_ : St) (H : Hp) (Q : Bool → Hp → Prop) => ∃ k, x = V.bl k ∧ Q k H) h monoT fun d v => ?_
  intro C hK hW al F H σ δ S hp r hr Q hok hex
  obtain ⟨b, h2, rfl⟩ := lift_some hr
  cases d with
  | bl c =>
    cases h2
    have hv : Rep K F (.bl b) v := hp.2
    exact ⟨b, Rep.bl_iff.mp hv, hok b δ rfl al F H b (Same.refl _) S rfl⟩
  | _ => cases h2
theorem et_B {te : TE} {m : M D} (h : Ev K W te m) : Et K W (tB te) (mTest m) := et_test h
def mAnd (a b : M Bool) : M Bool := a.bind fun k => if k then b else M.ret false
def mOr (a b : M Bool) : M Bool := a.bind fun k => if k then M.ret true else b
def mNot (a : M Bool) : M Bool := a.bind fun k => M.ret (!k)
theorem et_and {t u : TT} {a b : M Bool} (ha : Et K W t a) (hb : Et K W u b) : Et K W (tAnd t u) (mAnd a b) := by
  refine J.bind (t2 := fun (c : Bool) σ H Q => if c = true then u σ H Q else Q false H) ha monoT fun k c => ?_
  intro C hK hW al F H σ δ S hp r hr Q hok hex
  have e : c = k := hp.2
  subst e
  cases c with
  | true => exact hb C hK hW al F H σ δ S trivial r hr Q hok hex
  | false =>
    cases hr
    exact hok false δ rfl al F H false (Same.refl _) S rfl
theorem et_or {t u : TT} {a b : M Bool} (ha : Et K W t a) (hb : Et K W u b) : Et K W (tOr t u) (mOr a b) := by
  refine J.bind (t2 := fun (c : Bool) σ H Q => if c = true then Q true H else u σ H Q) ha monoT fun k c => ?_
  intro C hK hW al F H σ δ S hp r hr Q hok hex
  have e : c = k := hp.2
  subst e
  cases c with
  | false => exact hb C hK hW al F H σ δ S trivial r hr Q hok hex
  | true =>
    cases hr
    exact hok true δ rfl al F H true (Same.refl _) S rfl
theorem et_not {t : TT} {a : M Bool} (ha : Et K W t a) : Et K W (tNot t) (mNot a) := by
  refine J.bind (t2 := fun (c : Bool) σ H Q => Q (!c) H) ha monoT fun k c => ?_
  intro C hK hW al F H σ δ S hp r hr Q hok hex
  have e : c = k := hp.2
  subst e
  cases hr
  exact hok _ δ rfl al F H _ (Same.refl _) S rfl
/-! values of and, or, not (truths) -/
def mAndV (a b : M D) : M D := a.bind fun d => match d with
  | .bl true => b
  | .bl false => M.ret (.bl false)
  | _ => fun _ => none
def mOrV (a b : M D) : M D := a.bind fun d => match d with
  | .bl true => M.ret (.bl true)
  | .bl false => b
  | _ => fun _ => none
def mNotV (a : M D) : M D := a.bind fun d => M.lift (match d with
  | .bl b => some (.bl (!b))
  | _ => none)
theorem ev_and {ta tb : TE} {a b : M D} (ha : Ev K W ta a) (hb : Ev K W tb b) : Ev K W (tAndV ta tb) (mAndV a b) := by
  refine J.bind (t2 := fun (x : V) σ H (Q : VK) => ∃ c, x = V.bl c ∧ if c = true then tb σ H Q else Q (.bl false) H) ha monoT fun d v => ?_
  intro C hK hW al F H σ δ S hp r hr Q hok hex
  cases d with
  | bl c =>
    have hv : Rep K F (.bl c) v := hp.2
    refine ⟨c, Rep.bl_iff.mp hv, ?_⟩
    cases c with
    | true => exact hb C hK hW al F H σ δ S trivial r hr Q hok hex
    | false =>
      cases hr
      exact hok _ δ rfl al F H _ (Same.refl _) S (Rep.bl_iff.mpr rfl)
  | _ => cases hr
def mIfE (c : M Bool) (a b : M D) : M D := c.bind fun k => if k then a else b
/-- a < b < c -/
def mChain (f g : D → D → Option D) (a b c : M Op) : M D := a.bind fun o => b.bind fun q => (mRd o).bind fun d => (mRd q).bind fun e => (M.lift (f d e)).bind fun z => match z with
  | .bl true => c.bind fun p => (mRd q).bind fun e => (mRd p).bind fun y => M.lift (g e y)
  | .bl false => M.ret (.bl false)
  | _ => fun _ => none
theorem ev_chain {r r' : R2} {f g : D → D → Option D} {ta tb tc : TE} {a b c : M Op} (p : Prim2 K r f) (p' : Prim2 K r' g) (ha : Eo K W ta a) (hb : Eo K W tb b) (hc : Eo K W tc c) : Ev K W (tChain r r' ta tb tc) (mChain f g a b c) := by
  refine J.bind (t2 := fun (x : V) σ H Q => tb σ H fun y H2 => r x y H2 fun z H3 => ∃ k, z = .bl k ∧ (if k = true then tc σ H3 fun w' H4 => r' y w' H4 Q else Q (.bl false) H3)) ha monoT fun o v => ?_
  refine J.bind (t2 := fun (y : V) σ H Q => r v y H fun z H3 => ∃ k, z = .bl k ∧ (if k = true then tc σ H3 fun w' H4 => r' y w' H4 Q else Q (.bl false) H3)) (hb.wk fun _ _ _ => trivial) (monoT.and monoO.at) fun q w => ?_
  intro C hK hW al F H σ δ S hp r0 hr Q hok hex
  subst hK
  obtain ⟨d, h1, hr⟩ := rd_bind hr
  obtain ⟨e, h2, hr⟩ := rd_bind hr
  cases h3 : f d e with
  | none => unfold M.bind M.lift at hr; rw [h3] at hr; cases hr
  | some z =>
    rw [M.bind_ok (show M.lift (f d e) δ = some (.ok z δ) by rw [h3]; rfl)] at hr
    refine p F H v w d e z S.fh (S.opd hp.1.2 h1) (S.opd hp.2 h2) h3 _ fun F1 H1 u n ru => ?_
    have S1 := S.new n
    cases z with
    | bl k =>
      refine ⟨k, Rep.bl_iff.mp ru, ?_⟩
      cases k with
      | false =>
        cases hr
        exact hok _ δ rfl al F1 H1 _ n.ff S1 (Rep.bl_iff.mpr rfl)
      | true =>
        have hr : (c.bind fun p => (mRd q).bind fun e => (mRd p).bind fun y => M.lift (g e y)) δ = some r0 := hr
        cases e1 : c δ with
        | none => unfold M.bind at hr; rw [e1] at hr; cases hr
        | some r1 =>
          refine hc C rfl hW al F1 H1 σ δ S1 trivial r1 e1 _ (fun o2 δ2 e2 al2 F2 H2 x s2 S2 rl => ?_) fun x δ2 e2 al2 F2 H2 cls dd s2 S2 xr => ?_
          · subst e2
            rw [M.bind_ok e1] at hr
            obtain ⟨e', h4, hr⟩ := rd_bind hr
            obtain ⟨y, h5, hr⟩ := rd_bind hr
            obtain ⟨z', h6, rfl⟩ := lift_some hr
            have hq : relO C.K F2 σ w q := monoO _ _ _ _ _ (n.ff.trans s2) hp.2
            exact p' F2 H2 w x e' y z' S2.fh (S2.opd hq h4) (S2.opd rl h5) h6 Q fun F' H' u n' ru => hok z' δ2 rfl al2 F' H' u ((n.ff.trans s2).trans n'.ff) (S2.new n') ru
          · subst e2
            rw [M.bind_ex e1] at hr
            cases hr
            exact hex x δ2 rfl al2 F2 H2 cls dd (n.ff.trans s2) S2 xr
    | _ => cases hr

/-! ### comprehensions -/
def lcL (g : Mg) (t : M Bool) (e : M D) (vs : List Nat) : List D → List D → En → Option (R (List D))
  | acc, [], δ => some (.ok acc δ)
  | acc, d :: ds, δ => match g d δ with
    | none => none
    | some δ1 => match t δ1 with
      | some (.ok false δ2) => lcL g t e vs acc ds (wipeE δ2 vs)
      | some (.ok true δ2) => match e δ2 with
        | some (.ok y δ3) => lcL g t e vs (acc ++ [y]) ds (wipeE δ3 vs)
        | _ => none
      | _ => none
def mLc (it : M (List D)) (g : Mg) (t : M Bool) (e : M D) (vs : List Nat) : M D := it.bind fun ds => fun δ => match lcL g t e vs [] ds (wipeE δ vs) with
  | some (.ok acc δ') => some (.ok (.lst acc) δ')
  | _ => none
/-- the target writes to these slots alone -/
def Gw (g : TG) (vs : List Nat) : Prop := ∀ v σ H Q, g v σ H Q → g v σ H fun σ2 H2 => wipe σ2 vs = wipe σ vs ∧ Q σ2 H2
theorem wipe_set {σ : St} {x : Option V} {j : Nat} : ∀ {vs : List Nat}, j ∈ vs → wipe (σ.set j x) vs = wipe σ vs
  | [], h => by simp at h
  | v :: vs, h => by
    unfold wipe
    by_cases q : j = v
    · subst q
      by_cases z : j ∈ vs
      · rw [wipe_set z]
      · have c : ∀ (us : List Nat) (τ : St), j ∉ us → wipe (τ.set j x) us = (wipe τ us).set j x := by
          intro us
          induction us with
          | nil => intro τ _; rfl
          | cons u us ih =>
            intro τ hu
            unfold wipe
            rw [ih τ (fun z => hu (by simp [z])), List.set_comm _ _ (fun z => hu (by simp [z]))]
        rw [c vs σ z, List.set_set]
    · rw [wipe_set (by simpa [q] using h)]
theorem gw_name {j : Nat} {vs : List Nat} (h : j ∈ vs) : Gw (gName j) vs := fun v σ H Q q => ⟨wipe_set h, q⟩
def Gws (g : TGs) (vs : List Nat) : Prop := ∀ us σ H Q, g us σ H Q → g us σ H fun σ2 H2 => wipe σ2 vs = wipe σ vs ∧ Q σ2 H2
theorem gw_nil {vs : List Nat} : Gws gNil vs := fun us σ H Q q => ⟨q.1, rfl, q.2⟩
theorem gw_cons {t : TG} {u : TGs} {vs : List Nat} (mo : ∀ v σ H (P Q : St → Hp → Prop), (∀ a b, P a b → Q a b) → t v σ H P → t v σ H Q) (ha : Gw t vs) (mu : ∀ us σ H (P Q : St → Hp → Prop), (∀ a b, P a b → Q a b) → u us σ H P → u us σ H Q) (hb : Gws u vs) : Gws (gCons t u) vs := fun us σ H Q q => by
  obtain ⟨v, r, e, q⟩ := q
  refine ⟨v, r, e, mo _ _ _ _ _ (fun σ1 H1 z => ?_) (ha v σ H _ q)⟩
  obtain ⟨z1, z2⟩ := z
  refine mu _ _ _ _ _ (fun σ2 H2 y => ?_) (hb r σ1 H1 Q z2)
  exact ⟨y.1.trans z1, y.2⟩
/-- readings are monotone -/
def Gm (t : TG) : Prop := ∀ v σ H (P Q : St → Hp → Prop), (∀ a b, P a b → Q a b) → t v σ H P → t v σ H Q
def Gms (t : TGs) : Prop := ∀ v σ H (P Q : St → Hp → Prop), (∀ a b, P a b → Q a b) → t v σ H P → t v σ H Q
theorem gm_name {i : Nat} : Gm (gName i) := fun v σ H P Q k h => k _ _ h
theorem gm_nil : Gms gNil := fun v σ H P Q k h => ⟨h.1, k _ _ h.2⟩
theorem gm_cons {t : TG} {u : TGs} (ht : Gm t) (hu : Gms u) : Gms (gCons t u) := fun v σ H P Q k h => by
  obtain ⟨a, r, e, h⟩ := h
  exact ⟨a, r, e, ht _ _ _ _ _ (fun σ1 H1 z => hu _ _ _ _ _ k z) h⟩
theorem gm_tup {n : Nat} {u : TGs} (hu : Gms u) : Gm (gTup K n u) := fun v σ H P Q k h => by
  obtain ⟨a, xs, e1, e2, e3, h⟩ := h
  exact ⟨a, xs, e1, e2, e3, hu _ _ _ _ _ k h⟩
theorem gw_tup {n : Nat} {u : TGs} {vs : List Nat} (hu : Gws u vs) : Gw (gTup K n u) vs := fun v σ H Q h => by
  obtain ⟨a, xs, e1, e2, e3, h⟩ := h
  exact ⟨a, xs, e1, e2, e3, hu _ _ _ _ h⟩
theorem wipe_wipe {σ : St} {vs : List Nat} : wipe (wipe σ vs) vs = wipe σ vs := by
  have h : ∀ (us : List Nat) (τ : St), (∀ u ∈ us, u ∈ vs) → wipe (wipe τ us) vs = wipe τ vs := by
    intro us
    induction us with
    | nil => intro τ _; rfl
    | cons u us ih =>
      intro τ hu
      show wipe ((wipe τ us).set u none) vs = wipe τ vs
      rw [wipe_set (hu u (by simp)), ih τ fun w hw => hu w (by simp [hw])]
  exact h vs σ fun _ z => z
theorem en_lc {wi : TI} {g : TG} {tt : TT} {te : TE} {vs : List Nat} {it : M (List D)} {a : Mg} {t : M Bool} {e : M D} {q : Bool} (hi : Ei K W q wi it) (hg : Eg K q g a) (gw : Gw g vs) (gm : Gm g) (ht : Et K W tt t) (he : Ev K W te e) :
    En1 K W (tLc wi g tt te vs) (mLc it a t e vs) := by
  intro C hK hW al F H σ δ S _ r hr Q hok hex
  cases e0 : it δ with
  | none => unfold mLc M.bind at hr; rw [e0] at hr; cases hr
  | some r0 =>
    refine hi C hK hW al F H σ δ S r0 e0 _ (fun ds δ1 e1 al1 F1 H1 I s1 S1 wk => ?_) fun x δ1 e1 al1 F1 H1 cls dd s1 S1 xr => ?_
    · subst e1
      unfold mLc at hr
      rw [M.bind_ok e0] at hr
      cases e2 : lcL a t e vs [] ds (wipeE δ1 vs) with
      | none => simp only [e2] at hr; cases hr
      | some r2 =>
        cases r2 with
        | ex x δx => simp only [e2] at hr; cases hr
        | ok acc δz =>
          simp only [e2] at hr
          cases hr
          subst hK
          intro Dl hD
          -- the invariant: the list at Dl holds what is made so far
          refine ⟨fun i n H2 => n = ds.length - i ∧ i ≤ ds.length ∧ ∃ al2 F2 δ2 as us, Same F1 F2 ∧ StOk C al2 F2 H2 (wipe σ vs) δ2 ∧ F2 Dl = none ∧ (∀ (j : Nat) s d, δ2[j]? = some s → Sl.own s = some d → al2 j ≠ Dl) ∧ H2 Dl = some (.lst us) ∧ as.length ≤ i ∧ Reps C.K F2 as us ∧ (∀ j, j ∈ vs → δ2[j]? = some .un ∨ δ2[j]? = none) ∧ lcL a t e vs as (ds.drop i) δ2 = some (.ok acc δz), ?_, ?_⟩
          · have n1 : C.P Dl = none := S1.ph.free hD
            have n2 : F1 Dl = none := S1.fh.free hD
            have n3 : ∀ (j : Nat) s d, δ1[j]? = some s → Sl.own s = some d → al1 j ≠ Dl := fun j s d q r z => by
              obtain ⟨_, _, _, h4⟩ := S1.ow j s d q r
              obtain ⟨u, hu⟩ := h4.there
              rw [z, hD] at hu
              cases hu
            refine ⟨ds.length, rfl, Nat.zero_le _, al1, F1, wipeE δ1 vs, [], [], Same.refl _, (S1.poke n2 n1 n3).wiped (wipe_length _ _) fun i hi => wipe_get hi, n2, fun j s d q r => ?_, upd_same, Nat.le_refl _, reps_nil, fun j hj => ?_, e2⟩
            · rcases wipeE_get q with z | ⟨z1, z2⟩
              · subst z; cases r
              · exact n3 j s d z2 r
            · cases q : (wipeE δ1 vs)[j]? with
              | none => exact Or.inr rfl
              | some s =>
                rcases wipeE_get q with z | ⟨z1, z2⟩
                · rw [z]; exact Or.inl rfl
                · exact absurd hj z1
          · rintro i n H2 ⟨rfl, hi, al2, F2, δ2, as, us, s2, S2, nF, nO, hDl, hla, hra, hun, h2⟩
            by_cases hl : i < ds.length
            · have hd : ds[i]? = some ds[i] := List.getElem?_eq_getElem hl
              obtain ⟨go, yl⟩ := (wk.2 F2 H2 s2 S2.fh S2.ph i).1 _ hd
              rw [List.drop_eq_getElem_cons hl] at h2
              refine Or.inr ⟨go, fun H3 => ∃ al3 F3 δ3 as3 us3, Same F1 F3 ∧ StOk C al3 F3 H3 (wipe σ vs) δ3 ∧ F3 Dl = none ∧ (∀ (j : Nat) s d, δ3[j]? = some s → Sl.own s = some d → al3 j ≠ Dl) ∧ H3 Dl = some (.lst us3) ∧ as3.length ≤ i + 1 ∧ Reps C.K F3 as3 us3 ∧ (∀ j, j ∈ vs → δ3[j]? = some .un ∨ δ3[j]? = none) ∧ lcL a t e vs as3 (ds.drop (i + 1)) δ3 = some (.ok acc δz), fun H3 q => ⟨ds.length - (i + 1), by omega, rfl, hl, q⟩, fun x H3 y => ?_⟩
              obtain ⟨F3, nw, rx⟩ := yl x H3 y
              -- the context in which Dl is kept
              let C' : Cn := { C with P := upd C.P Dl (.lst us), F0 := F3 }
              have cP : C.P Dl = none := by
                cases q : C.P Dl with
                | none => rfl
                | some o =>
                  exfalso
                  -- Dl was new
                  have := S1.ph.free hD
                  rw [q] at this
                  cases this
              have S3 := S2.new nw
              have hD3 : H3 Dl = some (.lst us) := nw.hh _ _ hDl
              have nF3 : F3 Dl = none := by
                cases q : F3 Dl with
                | none => rfl
                | some o =>
                  rcases nw.nw _ _ q with z | z
                  · rw [nF] at z; cases z
                  · rw [hDl] at z; cases z
              have S3' : StOk C' al2 F3 H3 (wipe σ vs) δ2 := by
                refine ⟨S3.fh, fun b o q => ?_, fun b o q => ?_, Same.refl _, fun b o q => Or.inl q, S3.len, S3.fr, S3.bo, fun j s d q r => ?_, S3.io, S3.inj, S3.sc, S3.b2, fun b o q => (same_upd cP) _ _ (S3.qp b o q)⟩
                · by_cases z : b = Dl
                  · subst z
                    rw [show C'.P b = upd C.P b (.lst us) b from rfl, upd_same] at q
                    cases q
                    exact hD3
                  · rw [show C'.P b = upd C.P Dl (.lst us) b from rfl, upd_ne z] at q
                    exact S3.ph b o q
                · have q' := S3.bp b o q
                  show upd C.P Dl (.lst us) b = some o
                  rw [upd_ne (ne_of_none q' cP)]
                  exact q'
                · obtain ⟨g1, g2, g3, g4⟩ := S3.ow j s d q r
                  refine ⟨g1, g2, ?_, g4⟩
                  show upd C.P Dl (.lst us) (al2 j) = none
                  rw [upd_ne (nO j s d q r)]
                  exact g3
              -- back to C
              have back : ∀ {al4 : Nat → Addr} {F4 H4 : Hp} {σ4 : St} {δ4 : En}, StOk C' al4 F4 H4 σ4 δ4 → StOk C al4 F4 H4 σ4 δ4 ∧ F4 Dl = none ∧ H4 Dl = some (.lst us) ∧ ∀ (j : Nat) s d, δ4[j]? = some s → Sl.own s = some d → al4 j ≠ Dl := fun {al4 F4 H4 σ4 δ4} S4 => by
                have pD : C'.P Dl = some (.lst us) := upd_same
                have no : ∀ (j : Nat) s d, δ4[j]? = some s → Sl.own s = some d → al4 j ≠ Dl := fun j s d q r z => by
                  obtain ⟨_, _, g3, _⟩ := S4.ow j s d q r
                  rw [z, pD] at g3
                  cases g3
                refine ⟨⟨S4.fh, fun b o q => S4.ph b o ?_, S2.bp, S3.f0.trans S4.f0, fun b o q => ?_, S4.len, S4.fr, S4.bo, fun j s d q r => ?_, S4.io, S4.inj, S4.sc, S4.b2, S2.qp⟩, ?_, S4.ph _ _ pD, no⟩
                · show upd C.P Dl (.lst us) b = some o
                  rw [upd_ne (ne_of_none q cP)]
                  exact q
                · rcases S4.fp b o q with z | z
                  · exact S3.fp b o z
                  · refine Or.inr ?_
                    by_cases w : b = Dl
                    · rw [w]; exact cP
                    · have z' : upd C.P Dl (.lst us) b = none := z
                      rw [upd_ne w] at z'
                      exact z'
                · obtain ⟨g1, g2, g3, g4⟩ := S4.ow j s d q r
                  refine ⟨g1, g2, ?_, g4⟩
                  have z' : upd C.P Dl (.lst us) (al4 j) = none := g3
                  rw [upd_ne (no j s d q r)] at z'
                  exact z'
                · cases q : F4 Dl with
                  | none => rfl
                  | some o =>
                    rcases S4.fp _ _ q with z | z
                    · rw [show C'.F0 Dl = F3 Dl from rfl, nF3] at z; cases z
                    · rw [pD] at z; cases z
              cases e3 : a ds[i] δ2 with
              | none => simp only [lcL, e3] at h2; cases h2
              | some δ3 =>
                have G := hg C' rfl al2 F3 H3 (wipe σ vs) δ2 S3' _ x δ3 rx e3 (fun σ4 H4 => ∃ al4 F4, Same F3 F4 ∧ StOk C' al4 F4 H4 σ4 δ3) fun al4 F4 H4 σ4 s4 S4 => ⟨al4, F4, s4, S4⟩
                refine gm _ _ _ _ _ (fun σ4 H4 z => ?_) (gw _ _ _ _ G)
                obtain ⟨wz, al4, F4, s4, S4⟩ := z
                rw [wipe_wipe] at wz
                refine ⟨wz, ?_⟩
                -- slots are forgotten again
                have lw : (wipe σ vs).length = σ4.length := by rw [← wz, wipe_length]
                have gt : ∀ j, j ∉ vs → (wipe σ vs)[j]? = σ4[j]? := fun j hj => by rw [← wz]; exact wipe_get hj
                cases e4 : t δ3 with
                | none => simp only [lcL, e3, e4] at h2; cases h2
                | some r4 =>
                  refine ht C' rfl hW al4 F4 H4 σ4 δ3 S4 trivial r4 e4 _ (fun k δ5 e5 al5 F5 H5 k' s5 S5 rl => ?_) fun x δ5 e5 al5 F5 H5 cls dd s5 S5 xr => ?_
                  · subst e5
                    have ek : k' = k := rl
                    subst ek
                    cases k' with
                    | false =>
                      simp only [lcL, e3, e4] at h2
                      show ∃ _, _
                      obtain ⟨B1, B2, B3, B4⟩ := back S5
                      refine ⟨al5, F5, wipeE δ5 vs, as, us, ((s2.trans nw.ff).trans s4).trans s5, B1.wiped lw gt, B2, fun j s d q r => ?_, B3, by omega, hra.mono ((nw.ff.trans s4).trans s5), fun j hj => ?_, h2⟩
                      · rcases wipeE_get q with z | ⟨z1, z2⟩
                        · subst z; cases r
                        · exact B4 j s d z2 r
                      · cases q : (wipeE δ5 vs)[j]? with
                        | none => exact Or.inr rfl
                        | some s =>
                          rcases wipeE_get q with z | ⟨z1, z2⟩
                          · rw [z]; exact Or.inl rfl
                          · exact absurd hj z1
                    | true =>
                      cases e6 : e δ5 with
                      | none => simp only [lcL, e3, e4, e6] at h2; cases h2
                      | some r6 =>
                        cases r6 with
                        | ex x δx => simp only [lcL, e3, e4, e6] at h2; cases h2
                        | ok y δ7 =>
                          simp only [lcL, e3, e4, e6] at h2
                          show te σ4 H5 _
                          refine he C' rfl hW al5 F5 H5 σ4 δ5 S5 trivial _ e6 _ (fun y' δ8 e8 al8 F8 H8 v s8 S8 rl => ?_) fun x δ8 e8 => by cases e8
                          cases e8
                          obtain ⟨B1, B2, B3, B4⟩ := back S8
                          have sF : Same F2 F8 := ((nw.ff.trans s4).trans s5).trans s8
                          have l1 : us.length = as.length := hra.len
                          refine ⟨us, B3, by rw [l1]; exact LB_lt (by have := wk.1; omega), al8, F8, wipeE δ7 vs, as ++ [y], us ++ [v], s2.trans sF, (B1.poke B2 cP B4).wiped lw gt, B2, fun j s d q r => ?_, upd_same, by rw [List.length_append]; show as.length + 1 ≤ i + 1; omega, Reps.app (hra.mono sF) (reps_cons rl reps_nil), fun j hj => ?_, h2⟩
                          · rcases wipeE_get q with z | ⟨z1, z2⟩
                            · subst z; cases r
                            · exact B4 j s d z2 r
                          · cases q : (wipeE δ7 vs)[j]? with
                            | none => exact Or.inr rfl
                            | some s =>
                              rcases wipeE_get q with z | ⟨z1, z2⟩
                              · rw [z]; exact Or.inl rfl
                              · exact absurd hj z1
                  · subst e5
                    simp only [lcL, e3, e4] at h2
                    cases h2
            · have hdr : ds.drop i = [] := List.drop_eq_nil_of_le (by omega)
              rw [hdr] at h2
              cases h2
              refine Or.inl ⟨(wk.2 F2 H2 s2 S2.fh S2.ph i).2 (by omega), ?_⟩
              have hs : StOk C al2 F2 H2 σ δz := by
                refine ⟨S2.fh, S2.ph, S2.bp, S2.f0, S2.fp, by rw [← S2.len, wipe_length], fun j d q => ?_, fun j d q => ?_, fun j s d q r => ?_, S2.io, S2.inj, fun j ns q => ?_, fun j es q => ?_, S2.qp⟩
                · have hj : j ∉ vs := fun z => by rcases hun j z with w | w <;> rw [w] at q <;> cases q
                  rw [← wipe_get (σ := σ) hj]
                  exact S2.fr j d q
                · have hj : j ∉ vs := fun z => by rcases hun j z with w | w <;> rw [w] at q <;> cases q
                  rw [← wipe_get (σ := σ) hj]
                  exact S2.bo j d q
                · have hj : j ∉ vs := fun z => by
                    rcases hun j z with w | w
                    · rw [w] at q; cases q; cases r
                    · rw [w] at q; cases q
                  rw [← wipe_get (σ := σ) hj]
                  exact S2.ow j s d q r
                · have hj : j ∉ vs := fun z => by rcases hun j z with w | w <;> rw [w] at q <;> cases q
                  rw [← wipe_get (σ := σ) hj]
                  exact S2.sc j ns q
                · have hj : j ∉ vs := fun z => by rcases hun j z with w | w <;> rw [w] at q <;> cases q
                  rw [← wipe_get (σ := σ) hj]
                  exact S2.b2 j es q
              have ll : acc.length ≤ LB := by have := wk.1; omega
              exact hok _ _ rfl al2 F2 H2 Dl (s1.trans s2) hs nF (S1.ph.free hD) nO ⟨us, hDl, ll, hra⟩
    · subst e1
      unfold mLc at hr
      rw [M.bind_ex e0] at hr
      cases hr
      exact hex x δ1 rfl al1 F1 H1 cls dd s1 S1 xr
def mYes : M Bool := M.ret true
theorem et_yes : Et K W tYes mYes := by
  intro C hK hW al F H σ δ S _ r hr Q hok hex
  cases hr
  exact hok true δ rfl al F H true (Same.refl _) S rfl
end
end DL

set_option Elab.async false
set_option linter.all false
set_option maxRecDepth 100000
set_option maxHeartbeats 400000
/-! DLe: the promises of defs, calls, objects, changes of own objects. -/
namespace DL
open PySem L2
inductive PK where
  | fr | bo | io
def PK.sl : PK → D → Sl
  | .fr, d => .fr d
  | .bo, d => .bo d
  | .io, d => .io d
def entry : List PK → List D → En
  | k :: ks, d :: ds => k.sl d :: entry ks ds
  | _, _ => []
/-- what a def promises: of frozen, borrowed, handed-in things ds it computes f ds (its result, and what its slots hold behind it) -/
def SpD (K : Fg) (ks : List PK) (f : List D → Option (R D)) : Sp := fun vs H Q E => ∃ (C : Cn) (al : Nat → Addr) (ds : List D) (r : R D), C.K = K ∧ vs.length = ks.length ∧ ds.length = ks.length ∧ StOk C al C.F0 H (vs.map some) (entry ks ds) ∧ f ds = some r ∧
  (∀ d δ', r = .ok d δ' → ∀ al' F' H' σ' v, Same C.F0 F' → StOk C al' F' H' σ' δ' → Rep K F' d v → Q v H') ∧
  (∀ x δ', r = .ex x δ' → ∀ al' F' H' σ' cls dd, Same C.F0 F' → StOk C al' F' H' σ' δ' → XRep K F' H' x cls dd → E cls dd H')
def startE (n : Nat) (es : En) : En := es ++ List.replicate (n - es.length) .un
theorem entry_len : ∀ {ks : List PK} {ds : List D}, ds.length = ks.length → (entry ks ds).length = ks.length
  | [], [], _ => rfl
  | k :: ks, d :: ds, h => by simp [entry, entry_len (ks := ks) (ds := ds) (by simpa using h)]
  | [], d :: ds, h => by simp at h
  | k :: ks, [], h => by simp at h
theorem StOk.begin {C : Cn} {al : Nat → Addr} {F H : Hp} {N : List Str} {vs : List V} {es : En} (S : StOk C al F H (vs.map some) es) : StOk C al F H (start N vs) (startE N.length es) := by
  have hl : vs.length = es.length := by simpa using S.len
  have gE : ∀ (j : Nat) s, (startE N.length es)[j]? = some s → s = .un ∨ es[j]? = some s := fun j s q => by
    unfold startE at q
    by_cases z : j < es.length
    · rw [List.getElem?_append_left z] at q
      exact Or.inr q
    · rw [List.getElem?_append_right (by omega)] at q
      rw [List.getElem?_replicate] at q
      split at q
      · exact Or.inl (Option.some.inj q).symm
      · cases q
  have gS : ∀ (j : Nat), j < es.length → (start N vs)[j]? = (vs.map some)[j]? := fun j z => by
    unfold L2.start
    rw [List.getElem?_append_left (by rw [List.length_map, hl]; exact z)]
  have lt : ∀ (j : Nat) s, es[j]? = some s → j < es.length := fun j s q => (List.getElem?_eq_some_iff.mp q).1
  refine ⟨S.fh, S.ph, S.bp, S.f0, S.fp, ?_, fun j e q => ?_, fun j e q => ?_, fun j s e q r => ?_, fun j e q => ?_, fun j k s t e f q1 q2 r1 r2 r3 => ?_, fun j ns q => ?_, fun j ds q => ?_, S.qp⟩
  · unfold L2.start startE
    rw [List.length_append, List.length_append, List.length_map, List.length_replicate, List.length_replicate, hl]
  · rcases gE j _ q with z | z
    · cases z
    · rw [gS j (lt j _ z)]; exact S.fr j e z
  · rcases gE j _ q with z | z
    · cases z
    · rw [gS j (lt j _ z)]; exact S.bo j e z
  · rcases gE j _ q with z | z
    · subst z; cases r
    · rw [gS j (lt j _ z)]; exact S.ow j s e z r
  · rcases gE j _ q with z | z
    · cases z
    · exact S.io j e z
  · rcases gE j _ q1 with z | z
    · subst z; cases r1
    · rcases gE k _ q2 with y | y
      · subst y; cases r2
      · exact S.inj j k s t e f z y r1 r2 r3
  · rcases gE j _ q with z | z
    · cases z
    · rw [gS j (lt j _ z)]; exact S.sc j ns z
  · rcases gE j _ q with z | z
    · cases z
    · rw [gS j (lt j _ z)]; exact S.b2 j ds z
abbrev W0 : WX := fun _ _ _ _ => False
/-- no slot holds an error -/
def Short (δ : En) : Prop := ∀ (i : Nat) (ns : List Int), δ[i]? = some (Sl.sc ns) → ns.length ≤ 1000000
theorem short_entry : ∀ (ks : List PK) (ds : List D), Short (entry ks ds)
  | k :: ks, d :: ds => fun i ns h => by
    cases i with
    | zero => cases k <;> simp [entry, PK.sl] at h
    | succ i => exact short_entry ks ds i ns (by simpa [entry] using h)
  | [], ds => fun i ns h => by simp [entry] at h
  | k :: ks, [] => fun i ns h => by simp [entry] at h
theorem short_nil : Short [] := fun i ns h => by simp at h
theorem short_io {e : D} : Short [.io e] := fun i ns h => by
  cases i with
  | zero => simp at h
  | succ i => simp at h
/-- the context of a body with another wish -/
theorem StOk.wish {C : Cn} {al : Nat → Addr} {F H : Hp} {σ : St} {δ : En} (S : StOk C al F H σ δ) (W : WX) (hs : Short δ) : StOk { C with W := W } al F H σ δ :=
  ⟨S.fh, S.ph, S.bp, S.f0, S.fp, S.len, S.fr, S.bo, S.ow, S.io, S.inj, fun i ns q => by
    obtain ⟨a, h1, h2⟩ := S.sc i ns q
    exact ⟨a, h1, Or.inl (h2.resolve_right fun z => absurd z.1 (by have := hs i ns q; omega))⟩, S.b2, S.qp⟩
theorem StOk.unwish {C : Cn} {al : Nat → Addr} {F H : Hp} {σ : St} {δ : En} {W : WX} (S : StOk { C with W := W } al F H σ δ) (hs : Short δ) : StOk C al F H σ δ :=
  ⟨S.fh, S.ph, S.bp, S.f0, S.fp, S.len, S.fr, S.bo, S.ow, S.io, S.inj, fun i ns q => by
    obtain ⟨a, h1, h2⟩ := S.sc i ns q
    exact ⟨a, h1, Or.inl (h2.resolve_right fun z => absurd z.1 (by have := hs i ns q; omega))⟩, S.b2, S.qp⟩

/-! ### calls -/
def frOk : List PK → List Op → Bool
  | [], [] => true
  | .fr :: ks, .val _ :: os => frOk ks os
  | .bo :: ks, _ :: os => frOk ks os
  | _, _ => false
/-- a call without a thing to be changed -/
def mCall (ks : List PK) (f : List D → Option (R D)) (a : M (List Op)) : M D := a.bind fun os => (mRds os).bind fun ds => fun δ => if frOk ks os then match f ds with
  | some (.ok d _) => some (.ok d δ)
  | some (.ex x _) => some (.ex x δ)
  | none => none else none
theorem entry_get : ∀ {ks : List PK} {ds : List D} {i : Nat} {s : Sl}, (entry ks ds)[i]? = some s → ∃ k d, ks[i]? = some k ∧ ds[i]? = some d ∧ s = k.sl d
  | [], ds, i, s, h => by simp [entry] at h
  | k :: ks, [], i, s, h => by simp [entry] at h
  | k :: ks, d :: ds, 0, s, h => ⟨k, d, rfl, rfl, by simpa [entry] using h.symm⟩
  | k :: ks, d :: ds, i + 1, s, h => by
    obtain ⟨k', d', h1, h2, h3⟩ := entry_get (ks := ks) (ds := ds) (i := i) (s := s) (by simpa [entry] using h)
    exact ⟨k', d', by simpa using h1, by simpa using h2, h3⟩
theorem frOk_get : ∀ {ks : List PK} {os : List Op} {i : Nat} {k : PK}, frOk ks os = true → ks[i]? = some k → k = .bo ∨ (k = .fr ∧ ∃ d, os[i]? = some (.val d))
  | [], os, i, k, h, e => by simp at e
  | .fr :: ks, .val d :: os, 0, k, h, e => by
    have : PK.fr = k := by simpa using e
    exact Or.inr ⟨this.symm, d, rfl⟩
  | .bo :: ks, o :: os, 0, k, h, e => by
    have : PK.bo = k := by simpa using e
    exact Or.inl this.symm
  | .fr :: ks, .val d :: os, i + 1, k, h, e => by
    rcases frOk_get (ks := ks) (os := os) (i := i) (k := k) h (by simpa using e) with z | ⟨z, d', z2⟩
    · exact Or.inl z
    · exact Or.inr ⟨z, d', by simpa using z2⟩
  | .bo :: ks, o :: os, i + 1, k, h, e => by
    rcases frOk_get (ks := ks) (os := os) (i := i) (k := k) h (by simpa using e) with z | ⟨z, d', z2⟩
    · exact Or.inl z
    · exact Or.inr ⟨z, d', by simpa using z2⟩
  | .io :: ks, o :: os, i, k, h, e => by simp [frOk] at h
  | .fr :: ks, .slot j :: os, i, k, h, e => by simp [frOk] at h
  | .fr :: ks, .part j l :: os, i, k, h, e => by simp [frOk] at h
  | .fr :: ks, [], i, k, h, e => by simp [frOk] at h
  | .bo :: ks, [], i, k, h, e => by simp [frOk] at h
  | .io :: ks, [], i, k, h, e => by simp [frOk] at h
theorem frOk_len : ∀ {ks : List PK} {os : List Op}, frOk ks os = true → ks.length = os.length
  | [], [], h => rfl
  | .fr :: ks, .val d :: os, h => by simp [frOk_len (ks := ks) (os := os) h]
  | .bo :: ks, o :: os, h => by simp [frOk_len (ks := ks) (os := os) h]
  | .io :: ks, o :: os, h => by simp [frOk] at h
  | .fr :: ks, .slot j :: os, h => by simp [frOk] at h
  | .fr :: ks, .part j l :: os, h => by simp [frOk] at h
  | .fr :: ks, [], h => by simp [frOk] at h
  | .bo :: ks, [], h => by simp [frOk] at h
  | .io :: ks, [], h => by simp [frOk] at h
  | [], o :: os, h => by simp [frOk] at h
theorem paired_get {α β : Type} {Rr : α → β → Prop} : ∀ {as : List α} {bs : List β} {i : Nat} {b : β}, Paired Rr as bs → bs[i]? = some b → ∃ a, as[i]? = some a ∧ Rr a b
  | _, _, i, b, .nil, e => by simp at e
  | _, _, 0, b, .cons r t, e => by simp at e; subst e; exact ⟨_, rfl, r⟩
  | _, _, i + 1, b, .cons r t, e => by
    obtain ⟨a, h1, h2⟩ := paired_get (i := i) t (by simpa using e)
    exact ⟨a, by simpa using h1, h2⟩
theorem rds_len : ∀ {os : List Op} {δ : En} {ds : List D}, rds os δ = some ds → ds.length = os.length
  | [], δ, ds, h => by cases h; rfl
  | o :: os, δ, ds, h => by
    simp only [rds] at h
    cases e1 : rd o δ with
    | none => simp only [e1] at h; cases h
    | some d =>
      cases e2 : rds os δ with
      | none => simp only [e1, e2] at h; cases h
      | some ds' =>
        simp only [e1, e2] at h
        cases h
        simp [rds_len e2]
theorem rds_get : ∀ {os : List Op} {δ : En} {ds : List D} {i : Nat} {o : Op}, rds os δ = some ds → os[i]? = some o → ∃ d, ds[i]? = some d ∧ rd o δ = some d
  | [], δ, ds, i, o, h, e => by simp at e
  | p :: os, δ, ds, i, o, h, e => by
    simp only [rds] at h
    cases e1 : rd p δ with
    | none => simp only [e1] at h; cases h
    | some d =>
      cases e2 : rds os δ with
      | none => simp only [e1, e2] at h; cases h
      | some ds' =>
        simp only [e1, e2] at h
        cases h
        cases i with
        | zero =>
          have : p = o := by simpa using e
          subst this
          exact ⟨d, rfl, e1⟩
        | succ i =>
          obtain ⟨d', h1, h2⟩ := rds_get (i := i) (o := o) e2 (by simpa using e)
          exact ⟨d', by simpa using h1, h2⟩
/-- no error is let out -/
def NoEx (f : List D → Option (R D)) : Prop := ∀ ds x δ, f ds ≠ some (.ex x δ)
section
variable {K : Fg} {W : WX}
theorem ev_call {ks : List PK} {f : List D → Option (R D)} {a : M (List Op)} {ta : TA} {E : XK} (ha : Ea K W ta a) (hW : (∀ cls dd σ H, W cls dd σ H → E cls dd H) ∨ NoEx f) : Ev K W (tCall (SpD K ks f) [] E ta) (mCall ks f a) := by
  refine J.bind (t2 := fun (vs : List V) (_ : St) (H : Hp) (Q : VK) => SpD K ks f (vs ++ []) H Q E) ha monoT fun os vs => ?_
  intro C hK hWC al F H σ δ S hp r hr Q hok hex
  subst hK
  obtain ⟨ds, h1, hr⟩ := rds_bind hr
  by_cases hf : frOk ks os = true
  · simp only [hf, if_true] at hr
    have hrel : relA C.K F σ vs os := hp.2
    have hP : Paired (fun v d => RepR C.K F H v d) vs ds := S.opds hrel h1
    have lk := frOk_len hf
    have lv : vs.length = os.length := hrel.length
    have ld := rds_len h1
    cases e : f ds with
    | none => simp only [e] at hr; cases hr
    | some q =>
      have St1 : StOk { K := C.K, P := H, B := H, F0 := F, bt := fun _ => 0, W := C.W } (fun _ => 0) F H (vs.map some) (entry ks ds) := by
        have ge : ∀ (i : Nat) s, (entry ks ds)[i]? = some s → ∃ v d, (vs.map some)[i]? = some (some v) ∧ ((s = .bo d ∧ RepR C.K F H v d) ∨ (s = .fr d ∧ Rep C.K F d v)) := fun i s q => by
          obtain ⟨k, d, g1, g2, g3⟩ := entry_get q
          obtain ⟨v, g4, g5⟩ := paired_get hP g2
          refine ⟨v, d, by rw [List.getElem?_map, g4]; rfl, ?_⟩
          rcases frOk_get hf g1 with z | ⟨z, d', z2⟩
          · subst z; exact Or.inl ⟨g3, g5⟩
          · subst z
            refine Or.inr ⟨g3, ?_⟩
            obtain ⟨d2, g6, g7⟩ := rds_get h1 z2
            rw [g2] at g6
            cases g6
            cases g7
            obtain ⟨v', g8, g9⟩ := paired_get hrel z2
            rw [g4] at g8
            cases g8
            exact g9
        refine ⟨S.fh, Same.refl _, Same.refl _, Same.refl _, fun b o q => Or.inl q, by rw [List.length_map, entry_len (by omega)]; omega, fun i d q => ?_, fun i d q => ?_, fun i s d q r => ?_, fun i d q => ?_, fun i j s t d e q1 q2 r1 r2 => ?_, fun i ns q => ?_, fun i ns q => ?_, fun _ _ q => by cases q⟩
        · obtain ⟨v, d', g1, g2 | g2⟩ := ge i _ q
          · cases g2.1
          · cases g2.1; exact ⟨v, g1, g2.2⟩
        · obtain ⟨v, d', g1, g2 | g2⟩ := ge i _ q
          · cases g2.1; exact ⟨v, g1, g2.2⟩
          · cases g2.1
        · obtain ⟨v, d', g1, g2 | g2⟩ := ge i _ q
          · rw [g2.1] at r; cases r
          · rw [g2.1] at r; cases r
        · obtain ⟨v, d', g1, g2 | g2⟩ := ge i _ q
          · cases g2.1
          · cases g2.1
        · obtain ⟨v, d', g1, g2 | g2⟩ := ge i _ q1
          · rw [g2.1] at r1; cases r1
          · rw [g2.1] at r1; cases r1
        · obtain ⟨v, d', g1, g2 | g2⟩ := ge i _ q
          · cases g2.1
          · cases g2.1
        · obtain ⟨v, d', g1, g2 | g2⟩ := ge i _ q
          · cases g2.1
          · cases g2.1
      refine ⟨{ K := C.K, P := H, B := H, F0 := F, bt := fun _ => 0, W := C.W }, fun _ => 0, ds, q, rfl, by rw [List.append_nil]; omega, by omega, (by rw [List.append_nil]; exact St1), e, fun d δ' e1 al' F' H' σ' v s' S' rv => ?_, fun x δ' e1 al' F' H' σ' cls dd s' S' xr => ?_⟩
      · subst e1
        simp only [e] at hr
        cases hr
        have nw : New F H F' H' := ⟨s', S'.fh, S'.ph, S'.fp⟩
        exact hok d δ rfl al F' H' v s' (S.new nw) rv
      · subst e1
        simp only [e] at hr
        cases hr
        have nw : New F H F' H' := ⟨s', S'.fh, S'.ph, S'.fp⟩
        rcases hW with hW | hW
        · exact hW _ _ σ _ (hex x δ rfl al F' H' cls dd s' (S.new nw) xr)
        · exact absurd e (hW _ _ _)
  · simp only [hf] at hr
    cases hr
/-- a call whose first argument, the own object of slot i, is changed -/
def apart (i : Nat) : List Op → Bool
  | [] => true
  | .slot j :: os => j != i && apart i os
  | .val _ :: os => apart i os
  | .part j _ :: os => j != i && apart i os
def reown (s : Sl) (d : D) : Sl := match s with
  | .io _ => .io d
  | _ => .ow d
def ioOut (i : Nat) (s : Sl) (δ δ' : En) : Option En := match δ'[(0 : Nat)]? with
  | some (Sl.io e) => some (δ.set i (reown s e))
  | _ => none
def mCallS1 (i : Nat) (ks : List PK) (f : List D → Option (R D)) (a : M (List Op)) : M D := a.bind fun os => (mRds os).bind fun ds => fun δ => match δ[i]? with
  | some s => match s.own with
    | some c => if frOk ks os && apart i os then match f (c :: ds) with
      | some (.ok d δ') => match ioOut i s δ δ' with
        | some δ2 => some (.ok d δ2)
        | none => none
      | some (.ex x δ') => match ioOut i s δ δ' with
        | some δ2 => some (.ex x δ2)
        | none => none
      | none => none else none
    | none => none
  | none => none
def mCallS (i : Nat) (ks : List PK) (f : List D → Option (R D)) (a : M (List Op)) : M D := fun δ => match δ[i]? with
  | some s => match s.own with
    | some _ => mCallS1 i ks f a δ
    | none => none
  | none => none
theorem apart_get : ∀ {i : Nat} {os : List Op} {j k : Nat}, apart i os = true → os[k]? = some (.slot j) → j ≠ i
  | i, [], j, k, h, e => by simp at e
  | i, .slot l :: os, j, 0, h, e => by
    have : l = j := by simpa using e
    subst this
    simp only [apart, Bool.and_eq_true, bne_iff_ne] at h
    exact h.1
  | i, .val d :: os, j, 0, h, e => by simp at e
  | i, .part l m :: os, j, 0, h, e => by simp at e
  | i, .part l m :: os, j, k + 1, h, e => by
    simp only [apart, Bool.and_eq_true] at h
    exact apart_get (os := os) (k := k) h.2 (by simpa using e)
  | i, .slot l :: os, j, k + 1, h, e => by
    simp only [apart, Bool.and_eq_true] at h
    exact apart_get (os := os) (k := k) h.2 (by simpa using e)
  | i, .val d :: os, j, k + 1, h, e => apart_get (os := os) (k := k) h (by simpa using e)
theorem reown_own {s : Sl} {d : D} : (reown s d).own = some d := by cases s <;> rfl
theorem reown_io {s : Sl} {d z : D} (h : reown s d = .io z) : ∃ y, s = .io y := by
  cases s with
  | io y => exact ⟨y, rfl⟩
  | _ => cases h
/-- behind such a call -/
theorem StOk.back {C : Cn} {al : Nat → Addr} {F H F' H' : Hp} {σ : St} {δ : En} {i : Nat} {s : Sl} {c e : D} (S : StOk C al F H σ δ) (hi : δ[i]? = some s) (hs : s.own = some c)
    (ff : Same F F') (fh : Same F' H') (pc : ∀ a o, a ≠ al i → H a = some o → H' a = some o) (fp : ∀ a o, F' a = some o → F a = some o ∨ a = al i ∨ H a = none) (nF : F' (al i) = none) (ro : RepO C.K F' H' (al i) e) :
    StOk C al F' H' σ (δ.set i (reown s e)) := by
  obtain ⟨h1, h2, h3, h4⟩ := S.ow i s c hi hs
  have li : i < δ.length := (List.getElem?_eq_some_iff.mp hi).1
  have key : ∀ (j : Nat) (u : Sl), (δ.set i (reown s e))[j]? = some u → (j = i ∧ u = reown s e) ∨ (j ≠ i ∧ δ[j]? = some u) := fun j u e => by
    by_cases q : j = i
    · subst q
      rw [List.getElem?_set_self li] at e
      exact Or.inl ⟨rfl, (Option.some.inj e).symm⟩
    · rw [List.getElem?_set_ne (Ne.symm q)] at e
      exact Or.inr ⟨q, e⟩
  have ne : ∀ d, reown s e ≠ .fr d ∧ reown s e ≠ .bo d := fun d => ⟨fun z => (by
      have hz := reown_own (s := s) (d := e)
      rw [z] at hz
      cases hz), fun z => (by
      have hz := reown_own (s := s) (d := e)
      rw [z] at hz
      cases hz)⟩
  refine ⟨fh, fun a o q => pc a o (ne_of_none q h3) (S.ph a o q), S.bp, S.f0.trans ff, fun a o q => ?_, by rw [List.length_set]; exact S.len, fun j d q => ?_, fun j d q => ?_, fun j u d q r => ?_, fun j d q => ?_, fun j k u v d f q1 q2 r1 r2 r3 => ?_, fun j ns q => ?_, fun j es q => ?_, S.qp⟩
  · rcases fp a o q with z | z | z
    · exact S.fp a o z
    · rw [z]; exact Or.inr h3
    · exact Or.inr (S.ph.free z)
  · rcases key j _ q with ⟨ej, z⟩ | ⟨n, q⟩
    · exact absurd z.symm (ne d).1
    · obtain ⟨v, g1, g2⟩ := S.fr j d q
      exact ⟨v, g1, g2.mono ff⟩
  · rcases key j _ q with ⟨ej, z⟩ | ⟨n, q⟩
    · exact absurd z.symm (ne d).2
    · obtain ⟨v, g1, g2⟩ := S.bo j d q
      exact ⟨v, g1, g2.mono ff (Same.refl _)⟩
  · rcases key j _ q with ⟨ej, z⟩ | ⟨n, q⟩
    · subst z
      rw [reown_own] at r
      cases r
      rw [ej]
      exact ⟨h1, nF, h3, ro⟩
    · obtain ⟨g1, g2, g3, g4⟩ := S.ow j u d q r
      have na : al j ≠ al i := fun z => n (S.inj j i u s d c q hi r hs z)
      refine ⟨g1, ?_, g3, g4.mono ff fun o z => pc _ o na z⟩
      cases z : F' (al j) with
      | none => rfl
      | some o =>
        rcases fp _ _ z with y | y | y
        · rw [g2] at y; cases y
        · exact absurd y na
        · obtain ⟨o', ho⟩ := g4.there
          rw [ho] at y; cases y
  · rcases key j _ q with ⟨ej, z⟩ | ⟨n, q⟩
    · obtain ⟨y, hy⟩ := reown_io z.symm
      rw [ej]
      exact S.io i y (by rw [hi, hy])
    · exact S.io j d q
  · rcases key j _ q1 with ⟨ej, z⟩ | ⟨n, p1⟩
    · rcases key k _ q2 with ⟨ek, z2⟩ | ⟨n2, p2⟩
      · rw [ej, ek]
      · rw [ej] at r3 ⊢
        exact S.inj i k s v c f hi p2 hs r2 r3
    · rcases key k _ q2 with ⟨ek, z2⟩ | ⟨n2, p2⟩
      · rw [ek] at r3 ⊢
        exact S.inj j i u s d c p1 hi r1 hs r3
      · exact S.inj j k u v d f p1 p2 r1 r2 r3
  · rcases key j _ q with ⟨ej, z⟩ | ⟨n, q⟩
    · have := reown_own (s := s) (d := e)
      rw [← z] at this
      cases this
    · exact S.sc j ns q
  · rcases key j _ q with ⟨ej, z⟩ | ⟨n, q⟩
    · exact absurd z (by cases s <;> (intro w; cases w))
    · obtain ⟨vs, g1, g2, g3⟩ := S.b2 j es q
      exact ⟨vs, g1, ff _ _ g2, g3.mono (Same.refl _) ff⟩
/-- at the entry of such a call -/
theorem StOk.enter {C : Cn} {al : Nat → Addr} {F H : Hp} {σ : St} {δ : En} {i : Nat} {s : Sl} {c : D} {ks : List PK} {os : List Op} {ds : List D} {vs : List V} (S : StOk C al F H σ δ) (hi : δ[i]? = some s) (hs : s.own = some c)
    (hf : frOk ks os = true) (ha : apart i os = true) (hrel : relA C.K F σ vs os) (h1 : rds os δ = some ds) :
    StOk { K := C.K, P := fun a => if a = al i then none else H a, B := fun a => if a = al i then none else H a, F0 := F, bt := fun _ => al i, W := C.W } (fun _ => al i) F H ((V.ref (al i) :: vs).map some) (entry (.io :: ks) (c :: ds)) := by
  obtain ⟨o1, o2, o3, o4⟩ := S.ow i s c hi hs
  have hP : Paired (fun v d => RepR C.K F H v d) vs ds := S.opds hrel h1
  have lk := frOk_len hf
  have lv : vs.length = os.length := hrel.length
  have ld := rds_len h1
  have pH : Same (fun a => if a = al i then none else H a) H := fun a o q => by
    by_cases z : a = al i
    · simp [z] at q
    · simpa [z] using q
  have ge : ∀ (i' : Nat) s, (entry ks ds)[i']? = some s → ∃ v d, (vs.map some)[i']? = some (some v) ∧ ((s = .bo d ∧ RepR C.K F (fun a => if a = al i then none else H a) v d) ∨ (s = .fr d ∧ Rep C.K F d v)) := fun i' s' q => by
    obtain ⟨k, d, g1, g2, g3⟩ := entry_get q
    obtain ⟨v, g4, g5⟩ := paired_get hP g2
    refine ⟨v, d, by rw [List.getElem?_map, g4]; rfl, ?_⟩
    rcases frOk_get hf g1 with z | ⟨z, d', z2⟩
    · subst z
      refine Or.inl ⟨g3, ?_⟩
      -- which operand is it
      have lo : i' < os.length := by have := (List.getElem?_eq_some_iff.mp g2).1; omega
      have ho : os[i']? = some os[i'] := List.getElem?_eq_getElem lo
      obtain ⟨d2, g6, g7⟩ := rds_get h1 ho
      rw [g2] at g6
      cases g6
      obtain ⟨v', g8, g9⟩ := paired_get hrel ho
      rw [g4] at g8
      cases g8
      cases e : os[i'] with
      | val d3 =>
        rw [e] at g7 g9
        cases g7
        exact Or.inl g9
      | part j k =>
        rw [e] at g7 g9
        obtain ⟨p, ws, y1, y2, y3⟩ := g9
        simp only [rd] at g7
        cases e2 : δ[j]? with
        | none => rw [e2] at g7; cases g7
        | some sj =>
          rw [e2] at g7
          cases sj with
          | b2 es =>
            obtain ⟨us, x1, x2, x3⟩ := S.b2 j es e2
            rw [y1] at x1
            cases x1
            rw [y2] at x2
            cases x2
            obtain ⟨b, rfl, rb⟩ := parts_get x3 y3 g7
            refine Or.inr ⟨b, rfl, rb.mono (Same.refl _) fun o q => ?_⟩
            have q' := S.qp _ _ q
            have : b ≠ al i := ne_of_none q' o3
            simp only [this, if_false]
            exact S.ph _ o q'
          | _ => cases g7
      | slot j =>
        rw [e] at ho g7 g9
        have nj : j ≠ i := apart_get ha ho
        simp only [rd] at g7
        cases e2 : δ[j]? with
        | none => rw [e2] at g7; cases g7
        | some sj =>
          rw [e2] at g7
          have g9 : σ[j]? = some (some v) := g9
          cases sj with
          | un => cases g7
          | sc ns => cases g7
          | b2 ds => cases g7
          | fr d3 =>
            cases g7
            obtain ⟨u, y1, y2⟩ := S.fr j d e2
            rw [g9] at y1; cases y1
            exact Or.inl y2
          | bo d3 =>
            cases g7
            obtain ⟨u, y1, y2⟩ := S.bo j d e2
            rw [g9] at y1; cases y1
            refine y2.mono (Same.refl _) fun a o q => ?_
            have q' := S.bp a o q
            have : a ≠ al i := ne_of_none q' o3
            simp only [this, if_false]
            exact S.ph a o q'
          | ow d3 =>
            cases g7
            obtain ⟨y1, y2, y3, y4⟩ := S.ow j _ d e2 rfl
            rw [g9] at y1; cases y1
            refine Or.inr ⟨al j, rfl, y4.mono (Same.refl _) fun o z => ?_⟩
            have : al j ≠ al i := fun w => nj (S.inj j i _ s d c e2 hi rfl hs w)
            simp only [this, if_false]
            exact z
          | io d3 =>
            cases g7
            obtain ⟨y1, y2, y3, y4⟩ := S.ow j _ d e2 rfl
            rw [g9] at y1; cases y1
            refine Or.inr ⟨al j, rfl, y4.mono (Same.refl _) fun o z => ?_⟩
            have : al j ≠ al i := fun w => nj (S.inj j i _ s d c e2 hi rfl hs w)
            simp only [this, if_false]
            exact z
    · subst z
      refine Or.inr ⟨g3, ?_⟩
      obtain ⟨d2, g6, g7⟩ := rds_get h1 z2
      rw [g2] at g6
      cases g6
      cases g7
      obtain ⟨v', g8, g9⟩ := paired_get hrel z2
      rw [g4] at g8
      cases g8
      exact g9
  have g0 : ∀ (j : Nat) s', (entry (.io :: ks) (c :: ds))[j]? = some s' → (j = 0 ∧ s' = .io c) ∨ ∃ v d, ((V.ref (al i) :: vs).map some)[j]? = some (some v) ∧ ((s' = .bo d ∧ RepR C.K F (fun a => if a = al i then none else H a) v d) ∨ (s' = .fr d ∧ Rep C.K F d v)) := fun j s' q => by
    cases j with
    | zero => exact Or.inl ⟨rfl, by simpa [entry, PK.sl] using q.symm⟩
    | succ j =>
      obtain ⟨v, d, y1, y2⟩ := ge j s' (by simpa [entry] using q)
      exact Or.inr ⟨v, d, by simpa using y1, y2⟩
  refine ⟨S.fh, pH, Same.refl _, Same.refl _, fun b o q => Or.inl q, ?_, fun j d q => ?_, fun j d q => ?_, fun j u d q r => ?_, fun j d q => rfl, fun j k u v d f q1 q2 r1 r2 r3 => ?_, fun j ns q => ?_, fun j ns q => ?_, fun _ _ q => by cases q⟩
  · show ((V.ref (al i) :: vs).map some).length = (PK.io.sl c :: entry ks ds).length
    rw [List.length_map, List.length_cons, List.length_cons, entry_len (by omega)]
    omega
  · rcases g0 j _ q with ⟨_, z⟩ | ⟨v, d', y1, y2 | y2⟩
    · cases z
    · cases y2.1
    · cases y2.1; exact ⟨v, y1, y2.2⟩
  · rcases g0 j _ q with ⟨_, z⟩ | ⟨v, d', y1, y2 | y2⟩
    · cases z
    · cases y2.1; exact ⟨v, y1, y2.2⟩
    · cases y2.1
  · rcases g0 j _ q with ⟨z1, z⟩ | ⟨v, d', y1, y2 | y2⟩
    · subst z
      cases r
      subst z1
      exact ⟨rfl, o2, by simp, o4⟩
    · rw [y2.1] at r; cases r
    · rw [y2.1] at r; cases r
  · rcases g0 j _ q1 with ⟨z1, z⟩ | ⟨v', d', y1, y2 | y2⟩
    · rcases g0 k _ q2 with ⟨z3, z4⟩ | ⟨v', d', y1, y2 | y2⟩
      · rw [z1, z3]
      · rw [y2.1] at r2; cases r2
      · rw [y2.1] at r2; cases r2
    · rw [y2.1] at r1; cases r1
    · rw [y2.1] at r1; cases r1
  · rcases g0 j _ q with ⟨_, z⟩ | ⟨v, d', y1, y2 | y2⟩
    · cases z
    · cases y2.1
    · cases y2.1
  · rcases g0 j _ q with ⟨_, z⟩ | ⟨v, d', y1, y2 | y2⟩
    · cases z
    · cases y2.1
    · cases y2.1
theorem io_behind {C : Cn} {al al' : Nat → Addr} {F H F' H' : Hp} {σ σ' : St} {δ δ' : En} {i : Nat} {s : Sl} {c e : D} {W' : WX} (S : StOk C al F H σ δ) (hi : δ[i]? = some s) (hs : s.own = some c)
    (S' : StOk { K := C.K, P := fun a => if a = al i then none else H a, B := fun a => if a = al i then none else H a, F0 := F, bt := fun _ => al i, W := W' } al' F' H' σ' δ') (he : δ'[0]? = some (.io e)) : StOk C al F' H' σ (δ.set i (reown s e)) := by
  obtain ⟨y1, y2, y3, y4⟩ := S'.ow 0 _ e he rfl
  have e0 : al' 0 = al i := S'.io 0 e he
  rw [e0] at y2 y4
  refine S.back hi hs S'.f0 S'.fh (fun a o n q => S'.ph a o ?_) (fun a o q => ?_) y2 y4
  · simp only [n, if_false]
    exact q
  · rcases S'.fp a o q with z | z
    · exact Or.inl z
    · by_cases w : a = al i
      · exact Or.inr (Or.inl w)
      · refine Or.inr (Or.inr ?_)
        have z' : (if a = al i then none else H a) = none := z
        simpa [w] using z'
theorem ev_callS {i : Nat} {ks : List PK} {f : List D → Option (R D)} {a : M (List Op)} {ta : TA} {E : XK} (ha : Ea K W ta a) (hW : (∀ cls dd σ H, W cls dd σ H → E cls dd H) ∨ NoEx f) :
    Ev K W (tCall (SpD K (.io :: ks) f) [] E (tCons (tVar i) ta)) (mCallS i ks f a) := by
  intro C hK hWC al F H σ δ S hp r hr Q hok hex
  subst hK
  unfold mCallS at hr
  cases q0 : δ[i]? with
  | none => simp only [q0] at hr; cases hr
  | some s0 =>
    cases q1 : s0.own with
    | none => simp only [q0, q1] at hr; cases hr
    | some c0 =>
      simp only [q0, q1] at hr
      obtain ⟨hv, _, _, _⟩ := S.ow i s0 c0 q0 q1
      refine ⟨_, hv, ?_⟩
      cases e0 : a δ with
      | none => unfold mCallS1 M.bind at hr; rw [e0] at hr; cases hr
      | some r0 =>
        refine ha C rfl hWC al F H σ δ S trivial r0 e0 _ (fun os δ1 e' al1 F1 H1 vs s1 S1 rl => ?_) fun x δ1 e' al1 F1 H1 cls dd s1 S1 xr => ?_
        · subst e'
          unfold mCallS1 at hr
          rw [M.bind_ok e0] at hr
          obtain ⟨ds, h1, hr⟩ := rds_bind hr
          cases e1 : δ1[i]? with
          | none => simp only [e1] at hr; cases hr
          | some s =>
            cases e2 : s.own with
            | none => simp only [e1, e2] at hr; cases hr
            | some c =>
              by_cases hf : (frOk ks os && apart i os) = true
              · simp only [e1, e2, hf, if_true] at hr
                obtain ⟨hf1, hf2⟩ := Bool.and_eq_true_iff.mp hf
                obtain ⟨o1, o2, o3, o4⟩ := S1.ow i s c e1 e2
                have ea : al i = al1 i := by
                  rw [hv] at o1
                  exact V.ref.inj (Option.some.inj (Option.some.inj o1))
                rw [ea]
                have St1 := S1.enter e1 e2 hf1 hf2 rl h1
                cases e3 : f (c :: ds) with
                | none => simp only [e3] at hr; cases hr
                | some q =>
                  have lk := frOk_len hf1
                  have lv : vs.length = os.length := rl.length
                  have ld := rds_len h1
                  refine ⟨{ K := C.K, P := fun a => if a = al1 i then none else H1 a, B := fun a => if a = al1 i then none else H1 a, F0 := F1, bt := fun _ => al1 i, W := C.W }, fun _ => al1 i, c :: ds, q, rfl, by rw [List.append_nil]; simp; omega, by simp; omega, (by rw [List.append_nil]; exact St1), e3, fun d δ2 e4 al' F' H' σ' v s' S' rv => ?_, fun x δ2 e4 al' F' H' σ' cls dd s' S' xr => ?_⟩
                  · subst e4
                    simp only [e3] at hr
                    unfold ioOut at hr
                    cases e5 : δ2[0]? with
                    | none => simp only [e5] at hr; cases hr
                    | some s0 =>
                      cases s0 with
                      | io e =>
                        simp only [e5] at hr
                        cases hr
                        exact hok d _ rfl al1 F' H' v (s1.trans s') (io_behind S1 e1 e2 S' e5) rv
                      | _ => simp only [e5] at hr; cases hr
                  · subst e4
                    simp only [e3] at hr
                    unfold ioOut at hr
                    cases e5 : δ2[0]? with
                    | none => simp only [e5] at hr; cases hr
                    | some s0 =>
                      cases s0 with
                      | io e =>
                        simp only [e5] at hr
                        cases hr
                        rcases hW with hW | hW
                        · exact hW _ _ σ _ (hex x _ rfl al1 F' H' cls dd (s1.trans s') (io_behind S1 e1 e2 S' e5) xr)
                        · exact absurd e3 (hW _ _ _)
                      | _ => simp only [e5] at hr; cases hr
              · simp only [e1, e2, hf] at hr
                cases hr
        · subst e'
          unfold mCallS1 at hr
          rw [M.bind_ex e0] at hr
          cases hr
          exact hex x δ1 rfl al1 F1 H1 cls dd s1 S1 xr
end
end DL

set_option Elab.async false
set_option linter.all false
set_option maxRecDepth 100000
set_option maxHeartbeats 400000
/-! DLf: the primitives. -/
namespace DL
open PySem L2
section
variable {K : Fg} {F H : Hp} {v w : V}
theorem RepR.non (h : RepR K F H v .non) : v = .non := by
  rcases h with h | ⟨a, _, h⟩
  · exact Rep.non_iff.mp h
  · exact h.elim
theorem RepR.bl {b : Bool} (h : RepR K F H v (.bl b)) : v = .bl b := by
  rcases h with h | ⟨a, _, h⟩
  · exact Rep.bl_iff.mp h
  · exact h.elim
theorem RepR.int {i : Int} (h : RepR K F H v (.int i)) : v = .int i := by
  rcases h with h | ⟨a, _, h⟩
  · exact Rep.int_iff.mp h
  · exact h.elim
theorem RepR.str {x : Str} (h : RepR K F H v (.str x)) : v = .str x := by
  rcases h with h | ⟨a, _, h⟩
  · exact Rep.str_iff.mp h
  · exact h.elim
theorem RepR.tup {ds : List D} (h : RepR K F H v (.tup ds)) : ∃ a vs, v = .ref a ∧ TupR K F a vs ∧ ds.length ≤ LB ∧ Reps K F ds vs := by
  rcases h with h | ⟨a, _, h⟩
  · exact Rep.tup_iff.mp h
  · exact h.elim
theorem RepR.lst {ds : List D} (h : RepR K F H v (.lst ds)) (fh : Same F H) : ∃ a vs, v = .ref a ∧ H a = some (.lst vs) ∧ ds.length ≤ LB ∧ Reps K F ds vs := by
  rcases h with h | ⟨a, e, vs, h1, h2, h3⟩
  · obtain ⟨a, vs, e, h1, h2, h3⟩ := Rep.lst_iff.mp h
    exact ⟨a, vs, e, fh _ _ h1, h2, h3⟩
  · exact ⟨a, vs, e, h1, h2, h3⟩
theorem RepR.ins {C : Addr} {ns : List Str} {ds : List D} (h : RepR K F H v (.ins C ns ds)) (fh : Same F H) : ∃ a dx vs, v = .ref a ∧ H a = some (.ins C dx (ns.zip vs)) ∧ ns.length = ds.length ∧ Reps K F ds vs := by
  rcases h with h | ⟨a, e, dx, vs, h1, h2, h3⟩
  · obtain ⟨a, dx, vs, e, h1, h2, h3⟩ := Rep.ins_iff.mp h
    exact ⟨a, dx, vs, e, fh _ _ h1, h2, h3⟩
  · exact ⟨a, dx, vs, e, h1, h2, h3⟩
theorem RepR.dk {ks : List Key} {ds : List D} (h : RepR K F H v (.dk ks ds)) (fh : Same F H) : ∃ a vs, v = .ref a ∧ Rd H a (.dK (ks.zip vs)) ∧ ks.length = ds.length ∧ ds.length ≤ LB ∧ Reps K F ds vs := by
  rcases h with h | ⟨a, e, vs, h1, h2, h3, h4⟩
  · obtain ⟨a, vs, e, h1, h2, h3, h4⟩ := Rep.dk_iff.mp h
    exact ⟨a, vs, e, same_rd fh h1, h2, h3, h4⟩
  · exact ⟨a, vs, e, Or.inl h1, h2, h3, h4⟩
theorem RepR.fn {f : Addr} (h : RepR K F H v (.fn f)) : v = .ref f := by
  rcases h with h | ⟨a, e, h⟩
  · exact Rep.fn_iff.mp h
  · exact h.elim
theorem RepR.dn {hs : List Int} {ks ds : List D} (h : RepR K F H v (.dn hs ks ds)) (fh : Same F H) : ∃ a o bs vs nks, v = .ref a ∧ H a = some (dnO a o hs bs vs) ∧ keysT ks = some nks ∧ nks.Nodup ∧ hs.length = ks.length ∧ ks.length = ds.length ∧ ds.length ≤ LB ∧ Reps K F ks (bs.map V.ref) ∧ Reps K F ds vs := by
  rcases h with h | ⟨a, e, o, bs, vs, nks, h1, h2, h3, h4, h5, h6, h7, h8⟩
  · obtain ⟨a, o, bs, vs, nks, e, h1, h2⟩ := Rep.dn_iff.mp h
    exact ⟨a, o, bs, vs, nks, e, fh _ _ h1, h2⟩
  · exact ⟨a, o, bs, vs, nks, e, h1, h2, h3, h4, h5, h6, h7, h8⟩
/-- all is data in the heap as it stands -/
theorem RepR.full {d : D} (h : RepR K F H v d) (fh : Same F H) : Rep K H d v := by
  rcases h with h | ⟨a, e, h⟩
  · exact h.mono fh
  · cases d with
    | lst ds => obtain ⟨vs, h1, h2, h3⟩ := h; exact Rep.lst_iff.mpr ⟨a, vs, e, h1, h2, h3.mono fh⟩
    | ins C ns ds => obtain ⟨dx, vs, h1, h2, h3⟩ := h; exact Rep.ins_iff.mpr ⟨a, dx, vs, e, h1, h2, h3.mono fh⟩
    | dk ks ds => obtain ⟨vs, h1, h2, h3, h4⟩ := h; exact Rep.dk_iff.mpr ⟨a, vs, e, Or.inl h1, h2, h3, h4.mono fh⟩
    | dn hs ks ds => obtain ⟨o, bs, vs, nks, h1, h2, h3, h4, h5, h6, h7, h8⟩ := h; exact Rep.dn_iff.mpr ⟨a, o, bs, vs, nks, e, h1, h2, h3, h4, h5, h6, h7.mono fh, h8.mono fh⟩
    | _ => exact h.elim
end

/-! ### numbers -/
section
variable {K : Fg}
def fI (C : Int → Int → Bool) (g : Int → Int → D) : D → D → Option D
  | .int i, .int j => if C i j then some (g i j) else none
  | _, _ => none
theorem prim_I {C : Int → Int → Prop} {Cb : Int → Int → Bool} {gv : Int → Int → V} {gd : Int → Int → D} (hc : ∀ i j, Cb i j = true → C i j) (hg : ∀ i j F, Rep K F (gd i j) (gv i j)) : Prim2 K (rI C gv) (fI Cb gd) := by
  intro F H v w d e z fh hv hw hf Q k
  match d, e, hf with
  | .int i, .int j, hf =>
    have hf : (if Cb i j = true then some (gd i j) else none) = some z := hf
    obtain ⟨h1, rfl⟩ := if_some hf
    exact ⟨i, j, hv.int, hw.int, hc i j h1, k F H _ (New.refl fh) (hg i j F)⟩
def fI0 (g : Int → Int → D) : D → D → Option D
  | .int i, .int j => some (g i j)
  | _, _ => none
theorem prim_I0 {gv : Int → Int → V} {gd : Int → Int → D} (hg : ∀ i j F, Rep K F (gd i j) (gv i j)) : Prim2 K (rI0 gv) (fI0 gd) := by
  intro F H v w d e z fh hv hw hf Q k
  match d, e, hf with
  | .int i, .int j, hf =>
    cases hf
    exact ⟨i, j, hv.int, hw.int, k F H _ (New.refl fh) (hg i j F)⟩
theorem Prim2.or {r r' : R2} {f g : D → D → Option D} (h : Prim2 K r f) (h' : Prim2 K r' g) : Prim2 K (fun x y H Q => r x y H Q ∨ r' x y H Q) (fun d e => (f d e).or (g d e)) := by
  intro F H v w d e z fh hv hw hf Q k
  have hf : (f d e).or (g d e) = some z := hf
  cases q : f d e with
  | none => rw [q] at hf; exact Or.inr (h' F H v w d e z fh hv hw hf Q k)
  | some y =>
    rw [q] at hf
    have hy : y = z := Option.some.inj hf
    subst hy
    exact Or.inl (h F H v w d e y fh hv hw q Q k)
theorem Prim1.or {r r' : V → Hp → VK → Prop} {f g : D → Option D} (h : Prim1 K r f) (h' : Prim1 K r' g) : Prim1 K (fun x H Q => r x H Q ∨ r' x H Q) (fun d => (f d).or (g d)) := by
  intro F H v d z fh hv hf Q k
  have hf : (f d).or (g d) = some z := hf
  cases q : f d with
  | none => rw [q] at hf; exact Or.inr (h' F H v d z fh hv hf Q k)
  | some y =>
    rw [q] at hf
    have hy : y = z := Option.some.inj hf
    subst hy
    exact Or.inl (h F H v d y fh hv q Q k)
theorem PrimA.or {r r' : List V → Hp → VK → Prop} {f g : List D → Option D} (h : PrimA K r f) (h' : PrimA K r' g) : PrimA K (fun x H Q => r x H Q ∨ r' x H Q) (fun d => (f d).or (g d)) := by
  intro F H v d z fh hv hf Q k
  have hf : (f d).or (g d) = some z := hf
  cases q : f d with
  | none => rw [q] at hf; exact Or.inr (h' F H v d z fh hv hf Q k)
  | some y =>
    rw [q] at hf
    have hy : y = z := Option.some.inj hf
    subst hy
    exact Or.inl (h F H v d y fh hv q Q k)
def small64 (i : Int) : Bool := decide (-(2 ^ 64) < i) && decide (i < 2 ^ 64)
def mulOk (i j : Int) : Bool := small64 i || small64 j
theorem prim_mul : Prim2 K (rI CMul fun i j => .int (i * j)) (fI mulOk fun i j => .int (i * j)) := prim_I (fun i j h => by
  unfold mulOk small64 at h
  simp only [Bool.or_eq_true, Bool.and_eq_true, decide_eq_true_eq] at h
  exact h) fun i j F => Rep.int_iff.mpr rfl
def divOk (_ j : Int) : Bool := decide (0 < j) && decide (j < 1073741824)
theorem prim_div : Prim2 K (rI CDiv fun i j => .int (i / j)) (fI divOk fun i j => .int (i / j)) := prim_I (fun i j h => by
  unfold divOk at h
  simp only [Bool.and_eq_true, decide_eq_true_eq] at h
  exact h) fun i j F => Rep.int_iff.mpr rfl
def modOk (_ j : Int) : Bool := decide (0 < j)
theorem prim_mod : Prim2 K (rI (fun _ j => 0 < j) fun i j => .int (i % j)) (fI modOk fun i j => .int (i % j)) := prim_I (fun i j h => by
  unfold modOk at h
  simpa using h) fun i j F => Rep.int_iff.mpr rfl
def powOk (i j : Int) : Bool := decide (0 ≤ j) && (decide (j ≤ 1000000) && decide (i.natAbs < 2 ^ 64))
theorem prim_pow : Prim2 K (rI CPow fun i j => .int (i ^ j.toNat)) (fI powOk fun i j => .int (i ^ j.toNat)) := prim_I (fun i j h => by
  unfold powOk at h
  simp only [Bool.and_eq_true, decide_eq_true_eq] at h
  exact h) fun i j F => Rep.int_iff.mpr rfl
theorem prim_sub : Prim2 K (rI0 fun i j => .int (i - j)) (fI0 fun i j => .int (i - j)) := prim_I0 fun i j F => Rep.int_iff.mpr rfl
theorem prim_addI : Prim2 K (rI0 fun i j => .int (i + j)) (fI0 fun i j => .int (i + j)) := prim_I0 fun i j F => Rep.int_iff.mpr rfl
theorem prim_ltI : Prim2 K (rI0 fun i j => .bl (decide (i < j))) (fI0 fun i j => .bl (decide (i < j))) := prim_I0 fun i j F => Rep.bl_iff.mpr rfl
theorem prim_leI : Prim2 K (rI0 fun i j => .bl (decide (i ≤ j))) (fI0 fun i j => .bl (decide (i ≤ j))) := prim_I0 fun i j F => Rep.bl_iff.mpr rfl
theorem prim_gtI : Prim2 K (rI0 fun i j => .bl (decide (j < i))) (fI0 fun i j => .bl (decide (j < i))) := prim_I0 fun i j F => Rep.bl_iff.mpr rfl
theorem prim_geI : Prim2 K (rI0 fun i j => .bl (decide (j ≤ i))) (fI0 fun i j => .bl (decide (j ≤ i))) := prim_I0 fun i j F => Rep.bl_iff.mpr rfl

/-! ### + of numbers, texts, lists, tuples -/
def rStrCat : R2 := fun x y H Q => ∃ i j : Str, x = .str i ∧ y = .str j ∧ i.length + j.length ≤ sizeLine ∧ Q (.str (i ++ j)) H
def fStrCat : D → D → Option D
  | .str i, .str j => if i.length + j.length ≤ 1000000 then some (.str (i ++ j)) else none
  | _, _ => none
theorem prim_strCat : Prim2 K rStrCat fStrCat := by
  intro F H v w d e z fh hv hw hf Q k
  match d, e, hf with
  | .str i, .str j, hf =>
    obtain ⟨h1, rfl⟩ := if_some (show (if i.length + j.length ≤ 1000000 then some (D.str (i ++ j)) else none) = some z from hf)
    exact ⟨i, j, hv.str, hw.str, LB_size h1, k F H _ (New.refl fh) (Rep.str_iff.mpr rfl)⟩
def fCatL : D → D → Option D
  | .lst xs, .lst ys => if xs.length + ys.length ≤ 1000000 then some (.lst (xs ++ ys)) else none
  | _, _ => none
theorem prim_catL : Prim2 K rCat fCatL := by
  intro F H v w d e z fh hv hw hf Q k
  match d, e, hf with
  | .lst xs, .lst ys, hf =>
    obtain ⟨h1, rfl⟩ := if_some (show (if xs.length + ys.length ≤ 1000000 then some (D.lst (xs ++ ys)) else none) = some z from hf)
    obtain ⟨a, vs, rfl, g1, g2, g3⟩ := hv.lst fh
    obtain ⟨b, us, rfl, g4, g5, g6⟩ := hw.lst fh
    refine ⟨a, b, vs, us, rfl, rfl, g1, g4, by rw [g3.len, g6.len]; exact LB_size h1, fun p hp => ?_⟩
    have n : New F H (upd F p (.lst (vs ++ us))) (upd H p (.lst (vs ++ us))) := New.lay fh hp
    exact k _ _ _ n (Rep.lst_iff.mpr ⟨p, _, rfl, upd_same, by rw [List.length_append]; exact h1, (g3.app g6).mono n.ff⟩)
/-- t + u, the new tuple's object known -/
def rCatZ (K : Fg) : R2 := fun x y H Q => ∃ a b xs ys, x = .ref a ∧ y = .ref b ∧ SqT K H a xs ∧ SqT K H b ys ∧ xs.length + ys.length ≤ sizeLine ∧
  (xs = [] → Q (.ref b) H) ∧ (xs ≠ [] → ys = [] → Q (.ref a) H) ∧ (xs ≠ [] → ys ≠ [] → ∀ p o, H p = none → Obj.dict o = none → Q (.ref p) (upd H p (.frz o (.tup (xs ++ ys)))))
theorem op_catZ {X : Cx} : OpR X (binaryOp .Add) (rCatZ X.K) := by
  intro pins s σ H x y v u Q I rx ry h
  obtain ⟨a, b, xs, ys, rfl, rfl, ha, hb, hz, q0, q1, q2⟩ := h
  by_cases hx : xs = []
  · exact op_catA pins s σ H _ _ v u Q I rx ry ⟨a, b, xs, ys, rfl, rfl, ha, hb, hz, q0, fun h => absurd hx h, fun h => absurd hx h⟩
  · by_cases hy : ys = []
    · exact op_catA pins s σ H _ _ v u Q I rx ry ⟨a, b, xs, ys, rfl, rfl, ha, hb, hz, fun h => absurd h hx, fun _ h => q1 hx h, fun _ h => absurd hy h⟩
    · cases rx
      cases ry
      obtain ⟨us, r1, p1, _⟩ := I.tuple ha
      obtain ⟨ws, r2, p2, _⟩ := I.tuple hb
      refine HT.cat_tup p1 p2 (fun z => hx (r1.nil_iff.mp z)) (fun z => absurd (r2.nil_iff.mp z) hy) (fun _ => ?_) (by rw [← r1.length, ← r2.length]; exact hz)
      refine ⟨.ref s.heap.objs.size, upd H s.heap.objs.size (.frz { cls := .type "tuple", data := .seq (us ++ ws).toArray } (.tup (xs ++ ys))), I.laid (t' := s.toks) (fun b ob q => Heap.get?_push_of_some _ q) (Nat.le_refl _) ?_, rfl, q2 hx hy _ _ (I.hok.fresh (Nat.le_refl _)) rfl⟩
      exact ⟨Heap.get?_push_size _ rfl, by rw [List.length_append]; exact hz, _, r1.append r2, PyProof.Rows.IsTup.new _ _⟩
def fCatT : D → D → Option D
  | .tup xs, .tup ys => if xs.length + ys.length ≤ 1000000 then some (.tup (xs ++ ys)) else none
  | _, _ => none
theorem prim_catZ : Prim2 K (rCatZ K) fCatT := by
  intro F H v w d e z fh hv hw hf Q k
  match d, e, hf with
  | .tup xs, .tup ys, hf =>
    obtain ⟨h1, rfl⟩ := if_some (show (if xs.length + ys.length ≤ 1000000 then some (D.tup (xs ++ ys)) else none) = some z from hf)
    obtain ⟨a, vs, rfl, g1, g2, g3⟩ := hv.tup
    obtain ⟨b, us, rfl, g4, g5, g6⟩ := hw.tup
    have l1 := g3.len
    have l2 := g6.len
    refine ⟨a, b, vs, us, rfl, rfl, same_t fh g1.sq, same_t fh g4.sq, by rw [l1, l2]; exact LB_size h1, fun e1 => ?_, fun _ e1 => ?_, fun _ _ p o hp ho => ?_⟩
    · have : xs = [] := by
        cases xs with
        | nil => rfl
        | cons x xs => rw [e1] at l1; simp at l1
      subst this
      exact k F H _ (New.refl fh) (Rep.tup_iff.mpr ⟨b, us, rfl, g4, g5, g6⟩)
    · have : ys = [] := by
        cases ys with
        | nil => rfl
        | cons x xs => rw [e1] at l2; simp at l2
      subst this
      refine k F H _ (New.refl fh) ?_
      rw [List.append_nil]
      exact Rep.tup_iff.mpr ⟨a, vs, rfl, g1, g2, g3⟩
    · obtain ⟨n, hr⟩ := newT (K := K) fh hp ho (by rw [List.length_append]; exact h1) (g3.app g6)
      exact k _ _ _ n hr
def rAddA (K : Fg) : R2 := fun x y H Q => rI0 (fun i j => .int (i + j)) x y H Q ∨ (rStrCat x y H Q ∨ (rCat x y H Q ∨ rCatZ K x y H Q))
theorem op_addA {X : Cx} : OpR X (binaryOp .Add) (rAddA X.K) := op_add.or (op_add_str.or (op_cat.or op_catZ))
def addD (d e : D) : Option D := (fI0 (fun i j => .int (i + j)) d e).or ((fStrCat d e).or ((fCatL d e).or (fCatT d e)))
theorem prim_add : Prim2 K (rAddA K) addD := prim_addI.or (prim_strCat.or (prim_catL.or prim_catZ))

/-! ### == of data -/
mutual
def toPy : D → Option PyData
  | .non => some .none
  | .bl b => some (.bool b)
  | .int i => some (.int i)
  | .str x => some (.str x)
  | .tup ds => (toPys ds).map .tuple
  | .lst ds => (toPys ds).map .list
  | .ins _ _ _ => none
  | .dk _ _ => none
  | .dn _ _ _ => none
  | .fn _ => none
def toPys : List D → Option (List PyData)
  | [] => some []
  | d :: ds => match toPy d, toPys ds with
    | some p, some ps => some (p :: ps)
    | _, _ => none
end
mutual
theorem toPy_dp {K : Fg} {H : Hp} : ∀ {d : D} {v : V} {p : PyData}, Rep K H d v → toPy d = some p → Dp K H v p
  | .non, v, p, h, e => by cases e; rw [Rep.non_iff.mp h]; exact .non
  | .bl b, v, p, h, e => by cases e; rw [Rep.bl_iff.mp h]; exact .bl b
  | .int i, v, p, h, e => by cases e; rw [Rep.int_iff.mp h]; exact .int i
  | .str x, v, p, h, e => by cases e; rw [Rep.str_iff.mp h]; exact .str x
  | .tup ds, v, p, h, e => by
    obtain ⟨a, vs, rfl, g1, g2, g3⟩ := Rep.tup_iff.mp h
    simp only [toPy] at e
    cases q : toPys ds with
    | none => rw [q] at e; cases e
    | some ps => rw [q] at e; cases e; exact .tup g1.sq (toPys_dp g3 q)
  | .lst ds, v, p, h, e => by
    obtain ⟨a, vs, rfl, g1, g2, g3⟩ := Rep.lst_iff.mp h
    simp only [toPy] at e
    cases q : toPys ds with
    | none => rw [q] at e; cases e
    | some ps => rw [q] at e; cases e; exact .lst (Or.inl (Or.inl g1)) (toPys_dp g3 q)
  | .ins _ _ _, v, p, h, e => by cases e
  | .dk _ _, v, p, h, e => by cases e
  | .dn _ _ _, v, p, h, e => by cases e
  | .fn _, v, p, h, e => by cases e
theorem toPys_dp {K : Fg} {H : Hp} : ∀ {ds : List D} {vs : List V} {ps : List PyData}, Reps K H ds vs → toPys ds = some ps → DpAll K H vs ps
  | [], vs, ps, h, e => by cases e; rw [h.inv0]; exact .nil
  | d :: ds, vs, ps, h, e => by
    obtain ⟨v, us, rfl, h1, h2⟩ := h.inv
    simp only [toPys] at e
    cases q1 : toPy d with
    | none => simp only [q1] at e; cases e
    | some p =>
      cases q2 : toPys ds with
      | none => simp only [q1, q2] at e; cases e
      | some qs => simp only [q1, q2] at e; cases e; exact .cons (toPy_dp h1 q1) (toPys_dp h2 q2)
end
/-- whether two data are equal, as Python tells it -/
def pyEq (d e : D) : Option Bool := match toPy d, toPy e with
  | some p, some q => if SeqAt.shaped p && SeqAt.shaped q then some (PyData.eqv p q) else none
  | _, _ => none
def eqD (d e : D) : Option D := (pyEq d e).map D.bl
def neD (d e : D) : Option D := (pyEq d e).map fun b => D.bl (!b)
theorem pyEq_some {d e : D} {b : Bool} (h : pyEq d e = some b) : ∃ p q, toPy d = some p ∧ toPy e = some q ∧ SeqAt.shaped p = true ∧ SeqAt.shaped q = true ∧ b = PyData.eqv p q := by
  unfold pyEq at h
  cases e1 : toPy d with
  | none => simp only [e1] at h; cases h
  | some p =>
    cases e2 : toPy e with
    | none => simp only [e1, e2] at h; cases h
    | some q =>
      simp only [e1, e2] at h
      obtain ⟨h1, h2⟩ := if_some h
      obtain ⟨h3, h4⟩ := Bool.and_eq_true_iff.mp h1
      exact ⟨p, q, rfl, rfl, h3, h4, h2.symm⟩
theorem prim_eq : Prim2 K (rEqD K) eqD := by
  intro F H v w d e z fh hv hw hf Q k
  unfold eqD at hf
  cases h : pyEq d e with
  | none => rw [h] at hf; cases hf
  | some b =>
    rw [h] at hf
    cases hf
    obtain ⟨p, q, h1, h2, h3, h4, rfl⟩ := pyEq_some h
    exact ⟨p, q, toPy_dp (hv.full fh) h1, toPy_dp (hw.full fh) h2, h3, h4, k F H _ (New.refl fh) (Rep.bl_iff.mpr rfl)⟩
theorem prim_ne : Prim2 K (rNeD K) neD := by
  intro F H v w d e z fh hv hw hf Q k
  unfold neD at hf
  cases h : pyEq d e with
  | none => rw [h] at hf; cases hf
  | some b =>
    rw [h] at hf
    cases hf
    obtain ⟨p, q, h1, h2, h3, h4, rfl⟩ := pyEq_some h
    exact ⟨p, q, toPy_dp (hv.full fh) h1, toPy_dp (hw.full fh) h2, h3, h4, k F H _ (New.refl fh) (Rep.bl_iff.mpr rfl)⟩
/-- x in a list -/
def inLD (neg : Bool) : D → D → Option D
  | d, .lst es => match toPy d, toPys es with
    | some p, some qs => if SeqAt.shaped p && SeqAt.shaped (.list qs) then some (.bl (xor neg (qs.any fun z => PyData.eqv z p))) else none
    | _, _ => none
  | _, _ => none
theorem inLD_some {neg : Bool} {d : D} {es : List D} {z : D} (h : inLD neg d (.lst es) = some z) : ∃ p qs, toPy d = some p ∧ toPys es = some qs ∧ SeqAt.shaped p = true ∧ SeqAt.shaped (.list qs) = true ∧ z = .bl (xor neg (qs.any fun z => PyData.eqv z p)) := by
  unfold inLD at h
  cases e1 : toPy d with
  | none => simp only [e1] at h; cases h
  | some p =>
    cases e2 : toPys es with
    | none => simp only [e1, e2] at h; cases h
    | some q =>
      simp only [e1, e2] at h
      obtain ⟨h1, h2⟩ := if_some h
      obtain ⟨h3, h4⟩ := Bool.and_eq_true_iff.mp h1
      exact ⟨p, q, rfl, rfl, h3, h4, h2.symm⟩
theorem prim_inL : Prim2 K (rInD K) (inLD false) := by
  intro F H v w d e z fh hv hw hf Q k
  match e, hf with
  | .lst es, hf =>
    obtain ⟨p, qs, h1, h2, h3, h4, rfl⟩ := inLD_some hf
    refine ⟨p, qs, toPy_dp (hv.full fh) h1, toPy_dp (hw.full fh) (by simp only [toPy, h2]; rfl), h3, h4, k F H _ (New.refl fh) (Rep.bl_iff.mpr ?_)⟩
    rw [Bool.false_xor]
end
end DL

set_option Elab.async false
set_option linter.all false
set_option maxRecDepth 100000
set_option maxHeartbeats 400000
/-! DLg: more primitives: len, isinstance, items, slices, list(), tuple(), sorted, dicts, methods. -/
namespace DL
open PySem L2
section
variable {K : Fg}
theorem paired1 {α β : Type} {Rr : α → β → Prop} {as : List α} {b : β} (h : Paired Rr as [b]) : ∃ a, as = [a] ∧ Rr a b := by
  cases h with
  | cons r t => cases t; exact ⟨_, rfl, r⟩
/-- a primitive of one value from one of an argument list -/
def fA1 (f : D → Option D) : List D → Option D
  | [d] => f d
  | _ => none
def fA2 (f : D → D → Option D) : List D → Option D
  | [d, e] => f d e
  | _ => none
def fN1 (f : D → Option (List D)) : List D → Option (List D)
  | [d] => f d
  | _ => none
theorem primA1 {r : List V → Hp → VK → Prop} {f : D → Option D} (h : ∀ (F H : Hp) (v : V) (d e : D), Same F H → RepR K F H v d → f d = some e → ∀ Q : VK, (∀ F' H' u, New F H F' H' → Rep K F' e u → Q u H') → r [v] H Q) : PrimA K r (fA1 f) := by
  intro F H vs ds e fh hp hf Q k
  match ds, hp, hf with
  | [d], hp, hf =>
    obtain ⟨v, rfl, hv⟩ := paired1 hp
    exact h F H v d e fh hv hf Q k
theorem primN1 {r : List V → Hp → VK → Prop} {f : D → Option (List D)} (h : ∀ (F H : Hp) (v : V) (d : D) (es : List D), Same F H → RepR K F H v d → f d = some es → ∀ Q : VK, (∀ p H' us, H p = none → Same H H' → H' p = some (.lst us) → es.length ≤ LB → Reps K F es us → Q (.ref p) H') → r [v] H Q) : PrimNA K r (fN1 f) := by
  intro F H vs ds es fh hp hf Q k
  match ds, hp, hf with
  | [d], hp, hf =>
    obtain ⟨v, rfl, hv⟩ := paired1 hp
    exact h F H v d es fh hv hf Q k
/-! ### len -/
def rLen (K : Fg) : List V → Hp → VK → Prop := fun xs H Q => ∃ x n, xs = [x] ∧ LenV K x H n ∧ Q (.int n) H
def lenD : D → Option D
  | .str x => if x.length ≤ 1000000 then some (.int x.length) else none
  | .lst ds => some (.int ds.length)
  | .tup ds => some (.int ds.length)
  | _ => none
theorem prim_len : PrimA K (rLen K) (fA1 lenD) := primA1 fun F H v d e fh hv hf Q k => by
  cases d with
  | str x =>
    obtain ⟨h1, rfl⟩ := if_some (show (if x.length ≤ 1000000 then some (D.int x.length) else none) = some e from hf)
    exact ⟨v, x.length, rfl, by rw [hv.str]; exact ⟨LB_size h1, rfl⟩, k F H _ (New.refl fh) (Rep.int_iff.mpr rfl)⟩
  | lst ds =>
    cases hf
    obtain ⟨a, vs, rfl, g1, g2, g3⟩ := hv.lst fh
    exact ⟨_, ds.length, rfl, Or.inl ⟨vs, Or.inl (Or.inl g1), g3.len.symm⟩, k F H _ (New.refl fh) (Rep.int_iff.mpr rfl)⟩
  | tup ds =>
    cases hf
    obtain ⟨a, vs, rfl, g1, g2, g3⟩ := hv.tup
    exact ⟨_, ds.length, rfl, Or.inr ⟨vs, same_t fh g1.sq, g3.len.symm⟩, k F H _ (New.refl fh) (Rep.int_iff.mpr rfl)⟩
  | _ => cases hf
/-! ### isinstance of a built-in class -/
def tyN : D → Option String
  | .non => some "NoneType"
  | .bl _ => some "bool"
  | .int _ => some "int"
  | .str _ => some "str"
  | .tup _ => some "tuple"
  | .lst _ => some "list"
  | .dk _ _ => some "dict"
  | .ins _ _ _ => none
  | .dn _ _ _ => none
  | .fn _ => none
theorem tyX_of {F H : Hp} {v : V} {d : D} {t : String} (fh : Same F H) (hv : RepR K F H v d) (ht : tyN d = some t) : TyX K H v (.type t) := by
  cases d with
  | non => cases ht; rw [hv.non]; exact .base .non
  | bl b => cases ht; rw [hv.bl]; exact .base (.bl b)
  | int i => cases ht; rw [hv.int]; exact .base (.int i)
  | str x => cases ht; rw [hv.str]; exact .base (.str x)
  | tup ds =>
    cases ht
    obtain ⟨a, vs, rfl, g1, g2, g3⟩ := hv.tup
    rcases g1 with ⟨o, _, h⟩ | ⟨o, its, n, h1, _, h2, _⟩
    · exact .fTuple (fh _ _ h)
    · exact .kTuple h1 h2
  | lst ds =>
    cases ht
    obtain ⟨a, vs, rfl, g1, g2, g3⟩ := hv.lst fh
    exact .base (.lst g1)
  | dk ks ds =>
    cases ht
    obtain ⟨a, vs, rfl, g1, _⟩ := hv.dk fh
    rcases g1 with g1 | ⟨o, g1⟩
    · exact .base (.dK g1)
    · exact .fDict g1
  | ins C ns ds => cases ht
  | dn hs ks ds => cases ht
  | fn f => cases ht
/-- isinstance(x, T) -/
def isB (T : String) (d : D) : Option D := match tyN d with
  | some t => (kitB t T).map D.bl
  | none => none
def tIsi (K : Fg) (T : String) (te : TE) : TE := tCB (rIsi K) (tCons te (tCons (tC (.ty T)) tNil))
theorem prim_isB {T : String} : Prim1 K (fun x H Q => rIsi K [x, .ty T] H Q) (isB T) := by
  intro F H v d e fh hv hf Q k
  unfold isB at hf
  cases ht : tyN d with
  | none => simp only [ht] at hf; cases hf
  | some t =>
    simp only [ht] at hf
    cases hb : kitB t T with
    | none => rw [hb] at hf; cases hf
    | some b =>
      rw [hb] at hf
      cases hf
      exact ⟨v, .ty T, .type t, .type T, b, rfl, .ty T, tyX_of fh hv ht, kit_ty hb, k F H _ (New.refl fh) (Rep.bl_iff.mpr rfl)⟩
theorem ev_isi {W : WX} {T : String} {te : TE} {a : M Op} (h : Eo K W te a) : Ev K W (tIsi K T te) (m1 (isB T) a) := ev_1 (r := fun x H Q => rIsi K [x, .ty T] H Q) prim_isB h
/-! ### items -/
def ixD : D → D → Option D
  | .lst ds, .int i => atI ds i
  | .tup ds, .int i => atI ds i
  | .str x, .int i => if x.length ≤ 1000000 then (atI x.cps.toList i).map fun c => D.str ⟨#[c]⟩ else none
  | _, _ => none
theorem atI_len {α β : Type} {xs : List α} {ys : List β} {i : Int} {x : α} (hl : xs.length = ys.length) (h : atI xs i = some x) : ∃ j : Nat, xs[j]? = some x ∧ ∀ y, ys[j]? = some y → atI ys i = some y := by
  unfold atI at h ⊢
  cases e : ixN xs.length i with
  | none => rw [e] at h; cases h
  | some j =>
    rw [e] at h
    refine ⟨j, h, fun y hy => ?_⟩
    rw [← hl, e]
    exact hy
theorem prim_ix : Prim2 K (rIx K) ixD := by
  intro F H v w d e z fh hv hw hf Q k
  cases e with
  | int i =>
   cases d with
   | lst ds =>
    obtain ⟨a, vs, rfl, g1, g2, g3⟩ := hv.lst fh
    obtain ⟨j, h1, h2⟩ := atI_len g3.len.symm hf
    obtain ⟨u, h3, h4⟩ := g3.get h1
    exact Or.inl ⟨a, vs, i, u, rfl, hw.int, Or.inl (Or.inl g1), h2 u h3, k F H _ (New.refl fh) h4⟩
   | tup ds =>
    obtain ⟨a, vs, rfl, g1, g2, g3⟩ := hv.tup
    obtain ⟨j, h1, h2⟩ := atI_len g3.len.symm hf
    obtain ⟨u, h3, h4⟩ := g3.get h1
    exact Or.inr (Or.inl ⟨a, vs, i, u, rfl, hw.int, same_t fh g1.sq, h2 u h3, k F H _ (New.refl fh) h4⟩)
   | str x =>
    have hf : (if x.length ≤ 1000000 then (atI x.cps.toList i).map fun c => D.str ⟨#[c]⟩ else none) = some z := hf
    by_cases hl : x.length ≤ 1000000
    · rw [if_pos hl] at hf
      cases h1 : atI x.cps.toList i with
      | none => rw [h1] at hf; cases hf
      | some c =>
        rw [h1] at hf
        cases hf
        exact Or.inr (Or.inr ⟨x, i, c, hv.str, hw.int, LB_size hl, h1, k F H _ (New.refl fh) (Rep.str_iff.mpr rfl)⟩)
    · rw [if_neg hl] at hf; cases hf
   | _ => cases hf
  | _ => cases d <;> cases hf
/-! ### slices -/
/-- t[lo:hi], the new tuple's object known -/
def rSlZ (K : Fg) : V → Option Int → Option Int → Hp → VK → Prop := fun x lo hi H Q => ∃ a xs, x = .ref a ∧ SqT K H a xs ∧
  (HT.sIx xs.length 0 lo = 0 ∧ HT.sIx xs.length xs.length hi = xs.length → Q (.ref a) H) ∧ (¬ (HT.sIx xs.length 0 lo = 0 ∧ HT.sIx xs.length xs.length hi = xs.length) → ∀ p o, H p = none → Obj.dict o = none → Q (.ref p) (upd H p (.frz o (.tup (cutV xs lo hi)))))
theorem sl_tupZ {X : Cx} : SlR X (rSlZ X.K) := by
  intro pins s σ H x v vl vu lo hi sl Q I rx hs pl pu h
  obtain ⟨a, xs, rfl, hx, q1, q2⟩ := h
  by_cases hw : HT.sIx xs.length 0 lo = 0 ∧ HT.sIx xs.length xs.length hi = xs.length
  · exact sl_tupA pins s σ H _ v vl vu lo hi sl Q I rx hs pl pu ⟨a, xs, rfl, hx, q1, fun h => absurd hw h⟩
  · cases rx
    obtain ⟨us, r, ht, hz⟩ := I.tuple hx
    have hlen : us.toArray.size = xs.length := by rw [List.size_toArray]; exact r.length.symm
    refine ⟨"tuple", _, PyProof.Rows.slot_tuple_getitem.lookup, ht.typeIs, HT.getItem_tuple_cut ht hs pl pu (by rw [hlen]; exact hw) ?_ (by rw [hlen]; exact hz)⟩
    rw [hlen]
    refine ⟨.ref s.heap.objs.size, upd H s.heap.objs.size (.frz { cls := .type "tuple", data := .seq ((us.toArray.toList.drop (HT.sIx xs.length 0 lo)).take (HT.sIx xs.length xs.length hi - HT.sIx xs.length 0 lo)).toArray } (.tup (cutV xs lo hi))), I.laid (t' := s.toks) (fun b ob q => Heap.get?_push_of_some _ q) (Nat.le_refl _) ⟨Heap.get?_push_size _ rfl, ?_⟩, rfl, q2 hw _ _ (I.hok.fresh (Nat.le_refl _)) rfl⟩
    exact ⟨Nat.le_trans (cutV_length xs lo hi) hz, _, (r.drop (HT.sIx xs.length 0 lo)).take (HT.sIx xs.length xs.length hi - HT.sIx xs.length 0 lo), PyProof.Rows.IsTup.new _ _⟩
def PrimSl (K : Fg) (r : V → Option Int → Option Int → Hp → VK → Prop) (f : D → Option Int → Option Int → Option D) : Prop := ∀ (F H : Hp) (v : V) (d : D) (lo hi : Option Int) (e : D), Same F H → RepR K F H v d → f d lo hi = some e → ∀ Q : VK, (∀ F' H' u, New F H F' H' → Rep K F' e u → Q u H') → r v lo hi H Q
def cutD (xs : List D) (lo hi : Option Int) : List D := (xs.drop (HT.sIx xs.length 0 lo)).take (HT.sIx xs.length xs.length hi - HT.sIx xs.length 0 lo)
theorem cutD_reps {F : Hp} {ds : List D} {vs : List V} {lo hi : Option Int} (h : Reps K F ds vs) : Reps K F (cutD ds lo hi) (cutV vs lo hi) := by
  unfold cutD cutV
  rw [h.len]
  exact (h.drop _).take _
theorem cutD_len {ds : List D} {lo hi : Option Int} : (cutD ds lo hi).length ≤ ds.length := by
  unfold cutD
  rw [List.length_take, List.length_drop]
  omega
def slD : D → Option Int → Option Int → Option D
  | .lst ds, lo, hi => some (.lst (cutD ds lo hi))
  | .tup ds, lo, hi => some (.tup (cutD ds lo hi))
  | .str x, lo, hi => if x.length ≤ 1000000 then some (.str (cutS x lo hi)) else none
  | _, _, _ => none
def rSlAny (K : Fg) : V → Option Int → Option Int → Hp → VK → Prop := fun x lo hi H Q => rSlL K x lo hi H Q ∨ (rSlZ K x lo hi H Q ∨ rSlS x lo hi H Q)
theorem sl_any {X : Cx} : SlR X (rSlAny X.K) := sl_list.or (sl_tupZ.or sl_str)
theorem prim_sl : PrimSl K (rSlAny K) slD := by
  intro F H v d lo hi e fh hv hf Q k
  cases d with
  | lst ds =>
    cases hf
    obtain ⟨a, vs, rfl, g1, g2, g3⟩ := hv.lst fh
    refine Or.inl ⟨a, vs, rfl, Or.inl (Or.inl g1), fun p hp => ?_⟩
    have n : New F H (upd F p (.lst (cutV vs lo hi))) (upd H p (.lst (cutV vs lo hi))) := New.lay fh hp
    exact k _ _ _ n (Rep.lst_iff.mpr ⟨p, _, rfl, upd_same, Nat.le_trans cutD_len g2, (cutD_reps g3).mono n.ff⟩)
  | tup ds =>
    cases hf
    obtain ⟨a, vs, rfl, g1, g2, g3⟩ := hv.tup
    refine Or.inr (Or.inl ⟨a, vs, rfl, same_t fh g1.sq, fun e => ?_, fun _ p o hp ho => ?_⟩)
    · have : cutD ds lo hi = ds := by
        unfold cutD
        rw [← g3.len, e.1, e.2, List.drop_zero, Nat.sub_zero, g3.len, List.take_length]
      refine k F H _ (New.refl fh) ?_
      rw [this]
      exact Rep.tup_iff.mpr ⟨a, vs, rfl, g1, g2, g3⟩
    · obtain ⟨n, hr⟩ := newT (K := K) fh hp ho (Nat.le_trans cutD_len g2) (cutD_reps (lo := lo) (hi := hi) g3)
      exact k _ _ _ n hr
  | str x =>
    obtain ⟨h1, rfl⟩ := if_some (show (if x.length ≤ 1000000 then some (D.str (cutS x lo hi)) else none) = some e from hf)
    exact Or.inr (Or.inr ⟨x, hv.str, LB_size h1, k F H _ (New.refl fh) (Rep.str_iff.mpr rfl)⟩)
  | _ => cases hf
/-- a slice's part -/
def relP : Rl (Option Int) (Option Int) := fun _ _ a b => a = b
abbrev Ep (K : Fg) (W : WX) (t : TO) (m : M (Option Int)) : Prop := J K W tru t relP m
def mpNone : M (Option Int) := M.ret none
def mpSome (m : M D) : M (Option Int) := m.bind fun d => M.lift (match d with
  | .int i => some (some i)
  | _ => none)
theorem ep_none {W : WX} : Ep K W tNoPart mpNone := by
  intro C hK hW al F H σ δ S _ r hr Q hok hex
  cases hr
  exact hok _ δ rfl al F H _ (Same.refl _) S rfl
theorem ep_some {W : WX} {te : TE} {m : M D} (h : Ev K W te m) : Ep K W (tPart te) (mpSome m) := by
  refine J.bind (t2 := fun (x : V) (_ : St) (H : Hp) (Q : Option Int → Hp → Prop) => ∃ i, x = V.int i ∧ Q (some i) H) h monoT fun d v => ?_
  intro C hK hW al F H σ δ S hp r hr Q hok hex
  obtain ⟨b, h2, rfl⟩ := lift_some hr
  cases d with
  | int i =>
    cases h2
    have hv : Rep K F (.int i) v := hp.2
    exact ⟨i, Rep.int_iff.mp hv, hok _ δ rfl al F H _ (Same.refl _) S rfl⟩
  | _ => cases h2
def mSl (f : D → Option Int → Option Int → Option D) (a : M Op) (l u : M (Option Int)) : M D := a.bind fun o => l.bind fun lo => u.bind fun hi => (mRd o).bind fun d => M.lift (f d lo hi)
theorem monoPt : MonoR relP := fun _ _ _ _ _ _ h => h
theorem ev_sl {W : WX} {r : V → Option Int → Option Int → Hp → VK → Prop} {f : D → Option Int → Option Int → Option D} {te : TE} {tl th : TO} {a : M Op} {l u : M (Option Int)} (p : PrimSl K r f) (ha : Eo K W te a) (hl : Ep K W tl l) (hu : Ep K W th u) : Ev K W (tSl r te tl th) (mSl f a l u) := by
  refine J.bind (t2 := fun x σ H Q => tl σ H fun l H2 => th σ H2 fun u H3 => r x l u H3 Q) ha monoT fun o v => ?_
  refine J.bind (t2 := fun l σ H Q => th σ H fun u H3 => r v l u H3 Q) (hl.wk fun _ _ _ => trivial) (monoT.and monoO.at) fun lo lo' => ?_
  refine J.bind (t2 := fun u σ H Q => r v lo' u H Q) (hu.wk fun _ _ _ => trivial) ((monoT.and monoO.at).and monoPt.at) fun hi hi' => ?_
  intro C hK hW al F H σ δ S hp r' hr Q hok hex
  subst hK
  obtain ⟨d, h1, hr⟩ := rd_bind hr
  obtain ⟨z, h3, rfl⟩ := lift_some hr
  have e1 : lo' = lo := hp.1.2
  have e2 : hi' = hi := hp.2
  subst e1 e2
  exact p F H v d lo' hi' z S.fh (S.opd hp.1.1.2 h1) h3 Q fun F' H' u n ru => hok z δ rfl al F' H' u n.ff (S.new n) ru
/-! ### list(), tuple() -/
def rListOf (K : Fg) : List V → Hp → VK → Prop := fun xs H Q => ∃ p ys, xs = [V.ref p] ∧ (SqL K H p ys ∨ SqT K H p ys) ∧ ∀ l, H l = none → Q (.ref l) (upd H l (.lst ys))
def listD : D → Option (List D)
  | .lst ds => some ds
  | .tup ds => some ds
  | _ => none
theorem prim_list : PrimNA K (rListOf K) (fN1 listD) := primN1 fun F H v d es fh hv hf Q k => by
  cases d with
  | lst ds =>
    cases hf
    obtain ⟨a, vs, rfl, g1, g2, g3⟩ := hv.lst fh
    exact ⟨a, vs, rfl, Or.inl (Or.inl (Or.inl g1)), fun l hl => k l _ vs hl (same_upd hl) upd_same g2 g3⟩
  | tup ds =>
    cases hf
    obtain ⟨a, vs, rfl, g1, g2, g3⟩ := hv.tup
    exact ⟨a, vs, rfl, Or.inr (same_t fh g1.sq), fun l hl => k l _ vs hl (same_upd hl) upd_same g2 g3⟩
  | _ => cases hf
/-- tuple(xs): a new tuple, its object known; of a tuple itself -/
def rTupOf (K : Fg) : List V → Hp → VK → Prop := fun xs H Q => ∃ p ys, xs = [V.ref p] ∧ ((SqL K H p ys ∧ ∀ l o, H l = none → Obj.dict o = none → Q (.ref l) (upd H l (.frz o (.tup ys)))) ∨ (SqT K H p ys ∧ Q (.ref p) H))
theorem call_tupleZ {X : Cx} : CallR X (.type "tuple") (rTupOf X.K) := by
  intro pins s σ H xs us Q I r h
  obtain ⟨p, ys, rfl, h⟩ := h
  rcases h with ⟨hq, q⟩ | ⟨hq, q⟩
  · obtain ⟨u, rfl, rx⟩ := vals1 r
    cases rx
    obtain ⟨ws, r', pl, hz⟩ := I.list hq
    have hlen := r'.length
    refine call_tuple_list pl.isList (fun h' kp => ?_) (by simp only [List.size_toArray] <;> omega)
    have I1 : Inv X pins σ H { s with heap := h' } := I.kept (t' := s.toks) kp
    exact ⟨.ref h'.objs.size, upd H h'.objs.size (.frz { cls := .type "tuple", data := .seq ws.toArray } (.tup ys)), I1.laid (t' := s.toks) (fun b o e => Heap.get?_push_of_some _ e) (Nat.le_refl _) ⟨Heap.get?_push_size _ rfl, hz, ws, r', PyProof.Rows.IsTup.new _ _⟩, rfl, q _ _ (I1.hok.fresh (Nat.le_refl _)) rfl⟩
  · exact call_tuple_of pins s σ H _ us Q I r ⟨p, ys, rfl, Or.inr ⟨hq, q⟩⟩
def tupD : D → Option D
  | .lst ds => some (.tup ds)
  | .tup ds => some (.tup ds)
  | _ => none
theorem prim_tup : PrimA K (rTupOf K) (fA1 tupD) := primA1 fun F H v d e fh hv hf Q k => by
  cases d with
  | lst ds =>
    cases hf
    obtain ⟨a, vs, rfl, g1, g2, g3⟩ := hv.lst fh
    refine ⟨a, vs, rfl, Or.inl ⟨Or.inl (Or.inl g1), fun l o hl ho => ?_⟩⟩
    obtain ⟨n, hr⟩ := newT (K := K) fh hl ho g2 g3
    exact k _ _ _ n hr
  | tup ds =>
    cases hf
    obtain ⟨a, vs, rfl, g1, g2, g3⟩ := hv.tup
    exact ⟨a, vs, rfl, Or.inr ⟨same_t fh g1.sq, k F H _ (New.refl fh) (Rep.tup_iff.mpr ⟨a, vs, rfl, g1, g2, g3⟩)⟩⟩
  | _ => cases hf
/-! ### all, any, abs, int, max, min of two numbers -/
def blsOf : List D → Option (List Bool)
  | [] => some []
  | .bl b :: r => (blsOf r).map (b :: ·)
  | _ => none
theorem bls_reps {F : Hp} : ∀ {ds : List D} {bs : List Bool} {vs : List V}, blsOf ds = some bs → Reps K F ds vs → vs = bs.map V.bl
  | [], bs, vs, h, r => by cases h; rw [r.inv0]; rfl
  | .bl b :: ds, bs, vs, h, r => by
    simp only [blsOf] at h
    cases e : blsOf ds with
    | none => rw [e] at h; cases h
    | some cs =>
      rw [e] at h
      cases h
      obtain ⟨v, us, rfl, r1, r2⟩ := r.inv
      rw [Rep.bl_iff.mp r1, bls_reps e r2]
      rfl
def allD : D → Option D
  | .lst ds => (blsOf ds).map fun bs => D.bl (bs.all id)
  | _ => none
theorem prim_all : PrimA K (rAll K) (fA1 allD) := primA1 fun F H v d e fh hv hf Q k => by
  cases d with
  | lst ds =>
    have hf : (blsOf ds).map (fun bs => D.bl (bs.all id)) = some e := hf
    obtain ⟨a, vs, rfl, g1, g2, g3⟩ := hv.lst fh
    cases e1 : blsOf ds with
    | none => rw [e1] at hf; cases hf
    | some bs =>
      rw [e1] at hf
      cases hf
      exact ⟨a, bs, rfl, Or.inl (Or.inl (by rw [← bls_reps e1 g3]; exact g1)), k F H _ (New.refl fh) (Rep.bl_iff.mpr rfl)⟩
  | _ => cases hf
def absD : D → Option D
  | .int i => some (.int (if i < 0 then -i else i))
  | _ => none
theorem prim_abs : PrimA K (fun xs H Q => ∃ i, xs = [V.int i] ∧ Q (.int (if i < 0 then -i else i)) H) (fA1 absD) := primA1 fun F H v d e fh hv hf Q k => by
  cases d with
  | int i =>
    cases hf
    exact ⟨i, by rw [hv.int], k F H _ (New.refl fh) (Rep.int_iff.mpr rfl)⟩
  | _ => cases hf
def intD : D → Option D
  | .int i => some (.int i)
  | .bl b => some (.int (if b then 1 else 0))
  | _ => none
theorem prim_int : PrimA K (fun xs H Q => (∃ i, xs = [V.int i] ∧ Q (.int i) H) ∨ ∃ k, xs = [V.bl k] ∧ Q (.int (if k then 1 else 0)) H) (fA1 intD) := primA1 fun F H v d e fh hv hf Q k => by
  cases d with
  | int i =>
    cases hf
    exact Or.inl ⟨i, by rw [hv.int], k F H _ (New.refl fh) (Rep.int_iff.mpr rfl)⟩
  | bl b =>
    cases hf
    exact Or.inr ⟨b, by rw [hv.bl], k F H _ (New.refl fh) (Rep.int_iff.mpr rfl)⟩
  | _ => cases hf
/-! ### a sign in a text -/
def inSignD (neg : Bool) : D → D → Option D
  | .str x, .str z => match x.cps.toList with
    | [c] => some (.bl (xor neg (decide (c ∈ z.cps.toList))))
    | _ => none
  | _, _ => none
def rInSign : R2 := fun x y H Q => ∃ (c : Nat) (z : Str), x = .str ⟨#[c]⟩ ∧ y = .str z ∧ Q (.bl (decide (c ∈ z.cps.toList))) H
theorem str_one {x : Str} {c : Nat} (h : x.cps.toList = [c]) : x = ⟨#[c]⟩ := by
  cases x with
  | mk a =>
    have : a = #[c] := by
      apply Array.ext'
      exact h
    rw [this]
theorem prim_inSign : Prim2 K rInSign (inSignD false) := by
  intro F H v w d e z fh hv hw hf Q k
  cases d with
  | str x =>
    cases e with
    | str y =>
      unfold inSignD at hf
      cases h : x.cps.toList with
      | nil => simp only [h] at hf; cases hf
      | cons c r =>
        cases r with
        | cons c2 r2 => simp only [h] at hf; cases hf
        | nil =>
          simp only [h] at hf
          have hx := str_one h
          subst hx
          cases hf
          refine ⟨c, y, hv.str, hw.str, k F H _ (New.refl fh) (Rep.bl_iff.mpr ?_)⟩
          rw [Bool.false_xor]
    | _ => cases hf
  | _ => cases hf
/-! ### dicts -/
def keyD : D → Option Key
  | .int i => some (Sum.inl i)
  | .str x => some (Sum.inr x)
  | _ => none
theorem keyD_v {F H : Hp} {v : V} {d : D} {k : Key} (h : keyD d = some k) (hv : RepR K F H v d) : v = kV k := by
  cases d with
  | int i => cases h; exact hv.int
  | str x => cases h; exact hv.str
  | _ => cases h
def lookK : List Key → List D → Key → Option D
  | k :: ks, d :: ds, q => if k = q then some d else lookK ks ds q
  | _, _, _ => none
theorem lookK_val {F : Hp} : ∀ {ks : List Key} {ds : List D} {vs : List V} {q : Key}, Reps K F ds vs → ks.length = ds.length → (lookK ks ds q = none ∧ valV (ks.zip vs) q = none) ∨ ∃ d v, lookK ks ds q = some d ∧ valV (ks.zip vs) q = some v ∧ Rep K F d v
  | [], [], vs, q, r, _ => Or.inl ⟨rfl, rfl⟩
  | [], d :: ds, vs, q, r, h => by simp at h
  | k :: ks, [], vs, q, r, h => by simp at h
  | k :: ks, d :: ds, vs, q, r, h => by
    obtain ⟨v, us, rfl, r1, r2⟩ := r.inv
    by_cases e : k = q
    · refine Or.inr ⟨d, v, by simp [lookK, e], ?_, r1⟩
      rw [List.zip_cons_cons]
      exact valV_pos e
    · rcases lookK_val (q := q) r2 (by simpa using h) with ⟨h1, h2⟩ | ⟨d', v', h1, h2, h3⟩
      · refine Or.inl ⟨by simp [lookK, e, h1], ?_⟩
        rw [List.zip_cons_cons, valV_neg (by simpa using e)]
        exact h2
      · refine Or.inr ⟨d', v', by simp [lookK, e, h1], ?_, h3⟩
        rw [List.zip_cons_cons, valV_neg (by simpa using e)]
        exact h2
def rDGet : R2 := fun x y H Q => ∃ a v, x = .ref a ∧ DGet H a y (some v) ∧ Q v H
def dgetD : D → D → Option D
  | .dk ks ds, e => match keyD e with
    | some k => lookK ks ds k
    | none => none
  | _, _ => none
theorem prim_dget : Prim2 K rDGet dgetD := by
  intro F H v w d e z fh hv hw hf Q k
  cases d with
  | dk ks ds =>
    obtain ⟨a, vs, rfl, g1, g2, g3, g4⟩ := hv.dk fh
    unfold dgetD at hf
    cases hk : keyD e with
    | none => simp only [hk] at hf; cases hf
    | some q =>
      simp only [hk] at hf
      rcases lookK_val (q := q) g4 g2 with ⟨h1, h2⟩ | ⟨d', v', h1, h2, h3⟩
      · rw [h1] at hf; cases hf
      · rw [h1] at hf
        cases hf
        exact ⟨a, v', rfl, Or.inl ⟨_, q, g1, keyD_v hk hw, h2.symm⟩, k F H _ (New.refl fh) h3⟩
  | _ => cases hf
def rDInB (neg : Bool) : R2 := fun y x H Q => ∃ a o, x = .ref a ∧ DGet H a y o ∧ Q (.bl (xor neg o.isSome)) H
def dinD (neg : Bool) : D → D → Option D
  | e, .dk ks ds => match keyD e with
    | some k => some (.bl (xor neg (lookK ks ds k).isSome))
    | none => none
  | _, _ => none
theorem prim_din {neg : Bool} : Prim2 K (rDInB neg) (dinD neg) := by
  intro F H v w d e z fh hv hw hf Q k
  cases e with
  | dk ks ds =>
    obtain ⟨a, vs, rfl, g1, g2, g3, g4⟩ := hw.dk fh
    unfold dinD at hf
    cases hk : keyD d with
    | none => simp only [hk] at hf; cases hf
    | some q =>
      simp only [hk] at hf
      cases hf
      rcases lookK_val (q := q) g4 g2 with ⟨h1, h2⟩ | ⟨d', v', h1, h2, h3⟩
      · exact ⟨a, none, rfl, Or.inl ⟨_, q, g1, keyD_v hk hv, h2.symm⟩, k F H _ (New.refl fh) (Rep.bl_iff.mpr (by rw [h1] <;> rfl))⟩
      · exact ⟨a, some v', rfl, Or.inl ⟨_, q, g1, keyD_v hk hv, h2.symm⟩, k F H _ (New.refl fh) (Rep.bl_iff.mpr (by rw [h1] <;> rfl))⟩
  | _ => cases d <;> cases hf
/-- dict(list of pairs) -/
def pairOf : D → Option (Key × D)
  | .tup [a, b] => (keyD a).map fun k => (k, b)
  | _ => none
def pairsOf : List D → Option (List (Key × D))
  | [] => some []
  | d :: ds => match pairOf d, pairsOf ds with
    | some p, some ps => some (p :: ps)
    | _, _ => none
def putD (ks : List Key) (ds : List D) (k : Key) (d : D) : List Key × List D :=
  if (ks.any fun q => decide (q = k)) = true then (ks, (ks.zip ds).map fun p => if p.1 = k then d else p.2) else (ks ++ [k], ds ++ [d])
def mergeD : List (Key × D) → List Key × List D → List Key × List D
  | [], s => s
  | p :: ps, s => mergeD ps (putD s.1 s.2 p.1 p.2)
def dictD : D → Option D
  | .lst ds => match pairsOf ds with
    | some ps => some (.dk (mergeD ps ([], [])).1 (mergeD ps ([], [])).2)
    | none => none
  | _ => none
theorem putD_len {ks : List Key} {ds : List D} {k : Key} {d : D} (h : ks.length = ds.length) : (putD ks ds k d).1.length = (putD ks ds k d).2.length ∧ (putD ks ds k d).2.length ≤ ds.length + 1 := by
  unfold putD
  split
  · rw [List.length_map, List.length_zip, h, Nat.min_self]
    exact ⟨rfl, Nat.le_succ _⟩
  · rw [List.length_append, List.length_append, h]
    exact ⟨rfl, Nat.le_refl _⟩
theorem putD_reps {F : Hp} {k : Key} {d : D} {v : V} (hv : Rep K F d v) {ks : List Key} {ds : List D} {vs : List V} (r : Reps K F ds vs) (hl : ks.length = ds.length) : ∃ us, putK (ks.zip vs) k v = (putD ks ds k d).1.zip us ∧ Reps K F (putD ks ds k d).2 us := by
  have any_iff : ((ks.zip vs).any fun kv => decide (kv.1 = k)) = true ↔ (ks.any fun q => decide (q = k)) = true := by
    rw [List.any_eq_true, List.any_eq_true]
    constructor
    · rintro ⟨p, hp, e⟩
      exact ⟨p.1, (List.of_mem_zip hp).1, e⟩
    · rintro ⟨q, hk, e0⟩
      have e1 : q = k := by simpa using e0
      subst e1
      obtain ⟨i, hi, e⟩ := List.mem_iff_getElem.mp hk
      have lv : i < vs.length := by rw [r.len, ← hl]; exact hi
      refine ⟨(ks[i], vs[i]), ?_, by simpa using e⟩
      rw [List.mem_iff_getElem]
      exact ⟨i, by rw [List.length_zip]; omega, by rw [List.getElem_zip]⟩
  unfold putK putD
  by_cases hk : (ks.any fun q => decide (q = k)) = true
  · rw [if_pos (any_iff.mpr hk), if_pos hk]
    have h : ∀ (ks : List Key) (ds : List D) (vs : List V), Reps K F ds vs → ks.length = ds.length → ∃ us, (ks.zip vs).map (fun kv => if kv.1 = k then (kv.1, v) else kv) = ks.zip us ∧ Reps K F ((ks.zip ds).map fun p => if p.1 = k then d else p.2) us := by
      intro ks
      induction ks with
      | nil =>
        intro ds vs r hl
        cases ds with
        | nil => exact ⟨[], by simp, reps_nil⟩
        | cons x xs => simp at hl
      | cons a ks ih =>
        intro ds vs r hl
        cases ds with
        | nil => simp at hl
        | cons x xs =>
          obtain ⟨y, ys, rfl, r1, r2⟩ := r.inv
          obtain ⟨us, h1, h2⟩ := ih xs ys r2 (by simpa using hl)
          by_cases e : a = k
          · refine ⟨v :: us, ?_, ?_⟩
            · rw [List.zip_cons_cons, List.map_cons, h1, List.zip_cons_cons]
              simp [e]
            · rw [List.zip_cons_cons, List.map_cons]
              simp only [e, if_true]
              exact reps_cons hv h2
          · refine ⟨y :: us, ?_, ?_⟩
            · rw [List.zip_cons_cons, List.map_cons, h1, List.zip_cons_cons]
              simp [e]
            · rw [List.zip_cons_cons, List.map_cons]
              simp only [e, if_false]
              exact reps_cons r1 h2
    exact h ks ds vs r hl
  · rw [if_neg (fun z => hk (any_iff.mp z)), if_neg hk]
    refine ⟨vs ++ [v], ?_, r.app (reps_cons hv reps_nil)⟩
    rw [List.zip_append (by rw [r.len, hl])]
    rfl
theorem mergeD_reps {F : Hp} : ∀ {ps : List (Key × D)} {kvs : List (Key × V)} {s : List Key × List D} {us : List V}, Paired (fun (p : Key × D) (q : Key × V) => p.1 = q.1 ∧ Rep K F p.2 q.2) ps kvs → s.1.length = s.2.length → Reps K F s.2 us →
    (mergeD ps s).1.length = (mergeD ps s).2.length ∧ (mergeD ps s).2.length ≤ s.2.length + ps.length ∧ ∃ ws, mergeK (s.1.zip us) kvs = (mergeD ps s).1.zip ws ∧ Reps K F (mergeD ps s).2 ws
  | _, _, s, us, .nil, hl, r => ⟨hl, Nat.le_refl _, us, rfl, r⟩
  | p :: ps, q :: qs, s, us, .cons h t, hl, r => by
    obtain ⟨l1, l2⟩ := putD_len (k := p.1) (d := p.2) hl
    obtain ⟨ws, e1, e2⟩ := putD_reps h.2 (k := p.1) r hl
    obtain ⟨h1, h2, zs, h3, h4⟩ := mergeD_reps (s := putD s.1 s.2 p.1 p.2) t l1 e2
    refine ⟨h1, by have : (p :: ps).length = ps.length + 1 := rfl; rw [this]; show (mergeD ps (putD s.1 s.2 p.1 p.2)).2.length ≤ _; omega, zs, ?_, h4⟩
    show mergeK (putK (s.1.zip us) q.1 q.2) qs = _
    rw [← h.1, e1]
    exact h3
def rDictP (K : Fg) : List V → Hp → VK → Prop := fun xs H Q => ∃ (a : Addr) (ps : List Addr) (kvs : List (Key × V)), xs = [V.ref a] ∧ SqL K H a (ps.map V.ref) ∧ Paired (fun p kv => SqT K H p [kV kv.1, kv.2]) ps kvs ∧ ∀ p, H p = none → Q (.ref p) (upd H p (.dK (mergeK [] kvs)))
theorem pairs_reps {F H : Hp} (fh : Same F H) : ∀ {ds : List D} {ps : List (Key × D)} {vs : List V}, pairsOf ds = some ps → Reps K F ds vs → ∃ (as : List Addr) (kvs : List (Key × V)), vs = as.map V.ref ∧ Paired (fun p kv => SqT K H p [kV kv.1, kv.2]) as kvs ∧ Paired (fun (p : Key × D) (q : Key × V) => p.1 = q.1 ∧ Rep K F p.2 q.2) ps kvs
  | [], ps, vs, h, r => by
    cases h
    rw [r.inv0]
    exact ⟨[], [], rfl, .nil, .nil⟩
  | d :: ds, ps, vs, h, r => by
    obtain ⟨v, us, rfl, r1, r2⟩ := r.inv
    simp only [pairsOf] at h
    cases e1 : pairOf d with
    | none => simp only [e1] at h; cases h
    | some p =>
      cases e2 : pairsOf ds with
      | none => simp only [e1, e2] at h; cases h
      | some qs =>
        simp only [e1, e2] at h
        cases h
        obtain ⟨as, kvs, g1, g2, g3⟩ := pairs_reps fh e2 r2
        match d, e1, r1 with
        | .tup [x, y], e1, r1 =>
          simp only [pairOf] at e1
          cases hk : keyD x with
          | none => rw [hk] at e1; cases e1
          | some k =>
            rw [hk] at e1
            cases e1
            obtain ⟨a, ws, rfl, t1, t2, t3⟩ := Rep.tup_iff.mp r1
            obtain ⟨vx, wx, rfl, s1, s2⟩ := t3.inv
            obtain ⟨vy, wy, rfl, s3, s4⟩ := s2.inv
            cases s4.inv0
            have hx : vx = kV k := keyD_v (F := F) (H := H) hk (Or.inl s1)
            rw [hx] at t1
            exact ⟨a :: as, (k, vy) :: kvs, by rw [g1]; rfl, .cons (same_t fh t1.sq) g2, .cons ⟨rfl, s3⟩ g3⟩
theorem pairsOf_len : ∀ {ds : List D} {ps : List (Key × D)}, pairsOf ds = some ps → ps.length = ds.length
  | [], ps, h => by cases h; rfl
  | d :: ds, ps, h => by
    simp only [pairsOf] at h
    cases e1 : pairOf d with
    | none => simp only [e1] at h; cases h
    | some p =>
      cases e2 : pairsOf ds with
      | none => simp only [e1, e2] at h; cases h
      | some qs => simp only [e1, e2] at h; cases h; simp [pairsOf_len e2]
theorem prim_dict : PrimA K (rDictP K) (fA1 dictD) := primA1 fun F H v d e fh hv hf Q k => by
  cases d with
  | lst ds =>
    obtain ⟨a, vs, rfl, g1, g2, g3⟩ := hv.lst fh
    simp only [dictD] at hf
    cases e1 : pairsOf ds with
    | none => simp only [e1] at hf; cases hf
    | some ps =>
      simp only [e1] at hf
      cases hf
      obtain ⟨as, kvs, h1, h2, h3⟩ := pairs_reps fh e1 g3
      obtain ⟨m1, m2, ws, m3, m4⟩ := mergeD_reps (s := ([], [])) h3 rfl (K := K) (F := F) (us := []) reps_nil
      have pl := pairsOf_len e1
      refine ⟨a, as, kvs, rfl, Or.inl (Or.inl (by rw [← h1]; exact g1)), h2, fun p hp => ?_⟩
      have m3' : mergeK [] kvs = (mergeD ps ([], [])).1.zip ws := m3
      rw [m3']
      have n : New F H (upd F p (.dK ((mergeD ps ([], [])).1.zip ws))) (upd H p (.dK ((mergeD ps ([], [])).1.zip ws))) := New.lay fh hp
      have hle : (mergeD ps ([], [])).2.length ≤ ps.length := by simpa using m2
      exact k _ _ _ n (Rep.dk_iff.mpr ⟨p, ws, rfl, Or.inl upd_same, m1, by omega, m4.mono n.ff⟩)
  | _ => cases hf
end
end DL

set_option Elab.async false
set_option linter.all false
set_option maxRecDepth 100000
set_option maxHeartbeats 400000
/-! DLh: own objects changed; objects made; fields. -/
namespace DL
open PySem L2
section
variable {K : Fg} {W : WX}
/-- a method that changes a list of one's own -/
def PrimM (r : V → List V → Hp → VK → Prop) (K : Fg) (f : List D → List D → Option (List D × D)) : Prop := ∀ (F H : Hp) (a : Addr) (ds : List D) (vs : List V) (as : List D) (us : List V) (nw : List D) (res : D),
  Same F H → H a = some (.lst vs) → ds.length ≤ LB → Reps K F ds vs → Reps K F as us → f ds as = some (nw, res) → ∀ Q : VK, (∀ ws u, nw.length ≤ LB → Reps K F nw ws → Rep K F res u → Q u (upd H a (.lst ws))) → r (.ref a) us H Q
def ownL (δ : En) (i : Nat) : Option (Sl × List D) := match δ[i]? with
  | some s => match s.own with
    | some (.lst ds) => some (s, ds)
    | _ => none
  | none => none
theorem ownL_some {δ : En} {i : Nat} {s : Sl} {ds : List D} (h : ownL δ i = some (s, ds)) : δ[i]? = some s ∧ s.own = some (.lst ds) := by
  unfold ownL at h
  cases e : δ[i]? with
  | none => simp only [e] at h; cases h
  | some s' =>
    cases e2 : s'.own with
    | none => simp only [e, e2] at h; cases h
    | some d =>
      cases d with
      | lst es =>
        simp only [e, e2] at h
        cases h
        exact ⟨rfl, e2⟩
      | _ => simp only [e, e2] at h; cases h
def mMut (f : List D → List D → Option (List D × D)) (i : Nat) (a : M (List D)) : M D := fun δ => match ownL δ i with
  | none => none
  | some _ => (a.bind fun as => fun δ1 => match ownL δ1 i with
    | none => none
    | some (s, ds) => match f ds as with
      | none => none
      | some (nw, res) => some (.ok res (δ1.set i (reown s (.lst nw))))) δ
theorem mut_step {r : V → List V → Hp → VK → Prop} {f : List D → List D → Option (List D × D)} (p : PrimM r K f) {C : Cn} (hK : C.K = K) {al : Nat → Addr} {F H : Hp} {σ : St} {δ : En} {i : Nat} {s : Sl} {ds as nw : List D} {us : List V} {res : D} (S : StOk C al F H σ δ)
    (ho : ownL δ i = some (s, ds)) (ra : Reps K F as us) (hf : f ds as = some (nw, res)) {Q : VK} (hok : ∀ H' u, StOk C al F H' σ (δ.set i (reown s (.lst nw))) → Rep K F res u → Q u H') : r (.ref (al i)) us H Q := by
  subst hK
  obtain ⟨h1, h2⟩ := ownL_some ho
  obtain ⟨o1, o2, o3, vs, o4, o5, o6⟩ := S.ow i s _ h1 h2
  refine p F H (al i) ds vs as us nw res S.fh o4 o5 o6 ra hf Q fun ws u hl rw' ru => hok _ u ?_ ru
  exact S.poke1 h1 h2 (reown_own (s := s) (d := .lst nw)) (fun z hz => reown_io hz) ⟨ws, upd_same, hl, rw'⟩
theorem ev_mut {r : V → List V → Hp → VK → Prop} {f : List D → List D → Option (List D × D)} {i : Nat} {ta : TA} {a : M (List D)} (p : PrimM r K f) (ha : Eds K W ta a) : Ev K W (tBM K "list" r (tVar i) ta) (mMut f i a) := by
  intro C hK hW al F H σ δ S _ q hr Q hok hex
  unfold mMut at hr
  cases e0 : ownL δ i with
  | none => simp only [e0] at hr; cases hr
  | some p0 =>
    obtain ⟨s0, ds0⟩ := p0
    simp only [e0] at hr
    obtain ⟨h1, h2⟩ := ownL_some e0
    obtain ⟨o1, o2, o3, vs, o4, o5, o6⟩ := S.ow i s0 _ h1 h2
    refine ⟨_, o1, Or.inl ⟨rfl, vs, Or.inl (Or.inl o4)⟩, ?_⟩
    cases e1 : a δ with
    | none => unfold M.bind at hr; rw [e1] at hr; cases hr
    | some r1 =>
      refine ha C hK hW al F H σ δ S trivial r1 e1 _ (fun as δ1 e2 al1 F1 H1 us s1 S1 rl => ?_) fun x δ1 e2 al1 F1 H1 cls dd s1 S1 xr => ?_
      · subst e2
        rw [M.bind_ok e1] at hr
        cases e3 : ownL δ1 i with
        | none => simp only [e3] at hr; cases hr
        | some p1 =>
          obtain ⟨s, ds⟩ := p1
          cases e4 : f ds as with
          | none => simp only [e3, e4] at hr; cases hr
          | some q2 =>
            obtain ⟨nw, res⟩ := q2
            simp only [e3, e4] at hr
            cases hr
            obtain ⟨g1, g2⟩ := ownL_some e3
            obtain ⟨y1, _⟩ := S1.ow i s _ g1 g2
            have ea : al i = al1 i := by
              rw [o1] at y1
              exact V.ref.inj (Option.some.inj (Option.some.inj y1))
            rw [ea]
            exact mut_step p hK S1 e3 rl e4 fun H' u S' ru => hok res _ rfl al1 F1 H' u s1 S' ru
      · subst e2
        rw [M.bind_ex e1] at hr
        cases hr
        exact hex x δ1 rfl al1 F1 H1 cls dd s1 S1 xr
def mMut0 (f : List D → List D → Option (List D × D)) (i : Nat) : M D := fun δ => match ownL δ i with
  | none => none
  | some (s, ds) => match f ds [] with
    | none => none
    | some (nw, res) => some (.ok res (δ.set i (reown s (.lst nw))))
theorem ev_mut0 {r : V → List V → Hp → VK → Prop} {f : List D → List D → Option (List D × D)} {i : Nat} (p : PrimM r K f) : Ev K W (tBM0 K "list" r (tVar i)) (mMut0 f i) := by
  intro C hK hW al F H σ δ S _ q hr Q hok hex
  unfold mMut0 at hr
  cases e0 : ownL δ i with
  | none => simp only [e0] at hr; cases hr
  | some p0 =>
    obtain ⟨s0, ds0⟩ := p0
    obtain ⟨h1, h2⟩ := ownL_some e0
    obtain ⟨o1, o2, o3, vs, o4, o5, o6⟩ := S.ow i s0 _ h1 h2
    cases e4 : f ds0 [] with
    | none => simp only [e0, e4] at hr; cases hr
    | some q2 =>
      obtain ⟨nw, res⟩ := q2
      simp only [e0, e4] at hr
      cases hr
      exact ⟨_, o1, Or.inl ⟨rfl, vs, Or.inl (Or.inl o4)⟩, mut_step p hK S e0 (reps_nil) e4 fun H' u S' ru => hok res _ rfl al F H' u (Same.refl _) S' ru⟩
def appF : List D → List D → Option (List D × D) := fun ds as => match as with
  | [d] => if ds.length < 1000000 then some (ds ++ [d], .non) else none
  | _ => none
theorem primM_append : PrimM rAppend K appF := by
  intro F H a ds vs as us nw res fh ha hl hr hra hf Q k
  match as, hf with
  | [d], hf =>
    obtain ⟨h1, h2⟩ := if_some (show (if ds.length < 1000000 then some (ds ++ [d], D.non) else none) = some (nw, res) from hf)
    cases h2
    obtain ⟨u, us', rfl, r1, r2⟩ := hra.inv
    cases r2.inv0
    refine ⟨a, vs, u, rfl, rfl, ha, by rw [hr.len]; exact LB_lt (Nat.le_of_lt h1), k _ .non (by rw [List.length_append]; exact h1) (hr.app (reps_cons r1 reps_nil)) (Rep.non_iff.mpr rfl)⟩
def extF : List D → List D → Option (List D × D) := fun ds as => match as with
  | [.lst es] => if ds.length + es.length ≤ 1000000 then some (ds ++ es, .non) else none
  | _ => none
theorem primM_extend : PrimM rExtend K extF := by
  intro F H a ds vs as us nw res fh ha hl hr hra hf Q k
  match as, hf with
  | [.lst es], hf =>
    obtain ⟨h1, h2⟩ := if_some (show (if ds.length + es.length ≤ 1000000 then some (ds ++ es, D.non) else none) = some (nw, res) from hf)
    cases h2
    obtain ⟨u, us', rfl, r1, r2⟩ := hra.inv
    cases r2.inv0
    obtain ⟨b, ws, rfl, g1, g2, g3⟩ := Rep.lst_iff.mp r1
    exact ⟨a, b, vs, ws, rfl, rfl, ha, fh _ _ g1, by rw [hr.len, g3.len]; exact LB_size h1, k _ .non (by rw [List.length_append]; exact h1) (hr.app g3) (Rep.non_iff.mpr rfl)⟩
def revF : List D → List D → Option (List D × D) := fun ds as => match as with
  | [] => some (ds.reverse, .non)
  | _ => none
theorem primM_reverse : PrimM rReverse K revF := by
  intro F H a ds vs as us nw res fh ha hl hr hra hf Q k
  match as, hf with
  | [], hf =>
    cases hf
    cases hra.inv0
    exact ⟨a, vs, rfl, rfl, ha, k _ .non (by rw [List.length_reverse]; exact hl) hr.rev (Rep.non_iff.mpr rfl)⟩
/-! ### x[i] = e -/
/-- the slot's value, looked at before the place is reckoned -/
def mHas (i : Nat) (m : Ms) : Ms := fun δ => match ownL δ i with
  | some _ => m δ
  | none => none
theorem es_setI {i : Nat} {te ti : TE} {ix v : M D} (hv : Ev K W te v) (hi : Ev K W ti ix) : Es K W (tAsg te (gSub (tVar i) ti rSetL)) (mS v fun d => mHas i (mS ix fun j => fun δ => match j with
    | .int n => match ownL δ i with
      | some (s, ds) => match ixN ds.length n with
        | some m => some (.nx (δ.set i (reown s (.lst (ds.set m d)))))
        | none => none
      | none => none
    | _ => none)) := by
  refine es_of (u := fun (v : V) Z σ H => gSub (tVar i) ti rSetL v σ H Z.nx) hv fun d v C hK hW al F H σ δ S rl o ho Z hZ => ?_
  unfold mHas at ho
  cases e0 : ownL δ i with
  | none => simp only [e0] at ho; cases ho
  | some p0 =>
    obtain ⟨s0, ds0⟩ := p0
    simp only [e0] at ho
    obtain ⟨h1, h2⟩ := ownL_some e0
    obtain ⟨o1, o2, o3, o4⟩ := S.ow i s0 _ h1 h2
    refine ⟨_, o1, ?_⟩
    cases e : ix δ with
    | none => unfold mS at ho; rw [e] at ho; cases ho
    | some r =>
      refine hi C hK hW al F H σ δ S trivial r e _ (fun j δ1 e1 al1 F1 H1 w s1 S1 rj => ?_) fun x δ1 e1 al1 F1 H1 cls dd s1 S1 xr => ?_
      · subst e1
        unfold mS at ho
        rw [e] at ho
        cases j with
        | int n =>
          cases e2 : ownL δ1 i with
          | none => simp only [e2] at ho; cases ho
          | some p1 =>
            obtain ⟨s, ds⟩ := p1
            cases e3 : ixN ds.length n with
            | none => simp only [e2, e3] at ho; cases ho
            | some m =>
              simp only [e2, e3] at ho
              cases ho
              subst hK
              obtain ⟨g1, g2⟩ := ownL_some e2
              obtain ⟨y1, y2, y3, vs, y4, y5, y6⟩ := S1.ow i s _ g1 g2
              have ea : al i = al1 i := by
                rw [o1] at y1
                exact V.ref.inj (Option.some.inj (Option.some.inj y1))
              have rd : Rep C.K F d v := rl
              refine ⟨al i, vs, n, m, rfl, Rep.int_iff.mp rj, by rw [ea]; exact y4, by rw [y6.len]; exact e3, ?_⟩
              rw [ea]
              refine hZ al1 F1 _ σ s1 ?_
              exact S1.poke1 g1 g2 (reown_own (s := s) (d := .lst (ds.set m d))) (fun z hz => reown_io hz) ⟨vs.set m v, upd_same, by rw [List.length_set]; exact y5, y6.set (rd.mono s1) m⟩
        | _ => cases ho
      · subst e1
        unfold mS at ho
        rw [e] at ho
        cases ho
        subst hK
        rw [← hW] at *
        exact hZ al1 F1 H1 σ cls dd s1 S1 xr
/-! ### fields -/
structure ClsOk (K : Fg) (C : Addr) (f : Str) : Prop where
  cl : Cls K C
  na : NoAttr K C f
def lookF : List Str → List D → Str → Option D
  | n :: ns, d :: ds, f => if n = f then some d else lookF ns ds f
  | _, _, _ => none
theorem lookF_rep {F : Hp} : ∀ {ns : List Str} {ds : List D} {vs : List V} {f : Str} {d : D}, Reps K F ds vs → lookF ns ds f = some d → ∃ v, (ns.zip vs).lookup f = some v ∧ Rep K F d v
  | [], ds, vs, f, d, r, h => by simp [lookF] at h
  | n :: ns, [], vs, f, d, r, h => by simp [lookF] at h
  | n :: ns, x :: ds, vs, f, d, r, h => by
    obtain ⟨v, us, rfl, r1, r2⟩ := r.inv
    by_cases e : n = f
    · simp only [lookF, e, if_true] at h
      cases h
      refine ⟨v, ?_, r1⟩
      rw [List.zip_cons_cons, List.lookup, e]
      simp
    · simp only [lookF, e, if_false] at h
      obtain ⟨u, h1, h2⟩ := lookF_rep r2 h
      refine ⟨u, ?_, h2⟩
      have : (f == n) = false := by simpa using fun z : f = n => e z.symm
      rw [List.zip_cons_cons, List.lookup, this]
      exact h1
/-- e.f, e an instance of one of the classes Cs -/
def fldD (Cs : List Addr) (f : Str) : D → Option D
  | .ins C ns ds => if (Cs.any fun c => c == C) = true then lookF ns ds f else none
  | _ => none
theorem prim_fld {Cs : List Addr} {f : Str} (h : ∀ C ∈ Cs, ClsOk K C f) : Prim1 K (fun x H Q => ∃ a C dx fs v, x = .ref a ∧ H a = some (.ins C dx fs) ∧ Cls K C ∧ NoAttr K C f ∧ fs.lookup f = some v ∧ Q v H) (fldD Cs f) := by
  intro F H v d e fh hv hf Q k
  cases d with
  | ins C ns ds =>
    have hf2 : (if (Cs.any fun c => c == C) = true then lookF ns ds f else none) = some e := hf
    by_cases hc : (Cs.any fun c => c == C) = true
    · rw [if_pos hc] at hf2
      obtain ⟨c, hm, he⟩ := List.any_eq_true.mp hc
      have hcC : c = C := by simpa using he
      subst hcC
      obtain ⟨a, dx, vs, rfl, g1, g2, g3⟩ := hv.ins fh
      obtain ⟨u, h1, h2⟩ := lookF_rep g3 hf2
      exact ⟨a, c, dx, _, u, rfl, g1, (h c hm).cl, (h c hm).na, h1, k F H _ (New.refl fh) h2⟩
    · rw [if_neg hc] at hf2; cases hf2
  | _ => cases hf
theorem ev_fld {Cs : List Addr} {f : Str} {te : TE} {a : M Op} (h : ∀ C ∈ Cs, ClsOk K C f) (ha : Eo K W te a) : Ev K W (tFld K te f) (m1 (fldD Cs f) a) := ev_1 (r := fun x H Q => ∃ a C dx fs v, x = .ref a ∧ H a = some (.ins C dx fs) ∧ Cls K C ∧ NoAttr K C f ∧ fs.lookup f = some v ∧ Q v H) (prim_fld h) ha
/-- self.f = e, f new -/
def ownI (δ : En) (i : Nat) : Option (Sl × Addr × List Str × List D) := match δ[i]? with
  | some s => match s.own with
    | some (.ins C ns ds) => some (s, C, ns, ds)
    | _ => none
  | none => none
def mSetF (C : Addr) (i : Nat) (f : Str) (m : M D) : Ms := mS m fun d => fun δ => match ownI δ i with
  | some (s, C', ns, ds) => if C' = C ∧ ns.length < 100 ∧ f ∉ ns then some (.nx (δ.set i (reown s (.ins C (ns ++ [f]) (ds ++ [d]))))) else none
  | none => none
theorem ownI_some {δ : En} {i : Nat} {s : Sl} {C : Addr} {ns : List Str} {ds : List D} (h : ownI δ i = some (s, C, ns, ds)) : δ[i]? = some s ∧ s.own = some (.ins C ns ds) := by
  unfold ownI at h
  cases e : δ[i]? with
  | none => simp only [e] at h; cases h
  | some s' =>
    cases e2 : s'.own with
    | none => simp only [e, e2] at h; cases h
    | some d =>
      cases d with
      | ins C ns ds =>
        simp only [e, e2] at h
        cases h
        exact ⟨rfl, e2⟩
      | _ => simp only [e, e2] at h; cases h
theorem putF_new {f : Str} {v : V} : ∀ {ns : List Str} {vs : List V}, f ∉ ns → ns.length = vs.length → putF f v (ns.zip vs) = (ns ++ [f]).zip (vs ++ [v])
  | [], [], _, _ => rfl
  | n :: ns, u :: vs, h, hl => by
    have hn : ¬ n = f := fun z => h (by simp [z])
    rw [List.zip_cons_cons]
    show (if n = f then (n, v) :: ns.zip vs else (n, u) :: putF f v (ns.zip vs)) = _
    rw [if_neg hn, putF_new (fun z => h (by simp [z])) (by simpa using hl)]
    rfl
  | [], u :: vs, h, hl => by simp at hl
  | n :: ns, [], h, hl => by simp at hl
theorem es_setF {C : Addr} {i : Nat} {f : Str} {tv : TE} {m : M D} (hC : ClsOk K C f) (hv : Ev K W tv m) : Es K W (sFld K (tVar i) tv f) (mSetF C i f m) := by
  refine es_of (u := fun (y : V) Z σ H => tVar i σ H fun x H2 => ∃ a C dx fs, x = .ref a ∧ H2 a = some (.ins C dx fs) ∧ Cls K C ∧ NoAttr K C f ∧ fs.length < 1000 ∧ Z.nx σ (upd H2 a (.ins C dx (putF f y fs)))) hv fun d v C' hK hW al F H σ δ S rl o ho Z hZ => ?_
  cases e : ownI δ i with
  | none => simp only [e] at ho; cases ho
  | some p =>
    obtain ⟨s, C2, ns, ds⟩ := p
    simp only [e] at ho
    obtain ⟨⟨hc, hl, hn⟩, rfl⟩ := if_some ho
    subst hc
    obtain ⟨h1, h2⟩ := ownI_some e
    subst hK
    obtain ⟨o1, o2, o3, dx, vs, o4, o5, o6⟩ := S.ow i s _ h1 h2
    have lv : vs.length = ns.length := by rw [o6.len, o5]
    refine ⟨_, o1, al i, C2, dx, _, rfl, o4, hC.cl, hC.na, by rw [List.length_zip]; omega, ?_⟩
    rw [putF_new hn lv.symm]
    refine hZ al F _ σ (Same.refl _) ?_
    have rd : Rep C'.K F d v := rl
    exact S.poke1 h1 h2 (reown_own (s := s)) (fun z hz => reown_io hz) ⟨dx, vs ++ [v], upd_same, by rw [List.length_append, List.length_append, o5] <;> rfl, o6.app (reps_cons rd reps_nil)⟩
/-! ### C(..) -/
def mMake (C : Addr) (ks : List PK) (f : List D → Option (R D)) (a : M (List Op)) : M D := a.bind fun os => (mRds os).bind fun ds => fun δ => if frOk ks os then match f (.ins C [] [] :: ds) with
  | some (.ok .non δ') => match δ'[(0 : Nat)]? with
    | some (Sl.io (.ins C' ns es)) => some (.ok (.ins C' ns es) δ)
    | _ => none
  | some (.ex x _) => some (.ex x δ)
  | _ => none else none
theorem en_make {C : Addr} {ks : List PK} {f : List D → Option (R D)} {a : M (List Op)} {ta : TA} {E : XK} (ha : Ea K W ta a) (hW : (∀ cls dd σ H, W cls dd σ H → E cls dd H) ∨ NoEx f) : En1 K W (tMake C (SpD K (.io :: ks) f) [] E ta) (mMake C ks f a) := by
  refine J.bindN (t2 := fun (vs : List V) (_ : St) (H : Hp) (Q : VK) => ∀ x dx, H x = none → H dx = none → dx ≠ x → SpD K (.io :: ks) f (.ref x :: (vs ++ [])) (upd (upd H dx (.own x)) x (.ins C dx [])) (fun v H2 => v = .non ∧ Q (.ref x) H2) E) ha monoT fun os vs => ?_
  intro Cn hK hWC al F H σ δ S hp r hr Q hok hex x dx hx hdx hne
  subst hK
  obtain ⟨ds, h1, hr⟩ := rds_bind hr
  by_cases hf : frOk ks os = true
  · simp only [hf, if_true] at hr
    have hrel : relA Cn.K F σ vs os := hp.2
    have lk := frOk_len hf
    have lv : vs.length = os.length := hrel.length
    have ld := rds_len h1
    -- the heap with the new object, as one more slot
    have n1 : New F H F (upd H dx (.own x)) := New.put S.fh hdx
    have hx2 : (upd H dx (.own x)) x = none := by rw [upd_ne (Ne.symm hne)]; exact hx
    have n2 : New F (upd H dx (.own x)) F (upd (upd H dx (.own x)) x (.ins C dx [])) := New.put n1.fh hx2
    have S2 := (S.new n1).new n2
    have hF : F x = none := S.fh.free hx
    have hPx : Cn.P x = none := S.ph.free hx
    have hO : ∀ (j : Nat) s e, δ[j]? = some s → Sl.own s = some e → al j ≠ x := fun j s e q r z => by
      obtain ⟨_, _, _, h4⟩ := S.ow j s e q r
      obtain ⟨u, hu⟩ := h4.there
      rw [z, hx] at hu
      cases hu
    have S3 : StOk Cn (fun j => if j = δ.length then x else al j) F (upd (upd H dx (.own x)) x (.ins C dx [])) (σ ++ [some (.ref x)]) (δ ++ [.ow (.ins C [] [])]) := by
      have gl : ∀ (j : Nat) s, (δ ++ [Sl.ow (.ins C [] [])])[j]? = some s → (j < δ.length ∧ δ[j]? = some s) ∨ (j = δ.length ∧ s = .ow (.ins C [] [])) := fun j s q => by
        by_cases z : j < δ.length
        · rw [List.getElem?_append_left z] at q
          exact Or.inl ⟨z, q⟩
        · rw [List.getElem?_append_right (by omega)] at q
          have : j - δ.length = 0 := by
            cases w : j - δ.length with
            | zero => rfl
            | succ m => rw [w] at q; simp at q
          rw [this] at q
          exact Or.inr ⟨by omega, by simpa using q.symm⟩
      have sl : ∀ (j : Nat), j < δ.length → (σ ++ [some (V.ref x)])[j]? = σ[j]? := fun j z => List.getElem?_append_left (by rw [S.len]; exact z)
      refine ⟨S2.fh, S2.ph, S2.bp, S2.f0, S2.fp, by simp [S.len], fun j d q => ?_, fun j d q => ?_, fun j s d q r => ?_, fun j d q => ?_, fun j k s t d e q1 q2 r1 r2 r3 => ?_, fun j ns q => ?_, fun j es q => ?_, S2.qp⟩
      · rcases gl j _ q with ⟨z1, z2⟩ | ⟨z1, z2⟩
        · rw [sl j z1]; exact S2.fr j d z2
        · cases z2
      · rcases gl j _ q with ⟨z1, z2⟩ | ⟨z1, z2⟩
        · rw [sl j z1]; exact S2.bo j d z2
        · cases z2
      · rcases gl j _ q with ⟨z1, z2⟩ | ⟨z1, z2⟩
        · rw [sl j z1, if_neg (by omega)]; exact S2.ow j s d z2 r
        · subst z2
          cases r
          rw [if_pos z1, z1]
          refine ⟨?_, hF, hPx, dx, [], upd_same, rfl, reps_nil⟩
          rw [List.getElem?_append_right (by rw [S.len]; exact Nat.le_refl _), S.len]
          simp
      · rcases gl j _ q with ⟨z1, z2⟩ | ⟨z1, z2⟩
        · rw [if_neg (by omega)]; exact S2.io j d z2
        · cases z2
      · rcases gl j _ q1 with ⟨z1, z2⟩ | ⟨z1, z2⟩
        · rcases gl k _ q2 with ⟨y1, y2⟩ | ⟨y1, y2⟩
          · rw [if_neg (by omega), if_neg (by omega)] at r3
            exact S2.inj j k s t d e z2 y2 r1 r2 r3
          · rw [if_neg (by omega), if_pos y1] at r3
            exact absurd r3 (hO j s d z2 r1)
        · rcases gl k _ q2 with ⟨y1, y2⟩ | ⟨y1, y2⟩
          · rw [if_pos z1, if_neg (by omega)] at r3
            exact absurd r3.symm (hO k t e y2 r2)
          · rw [z1, y1]
      · rcases gl j _ q with ⟨z1, z2⟩ | ⟨z1, z2⟩
        · rw [sl j z1]; exact S2.sc j ns z2
        · cases z2
      · rcases gl j _ q with ⟨z1, z2⟩ | ⟨z1, z2⟩
        · rw [sl j z1]; exact S2.b2 j es z2
        · cases z2
    have hi : (δ ++ [Sl.ow (.ins C [] [])])[δ.length]? = some (.ow (.ins C [] [])) := by simp
    have oLt : ∀ o ∈ os, ∀ j, opIx o = some j → j < δ.length := fun o hj j ej => by
      obtain ⟨k, hk⟩ := List.mem_iff_getElem?.mp hj
      obtain ⟨d, _, h3⟩ := rds_get h1 hk
      cases o with
      | val z => cases ej
      | slot i =>
        cases ej
        simp only [rd] at h3
        cases e : δ[j]? with
        | none => rw [e] at h3; cases h3
        | some s => exact (List.getElem?_eq_some_iff.mp e).1
      | part i k =>
        cases ej
        simp only [rd] at h3
        cases e : δ[j]? with
        | none => rw [e] at h3; cases h3
        | some s => exact (List.getElem?_eq_some_iff.mp e).1
    have hap : apart δ.length os = true := by
      have : ∀ os : List Op, (∀ o ∈ os, ∀ j, opIx o = some j → j < δ.length) → apart δ.length os = true := by
        intro os
        induction os with
        | nil => intro _; rfl
        | cons o os ih =>
          intro h
          cases o with
          | val d => exact ih fun o hj => h o (by simp [hj])
          | slot j =>
            simp only [apart, Bool.and_eq_true, bne_iff_ne]
            exact ⟨Nat.ne_of_lt (h (.slot j) (by simp) j rfl), ih fun o hj => h o (by simp [hj])⟩
          | part j k =>
            simp only [apart, Bool.and_eq_true, bne_iff_ne]
            exact ⟨Nat.ne_of_lt (h (.part j k) (by simp) j rfl), ih fun o hj => h o (by simp [hj])⟩
      exact this os oLt
    have hrel2 : relA Cn.K F (σ ++ [some (.ref x)]) vs os := by
      have : ∀ (vs : List V) (os : List Op), (∀ o ∈ os, ∀ j, opIx o = some j → j < δ.length) → relA Cn.K F σ vs os → relA Cn.K F (σ ++ [some (.ref x)]) vs os := by
        intro vs os hlt hr
        induction hr with
        | nil => exact .nil
        | @cons v o vs os r t ih =>
          refine .cons ?_ (ih fun o hj => hlt o (by simp [hj]))
          cases o with
          | val d => exact r
          | slot j =>
            show (σ ++ [some (V.ref x)])[j]? = some (some v)
            rw [List.getElem?_append_left (by rw [S.len]; exact hlt (.slot j) (by simp) j rfl)]
            exact r
          | part j k =>
            obtain ⟨p, ws, r1, r2, r3⟩ := r
            refine ⟨p, ws, ?_, r2, r3⟩
            rw [List.getElem?_append_left (by rw [S.len]; exact hlt (.part j k) (by simp) j rfl)]
            exact r1
      exact this vs os oLt hrel
    have h12 : rds os (δ ++ [.ow (.ins C [] [])]) = some ds := by
      have : ∀ (os : List Op) (ds : List D), (∀ o ∈ os, ∀ j, opIx o = some j → j < δ.length) → rds os δ = some ds → rds os (δ ++ [.ow (.ins C [] [])]) = some ds := by
        intro os
        induction os with
        | nil => intro ds _ h; exact h
        | cons o os ih =>
          intro ds hlt h
          simp only [rds] at h ⊢
          cases e1 : rd o δ with
          | none => simp only [e1] at h; cases h
          | some d =>
            cases e2 : rds os δ with
            | none => simp only [e1, e2] at h; cases h
            | some ds' =>
              simp only [e1, e2] at h
              have e3 : rd o (δ ++ [.ow (.ins C [] [])]) = some d := by
                cases o with
                | val z => exact e1
                | slot j =>
                  simp only [rd] at e1 ⊢
                  rw [List.getElem?_append_left (hlt (.slot j) (by simp) j rfl)]
                  exact e1
                | part j k =>
                  simp only [rd] at e1 ⊢
                  rw [List.getElem?_append_left (hlt (.part j k) (by simp) j rfl)]
                  exact e1
              rw [e3, ih ds' (fun o hj => hlt o (by simp [hj])) e2]
              exact h
      exact this os ds oLt h1
    have St1 := S3.enter (i := δ.length) hi rfl hf hap hrel2 h12
    simp only [if_true] at St1
    cases e3 : f (.ins C [] [] :: ds) with
    | none => simp only [e3] at hr; cases hr
    | some q =>
      refine ⟨{ K := Cn.K, P := fun a => if a = x then none else upd (upd H dx (HO.own x)) x (HO.ins C dx []) a, B := fun a => if a = x then none else upd (upd H dx (HO.own x)) x (HO.ins C dx []) a, F0 := F, bt := fun _ => x, W := Cn.W }, fun _ => x, .ins C [] [] :: ds, q, rfl, by rw [List.append_nil]; simp; omega, by simp; omega, (by rw [List.append_nil]; exact St1), e3, fun d δ2 e4 al' F' H' σ' v s' S' rv => ?_, fun xx δ2 e4 al' F' H' σ' cls dd s' S' xr => ?_⟩
      · subst e4
        simp only [e3] at hr
        cases d with
        | non =>
          simp only at hr
          cases e5 : δ2[(0 : Nat)]? with
          | none => simp only [e5] at hr; cases hr
          | some s0 =>
            cases s0 with
            | io e =>
              cases e with
              | ins C' ns es =>
                simp only [e5] at hr
                cases hr
                refine ⟨Rep.non_iff.mp rv, ?_⟩
                obtain ⟨y1, y2, y3, y4⟩ := S'.ow 0 _ _ e5 rfl
                have e0 : al' 0 = x := S'.io 0 _ e5
                rw [e0] at y2 y3 y4
                have nw : ∀ a o, H a = some o → H' a = some o := fun a o q => by
                  have na : a ≠ x := ne_of_none q hx
                  have nd : a ≠ dx := ne_of_none q hdx
                  refine S'.ph a o ?_
                  simp only [na, if_false]
                  rw [upd_ne na, upd_ne nd]
                  exact q
                have nf : ∀ a o, F' a = some o → F a = some o ∨ H a = none := fun a o q => by
                  rcases S'.fp a o q with z | z
                  · exact Or.inl z
                  · by_cases w : a = x
                    · rw [w]; exact Or.inr hx
                    · have z' : (if a = x then none else (upd (upd H dx (.own x)) x (.ins C dx [])) a) = none := z
                      rw [if_neg w, upd_ne w] at z'
                      by_cases w2 : a = dx
                      · rw [w2]; exact Or.inr hdx
                      · rw [upd_ne w2] at z'; exact Or.inr z'
                exact hok _ δ rfl al F' H' x S'.f0 (S.new ⟨S'.f0, S'.fh, nw, nf⟩) y2 hPx hO y4
              | _ => simp only [e5] at hr; cases hr
            | _ => simp only [e5] at hr; cases hr
        | _ => simp only at hr; cases hr
      · subst e4
        simp only [e3] at hr
        cases hr
        have nw : ∀ a o, H a = some o → H' a = some o := fun a o q => by
          have na : a ≠ x := ne_of_none q hx
          have nd : a ≠ dx := ne_of_none q hdx
          refine S'.ph a o ?_
          simp only [na, if_false]
          rw [upd_ne na, upd_ne nd]
          exact q
        have nf : ∀ a o, F' a = some o → F a = some o ∨ H a = none := fun a o q => by
          rcases S'.fp a o q with z | z
          · exact Or.inl z
          · by_cases w : a = x
            · rw [w]; exact Or.inr hx
            · have z' : (if a = x then none else (upd (upd H dx (.own x)) x (.ins C dx [])) a) = none := z
              rw [if_neg w, upd_ne w] at z'
              by_cases w2 : a = dx
              · rw [w2]; exact Or.inr hdx
              · rw [upd_ne w2] at z'; exact Or.inr z'
        rcases hW with hW | hW
        · exact hW _ _ σ _ (hex xx δ rfl al F' H' cls dd S'.f0 (S.new ⟨S'.f0, S'.fh, nw, nf⟩) xr)
        · exact absurd e3 (hW _ _ _)
  · simp only [hf] at hr
    cases hr
end
end DL

set_option Elab.async false
set_option linter.all false
set_option maxRecDepth 100000
set_option maxHeartbeats 400000
/-! DLi: the judgements over the text: a rule of the hand layer and what it computes, together. -/
namespace DL
open PySem L2
structure XE (X : Cx) (W : WX) (e : Expr) (t : TE) (m : M D) : Prop where
  p : PE X e t
  v : Ev X.K W t m
structure XN (X : Cx) (W : WX) (e : Expr) (t : TE) (m : M D) : Prop where
  p : PE X e t
  v : En1 X.K W t m
structure XO (X : Cx) (W : WX) (e : Expr) (t : TE) (m : M Op) : Prop where
  p : PE X e t
  v : Eo X.K W t m
structure XT (X : Cx) (W : WX) (e : Expr) (t : TT) (m : M Bool) : Prop where
  p : PT X e t
  v : Et X.K W t m
structure XW (X : Cx) (W : WX) (e : Expr) (t : TT) (m : M Bool) : Prop where
  p : PW X e t
  v : Et X.K W t m
structure XA (X : Cx) (W : WX) (es : List Expr) (t : TA) (m : M (List Op)) : Prop where
  p : PA X es t
  v : Ea X.K W t m
structure XD (X : Cx) (W : WX) (es : List Expr) (t : TA) (m : M (List D)) : Prop where
  p : PA X es t
  v : Eds X.K W t m
structure XP (X : Cx) (W : WX) (e : Option Expr) (t : TO) (m : M (Option Int)) : Prop where
  p : PO X e t
  v : Ep X.K W t m
structure XG (X : Cx) (b : Bool) (e : Expr) (t : TG) (m : Mg) (vs : List Nat) : Prop where
  p : PG X e t
  v : Eg X.K b t m
  w : Gw t vs
  n : Gm t
structure XGs (X : Cx) (es : List Expr) (t : TGs) (m : List D → En → Option En) (n : Nat) (vs : List Nat) : Prop where
  p : PGs X es t
  v : Egs X.K t m
  l : GsN m n
  w : Gws t vs
  k : Gms t
structure XI (X : Cx) (W : WX) (b : Bool) (tg e : Expr) (t : TI) (m : M (List D)) : Prop where
  p : PI X tg e t
  v : Ei X.K W b t m
structure XTs (X : Cx) (W : WX) (es : List Expr) (t : TT) (m : M Bool) : Prop where
  p : PTs X es t
  v : Et X.K W t m
structure XS (X : Cx) (W : WX) (s : Stmt) (t : TS) (m : Ms) : Prop where
  p : PS X s t
  v : Es X.K W t m
structure XB (X : Cx) (W : WX) (s : List Stmt) (t : TS) (m : Ms) : Prop where
  p : PSs X s t
  v : Es X.K W t m
section
variable {X : Cx} {W : WX} {a b c e o : Expr} {es : List Expr} {ta tb tc te to : TE} {pos p2 : Pos} {ma mb mc me : M D} {oa ob oc : M Op}
/-! values -/
theorem x_var (i : Nat) {x : Str} (hN : X.N[i]? = some x := by rfl) (hv : Vis X.env.scope x := by first | exact Or.inl rfl | exact Or.inr (Or.inl rfl) | exact Or.inr (Or.inr rfl)) (hd : (x == ("__debug__" : Str)) = false := by decide)
    (hcd : (x == ("__classdict__" : Str)) = false := by decide) : XE X W (.Name x pos) (tVar i) (mVar i) := ⟨pe_var hN hv hd hcd, ev_var⟩
theorem o_var (i : Nat) {x : Str} (hN : X.N[i]? = some x := by rfl) (hv : Vis X.env.scope x := by first | exact Or.inl rfl | exact Or.inr (Or.inl rfl) | exact Or.inr (Or.inr rfl)) (hd : (x == ("__debug__" : Str)) = false := by decide)
    (hcd : (x == ("__classdict__" : Str)) = false := by decide) : XO X W (.Name x pos) (tVar i) (mOv i) := ⟨pe_var hN hv hd hcd, eo_var⟩
theorem o_e (h : XE X W e te me) : XO X W e te (mVal me) := ⟨h.p, eo_val h.v⟩
theorem x_n (h : XN X W e te me) : XE X W e te me := ⟨h.p, Jn.frz h.v⟩
theorem x_int {i : Int} {j : Nat} : XE X W (.Constant (.int i) j pos) (tC (.int i)) (mC (.int i)) := ⟨pe_int, ev_c fun F => Rep.int_iff.mpr rfl⟩
theorem x_bl {i : Bool} {j : Nat} : XE X W (.Constant (.bool i) j pos) (tC (.bl i)) (mC (.bl i)) := ⟨pe_bl, ev_c fun F => Rep.bl_iff.mpr rfl⟩
theorem x_str {x : Str} {j : Nat} : XE X W (.Constant (.str x) j pos) (tC (.str x)) (mC (.str x)) := ⟨pe_str, ev_c fun F => Rep.str_iff.mpr rfl⟩
theorem x_neg1 {i : Int} {j : Nat} {p3 : Pos} : XE X W (.UnaryOp .USub (.Constant (.int i) j p3) pos) (tUn (rU fun i => .int (-i)) (tC (.int i))) (mC (.int (-i))) := ⟨pe_un un_neg pe_int, by
  intro C hK hW al F H σ δ S _ r hr Q hok hex
  cases hr
  exact ⟨i, rfl, hok _ δ rfl al F H _ (Same.refl _) S (Rep.int_iff.mpr rfl)⟩⟩
/-- a constant of the module: a number, a text -/
theorem x_globI {x : Str} {i : Int} {t : Tok} (hm : X.mg x = some (.int i t)) (hg : Gl X x := by rfl) (hd : (x == ("__debug__" : Str)) = false := by decide) : XE X W (.Name x pos) (tC (.int i)) (mC (.int i)) := ⟨pe_glob hg hm ⟨t, rfl⟩ hd, ev_c fun F => Rep.int_iff.mpr rfl⟩
theorem x_globS {x : Str} {i : Str} {t : Tok} (hm : X.mg x = some (.str i t)) (hg : Gl X x := by rfl) (hd : (x == ("__debug__" : Str)) = false := by decide) : XE X W (.Name x pos) (tC (.str i)) (mC (.str i)) := ⟨pe_glob hg hm ⟨t, rfl⟩ hd, ev_c fun F => Rep.str_iff.mpr rfl⟩
/-! operators -/
theorem x_add {K : Fg} (ha : XO X W a ta oa) (hb : XO X W b tb ob) (hK : X.K = K := by rfl) : XE X W (.BinOp a .Add b pos) (tOp (rAddA K) ta tb) (m2 addD oa ob) := by
  subst hK
  exact ⟨pe_op op_addA ha.p hb.p, ev_2 prim_add ha.v hb.v⟩
theorem x_sub (ha : XO X W a ta oa) (hb : XO X W b tb ob) : XE X W (.BinOp a .Sub b pos) (tOp (rI0 fun i j => .int (i - j)) ta tb) (m2 (fI0 fun i j => .int (i - j)) oa ob) := ⟨pe_op op_sub ha.p hb.p, ev_2 prim_sub ha.v hb.v⟩
theorem x_mul (ha : XO X W a ta oa) (hb : XO X W b tb ob) : XE X W (.BinOp a .Mult b pos) (tOp (rI CMul fun i j => .int (i * j)) ta tb) (m2 (fI mulOk fun i j => .int (i * j)) oa ob) := ⟨pe_op op_mul ha.p hb.p, ev_2 prim_mul ha.v hb.v⟩
theorem x_div (ha : XO X W a ta oa) (hb : XO X W b tb ob) : XE X W (.BinOp a .FloorDiv b pos) (tOp (rI CDiv fun i j => .int (i / j)) ta tb) (m2 (fI divOk fun i j => .int (i / j)) oa ob) := ⟨pe_op op_fdiv ha.p hb.p, ev_2 prim_div ha.v hb.v⟩
theorem x_mod (ha : XO X W a ta oa) (hb : XO X W b tb ob) : XE X W (.BinOp a .Mod b pos) (tOp (rI (fun _ j => 0 < j) fun i j => .int (i % j)) ta tb) (m2 (fI modOk fun i j => .int (i % j)) oa ob) := ⟨pe_op op_mod ha.p hb.p, ev_2 prim_mod ha.v hb.v⟩
theorem x_pow (ha : XO X W a ta oa) (hb : XO X W b tb ob) : XE X W (.BinOp a .Pow b pos) (tOp (rI CPow fun i j => .int (i ^ j.toNat)) ta tb) (m2 (fI powOk fun i j => .int (i ^ j.toNat)) oa ob) := ⟨pe_op op_pow ha.p hb.p, ev_2 prim_pow ha.v hb.v⟩
theorem x_le (ha : XO X W a ta oa) (hb : XO X W b tb ob) : XE X W (.Compare a [.LtE] [b] pos) (tOp (rI0 fun i j => .bl (decide (i ≤ j))) ta tb) (m2 (fI0 fun i j => .bl (decide (i ≤ j))) oa ob) := ⟨pe_cmpR op_le ha.p hb.p (nomark _), ev_2 prim_leI ha.v hb.v⟩
theorem x_eq {K : Fg} {k : Nat} (hr : Room k X.A) (ha : XO X W a ta oa) (hb : XO X W b tb ob) (hK : X.K = K := by rfl) : XE X W (.Compare a [.Eq] [b] pos) (tOp (rEqD K) ta tb) (m2 eqD oa ob) := by
  subst hK
  exact ⟨pe_cmpR (op_eqD hr.units) ha.p hb.p (nomark _), ev_2 prim_eq ha.v hb.v⟩
theorem room_in {k : Nat} {A : Around} (r : Room k A) : A.units + 65 < cLine := by have := r.un; omega
theorem x_inL {K : Fg} {k : Nat} (hr : Room k X.A) (ha : XO X W a ta oa) (hb : XO X W b tb ob) (hm : behindInMarks .In b = false := by rfl) (hK : X.K = K := by rfl) : XE X W (.Compare a [.In] [b] pos) (tOp (rInD K) ta tb) (m2 (inLD false) oa ob) := by
  subst hK
  exact ⟨pe_cmpR (op_inD (room_in hr)) ha.p hb.p hm, ev_2 prim_inL ha.v hb.v⟩
theorem x_inS (ha : XO X W a ta oa) (hb : XO X W b tb ob) (hm : behindInMarks .In b = false := by rfl) : XE X W (.Compare a [.In] [b] pos) (tOp rInSign ta tb) (m2 (inSignD false) oa ob) := ⟨pe_cmpR op_in_sign ha.p hb.p hm, ev_2 prim_inSign ha.v hb.v⟩
theorem x_inD {k : Nat} (hr : Room k X.A) (ha : XO X W a ta oa) (hb : XO X W b tb ob) (hm : behindInMarks .In b = false := by rfl) : XE X W (.Compare a [.In] [b] pos) (tOp (rDInB false) ta tb) (m2 (dinD false) oa ob) := ⟨by
  have h := pe_cmp (pos := pos) (pc_din (hu_of hr) ha.p hb.p) hm
  refine ⟨fun pins s σ H Q I q => h.run pins s σ H Q I ?_⟩
  simpa only [tOp, rDInB, tDIn, Bool.false_xor] using q, ev_2 prim_din ha.v hb.v⟩
/-! truths -/
theorem x_and {rest : List Expr} (ha : XE X W a ta ma) (hb : XE X W (.BoolOp .And (b :: rest) pos) tb mb) : XE X W (.BoolOp .And (a :: b :: rest) pos) (tAndV ta tb) (mAndV ma mb) := ⟨pe_and ha.p hb.p, ev_and ha.v hb.v⟩
theorem x_one {op : BoolOp} (ha : XE X W a ta ma) : XE X W (.BoolOp op [a] pos) ta ma := ⟨pe_one ha.p, ha.v⟩
theorem t_val (ha : XE X W a ta ma) (he : ∀ whole, isTrue a X.env whole = (do let v ← whole; standAt a.pos; holding [v] (truthy v)) := by intro _; rfl) : XT X W a (tB ta) (mTest ma) := ⟨pt_val ha.p he, et_B ha.v⟩
theorem t_not {t : TT} {m : M Bool} (ha : XT X W a t m) : XT X W (.UnaryOp .Not a pos) (tNot t) (mNot m) := ⟨pt_not ha.p, et_not ha.v⟩
theorem t_w {t : TT} {m : M Bool} (h : XW X W a t m) : XT X W a t m := ⟨h.p.pt, h.v⟩
theorem w_and {t u : TT} {m n : M Bool} {rest : List Expr} (ha : XT X W a t m) (hb : XW X W (.BoolOp .And (b :: rest) pos) u n) : XW X W (.BoolOp .And (a :: b :: rest) pos) (tAnd t u) (mAnd m n) := ⟨pw_and ha.p hb.p, et_and ha.v hb.v⟩
theorem w_and1 {t : TT} {m : M Bool} (ha : XT X W a t m) : XW X W (.BoolOp .And [a] pos) t m := ⟨pw_and1 ha.p, ha.v⟩
theorem w_or {t u : TT} {m n : M Bool} {rest : List Expr} (ha : XT X W a t m) (hb : XW X W (.BoolOp .Or (b :: rest) pos) u n) : XW X W (.BoolOp .Or (a :: b :: rest) pos) (tOr t u) (mOr m n) := ⟨pw_or ha.p hb.p, et_or ha.v hb.v⟩
theorem w_or1 {t : TT} {m : M Bool} (ha : XT X W a t m) : XW X W (.BoolOp .Or [a] pos) t m := ⟨pw_or1 ha.p, ha.v⟩
/-! items, slices -/
theorem x_ix {K : Fg} (ha : XO X W a ta oa) (hb : XO X W b tb ob) (hs : PlainIx b := by exact fun _ _ => rfl) (hK : X.K = K := by rfl) : XE X W (.Subscript a b pos) (tOp (rIx K) ta tb) (m2 ixD oa ob) := by
  subst hK
  exact ⟨pe_ix ix_seq ha.p hb.p hs, ev_2 prim_ix ha.v hb.v⟩
theorem x_dget {k : Nat} (hr : Room k X.A) (ha : XO X W a ta oa) (hb : XO X W b tb ob) (hs : NoSl b := by exact fun _ _ => rfl) : XE X W (.Subscript a b pos) (tOp rDGet ta tb) (m2 dgetD oa ob) := ⟨pe_dget (hu_of hr) ha.p hb.p hs, ev_2 prim_dget ha.v hb.v⟩
theorem p_none : XP X W none tNoPart mpNone := ⟨po_none, ep_none⟩
theorem p_some (h : XE X W e te me) : XP X W (some e) (tPart te) (mpSome me) := ⟨po_some h.p, ep_some h.v⟩
theorem x_sl {K : Fg} {lo hi : Option Expr} {tl th : TO} {l u : M (Option Int)} (ha : XO X W a ta oa) (hl : XP X W lo tl l) (hu : XP X W hi th u) (hK : X.K = K := by rfl) : XE X W (.Subscript a (.Slice lo hi none p2) pos) (tSl (rSlAny K) ta tl th) (mSl slD oa l u) := by
  subst hK
  exact ⟨pe_slice sl_any ha.p hl.p hu.p, ev_sl prim_sl ha.v hl.v hu.v⟩
/-! arguments, displays -/
theorem a_nil : XA X W [] tNil maNil := ⟨pa_nil, ea_nil⟩
theorem a_cons {tr : TA} {m : M (List Op)} (ha : XO X W e te oa) (hr : XA X W es tr m) (hs : starEach (e :: es) X.env = (false, eval e X.env) :: starEach es X.env := by rfl) : XA X W (e :: es) (tCons te tr) (maCons oa m) := ⟨pa_cons ha.p hr.p hs, ea_cons ha.v hr.v⟩
theorem d_nil : XD X W [] tNil mdNil := ⟨pa_nil, ed_nil⟩
theorem d_cons {tr : TA} {m : M (List D)} (ha : XE X W e te me) (hr : XD X W es tr m) (hs : starEach (e :: es) X.env = (false, eval e X.env) :: starEach es X.env := by rfl) : XD X W (e :: es) (tCons te tr) (mdCons me m) := ⟨pa_cons ha.p hr.p hs, ed_cons ha.v hr.v⟩
theorem x_tup {t : TA} {m : M (List D)} {k : Nat} (h : XD X W es t m) : XE X W (.Tuple es k pos) (tTupZ t) (mTup m) := ⟨pe_tupZ h.p, ev_tup h.v⟩
theorem n_lst {t : TA} {m : M (List D)} (h : XD X W es t m) : XN X W (.List es pos) (tLst t) (mLst m) := ⟨pe_lst h.p, en_lst h.v⟩
/-! built-ins -/
theorem x_cb {x : Str} {id : String} {r : List V → Hp → VK → Prop} {f : List D → Option D} {t : TA} {m : M (List Op)} (cr : CallR X (.builtin id) r) (pr : PrimA X.K r f) (hv : bootBuiltins x = some (.builtin id)) (hm : X.mg x = none) (h : XA X W (e :: es) t m) (hg : Gl X x := by rfl) (hn : x ≠ "__name__" := by decide) (hdb : (x == ("__debug__" : Str)) = false := by decide)
    (hs : starEach (e :: es) X.env = (false, eval e X.env) :: starEach es X.env := by rfl) (hpl : (backTo pos (starEach es X.env)).any (·.1) = false := by rfl) : XE X W (.Call (.Name x p2) (e :: es) [] pos) (tCB r t) (mA f m) := ⟨pe_callB cr hg hm hv h.p hn hdb hs hpl, ev_A pr h.v⟩
theorem n_cb {x : Str} {id : String} {r : List V → Hp → VK → Prop} {f : List D → Option (List D)} {t : TA} {m : M (List Op)} (cr : CallR X (.builtin id) r) (pr : PrimNA X.K r f) (hv : bootBuiltins x = some (.builtin id)) (hm : X.mg x = none) (h : XA X W (e :: es) t m) (hg : Gl X x := by rfl) (hn : x ≠ "__name__" := by decide) (hdb : (x == ("__debug__" : Str)) = false := by decide)
    (hs : starEach (e :: es) X.env = (false, eval e X.env) :: starEach es X.env := by rfl) (hpl : (backTo pos (starEach es X.env)).any (·.1) = false := by rfl) : XN X W (.Call (.Name x p2) (e :: es) [] pos) (tCB r t) (mnA f m) := ⟨pe_callB cr hg hm hv h.p hn hdb hs hpl, en_A pr h.v⟩
theorem x_ct {x : Str} {T : String} {r : List V → Hp → VK → Prop} {f : List D → Option D} {t : TA} {m : M (List Op)} (cr : CallR X (.type T) r) (pr : PrimA X.K r f) (hv : bootBuiltins x = some (.type T)) (hm : X.mg x = none) (h : XA X W (e :: es) t m) (hg : Gl X x := by rfl) (hn : x ≠ "__name__" := by decide) (hdb : (x == ("__debug__" : Str)) = false := by decide)
    (hs : starEach (e :: es) X.env = (false, eval e X.env) :: starEach es X.env := by rfl) (hpl : (backTo pos (starEach es X.env)).any (·.1) = false := by rfl) : XE X W (.Call (.Name x p2) (e :: es) [] pos) (tCB r t) (mA f m) := ⟨pe_callTy cr hg hm hv h.p hn hdb hs hpl, ev_A pr h.v⟩
theorem n_ct {x : Str} {T : String} {r : List V → Hp → VK → Prop} {f : List D → Option (List D)} {t : TA} {m : M (List Op)} (cr : CallR X (.type T) r) (pr : PrimNA X.K r f) (hv : bootBuiltins x = some (.type T)) (hm : X.mg x = none) (h : XA X W (e :: es) t m) (hg : Gl X x := by rfl) (hn : x ≠ "__name__" := by decide) (hdb : (x == ("__debug__" : Str)) = false := by decide)
    (hs : starEach (e :: es) X.env = (false, eval e X.env) :: starEach es X.env := by rfl) (hpl : (backTo pos (starEach es X.env)).any (·.1) = false := by rfl) : XN X W (.Call (.Name x p2) (e :: es) [] pos) (tCB r t) (mnA f m) := ⟨pe_callTy cr hg hm hv h.p hn hdb hs hpl, en_A pr h.v⟩
/-- isinstance(x, T), T a built-in class -/
theorem x_isi {K : Fg} {y : Str} {T : String} {p3 p4 : Pos} (hm : X.mg "isinstance" = none) (hmT : X.mg y = none) (hvT : bootBuiltins y = some (.type T)) (ha : XO X W a ta oa) (hg : Gl X "isinstance" := by rfl) (hgT : Gl X y := by rfl) (hnT : y ≠ "__name__" := by decide) (hdT : (y == ("__debug__" : Str)) = false := by decide)
    (hs : starEach [a, .Name y p4] X.env = (false, eval a X.env) :: starEach [.Name y p4] X.env := by rfl) (hs2 : starEach [.Name y p4] X.env = (false, eval (.Name y p4) X.env) :: starEach [] X.env := by rfl) (hpl : (backTo pos (starEach [.Name y p4] X.env)).any (·.1) = false := by rfl) (hK : X.K = K := by rfl) :
    XE X W (.Call (.Name "isinstance" p3) [a, .Name y p4] [] pos) (tIsi K T ta) (m1 (isB T) oa) := by
  subst hK
  exact ⟨pe_callB call_isi hg hm (by decide +kernel) (pa_cons ha.p (pa_cons (pe_bltn (v := .ty T) hgT hmT hvT rfl hnT hdT) pa_nil hs2) hs) (by decide) (by decide) hs hpl, ev_isi ha.v⟩
/-! calls of defs -/
theorem x_call {K : Fg} {x : Str} {f : Addr} {fd : FuncData} {ps : List Str} {k j : Nat} {ks : List PK} {F : List D → Option (R D)} {t : TA} {m : M (List Op)} (hN : NoEx F) (G : FnOk X.prog X.w X.K X.mg X.base CX0 k f fd ps (SpD X.K ks F)) (hr : Room j X.A) (hkj : k ≤ j) (hm : X.mg x = some (.ref f)) (hk : PySem.W.keepIn X.K (.ref f) = true) (hb : Binds X.K fd ps []) (h : XA X W (e :: es) t m) (hg : Gl X x := by rfl)
    (hdb : (x == ("__debug__" : Str)) = false := by decide) (hs : starEach (e :: es) X.env = (false, eval e X.env) :: starEach es X.env := by rfl) (hpl : (backTo pos (starEach es X.env)).any (·.1) = false := by rfl) (hK : X.K = K := by rfl) :
    XE X W (.Call (.Name x p2) (e :: es) [] pos) (tCall (SpD K ks F) [] E0 t) (mCall ks F m) := by
  subst hK
  exact ⟨pe_call G (hr.mono hkj) hg hm hk hb .nil pass0 h.p hdb hs hpl, ev_call h.v (Or.inr hN)⟩
theorem x_callS {K : Fg} {x : Str} {f : Addr} {fd : FuncData} {ps : List Str} {k j i : Nat} {ks : List PK} {F : List D → Option (R D)} {t : TA} {m : M (List Op)} (hN : NoEx F) (G : FnOk X.prog X.w X.K X.mg X.base CX0 k f fd ps (SpD X.K (.io :: ks) F)) (hr : Room j X.A) (hkj : k ≤ j) (hm : X.mg x = some (.ref f)) (hk : PySem.W.keepIn X.K (.ref f) = true) (hb : Binds X.K fd ps []) (hp : PE X e (tVar i)) (h : XA X W es t m) (hg : Gl X x := by rfl)
    (hdb : (x == ("__debug__" : Str)) = false := by decide) (hs : starEach (e :: es) X.env = (false, eval e X.env) :: starEach es X.env := by rfl) (hpl : (backTo pos (starEach es X.env)).any (·.1) = false := by rfl) (hK : X.K = K := by rfl) :
    XE X W (.Call (.Name x p2) (e :: es) [] pos) (tCall (SpD K (.io :: ks) F) [] E0 (tCons (tVar i) t)) (mCallS i ks F m) := by
  subst hK
  exact ⟨pe_call G (hr.mono hkj) hg hm hk hb .nil pass0 (pa_cons hp h.p hs) hdb hs hpl, ev_callS h.v (Or.inr hN)⟩
theorem n_make {K : Fg} {x : Str} {C f : Addr} {fd : FuncData} {ps : List Str} {k j : Nat} {ks : List PK} {F : List D → Option (R D)} {t : TA} {m : M (List Op)} (Mk0 : Mk X.K C f) (hN : NoEx F) (G : FnOk X.prog X.w X.K X.mg X.base CX0 k f fd ps (SpD X.K (.io :: ks) F)) (hr : Room j X.A) (hkj : k + 1 ≤ j) (hm : X.mg x = some (.ref C)) (hb : Binds X.K fd ps []) (h : XA X W (e :: es) t m) (hg : Gl X x := by rfl)
    (hdb : (x == ("__debug__" : Str)) = false := by decide) (hs : starEach (e :: es) X.env = (false, eval e X.env) :: starEach es X.env := by rfl) (hpl : (backTo pos (starEach es X.env)).any (·.1) = false := by rfl) (hK : X.K = K := by rfl) :
    XN X W (.Call (.Name x p2) (e :: es) [] pos) (tMake C (SpD K (.io :: ks) F) [] E0 t) (mMake C ks F m) := by
  subst hK
  exact ⟨pe_make Mk0 G (hr.mono hkj) hg hm hb .nil pass0 h.p hdb hs hpl, en_make h.v (Or.inr hN)⟩
/-! fields, methods of lists of one's own -/
theorem x_fld {K : Fg} {Cs : List Addr} {f : Str} (h : ∀ C ∈ Cs, ClsOk X.K C f) (ha : XO X W a ta oa) (hb : attributeBase a f X.env (eval a X.env) = eval a X.env := by rfl) (hK : X.K = K := by rfl) : XE X W (.Attribute a f pos) (tFld K ta f) (m1 (fldD Cs f) oa) := by
  subst hK
  exact ⟨pe_fld ha.p hb, ev_fld h ha.v⟩
theorem x_app {K : Fg} {i : Nat} {t : TA} {m : M (List D)} {apos : Pos} (ho : PE X o (tVar i)) (h : XD X W [e] t m) (hbase : attributeBase o "append" X.env (eval o X.env) = eval o X.env := by rfl)
    (hfew : ((backTo pos (starEach [e] X.env)).all (fun x => !x.1) && (backToKw pos (keywordEach [] X.env)).all (fun x => x.1.isSome) && decide ([e].length + ([] : List Keyword).length + (if ([] : List Keyword).isEmpty then 0 else 1) < 30)) = true := by rfl)
    (hline : (apos.endLine == pos.line) = true := by rfl) (hs : starEach [e] X.env = (false, eval e X.env) :: starEach [] X.env := by rfl) (hplain : (backTo pos (starEach [] X.env)).any (·.1) = false := by rfl) (hK : X.K = K := by rfl) :
    XE X W (.Call (.Attribute o "append" apos) [e] [] pos) (tBM K "list" rAppend (tVar i) t) (mMut appF i m) := by
  subst hK
  exact ⟨pe_bm PySem.F.plainAttrs_list PySem.F.slot_list_append PySem.F.type_list_append mt_append ho h.p hbase hfew hline hs hplain, ev_mut primM_append h.v⟩
theorem x_ext {K : Fg} {i : Nat} {t : TA} {m : M (List D)} {apos : Pos} (ho : PE X o (tVar i)) (h : XD X W [e] t m) (hbase : attributeBase o "extend" X.env (eval o X.env) = eval o X.env := by rfl)
    (hfew : ((backTo pos (starEach [e] X.env)).all (fun x => !x.1) && (backToKw pos (keywordEach [] X.env)).all (fun x => x.1.isSome) && decide ([e].length + ([] : List Keyword).length + (if ([] : List Keyword).isEmpty then 0 else 1) < 30)) = true := by rfl)
    (hline : (apos.endLine == pos.line) = true := by rfl) (hs : starEach [e] X.env = (false, eval e X.env) :: starEach [] X.env := by rfl) (hplain : (backTo pos (starEach [] X.env)).any (·.1) = false := by rfl) (hK : X.K = K := by rfl) :
    XE X W (.Call (.Attribute o "extend" apos) [e] [] pos) (tBM K "list" rExtend (tVar i) t) (mMut extF i m) := by
  subst hK
  exact ⟨pe_bm PySem.F.plainAttrs_list PySem.F.slot_list_extend PySem.F.type_list_extend mt_extend ho h.p hbase hfew hline hs hplain, ev_mut primM_extend h.v⟩
/-! statements -/
variable {st : Stmt} {rest : List Stmt} {t u : TS} {m n : Ms}
theorem b_nil : XB X W [] tNext mNext := ⟨pss_nil, es_next⟩
theorem b_cons (h1 : XS X W st t m) (h2 : XB X W rest u n) : XB X W (st :: rest) (tSeq t u) (mSeq m n) := ⟨pss_cons h1.p h2.p, es_seq h1.v h2.v⟩
theorem b_one (h1 : XS X W st t m) : XB X W [st] t m := ⟨pss_one h1.p, h1.v⟩
theorem s_never : XS X W st tNever mNever := ⟨ps_never, es_never⟩
theorem s_expr (h : XE X W e te me) (hs : swapsWith e none pos.line X.env = pure false := by rfl) : XS X W (.Expr e pos) (tDrop te) (mDrop me) := ⟨ps_expr h.p hs, es_drop h.v⟩
theorem s_ret (h : XE X W e te me) : XS X W (.Return (some e) pos) (tRet te) (mRet me) := ⟨ps_ret h.p, es_ret h.v⟩
theorem s_if {tc : TT} {mc : M Bool} {xs ys : List Stmt} (hc : XT X W c tc mc) (ha : XB X W xs t m) (hb : XB X W ys u n) : XS X W (.If c xs ys pos) (tIfS tc t u) (mIf mc m n) := ⟨ps_if hc.p ha.p hb.p, es_if hc.v ha.v hb.v⟩
theorem s_set (i : Nat) {x : Str} {pos' : Pos} (h : XE X W e te me) (hN : X.N.Nodup) (hi : X.N[i]? = some x := by rfl) (hx : Loc X.env.scope x := by first | exact Or.inl rfl | exact Or.inr rfl) (hs : swapsWith e (some (.Name x pos')) pos.line X.env = pure false := by rfl) (hf : X.fn x = true ∨ X.env.scope.names.lookup x = some .local := by first | exact .inl rfl | exact .inr rfl) :
    XS X W (.Assign [.Name x pos'] e pos) (tAsg te (gName i)) (mAsg (gN i) me) := ⟨ps_set hN hi hx h.p hs hf, es_asg h.v eg_name⟩
theorem s_setO (i : Nat) {x : Str} {pos' : Pos} (h : XN X W e te me) (hN : X.N.Nodup) (hi : X.N[i]? = some x := by rfl) (hx : Loc X.env.scope x := by first | exact Or.inl rfl | exact Or.inr rfl) (hs : swapsWith e (some (.Name x pos')) pos.line X.env = pure false := by rfl) (hf : X.fn x = true ∨ X.env.scope.names.lookup x = some .local := by first | exact .inl rfl | exact .inr rfl) :
    XS X W (.Assign [.Name x pos'] e pos) (tAsg te (gName i)) (mAsgO i me) := ⟨ps_set hN hi hx h.p hs hf, es_asgO h.v⟩
theorem s_asg {tg : Expr} {g : TG} {a : Mg} {vs : List Nat} (h : XE X W e te me) (hg : XG X false tg g a vs) (hs : swapsWithSole [tg] e pos.line X.env = pure false := by rfl) (hw : swappedStores [tg] e X.env = pure none := by rfl) (h1 : (assignEach [tg] X.env).map (·.2) = [assign tg X.env] := by rfl) : XS X W (.Assign [tg] e pos) (tAsg te g) (mAsg a me) := ⟨ps_asg h.p hg.p hs hw h1, es_asg h.v hg.v⟩
theorem g_name (i : Nat) {x : Str} {vs : List Nat} (hN : X.N.Nodup) (hv : i ∈ vs := by decide) (hi : X.N[i]? = some x := by rfl) (hx : Loc X.env.scope x := by first | exact Or.inl rfl | exact Or.inr rfl) (hf : X.fn x = true ∨ X.env.scope.names.lookup x = some .local := by first | exact .inl rfl | exact .inr rfl) : XG X false (.Name x pos) (gName i) (gN i) vs := ⟨pg_name hN hi hx hf, eg_name, gw_name hv, gm_name⟩
theorem gs_nil {vs : List Nat} : XGs X [] gNil gs0 0 vs := ⟨pgs_nil, egs_nil, gsn0, gw_nil, gm_nil⟩
theorem gs_cons {t : TG} {u : TGs} {a : Mg} {b : List D → En → Option En} {n : Nat} {vs : List Nat} (h1 : XG X false e t a vs) (h2 : XGs X es u b n vs) (hs : (assignEach (e :: es) X.env).map (·.2) = assign e X.env :: (assignEach es X.env).map (·.2) := by rfl) : XGs X (e :: es) (gCons t u) (gsC a b) (n + 1) vs := ⟨pgs_cons h1.p h2.p hs, egs_cons h1.v h2.v, gsnC h2.l, gw_cons h1.n h1.w h2.k h2.w, gm_cons h1.n h2.k⟩
theorem g_tup {K : Fg} {q : Bool} {t : TGs} {b : List D → En → Option En} {n k : Nat} {vs : List Nat} (hc : X.calm = true) (h : XGs X es t b n vs) (hn : (assignEach es X.env).length = n := by rfl) (hst : (assignEach es X.env).findIdx? (·.1) = none := by rfl) (hK : X.K = K := by rfl) : XG X q (.Tuple es k pos) (gTup K n t) (gT b) vs := by
  subst hK
  exact ⟨pg_tup hc h.p hn hst, eg_tup h.v h.l, gw_tup h.w, gm_tup h.k⟩
/-! loops -/
variable {tg : Expr}
theorem i_list {K : Fg} (h : XE X W e te me) (hK : X.K = K := by rfl) : XI X W false tg e (iList K te) (mSeqOf me) := by
  subst hK
  exact ⟨pi_list h.p, ei_list h.v⟩
theorem i_tup {K : Fg} (h : XE X W e te me) (hK : X.K = K := by rfl) : XI X W false tg e (iTup K te) (mTupOf me) := by
  subst hK
  exact ⟨pi_tup h.p, ei_tup h.v⟩
theorem i_range1 {t : TA} {m : M (List D)} (hm : X.mg "range" = none) (h : XD X W [a] t m) (hg : Gl X "range" := by rfl) (hs : starEach [a] X.env = [(false, eval a X.env)] := by rfl) : XI X W false tg (.Call (.Name "range" p2) [a] [] pos) (iRng1 t) (mIt rg1 m) := ⟨pi_range1 hg hm h.p hs, ei_range1 h.v⟩
theorem i_range2 {t : TA} {m : M (List D)} (hm : X.mg "range" = none) (h : XD X W [a, b] t m) (hg : Gl X "range" := by rfl) (hs : starEach [a, b] X.env = [(false, eval a X.env), (false, eval b X.env)] := by rfl) (hs2 : starEach [b] X.env = [(false, eval b X.env)] := by rfl) : XI X W false tg (.Call (.Name "range" p2) [a, b] [] pos) (iRng2 t) (mIt rg2 m) := ⟨pi_range2 hg hm h.p hs hs2, ei_range2 h.v⟩
theorem s_for {q : Bool} {wi : TI} {g : TG} {a : Mg} {vs : List Nat} {it : M (List D)} {body : List Stmt} (hp : PassesOwn (model X.prog X.w) X.A X.env X.xe) (hc : X.calm = true) (hi : XI X W q tg e wi it) (hg : XG X q tg g a vs) (hb : XB X W body t m) (hs : ∀ x, foldedSetIterable e X.env x = pure x := by intro _; rfl) : XS X W (.For tg e body [] pos) (tFor wi g t) (mFor it a m) := ⟨ps_for hp hc hi.p hg.p hb.p hs, es_for hi.v hg.v hb.v⟩
theorem s_setI {i : Nat} {ix : Expr} {ti : TE} {mi : M D} {tpos : Pos} (ho : PE X o (tVar i)) (hi : XE X W ix ti mi) (h : XE X W e te me) (ha : ∀ v, assign (.Subscript o ix tpos) X.env v = (do
      let ov ← holding [v] (eval o X.env)
      let iv ← holding [v, ov] (eval ix X.env)
      standAt tpos
      holding [v, ov, iv] (setItem ov iv v)
      release [v, ov, iv] []) := by intro _; rfl) (hs : swapsWithSole [.Subscript o ix tpos] e pos.line X.env = pure false := by rfl) (hw : swappedStores [.Subscript o ix tpos] e X.env = pure none := by rfl) (h1 : (assignEach [.Subscript o ix tpos] X.env).map (·.2) = [assign (.Subscript o ix tpos) X.env] := by rfl) :
    XS X W (.Assign [.Subscript o ix tpos] e pos) (tAsg te (gSub (tVar i) ti rSetL)) (mS me fun d => mHas i (mS mi fun j => fun δ => match j with
      | .int n => match ownL δ i with
        | some (s, ds) => match ixN ds.length n with
          | some m => some (.nx (δ.set i (reown s (.lst (ds.set m d)))))
          | none => none
        | none => none
      | _ => none)) := ⟨ps_asg h.p (pg_sub ho hi.p set_list ha) hs hw h1, es_setI h.v hi.v⟩
theorem s_fld {K : Fg} {C : Addr} {i : Nat} {f : Str} {pos' : Pos} (hC : ClsOk X.K C f) (ho : PE X o (tVar i)) (h : XE X W e te me) (hs : swapsWith e (some (.Attribute o f pos')) pos.line X.env = pure false := by rfl) (hK : X.K = K := by rfl) : XS X W (.Assign [.Attribute o f pos'] e pos) (sFld K (tVar i) te f) (mSetF C i f me) := by
  subst hK
  exact ⟨ps_fld ho h.p hs, es_setF hC h.v⟩
/-! comprehensions -/
theorem ts_nil : XTs X W [] tYes mYes := ⟨pts_nil, et_yes⟩
theorem ts_one {t : TT} {m : M Bool} (h : XT X W c t m) : XTs X W [c] t m := ⟨pts_one h.p, h.v⟩
section
variable {q : Bool} {elt iter : Expr} {ifs : List Expr} {scope : Scope} {own : List (Str × Nat)} {wi : TI} {g : TG} {tt : TT} {it : M (List D)} {ga : Mg} {mt : M Bool}
theorem n_lc (hc : X.calm = true) (hN : X.N.Nodup) (hi : XI X W q tg iter wi it) (ok : BlkOk X.N X.env.scope scope own)
    (hg : ∀ (s : Shared) (H : Hp) (C : Addr) (cl : List (Str × Addr)) (fp : List Addr), XG (X.blk s H scope (PySem.compEnvC scope cl C X.env) fp) q tg g ga (own.map (·.2))) (ht : ∀ (s : Shared) (H : Hp) (C : Addr) (cl : List (Str × Addr)) (fp : List Addr), XTs (X.blk s H scope (PySem.compEnvC scope cl C X.env) fp) W ifs tt mt)
    (he : ∀ (s : Shared) (H : Hp) (C : Addr) (cl : List (Str × Addr)) (fp : List Addr), XE (X.blk s H scope (PySem.compEnvC scope cl C X.env) fp) W elt te me) (hs : ∀ x, foldedSetIterable iter X.env x = pure x := by intro _; rfl) :
    XN X W (.ListComp elt [⟨tg, iter, ifs, 0⟩] scope pos) (tLc wi g tt te (own.map (·.2))) (mLc it ga mt me (own.map (·.2))) :=
  ⟨pe_lc hc hN hi.p ok (fun s H C cl fp => (hg s H C cl fp).p) (fun s H C cl fp => (ht s H C cl fp).p) (fun s H C cl fp => (he s H C cl fp).p) hs,
    en_lc hi.v (hg X.s_0 X.H_0 0 [] []).v (hg X.s_0 X.H_0 0 [] []).w (hg X.s_0 X.H_0 0 [] []).n (ht X.s_0 X.H_0 0 [] []).v (he X.s_0 X.H_0 0 [] []).v⟩
/-- y = [..], y a local -/
theorem s_setLc (i : Nat) {y : Str} {py spos : Pos} (hc : X.calm = true) (hN : X.N.Nodup) (hy : X.N[i]? = some y) (hyl : X.env.scope.names.lookup y = some .local) (hsw : swapsWith (.ListComp elt [⟨tg, iter, ifs, 0⟩] scope pos) (some (.Name y py)) spos.line X.env = pure true) (hi : XI X W q tg iter wi it) (ok : BlkOk X.N X.env.scope scope own)
    (hg : ∀ (s : Shared) (H : Hp) (C : Addr) (cl : List (Str × Addr)) (fp : List Addr), XG (X.blk s H scope (PySem.compEnvC scope cl C X.env) fp) q tg g ga (own.map (·.2))) (ht : ∀ (s : Shared) (H : Hp) (C : Addr) (cl : List (Str × Addr)) (fp : List Addr), XTs (X.blk s H scope (PySem.compEnvC scope cl C X.env) fp) W ifs tt mt)
    (he : ∀ (s : Shared) (H : Hp) (C : Addr) (cl : List (Str × Addr)) (fp : List Addr), XE (X.blk s H scope (PySem.compEnvC scope cl C X.env) fp) W elt te me) (hs : ∀ x, foldedSetIterable iter X.env x = pure x := by intro _; rfl) :
    XS X W (.Assign [.Name y py] (.ListComp elt [⟨tg, iter, ifs, 0⟩] scope pos) spos) (tAsg (tLc wi g tt te (own.map (·.2))) (gName i)) (mAsgO i (mLc it ga mt me (own.map (·.2)))) :=
  ⟨ps_setLc hc hN hy hyl hsw hi.p ok (fun s H C cl fp => (hg s H C cl fp).p) (fun s H C cl fp => (ht s H C cl fp).p) (fun s H C cl fp => (he s H C cl fp).p) hs,
    es_asgO (en_lc hi.v (hg X.s_0 X.H_0 0 [] []).v (hg X.s_0 X.H_0 0 [] []).w (hg X.s_0 X.H_0 0 [] []).n (ht X.s_0 X.H_0 0 [] []).v (he X.s_0 X.H_0 0 [] []).v)⟩
end
end
end DL

set_option Elab.async false
set_option linter.all false
set_option maxRecDepth 100000
set_option maxHeartbeats 400000
/-! DLj: defs as plain functions of their arguments. -/
namespace DL
open PySem L2
theorem StOk.take {C : Cn} {al : Nat → Addr} {F H : Hp} {σ : St} {δ : En} (S : StOk C al F H σ δ) (n : Nat) : StOk C al F H (σ.take n) (δ.take n) := by
  have gE : ∀ (j : Nat) s, (δ.take n)[j]? = some s → j < n ∧ δ[j]? = some s := fun j s q => by
    rw [List.getElem?_take] at q
    by_cases z : j < n
    · rw [if_pos z] at q; exact ⟨z, q⟩
    · rw [if_neg z] at q; cases q
  have gS : ∀ (j : Nat), j < n → (σ.take n)[j]? = σ[j]? := fun j z => by rw [List.getElem?_take, if_pos z]
  refine ⟨S.fh, S.ph, S.bp, S.f0, S.fp, by rw [List.length_take, List.length_take, S.len], fun j e q => ?_, fun j e q => ?_, fun j s e q r => ?_, fun j e q => ?_, fun j k s t e f q1 q2 r1 r2 r3 => ?_, fun j ns q => ?_, fun j ds q => ?_, S.qp⟩
  · obtain ⟨z, q⟩ := gE j _ q; rw [gS j z]; exact S.fr j e q
  · obtain ⟨z, q⟩ := gE j _ q; rw [gS j z]; exact S.bo j e q
  · obtain ⟨z, q⟩ := gE j _ q; rw [gS j z]; exact S.ow j s e q r
  · obtain ⟨z, q⟩ := gE j _ q; exact S.io j e q
  · obtain ⟨z, q1⟩ := gE j _ q1; obtain ⟨z2, q2⟩ := gE k _ q2; exact S.inj j k s t e f q1 q2 r1 r2 r3
  · obtain ⟨z, q⟩ := gE j _ q; rw [gS j z]; exact S.sc j ns q
  · obtain ⟨z, q⟩ := gE j _ q; rw [gS j z]; exact S.b2 j ds q
/-- the promise of a def that changes nothing -/
abbrev pF (g : List D → Option D) : List D → Option (R D) := fun ds => (g ds).map fun d => R.ok d []
abbrev SpP (K : Fg) (ks : List PK) (g : List D → Option D) : Sp := SpD K ks (pF g)
/-- .. that changes its first argument alone -/
abbrev iF (g : List D → Option (D × D)) : List D → Option (R D) := fun ds => (g ds).map fun p => R.ok p.1 [.io p.2]
abbrev SpI (K : Fg) (ks : List PK) (g : List D → Option (D × D)) : Sp := SpD K (.io :: ks) (iF g)
def defG (n : Nat) (ks : List PK) (m : Ms) : List D → Option D := fun ds => match m (startE n (entry ks ds)) with
  | some (.rt d _) => some d
  | some (.nx _) => some .non
  | _ => none
def io0 (δ : En) : Option D := match δ[(0 : Nat)]? with
  | some (Sl.io e) => some e
  | _ => none
def defI (n : Nat) (ks : List PK) (m : Ms) : List D → Option (D × D) := fun ds => match m (startE n (entry (.io :: ks) ds)) with
  | some (.rt d δ) => (io0 δ).map fun e => (d, e)
  | some (.nx δ) => (io0 δ).map fun e => (.non, e)
  | _ => none
section
variable {P : Program} {w : World} {K : Fg} {mg : Str → Option Value} {base : Heap}
theorem fn_g {x qual : Str} {st : Stmt} {f : Addr} {fd : FuncData} {N ps : List Str} {k : Nat} {ks : List PK} {m : Ms} (F : Fun K x qual st f fd) (S : FnScope N ps (defScope st)) (hks : ks.length = ps.length)
    (hb : ∀ (cdv : Value) (A : Around) (outer : List Env) (s : Shared) (H : Hp) (E : XK), Room k (A.deeper (PyProof.Rows.envOfC qual (defScope st) s.heap.objs.size f cdv)) → ∃ t, XB (cxOf CX0 P w K mg base N qual (defScope st) f cdv A outer s H E).nox W0 (defBody st) t m) :
    FnOk P w K mg base CX0 (k + 1) f fd ps (SpP K ks (defG N.length ks m)) := by
  refine F.ok S (fun vs H Q E h => ?_) (fun cdv A outer s H vs Q E hr h => ?_)
  · obtain ⟨C, al, ds, r, _, h1, _⟩ := h
    rw [h1, hks]
  · obtain ⟨t, B⟩ := hb cdv A outer s H E hr
    refine ⟨t, B.p, ?_⟩
    obtain ⟨C, al, ds, r, hK, h1, h2, S0, hf, hok, _⟩ := h
    subst hK
    have S1 := (S0.wish W0 (short_entry _ _)).begin (N := N)
    have hf : (defG N.length ks m ds).map (fun d => R.ok d []) = some r := hf
    unfold defG at hf
    cases e : m (startE N.length (entry ks ds)) with
    | none => rw [e] at hf; cases hf
    | some o =>
      refine B.v { C with W := W0 } rfl rfl al C.F0 H _ _ S1 o e _ ?_
      rw [e] at hf
      cases o with
      | nx δ => cases hf; exact fun al' F' H' σ' s' S' => hok _ _ rfl al' F' H' _ .non s' ((S'.take 0).unwish short_nil) (Rep.non_iff.mpr rfl)
      | rt d δ => cases hf; exact fun al' F' H' σ' v s' S' rv => hok d _ rfl al' F' H' _ v s' ((S'.take 0).unwish short_nil) rv
      | rn d δ => cases hf
      | bk δ => cases hf
      | ct δ => cases hf
      | ex x δ => cases hf
theorem io0_some {δ : En} {e : D} (h : io0 δ = some e) : δ.take 1 = [.io e] := by
  unfold io0 at h
  cases δ with
  | nil => cases h
  | cons s r =>
    cases s with
    | io d => cases h; rfl
    | _ => cases h
theorem fn_i {x qual : Str} {st : Stmt} {f : Addr} {fd : FuncData} {N ps : List Str} {k : Nat} {ks : List PK} {m : Ms} (F : Fun K x qual st f fd) (S : FnScope N ps (defScope st)) (hks : ks.length + 1 = ps.length)
    (hb : ∀ (cdv : Value) (A : Around) (outer : List Env) (s : Shared) (H : Hp) (E : XK), Room k (A.deeper (PyProof.Rows.envOfC qual (defScope st) s.heap.objs.size f cdv)) → ∃ t, XB (cxOf CX0 P w K mg base N qual (defScope st) f cdv A outer s H E).nox W0 (defBody st) t m) :
    FnOk P w K mg base CX0 (k + 1) f fd ps (SpI K ks (defI N.length ks m)) := by
  refine F.ok S (fun vs H Q E h => ?_) (fun cdv A outer s H vs Q E hr h => ?_)
  · obtain ⟨C, al, ds, r, _, h1, _⟩ := h
    rw [h1, ← hks]
    rfl
  · obtain ⟨t, B⟩ := hb cdv A outer s H E hr
    refine ⟨t, B.p, ?_⟩
    obtain ⟨C, al, ds, r, hK, h1, h2, S0, hf, hok, _⟩ := h
    subst hK
    have S1 := (S0.wish W0 (short_entry _ _)).begin (N := N)
    have hf : (defI N.length ks m ds).map (fun p => R.ok p.1 [.io p.2]) = some r := hf
    unfold defI at hf
    cases e : m (startE N.length (entry (.io :: ks) ds)) with
    | none => rw [e] at hf; cases hf
    | some o =>
      refine B.v { C with W := W0 } rfl rfl al C.F0 H _ _ S1 o e _ ?_
      rw [e] at hf
      cases o with
      | nx δ =>
        cases e2 : io0 δ with
        | none => simp only [e2] at hf; cases hf
        | some c =>
          simp only [e2] at hf
          cases hf
          exact fun al' F' H' σ' s' S' => hok _ _ rfl al' F' H' _ .non s' (by have S3 := S'.take 1; rw [io0_some e2] at S3; exact S3.unwish short_io) (Rep.non_iff.mpr rfl)
      | rt d δ =>
        cases e2 : io0 δ with
        | none => simp only [e2] at hf; cases hf
        | some c =>
          simp only [e2] at hf
          cases hf
          exact fun al' F' H' σ' v s' S' rv => hok d _ rfl al' F' H' _ v s' (by have S3 := S'.take 1; rw [io0_some e2] at S3; exact S3.unwish short_io) rv
      | rn d δ => cases hf
      | bk δ => cases hf
      | ct δ => cases hf
      | ex x δ => cases hf
end
/-! calls, said by the plain functions -/
def mCallP (ks : List PK) (g : List D → Option D) (a : M (List Op)) : M D := a.bind fun os => (mRds os).bind fun ds => fun δ => if frOk ks os then (match g ds with
  | some d => some (.ok d δ)
  | none => none) else none
theorem mCallP_eq (ks : List PK) (g : List D → Option D) (a : M (List Op)) : mCall ks (pF g) a = mCallP ks g a := by
  unfold mCall mCallP pF
  congr 1
  funext os
  congr 1
  funext ds δ
  cases g ds <;> rfl
def mCallI (i : Nat) (ks : List PK) (g : List D → Option (D × D)) (a : M (List Op)) : M D := fun δ => match δ[i]? with
  | some s => match s.own with
    | some _ => (a.bind fun os => (mRds os).bind fun ds => fun δ1 => match δ1[i]? with
      | some s1 => match s1.own with
        | some c => if frOk ks os && apart i os then (match g (c :: ds) with
          | some p => some (.ok p.1 (δ1.set i (reown s1 p.2)))
          | none => none) else none
        | none => none
      | none => none) δ
    | none => none
  | none => none
theorem mCallI_eq (i : Nat) (ks : List PK) (g : List D → Option (D × D)) (a : M (List Op)) : mCallS i ks (iF g) a = mCallI i ks g a := by
  unfold mCallS mCallI mCallS1 iF ioOut
  funext δ
  cases δ[i]? with
  | none => rfl
  | some s =>
    cases h0 : s.own with
    | none => simp only [h0]
    | some c0 =>
      simp only [h0]
      congr 1
      congr 1
      funext os
      congr 1
      funext ds δ1
      cases δ1[i]? with
      | none => rfl
      | some s1 =>
        cases h1 : s1.own with
        | none => simp only [h1]
        | some c => simp only [h1]; cases g (c :: ds) <;> rfl
def mMakeP (C : Addr) (ks : List PK) (g : List D → Option (D × D)) (a : M (List Op)) : M D := a.bind fun os => (mRds os).bind fun ds => fun δ => if frOk ks os then (match g (.ins C [] [] :: ds) with
  | some (.non, .ins C' ns es) => some (.ok (.ins C' ns es) δ)
  | _ => none) else none
theorem mMakeP_eq (C : Addr) (ks : List PK) (g : List D → Option (D × D)) (a : M (List Op)) : mMake C ks (iF g) a = mMakeP C ks g a := by
  unfold mMake mMakeP iF
  congr 1
  funext os
  congr 1
  funext ds δ
  cases g (.ins C [] [] :: ds) with
  | none => rfl
  | some p =>
    obtain ⟨d, e⟩ := p
    cases d <;> cases e <;> rfl
theorem noex_pF {g : List D → Option D} : NoEx (pF g) := fun ds x δ h => by
  have h : (g ds).map (fun d => R.ok d []) = some (.ex x δ) := h
  cases e : g ds with
  | none => rw [e] at h; cases h
  | some d => rw [e] at h; cases h
theorem noex_iF {g : List D → Option (D × D)} : NoEx (iF g) := fun ds x δ h => by
  have h : (g ds).map (fun p => R.ok p.1 [.io p.2]) = some (.ex x δ) := h
  cases e : g ds with
  | none => rw [e] at h; cases h
  | some d => rw [e] at h; cases h
section
variable {X : Cx} {W : WX} {e : Expr} {es : List Expr} {pos p2 : Pos}
theorem x_cp {x : Str} {f : Addr} {fd : FuncData} {ps : List Str} {k j : Nat} {ks : List PK} {g : List D → Option D} {t : TA} {m : M (List Op)} (G : FnOk X.prog X.w X.K X.mg X.base CX0 k f fd ps (SpP X.K ks g)) (hr : Room j X.A) (hkj : k ≤ j) (hm : X.mg x = some (.ref f)) (hk : PySem.W.keepIn X.K (.ref f) = true) (hb : Binds X.K fd ps []) (h : XA X W (e :: es) t m) (hg : Gl X x := by rfl)
    (hdb : (x == ("__debug__" : Str)) = false := by decide) (hs : starEach (e :: es) X.env = (false, eval e X.env) :: starEach es X.env := by rfl) (hpl : (backTo pos (starEach es X.env)).any (·.1) = false := by rfl) :
    XE X W (.Call (.Name x p2) (e :: es) [] pos) (tCall (SpP X.K ks g) [] E0 t) (mCallP ks g m) := by
  rw [← mCallP_eq]
  exact x_call noex_pF G hr hkj hm hk hb h hg hdb hs hpl
theorem x_ci {x : Str} {f : Addr} {fd : FuncData} {ps : List Str} {k j i : Nat} {ks : List PK} {g : List D → Option (D × D)} {t : TA} {m : M (List Op)} (G : FnOk X.prog X.w X.K X.mg X.base CX0 k f fd ps (SpI X.K ks g)) (hr : Room j X.A) (hkj : k ≤ j) (hm : X.mg x = some (.ref f)) (hk : PySem.W.keepIn X.K (.ref f) = true) (hb : Binds X.K fd ps []) (hp : PE X e (tVar i)) (h : XA X W es t m) (hg : Gl X x := by rfl)
    (hdb : (x == ("__debug__" : Str)) = false := by decide) (hs : starEach (e :: es) X.env = (false, eval e X.env) :: starEach es X.env := by rfl) (hpl : (backTo pos (starEach es X.env)).any (·.1) = false := by rfl) :
    XE X W (.Call (.Name x p2) (e :: es) [] pos) (tCall (SpI X.K ks g) [] E0 (tCons (tVar i) t)) (mCallI i ks g m) := by
  rw [← mCallI_eq]
  exact x_callS noex_iF G hr hkj hm hk hb hp h hg hdb hs hpl
theorem n_mk {x : Str} {C f : Addr} {fd : FuncData} {ps : List Str} {k j : Nat} {ks : List PK} {g : List D → Option (D × D)} {t : TA} {m : M (List Op)} (Mk0 : Mk X.K C f) (G : FnOk X.prog X.w X.K X.mg X.base CX0 k f fd ps (SpI X.K ks g)) (hr : Room j X.A) (hkj : k + 1 ≤ j) (hm : X.mg x = some (.ref C)) (hb : Binds X.K fd ps []) (h : XA X W (e :: es) t m) (hg : Gl X x := by rfl)
    (hdb : (x == ("__debug__" : Str)) = false := by decide) (hs : starEach (e :: es) X.env = (false, eval e X.env) :: starEach es X.env := by rfl) (hpl : (backTo pos (starEach es X.env)).any (·.1) = false := by rfl) :
    XN X W (.Call (.Name x p2) (e :: es) [] pos) (tMake C (SpI X.K ks g) [] E0 t) (mMakeP C ks g m) := by
  rw [← mMakeP_eq]
  exact n_make Mk0 noex_iF G hr hkj hm hb h hg hdb hs hpl
end
end DL

set_option Elab.async false
set_option linter.all false
set_option maxRecDepth 100000
set_option maxHeartbeats 400000
/-! DLk: sorted, counts. -/
namespace DL
open PySem L2
open PySem.W (EachIs AllAlike Sortable dataLe alike)
open PyProof.Rows (seqObj)
/-! ### sorting data -/
def encD (d : D) : PyData := (toPy d).getD .none
def tupNe : PyData → Bool
  | .tuple (_ :: _) => true
  | _ => false
def notTN : PyData → Bool
  | .none => false
  | .tuple _ => false
  | _ => true
def sortOk (ds : List D) : Bool := decide (ds.length ≤ 1000000) && ((ds.all fun d => (toPy d).isSome && decide ((encD d).depth ≤ 60)) && ((ds.all fun d => ds.all fun e => alike (encD d) (encD e)) && ((ds.all fun d => tupNe (encD d)) || (ds.all fun d => notTN (encD d)))))
def sortD (ds : List D) : List D := ds.mergeSort (dataLe false encD)
structure SortOk (ds : List D) : Prop where
  len : ds.length ≤ LB
  py : ∀ d ∈ ds, toPy d = some (encD d)
  dep : ∀ d ∈ ds, (encD d).depth ≤ 60
  al : ∀ d ∈ ds, ∀ e ∈ ds, alike (encD d) (encD e) = true
  kd : (∀ d ∈ ds, tupNe (encD d) = true) ∨ ∀ d ∈ ds, notTN (encD d) = true
theorem sortOk_iff {ds : List D} : sortOk ds = true ↔ SortOk ds := by
  unfold sortOk
  simp only [Bool.and_eq_true, Bool.or_eq_true, decide_eq_true_eq, List.all_eq_true]
  constructor
  · rintro ⟨h1, h2, h3, h4⟩
    refine ⟨h1, fun d hd => ?_, fun d hd => (h2 d hd).2, h3, h4⟩
    have := (h2 d hd).1
    unfold encD
    cases e : toPy d with
    | none => rw [e] at this; cases this
    | some p => rfl
  · rintro ⟨h1, h2, h3, h4, h5⟩
    exact ⟨h1, fun d hd => ⟨by rw [h2 d hd]; rfl, h3 d hd⟩, h4, h5⟩
theorem SortOk.perm {ds es : List D} (h : SortOk ds) (p : es.Perm ds) : SortOk es :=
  ⟨by rw [p.length_eq]; exact h.len, fun d hd => h.py d (p.mem_iff.mp hd), fun d hd => h.dep d (p.mem_iff.mp hd), fun d hd e he => h.al d (p.mem_iff.mp hd) e (p.mem_iff.mp he),
    h.kd.imp (fun z d hd => z d (p.mem_iff.mp hd)) fun z d hd => z d (p.mem_iff.mp hd)⟩
theorem SortOk.alike {ds : List D} (h : SortOk ds) : AllAlike (ds.map encD) := by
  intro x hx y hy
  obtain ⟨d, hd, rfl⟩ := List.mem_map.mp hx
  obtain ⟨e, he, rfl⟩ := List.mem_map.mp hy
  exact h.al d hd e he
theorem SortOk.sortable {ds : List D} (h : SortOk ds) : Sortable (ds.map encD) := by
  rcases h.kd with k | k
  · refine Or.inl fun x hx => ?_
    obtain ⟨d, hd, rfl⟩ := List.mem_map.mp hx
    have := k d hd
    cases e : encD d with
    | tuple xs =>
      cases xs with
      | nil => rw [e] at this; cases this
      | cons x r => exact ⟨x, r, rfl⟩
    | _ => rw [e] at this; cases this
  · refine Or.inr fun x hx => ?_
    obtain ⟨d, hd, rfl⟩ := List.mem_map.mp hx
    have := k d hd
    constructor
    · intro e; rw [e] at this; cases this
    · intro xs e; rw [e] at this; cases this
mutual
theorem reads_lt {h : Heap} : ∀ {v : Value} {d : PyData} {as : List Addr}, Reads h v d as → ∀ b ∈ as, b < h.objs.size
  | _, _, _, .none, b, m => by cases m
  | _, _, _, .bool _, b, m => by cases m
  | _, _, _, .int _ _, b, m => by cases m
  | _, _, _, .str _ _, b, m => by cases m
  | _, _, _, .list h1 _ _ h4, b, m => by
    rcases List.mem_cons.mp m with e | m
    · rw [e]; exact Heap.lt_size h1
    · exact readsAll_lt h4 b m
  | _, _, _, .tuple h1 _ _ h4, b, m => readsAll_lt h4 b m
  | _, _, _, .dict h1 _ _ h4 h5, b, m => by
    rcases List.mem_append.mp m with m | m
    · rcases List.mem_cons.mp m with e | m
      · rw [e]; exact Heap.lt_size h1
      · exact readsAll_lt h4 b m
    · exact readsAll_lt h5 b m
theorem readsAll_lt {h : Heap} : ∀ {vs : List Value} {ds : List PyData} {as : List Addr}, ReadsAll h vs ds as → ∀ b ∈ as, b < h.objs.size
  | _, _, _, .nil, b, m => by cases m
  | _, _, _, .cons h1 h2, b, m => by
    rcases List.mem_append.mp m with m | m
    · exact reads_lt h1 b m
    · exact readsAll_lt h2 b m
end
/-- a value stands for data -/
def StFor (K : Fg) (F : Hp) (u : Value) (d : D) : Prop := ∃ x : V, RelV x u ∧ Rep K F d x
theorem each_for {K : Fg} {F : Hp} : ∀ {ds : List D} {xs : List V} {us : List Value}, Reps K F ds xs → Vals xs us → EachIs (StFor K F) us ds
  | [], xs, us, r, v => by
    rw [r.inv0] at v
    cases v
    exact .nil
  | d :: ds, xs, us, r, v => by
    obtain ⟨x, ys, rfl, r1, r2⟩ := r.inv
    cases v with
    | cons h t => exact .cons ⟨x, h, r1⟩ (each_for r2 t)
theorem for_each {K : Fg} {F : Hp} : ∀ {ds : List D} {us : List Value}, EachIs (StFor K F) us ds → ∃ xs, Vals xs us ∧ Reps K F ds xs
  | _, _, .nil => ⟨[], .nil, reps_nil⟩
  | _, _, .cons ⟨x, h1, h2⟩ t => by
    obtain ⟨xs, h3, h4⟩ := for_each t
    exact ⟨x :: xs, .cons h1 h3, reps_cons h2 h4⟩
section
variable {X : Cx} {pins : List (Addr × Obj)} {σ : St} {F H : Hp} {s : Shared}
theorem each_mem2 {α β : Type} {R : α → β → Prop} : ∀ {as : List α} {bs : List β}, EachIs R as bs → EachIs (fun a b => R a b ∧ b ∈ bs) as bs
  | _, _, .nil => .nil
  | _, _, .cons h t => .cons ⟨h, List.mem_cons_self⟩ ((each_mem2 t).mono fun _ _ q => ⟨q.1, List.mem_cons_of_mem _ q.2⟩)
theorem StFor.reads {u : Value} {d : D} (I : Inv X pins σ H s) (fh : Same F H) (h : StFor X.K F u d) (e : toPy d = some (encD d)) : ∃ as, Reads s.heap u (encD d) as ∧ ∀ b ∈ as, b < s.heap.objs.size := by
  obtain ⟨x, h1, h2⟩ := h
  obtain ⟨as, r⟩ := Dp.reads I (encD d) x u (toPy_dp (h2.mono fh) e) h1
  exact ⟨as, r, reads_lt r⟩
/-- sorted, whatever is gathered -/
theorem sorted_coll {a : Addr} {C : List D → Prop} {Q : VK} (I : Inv X pins σ H s) (fh : Same F H) (ok : ∀ es, C es → SortOk es) (hu : X.A.units + 65 < cLine)
    (hC : ∀ (R : List Value → Shared → Prop) (E : Value → Shared → Prop), (∀ (s1 : Shared) (us : List Value) (es : List D), (∀ b o, s.heap.get? b = some o → s1.heap.get? b = some o) → s1.gens = s.gens → s1.os = s.os → C es → EachIs (StFor X.K F) us es → R us s1) →
      wpAny (model X.prog X.w) X.A.in1 (collect (.ref a)) R E s)
    (hQ : ∀ (p : Addr) (es : List D) (xs : List V), H p = none → C es → Reps X.K F (sortD es) xs → Q (.ref p) (upd H p (.lst xs))) :
    wpAny (model X.prog X.w) X.A (call (.builtin "sorted") [.ref a]) (EP X pins σ Q) X.xe s := by
  refine Calls.call_function_entry PyProof.Rows.kind_sorted PyProof.Rows.plain_sorted PyProof.Rows.entry_sorted (PyProof.Rows.args_sorted1 _) ?_
  unfold Builtin.«sorted»
  refine wpAny_bind (m := checkCount "sorted" 1 1 _) (wpAny_pure ?_)
  refine wpAny_bind (hC _ _ fun s1 us es k1 g1 o1 pm ev => ?_)
  have ok1 := ok es pm
  have lu : us.length = es.length := ev.length
  have hz : us.length ≤ sizeLine := by rw [lu]; exact LB_size ok1.len
  refine wpAny_bind (wpAny_newList ?_ hz)
  have hoL : (s1.heap.push (seqObj "list" us.toArray 0)).get? s1.heap.objs.size = some (seqObj "list" us.toArray 0) := Heap.get?_push_size _ rfl
  have er : EachIs (fun u d => ∃ as, Reads (s1.heap.push (seqObj "list" us.toArray 0)) u (encD d) as ∧ s1.heap.objs.size ∉ as) us es := (each_mem2 ev).mono fun u d q => by
    obtain ⟨as, r, _⟩ := StFor.reads I fh q.1 (ok1.py d q.2)
    have r1 := PyProof.Rows.Reads.keeps k1 r
    exact ⟨as, PyProof.Rows.Reads.keeps (fun b o e => Heap.get?_push_of_some _ e) r1, fun m => absurd (reads_lt r1 _ m) (Nat.lt_irrefl _)⟩
  refine wpAny_bind (wpAny_holding (PySem.W.list_sort_data (s := { s1 with heap := s1.heap.push (seqObj "list" us.toArray 0) }) hoL ev er ok1.alike ok1.sortable (LB_size ok1.len) (fun d hd => ?_) fun out lo eo => ?_))
  · have := ok1.dep d hd
    show X.A.in1.units + 1 + _ < cLine
    have e1 : X.A.in1.units = X.A.units + 1 := rfl
    omega
  · obtain ⟨xs, v1, v2⟩ := for_each eo
    obtain ⟨c, hc⟩ := PyProof.Rows.sortedHeap_at (vs := us) (out := out.toArray) hoL
    have hlen : xs.length ≤ sizeLine := by rw [v1.length, lo]; exact LB_size ok1.len
    have hn : H s1.heap.objs.size = none := (I.hok.kept k1).fresh (Nat.le_refl _)
    have hg0 : s.heap.get? s1.heap.objs.size = none := by
      cases q : s.heap.get? s1.heap.objs.size with
      | none => rfl
      | some u => exact absurd (Heap.lt_size (k1 _ u q)) (Nat.lt_irrefl _)
    have kk : ∀ b u, s.heap.get? b = some u → (PyProof.Rows.sortedHeap (s1.heap.push (seqObj "list" us.toArray 0)) s1.heap.objs.size us out.toArray).get? b = some u := fun b u e => by
      have q := k1 b u e
      have hlt := Heap.lt_size q
      rw [PyProof.Rows.sortedHeap_old (Nat.ne_of_lt hlt) (by rw [Heap.size_push]; exact Nat.lt_succ_of_lt hlt)]
      exact Heap.get?_push_of_some _ q
    have J := I.call (ch := []) (g' := s1.gens) (d' := s1.drawn) (t' := s1.toks) (Un.laidN kk hg0 hn) (I.hok.laidN (o := .lst xs) kk hn ⟨hlen, out, c, v1, hc⟩) (by rw [g1]; exact I.bare) (fun _ z => nomatch z)
    refine wpAny_pure ⟨_, rfl, .ref s1.heap.objs.size, _, ?_, rfl, hQ _ es xs hn pm v2⟩
    have e : ({ s1 with heap := PyProof.Rows.sortedHeap (s1.heap.push (seqObj "list" us.toArray 0)) s1.heap.objs.size us out.toArray } : Shared) = { s with heap := PyProof.Rows.sortedHeap (s1.heap.push (seqObj "list" us.toArray 0)) s1.heap.objs.size us out.toArray, gens := s1.gens, drawn := s1.drawn, toks := s1.toks } := by
      cases s1
      cases s
      cases o1
      rfl
    exact e ▸ J
/-- sorted(xs), a list or a tuple -/
def rSortQ (K : Fg) : List V → Hp → VK → Prop := fun vs H Q => ∃ (F : Hp) (a : Addr) (ds : List D) (xs : List V), Same F H ∧ vs = [.ref a] ∧ (SqL K H a xs ∨ SqT K H a xs) ∧ Reps K F ds xs ∧ SortOk ds ∧ ∀ p ys, H p = none → Reps K F (sortD ds) ys → Q (.ref p) (upd H p (.lst ys))
theorem cr_sortQ (hu : X.A.units + 65 < cLine) : CallR X (.builtin "sorted") (rSortQ X.K) := by
  intro pins s σ H vs us Q I r h
  obtain ⟨F, a, ds, xs, fh, rfl, hq, rs, ok, q⟩ := h
  rw [Vals.ref1 r]
  refine sorted_coll (C := fun es => es = ds) I fh (fun es e => e ▸ ok) hu (fun R E hR => ?_) fun p es ys hp e rp => ?_
  · rcases hq with hq | hq
    · obtain ⟨its, rv, hl, hz⟩ := I.list hq
      obtain ⟨o, ho, hc, n, hd⟩ := hl.isList
      refine wpAny_collect_seq a (Or.inl rfl) ho hc hd (fun h' k => ?_) (by rw [List.size_toArray, ← rv.length]; exact hz)
      exact hR { s with heap := h' } its ds k rfl rfl rfl (each_for rs rv)
    · obtain ⟨its, rv, hl, hz⟩ := I.tuple hq
      obtain ⟨o, ho, hc, n, hd⟩ := hl
      refine wpAny_collect_seq a (Or.inr rfl) ho hc hd (fun h' k => ?_) (by rw [List.size_toArray, ← rv.length]; exact hz)
      exact hR { s with heap := h' } its ds k rfl rfl rfl (each_for rs rv)
  · subst e
    exact q p ys hp rp
def sortF : D → Option (List D)
  | .lst ds => if sortOk ds then some (sortD ds) else none
  | .tup ds => if sortOk ds then some (sortD ds) else none
  | _ => none
theorem sortD_len (ds : List D) : (sortD ds).length = ds.length := List.length_mergeSort _
theorem prim_sort {K : Fg} : PrimNA K (rSortQ K) (fN1 sortF) := primN1 fun F H v d ds fh hv hf Q k => by
  cases d with
  | lst es =>
    obtain ⟨h1, rfl⟩ := if_some (show (if sortOk es = true then some (sortD es) else none) = some ds from hf)
    obtain ⟨a, vs, rfl, g1, g2, g3⟩ := hv.lst fh
    have ok := sortOk_iff.mp h1
    exact ⟨F, a, es, vs, fh, rfl, Or.inl (Or.inl (Or.inl g1)), g3, ok, fun p ys hp rp => k p _ ys hp (same_upd hp) upd_same (by rw [sortD_len]; exact ok.len) rp⟩
  | tup es =>
    obtain ⟨h1, rfl⟩ := if_some (show (if sortOk es = true then some (sortD es) else none) = some ds from hf)
    obtain ⟨a, vs, rfl, g1, g2, g3⟩ := hv.tup
    have ok := sortOk_iff.mp h1
    exact ⟨F, a, es, vs, fh, rfl, Or.inr (same_t fh g1.sq), g3, ok, fun p ys hp rp => k p _ ys hp (same_upd hp) upd_same (by rw [sortD_len]; exact ok.len) rp⟩
  | _ => cases hf
end
end DL

set_option Elab.async false
set_option linter.all false
set_option maxRecDepth 100000
set_option maxHeartbeats 1000000
/-! DLl: sets of whole numbers or texts: made of a list or a tuple, their length, sorted. -/
namespace DL
open PySem L2
def kOf (e : Int × Value) : Key := match e.2 with
  | .int i _ => Sum.inl i
  | .str x _ => Sum.inr x
  | _ => Sum.inl 0
def GoodK (w : World) (e : Int × Value) : Prop := ∃ k, RelV (kV k) e.2 ∧ e.1 = keyH w k
theorem kOf_rel {k : Key} {v : Value} {h : Int} (r : RelV (kV k) v) : kOf (h, v) = k := by
  cases k with
  | inl i => obtain ⟨t, rfl⟩ := r; rfl
  | inr x => obtain ⟨t, rfl⟩ := r; rfl
theorem GoodK.is {P : Program} {w : World} {e : Int × Value} (g : GoodK w e) (k : Key) : (mixKind P w).is k e.2 = true ↔ kOf e = k := by
  obtain ⟨k0, h1, h2⟩ := g
  have e0 : kOf e = k0 := kOf_rel (h := e.1) h1
  rw [e0]
  have z := kV_is (P := P) (w := w) h1
  exact ⟨fun q => (mixKind P w).inj _ _ _ z q, fun q => q ▸ z⟩
theorem good_elemsK {P : Program} {w : World} {l : List (Int × Value)} (g : ∀ e ∈ l, GoodK w e) : ElemsOf (mixKind P w) l := fun e he => by
  obtain ⟨k, h1, h2⟩ := g e he
  exact ⟨⟨k, kV_is h1, h2⟩, key_scan h1⟩
/-- what a table holds -/
structure TabG (w : World) (ks : List Key) (es : Array (Int × Value)) (t : SetTable) : Prop where
  good : ∀ e ∈ es.toList, GoodK w e
  nd : (es.toList.map kOf).Nodup
  mem : ∀ k, k ∈ es.toList.map kOf ↔ k ∈ ks
  le : es.size ≤ ks.length
  sb : es.size < scanBound
  fits : t.fits es.size = true
  ris : Ris t.place.toList
  led : w.params.followText "set-order" = true ∨ t.led = true
def SetG (w : World) (h : Heap) (a : Addr) (ks : List Key) : Prop := ∃ o es ep t, h.get? a = some o ∧ o.ExactSet ∧ o.data = .set es ep t ∧ TabG w ks es t
theorem SetG.keep {w : World} {h h' : Heap} {a : Addr} {ks : List Key} (R : SetG w h a ks) (k : ∀ o, h.get? a = some o → h'.get? a = some o) : SetG w h' a ks := by
  obtain ⟨o, es, ep, t, ho, r⟩ := R
  exact ⟨o, es, ep, t, k o ho, r⟩
section
variable {P : Program} {w : World} {A : Around} {E : Value → Shared → Prop} {s : Shared} {a : Addr} {ks : List Key}
theorem tailG {g : Bool → Sem Unit} (hg : ∀ (b : Bool) (s1 : Shared) (Q' : Unit → Shared → Prop), Q' () s1 → wpAny (model P w) A (g b) Q' E s1) {o : Obj} {es es1 : Array (Int × Value)} {ep : Nat} {t t2 : SetTable}
    (ho : s.heap.get? a = some o) (hex : o.ExactSet) (hd : o.data = .set es ep t) (T : TabG w ks es1 t2) {b : Bool} {R : Option Bool → Shared → Prop} (hR : ∀ h', Heap.SameBut a s.heap h' → SetG w h' a ks → R (some true) { s with heap := h' }) :
    wpAny (model P w) A (do
        storeSet a es1 t2
        if (!b && t2.tooFull) = true then do
            g (relayAll t2 es1 (SetTable.grown es1.size)).2.2
            storeSet a (relayAll t2 es1 (SetTable.grown es1.size)).1 (relayAll t2 es1 (SetTable.grown es1.size)).2.1
            pure (some true)
          else pure (some true)) R E s := by
  refine wpAny_bind (wpAny_storeSet_of ho hd ?_ (fits_of_scanBound T.sb))
  have o1 := store_at (es' := es1) (t' := t2) ho hd
  have b1 := Heap.SameBut.update s.heap a (Obj.putSet es1 t2)
  split
  · have x1 := relayAll_perm t2 es1 (SetTable.grown es1.size)
    have x2 := relayAll_fits t2 es1 (SetTable.grown es1.size)
    have x3 := relayAll_ris t2 es1 (SetTable.grown es1.size)
    have x4 := relayAll_led t2 es1 (SetTable.grown es1.size)
    generalize relayAll t2 es1 (SetTable.grown es1.size) = Z at x1 x2 x3 x4 ⊢
    obtain ⟨es2, t3, gv⟩ := Z
    dsimp only at x1 x2 x3 x4 ⊢
    have z : es2.size = es1.size := by rw [← Array.length_toList, x1.length_eq, Array.length_toList]
    have T2 : TabG w ks es2 t3 := ⟨fun e he => T.good e (x1.mem_iff.mp he), (x1.map kOf).nodup_iff.mpr T.nd, fun k => (x1.map kOf).mem_iff.trans (T.mem k), by rw [z]; exact T.le, by rw [z]; exact T.sb, x2, x3, T.led.imp id fun q => by rw [x4]; exact q⟩
    refine wpAny_bind (hg _ _ _ ?_)
    refine wpAny_bind (wpAny_storeSet_of o1 rfl ?_ (fits_of_scanBound T2.sb))
    exact wpAny_pure (hR _ (b1.trans (Heap.SameBut.update _ a _)) ⟨_, es2, _, t3, store_at (es' := es2) (t' := t3) o1 rfl, hex, rfl, T2⟩)
  · exact wpAny_pure (hR _ b1 ⟨_, es1, _, t2, o1, hex, rfl, T⟩)
theorem addG {k : Key} {v : Value} {Q : Bool → Shared → Prop} (R : SetG w s.heap a ks) (rv : RelV (kV k) v) (room : ks.length + 1 < scanBound) (hQ : ∀ h' b, Heap.SameBut a s.heap h' → SetG w h' a (ks ++ [k]) → Q b { s with heap := h' }) :
    wpAny (model P w) A (setAddHashed a v ((mixKind P w).hash k)) Q E s := by
  obtain ⟨o, es, ep, t, ho, hex, hd, T⟩ := R
  have is0 : (mixKind P w).is k v = true := kV_is rv
  have sc0 : v.scannable = true := key_scan rv
  have el0 : ElemsOf (mixKind P w) es.toList := good_elemsK T.good
  unfold setAddHashed setAddHashedIn
  refine wpAny_holding (wpAny_bind (wpAny_setState_of ho hd T.fits ?_))
  dsimp only
  rw [byScan_of sc0 T.sb el0]
  simp only [↓reduceIte]
  unfold setAddByScan
  refine wpAny_bind (wpAny_bind (wpAny_rule (wpAny_bind (wpAny_setScan_of is0 ho hd T.fits el0 ?_))))
  cases hfi : List.findIdx? (fun e => (mixKind P w).is k e.2) es.toList with
  | some j =>
    dsimp only
    obtain ⟨hj, pj, _⟩ := List.findIdx?_eq_some_iff_getElem.mp hfi
    have hk : k ∈ ks := (T.mem k).mp (List.mem_map.mpr ⟨es.toList[j], List.getElem_mem hj, ((T.good _ (List.getElem_mem hj)).is k).mp pj⟩)
    refine wpAny_pure (wpAny_pure (hQ s.heap _ (Heap.SameBut.refl a s.heap) ⟨o, es, ep, t, ho, hex, hd, T.good, T.nd, fun i => (T.mem i).trans ?_, by rw [List.length_append]; exact Nat.le_succ_of_le T.le, T.sb, T.fits, T.ris, T.led⟩))
    rw [List.mem_append, List.mem_singleton]
    exact ⟨Or.inl, fun q => q.elim id fun e => e ▸ hk⟩
  | none =>
    dsimp only
    have hnk : k ∉ es.toList.map kOf := fun z => by
      obtain ⟨e, he, q⟩ := List.mem_map.mp z
      have c := List.findIdx?_eq_none_iff.mp hfi e he
      rw [((T.good e he).is k).mpr q] at c
      cases c
    have x1 := layNew_perm t es ((mixKind P w).hash k) v
    have x2 := layNew_fits t es ((mixKind P w).hash k) v
    have x3 := layNew_ris t es ((mixKind P w).hash k) v T.ris
    have x4 := layNew_led t es ((mixKind P w).hash k) v
    generalize layNew t es ((mixKind P w).hash k) v = Z at x1 x2 x3 x4 ⊢
    obtain ⟨es1, t1, wd, gv⟩ := Z
    dsimp only at x1 x2 x3 x4 ⊢
    rw [Array.toList_push] at x1
    have pc : es1.toList.Perm (((mixKind P w).hash k, v) :: es.toList) := x1.trans (List.perm_append_singleton _ _)
    have pk : (es1.toList.map kOf).Perm (k :: es.toList.map kOf) := by
      have q := pc.map kOf
      rw [List.map_cons, kOf_rel rv] at q
      exact q
    have z : es1.size = es.size + 1 := by rw [← Array.length_toList, pc.length_eq, List.length_cons, Array.length_toList]
    have mk : ∀ t2 : SetTable, t2.fits es1.size = true → Ris t2.place.toList → t2.led = t1.led → TabG w (ks ++ [k]) es1 t2 := fun t2 y1 y2 y3 => by
      refine ⟨fun e he => ?_, pk.nodup_iff.mpr (List.nodup_cons.mpr ⟨hnk, T.nd⟩), fun i => ?_, ?_, ?_, y1, y2, T.led.imp id fun q => by rw [y3, x4]; exact q⟩
      · rcases List.mem_cons.mp (pc.mem_iff.mp he) with q | q
        · rw [q]; exact ⟨k, rv, rfl⟩
        · exact T.good e q
      · rw [pk.mem_iff, List.mem_cons, T.mem i, List.mem_append, List.mem_singleton]
        exact Or.comm
      · rw [z, List.length_append]; exact Nat.succ_le_succ T.le
      · rw [z]; exact Nat.lt_of_le_of_lt (Nat.succ_le_succ T.le) room
    have gw : ∀ (b : Bool) (s1 : Shared) (Q' : Unit → Shared → Prop), Q' () s1 → wpAny (model P w) A (match b with | true => rule "set.scan.the-table-gave-way" | false => pure ()) Q' E s1 := fun b s1 Q' q => by
      cases b
      · exact wpAny_pure q
      · exact wpAny_rule q
    refine wpAny_bind (gw _ _ _ ?_)
    split
    · refine wpAny_bind ?_
      rw [hashByValue_scannable 8 sc0]
      refine wpAny_pure (tailG (fun b s1 Q' q => by cases b <;> first | exact wpAny_pure q | exact wpAny_rule q) ho hex hd (mk _ ?_ ?_ ?_) fun h' sb r => by dsimp only; exact wpAny_pure (hQ h' _ sb r))
      · first | (split <;> first | exact x2 | exact SetTable.fits_plain_off x2) | exact x2
      · first | (split <;> exact x3) | exact x3
      · first | (split <;> rfl) | rfl
    · refine wpAny_bind (wpAny_pure ?_)
      simp only [↓reduceIte]
      exact tailG (fun b s1 Q' q => by cases b <;> first | exact wpAny_pure q | exact wpAny_rule q) ho hex hd (mk _ x2 x3 rfl) fun h' sb r => by dsimp only; exact wpAny_pure (hQ h' _ sb r)
/-- set.update's loop -/
theorem loopG {I : Addr} {fp wr : List Addr} {G : Array GenState → Array GenState → Prop} {n : Nat} {Pv : Nat → Value → Prop} {St : Nat → Shared → Prop} {R : Result → Shared → Prop} (W : WalksS P w A.in1 I fp wr G n Pv St) (S : Addr) (hSf : S ∉ fp)
    (hn : n = ks.length) (few : ks.length + 1 < scanBound) (hval : ∀ i v, Pv i v → ∃ k, ks[i]? = some k ∧ RelV (kV k) v) :
    ∀ (m i : Nat) (s : Shared), n - i = m → i ≤ n → St i s → SetG w s.heap S (ks.take i) → (∀ s', Moved (S :: wr) G s s' → SetG w s'.heap S ks → R (.ok (.ret .none)) s') →
      codeAny (model P w) A (.builtin "set.update.loop" ⟨[.ref S, .ref I], []⟩) R s := by
  have hSw : S ∉ wr := fun h => hSf (W.sub _ h)
  have up : ∀ b ∈ wr, b ∈ S :: wr := fun b hb => List.mem_cons_of_mem _ hb
  intro m
  induction m with
  | zero =>
    intro i s em hi st g hR
    have ein : i = n := by omega
    subst ein
    refine codeAny_builtin PyProof.Rows.F.entry_set_update_loop ?_
    rw [Around.under_plainId PyProof.Rows.F.plain_set_update_loop _]
    show wpAny _ A.in1 (pyNext (.ref I) >>= _) _ _ s
    refine wpAny_bind (W.done s _ _ st fun s' mv => ?_)
    show wpAny _ A.in1 (ret Value.none) _ _ s'
    refine wpAny_pure (hR s' (mv.mono up) ?_)
    have g2 := g.keep (h' := s'.heap) fun o e => mv.heap S o hSw e
    rw [hn, List.take_length] at g2
    exact g2
  | succ m ih =>
    intro i s em hi st g hR
    have lt : i < n := by omega
    refine codeAny_builtin PyProof.Rows.F.entry_set_update_loop ?_
    rw [Around.under_plainId PyProof.Rows.F.plain_set_update_loop _]
    show wpAny _ A.in1 (pyNext (.ref I) >>= _) _ _ s
    refine wpAny_bind (W.item i s _ _ lt st fun v s' hP st' mv => ?_)
    obtain ⟨k, hk, rk⟩ := hval i v hP
    have g1 := g.keep (h' := s'.heap) fun o e => mv.heap S o hSw e
    show wpAny _ A.in1 (holding [v] (setAdd S v) >>= _) _ _ s'
    refine wpAny_bind (wpAny_holding ?_)
    unfold setAdd
    refine wpAny_holding (wpAny_bind ((mixKind P w).pyHash (k := k) (kV_is rk) ?_))
    refine addG (s := { s' with toks := s'.toks + 1 }) g1 rk (by rw [List.length_take]; omega) fun h' b sb g2 => ?_
    have e2 : ks.take i ++ [k] = ks.take (i + 1) := by rw [List.take_add_one, hk]; rfl
    rw [e2] at g2
    refine wpAny_pure ⟨plainId_quiet PyProof.Rows.F.plain_set_update_loop _, ih (i + 1) _ (by omega) lt (W.frame _ s' _ _ st' (Nat.le_succ _) fun b hb o e => ?_) g2 fun s2 mv2 g3 => hR s2 (Moved.trans W.gtrans ((mv.mono up).then_heap (Nat.le_succ _) fun b o hb e => ?_) mv2) g3⟩
    · rw [sb.2 b fun q : b = S => hSf (q ▸ hb)]; exact e
    · rw [sb.2 b fun q : b = S => hb (by rw [q]; exact List.mem_cons_self)]; exact e
abbrev freshSet (w : World) : Obj := { cls := .type "set", dict := none, data := .set #[] 0 (.fresh 0 0 (!w.params.followText "set-order")) }
theorem freshG {h : Heap} (ho : h.get? a = some (freshSet w)) : SetG w h a [] := by
  refine ⟨_, #[], 0, _, ho, ⟨rfl, rfl, rfl⟩, rfl, fun e he => by simp at he, by simp, fun k => by simp, Nat.le_refl _, by decide, by rfl, List.Pairwise.nil, ?_⟩
  show _ ∨ (!w.params.followText "set-order") = true
  cases w.params.followText "set-order"
  · exact .inr rfl
  · exact .inl rfl
set_option maxHeartbeats 3200000 in
/-- set(xs), xs a list -/
theorem set_listG {l : Addr} {items : Array Value} {Q : Value → Shared → Prop} (hh : A.handled = none) (hl : s.heap.IsList l items) (hv : ∀ (i : Nat) (v : Value), items[i]? = some v → ∃ k, ks[i]? = some k ∧ RelV (kV k) v) (hz : items.size = ks.length) (few : ks.length + 1 < scanBound)
    (h : ∀ (h' : Heap) (tk : Nat), SetG w h' s.heap.objs.size ks → (∀ b o, s.heap.get? b = some o → h'.get? b = some o) → Q (.ref s.heap.objs.size) { s with heap := h', toks := tk }) : wpAny (model P w) A (call (.type "set") [.ref l]) Q E s := by
  obtain ⟨c, tl, hmro⟩ := PySem.F.called_set.mro
  have hmade := PySem.F.called_set.made
  have hsub := PySem.F.called_set.sub
  refine wpAny_call (codeAny_of_tree ?_)
  show wpAny _ _ (callAny (.type "set") _) _ _ _
  refine wpAny_pure ⟨Code.quiet_builtin _ (by decide +kernel), codeAny_builtin PySem.F.entry_type_call ?_⟩
  rw [Around.under_plain (weight_type_call_type "set" [.ref l] []) rfl]
  have h1 := PySem.F.called_set.notType
  have h2 := PySem.F.called_set.canCreate
  have hct := PySem.F.typeCall_set_1 (.ref l)
  repeat (any_goals (first | assumption | wp_step))
  refine codeAny_mono (code_set_led1 (.ref l) (E := E) (Q₁ := fun ob s1 => ob = .ref s.heap.objs.size ∧ s1 = { s with heap := s.heap.push (freshSet w) }) ⟨rfl, rfl⟩) fun r s1 hr => ?_
  cases r with
  | error e => exact hr
  | ok fl =>
    cases fl with
    | ret ob =>
      obtain ⟨rfl, rfl⟩ := hr
      have hS : (s.heap.push (freshSet w)).get? s.heap.objs.size = some (freshSet w) := Heap.get?_push_size _ rfl
      have hT : Shared.TypeIs { s with heap := s.heap.push (freshSet w) } (.ref s.heap.objs.size) "set" := ⟨_, hS, rfl⟩
      have hli := PySem.F.called_set.init.lookup
      have hbi := PySem.F.called_set.init.bind (.ref s.heap.objs.size)
      repeat (any_goals (first | assumption | wp_step))
      refine codeAny_mono (codeAny_call_builtin (R := wants (fun r s2 => r = .none ∧ ∃ h' tk, s2 = { s with heap := h', toks := tk } ∧ SetG w h' s.heap.objs.size ks ∧ ∀ b o, s.heap.get? b = some o → h'.get? b = some o) E) PySem.F.called_set.init.plain PySem.F.entry_set_init (check_set_init_1 hT ?_)) fun r2 s2 hr2 => ?_
      · obtain ⟨⟨oc, od, oda, osl⟩, hol, hcl, nl, hdl⟩ := hl
        simp only at hcl hdl
        subst hcl
        subst hdl
        have hol' : (s.heap.push (freshSet w)).get? l = some { cls := .type "list", dict := od, data := .seq items nl, slots := osl } := Heap.get?_push_of_some _ hol
        have hsls := PySem.F.sub_list_set
        have hslf := PySem.F.sub_list_frozenset
        have hne : (Value.type "list" == Value.type "dict") = false := by decide
        have hl1 : (s.heap.push (freshSet w)).IsList l items := ⟨_, hol', rfl, nl, rfl⟩
        unfold Builtin.«set.__init__» noKeywords Builtin.Frozenset.updateFrom
        generalize hPI : pyIter = PI
        wp_walk
        subst hPI
        refine wpAny_pyIter_list hl1 (wpAny_bind (wpAny_runValue ?_))
        have hlS : l < s.heap.objs.size := Heap.lt_size hol
        have hh3 : A.in1.in1.in1.handled = none := by simp [hh]
        have hneI : l ≠ (s.heap.push (freshSet w)).objs.size := by rw [Heap.size_push]; exact Nat.ne_of_lt (Nat.lt_succ_of_lt hlS)
        have hSf : s.heap.objs.size ∉ [(s.heap.push (freshSet w)).objs.size, l] := by
          rw [Heap.size_push]
          simp only [List.mem_cons, List.mem_singleton, List.not_mem_nil, or_false, not_or]
          exact ⟨Nat.ne_of_lt (Nat.lt_succ_self _), Nat.ne_of_gt hlS⟩
        refine loopG ((Walks.list hh3 _ l hneI items).toS) s.heap.objs.size hSf hz few hv (items.size - 0) 0 _ (by omega) (Nat.zero_le _) ⟨⟨_, Heap.get?_push_size _ rfl, rfl, rfl⟩, (hl1.push _)⟩ ?_ ?_
        · rw [List.take_zero]
          exact freshG (Heap.get?_push_of_some _ hS)
        · intro s' hm g'
          obtain ⟨h', g2, d', tk', os'⟩ := s'
          have eg : g2 = s.gens := hm.gens
          have ed : d' = s.drawn := hm.drawn
          have eo : os' = s.os := hm.os
          subst eg
          subst ed
          subst eo
          show wpAny _ _ _ _ _ _
          refine wpAny_pure ?_
          show wpAny _ _ (ret Value.none) _ _ _
          refine wpAny_pure ⟨rfl, h', tk', rfl, g', fun b o e => ?_⟩
          have hb := Heap.lt_size e
          have n1 : b ≠ s.heap.objs.size := Nat.ne_of_lt hb
          have n2 : b ≠ (s.heap.push (freshSet w)).objs.size := by rw [Heap.size_push]; exact Nat.ne_of_lt (Nat.lt_succ_of_lt hb)
          exact hm.heap b o (by simp only [List.mem_cons, List.mem_singleton, List.not_mem_nil, or_false, not_or]; exact ⟨n1, n2⟩) (Heap.get?_push_of_some _ (Heap.get?_push_of_some _ e))
      · cases r2 with
        | error e => exact hr2
        | ok f2 =>
          cases f2 with
          | ret r =>
            obtain ⟨rfl, h', tk, rfl, g', k'⟩ := hr2
            repeat (any_goals (first | assumption | wp_step))
            exact h _ _ g' k'
          | _ => exact hr2.elim
    | _ => exact hr.elim
set_option maxHeartbeats 3200000 in
/-- set(xs), xs a tuple -/
theorem set_tupleG {l : Addr} {items : Array Value} {Q : Value → Shared → Prop} (hh : A.handled = none) (hl : s.heap.IsTuple l items) (hv : ∀ (i : Nat) (v : Value), items[i]? = some v → ∃ k, ks[i]? = some k ∧ RelV (kV k) v) (hz : items.size = ks.length) (few : ks.length + 1 < scanBound)
    (h : ∀ (h' : Heap) (tk : Nat), SetG w h' s.heap.objs.size ks → (∀ b o, s.heap.get? b = some o → h'.get? b = some o) → Q (.ref s.heap.objs.size) { s with heap := h', toks := tk }) : wpAny (model P w) A (call (.type "set") [.ref l]) Q E s := by
  obtain ⟨c, tl, hmro⟩ := PySem.F.called_set.mro
  have hmade := PySem.F.called_set.made
  have hsub := PySem.F.called_set.sub
  refine wpAny_call (codeAny_of_tree ?_)
  show wpAny _ _ (callAny (.type "set") _) _ _ _
  refine wpAny_pure ⟨Code.quiet_builtin _ (by decide +kernel), codeAny_builtin PySem.F.entry_type_call ?_⟩
  rw [Around.under_plain (weight_type_call_type "set" [.ref l] []) rfl]
  have h1 := PySem.F.called_set.notType
  have h2 := PySem.F.called_set.canCreate
  have hct := PySem.F.typeCall_set_1 (.ref l)
  repeat (any_goals (first | assumption | wp_step))
  refine codeAny_mono (code_set_led1 (.ref l) (E := E) (Q₁ := fun ob s1 => ob = .ref s.heap.objs.size ∧ s1 = { s with heap := s.heap.push (freshSet w) }) ⟨rfl, rfl⟩) fun r s1 hr => ?_
  cases r with
  | error e => exact hr
  | ok fl =>
    cases fl with
    | ret ob =>
      obtain ⟨rfl, rfl⟩ := hr
      have hS : (s.heap.push (freshSet w)).get? s.heap.objs.size = some (freshSet w) := Heap.get?_push_size _ rfl
      have hT : Shared.TypeIs { s with heap := s.heap.push (freshSet w) } (.ref s.heap.objs.size) "set" := ⟨_, hS, rfl⟩
      have hli := PySem.F.called_set.init.lookup
      have hbi := PySem.F.called_set.init.bind (.ref s.heap.objs.size)
      repeat (any_goals (first | assumption | wp_step))
      refine codeAny_mono (codeAny_call_builtin (R := wants (fun r s2 => r = .none ∧ ∃ h' tk, s2 = { s with heap := h', toks := tk } ∧ SetG w h' s.heap.objs.size ks ∧ ∀ b o, s.heap.get? b = some o → h'.get? b = some o) E) PySem.F.called_set.init.plain PySem.F.entry_set_init (check_set_init_1 hT ?_)) fun r2 s2 hr2 => ?_
      · obtain ⟨⟨oc, od, oda, osl⟩, hol, hcl, nl, hdl⟩ := hl
        simp only at hcl hdl
        subst hcl
        subst hdl
        have hol' : (s.heap.push (freshSet w)).get? l = some { cls := .type "tuple", dict := od, data := .seq items nl, slots := osl } := Heap.get?_push_of_some _ hol
        have hsls := PySem.F.sub_tuple_set
        have hslf := PySem.F.sub_tuple_frozenset
        have hne : (Value.type "tuple" == Value.type "dict") = false := by decide
        have hl1 : (s.heap.push (freshSet w)).IsTuple l items := ⟨_, hol', rfl, nl, rfl⟩
        unfold Builtin.«set.__init__» noKeywords Builtin.Frozenset.updateFrom
        generalize hPI : pyIter = PI
        wp_walk
        subst hPI
        refine wpAny_pyIter_tuple hl1 (wpAny_bind (wpAny_runValue ?_))
        have hlS : l < s.heap.objs.size := Heap.lt_size hol
        have hh3 : A.in1.in1.in1.handled = none := by simp [hh]
        have hneI : l ≠ (s.heap.push (freshSet w)).objs.size := by rw [Heap.size_push]; exact Nat.ne_of_lt (Nat.lt_succ_of_lt hlS)
        have hSf : s.heap.objs.size ∉ [(s.heap.push (freshSet w)).objs.size, l] := by
          rw [Heap.size_push]
          simp only [List.mem_cons, List.mem_singleton, List.not_mem_nil, or_false, not_or]
          exact ⟨Nat.ne_of_lt (Nat.lt_succ_self _), Nat.ne_of_gt hlS⟩
        refine loopG ((Walks.tuple hh3 _ l hneI items).toS) s.heap.objs.size hSf hz few hv (items.size - 0) 0 _ (by omega) (Nat.zero_le _) ⟨⟨_, Heap.get?_push_size _ rfl, rfl, rfl⟩, (hl1.push _)⟩ ?_ ?_
        · rw [List.take_zero]
          exact freshG (Heap.get?_push_of_some _ hS)
        · intro s' hm g'
          obtain ⟨h', g2, d', tk', os'⟩ := s'
          have eg : g2 = s.gens := hm.gens
          have ed : d' = s.drawn := hm.drawn
          have eo : os' = s.os := hm.os
          subst eg
          subst ed
          subst eo
          show wpAny _ _ _ _ _ _
          refine wpAny_pure ?_
          show wpAny _ _ (ret Value.none) _ _ _
          refine wpAny_pure ⟨rfl, h', tk', rfl, g', fun b o e => ?_⟩
          have hb := Heap.lt_size e
          have n1 : b ≠ s.heap.objs.size := Nat.ne_of_lt hb
          have n2 : b ≠ (s.heap.push (freshSet w)).objs.size := by rw [Heap.size_push]; exact Nat.ne_of_lt (Nat.lt_succ_of_lt hb)
          exact hm.heap b o (by simp only [List.mem_cons, List.mem_singleton, List.not_mem_nil, or_false, not_or]; exact ⟨n1, n2⟩) (Heap.get?_push_of_some _ (Heap.get?_push_of_some _ e))
      · cases r2 with
        | error e => exact hr2
        | ok f2 =>
          cases f2 with
          | ret r =>
            obtain ⟨rfl, h', tk, rfl, g', k'⟩ := hr2
            repeat (any_goals (first | assumption | wp_step))
            exact h _ _ g' k'
          | _ => exact hr2.elim
    | _ => exact hr.elim
end
end DL

set_option Elab.async false
set_option linter.all false
set_option maxRecDepth 100000
set_option maxHeartbeats 400000
/-! DLm: len(set(xs)), sorted(set(xs)); counts; comparisons of data. -/
namespace DL
open PySem L2
open PySem.W (EachIs AllAlike Sortable dataLe alike)
open PyProof.Rows (seqObj)
/-- each key once -/
def inK (k : Key) (ks : List Key) : Bool := ks.any fun q => decide (q = k)
theorem inK_iff {k : Key} {ks : List Key} : inK k ks = true ↔ k ∈ ks := by
  unfold inK
  rw [List.any_eq_true]
  exact ⟨fun ⟨q, h, e⟩ => of_decide_eq_true e ▸ h, fun h => ⟨k, h, decide_eq_true rfl⟩⟩
def dd : List Key → List Key
  | [] => []
  | k :: r => if inK k r then dd r else k :: dd r
theorem mem_dd {k : Key} : ∀ {ks : List Key}, k ∈ dd ks ↔ k ∈ ks
  | [] => Iff.rfl
  | q :: r => by
    unfold dd
    by_cases e : inK q r = true
    · rw [if_pos e, mem_dd, List.mem_cons]
      exact ⟨Or.inr, fun z => z.elim (fun z => z ▸ inK_iff.mp e) id⟩
    · rw [if_neg e, List.mem_cons, List.mem_cons, mem_dd]
theorem nodup_dd : ∀ (ks : List Key), (dd ks).Nodup
  | [] => List.nodup_nil
  | q :: r => by
    unfold dd
    by_cases e : inK q r = true
    · rw [if_pos e]; exact nodup_dd r
    · rw [if_neg e]; exact List.nodup_cons.mpr ⟨fun z => e (inK_iff.mpr (mem_dd.mp z)), nodup_dd r⟩
theorem TabG.perm {w : World} {ks : List Key} {es : Array (Int × Value)} {t : SetTable} (T : TabG w ks es t) : (es.toList.map kOf).Perm (dd ks) :=
  (List.perm_ext_iff_of_nodup T.nd (nodup_dd ks)).mpr fun k => (T.mem k).trans mem_dd.symm
theorem TabG.size {w : World} {ks : List Key} {es : Array (Int × Value)} {t : SetTable} (T : TabG w ks es t) : es.size = (dd ks).length := by
  have := T.perm.length_eq
  rw [List.length_map, Array.length_toList] at this
  exact this
def SetGO (w : World) (a : Addr) (ks : List Key) : HO := .ext fun h => SetG w h a ks
theorem setGO_new {w : World} {P : Program} {H : Hp} {h : Heap} {a : Addr} {ks : List Key} (R : SetG w h a ks) : ObjOk P w H h a (SetGO w a ks) := by
  have ⟨o, _, _, _, ho, _⟩ := R
  exact ⟨R, ⟨o, ho⟩, fun h1 h2 p k => SetG.keep p k⟩
def kD : Key → D
  | Sum.inl i => .int i
  | Sum.inr x => .str x
theorem kD_inj {K : Fg} {F : Hp} {k : Key} {v : V} (h : Rep K F (kD k) v) : v = kV k := by
  cases k with
  | inl i => exact Rep.int_iff.mp h
  | inr x => exact Rep.str_iff.mp h
theorem kDs_inj {K : Fg} {F : Hp} : ∀ {ks : List Key} {vs : List V}, Reps K F (ks.map kD) vs → vs = ks.map kV
  | [], vs, h => h.inv0
  | k :: r, vs, h => by
    obtain ⟨v, us, rfl, h1, h2⟩ := Reps.inv h
    rw [kD_inj h1, kDs_inj h2]
    rfl
section
variable {X : Cx}
def rSetG (K : Fg) (w : World) : List V → Hp → VK → Prop := fun vs H Q => ∃ (a : Addr) (ks : List Key), vs = [.ref a] ∧ (SqL K H a (ks.map kV) ∨ SqT K H a (ks.map kV)) ∧ ks.length ≤ 4000 ∧ ∀ p, H p = none → Q (.ref p) (upd H p (SetGO w p ks))
theorem keys_at {ks : List Key} {its : List Value} (rv : Vals (ks.map kV) its) : (∀ (i : Nat) (v : Value), its.toArray[i]? = some v → ∃ k, ks[i]? = some k ∧ RelV (kV k) v) ∧ its.toArray.size = ks.length := by
  have l := rv.length
  rw [List.length_map] at l
  refine ⟨fun i v e => ?_, by rw [List.size_toArray, l]⟩
  have e' : its[i]? = some v := by simpa using e
  have hi : i < ks.length := by rw [l]; exact (List.getElem?_eq_some_iff.mp e').1
  obtain ⟨u, h1, h2⟩ := rv.get (i := i) (x := kV ks[i]) (by rw [List.getElem?_map, List.getElem?_eq_getElem hi]; rfl)
  rw [e'] at h1
  cases h1
  exact ⟨ks[i], List.getElem?_eq_getElem hi, h2⟩
theorem cr_setG (hc : X.calm = true) : CallR X (.type "set") (rSetG X.K X.w) := by
  intro pins s σ H vs us Q I r h
  obtain ⟨a, ks, rfl, hq, few, q⟩ := h
  rw [Vals.ref1 r]
  have fw : ks.length + 1 < scanBound := by have : scanBound = 4096 := rfl; omega
  have fin : ∀ (h' : Heap) (tk : Nat), SetG X.w h' s.heap.objs.size ks → (∀ b o, s.heap.get? b = some o → h'.get? b = some o) → EP X pins σ Q (.ref s.heap.objs.size) { s with heap := h', toks := tk } := fun h' tk g k =>
    ⟨.ref _, upd H s.heap.objs.size (SetGO X.w s.heap.objs.size ks), I.laid (t' := tk) k (Nat.le_refl _) (setGO_new g), rfl, q _ (I.hok.fresh (Nat.le_refl _))⟩
  rcases hq with hq | hq
  · obtain ⟨its, rv, hl, hz⟩ := I.list hq
    obtain ⟨k1, k2⟩ := keys_at rv
    exact set_listG (I.ok.hd hc) hl.isList k1 k2 fw fin
  · obtain ⟨its, rv, hl, hz⟩ := I.tuple hq
    obtain ⟨k1, k2⟩ := keys_at rv
    exact set_tupleG (I.ok.hd hc) hl k1 k2 fw fin
def rLenG (w : World) : List V → Hp → VK → Prop := fun vs H Q => ∃ (a : Addr) (ks : List Key), vs = [.ref a] ∧ H a = some (SetGO w a ks) ∧ Q (.int ((dd ks).length : Nat)) H
theorem cr_lenG : CallR X (.builtin "len") (rLenG X.w) := by
  intro pins s σ H vs us Q I r h
  obtain ⟨a, ks, rfl, ha, q⟩ := h
  rw [Vals.ref1 r]
  obtain ⟨o, es, ep, t, ho, hex, hd, T⟩ := (I.hok a _ ha).1
  refine call_len_set ho hex hd T.fits (by have := T.sb; have : scanBound = 4096 := rfl; omega) ⟨.int ((dd ks).length : Nat), H, I.tok _, ⟨_, by rw [T.size]⟩, q⟩
/-! the order of keys is one of equals alone -/
/-! what the mirrors say -/
def keysD : List D → Option (List Key)
  | [] => some []
  | d :: r => match keyD d, keysD r with
    | some k, some ks => some (k :: ks)
    | _, _ => none
theorem keysD_map : ∀ {ds : List D} {ks : List Key}, keysD ds = some ks → ds = ks.map kD
  | [], ks, h => by cases h; rfl
  | d :: r, ks, h => by
    simp only [keysD] at h
    cases e1 : keyD d with
    | none => simp only [e1] at h; cases h
    | some k =>
      cases e2 : keysD r with
      | none => simp only [e1, e2] at h; cases h
      | some qs =>
        simp only [e1, e2] at h
        cases h
        rw [keysD_map e2]
        cases d with
        | int i => cases e1; rfl
        | str x => cases e1; rfl
        | _ => cases e1
def seqD : D → Option (List D)
  | .lst ds => some ds
  | .tup ds => some ds
  | _ => none
def setKeys (d : D) : Option (List Key) := match seqD d with
  | some ds => match keysD ds with
    | some ks => if ks.length ≤ 4000 then some ks else none
    | none => none
  | none => none
def lenSetD (d : D) : Option D := (setKeys d).map fun ks => .int ((dd ks).length : Nat)
theorem setKeys_some {K : Fg} {F H : Hp} {v : V} {d : D} {ks : List Key} (fh : Same F H) (hv : RepR K F H v d) (h : setKeys d = some ks) : ∃ a, v = .ref a ∧ (SqL K H a (ks.map kV) ∨ SqT K H a (ks.map kV)) ∧ ks.length ≤ 4000 := by
  unfold setKeys at h
  cases d with
  | lst ds =>
    simp only [seqD] at h
    cases e : keysD ds with
    | none => simp only [e] at h; cases h
    | some qs =>
      simp only [e] at h
      obtain ⟨h1, rfl⟩ := if_some h
      obtain ⟨a, vs, rfl, g1, g2, g3⟩ := hv.lst fh
      rw [keysD_map e] at g3
      rw [kDs_inj g3] at g1
      exact ⟨a, rfl, Or.inl (Or.inl (Or.inl g1)), h1⟩
  | tup ds =>
    simp only [seqD] at h
    cases e : keysD ds with
    | none => simp only [e] at h; cases h
    | some qs =>
      simp only [e] at h
      obtain ⟨h1, rfl⟩ := if_some h
      obtain ⟨a, vs, rfl, g1, g2, g3⟩ := hv.tup
      rw [keysD_map e] at g3
      rw [kDs_inj g3] at g1
      exact ⟨a, rfl, Or.inr (same_t fh g1.sq), h1⟩
  | _ => cases h
def rLenSet (K : Fg) (w : World) : List V → Hp → VK → Prop := fun vs H Q => rSetG K w vs H fun v H1 => rLenG w [v] H1 Q
theorem prim_lenSet {K : Fg} {w : World} : PrimA K (rLenSet K w) (fA1 lenSetD) := primA1 fun F H v d e fh hv hf Q k => by
  unfold lenSetD at hf
  cases e1 : setKeys d with
  | none => rw [e1] at hf; cases hf
  | some ks =>
    rw [e1] at hf
    cases hf
    obtain ⟨a, rfl, g1, g2⟩ := setKeys_some fh hv e1
    exact ⟨a, ks, rfl, g1, g2, fun p hp => ⟨p, ks, rfl, upd_same, k F _ _ ⟨Same.refl _, fh.trans (same_upd hp), same_upd hp, fun _ _ q => Or.inl q⟩ (Rep.int_iff.mpr rfl)⟩⟩
/-- len(set(a)), sorted(set(a)) -/
theorem x_lenSet {K : Fg} {W : WX} {a : Expr} {ta : TE} {oa : M Op} {p1 p2 p3 pos : Pos} (hc : X.calm = true) (hm1 : X.mg "len" = none) (hm2 : X.mg "set" = none) (ha : XO X W a ta oa) (hg1 : Gl X "len" := by rfl) (hg2 : Gl X "set" := by rfl)
    (hs : starEach [a] X.env = (false, eval a X.env) :: starEach [] X.env := by rfl) (hK : X.K = K := by rfl) :
    XE X W (.Call (.Name "len" p1) [.Call (.Name "set" p2) [a] [] p3] [] pos) (tCB (rLenG X.w) (tCons (tCB (rSetG K X.w) (tCons ta tNil)) tNil)) (mA (fA1 lenSetD) (maCons oa maNil)) := by
  subst hK
  exact ⟨pe_callB cr_lenG hg1 hm1 boot_len (pa_cons (pe_callTy (cr_setG hc) hg2 hm2 PyProof.Rows.boot_set (pa_cons ha.p pa_nil hs) (by decide) (by decide) hs rfl) pa_nil rfl) (by decide) (by decide) rfl rfl, (show Ev X.K W (tCB (rLenSet X.K X.w) (tCons ta tNil)) _ from ev_A prim_lenSet (ea_cons ha.v ea_nil))⟩
end
end DL

set_option Elab.async false
set_option linter.all false
set_option maxRecDepth 100000
set_option maxHeartbeats 400000
/-! DLn: more that is walked (texts, enumerate), count, turned about, unpacked. -/
namespace DL
open PySem L2
open PySem.W (EachIs AllAlike Sortable dataLe alike)
/-! ### for c in text -/
def signsD (x : Str) : List D := x.cps.toList.map fun c => .str ⟨#[c]⟩
def mTxtOf (m : M D) : M (List D) := m.bind fun d => M.lift (match d with
  | .str x => if x.cps.size ≤ 1000000 then some (signsD x) else none
  | _ => none)
section
variable {K : Fg} {W : WX}
/-- from one frozen value -/
theorem ei_1 {te : TE} {m : M D} {u : V → Hp → (It → Hp → Prop) → Prop} {f : D → Option (List D)} {b : Bool} (h : Ev K W te m)
    (hu : ∀ (C : Cn) (F H : Hp) (d : D) (v : V) (ds : List D), C.K = K → Same F H → Rep K F d v → f d = some ds → ∀ R : It → Hp → Prop, (∀ I, Walks C b F I ds → R I H) → u v H R) :
    Ei K W b (fun σ H R => te σ H fun v H1 => u v H1 R) (m.bind fun d => M.lift (f d)) := by
  intro C hK hW al F H σ δ S r hr R hok hex
  cases e : m δ with
  | none => unfold M.bind at hr; rw [e] at hr; cases hr
  | some r1 =>
    refine h C hK hW al F H σ δ S trivial r1 e _ (fun d δ1 e1 al1 F1 H1 v s1 S1 rl => ?_) fun x δ1 e1 al1 F1 H1 cls dd s1 S1 xr => ?_
    · subst e1
      rw [M.bind_ok e] at hr
      obtain ⟨ds, h2, rfl⟩ := lift_some hr
      exact hu C F1 H1 d v ds hK S1.fh rl h2 R fun I w => hok ds δ1 rfl al1 F1 H1 I s1 S1 w
    · subst e1
      rw [M.bind_ex e] at hr
      cases hr
      exact hex x δ1 rfl al1 F1 H1 cls dd s1 S1 xr
theorem ei_str {te : TE} {m : M D} (h : Ev K W te m) : Ei K W false (iStr te) (mTxtOf m) := by
  refine ei_1 (u := fun v H R => ∃ x, v = .str x ∧ R (Its x) H) h fun C F H d v ds hK fh rv hf R hR => ?_
  cases d with
  | str x =>
    obtain ⟨h1, rfl⟩ := if_some hf
    refine ⟨x, Rep.str_iff.mp rv, hR _ ⟨by unfold signsD; rw [List.length_map, Array.length_toList]; exact h1, fun F2 H2 f1 f2 _ i => ⟨fun d hd => ?_, fun hl => ?_⟩⟩⟩
    · unfold signsD at hd
      rw [List.getElem?_map, Array.getElem?_toList] at hd
      cases e : x.cps[i]? with
      | none => rw [e] at hd; cases hd
      | some c =>
        rw [e] at hd
        cases hd
        refine ⟨(Array.getElem?_eq_some_iff.mp e).1, fun y H' q => ?_⟩
        obtain ⟨rfl, c', e', rfl⟩ := q
        rw [e] at e'
        cases e'
        exact ⟨F2, New.refl f2, (Rep.str_iff (K := C.K) (F := F2)).mpr rfl⟩
    · unfold signsD at hl
      rw [List.length_map, Array.length_toList] at hl
      exact hl
  | _ => cases hf
theorem i_str {X : Cx} {tg e : Expr} {te : TE} {me : M D} (h : XE X W e te me) : XI X W false tg e (iStr te) (mTxtOf me) := ⟨pi_str h.p, ei_str h.v⟩
end
/-! ### enumerate -/
section
variable {prog : Program} {w : World} {A : Around} {E : Value → Shared → Prop} {s : Shared}
set_option maxHeartbeats 1000000 in
theorem meets_enum1 {v : Value} {o : Obj} {H : Heap → Prop} (B : Begins v o H) : Meets (Builtin.«enumerate.__new__» ⟨[.type "enumerate", v], []⟩) (fun _ R s => H s.heap ∧
      R (.ok (.ret (.ref (s.heap.push o).objs.size))) { s with heap := (s.heap.push o).push { cls := .type "enumerate", data := .fields #[.none, .bool false, .ref s.heap.objs.size, rawInt 0, .none, .none] } }) :=
  .of_wp fun prog w A R s h => by
    obtain ⟨hp, g, d, tk, os⟩ := s
    obtain ⟨h1, h⟩ := h
    have hsub := sub_enumerate
    have q1 : ∀ {A' : Around} {E : Value → Shared → Prop} {Q : Value → Shared → Prop}, Q (.ref hp.objs.size) ⟨hp.push o, g, d, tk, os⟩ → wpAny (model prog w) A' (pyIter v) Q E ⟨hp, g, d, tk, os⟩ := fun q => B.iter prog w _ _ ⟨hp, g, d, tk, os⟩ _ h1 q
    wp_walk
    refine wpAny_stack_any fun st => wpAny_pure ?_
    split
    · rename_i c _ _ _ _ _
      cases (c == Value.type "enumerate") <;> (wp_walk using q1; exact ⟨_, rfl, h⟩)
    · wp_walk using q1
      exact ⟨_, rfl, h⟩
theorem enum_call1 {v : Value} {o : Obj} {H : Heap → Prop} {Q : Value → Shared → Prop} (B : Begins v o H) (h1 : H s.heap)
    (h : ∀ h', IsEnum h' (s.heap.objs.size + 1) s.heap.objs.size 0 .none → h'.get? s.heap.objs.size = some o → (∀ b o, s.heap.get? b = some o → h'.get? b = some o) → Q (.ref (s.heap.objs.size + 1)) { s with heap := h' }) :
    wpAny (model prog w) A (call (.type "enumerate") [v]) Q E s := by
  refine callType_new F.called_enumerate (by decide) (F.typeCall_enumerate_1 _) (F.newCall_enumerate_1 _) (fun ob => F.args_object_init_2 ob _) F.entry_enumerate_new (meets_enum1 B) ⟨h1, ?_⟩
  have hz : (s.heap.push o).objs.size = s.heap.objs.size + 1 := Heap.size_push ..
  show _ ∧ _
  rw [hz]
  have he := Heap.get?_push_size (s.heap.push o) (o := { cls := .type "enumerate", data := .fields #[.none, .bool false, .ref s.heap.objs.size, rawInt 0, .none, .none] }) rfl
  rw [hz] at he
  exact ⟨⟨_, he, rfl⟩, h _ he (Heap.get?_push_of_some _ (Heap.get?_push_size _ B.free)) fun b o x => Heap.get?_push_of_some _ (Heap.get?_push_of_some _ x)⟩
end
/-- the sequence at a (t: a tuple) as it stands at each turn -/
def SqB (K : Fg) (t : Bool) (H : Hp) (a : Addr) (xs : List V) : Prop := if t then SqT K H a xs else SqL K H a xs
def IteB (K : Fg) (t : Bool) (a : Addr) : It :=
  ⟨fun i H => ∃ (xs : List V) (x : V), SqB K t H a xs ∧ xs[i]? = some x, fun i H v H' => ∃ T x, v = .ref T ∧ H T = none ∧ H' = upd H T (.tup [.int (i : Nat), x]) ∧ ∀ xs, SqB K t H a xs → xs[i]? = some x, fun i H => ∃ xs : List V, SqB K t H a xs ∧ xs.length ≤ i⟩
theorem turn_enumT {P : Program} {w : World} {K : Fg} {elts : List Expr} {kk : Nat} {tpos : Pos} (a e it : Addr) (hei : e ≠ it) (hea : e ≠ a) (hai : a ≠ it) :
    Turn P w K (.Tuple elts kk tpos) (IteB K true a) [e, it] e (fun i h => (∃ old, IsEnum h e it ((i : Nat) : Int) old) ∧ h.IsTupleIter it a i) where
  mem := by simp
  obj := fun i h st b hb => by
    obtain ⟨⟨old, he⟩, ⟨o, ho, hc, hd⟩⟩ := st
    rcases (show b = e ∨ b = it by simpa using hb) with z | z
    · rw [z]; exact ⟨_, he, fun v q => nomatch q⟩
    · rw [z]; exact ⟨o, ho, fun v q => by rw [hd] at q; cases q⟩
  keep := fun i h h' st k => let ⟨⟨old, he⟩, hi⟩ := st; ⟨⟨old, k e (by simp) _ he⟩, hi.at fun o q => k it (by simp) o q⟩
  item := by
    intro X hP hw hK hc i pins s σ H E I hf st hg
    subst hP hw hK
    obtain ⟨⟨old, he⟩, hit⟩ := st
    obtain ⟨xs, x, hq, hx⟩ := hg
    have hq : SqT X.K H a xs := hq
    obtain ⟨its, rv, p, hz⟩ := I.tuple hq
    obtain ⟨u, hu, ru⟩ := rv.get hx
    have hel : e < s.heap.objs.size := Heap.lt_size he
    have hil : it < s.heap.objs.size := by obtain ⟨_, q, _⟩ := hit; exact Heap.lt_size q
    have hlt : i < its.toArray.size := by rw [List.size_toArray]; exact (List.getElem?_eq_some_iff.mp hu).1
    refine wpAny_pyNext_enum_itemD (Draws.tuple (A := X.A.in1) (I.ok.hd hc) it a hai its.toArray) he ⟨hit, p⟩ hlt hei (by simp [hei, hea]) fun y h' tk hy ho st' hT hsz hk => ?_
    have hy : its.toArray[i]? = some y := hy
    have eu : u = y := by
      have : its[i]? = some y := by simpa using hy
      rw [hu] at this
      exact Option.some.inj this
    subst eu
    refine ⟨_, rfl, wpAny_letOwnedTupleGo_enum (s := { s with heap := h', toks := tk + 1 }) ho fun h2 he2 sb => ?_⟩
    have hT2 := (sb.2 _ (Nat.ne_of_gt hel)).trans hT
    have new : ObjOk X.prog X.w (upd H s.heap.objs.size (.tup [.int (i : Nat), x])) h2 s.heap.objs.size (.tup [.int (i : Nat), x]) := ⟨by show 2 ≤ sizeLine; decide, [.int i tk, u], .cons ⟨_, rfl⟩ (.cons ru .nil), ⟨_, hT2, rfl, _, rfl⟩⟩
    have I1 : Inv X pins σ (upd H s.heap.objs.size (.tup [.int (i : Nat), x])) { s with heap := h2, toks := tk + 1 } :=
      I.turnedNew (ch := [e, it]) (fun b ob hb q => (sb.2 b (fun z => hb (by simp [z]))).trans (hk b ob (fun z => hb (by simp [z])) (fun z => hb (by simp [z])) q)) hf (Nat.le_refl _) new
    refine ⟨.ref s.heap.objs.size, _, I1, rfl, ⟨_, x, rfl, I.hok.fresh (Nat.le_refl _), rfl, fun ys hy => by rw [I.tuple_inj hy hq]; exact hx⟩, ⟨⟨u, ?_⟩, st'.1.at fun o q => (sb.2 it (Ne.symm hei)).trans q⟩, fun b hb => ?_⟩
    · have e1 : ((i + 1 : Nat) : Int) = (i : Int) + 1 := by omega
      rw [e1]
      exact he2
    · have hb' : b < s.heap.objs.size := by
        rcases (show b = e ∨ b = it by simpa using hb) with z | z
        · rw [z]; exact hel
        · rw [z]; exact hil
      rw [upd_ne (Nat.ne_of_lt hb')]
      exact (hf b hb).1
  done := by
    intro X hP hw hK hc i pins s σ H E I hf st hg
    subst hP hw hK
    obtain ⟨⟨old, he⟩, hit⟩ := st
    obtain ⟨xs, hq, hx⟩ := hg
    have hq : SqT X.K H a xs := hq
    obtain ⟨its, rv, p, hz⟩ := I.tuple hq
    obtain ⟨f0, f1, f2, f3, f4, f5⟩ := hf it (by simp)
    have hl := rv.length
    have hT : s.TypeIs (.ref e) "enumerate" := ⟨_, he, rfl⟩
    unfold pyNext
    refine wpAny_bind (wpAny_attempt (wpAny_callSpecial?_slot (name := Str.ofString "__next__") hT F.slot_enumerate_next (wpAny_call_entry F.slot_enumerate_next hT F.entry_enumerate_next ?_ (F.args_enumerate_next_1 _))))
    show wpAny _ _ (field (.ref e) 2 >>= _) _ _ _
    refine wpAny_bind (wpAny_field he rfl (x := .ref it) rfl ?_)
    refine wpAny_bind (wpAny_nextOf_tuple_end (I.ok.hd hc) hit p (by simp; omega) fun h' y eb hx' => ?_)
    obtain ⟨o, ho, hcl⟩ := hx'
    refine wpAny_bind (wpAny_isInstance (T := "StopIteration") (b := true) ⟨o, ho, hcl⟩ isSubtype_stop ?_)
    exact wpAny_pure ⟨rfl, I.turned (t' := s.toks) (fun b o hb q => eb b o hb q) f0 f1 f3 f4 f5⟩
  self := fun A i s Q E st h => let ⟨⟨_, he⟩, _⟩ := st; wpAny_pyIter_enum he h
def iEnumB (K : Fg) (ta : TA) : TI := fun σ H R => ta σ H fun vs H1 => ∃ a xs, vs = [.ref a] ∧ ((SqL K H1 a xs ∧ R (Ite K a) H1) ∨ (SqT K H1 a xs ∧ R (IteB K true a) H1))
theorem pi_enumB {X : Cx} {e : Expr} {ta : TA} {p pos tpos : Pos} {elts : List Expr} {kk : Nat} (hg : Gl X "enumerate") (hm : X.mg "enumerate" = none) (ha : PA X [e] ta) (hs : starEach [e] X.env = [(false, eval e X.env)] := by rfl) :
    PI X (.Tuple elts kk tpos) (.Call (.Name "enumerate" p) [e] [] pos) (iEnumB X.K ta) := by
  refine ⟨fun pins s σ H R I h => ?_⟩
  refine PyProof.Rows.Call_ (ld_blt I hg hm PyProof.Rows.boot_enumerate (PyProof.Rows.callWith_type1 (thn (ha.run pos pins s σ H _ I h) fun us s1 ⟨vs, H1, I1, r1, q1⟩ => ?_) hs rfl))
  · obtain ⟨a, xs, rfl, q⟩ := q1
    rw [Vals.ref1 r1]
    have fpk : ∀ b ∈ [s1.heap.objs.size + 1, s1.heap.objs.size], FpOk X pins H1 b := fun b hb => by
      have hle : s1.heap.objs.size ≤ b := by
        rcases (show b = s1.heap.objs.size + 1 ∨ b = s1.heap.objs.size by simpa using hb) with z | z
        · rw [z]; exact Nat.le_add_right _ _
        · rw [z]; exact Nat.le_refl _
      exact I1.fpOk hle (I1.hok.fresh hle)
    rcases q with ⟨hq, q⟩ | ⟨hq, q⟩
    · obtain ⟨its, rv, p', hz⟩ := I1.list hq
      refine enum_call1 (begins_list a its.toArray) p'.isList fun h' he hit hk => wpAny_pyIter_enum he ?_
      exact ⟨s1.heap.objs.size + 1, _, _, _, H1, rfl, I1.kept (t' := s1.toks) hk, turn_enum a (s1.heap.objs.size + 1) s1.heap.objs.size, ⟨⟨.none, he⟩, ⟨_, hit, rfl, rfl⟩, Nat.succ_ne_self _⟩, fpk, q⟩
    · obtain ⟨its, rv, p', hz⟩ := I1.tuple hq
      have hlt : a < s1.heap.objs.size := by obtain ⟨o, ho, _⟩ := p'; exact Heap.lt_size ho
      refine enum_call1 (begins_tuple a its.toArray) p' fun h' he hit hk => wpAny_pyIter_enum he ?_
      exact ⟨s1.heap.objs.size + 1, _, _, _, H1, rfl, I1.kept (t' := s1.toks) hk, turn_enumT a (s1.heap.objs.size + 1) s1.heap.objs.size (Nat.succ_ne_self _) (Nat.ne_of_gt (Nat.lt_succ_of_lt hlt)) (Nat.ne_of_lt hlt), ⟨⟨.none, he⟩, ⟨_, hit, rfl, rfl⟩⟩, fpk, q⟩
def enumD (ds : List D) : List D := ds.zipIdx.map fun p => .tup [.int (p.2 : Nat), p.1]
def enumF : List D → Option (List D)
  | [.lst ds] => some (enumD ds)
  | [.tup ds] => some (enumD ds)
  | _ => none
theorem enumD_get {ds : List D} {i : Nat} {d : D} (h : (enumD ds)[i]? = some d) : ∃ e, ds[i]? = some e ∧ d = .tup [.int (i : Nat), e] := by
  unfold enumD at h
  rw [List.getElem?_map, List.getElem?_zipIdx] at h
  cases e : ds[i]? with
  | none => rw [e] at h; cases h
  | some x =>
    rw [e] at h
    refine ⟨x, rfl, ?_⟩
    have := Option.some.inj h
    rw [← this, Nat.zero_add]
theorem enumD_len (ds : List D) : (enumD ds).length = ds.length := by unfold enumD; rw [List.length_map, List.length_zipIdx]
theorem new_pair {K : Fg} {F H : Hp} {T : Addr} {i : Nat} {x : V} {e : D} (fh : Same F H) (hT : H T = none) (rx : Rep K F e x) : ∃ F', New F H F' (upd H T (.tup [.int (i : Nat), x])) ∧ Rq K true F' (.tup [.int (i : Nat), e]) (.ref T) := by
  refine ⟨upd F T (.tup [.int (i : Nat), x]), New.lay fh hT, T, [.int (i : Nat), x], rfl, Or.inl (Or.inl upd_same), reps_cons (Rep.int_iff.mpr rfl) (reps_cons (rx.mono (same_upd (fh.free hT))) reps_nil)⟩
section
variable {K : Fg} {W : WX}
theorem ei_enum {ta : TA} {m : M (List D)} (h : Eds K W ta m) : Ei K W true (iEnumB K ta) (mIt enumF m) := by
  refine ei_args (u := fun vs H R => ∃ a xs, vs = [.ref a] ∧ ((SqL K H a xs ∧ R (Ite K a) H) ∨ (SqT K H a xs ∧ R (IteB K true a) H))) h fun C F H as vs ds hK fh rs hf R hR => ?_
  match as, hf with
  | [.lst es], hf =>
    cases hf
    obtain ⟨v, us, rfl, r1, r2⟩ := rs.inv
    cases r2.inv0
    obtain ⟨a, ws, rfl, g1, g2, g3⟩ := Rep.lst_iff.mp r1
    refine ⟨a, ws, rfl, Or.inl ⟨Or.inl (Or.inl (fh _ _ g1)), hR _ ⟨by rw [enumD_len]; exact g2, fun F2 H2 f1 f2 _ i => ⟨fun d hd => ?_, fun hl => ?_⟩⟩⟩⟩
    · obtain ⟨e, he, rfl⟩ := enumD_get hd
      obtain ⟨u, hu, ru⟩ := g3.get he
      have ha : SqL K H2 a ws := Or.inl (Or.inl (f2 _ _ (f1 _ _ g1)))
      refine ⟨⟨ws, u, ha, hu⟩, fun x H' y => ?_⟩
      obtain ⟨T, x', rfl, hT, rfl, y⟩ := y
      have q := y ws ha
      rw [hu] at q
      cases q
      rw [hK]
      exact new_pair f2 hT (ru.mono f1)
    · rw [enumD_len] at hl
      exact ⟨ws, Or.inl (Or.inl (f2 _ _ (f1 _ _ g1))), by rw [g3.len]; exact hl⟩
  | [.tup es], hf =>
    cases hf
    obtain ⟨v, us, rfl, r1, r2⟩ := rs.inv
    cases r2.inv0
    obtain ⟨a, ws, rfl, g1, g2, g3⟩ := Rep.tup_iff.mp r1
    refine ⟨a, ws, rfl, Or.inr ⟨same_t fh g1.sq, hR _ ⟨by rw [enumD_len]; exact g2, fun F2 H2 f1 f2 _ i => ⟨fun d hd => ?_, fun hl => ?_⟩⟩⟩⟩
    · obtain ⟨e, he, rfl⟩ := enumD_get hd
      obtain ⟨u, hu, ru⟩ := g3.get he
      have ha : SqT K H2 a ws := same_t f2 (same_t f1 g1.sq)
      refine ⟨⟨ws, u, ha, hu⟩, fun x H' y => ?_⟩
      obtain ⟨T, x', rfl, hT, rfl, y⟩ := y
      have q := y ws ha
      rw [hu] at q
      cases q
      rw [hK]
      exact new_pair f2 hT (ru.mono f1)
    · rw [enumD_len] at hl
      exact ⟨ws, same_t f2 (same_t f1 g1.sq), by rw [g3.len]; exact hl⟩
end
end DL

set_option Elab.async false
set_option linter.all false
set_option maxRecDepth 100000
set_option maxHeartbeats 400000
/-! DLo: x.count(y), x[::-1], a, b = list, the script cut. -/
namespace DL
open PySem L2
mutual
theorem toPy_plain : ∀ {d : D} {p : PyData}, toPy d = some p → p.plain = true
  | .non, p, e => by cases e; rfl
  | .bl b, p, e => by cases e; rfl
  | .int i, p, e => by cases e; rfl
  | .str x, p, e => by cases e; rfl
  | .tup ds, p, e => by
    simp only [toPy] at e
    cases q : toPys ds with
    | none => rw [q] at e; cases e
    | some ps => rw [q] at e; cases e; simpa only [PyData.plain] using toPys_plain q
  | .lst ds, p, e => by
    simp only [toPy] at e
    cases q : toPys ds with
    | none => rw [q] at e; cases e
    | some ps => rw [q] at e; cases e; simpa only [PyData.plain] using toPys_plain q
  | .ins _ _ _, p, e => by cases e
  | .dk _ _, p, e => by cases e
  | .dn _ _ _, p, e => by cases e
  | .fn _, p, e => by cases e
theorem toPys_plain : ∀ {ds : List D} {ps : List PyData}, toPys ds = some ps → PyData.plainAll ps = true
  | [], ps, e => by cases e; rfl
  | d :: ds, ps, e => by
    simp only [toPys] at e
    cases q1 : toPy d with
    | none => simp only [q1] at e; cases e
    | some p =>
      cases q2 : toPys ds with
      | none => simp only [q1, q2] at e; cases e
      | some qs => simp only [q1, q2] at e; cases e; simp only [PyData.plainAll, toPy_plain q1, toPys_plain q2, Bool.and_self]
end
/-! ### count -/
def kindT (K : Fg) (b : Bool) (x : V) (H : Hp) : Prop := ∃ a vs, x = .ref a ∧ if b then TupR K H a vs else SqL K H a vs
def cntR (K : Fg) (b : Bool) (x : V) (ys : List V) (H : Hp) (Q : VK) : Prop := ∃ y d ds, ys = [y] ∧ Dp K H x (if b then .tuple ds else .list ds) ∧ Dp K H y d ∧ PyData.plainAll ds = true ∧ d.plain = true ∧ d.depth ≤ 60 ∧ Q (.int ((ds.countP fun z => PyData.eqv z d : Nat) : Int)) H
def tCnt (K : Fg) (to : TE) (t : TA) : TE := fun σ H Q => to σ H fun x H1 => ∃ b, kindT K b x H1 ∧ t σ H1 fun ys H2 => cntR K b x ys H2 Q
section
variable {X : Cx} {o e : Expr} {to : TE} {t : TA} {apos cpos : Pos}
theorem kind_is {pins : List (Addr × Obj)} {σ : St} {H : Hp} {s : Shared} {b : Bool} {x : V} {v : Value} (I : Inv X pins σ H s) (r : RelV x v) (k : kindT X.K b x H) : s.TypeIs v (if b then "tuple" else "list") ∧ ∀ a, v = .ref a → ∃ o, s.heap.get? a = some o ∧ o.dict = none := by
  obtain ⟨a, vs, rfl, k⟩ := k
  cases r
  cases b with
  | true =>
    rcases (show TupR X.K H a vs from k) with ⟨o, hd, h⟩ | ⟨o, its, n, h1, hd, hc, h4, h5, h6⟩
    · obtain ⟨e, _, _, _, ⟨o2, e2, hc, _⟩⟩ := I.hok a _ h
      have e2' := e2
      rw [e] at e2'
      cases e2'
      exact ⟨⟨o, e, hc⟩, fun a' e' => by cases e'; exact ⟨o, e, hd⟩⟩
    · have e := I.kIn a o h1
      exact ⟨⟨o, e, hc⟩, fun a' e' => by cases e'; exact ⟨o, e, hd⟩⟩
  | false =>
    obtain ⟨its, rv, pl, hz⟩ := I.list (show SqL X.K H a vs from k)
    obtain ⟨o, n, e, hc, hd, _⟩ := pl
    exact ⟨⟨o, e, hc⟩, fun a' e' => by cases e'; exact ⟨o, e, hd⟩⟩
theorem mt_cnt (hu : X.A.units + 65 < cLine) (b : Bool) : MtR X (if b then "tuple.count" else "list.count") (cntR X.K b) := by
  intro pins s σ H x xs v us Q I rx rxs h
  obtain ⟨y, d, ds, rfl, hx, hy, hp, hpd, hdp, q⟩ := h
  cases rxs with
  | cons ry rt =>
    rename_i uy ut
    cases rt
    obtain ⟨bs, r1⟩ := Dp.reads I d y uy hy ry
    have room : X.A.units + 1 + min (PyData.depthAll ds) d.depth < cLine := by have := Nat.min_le_right (PyData.depthAll ds) d.depth; omega
    cases b with
    | true =>
      have hx : Dp X.K H x (.tuple ds) := hx
      cases hx with
      | tup hs ha =>
        cases rx
        obtain ⟨its, rv, pl, hz⟩ := I.tuple hs
        obtain ⟨as, r2⟩ := Dp.readsAll I ds _ its ha rv
        exact SeqAt.count_tuple_data pl (show ReadsAll s.heap its.toArray.toList ds as from r2) r1 hp hpd room ⟨.int _, H, I.tok _, ⟨_, rfl⟩, q⟩
    | false =>
      have hx : Dp X.K H x (.list ds) := hx
      cases hx with
      | lst hs ha =>
        cases rx
        obtain ⟨its, rv, pl, hz⟩ := I.list hs
        obtain ⟨as, r2⟩ := Dp.readsAll I ds _ its ha rv
        exact SeqAt.count_list_data pl.isList (show ReadsAll s.heap its.toArray.toList ds as from r2) r1 hp hpd room ⟨.int _, H, I.tok _, ⟨_, rfl⟩, q⟩
theorem pe_cnt (hu : X.A.units + 65 < cLine) (ho : PE X o to) (ha : PA X [e] t) (hbase : attributeBase o "count" X.env (eval o X.env) = eval o X.env := by rfl)
    (hfew : ((backTo cpos (starEach [e] X.env)).all (fun x => !x.1) && (backToKw cpos (keywordEach [] X.env)).all (fun x => x.1.isSome) && decide ([e].length + ([] : List Keyword).length + (if ([] : List Keyword).isEmpty then 0 else 1) < 30)) = true := by rfl)
    (hline : (apos.endLine == cpos.line) = true := by rfl) (hs : starEach [e] X.env = (false, eval e X.env) :: starEach [] X.env := by rfl) (hpl : (backTo cpos (starEach [] X.env)).any (·.1) = false := by rfl) :
    PE X (.Call (.Attribute o "count" apos) [e] [] cpos) (tCnt X.K to t) := by
  refine ⟨fun pins s σ H Q I h => ?_⟩
  refine wpAny_Call_method_late hbase hfew hline rfl (thn (ho.run pins s σ H _ I h) fun v s1 ⟨x, H1, I1, r1, b, ty, q1⟩ => ?_)
  obtain ⟨h1, h2⟩ := kind_is I1 r1 ty
  have fin : ∀ id, (if b then "tuple.count" else "list.count") = id → wpAny (model X.prog X.w) X.A (callWith cpos (.builtin id) [v] (backTo cpos (starEach [e] X.env)) []) (EP X pins σ Q) X.xe s1 := fun id eid => by
    have hA := ha.run cpos pins s1 σ H1 _ I1 q1
    rw [hs] at hA ⊢
    refine Calls.callWith_builtin (by show (false || (backTo cpos (starEach [] X.env)).any (·.1)) = false; rw [hpl] <;> rfl) (Calls.evalArgs_plain ?_)
    refine thn hA fun us s2 ⟨vs, H2, I2, r2, q2⟩ => ?_
    rw [← eid]
    exact mt_cnt hu b pins s2 σ H2 x vs v us Q I2 r1 r2 q2
  cases b with
  | true => exact ⟨"tuple", "tuple.count", PySem.F.plainAttrs_tuple, PySem.F.slot_tuple_count, PySem.F.type_tuple_count, h1, h2, fin _ rfl⟩
  | false => exact ⟨"list", "list.count", PySem.F.plainAttrs_list, PySem.F.slot_list_count, PySem.F.type_list_count, h1, h2, fin _ rfl⟩
def kindD : D → Option Bool
  | .lst _ => some false
  | .tup _ => some true
  | _ => none
def cntD (d e : D) : Option D := match seqD d, toPy e with
  | some ds, some p => match toPys ds with
    | some ps => if p.depth ≤ 60 then some (.int ((ps.countP fun z => PyData.eqv z p : Nat) : Int)) else none
    | none => none
  | _, _ => none
def mCount (a b : M Op) : M D := a.bind fun o => (mRd o).bind fun d0 => match kindD d0 with
  | none => fun _ => none
  | some k => b.bind fun q => (mRd o).bind fun d => (mRd q).bind fun e => M.lift (if kindD d = some k then cntD d e else none)
theorem ev_cnt {K : Fg} {W : WX} {ta tb : TE} {a b : M Op} (ha : Eo K W ta a) (hb : Eo K W tb b) : Ev K W (tCnt K ta (tCons tb tNil)) (mCount a b) := by
  refine J.bind (t2 := fun x σ H Q => ∃ k, kindT K k x H ∧ tb σ H fun y H2 => cntR K k x [y] H2 Q) ha monoT fun o v => ?_
  intro C hK hW al F H σ δ S hp r hr Q hok hex
  subst hK
  obtain ⟨d0, h1, hr⟩ := rd_bind hr
  have r0 := S.opd hp.2 h1
  cases hk : kindD d0 with
  | none => simp only [hk] at hr; cases hr
  | some k =>
    simp only [hk] at hr
    refine ⟨k, ?_, ?_⟩
    · cases d0 with
      | lst ds =>
        cases hk
        obtain ⟨a, vs, rfl, g1, _⟩ := r0.lst S.fh
        exact ⟨a, vs, rfl, Or.inl (Or.inl g1)⟩
      | tup ds =>
        cases hk
        obtain ⟨a, vs, rfl, g1, _⟩ := r0.tup
        exact ⟨a, vs, rfl, g1.mono S.fh⟩
      | _ => cases hk
    · refine (J.bind (rel2 := relD C.K) (t2 := fun y _ H2 Q => cntR C.K k v [y] H2 Q) (hb.wk (q := fun F σ => relO C.K F σ v o) fun _ _ _ => trivial) (monoO.at) fun q w => ?_) C rfl hW al F H σ δ S hp.2 r hr Q hok hex
      intro C2 hK2 hW2 al2 F2 H2 σ2 δ2 S2 hp2 r2 hr2 Q2 hok2 hex2
      obtain ⟨d, h3, hr2⟩ := rd_bind hr2
      obtain ⟨e, h4, hr2⟩ := rd_bind hr2
      obtain ⟨z, h5, rfl⟩ := lift_some hr2
      obtain ⟨h6, h7⟩ : kindD d = some k ∧ cntD d e = some z := by
        by_cases c : kindD d = some k
        · rw [if_pos c] at h5; exact ⟨c, h5⟩
        · rw [if_neg c] at h5; cases h5
      rw [← hK2] at hp2 ⊢
      have ra := (S2.opd hp2.1 h3).full S2.fh
      have rb := (S2.opd hp2.2 h4).full S2.fh
      unfold cntD at h7
      cases e1 : seqD d with
      | none => simp only [e1] at h7; cases h7
      | some ds =>
        cases e2 : toPy e with
        | none => simp only [e1, e2] at h7; cases h7
        | some p =>
          simp only [e1, e2] at h7
          cases e3 : toPys ds with
          | none => simp only [e3] at h7; cases h7
          | some ps =>
            simp only [e3] at h7
            obtain ⟨h8, rfl⟩ := if_some h7
            refine ⟨w, p, ps, rfl, toPy_dp ra ?_, toPy_dp rb e2, toPys_plain e3, toPy_plain e2, h8, hok2 _ δ2 rfl al2 F2 H2 _ (Same.refl _) S2 (hK2 ▸ Rep.int_iff.mpr rfl)⟩
            cases d with
            | lst es => cases e1; cases h6; simp only [toPy, e3]; rfl
            | tup es => cases e1; cases h6; simp only [toPy, e3]; rfl
            | _ => cases e1
theorem x_cnt {K : Fg} {W : WX} {ta tb : TE} {oa ob : M Op} {k : Nat} (hr : Room k X.A) (ha : XO X W o ta oa) (hb : XO X W e tb ob) (hbase : attributeBase o "count" X.env (eval o X.env) = eval o X.env := by rfl)
    (hfew : ((backTo cpos (starEach [e] X.env)).all (fun x => !x.1) && (backToKw cpos (keywordEach [] X.env)).all (fun x => x.1.isSome) && decide ([e].length + ([] : List Keyword).length + (if ([] : List Keyword).isEmpty then 0 else 1) < 30)) = true := by rfl)
    (hline : (apos.endLine == cpos.line) = true := by rfl) (hs : starEach [e] X.env = (false, eval e X.env) :: starEach [] X.env := by rfl) (hpl : (backTo cpos (starEach [] X.env)).any (·.1) = false := by rfl) (hK : X.K = K := by rfl) :
    XE X W (.Call (.Attribute o "count" apos) [e] [] cpos) (tCnt K ta (tCons tb tNil)) (mCount oa ob) := by
  subst hK
  exact ⟨pe_cnt (room_in hr) ha.p (pa_cons hb.p pa_nil hs) hbase hfew hline hs hpl, ev_cnt ha.v hb.v⟩
end
/-! ### x[::-1] of a list -/
def revLD : D → Option (List D)
  | .lst ds => some ds.reverse
  | _ => none
section
variable {K : Fg} {W : WX} {X : Cx}
/-! ### a, b = list -/
def gTL (m : List D → En → Option En) : Mg := fun d δ => match d with
  | .lst ds => m ds δ
  | _ => none
theorem eg_unl {u : TGs} {b : List D → En → Option En} {n : Nat} (hb : Egs K u b) (h : GsN b n) : Eg K false (gUnl K n u) (gTL b) := fun C hK al F H σ δ S d v δ' hr e Q k => by
  cases d with
  | lst ds =>
    obtain ⟨a, vs, rfl, h1, h2, h3⟩ := Rep.lst_iff.mp hr
    have e' : b ds δ = some δ' := e
    exact ⟨a, vs, rfl, Or.inl (Or.inl (S.fh _ _ h1)), by rw [h3.len]; exact h ds δ δ' e', hb C hK al F H σ δ S ds vs δ' h3 e' Q k⟩
  | _ => cases e
theorem s_unl {K : Fg} {e : Expr} {es : List Expr} {te : TE} {me : M D} {t : TGs} {b : List D → En → Option En} {n k : Nat} {vs : List Nat} {tpos pos : Pos} (hc : X.calm = true) (he : XE X W e te me) (h : XGs X es t b n vs) (hn : (assignEach es X.env).length = n := by rfl) (hst : (assignEach es X.env).findIdx? (·.1) = none := by rfl)
    (hs : swapsWithSole [.Tuple es k tpos] e pos.line X.env = pure false := by rfl) (hw : swappedStores [.Tuple es k tpos] e X.env = pure none := by rfl) (h1 : (assignEach [.Tuple es k tpos] X.env).map (·.2) = [assign (.Tuple es k tpos) X.env] := by rfl) (hK : X.K = K := by rfl) :
    XS X W (.Assign [.Tuple es k tpos] e pos) (tAsg te (gUnl K n t)) (mAsg (gTL b) me) := by
  subst hK
  exact ⟨ps_asg he.p (pg_unl hc h.p hn hst) hs hw h1, es_asg he.v (eg_unl h.v h.l)⟩
/-! ### the script, cut -/
def mScSl (i : Nat) (lo hi : Option Int) : M D := fun δ => match δ[i]? with
  | some (.sc ns) => if ns.length ≤ 1000000 then some (.ok (.lst (cutD (ns.map D.int) lo hi)) δ) else none
  | _ => none
/-- a bound told by the text -/
def CP (t : TO) (o : Option Int) : Prop := ∀ (σ : St) (H : Hp) (Q : Option Int → Hp → Prop), Q o H → t σ H Q
theorem cp_none : CP tNoPart none := fun σ H Q h => h
theorem cp_int {i : Int} : CP (tPart (tC (.int i))) (some i) := fun σ H Q h => ⟨i, rfl, h⟩
theorem ints_reps {F : Hp} : ∀ (ns : List Int), Reps K F (ns.map D.int) (ns.map V.int)
  | [] => reps_nil
  | n :: r => reps_cons (Rep.int_iff.mpr rfl) (ints_reps r)
theorem sql_up {F F' : Hp} (e : Same F F') {a : Addr} {xs : List V} (h : SqL K F a xs) : SqL K F' a xs := by
  rcases h with h | h
  · exact Or.inl (same_rd e h)
  · exact Or.inr h
theorem ev_scSl {i : Nat} {tl th : TO} {lo hi : Option Int} (hl : CP tl lo) (hu : CP th hi) : Ev K W (tSl (rSlAny K) (tVar i) tl th) (mScSl i lo hi) := by
  intro C hK hW al F H σ δ S hp r hr Q hok hex
  unfold mScSl at hr
  cases e : δ[i]? with
  | none => simp only [e] at hr; cases hr
  | some s =>
    cases s with
    | sc ns =>
      simp only [e] at hr
      by_cases hn : ns.length ≤ 1000000
      · rw [if_pos hn] at hr
        cases hr
        subst hK
        obtain ⟨a, h1, h2⟩ := S.sc i ns e
        replace h2 := (h2.resolve_right fun z => absurd z.1 (by omega)).2
        refine ⟨.ref a, h1, hl _ _ _ (hu _ _ _ (Or.inl ⟨a, ns.map V.int, rfl, sql_up (S.bp.trans S.ph) h2, fun p hp => ?_⟩))⟩
        have n : New F H (upd F p (.lst (cutV (ns.map V.int) lo hi))) (upd H p (.lst (cutV (ns.map V.int) lo hi))) := New.lay S.fh hp
        exact hok _ δ rfl al _ _ _ n.ff (S.new n) (Rep.lst_iff.mpr ⟨p, _, rfl, upd_same, Nat.le_trans cutD_len (by rw [List.length_map]; exact hn), (cutD_reps (ints_reps ns)).mono n.ff⟩)
      · rw [if_neg hn] at hr; cases hr
    | _ => simp only [e] at hr; cases hr
theorem x_scSl {K : Fg} {i : Nat} {a : Expr} {lo hi : Option Expr} {tl th : TO} {ol oh : Option Int} {p2 pos : Pos} (ha : PE X a (tVar i)) (pl : PO X lo tl) (ph : PO X hi th) (hl : CP tl ol) (hu : CP th oh) (hK : X.K = K := by rfl) : XE X W (.Subscript a (.Slice lo hi none p2) pos) (tSl (rSlAny K) (tVar i) tl th) (mScSl i ol oh) := by
  subst hK
  exact ⟨pe_slice sl_any ha pl ph, ev_scSl hl hu⟩
end
end DL

set_option Elab.async false
set_option linter.all false
set_option maxRecDepth 100000
set_option maxHeartbeats 400000
/-! DLp: defs of the top by what they promise; the law's own end. -/
namespace DL
open PySem L2
/-- a def of the top as it was written -/
structure DefK (K : Fg) (x : Str) (st : Stmt) : Prop where
  ex : ∃ f fd, PySem.W.nsIn K mainGlobals x = some (some (.ref f)) ∧ Fun K x x st f fd ∧ PySem.W.keepIn K (.ref f) = true ∧ ∃ kV dc pm an cd ct, fd = PySem.W.fnOf x x (defArgs st) (defBody st) (defScope st) .none kV dc pm an cd ct
theorem defK_mk {K : Fg} {x : Str} {st : Stmt} {f : Addr} {od an : Option Addr} {sl : Array (Option Value)} {oc kV dc pm cd ct : Value} (a : PySem.W.nsIn K mainGlobals x = some (some (.ref f)))
    (l : K.lookup f = some ⟨oc, od, .func (PySem.W.fnOf x x (defArgs st) (defBody st) (defScope st) .none kV dc pm an cd ct), sl⟩) (c : PySem.W.codeIn K cd x = true) (k : PySem.W.keepIn K (.ref f) = true) : DefK K x st := ⟨f, _, a, fun_mk l c k, k, _, _, _, _, _, _, rfl⟩
/-- a constant of the top -/
theorem globI_mk {K : Fg} {x : Str} {v : Value} {i : Int} {t : Tok} (y : PySem.W.nsIn K mainGlobals x = some (some v)) (z : v = .int i t) : ∃ v : Value, PySem.W.nsIn K mainGlobals x = some (some v) ∧ ∃ t, v = .int i t := ⟨v, y, t, z⟩
theorem globS_mk {K : Fg} {x : Str} {v : Value} {i : Str} {t : Tok} (y : PySem.W.nsIn K mainGlobals x = some (some v)) (z : v = .str i t) : ∃ v : Value, PySem.W.nsIn K mainGlobals x = some (some v) ∧ ∃ t, v = .str i t := ⟨v, y, t, z⟩
/-- a method of a class -/
structure MetK (K : Fg) (C : Addr) (x qual : Str) (st : Stmt) (f : Addr) : Prop where
  ex : ∃ fd, PySem.W.findIn K (.ref C) x = some (some (.ref f)) ∧ PySem.W.isFn K (.ref f) = true ∧ Fun K x qual st f fd ∧ PySem.W.keepIn K (.ref f) = true
theorem metK_mk {K : Fg} {C : Addr} {x qual : Str} {st : Stmt} {f : Addr} {od an : Option Addr} {sl : Array (Option Value)} {oc kV dc pm cd ct : Value} (a : PySem.W.findIn K (.ref C) x = some (some (.ref f))) (i : PySem.W.isFn K (.ref f) = true)
    (l : K.lookup f = some ⟨oc, od, .func (PySem.W.fnOf x qual (defArgs st) (defBody st) (defScope st) .none kV dc pm an cd ct), sl⟩) (c : PySem.W.codeIn K cd qual = true) (k : PySem.W.keepIn K (.ref f) = true) : MetK K C x qual st f := ⟨_, a, i, fun_mk l c k, k⟩
/-- a class that makes objects -/
structure ClsK (K : Fg) (x : Str) (C : Addr) : Prop where
  a : PySem.W.nsIn K mainGlobals x = some (some (.ref C))
  pg : PySem.W.plainGet K C Str.empty = true
  hd : PySem.W.hasDictIn K C = true
  po : PySem.W.plainOver K C = true
  sa : PySem.W.findIn K (.ref C) "__setattr__" = some (some (.builtin "object.__setattr__"))
  mks : PySem.W.makesIn K C = true
  kc : PySem.W.keepIn K (.ref C) = true
theorem ClsK.cls {K : Fg} {x : Str} {C : Addr} (c : ClsK K x C) : Cls K C := ⟨c.pg, c.hd, c.po, c.sa⟩
section
variable (P : Program) (w : World) (K : Fg) (mg : Str → Option Value) (base : Heap)
structure CallP (x : Str) (k : Nat) (ps : List Str) (ks : List PK) (g : List D → Option D) : Prop where
  ex : ∃ f fd, mg x = some (.ref f) ∧ PySem.W.keepIn K (.ref f) = true ∧ Binds K fd ps [] ∧ FnOk P w K mg base CX0 k f fd ps (SpP K ks g)
structure CallI (x : Str) (k : Nat) (ps : List Str) (ks : List PK) (g : List D → Option (D × D)) : Prop where
  ex : ∃ f fd, mg x = some (.ref f) ∧ PySem.W.keepIn K (.ref f) = true ∧ Binds K fd ps [] ∧ FnOk P w K mg base CX0 k f fd ps (SpI K ks g)
structure MakeI (x : Str) (C : Addr) (k : Nat) (ps : List Str) (ks : List PK) (g : List D → Option (D × D)) : Prop where
  ex : ∃ f fd, mg x = some (.ref C) ∧ Mk K C f ∧ Binds K fd ps [] ∧ FnOk P w K mg base CX0 k f fd ps (SpI K ks g)
end
section
variable {X : Cx} {W : WX} {e : Expr} {es : List Expr} {pos p2 : Pos}
theorem x_cq {K : Fg} {x : Str} {ps : List Str} {k j : Nat} {ks : List PK} {g : List D → Option D} {t : TA} {m : M (List Op)} (c : CallP X.prog X.w X.K X.mg X.base x k ps ks g) (hr : Room j X.A) (h : XA X W (e :: es) t m) (hkj : k ≤ j := by decide) (hg : Gl X x := by rfl)
    (hdb : (x == ("__debug__" : Str)) = false := by decide) (hs : starEach (e :: es) X.env = (false, eval e X.env) :: starEach es X.env := by rfl) (hpl : (backTo pos (starEach es X.env)).any (·.1) = false := by rfl) (hK : X.K = K := by rfl) :
    XE X W (.Call (.Name x p2) (e :: es) [] pos) (tCall (SpP K ks g) [] E0 t) (mCallP ks g m) := by
  subst hK
  obtain ⟨f, fd, h1, h2, h3, h4⟩ := c.ex
  exact x_cp h4 hr hkj h1 h2 h3 h hg hdb hs hpl
theorem x_cqi {K : Fg} {x : Str} {ps : List Str} {k j i : Nat} {ks : List PK} {g : List D → Option (D × D)} {t : TA} {m : M (List Op)} (c : CallI X.prog X.w X.K X.mg X.base x k ps ks g) (hr : Room j X.A) (hp : XE X W e (tVar i) (mVar i)) (h : XA X W es t m) (hkj : k ≤ j := by decide) (hg : Gl X x := by rfl)
    (hdb : (x == ("__debug__" : Str)) = false := by decide) (hs : starEach (e :: es) X.env = (false, eval e X.env) :: starEach es X.env := by rfl) (hpl : (backTo pos (starEach es X.env)).any (·.1) = false := by rfl) (hK : X.K = K := by rfl) :
    XE X W (.Call (.Name x p2) (e :: es) [] pos) (tCall (SpI K ks g) [] E0 (tCons (tVar i) t)) (mCallI i ks g m) := by
  subst hK
  obtain ⟨f, fd, h1, h2, h3, h4⟩ := c.ex
  exact x_ci h4 hr hkj h1 h2 h3 hp.p h hg hdb hs hpl
theorem n_mkq {K : Fg} {x : Str} {C : Addr} {ps : List Str} {k j : Nat} {ks : List PK} {g : List D → Option (D × D)} {t : TA} {m : M (List Op)} (c : MakeI X.prog X.w X.K X.mg X.base x C k ps ks g) (hr : Room j X.A) (h : XA X W (e :: es) t m) (hkj : k + 1 ≤ j := by decide) (hg : Gl X x := by rfl)
    (hdb : (x == ("__debug__" : Str)) = false := by decide) (hs : starEach (e :: es) X.env = (false, eval e X.env) :: starEach es X.env := by rfl) (hpl : (backTo pos (starEach es X.env)).any (·.1) = false := by rfl) (hK : X.K = K := by rfl) :
    XN X W (.Call (.Name x p2) (e :: es) [] pos) (tMake C (SpI K ks g) [] E0 t) (mMakeP C ks g m) := by
  subst hK
  obtain ⟨f, fd, h1, h2, h3, h4⟩ := c.ex
  exact n_mk h2 h4 hr hkj h1 h3 h hg hdb hs hpl
end
section
variable {P : Program} {w : World} {K : Fg} {mg : Str → Option Value} {base h : Heap}
theorem callP_of {x : Str} {st : Stmt} {k : Nat} {ps : List Str} {ks : List PK} {g : List D → Option D} (d : DefK K x st) (X : K.In h) (G : h.Ns mainGlobals mg) (hb : ∀ {f : Addr} {fd : FuncData}, Fun K x x st f fd → Binds K fd ps [])
    (hf : ∀ {f : Addr} {fd : FuncData}, Fun K x x st f fd → FnOk P w K mg base CX0 k f fd ps (SpP K ks g)) : CallP P w K mg base x k ps ks g := by
  obtain ⟨f, fd, h1, h2, h3, _⟩ := d.ex
  exact ⟨f, fd, PySem.W.mg_of X G h1, h3, hb h2, hf h2⟩
theorem callI_of {x : Str} {st : Stmt} {k : Nat} {ps : List Str} {ks : List PK} {g : List D → Option (D × D)} (d : DefK K x st) (X : K.In h) (G : h.Ns mainGlobals mg) (hb : ∀ {f : Addr} {fd : FuncData}, Fun K x x st f fd → Binds K fd ps [])
    (hf : ∀ {f : Addr} {fd : FuncData}, Fun K x x st f fd → FnOk P w K mg base CX0 k f fd ps (SpI K ks g)) : CallI P w K mg base x k ps ks g := by
  obtain ⟨f, fd, h1, h2, h3, _⟩ := d.ex
  exact ⟨f, fd, PySem.W.mg_of X G h1, h3, hb h2, hf h2⟩
theorem makeI_of {x qual : Str} {C f : Addr} {st : Stmt} {k : Nat} {ps : List Str} {ks : List PK} {g : List D → Option (D × D)} (c : ClsK K x C) (d : MetK K C "__init__" qual st f) (X : K.In h) (G : h.Ns mainGlobals mg) (hb : ∀ {f : Addr} {fd : FuncData}, Fun K "__init__" qual st f fd → Binds K fd ps [])
    (hf : ∀ {f : Addr} {fd : FuncData}, Fun K "__init__" qual st f fd → FnOk P w K mg base CX0 k f fd ps (SpI K ks g)) : MakeI P w K mg base x C k ps ks g := by
  obtain ⟨fd, h1, h2, h3, h4⟩ := d.ex
  exact ⟨f, fd, PySem.W.mg_of X G c.a, ⟨c.mks, h1, h2, c.kc⟩, hb h3, hf h3⟩
/-! ### the law -/
def spLawD (K : Fg) : Sp := fun vs H Q _ => ∃ (a : Addr) (ns : List Int), vs = [.ref a] ∧ SqL K H a (ns.map V.int) ∧ ns.length ≤ 63 ∧ ∀ H', Q (.bl true) H'
def lawOk (m : Ms) (n : Nat) : Prop := ∀ ns : List Int, ns.length ≤ 63 → ∃ δ, m (startE n [Sl.sc ns]) = some (.rt (.bl true) δ)
theorem law_fn {x qual y : Str} {st : Stmt} {f : Addr} {fd : FuncData} {N : List Str} {k : Nat} {m : Ms} (F : Fun K x qual st f fd) (S : FnScope N [y] (defScope st)) (hm : lawOk m N.length)
    (hb : ∀ (cdv : Value) (A : Around) (outer : List Env) (s : Shared) (H : Hp) (E : XK), Room k (A.deeper (PyProof.Rows.envOfC qual (defScope st) s.heap.objs.size f cdv)) → ∃ t, XB (cxOf CX0 P w K mg base N qual (defScope st) f cdv A outer s H E).nox W0 (defBody st) t m) :
    FnOk P w K mg base CX0 (k + 1) f fd [y] (spLawD K) := by
  refine F.ok S (fun vs H Q E h => ?_) (fun cdv A outer s H vs Q E hr h => ?_)
  · obtain ⟨a, ns, rfl, _⟩ := h
    rfl
  · obtain ⟨t, B⟩ := hb cdv A outer s H E hr
    refine ⟨t, B.p, ?_⟩
    obtain ⟨a, ns, rfl, hS, hl, q⟩ := h
    obtain ⟨δ, e⟩ := hm ns hl
    have S0 : StOk { K := K, P := H, B := H, F0 := fun _ => none, bt := fun _ => 0, W := W0 } (fun _ => 0) (fun _ => none) H ([V.ref a].map some) [Sl.sc ns] := by
      have one : ∀ (i : Nat) (s : Sl), [Sl.sc ns][i]? = some s → i = 0 ∧ s = .sc ns := fun i s z => by
        cases i with
        | zero => exact ⟨rfl, (Option.some.inj z).symm⟩
        | succ i => simp at z
      refine ⟨fun _ _ z => (by cases z), Same.refl _, Same.refl _, fun _ _ z => (by cases z), fun _ _ z => (by cases z), rfl, fun i d z => ?_, fun i d z => ?_, fun i s d z r => ?_, fun i d z => ?_, fun i j s t d e z1 z2 r1 r2 _ => ?_, fun i ms z => ?_, fun i ms z => ?_, fun _ _ z => by cases z⟩
      · cases (one i _ z).2
      · cases (one i _ z).2
      · rw [(one i _ z).2] at r; cases r
      · cases (one i _ z).2
      · rw [(one i _ z1).2] at r1; cases r1
      · obtain ⟨rfl, e⟩ := one i _ z
        cases e
        exact ⟨a, rfl, Or.inl ⟨by omega, hS⟩⟩
      · cases (one i _ z).2
    refine B.v _ rfl rfl _ _ H _ _ (S0.begin (N := N)) _ e _ ?_
    exact fun al' F' H' σ' v s' S' rv => by rw [Rep.bl_iff.mp rv]; exact q H'
end
end DL

set_option Elab.async false
set_option linter.all false
set_option maxRecDepth 100000
set_option maxHeartbeats 400000
/-! DLq: tests by comparison; the built-ins that are called most. -/
namespace DL
open PySem L2
section
variable {X : Cx} {W : WX} {a b c : Expr} {ta tb tc : TE} {pos p2 : Pos} {oa ob oc : M Op}
theorem t_lt (ha : XO X W a ta oa) (hb : XO X W b tb ob) : XT X W (.Compare a [.Lt] [b] pos) (tTest (tOp (rI0 fun i j => .bl (decide (i < j))) ta tb)) (mTest (m2 (fI0 fun i j => .bl (decide (i < j))) oa ob)) := ⟨pt_cmpR op_lt ha.p hb.p (nomark _), et_test (ev_2 prim_ltI ha.v hb.v)⟩
theorem t_le (ha : XO X W a ta oa) (hb : XO X W b tb ob) : XT X W (.Compare a [.LtE] [b] pos) (tTest (tOp (rI0 fun i j => .bl (decide (i ≤ j))) ta tb)) (mTest (m2 (fI0 fun i j => .bl (decide (i ≤ j))) oa ob)) := ⟨pt_cmpR op_le ha.p hb.p (nomark _), et_test (ev_2 prim_leI ha.v hb.v)⟩
theorem t_gt (ha : XO X W a ta oa) (hb : XO X W b tb ob) : XT X W (.Compare a [.Gt] [b] pos) (tTest (tOp (rI0 fun i j => .bl (decide (j < i))) ta tb)) (mTest (m2 (fI0 fun i j => .bl (decide (j < i))) oa ob)) := ⟨pt_cmpR op_gt ha.p hb.p (nomark _), et_test (ev_2 prim_gtI ha.v hb.v)⟩
theorem t_ge (ha : XO X W a ta oa) (hb : XO X W b tb ob) : XT X W (.Compare a [.GtE] [b] pos) (tTest (tOp (rI0 fun i j => .bl (decide (j ≤ i))) ta tb)) (mTest (m2 (fI0 fun i j => .bl (decide (j ≤ i))) oa ob)) := ⟨pt_cmpR op_ge ha.p hb.p (nomark _), et_test (ev_2 prim_geI ha.v hb.v)⟩
theorem t_eq {K : Fg} {k : Nat} (hr : Room k X.A) (ha : XO X W a ta oa) (hb : XO X W b tb ob) (hK : X.K = K := by rfl) : XT X W (.Compare a [.Eq] [b] pos) (tTest (tOp (rEqD K) ta tb)) (mTest (m2 eqD oa ob)) := by
  subst hK
  exact ⟨pt_cmpR (op_eqD hr.units) ha.p hb.p (nomark _), et_test (ev_2 prim_eq ha.v hb.v)⟩
theorem t_ne {K : Fg} {k : Nat} (hr : Room k X.A) (ha : XO X W a ta oa) (hb : XO X W b tb ob) (hK : X.K = K := by rfl) : XT X W (.Compare a [.NotEq] [b] pos) (tTest (tOp (rNeD K) ta tb)) (mTest (m2 neD oa ob)) := by
  subst hK
  exact ⟨pt_cmpR (op_neD hr.units) ha.p hb.p (nomark _), et_test (ev_2 prim_ne ha.v hb.v)⟩
theorem t_leLe (ha : XO X W a ta oa) (hb : XO X W b tb ob) (hc : XO X W c tc oc) (hm : lastMarks [.LtE, .LtE] [b, c] = false := by with_unfolding_all rfl) : XT X W (.Compare a [.LtE, .LtE] [b, c] pos) (tTest (tChain (rI0 fun i j => .bl (decide (i ≤ j))) (rI0 fun i j => .bl (decide (i ≤ j))) ta tb tc)) (mTest (mChain (fI0 fun i j => .bl (decide (i ≤ j))) (fI0 fun i j => .bl (decide (i ≤ j))) oa ob oc)) :=
  ⟨pt_chain op_le op_le ha.p hb.p hc.p hm, et_test (ev_chain prim_leI prim_leI ha.v hb.v hc.v)⟩
theorem x_len {K : Fg} (hm : X.mg "len" = none) (ha : XO X W a ta oa) (hg : Gl X "len" := by rfl) (hs : starEach [a] X.env = (false, eval a X.env) :: starEach [] X.env := by rfl) (hK : X.K = K := by rfl) : XE X W (.Call (.Name "len" p2) [a] [] pos) (tCB (rLen K) (tCons ta tNil)) (mA (fA1 lenD) (maCons oa maNil)) := by
  subst hK
  exact x_cb call_len prim_len boot_len hm (a_cons ha a_nil hs) hg (by decide) (by decide) hs rfl
theorem x_all {K : Fg} (hc : X.calm = true) (hm : X.mg "all" = none) (ha : XO X W a ta oa) (hg : Gl X "all" := by rfl) (hs : starEach [a] X.env = (false, eval a X.env) :: starEach [] X.env := by rfl) (hK : X.K = K := by rfl) : XE X W (.Call (.Name "all" p2) [a] [] pos) (tCB (rAll K) (tCons ta tNil)) (mA (fA1 allD) (maCons oa maNil)) := by
  subst hK
  exact x_cb (cr_all hc) prim_all (by decide +kernel) hm (a_cons ha a_nil hs) hg (by decide) (by decide) hs rfl
theorem x_abs (hm : X.mg "abs" = none) (ha : XO X W a ta oa) (hg : Gl X "abs" := by rfl) (hs : starEach [a] X.env = (false, eval a X.env) :: starEach [] X.env := by rfl) : XE X W (.Call (.Name "abs" p2) [a] [] pos) (tCB (fun xs H Q => ∃ i, xs = [V.int i] ∧ Q (.int (if i < 0 then -i else i)) H) (tCons ta tNil)) (mA (fA1 absD) (maCons oa maNil)) := x_cb call_abs prim_abs (by decide +kernel) hm (a_cons ha a_nil hs) hg (by decide) (by decide) hs rfl
theorem n_list {K : Fg} (hm : X.mg "list" = none) (ha : XO X W a ta oa) (hg : Gl X "list" := by rfl) (hs : starEach [a] X.env = (false, eval a X.env) :: starEach [] X.env := by rfl) (hK : X.K = K := by rfl) : XN X W (.Call (.Name "list" p2) [a] [] pos) (tCB (rListOf K) (tCons ta tNil)) (mnA (fN1 listD) (maCons oa maNil)) := by
  subst hK
  exact n_ct call_list_of prim_list (by decide +kernel) hm (a_cons ha a_nil hs) hg (by decide) (by decide) hs rfl
theorem x_tuple {K : Fg} (hm : X.mg "tuple" = none) (ha : XO X W a ta oa) (hg : Gl X "tuple" := by rfl) (hs : starEach [a] X.env = (false, eval a X.env) :: starEach [] X.env := by rfl) (hK : X.K = K := by rfl) : XE X W (.Call (.Name "tuple" p2) [a] [] pos) (tCB (rTupOf K) (tCons ta tNil)) (mA (fA1 tupD) (maCons oa maNil)) := by
  subst hK
  exact x_ct call_tupleZ prim_tup (by decide +kernel) hm (a_cons ha a_nil hs) hg (by decide) (by decide) hs rfl
theorem x_dict {K : Fg} (hc : X.calm = true) (hm : X.mg "dict" = none) (ha : XO X W a ta oa) (hg : Gl X "dict" := by rfl) (hs : starEach [a] X.env = (false, eval a X.env) :: starEach [] X.env := by rfl) (hK : X.K = K := by rfl) : XE X W (.Call (.Name "dict" p2) [a] [] pos) (tCB (rDictP K) (tCons ta tNil)) (mA (fA1 dictD) (maCons oa maNil)) := by
  subst hK
  exact x_ct (call_dictP hc) prim_dict (by decide +kernel) hm (a_cons ha a_nil hs) hg (by decide) (by decide) hs rfl
theorem n_sorted {K : Fg} {k : Nat} (hr : Room k X.A) (hm : X.mg "sorted" = none) (ha : XO X W a ta oa) (hg : Gl X "sorted" := by rfl) (hs : starEach [a] X.env = (false, eval a X.env) :: starEach [] X.env := by rfl) (hK : X.K = K := by rfl) : XN X W (.Call (.Name "sorted" p2) [a] [] pos) (tCB (rSortQ K) (tCons ta tNil)) (mnA (fN1 sortF) (maCons oa maNil)) := by
  subst hK
  exact n_cb (cr_sortQ (room_in hr)) prim_sort (by decide +kernel) hm (a_cons ha a_nil hs) hg (by decide) (by decide) hs rfl
/-- x[i] = e, x a list of one's own -/
def mPutI (i : Nat) (mi me : M D) : Ms := mS me fun d => mHas i (mS mi fun j => fun δ => match j with
      | .int n => match ownL δ i with
        | some (s, ds) => match ixN ds.length n with
          | some m => some (.nx (δ.set i (reown s (.lst (ds.set m d)))))
          | none => none
        | none => none
      | _ => none)
theorem s_putI {o e : Expr} {te : TE} {me : M D} {i : Nat} {ix : Expr} {ti : TE} {mi : M D} {tpos : Pos} (ho : PE X o (tVar i)) (hi : XE X W ix ti mi) (h : XE X W e te me) (ha : ∀ v, assign (.Subscript o ix tpos) X.env v = (do
      let ov ← holding [v] (eval o X.env)
      let iv ← holding [v, ov] (eval ix X.env)
      standAt tpos
      holding [v, ov, iv] (setItem ov iv v)
      release [v, ov, iv] []) := by intro _; rfl) (hs : swapsWithSole [.Subscript o ix tpos] e pos.line X.env = pure false := by rfl) (hw : swappedStores [.Subscript o ix tpos] e X.env = pure none := by rfl) (h1 : (assignEach [.Subscript o ix tpos] X.env).map (·.2) = [assign (.Subscript o ix tpos) X.env] := by rfl) :
    XS X W (.Assign [.Subscript o ix tpos] e pos) (tAsg te (gSub (tVar i) ti rSetL)) (mPutI i mi me) := s_setI ho hi h ha hs hw h1
end
end DL

set_option Elab.async false
set_option linter.all false
set_option maxRecDepth 100000
set_option maxHeartbeats 400000
/-! DLr: defs that hand back a new object, the caller's own from then on. -/
namespace DL
open PySem L2
theorem StOk.callee {C : Cn} {al : Nat → Addr} {F H : Hp} {σ : St} {δ : En} {ks : List PK} {os : List Op} {vs : List V} {ds : List D} (S : StOk C al F H σ δ) (hrel : relA C.K F σ vs os) (h1 : rds os δ = some ds) (hf : frOk ks os = true) :
    vs.length = ks.length ∧ ds.length = ks.length ∧ StOk { K := C.K, P := H, B := H, F0 := F, bt := fun _ => 0, W := C.W } (fun _ => 0) F H (vs.map some) (entry ks ds) := by
  have hP : Paired (fun v d => RepR C.K F H v d) vs ds := S.opds hrel h1
  have lk := frOk_len hf
  have lv : vs.length = os.length := hrel.length
  have ld := rds_len h1
  refine ⟨by omega, by omega, ?_⟩
  have ge : ∀ (i : Nat) s, (entry ks ds)[i]? = some s → ∃ v d, (vs.map some)[i]? = some (some v) ∧ ((s = .bo d ∧ RepR C.K F H v d) ∨ (s = .fr d ∧ Rep C.K F d v)) := fun i s q => by
    obtain ⟨k, d, g1, g2, g3⟩ := entry_get q
    obtain ⟨v, g4, g5⟩ := paired_get hP g2
    refine ⟨v, d, by rw [List.getElem?_map, g4]; rfl, ?_⟩
    rcases frOk_get hf g1 with z | ⟨z, d', z2⟩
    · subst z; exact Or.inl ⟨g3, g5⟩
    · subst z
      refine Or.inr ⟨g3, ?_⟩
      obtain ⟨d2, g6, g7⟩ := rds_get h1 z2
      rw [g2] at g6
      cases g6
      cases g7
      obtain ⟨v', g8, g9⟩ := paired_get hrel z2
      rw [g4] at g8
      cases g8
      exact g9
  refine ⟨S.fh, Same.refl _, Same.refl _, Same.refl _, fun b o q => Or.inl q, by rw [List.length_map, entry_len (by omega)]; omega, fun i d q => ?_, fun i d q => ?_, fun i s d q r => ?_, fun i d q => ?_, fun i j s t d e q1 q2 r1 r2 => ?_, fun i ns q => ?_, fun i ns q => ?_, fun _ _ q => by cases q⟩
  · obtain ⟨v, d', g1, g2 | g2⟩ := ge i _ q
    · cases g2.1
    · cases g2.1; exact ⟨v, g1, g2.2⟩
  · obtain ⟨v, d', g1, g2 | g2⟩ := ge i _ q
    · cases g2.1; exact ⟨v, g1, g2.2⟩
    · cases g2.1
  · obtain ⟨v, d', g1, g2 | g2⟩ := ge i _ q
    · rw [g2.1] at r; cases r
    · rw [g2.1] at r; cases r
  · obtain ⟨v, d', g1, g2 | g2⟩ := ge i _ q
    · cases g2.1
    · cases g2.1
  · obtain ⟨v, d', g1, g2 | g2⟩ := ge i _ q1
    · rw [g2.1] at r1; cases r1
    · rw [g2.1] at r1; cases r1
  · obtain ⟨v, d', g1, g2 | g2⟩ := ge i _ q
    · cases g2.1
    · cases g2.1
  · obtain ⟨v, d', g1, g2 | g2⟩ := ge i _ q
    · cases g2.1
    · cases g2.1
/-- a new object comes back -/
def SpN (K : Fg) (ks : List PK) (g : List D → Option D) : Sp := fun vs H Q _ => ∃ (C : Cn) (al : Nat → Addr) (ds : List D) (d : D), C.K = K ∧ vs.length = ks.length ∧ ds.length = ks.length ∧ StOk C al C.F0 H (vs.map some) (entry ks ds) ∧ g ds = some d ∧
  ∀ al' F' H' σ' δ' p, Same C.F0 F' → StOk C al' F' H' σ' δ' → F' p = none → C.P p = none → RepO K F' H' p d → Q (.ref p) H'
def defN (n : Nat) (ks : List PK) (m : Ms) : List D → Option D := fun ds => match m (startE n (entry ks ds)) with
  | some (.rn d _) => some d
  | _ => none
section
variable {P : Program} {w : World} {K : Fg} {mg : Str → Option Value} {base : Heap}
theorem fn_n {x qual : Str} {st : Stmt} {f : Addr} {fd : FuncData} {N ps : List Str} {k : Nat} {ks : List PK} {m : Ms} (F : Fun K x qual st f fd) (S : FnScope N ps (defScope st)) (hks : ks.length = ps.length)
    (hb : ∀ (cdv : Value) (A : Around) (outer : List Env) (s : Shared) (H : Hp) (E : XK), Room k (A.deeper (PyProof.Rows.envOfC qual (defScope st) s.heap.objs.size f cdv)) → ∃ t, XB (cxOf CX0 P w K mg base N qual (defScope st) f cdv A outer s H E).nox W0 (defBody st) t m) :
    FnOk P w K mg base CX0 (k + 1) f fd ps (SpN K ks (defN N.length ks m)) := by
  refine F.ok S (fun vs H Q E h => ?_) (fun cdv A outer s H vs Q E hr h => ?_)
  · obtain ⟨C, al, ds, d, _, h1, _⟩ := h
    rw [h1, hks]
  · obtain ⟨t, B⟩ := hb cdv A outer s H E hr
    refine ⟨t, B.p, ?_⟩
    obtain ⟨C, al, ds, d, hK, h1, h2, S0, hf, hok⟩ := h
    subst hK
    have S1 := (S0.wish W0 (short_entry _ _)).begin (N := N)
    unfold defN at hf
    cases e : m (startE N.length (entry ks ds)) with
    | none => rw [e] at hf; cases hf
    | some o =>
      rw [e] at hf
      refine B.v { C with W := W0 } rfl rfl al C.F0 H _ _ S1 o e _ ?_
      cases o with
      | rn z δ => cases hf; exact fun al' F' H' σ' p s' S' n1 n2 n3 => hok al' F' H' _ _ p s' ((S'.take 0).unwish short_nil) n1 n2 n3
      | _ => cases hf
end
def mCallN (ks : List PK) (g : List D → Option D) (a : M (List Op)) : M D := a.bind fun os => (mRds os).bind fun ds => fun δ => if frOk ks os then (match g ds with
  | some d => some (.ok d δ)
  | none => none) else none
theorem en_callN {K : Fg} {W : WX} {ks : List PK} {g : List D → Option D} {a : M (List Op)} {ta : TA} {E : XK} (ha : Ea K W ta a) : En1 K W (tCall (SpN K ks g) [] E ta) (mCallN ks g a) := by
  refine J.bindN (t2 := fun (vs : List V) (_ : St) (H : Hp) (Q : VK) => SpN K ks g (vs ++ []) H Q E) ha monoT fun os vs => ?_
  intro C hK hWC al F H σ δ S hp r hr Q hok hex
  subst hK
  obtain ⟨ds, h1, hr⟩ := rds_bind hr
  by_cases hf : frOk ks os = true
  · simp only [hf, if_true] at hr
    obtain ⟨l1, l2, St1⟩ := S.callee hp.2 h1 hf
    cases e : g ds with
    | none => simp only [e] at hr; cases hr
    | some d =>
      simp only [e] at hr
      cases hr
      refine ⟨{ K := C.K, P := H, B := H, F0 := F, bt := fun _ => 0, W := C.W }, fun _ => 0, ds, d, rfl, by rw [List.append_nil]; exact l1, l2, (by rw [List.append_nil]; exact St1), e, fun al' F' H' σ' δ' p s' S' n1 n2 n3 => ?_⟩
      have nw : New F H F' H' := ⟨s', S'.fh, S'.ph, S'.fp⟩
      have n2 : H p = none := n2
      refine hok d δ rfl al F' H' p s' (S.new nw) n1 (S.ph.free n2) (fun j s e q r z => ?_) n3
      obtain ⟨_, _, _, h4⟩ := S.ow j s e q r
      obtain ⟨u, hu⟩ := h4.there
      rw [z, n2] at hu
      cases hu
  · simp only [hf] at hr
    cases hr
structure CallN (P : Program) (w : World) (K : Fg) (mg : Str → Option Value) (base : Heap) (x : Str) (k : Nat) (ps : List Str) (ks : List PK) (g : List D → Option D) : Prop where
  ex : ∃ f fd, mg x = some (.ref f) ∧ PySem.W.keepIn K (.ref f) = true ∧ Binds K fd ps [] ∧ FnOk P w K mg base CX0 k f fd ps (SpN K ks g)
theorem callN_of {P : Program} {w : World} {K : Fg} {mg : Str → Option Value} {base h : Heap} {x : Str} {st : Stmt} {k : Nat} {ps : List Str} {ks : List PK} {g : List D → Option D} (d : DefK K x st) (X : K.In h) (G : h.Ns mainGlobals mg) (hb : ∀ {f : Addr} {fd : FuncData}, Fun K x x st f fd → Binds K fd ps [])
    (hf : ∀ {f : Addr} {fd : FuncData}, Fun K x x st f fd → FnOk P w K mg base CX0 k f fd ps (SpN K ks g)) : CallN P w K mg base x k ps ks g := by
  obtain ⟨f, fd, h1, h2, h3, _⟩ := d.ex
  exact ⟨f, fd, PySem.W.mg_of X G h1, h3, hb h2, hf h2⟩
section
variable {X : Cx} {W : WX} {e : Expr} {es : List Expr} {pos p2 : Pos}
theorem n_cn {K : Fg} {x : Str} {ps : List Str} {k j : Nat} {ks : List PK} {g : List D → Option D} {t : TA} {m : M (List Op)} (c : CallN X.prog X.w X.K X.mg X.base x k ps ks g) (hr : Room j X.A) (h : XA X W (e :: es) t m) (hkj : k ≤ j := by decide) (hg : Gl X x := by rfl)
    (hdb : (x == ("__debug__" : Str)) = false := by decide) (hs : starEach (e :: es) X.env = (false, eval e X.env) :: starEach es X.env := by rfl) (hpl : (backTo pos (starEach es X.env)).any (·.1) = false := by rfl) (hK : X.K = K := by rfl) :
    XN X W (.Call (.Name x p2) (e :: es) [] pos) (tCall (SpN K ks g) [] E0 t) (mCallN ks g m) := by
  subst hK
  obtain ⟨f, fd, h1, h2, h3, h4⟩ := c.ex
  exact ⟨pe_call h4 (hr.mono hkj) hg h1 h2 h3 .nil pass0 h.p hdb hs hpl, en_callN h.v⟩
theorem s_retW {te : TE} {me : M D} (h : XN X W e te me) : XS X W (.Return (some e) pos) (tRet te) (mRetW me) := ⟨ps_ret h.p, es_retW h.v⟩
theorem s_retO {i : Nat} {me : M D} (h : XE X W e (tVar i) me) : XS X W (.Return (some e) pos) (tRet (tVar i)) (mRetO i) := ⟨ps_ret h.p, es_retO⟩
end
end DL

set_option Elab.async false
set_option linter.all false
set_option maxRecDepth 100000
set_option maxHeartbeats 400000
/-! DLs: a list of a slot walked, whether it is frozen, borrowed or one's own. -/
namespace DL
open PySem L2
def mSeqB (i : Nat) : M (List D) := fun δ => match δ[i]? with
  | some (.bo (.lst ds)) => some (.ok ds δ)
  | some (.bo _) => none
  | _ => mSeqOf (mVar i) δ
section
variable {K : Fg} {W : WX}
theorem ei_listB {i : Nat} : Ei K W false (iList K (tVar i)) (mSeqB i) := by
  intro C hK hW al F H σ δ S r hr R hok hex
  by_cases hb : ∃ d, δ[i]? = some (.bo d)
  · obtain ⟨d, hb⟩ := hb
    unfold mSeqB at hr
    cases d with
    | lst ds =>
      simp only [hb] at hr
      cases hr
      subst hK
      obtain ⟨v, h1, h2⟩ := S.bo i _ hb
      have bh : Same C.B H := S.bp.trans S.ph
      rcases h2 with h2 | ⟨a, rfl, vs, g1, g2, g3⟩
      · obtain ⟨a, vs, rfl, g1, g2, g3⟩ := Rep.lst_iff.mp h2
        refine ⟨_, h1, a, rfl, ⟨vs, Or.inl (Or.inl (S.fh _ _ g1))⟩, hok ds δ rfl al F H _ (Same.refl _) S ⟨g2, fun F2 H2 f1 f2 _ i => ⟨fun d hd => ?_, fun hl => ?_⟩⟩⟩
        · obtain ⟨u, hu, ru⟩ := g3.get hd
          have ha : H2 a = some (.lst vs) := f2 _ _ (f1 _ _ g1)
          refine ⟨⟨vs, u, Or.inl (Or.inl ha), hu⟩, fun x H' y => ?_⟩
          obtain ⟨rfl, y⟩ := y
          have q := y vs (Or.inl (Or.inl ha))
          rw [hu] at q
          cases q
          exact ⟨F2, New.refl f2, ru.mono f1⟩
        · exact ⟨vs, Or.inl (Or.inl (f2 _ _ (f1 _ _ g1))), by rw [g3.len]; exact hl⟩
      · refine ⟨_, h1, a, rfl, ⟨vs, Or.inl (Or.inl (bh _ _ g1))⟩, hok ds δ rfl al F H _ (Same.refl _) S ⟨g2, fun F2 H2 f1 f2 hp i => ⟨fun d hd => ?_, fun hl => ?_⟩⟩⟩
        · obtain ⟨u, hu, ru⟩ := g3.get hd
          have ha : H2 a = some (.lst vs) := hp _ _ (S.bp _ _ g1)
          refine ⟨⟨vs, u, Or.inl (Or.inl ha), hu⟩, fun x H' y => ?_⟩
          obtain ⟨rfl, y⟩ := y
          have q := y vs (Or.inl (Or.inl ha))
          rw [hu] at q
          cases q
          exact ⟨F2, New.refl f2, ru.mono f1⟩
        · exact ⟨vs, Or.inl (Or.inl (hp _ _ (S.bp _ _ g1))), by rw [g3.len]; exact hl⟩
    | _ => simp only [hb] at hr; cases hr
  · have e : mSeqB i δ = mSeqOf (mVar i) δ := by
      unfold mSeqB
      cases h : δ[i]? with
      | none => rfl
      | some s =>
        cases s with
        | bo d => exact absurd ⟨d, h⟩ hb
        | _ => rfl
    rw [e] at hr
    exact ei_list (K := K) ev_var C hK hW al F H σ δ S r hr R hok hex
theorem i_listB {K : Fg} {X : Cx} {tg e : Expr} {i : Nat} {me : M D} (h : XE X W e (tVar i) me) (hK : X.K = K := by rfl) : XI X W false tg e (iList K (tVar i)) (mSeqB i) := by
  subst hK
  exact ⟨pi_list h.p, ei_listB⟩
end
end DL

set_option Elab.async false
set_option linter.all false
set_option maxRecDepth 100000
set_option maxHeartbeats 400000
/-! DLt: max, min of two, int, list times n, pop(i), remove(x), reverse(). -/
namespace DL
open PySem L2
theorem primA2 {K : Fg} {r : List V → Hp → VK → Prop} {f : D → D → Option D} (h : ∀ (F H : Hp) (v w : V) (d e z : D), Same F H → RepR K F H v d → RepR K F H w e → f d e = some z → ∀ Q : VK, (∀ F' H' u, New F H F' H' → Rep K F' z u → Q u H') → r [v, w] H Q) : PrimA K r (fA2 f) := by
  intro F H vs ds e fh hv hf Q k
  match ds, hv, hf with
  | [d1, d2], hv, hf =>
    cases hv with
    | cons r1 t1 =>
      cases t1 with
      | cons r2 t2 =>
        cases t2
        exact h F H _ _ d1 d2 e fh r1 r2 hf Q k
  | [], hv, hf => cases hf
  | [_], hv, hf => cases hf
  | _ :: _ :: _ :: _, hv, hf => cases hf
def maxD : D → D → Option D
  | .int i, .int j => some (.int (if j > i then j else i))
  | _, _ => none
theorem prim_max2 {K : Fg} : PrimA K (fun xs H Q => ∃ i j, xs = [.int i, .int j] ∧ Q (.int (if j > i then j else i)) H) (fA2 maxD) := primA2 fun F H v w d e z fh hv hw hf Q k => by
  cases d with
  | int i =>
    cases e with
    | int j => cases hf; exact ⟨i, j, by rw [hv.int, hw.int], k F H _ (New.refl fh) (Rep.int_iff.mpr rfl)⟩
    | _ => cases hf
  | _ => cases e <;> cases hf
section
variable {X : Cx} {W : WX} {a b : Expr} {ta tb : TE} {oa ob : M Op} {p2 pos : Pos}
theorem x_max2 (hc : X.calm = true) (hm : X.mg "max" = none) (ha : XO X W a ta oa) (hb : XO X W b tb ob) (hg : Gl X "max" := by rfl) (hs : starEach [a, b] X.env = (false, eval a X.env) :: starEach [b] X.env := by rfl) (hs2 : starEach [b] X.env = (false, eval b X.env) :: starEach [] X.env := by rfl) :
    XE X W (.Call (.Name "max" p2) [a, b] [] pos) (tCB (fun xs H Q => ∃ i j, xs = [.int i, .int j] ∧ Q (.int (if j > i then j else i)) H) (tCons ta (tCons tb tNil))) (mA (fA2 maxD) (maCons oa (maCons ob maNil))) :=
  x_cb (call_max2 hc) prim_max2 (by decide +kernel) hm (a_cons ha (a_cons hb a_nil hs2) hs) hg (by decide) (by decide) hs (by rw [hs2]; rfl)
theorem x_int1 (hm : X.mg "int" = none) (ha : XO X W a ta oa) (hg : Gl X "int" := by rfl) (hs : starEach [a] X.env = (false, eval a X.env) :: starEach [] X.env := by rfl) :
    XE X W (.Call (.Name "int" p2) [a] [] pos) (tCB (fun xs H Q => (∃ i, xs = [V.int i] ∧ Q (.int i) H) ∨ ∃ k, xs = [V.bl k] ∧ Q (.int (if k then 1 else 0)) H) (tCons ta tNil)) (mA (fA1 intD) (maCons oa maNil)) :=
  x_ct call_int1 prim_int (by decide +kernel) hm (a_cons ha a_nil hs) hg (by decide) (by decide) hs rfl
end
/-! ### range with a step -/
def rangeC (lo c : Int) (n : Nat) : List D := (List.range n).map fun i => .int (lo + (i : Nat) * c)
def rg3 : List D → Option (List D)
  | [.int i, .int j, .int c] => if c ≠ 0 ∧ c.natAbs < 1073741824 ∧ Builtin.Range.small i j c = true ∧ (Builtin.Range.rangeSize i j c).toNat ≤ 1000000 ∧ Builtin.Range.rangeSize i j c = ((Builtin.Range.rangeSize i j c).toNat : Int) then some (rangeC i c (Builtin.Range.rangeSize i j c).toNat) else none
  | _ => none
theorem rangeC_len {lo c : Int} {n : Nat} : (rangeC lo c n).length = n := by unfold rangeC; rw [List.length_map, List.length_range]
theorem rangeC_get {lo c : Int} {n i : Nat} {d : D} (h : (rangeC lo c n)[i]? = some d) : i < n ∧ d = .int (lo + (i : Nat) * c) := by
  unfold rangeC at h
  rw [List.getElem?_map] at h
  by_cases q : i < n
  · rw [List.getElem?_range q] at h
    exact ⟨q, (Option.some.inj h).symm⟩
  · rw [List.getElem?_eq_none (by rw [List.length_range]; omega)] at h
    cases h
theorem walks_rangeC {C : Cn} {F : Hp} {lo c : Int} {n : Nat} (hn : n ≤ LB) : Walks C false F (Itc lo c n) (rangeC lo c n) := ⟨by rw [rangeC_len]; exact hn, fun F2 H2 f1 f2 _ i => ⟨fun d hd => by
    obtain ⟨q, rfl⟩ := rangeC_get hd
    refine ⟨q, fun x H' y => ?_⟩
    obtain ⟨rfl, rfl⟩ := y
    exact ⟨F2, New.refl f2, (Rep.int_iff (K := C.K) (F := F2)).mpr rfl⟩, fun hl => by
    rw [rangeC_len] at hl
    exact hl⟩⟩
section
variable {K : Fg} {W : WX}
theorem ei_range3 {ta : TA} {m : M (List D)} (h : Eds K W ta m) : Ei K W false (iRng3 ta) (mIt rg3 m) := by
  refine ei_args (u := fun vs H R => ∃ (i j c : Int) (n : Nat), vs = [.int i, .int j, .int c] ∧ RgC i j c n ∧ R (Itc i c n) H) h fun C F H as vs ds hK fh rs hf R hR => ?_
  match as, hf with
  | [.int i, .int j, .int c], hf =>
    obtain ⟨h1, rfl⟩ := if_some hf
    obtain ⟨v, us, rfl, r1, r2⟩ := rs.inv
    obtain ⟨w, ws, rfl, r3, r4⟩ := r2.inv
    obtain ⟨x, xs, rfl, r5, r6⟩ := r4.inv
    cases r6.inv0
    exact ⟨i, j, c, _, by rw [Rep.int_iff.mp r1, Rep.int_iff.mp r3, Rep.int_iff.mp r5], ⟨h1.1, h1.2.1, h1.2.2.1, h1.2.2.2.2⟩, hR _ (walks_rangeC h1.2.2.2.1)⟩
theorem i_range3 {X : Cx} {tg a b c : Expr} {p2 pos : Pos} {t : TA} {m : M (List D)} (hm : X.mg "range" = none) (h : XD X W [a, b, c] t m) (hg : Gl X "range" := by rfl) (hs : starEach [a, b, c] X.env = (false, eval a X.env) :: starEach [b, c] X.env := by rfl) (hpl : (backTo pos (starEach [b, c] X.env)).any (·.1) = false := by rfl) : XI X W false tg (.Call (.Name "range" p2) [a, b, c] [] pos) (iRng3 t) (mIt rg3 m) := ⟨pi_range3 hg hm h.p hs hpl, ei_range3 h.v⟩
end
/-! ### list times n -/
def repF : D → D → Option (List D)
  | .lst ds, .int k => if -1000000 ≤ k ∧ k ≤ 1000000 ∧ ds.length * k.toNat ≤ 1000000 then some (List.replicate k.toNat ds).flatten else none
  | _, _ => none
theorem reps_rep {K : Fg} {F : Hp} {ds : List D} {vs : List V} (h : Reps K F ds vs) : ∀ n : Nat, Reps K F (List.replicate n ds).flatten (List.replicate n vs).flatten
  | 0 => reps_nil
  | n + 1 => by
    rw [List.replicate_succ, List.replicate_succ, List.flatten_cons, List.flatten_cons]
    exact h.app (reps_rep h n)
theorem primN_rep {K : Fg} : PrimN2 K rRep repF := by
  intro F H v w d e ds fh hv hw hf Q k
  cases d with
  | lst es =>
    cases e with
    | int n =>
      obtain ⟨h1, h2⟩ := if_some (show (if -1000000 ≤ n ∧ n ≤ 1000000 ∧ es.length * n.toNat ≤ 1000000 then some (List.replicate n.toNat es).flatten else none) = some ds from hf)
      subst h2
      obtain ⟨a, vs, rfl, g1, g2, g3⟩ := hv.lst fh
      have hl : (List.replicate n.toNat es).flatten.length ≤ LB := by
        rw [List.length_flatten, List.map_replicate, List.sum_replicate_nat]
        have := h1.2.2
        unfold LB
        rw [Nat.mul_comm]
        exact this
      refine ⟨a, n, vs, rfl, hw.int, g1, by omega, by omega, by rw [g3.len]; exact LB_size h1.2.2, fun p hp => k p _ _ hp (same_upd hp) upd_same hl (reps_rep g3 n.toNat)⟩
    | _ => cases hf
  | _ => cases e <;> cases hf
section
variable {X : Cx} {W : WX} {a b : Expr} {ta tb : TE} {oa ob : M Op} {pos : Pos}
theorem n_rep (ha : XO X W a ta oa) (hb : XO X W b tb ob) : XN X W (.BinOp a .Mult b pos) (tOp rRep ta tb) (mn2 repF oa ob) := ⟨pe_op op_rep ha.p hb.p, en_2 primN_rep ha.v hb.v⟩
end
/-! ### texts compared -/
def ltSD : D → D → Option D
  | .str x, .str y => some (.bl (decide (x.cps.toList < y.cps.toList)))
  | _, _ => none
def rLtS : R2 := fun x y H Q => ∃ i j, x = .str i ∧ y = .str j ∧ Q (.bl (decide (i.cps.toList < j.cps.toList))) H
theorem prim_ltS {K : Fg} : Prim2 K rLtS ltSD := by
  intro F H v w d e z fh hv hw hf Q k
  cases d with
  | str x =>
    cases e with
    | str y => cases hf; exact ⟨x, y, hv.str, hw.str, k F H _ (New.refl fh) (Rep.bl_iff.mpr rfl)⟩
    | _ => cases hf
  | _ => cases e <;> cases hf
section
variable {X : Cx} {W : WX} {a b : Expr} {ta tb : TE} {oa ob : M Op} {pos : Pos}
theorem t_ltS (ha : XO X W a ta oa) (hb : XO X W b tb ob) : XT X W (.Compare a [.Lt] [b] pos) (tTest (tOp rLtS ta tb)) (mTest (m2 ltSD oa ob)) := ⟨pt_cmpR op_lt_str ha.p hb.p (nomark _), et_test (ev_2 prim_ltS ha.v hb.v)⟩
end
/-! ### remove -/
section
variable {X : Cx} {W : WX} {o e : Expr} {apos pos : Pos}
end
end DL

set_option Elab.async false
set_option linter.all false
set_option maxRecDepth 100000
set_option maxHeartbeats 1000000
/-! DLu: list(zip(xs, ys)), sorted. -/
namespace DL
open PySem PySem.W PySem.Calls PyProof.Rows
abbrev IsZf (h : Heap) (z TI TO : Addr) (f0 f1 : Value) : Prop := h.get? z = some { cls := .type "zip", dict := none, data := .fields #[f0, f1, .bool false, .ref TI, .ref TO], slots := #[] }
section
variable {prog : Program} {w : World} {A : Around} {E : Value → Shared → Prop} {s : Shared}
theorem owned_out {z TI TO T : Addr} {b1 : Bool} {oT : Obj} {Q : Bool → Shared → Prop} (hz : IsZf s.heap z TI TO (rawInt T) (.bool b1)) (hT : s.heap.get? T = some oT)
    (hQ : ∀ h', IsZf h' z TI TO (rawInt T) (.bool true) → Heap.SameBut z s.heap h' → Q false { s with heap := h' }) : wpAny (model prog w) A (Builtin.SmallTypes.ownedTupleIsFree (.ref z)) Q E s := by
  unfold Builtin.SmallTypes.ownedTupleIsFree
  refine wpAny_bind (wpAny_field hz rfl (x := rawInt T) rfl ?_)
  show wpAny _ _ (loadIfAlive ((T : Int).toNat) >>= _) _ _ _
  rw [Int.toNat_natCast]
  refine wpAny_bind (kdx_alive hT ?_)
  simp only [Option.isNone_some, Bool.false_eq_true, if_false]
  refine wpAny_bind (wpAny_field hz rfl (x := .bool b1) rfl ?_)
  cases b1 with
  | true =>
    rw [if_neg (show ¬ ((Value.bool true != Value.bool true) = true) from Bool.false_ne_true)]
    exact wpAny_pure (hQ _ hz (Heap.SameBut.refl _ _))
  | false =>
    rw [if_pos (show (Value.bool false != Value.bool true) = true from rfl)]
    refine wpAny_bind (wpAny_setField_rec hz (by simp) fun h₃ he₃ hs₃ => ?_)
    exact wpAny_pure (hQ h₃ he₃ hs₃)
theorem zip_next_out {z TI TO i1 i2 l1 l2 T : Addr} {k1 k2 : Nat} {b1 : Bool} {oT : Obj} {xs ys : Array Value} {x y : Value} {Q : Value → Shared → Prop} (D : ZipApart z TI TO i1 i2 l1 l2)
    (hz : IsZf s.heap z TI TO (rawInt T) (.bool b1)) (hT : s.heap.get? T = some oT) (hTI : IsPair s.heap TI (.ref i1) (.ref i2))
    (h1 : s.heap.IsListIter i1 l1 k1) (h2 : s.heap.IsListIter i2 l2 k2) (hl1 : s.heap.IsList l1 xs) (hl2 : s.heap.IsList l2 ys) (hx : xs[k1]? = some x) (hy : ys[k2]? = some y)
    (hQ : ∀ h', IsZf h' z TI TO (rawInt T) (.bool true) → h'.IsListIter i1 l1 (k1 + 1) → h'.IsListIter i2 l2 (k2 + 1) → IsPair h' s.heap.objs.size x y → h'.objs.size = s.heap.objs.size + 1 →
      (∀ c o, c ≠ z → c ≠ i1 → c ≠ i2 → s.heap.get? c = some o → h'.get? c = some o) → Q (.ref s.heap.objs.size) { s with heap := h' }) :
    wpAny (model prog w) A (Builtin.«zip.__next__» ⟨[.ref z], []⟩) (fun fin s' => ∃ v, fin = .done (.ret v) ∧ Q v s') E s := by
  show wpAny _ _ (field (.ref z) 2 >>= _) _ _ _
  refine wpAny_bind (wpAny_field hz rfl (x := .bool false) rfl ?_)
  show wpAny _ _ (field (.ref z) 3 >>= _) _ _ _
  refine wpAny_bind (wpAny_field hz rfl (x := .ref TI) rfl ?_)
  refine wpAny_bind (wpAny_seqItems hTI rfl ?_)
  show wpAny _ _ (Builtin.SmallTypes.ownedTupleIsFree (.ref z) >>= _) _ _ _
  refine wpAny_bind (owned_out hz hT fun h₁ hz₁ hs₁ => ?_)
  simp only [Bool.false_eq_true, if_false]
  refine wpAny_bind ?_
  rw [← Array.forIn_toList]
  simp only [List.forIn_cons, List.forIn_nil]
  refine wpAny_bind (wpAny_bind (wpAny_holding ?_))
  show wpAny _ _ (Builtin.SmallTypes.nextOf (.ref i1) >>= _) _ _ _
  refine wpAny_bind (wpAny_nextOf_list_item (h1.extBut hs₁.extBut D.i1z) (hl1.extBut hs₁.extBut D.l1z) hx fun h₂ h1₂ hs₂ => wpAny_pure ?_)
  refine wpAny_pure ?_
  refine wpAny_bind (wpAny_bind (wpAny_holding ?_))
  show wpAny _ _ (Builtin.SmallTypes.nextOf (.ref i2) >>= _) _ _ _
  refine wpAny_bind (wpAny_nextOf_list_item ((h2.extBut hs₁.extBut D.i2z).extBut hs₂.extBut D.i12.symm)
    ((hl2.extBut hs₁.extBut D.l2z).extBut hs₂.extBut D.l2i1) hy fun h₄ h2₄ hs₄ => wpAny_pure ?_)
  refine wpAny_pure (wpAny_pure ?_)
  refine wpAny_bind (wpAny_newTuple (hsz := by show 2 ≤ sizeLine; decide) ?_)
  have hsz : h₄.objs.size = s.heap.objs.size := by rw [hs₄.1, hs₂.1, hs₁.1]
  have hz₄ : IsZf h₄ z TI TO (rawInt T) (.bool true) := hs₄.extBut _ _ D.i2z.symm (hs₂.extBut _ _ D.i1z.symm hz₁)
  have h1₄ : h₄.IsListIter i1 l1 (k1 + 1) := h1₂.extBut hs₄.extBut D.i12
  have hk : ∀ c o, c ≠ z → c ≠ i1 → c ≠ i2 → s.heap.get? c = some o → h₄.get? c = some o := fun c o c1 c3 c4 e => hs₄.extBut _ _ c4 (hs₂.extBut _ _ c3 (hs₁.extBut _ _ c1 e))
  refine wpAny_pure ⟨_, rfl, ?_⟩
  show Q (.ref h₄.objs.size) _
  have hT₅ : IsPair (h₄.push { cls := .type "tuple", data := .seq #[x, y] }) h₄.objs.size x y := Heap.get?_push_size _ rfl
  have hz5 : (h₄.push { cls := .type "tuple", data := .seq #[x, y] }).objs.size = h₄.objs.size + 1 := Heap.size_push ..
  rw [hsz] at hT₅ hz5 ⊢
  exact hQ _ (Heap.get?_push_of_some _ hz₄) (h1₄.at fun o e => Heap.get?_push_of_some _ e) (h2₄.at fun o e => Heap.get?_push_of_some _ e) hT₅ hz5 fun c o c1 c3 c4 e => Heap.get?_push_of_some _ (hk c o c1 c3 c4 e)
theorem zip_end_out {z TI TO i1 i2 l1 l2 T : Addr} {k1 k2 : Nat} {b1 : Bool} {oT : Obj} {xs ys : Array Value} {Q : Fin → Shared → Prop} (hh : A.handled = none) (D : ZipApart z TI TO i1 i2 l1 l2)
    (hz : IsZf s.heap z TI TO (rawInt T) (.bool b1)) (hT : s.heap.get? T = some oT) (hTI : IsPair s.heap TI (.ref i1) (.ref i2))
    (h1 : s.heap.IsListIter i1 l1 k1) (h2 : s.heap.IsListIter i2 l2 k2) (hl1 : s.heap.IsList l1 xs) (hl2 : s.heap.IsList l2 ys) (hend : xs[k1]? = none ∨ ys[k2]? = none)
    (hE : ∀ h' e, (∀ c o, c ≠ z → c ≠ i1 → c ≠ i2 → s.heap.get? c = some o → h'.get? c = some o) → (∃ o, h'.get? e = some o ∧ o.cls = .type "StopIteration") → E (.ref e) { s with heap := h' }) :
    wpAny (model prog w) A (Builtin.«zip.__next__» ⟨[.ref z], []⟩) Q E s := by
  show wpAny _ _ (field (.ref z) 2 >>= _) _ _ _
  refine wpAny_bind (wpAny_field hz rfl (x := .bool false) rfl ?_)
  show wpAny _ _ (field (.ref z) 3 >>= _) _ _ _
  refine wpAny_bind (wpAny_field hz rfl (x := .ref TI) rfl ?_)
  refine wpAny_bind (wpAny_seqItems hTI rfl ?_)
  show wpAny _ _ (Builtin.SmallTypes.ownedTupleIsFree (.ref z) >>= _) _ _ _
  refine wpAny_bind (owned_out hz hT fun h₁ hz₁ hs₁ => ?_)
  simp only [Bool.false_eq_true, if_false]
  refine wpAny_bind ?_
  rw [← Array.forIn_toList]
  simp only [List.forIn_cons, List.forIn_nil]
  refine wpAny_bind (wpAny_bind (wpAny_holding ?_))
  show wpAny _ _ (Builtin.SmallTypes.nextOf (.ref i1) >>= _) _ _ _
  cases hx : xs[k1]? with
  | none => exact wpAny_bind (wpAny_nextOf_list_end hh (h1.extBut hs₁.extBut D.i1z) (hl1.extBut hs₁.extBut D.l1z) hx fun h₂ e hs₂ he => hE h₂ e (fun c o c1 c3 _ x => hs₂ _ _ c3 (hs₁.extBut _ _ c1 x)) he)
  | some x =>
    have hy : ys[k2]? = none := by rcases hend with h | h; rw [hx] at h; cases h; exact h
    refine wpAny_bind (wpAny_nextOf_list_item (h1.extBut hs₁.extBut D.i1z) (hl1.extBut hs₁.extBut D.l1z) hx fun h₂ h1₂ hs₂ => wpAny_pure ?_)
    refine wpAny_pure ?_
    refine wpAny_bind (wpAny_bind (wpAny_holding ?_))
    show wpAny _ _ (Builtin.SmallTypes.nextOf (.ref i2) >>= _) _ _ _
    exact wpAny_bind (wpAny_nextOf_list_end hh ((h2.extBut hs₁.extBut D.i2z).extBut hs₂.extBut D.i12.symm) ((hl2.extBut hs₁.extBut D.l2z).extBut hs₂.extBut D.l2i1) hy fun h₄ e hs₄ he =>
      hE h₄ e (fun c o c1 c3 c4 x => hs₄ _ _ c4 (hs₂.extBut _ _ c3 (hs₁.extBut _ _ c1 x))) he)
/-- a zip of two lists, k of its pairs handed out and kept -/
structure ZSt (h : Heap) (z TI TO i1 i2 l1 l2 S : Addr) (k : Nat) : Prop where
  pti : IsPair h TI (.ref i1) (.ref i2)
  p1 : h.IsListIter i1 l1 k
  p2 : h.IsListIter i2 l2 k
  pz : (IsZf h z TI TO .none (.bool false) ∧ ∃ a b, IsPair h TO a b) ∨ ∃ (T : Addr) (b1 : Bool) (oT : Obj), IsZf h z TI TO (rawInt T) (.bool b1) ∧ h.get? T = some oT ∧ T ≠ z ∧ T ≠ i1 ∧ T ≠ i2 ∧ T ≠ S
theorem ZSt.item {z TI TO i1 i2 l1 l2 S : Addr} {k : Nat} {xs ys : Array Value} {x y : Value} {Q : Option Value → Shared → Prop} (D : ZipApart z TI TO i1 i2 l1 l2) (Z : ZSt s.heap z TI TO i1 i2 l1 l2 S k) (hS : S < s.heap.objs.size)
    (hl1 : s.heap.IsList l1 xs) (hl2 : s.heap.IsList l2 ys) (hx : xs[k]? = some x) (hy : ys[k]? = some y)
    (hQ : ∀ h', ZSt h' z TI TO i1 i2 l1 l2 S (k + 1) → IsPair h' s.heap.objs.size x y → h'.objs.size = s.heap.objs.size + 1 →
      (∀ c o, c ≠ z → c ≠ TO → c ≠ i1 → c ≠ i2 → s.heap.get? c = some o → h'.get? c = some o) → Q (some (.ref s.heap.objs.size)) { s with heap := h' }) :
    wpAny (model prog w) A (pyNext (.ref z)) Q E s := by
  have l1s : i1 < s.heap.objs.size := by obtain ⟨_, e, _⟩ := Z.p1; exact Heap.lt_size e
  have l2s : i2 < s.heap.objs.size := by obtain ⟨_, e, _⟩ := Z.p2; exact Heap.lt_size e
  rcases Z.pz with ⟨hz, a, b, hTO⟩ | ⟨T, b1, oT, hz, hT, n1, n2, n3, n4⟩
  · have lz := Heap.lt_size hz
    refine wpAny_pyNext_zip_item D hz Z.pti hTO Z.p1 Z.p2 hl1 hl2 hx hy fun h' a1 a2 a3 a4 a5 a6 a7 => ?_
    exact hQ h' ⟨a7 _ _ D.TIz D.TITO D.TIi1 D.TIi2 Z.pti, a3, a4, Or.inr ⟨_, false, _, a1, a5, Nat.ne_of_gt lz, Nat.ne_of_gt l1s, Nat.ne_of_gt l2s, Nat.ne_of_gt hS⟩⟩ a5 a6 a7
  · have hty : s.TypeIs (.ref z) "zip" := ⟨_, hz, rfl⟩
    unfold pyNext
    refine wpAny_bind (wpAny_attempt (wpAny_callSpecial?_slot (name := Str.ofString "__next__") hty F.slot_zip_next
      (wpAny_call_entry F.slot_zip_next hty F.entry_zip_next
        (zip_next_out D hz hT Z.pti Z.p1 Z.p2 hl1 hl2 hx hy fun h' a1 a3 a4 a5 a6 a7 => wpAny_pure ?_) (F.args_zip_next_1 _))))
    exact hQ h' ⟨a7 _ _ D.TIz D.TIi1 D.TIi2 Z.pti, a3, a4, Or.inr ⟨T, true, oT, a1, a7 _ _ n1 n2 n3 hT, n1, n2, n3, n4⟩⟩ a5 a6 fun c o c1 _ c3 c4 e => a7 c o c1 c3 c4 e
theorem ZSt.done {z TI TO i1 i2 l1 l2 S : Addr} {k : Nat} {xs ys : Array Value} {Q : Option Value → Shared → Prop} (hh : A.handled = none) (D : ZipApart z TI TO i1 i2 l1 l2) (Z : ZSt s.heap z TI TO i1 i2 l1 l2 S k)
    (hl1 : s.heap.IsList l1 xs) (hl2 : s.heap.IsList l2 ys) (hend : xs[k]? = none ∨ ys[k]? = none)
    (hQ : ∀ h', (∀ c o, c ≠ z → c ≠ TO → c ≠ i1 → c ≠ i2 → s.heap.get? c = some o → h'.get? c = some o) → Q none { s with heap := h' }) : wpAny (model prog w) A (pyNext (.ref z)) Q E s := by
  rcases Z.pz with ⟨hz, a, b, hTO⟩ | ⟨T, b1, oT, hz, hT, n1, n2, n3, n4⟩
  · exact wpAny_pyNext_zip_end hh D hz Z.pti hTO Z.p1 Z.p2 hl1 hl2 hend hQ
  · have hty : s.TypeIs (.ref z) "zip" := ⟨_, hz, rfl⟩
    unfold pyNext
    refine wpAny_bind (wpAny_attempt (wpAny_callSpecial?_slot (name := Str.ofString "__next__") hty F.slot_zip_next
      (wpAny_call_entry F.slot_zip_next hty F.entry_zip_next (zip_end_out hh D hz hT Z.pti Z.p1 Z.p2 hl1 hl2 hend fun h' e hk he => ?_) (F.args_zip_next_1 _))))
    obtain ⟨o, ho, hc⟩ := he
    refine wpAny_bind (wpAny_isInstance (T := "StopIteration") (b := true) ⟨o, ho, hc⟩ isSubtype_stop ?_)
    exact wpAny_pure (hQ _ fun c o c1 _ c3 c4 e => hk c o c1 c3 c4 e)
theorem ZSt.keep {h h' : Heap} {z TI TO i1 i2 l1 l2 S : Addr} {k : Nat} (Z : ZSt h z TI TO i1 i2 l1 l2 S k) (up : ∀ b o, b ≠ S → h.get? b = some o → h'.get? b = some o) (nz : z ≠ S) (nTI : TI ≠ S) (nTO : TO ≠ S) (n1 : i1 ≠ S) (n2 : i2 ≠ S) : ZSt h' z TI TO i1 i2 l1 l2 S k :=
  ⟨up _ _ nTI Z.pti, Z.p1.at fun o e => up _ o n1 e, Z.p2.at fun o e => up _ o n2 e, Z.pz.imp (fun ⟨a, b, c, d⟩ => ⟨up _ _ nz a, b, c, up _ _ nTO d⟩) fun ⟨T, b1, oT, hz, hT, a1, a2, a3, a4⟩ => ⟨T, b1, oT, up _ _ nz hz, up _ _ a4 hT, a1, a2, a3, a4⟩⟩
end
structure ZG (xs ys : Array Value) (lo : Addr) (h : Heap) (as : List Addr) : Prop where
  rise : as.Pairwise (· < ·)
  above : ∀ a ∈ as, lo < a
  pairs : ∀ (j : Nat) (a : Addr), as[j]? = some a → ∃ x y, xs[j]? = some x ∧ ys[j]? = some y ∧ IsPair h a x y
theorem ZG.there {xs ys : Array Value} {lo : Addr} {h : Heap} {as : List Addr} (g : ZG xs ys lo h as) {a : Addr} (ha : a ∈ as) : a < h.objs.size := by
  obtain ⟨j, hj⟩ := List.mem_iff_getElem?.mp ha
  obtain ⟨_, _, _, _, e⟩ := g.pairs j a hj
  exact Heap.lt_size e
section
variable {prog : Program} {w : World} {A : Around} {s : Shared} {R : Result → Shared → Prop} {xs ys : Array Value}
theorem zl_loop {S z TI TO i1 i2 l1 l2 lo : Addr} (hh : A.handled = none) (D : ZipApart z TI TO i1 i2 l1 l2) (nz : z ≠ S) (nTI : TI ≠ S) (nTO : TO ≠ S) (n1 : i1 ≠ S) (n2 : i2 ≠ S) (m1 : l1 ≠ S) (m2 : l2 ≠ S) (hn : min xs.size ys.size ≤ sizeLine)
    (lz : z ≤ lo) (lTO : TO ≤ lo) (li1 : i1 ≤ lo) (li2 : i2 ≤ lo) (lS : S ≤ lo) (res : Value) {h₁ : Heap}
    (hR : ∀ h' tk acc c as, (∀ b o, b ≠ S → b ≠ z → b ≠ TO → b ≠ i1 → b ≠ i2 → h₁.get? b = some o → h'.get? b = some o) → h'.get? S = some { cls := .type "list", dict := none, data := .seq acc c, slots := #[] } → as.length = min xs.size ys.size → ZG xs ys lo h' as →
      acc.toList = as.map Value.ref → R (.ok (.ret res)) { s with heap := h', toks := tk }) :
    ∀ (k i : Nat) (h : Heap) (tk c : Nat) (acc : Array Value) (as : List Addr), min xs.size ys.size - i = k → i ≤ min xs.size ys.size → ZSt h z TI TO i1 i2 l1 l2 S i → h.IsList l1 xs → h.IsList l2 ys → (∀ b o, b ≠ S → b ≠ z → b ≠ TO → b ≠ i1 → b ≠ i2 → h₁.get? b = some o → h.get? b = some o) →
      h.get? S = some { cls := .type "list", dict := none, data := .seq acc c, slots := #[] } → acc.toList = as.map Value.ref → as.length = i → ZG xs ys lo h as → lo < h.objs.size →
      codeAny (model prog w) A (.builtin "list.extend.loop" ⟨[.ref S, .ref z, res], []⟩) R { s with heap := h, toks := tk } := by
  intro k
  induction k with
  | zero =>
    intro i h tk c acc as hk hi hst hl1 hl2 hkeep hS hacc hal hG hlo
    have hin : i = min xs.size ys.size := by omega
    refine codeAny_builtin PySem.F.entry_extend_loop ?_
    rw [Around.under_plainId PySem.F.plain_extend_loop _]
    show wpAny _ A.in1 (pyNext (.ref z) >>= _) _ _ _
    refine wpAny_bind (ZSt.done (s := { s with heap := h, toks := tk }) (A := A.in1) hh D hst hl1 hl2 (by
      rcases Nat.le_total xs.size ys.size with hle | hle
      · exact Or.inl (Array.getElem?_eq_none (by omega))
      · exact Or.inr (Array.getElem?_eq_none (by omega))) fun h' he => ?_)
    refine wpAny_pure (hR h' tk acc c as (fun b o b1 b2 b3 b4 b5 e => he b o b2 b3 b4 b5 (hkeep b o b1 b2 b3 b4 b5 e)) (he S _ nz.symm nTO.symm n1.symm n2.symm hS) (by omega) ⟨hG.rise, hG.above, fun j a hj => ?_⟩ hacc)
    obtain ⟨x, y, hx, hy, e3⟩ := hG.pairs j a hj
    have ab := hG.above a (List.mem_of_getElem? hj)
    exact ⟨x, y, hx, hy, he a _ (Nat.ne_of_gt (Nat.lt_of_le_of_lt lz ab)) (Nat.ne_of_gt (Nat.lt_of_le_of_lt lTO ab)) (Nat.ne_of_gt (Nat.lt_of_le_of_lt li1 ab)) (Nat.ne_of_gt (Nat.lt_of_le_of_lt li2 ab)) e3⟩
  | succ k ih =>
    intro i h tk c acc as hk hi hst hl1 hl2 hkeep hS hacc hal hG hlo
    have hlt : i < min xs.size ys.size := by omega
    have hx : xs[i]? = some xs[i] := Array.getElem?_eq_getElem (by omega)
    have hy : ys[i]? = some ys[i] := Array.getElem?_eq_getElem (by omega)
    have hsz : acc.size = i := by rw [← Array.length_toList, hacc, List.length_map, hal]
    refine codeAny_builtin PySem.F.entry_extend_loop ?_
    rw [Around.under_plainId PySem.F.plain_extend_loop _]
    show wpAny _ A.in1 (pyNext (.ref z) >>= _) _ _ _
    refine wpAny_bind (ZSt.item (s := { s with heap := h, toks := tk }) (S := S) D hst (Heap.lt_size hS) hl1 hl2 hx hy fun h' hst' ht hz hkp => ?_)
    dsimp only at ht hz hkp ⊢
    have hS' := hkp S _ nz.symm nTO.symm n1.symm n2.symm hS
    have up : ∀ b o, b ≠ S → h'.get? b = some o → (h'.update S (Obj.mapSeq (·.push (Value.ref h.objs.size)))).get? b = some o := fun b o hb e => (Heap.get?_update_other _ _ (Ne.symm hb)).trans e
    have hSl : S < h.objs.size := Heap.lt_size hS
    have e0 : (h'.update S (Obj.mapSeq (·.push (Value.ref h.objs.size)))).get? h.objs.size = _ := up _ _ (Nat.ne_of_gt hSl) ht
    show wpAny _ A.in1 (updateSeq S (·.push (Value.ref h.objs.size)) >>= _) _ _ _
    refine wpAny_bind ?_
    refine wpAny_updateSeq hS' rfl (wpAny_pure ⟨plainId_quiet PySem.F.plain_extend_loop _, ih (i + 1) _ tk _ (acc.push (Value.ref h.objs.size)) (as ++ [h.objs.size]) (by omega) (by omega) (hst'.keep up nz nTI nTO n1 n2)
      (hl1.at fun o e => up _ o m1 (hkp _ o D.l1z D.l1TO D.l1i1 D.l1i2 e)) (hl2.at fun o e => up _ o m2 (hkp _ o D.l2z D.l2TO D.l2i1 D.l2i2 e))
      (fun b o b1 b2 b3 b4 b5 e => up b o b1 (hkp b o b2 b3 b4 b5 (hkeep b o b1 b2 b3 b4 b5 e))) (Heap.get?_update_self _ hS' rfl) (by rw [Array.toList_push, hacc, List.map_append]; rfl) (by rw [List.length_append, hal]; rfl) ⟨?_, ?_, ?_⟩ ?_⟩) (by rw [hsz]; omega) (by show (acc.push (Value.ref h.objs.size)).size ≤ sizeLine + 1; rw [Array.size_push, hsz]; omega)
    · refine List.pairwise_append.mpr ⟨hG.rise, List.pairwise_singleton _ _, fun a ha b hb => ?_⟩
      rw [List.mem_singleton.mp hb]
      exact hG.there ha
    · intro a ha
      rcases List.mem_append.mp ha with ha | ha
      · exact hG.above a ha
      · rw [List.mem_singleton.mp ha]; exact hlo
    · intro j b hj
      rcases Nat.lt_trichotomy j as.length with h1 | h1 | h1
      · rw [List.getElem?_append_left h1] at hj
        obtain ⟨x, y, hx', hy', e3⟩ := hG.pairs j b hj
        have hb := hG.above b (List.mem_of_getElem? hj)
        exact ⟨x, y, hx', hy', up b _ (Nat.ne_of_gt (Nat.lt_of_le_of_lt lS hb)) (hkp b _ (Nat.ne_of_gt (Nat.lt_of_le_of_lt lz hb)) (Nat.ne_of_gt (Nat.lt_of_le_of_lt lTO hb)) (Nat.ne_of_gt (Nat.lt_of_le_of_lt li1 hb)) (Nat.ne_of_gt (Nat.lt_of_le_of_lt li2 hb)) e3)⟩
      · subst h1
        have hb : h.objs.size = b := by simpa using hj
        subst hb
        subst hal
        exact ⟨_, _, hx, hy, e0⟩
      · have hnone : (as ++ [h.objs.size])[j]? = none := List.getElem?_eq_none (by rw [List.length_append, List.length_singleton]; omega)
        rw [hnone] at hj; cases hj
    · exact Nat.lt_trans hlo (Heap.lt_size e0)
theorem zip_hint {E : Value → Shared → Prop} {z : Addr} (hT : s.TypeIs (.ref z) "zip") {Q : Bool → Shared → Prop} (h : Q true s) : wpAny (model prog w) A (Builtin.List.listLengthHint (.ref z)) Q E s := by
  unfold Builtin.List.listLengthHint
  refine wpAny_bind (wpAny_specialOf hT (show typeLookup (.type "zip") "__len__" = pure none by rw [typeLookup_type, builtinLookup_eq_fast]; kernel_rfl) ?_)
  wp_delta
  refine wpAny_ite_split (fun hab => absurd hab (by decide)) (fun _ => ?_)
  refine wpAny_bind (wpAny_specialOf hT (show typeLookup (.type "zip") "__length_hint__" = pure none by rw [typeLookup_type, builtinLookup_eq_fast]; kernel_rfl) ?_)
  exact wpAny_pure h
theorem zl_extend {S z TI TO i1 i2 l1 l2 : Addr} (hh : A.handled = none) (D : ZipApart z TI TO i1 i2 l1 l2) (hz : IsZip s.heap z TI TO .none) (hTI : IsPair s.heap TI (.ref i1) (.ref i2)) {a b : Value} (hTO : IsPair s.heap TO a b)
    (h1 : s.heap.IsListIter i1 l1 0) (h2 : s.heap.IsListIter i2 l2 0) (hl1 : s.heap.IsList l1 xs) (hl2 : s.heap.IsList l2 ys) (lz : z < S) (lTI : TI < S) (lTO : TO < S) (li1 : i1 < S) (li2 : i2 < S) (m1 : l1 < S) (m2 : l2 < S)
    (res : Value) (c₀ : Nat) (hS : s.heap.get? S = some { cls := .type "list", data := .seq #[] c₀ }) (hn : min xs.size ys.size ≤ sizeLine)
    (hR : ∀ h' tk acc c as, (∀ b o, b ≠ S → b ≠ z → b ≠ TO → b ≠ i1 → b ≠ i2 → s.heap.get? b = some o → h'.get? b = some o) → h'.get? S = some { cls := .type "list", dict := none, data := .seq acc c, slots := #[] } → as.length = min xs.size ys.size → ZG xs ys S h' as →
      acc.toList = as.map Value.ref → R (.ok (.ret res)) { s with heap := h', toks := tk }) :
    wpAny (model prog w) A.in1 (Builtin.List.listExtendWith (.ref S) (.ref z) res)
      (fun fin s' => match fin with | .done f => R (.ok f) s' | .again c' => c'.quiet = true ∧ codeAny (model prog w) A c' R s') (fun e s' => R (.error e) s') s := by
  have hty : s.TypeIs (.ref z) "zip" := ⟨_, hz, rfl⟩
  have nz := Nat.ne_of_lt lz
  have nTI := Nat.ne_of_lt lTI
  have nTO := Nat.ne_of_lt lTO
  have n1 := Nat.ne_of_lt li1
  have n2 := Nat.ne_of_lt li2
  have k1 := Nat.ne_of_lt m1
  have k2 := Nat.ne_of_lt m2
  have key : ∀ (h : Heap) (c₁ tk : Nat), (∀ b o, b ≠ S → s.heap.get? b = some o → h.get? b = some o) → h.get? S = some { cls := .type "list", data := .seq #[] c₁ } → codeAny (model prog w) A (.builtin "list.extend.loop" ⟨[.ref S, .ref z, res], []⟩) R { s with heap := h, toks := tk } := by
    intro h c₁ tk hk hS₁
    exact zl_loop (s := s) (h₁ := s.heap) (lo := S) hh D nz nTI nTO n1 n2 k1 k2 hn (Nat.le_of_lt lz) (Nat.le_of_lt lTO) (Nat.le_of_lt li1) (Nat.le_of_lt li2) (Nat.le_refl _) res hR
      _ 0 h tk c₁ #[] [] rfl (Nat.zero_le _) ⟨hk _ _ nTI hTI, h1.at fun o e => hk _ o n1 e, h2.at fun o e => hk _ o n2 e, Or.inl ⟨hk _ _ nz hz, a, b, hk _ _ nTO hTO⟩⟩ (hl1.at fun o e => hk _ o k1 e) (hl2.at fun o e => hk _ o k2 e)
      (fun b o b1 _ _ _ _ e => hk b o b1 e) hS₁ rfl rfl ⟨List.Pairwise.nil, (fun _ ha => nomatch ha), (fun j a hj => by simp at hj)⟩ (Heap.lt_size hS₁)
  unfold Builtin.List.listExtendWith
  refine wpAny_bind (wpAny_typeOf (T := "zip") hty ?_)
  have h1 : Builtin.List.listSameRef (.ref S) (.ref z) = false := by simp [Builtin.List.listSameRef, Nat.ne_of_gt lz]
  have h2 : (Value.type "zip" == Value.type "list") = false := by decide
  have h3 : (Value.type "zip" == Value.type "tuple") = false := by decide
  simp only [h1, h2, h3, Bool.or_false, Bool.false_eq_true, if_false]
  refine wpAny_bind (wpAny_pyIter_zip hz ?_)
  refine wpAny_bind (wpAny_holding (zip_hint hty ?_))
  simp only [Bool.true_or, if_true]
  refine wpAny_bind (wpAny_rule ?_)
  refine wpAny_bind ?_
  show wpAny _ _ (updateSeq S (·.push .none) >>= fun _ => updateSeq S (·.pop)) _ _ _
  refine wpAny_bind (wpAny_updateSeq hS rfl ?_)
  have hS₂ := Heap.get?_update_self (Obj.mapSeq (·.push Value.none)) hS rfl
  refine wpAny_updateSeq (hz := by seq_fits) hS₂ rfl ?_
  have hS₃ := Heap.get?_update_self (Obj.mapSeq (·.pop)) hS₂ rfl
  refine wpAny_pure ⟨plainId_quiet PySem.F.plain_extend_loop _, key _ _ _ (fun b o hb e => ?_) hS₃⟩
  exact (Heap.get?_update_other _ _ (Ne.symm hb)).trans ((Heap.get?_update_other _ _ (Ne.symm hb)).trans e)
theorem zl_call {E : Value → Shared → Prop} {z TI TO i1 i2 l1 l2 : Addr} {Q : Value → Shared → Prop} (hh : A.handled = none) (D : ZipApart z TI TO i1 i2 l1 l2) (hz : IsZip s.heap z TI TO .none) (hTI : IsPair s.heap TI (.ref i1) (.ref i2)) {a b : Value} (hTO : IsPair s.heap TO a b)
    (h1 : s.heap.IsListIter i1 l1 0) (h2 : s.heap.IsListIter i2 l2 0) (hl1 : s.heap.IsList l1 xs) (hl2 : s.heap.IsList l2 ys) (hn : min xs.size ys.size ≤ sizeLine)
    (hQ : ∀ h' tk acc c as, (∀ b o, b ≠ z → b ≠ TO → b ≠ i1 → b ≠ i2 → s.heap.get? b = some o → h'.get? b = some o) → h'.get? s.heap.objs.size = some { cls := .type "list", dict := none, data := .seq acc c, slots := #[] } → as.length = min xs.size ys.size → ZG xs ys s.heap.objs.size h' as →
      acc.toList = as.map Value.ref → Q (.ref s.heap.objs.size) { s with heap := h', toks := tk }) :
    wpAny (model prog w) A (call (.type "list") [.ref z]) Q E s := by
  refine callType_codes (Q₁ := fun obj s₁ => obj = .ref s.heap.objs.size ∧ s₁ = { s with heap := s.heap.push { cls := .type "list", data := .seq #[] } }) PySem.F.called_list (PySem.F.typeCall_list_1 _) PySem.F.entry_list_init
    (code_list_new _ ⟨rfl, rfl⟩) fun obj s₁ h₁ => ?_
  obtain ⟨rfl, rfl⟩ := h₁
  have hS : (s.heap.push { cls := .type "list", data := .seq #[] }).get? s.heap.objs.size = some { cls := .type "list", data := .seq #[] } := Heap.get?_push_size _ rfl
  refine ⟨⟨_, hS, rfl⟩, PySem.F.args_list_init_2 _ _, ?_⟩
  have q : ∀ {b o}, s.heap.get? b = some o → b < s.heap.objs.size := fun e => Heap.lt_size e
  have lz := q hz
  have lTI := q hTI
  have lTO := q hTO
  have li1 : i1 < s.heap.objs.size := by obtain ⟨_, e, _⟩ := h1; exact q e
  have li2 : i2 < s.heap.objs.size := by obtain ⟨_, e, _⟩ := h2; exact q e
  have m1 : l1 < s.heap.objs.size := by obtain ⟨_, e, _⟩ := hl1; exact q e
  have m2 : l2 < s.heap.objs.size := by obtain ⟨_, e, _⟩ := hl2; exact q e
  show wpAny _ _ (do let old ← Builtin.List.listItems (.ref s.heap.objs.size); Builtin.List.listUpdate (.ref s.heap.objs.size) (fun _ => #[]); letGo old.toList.reverse; Builtin.List.listExtendWith (.ref s.heap.objs.size) (.ref z) .none) _ _ _
  refine wpAny_bind ?_
  unfold Builtin.List.listItems
  refine wpAny_bind (wpAny_seqItems hS rfl (wpAny_pure ?_))
  show wpAny _ _ (updateSeq s.heap.objs.size (fun _ => #[]) >>= fun _ => letGo (#[] : Array Value).toList.reverse >>= fun _ => Builtin.List.listExtendWith (.ref s.heap.objs.size) (.ref z) .none) _ _ _
  refine wpAny_bind (wpAny_updateSeq hS rfl ?_)
  have hS₂ := Heap.get?_update_self (Obj.mapSeq (fun _ => (#[] : Array Value))) hS rfl
  have oth : ∀ b o, s.heap.get? b = some o → ((s.heap.push { cls := .type "list", data := .seq #[] }).update s.heap.objs.size (Obj.mapSeq (fun _ => (#[] : Array Value)))).get? b = some o :=
    fun b o e => (Heap.get?_update_other _ _ (Nat.ne_of_gt (q e))).trans (Heap.get?_push_of_some _ e)
  refine wpAny_bind (wpAny_letGo ?_)
  refine zl_extend (A := A.in1) (S := s.heap.objs.size) hh D (oth _ _ hz) (oth _ _ hTI) (oth _ _ hTO) (h1.at fun o e => oth _ o e) (h2.at fun o e => oth _ o e) (hl1.at fun o e => oth _ o e) (hl2.at fun o e => oth _ o e) lz lTI lTO li1 li2 m1 m2 .none _ hS₂ hn (fun h' tk acc c as hk hS' hl hG hacc => ?_)
  exact ⟨rfl, hQ h' tk acc c as (fun b o b2 b3 b4 b5 e => hk b o (Nat.ne_of_lt (q e)) b2 b3 b4 b5 (oth b o e)) hS' hl hG hacc⟩
end
end DL

set_option Elab.async false
set_option linter.all false
set_option maxRecDepth 100000
set_option maxHeartbeats 1000000
/-! DLv: list(zip(xs, ys)) as a rule over data. -/
namespace DL
open PySem L2
/-- several objects laid -/
def upds (H : Hp) : List (Addr × HO) → Hp
  | [] => H
  | p :: ps => upd (upds H ps) p.1 p.2
theorem upds_out {H : Hp} : ∀ {ps : List (Addr × HO)} {a : Addr}, a ∉ ps.map (·.1) → upds H ps a = H a
  | [], a, _ => rfl
  | p :: ps, a, h => by
    rw [List.map_cons, List.mem_cons, not_or] at h
    show upd (upds H ps) p.1 p.2 a = H a
    rw [upd_ne h.1, upds_out h.2]
theorem upds_cases {H : Hp} : ∀ {ps : List (Addr × HO)} {a : Addr} {o : HO}, upds H ps a = some o → (a, o) ∈ ps ∨ (a ∉ ps.map (·.1) ∧ H a = some o)
  | [], a, o, h => Or.inr ⟨by simp, h⟩
  | p :: ps, a, o, h => by
    have h : upd (upds H ps) p.1 p.2 a = some o := h
    by_cases e : a = p.1
    · subst e
      rw [upd_same] at h
      cases h
      exact Or.inl List.mem_cons_self
    · rw [upd_ne e] at h
      rcases upds_cases h with h | ⟨h1, h2⟩
      · exact Or.inl (List.mem_cons_of_mem _ h)
      · exact Or.inr ⟨by rw [List.map_cons, List.mem_cons, not_or]; exact ⟨e, h1⟩, h2⟩
section
variable {X : Cx} {pins : List (Addr × Obj)} {σ : St} {H H' : Hp} {s : Shared} {h' : Heap}
/-- several new objects tracked -/
theorem inv_many {t' : Nat} (I : Inv X pins σ H s) (k : ∀ b u, s.heap.get? b = some u → h'.get? b = some u) (hs : ∀ b o, H b = some o → H' b = some o)
    (hnew : ∀ b o, H' b = some o → H b = some o ∨ (s.heap.objs.size ≤ b ∧ ObjOk X.prog X.w H' h' b o)) : Inv X pins σ H' { s with heap := h', toks := t' } := by
  refine I.un ?_ ?_
  · exact ⟨fun b u q _ _ _ => k b u q, fun b u q _ _ _ => ⟨u.slots, k b u q⟩, fun b u q n _ => by
      cases e : H' b with
      | none => rfl
      | some o =>
        rcases hnew b o e with e' | ⟨e', _⟩
        · rw [n] at e'; cases e'
        · exact absurd (Heap.lt_size q) (Nat.not_lt.mpr e'), fun b u q _ => ⟨u, k b u q⟩, fun b xs q => hs _ _ q, fun b u xs q => hs _ _ q, fun b ps q => ⟨#[], by rw [hs _ _ q]; simp⟩⟩
  · intro b o e
    rcases hnew b o e with e' | ⟨_, e'⟩
    · exact (I.hok b o e').stay (fun c v _ q => k c v q) (fun c q => hs _ _ q) fun c xs q => hs _ _ q
    · exact e'
end
/-- the pairs, each at its place -/
def zipO (its : List (Addr × Obj)) (xs ys : List V) : List (Addr × HO) := (its.zip (xs.zip ys)).map fun p => (p.1.1, .frz p.1.2 (.tup [p.2.1, p.2.2]))
def rZipL (K : Fg) : List V → Hp → VK → Prop := fun vs H Q => ∃ a b xs ys, vs = [.ref a, .ref b] ∧ SqL K H a xs ∧ SqL K H b ys ∧ ∀ (its : List (Addr × Obj)) (L : Addr), its.length = (xs.zip ys).length → (L :: its.map (·.1)).Nodup →
  (∀ p ∈ L :: its.map (·.1), H p = none) → (∀ q ∈ its, q.2.dict = none) → Q (.ref L) (upd (upds H (zipO its xs ys)) L (.lst (its.map fun q => V.ref q.1)))
theorem zip_keys {its : List (Addr × Obj)} {xs ys : List V} (h : its.length = (xs.zip ys).length) : (zipO its xs ys).map (·.1) = its.map (·.1) := by
  unfold zipO
  rw [List.map_map]
  have e : ((fun x : Addr × HO => x.1) ∘ fun p : (Addr × Obj) × (V × V) => (p.1.1, HO.frz p.1.2 (.tup [p.2.1, p.2.2]))) = (fun q : Addr × Obj => q.1) ∘ Prod.fst := rfl
  rw [e, ← List.map_map, List.map_fst_zip (by omega)]
theorem refs_vals : ∀ as : List Addr, Vals (as.map V.ref) (as.map Value.ref)
  | [] => .nil
  | x :: r => .cons rfl (refs_vals r)
theorem zap (n x y : Nat) (hx : x < n) (hy : y < n) : ZipApart (n + 4) (n + 2) (n + 3) n (n + 1) x y := by constructor <;> (show (_ : Nat) ≠ _) <;> omega
theorem ne_add (c n k : Nat) (h : c < n) : c ≠ n + k := by omega
theorem big5 (n m x : Nat) (h : m = n + 5) (g : m < x) : n ≤ x := by omega
section
variable {X : Cx} {e1 e2 : Expr} {t : TA} {p p1 pos1 pos : Pos}
theorem pe_zipL (hc : X.calm = true) (ha : PA X [e1, e2] t) (hm : X.mg "list" = none) (hmz : X.mg "zip" = none) (hg : Gl X "list" := by rfl) (hgz : Gl X "zip" := by rfl)
    (hs1 : starEach [e1, e2] X.env = (false, eval e1 X.env) :: starEach [e2] X.env := by rfl) (hpl1 : (backTo pos1 (starEach [e2] X.env)).any (·.1) = false := by rfl)
    (hs : starEach [.Call (.Name "zip" p1) [e1, e2] [] pos1] X.env = (false, eval (.Call (.Name "zip" p1) [e1, e2] [] pos1) X.env) :: starEach [] X.env := by rfl) (hpl : (backTo pos (starEach [] X.env)).any (·.1) = false := by rfl) :
    PE X (.Call (.Name "list" p) [.Call (.Name "zip" p1) [e1, e2] [] pos1] [] pos) (tCB (rZipL X.K) t) := by
  refine ⟨fun pins s σ H Q I h => ?_⟩
  refine wpAny_Call_Name_kw (ld_blt (u := .type "list") I hg hm (by decide +kernel) ?_ (by decide) (by decide))
  refine PyProof.Rows.callWith_type1 ?_ hs hpl
  rw [hs]
  show wpAny _ _ (spliced ((false, eval _ X.env) :: backTo pos (starEach [] X.env))) _ _ s
  refine Calls.spliced_cons ?_
  refine wpAny_Call_Name_kw (ld_blt (u := .type "zip") I hgz hmz (by decide +kernel) ?_ (by decide) (by decide))
  refine PyProof.Rows.callWith_type1 (thn (ha.run pos1 pins s σ H _ I h) fun us s1 ⟨vs, H1, I1, r1, q1⟩ => ?_) hs1 hpl1
  obtain ⟨a, b, xs, ys, rfl, hx, hy, q⟩ := q1
  obtain ⟨u, v, rfl, ru, rv⟩ := vals2 r1
  cases ru
  cases rv
  obtain ⟨ix, vx, px, zx⟩ := I1.list hx
  obtain ⟨iy, vy, py, zy⟩ := I1.list hy
  refine call_zip_2 px.isList py.isList fun h' hz hTI hTO h1 h2 hsz hk => ?_
  show wpAny _ _ (spliced []) _ _ _
  refine Calls.spliced_nil ?_
  have nlt : ∀ {b o}, s1.heap.get? b = some o → b < s1.heap.objs.size := fun e => Heap.lt_size e
  have la : a < s1.heap.objs.size := by obtain ⟨_, e, _⟩ := px.isList; exact nlt e
  have lb : b < s1.heap.objs.size := by obtain ⟨_, e, _⟩ := py.isList; exact nlt e
  have lx := vx.length
  have ly := vy.length
  have D : ZipApart (s1.heap.objs.size + 4) (s1.heap.objs.size + 2) (s1.heap.objs.size + 3) s1.heap.objs.size (s1.heap.objs.size + 1) a b := zap _ _ _ la lb
  refine zl_call (s := { s1 with heap := h' }) (I1.ok.hd hc) D hz hTI hTO h1 h2 (px.isList.at fun o e => hk _ o e) (py.isList.at fun o e => hk _ o e) (by rw [List.size_toArray, List.size_toArray]; omega) fun h2 tk acc c as hkp hS hl hG hacc => ?_
  dsimp only at hkp hS hG hacc ⊢
  rw [List.size_toArray, List.size_toArray] at hl
  have hsz' : h'.objs.size = s1.heap.objs.size + 5 := hsz
  have keep : ∀ b o, s1.heap.get? b = some o → h2.get? b = some o := fun c o e => by
    have lc := nlt e
    exact hkp c o (ne_add _ _ 4 lc) (ne_add _ _ 3 lc) (Nat.ne_of_lt lc) (ne_add _ _ 1 lc) (hk c o e)
  obtain ⟨its, hits⟩ : ∃ its : List (Addr × Obj), its = (as.zip (ix.zip iy)).map fun q => (q.1, { cls := .type "tuple", data := .seq #[q.2.1, q.2.2] }) := ⟨_, rfl⟩
  have e1 : its.map (·.1) = as := by
    rw [hits, List.map_map]
    exact List.map_fst_zip (by rw [List.length_zip]; omega)
  have hil : its.length = as.length := by have := congrArg List.length e1; rwa [List.length_map] at this
  have hil2 : its.length = (xs.zip ys).length := by rw [hil, List.length_zip]; omega
  have big : ∀ x ∈ h'.objs.size :: as, s1.heap.objs.size ≤ x := fun x hx => by
    rcases List.mem_cons.mp hx with e | e
    · rw [e, hsz']; exact Nat.le_add_right _ _
    · exact big5 _ _ _ hsz' (hG.above x e)
  have nd : (h'.objs.size :: as).Nodup := List.nodup_cons.mpr ⟨fun z => Nat.lt_irrefl _ (hG.above _ z), hG.rise.imp fun h => Nat.ne_of_lt h⟩
  have fr : ∀ x ∈ h'.objs.size :: as, H1 x = none := fun x hx => I1.hok.fresh (big x hx)
  have fin := q its h'.objs.size hil2 (by rw [e1]; exact nd) (by rw [e1]; exact fr) (fun z hz => by
    rw [hits] at hz
    obtain ⟨y, _, rfl⟩ := List.mem_map.mp hz
    rfl)
  have e2 : (its.map fun z => V.ref z.1) = as.map V.ref := by rw [← e1, List.map_map]; rfl
  rw [e2] at fin
  refine ⟨.ref h'.objs.size, _, inv_many (t' := tk) I1 keep (fun b o e => ?_) (fun b o e => ?_), rfl, fin⟩
  · have hb : b ∉ h'.objs.size :: as := fun z => by rw [fr b z] at e; cases e
    rw [List.mem_cons, not_or] at hb
    rw [upd_ne hb.1, upds_out (by rw [zip_keys hil2, e1]; exact hb.2)]
    exact e
  · by_cases hb : b = h'.objs.size
    · subst hb
      rw [upd_same] at e
      cases e
      refine Or.inr ⟨big _ List.mem_cons_self, by rw [List.length_map]; omega, as.map Value.ref, c, ?_, ?_⟩
      · exact refs_vals as
      · rw [hS, ← hacc]
    · rw [upd_ne hb] at e
      rcases upds_cases e with e | ⟨_, e⟩
      · refine Or.inr ⟨big _ (List.mem_cons_of_mem _ ?_), ?_⟩
        · have : b ∈ (zipO its xs ys).map (·.1) := List.mem_map.mpr ⟨_, e, rfl⟩
          rw [zip_keys hil2, e1] at this
          exact this
        · obtain ⟨⟨⟨b', ob⟩, x, y⟩, hm', ee⟩ := List.mem_map.mp e
          cases ee
          obtain ⟨j, hj⟩ := List.mem_iff_getElem?.mp hm'
          rw [List.getElem?_zip_eq_some] at hj
          obtain ⟨j1, j2⟩ := hj
          rw [List.getElem?_zip_eq_some] at j2
          obtain ⟨jx, jy⟩ := j2
          have jx : xs[j]? = some x := jx
          have jy : ys[j]? = some y := jy
          rw [hits, List.getElem?_map, Option.map_eq_some_iff] at j1
          obtain ⟨⟨a', u', v'⟩, k1, k2⟩ := j1
          cases k2
          rw [List.getElem?_zip_eq_some] at k1
          obtain ⟨ka, kb⟩ := k1
          rw [List.getElem?_zip_eq_some] at kb
          obtain ⟨ku, kv⟩ := kb
          have ku : ix[j]? = some u' := ku
          have kv : iy[j]? = some v' := kv
          obtain ⟨u2, v2, g1, g2, g3⟩ := hG.pairs j _ ka
          rw [List.getElem?_toArray] at g1 g2
          rw [ku] at g1
          rw [kv] at g2
          cases g1
          cases g2
          obtain ⟨u3, w1, w2⟩ := vx.get jx
          obtain ⟨v3, w3, w4⟩ := vy.get jy
          rw [ku] at w1
          rw [kv] at w3
          cases w1
          cases w3
          exact ⟨g3, by show 2 ≤ sizeLine; decide, [u', v'], .cons w2 (.cons w4 .nil), ⟨_, g3, rfl, _, rfl⟩⟩
      · exact Or.inl e
end
def zipF : List D → Option (List D)
  | [.lst as, .lst bs] => some ((as.zip bs).map fun p => .tup [p.1, p.2])
  | _ => none
/-- the pairs laid are frozen tuples -/
theorem zip_new {K : Fg} : ∀ (as bs : List D) (xs ys : List V) (its : List (Addr × Obj)) (F H : Hp), Same F H → Reps K F as xs → Reps K F bs ys → its.length = (xs.zip ys).length → (its.map (·.1)).Nodup → (∀ p ∈ its.map (·.1), H p = none) → (∀ q ∈ its, q.2.dict = none) →
    New F H (upds F (zipO its xs ys)) (upds H (zipO its xs ys)) ∧ Reps K (upds F (zipO its xs ys)) ((as.zip bs).map fun p => .tup [p.1, p.2]) (its.map fun q => V.ref q.1)
  | [], bs, xs, ys, its, F, H, fh, ra, rb, hl, nd, hn, hd => by
    cases ra.inv0
    simp only [List.zip_nil_left, List.length_nil] at hl
    have : its = [] := List.length_eq_zero_iff.mp hl
    subst this
    exact ⟨New.refl fh, reps_nil⟩
  | a :: as, [], xs, ys, its, F, H, fh, ra, rb, hl, nd, hn, hd => by
    cases rb.inv0
    simp only [List.zip_nil_right, List.length_nil] at hl
    have : its = [] := List.length_eq_zero_iff.mp hl
    subst this
    exact ⟨New.refl fh, reps_nil⟩
  | a :: as, b :: bs, xs, ys, its, F, H, fh, ra, rb, hl, nd, hn, hd => by
    obtain ⟨x, xs', rfl, r1, r2⟩ := ra.inv
    obtain ⟨y, ys', rfl, r3, r4⟩ := rb.inv
    cases its with
    | nil => simp at hl
    | cons q its =>
      have nd' := List.nodup_cons.mp nd
      obtain ⟨n1, n2⟩ := zip_new as bs xs' ys' its F H fh r2 r4 (by simpa using hl) nd'.2 (fun p hp => hn p (List.mem_cons_of_mem _ hp)) (fun z hz => hd z (List.mem_cons_of_mem _ hz))
      have hq : upds H (zipO its xs' ys') q.1 = none := by
        rw [upds_out (by rw [zip_keys (by simpa using hl)]; exact nd'.1)]
        exact hn q.1 List.mem_cons_self
      obtain ⟨n3, n4⟩ := newT (K := K) (ds := [a, b]) (vs := [x, y]) n1.fh hq (hd q List.mem_cons_self) (show 2 ≤ LB by decide) (reps_cons (r1.mono n1.ff) (reps_cons (r3.mono n1.ff) reps_nil))
      exact ⟨n1.trans n3, reps_cons n4 (n2.mono n3.ff)⟩
section
variable {K : Fg} {W : WX}
theorem en_zip {ta : TA} {a : M (List Op)} (ha : Ea K W ta a) : En1 K W (tCB (rZipL K) ta) (mnA zipF a) := by
  refine J.bindN (t2 := fun x _ H Q => rZipL K x H Q) ha monoT fun o v => ?_
  intro C hK hW al F H σ δ S hp q hr Q hok hex
  subst hK
  obtain ⟨d, h1, hr⟩ := rds_bind hr
  obtain ⟨e, h2, rfl⟩ := lift_some hr
  have pr := S.opds hp.2 h1
  match d, pr, h2 with
  | [.lst as, .lst bs], pr, h2 =>
    cases pr with
    | cons q1 t1 =>
      cases t1 with
      | cons q2 t2 =>
        cases t2
        cases h2
        obtain ⟨a, xs, rfl, g1, g2, g3⟩ := q1.lst S.fh
        obtain ⟨b, ys, rfl, g4, g5, g6⟩ := q2.lst S.fh
        refine ⟨a, b, xs, ys, rfl, Or.inl (Or.inl g1), Or.inl (Or.inl g4), fun its L hl nd hn hd => ?_⟩
        have nd' := List.nodup_cons.mp nd
        obtain ⟨n1, n2⟩ := zip_new as bs xs ys its F H S.fh g3 g6 hl nd'.2 (fun p hp => hn p (List.mem_cons_of_mem _ hp)) hd
        have S1 := S.new n1
        have hL : upds H (zipO its xs ys) L = none := by
          rw [upds_out (by rw [zip_keys hl]; exact nd'.1)]
          exact hn L List.mem_cons_self
        obtain ⟨z1, z2, z3, z4, z5⟩ := newO S1 hL (same_upd hL) upd_same (by rw [List.length_map, List.length_zip]; omega) n2
        exact hok _ δ rfl al _ _ L n1.ff z1 z2 z3 z4 z5
theorem n_zip {K : Fg} {X : Cx} {e1 e2 : Expr} {t : TA} {m : M (List Op)} {p p1 pos1 pos : Pos} (hc : X.calm = true) (hm : X.mg "list" = none) (hmz : X.mg "zip" = none) (h : XA X W [e1, e2] t m) (hg : Gl X "list" := by rfl) (hgz : Gl X "zip" := by rfl)
    (hs1 : starEach [e1, e2] X.env = (false, eval e1 X.env) :: starEach [e2] X.env := by rfl) (hpl1 : (backTo pos1 (starEach [e2] X.env)).any (·.1) = false := by rfl)
    (hs : starEach [.Call (.Name "zip" p1) [e1, e2] [] pos1] X.env = (false, eval (.Call (.Name "zip" p1) [e1, e2] [] pos1) X.env) :: starEach [] X.env := by rfl) (hpl : (backTo pos (starEach [] X.env)).any (·.1) = false := by rfl) (hK : X.K = K := by rfl) :
    XN X W (.Call (.Name "list" p) [.Call (.Name "zip" p1) [e1, e2] [] pos1] [] pos) (tCB (rZipL K) t) (mnA zipF m) := by
  subst hK
  exact ⟨pe_zipL hc h.p hm hmz hg hgz hs1 hpl1 hs hpl, en_zip h.v⟩
end
end DL

set_option Elab.async false
set_option linter.all false
set_option maxRecDepth 100000
set_option maxHeartbeats 400000
/-! DLw: enumerate of a list of a slot, whether it is frozen, borrowed or one's own. -/
namespace DL
open PySem L2
def mEnumB (i : Nat) : M (List D) := fun δ => match δ[i]? with
  | some (.bo (.lst ds)) => some (.ok (enumD ds) δ)
  | some (.bo _) => none
  | _ => mIt enumF (mdCons (mVar i) mdNil) δ
section
variable {K : Fg} {W : WX}
theorem ei_enumS {i : Nat} : Ei K W true (iEnumB K (tCons (tVar i) tNil)) (mEnumB i) := by
  intro C hK hW al F H σ δ S r hr R hok hex
  by_cases hb : ∃ d, δ[i]? = some (.bo d)
  · obtain ⟨d, hb⟩ := hb
    unfold mEnumB at hr
    cases d with
    | lst ds =>
      simp only [hb] at hr
      cases hr
      subst hK
      obtain ⟨v, h1, h2⟩ := S.bo i _ hb
      have bh : Same C.B H := S.bp.trans S.ph
      rcases h2 with h2 | ⟨a, rfl, vs, g1, g2, g3⟩
      · obtain ⟨a, vs, rfl, g1, g2, g3⟩ := Rep.lst_iff.mp h2
        refine ⟨_, h1, a, vs, rfl, Or.inl ⟨Or.inl (Or.inl (S.fh _ _ g1)), hok (enumD ds) δ rfl al F H _ (Same.refl _) S ⟨by rw [enumD_len]; exact g2, fun F2 H2 f1 f2 _ i => ⟨fun d hd => ?_, fun hl => ?_⟩⟩⟩⟩
        · obtain ⟨e, he, rfl⟩ := enumD_get hd
          obtain ⟨u, hu, ru⟩ := g3.get he
          have ha : SqL C.K H2 a vs := Or.inl (Or.inl (f2 _ _ (f1 _ _ g1)))
          refine ⟨⟨vs, u, ha, hu⟩, fun x H' y => ?_⟩
          obtain ⟨T, x', rfl, hT, rfl, y⟩ := y
          have q := y vs ha
          rw [hu] at q
          cases q
          exact new_pair f2 hT (ru.mono f1)
        · rw [enumD_len] at hl
          exact ⟨vs, Or.inl (Or.inl (f2 _ _ (f1 _ _ g1))), by rw [g3.len]; exact hl⟩
      · refine ⟨_, h1, a, vs, rfl, Or.inl ⟨Or.inl (Or.inl (bh _ _ g1)), hok (enumD ds) δ rfl al F H _ (Same.refl _) S ⟨by rw [enumD_len]; exact g2, fun F2 H2 f1 f2 hp i => ⟨fun d hd => ?_, fun hl => ?_⟩⟩⟩⟩
        · obtain ⟨e, he, rfl⟩ := enumD_get hd
          obtain ⟨u, hu, ru⟩ := g3.get he
          have ha : SqL C.K H2 a vs := Or.inl (Or.inl (hp _ _ (S.bp _ _ g1)))
          refine ⟨⟨vs, u, ha, hu⟩, fun x H' y => ?_⟩
          obtain ⟨T, x', rfl, hT, rfl, y⟩ := y
          have q := y vs ha
          rw [hu] at q
          cases q
          exact new_pair f2 hT (ru.mono f1)
        · rw [enumD_len] at hl
          exact ⟨vs, Or.inl (Or.inl (hp _ _ (S.bp _ _ g1))), by rw [g3.len]; exact hl⟩
    | _ => simp only [hb] at hr; cases hr
  · have e : mEnumB i δ = mIt enumF (mdCons (mVar i) mdNil) δ := by
      unfold mEnumB
      cases h : δ[i]? with
      | none => rfl
      | some s =>
        cases s with
        | bo d => exact absurd ⟨d, h⟩ hb
        | _ => rfl
    rw [e] at hr
    exact ei_enum (K := K) (ed_cons ev_var ed_nil) C hK hW al F H σ δ S r hr R hok hex
theorem i_enumB {K : Fg} {X : Cx} {e : Expr} {elts : List Expr} {kk i : Nat} {me : M D} {p2 pos tpos : Pos} (hm : X.mg "enumerate" = none) (h : XE X W e (tVar i) me) (hg : Gl X "enumerate" := by rfl) (hs : starEach [e] X.env = [(false, eval e X.env)] := by rfl) (hK : X.K = K := by rfl) :
    XI X W true (.Tuple elts kk tpos) (.Call (.Name "enumerate" p2) [e] [] pos) (iEnumB K (tCons (tVar i) tNil)) (mEnumB i) := by
  subst hK
  exact ⟨pi_enumB hg hm (pa_cons h.p pa_nil hs) hs, ei_enumS⟩
end
end DL

set_option Elab.async false
set_option linter.all false
set_option maxRecDepth 100000
set_option maxHeartbeats 400000
/-! DLx: a, b = x, y; // by great numbers. -/
namespace DL
open PySem L2
section
variable {X : Cx} {W : WX} {a b : Expr} {ta tb : TE} {oa ob : M Op} {pos : Pos}
end
def mPar (i j : Nat) (m : M (List D)) : Ms := mS m fun ds => match ds with
  | [a, b] => fun δ => some (.nx ((δ.set i (.fr a)).set j (.fr b)))
  | _ => fun _ => none
section
variable {K : Fg} {W : WX}
end
end DL

set_option Elab.async false
set_option linter.all false
set_option maxRecDepth 100000
set_option maxHeartbeats 400000
/-! DLy: continue; a text in a tuple of texts; max, min of a list of ints. -/
namespace DL
open PySem L2
section
variable {X : Cx} {W : WX} {pos : Pos}
end
section
variable {X : Cx} {W : WX} {a b : Expr} {ta tb : TE} {oa ob : M Op} {pos : Pos}
end
/-! ### max, min of a list -/
section
variable {X : Cx} {W : WX} {a : Expr} {ta : TE} {oa : M Op} {p2 pos : Pos}
end
end DL

set_option Elab.async false
set_option linter.all false
set_option maxRecDepth 100000
set_option maxHeartbeats 400000
/-! DLz: data compared by order; list(range(..)). -/
namespace DL
open PySem L2
open PySem.W (alike)
/-! ### data compared -/
section
variable {X : Cx}
variable {W : WX} {a b : Expr} {ta tb : TE} {oa ob : M Op} {p2 pos : Pos}
end
/-! ### list(range(..)) -/
def lrF1 : D → Option (List D)
  | .int n => if -1000000 ≤ n ∧ n ≤ 1000000 then some (rangeD 0 n.toNat) else none
  | _ => none
theorem reps_range {K : Fg} {F : Hp} (lo : Int) : ∀ is : List Nat, Reps K F (is.map fun i => D.int (lo + (i : Nat))) (is.map fun i => V.int (lo + (i : Nat)))
  | [] => reps_nil
  | i :: is => reps_cons (Rep.int_iff.mpr rfl) (reps_range lo is)
def rLr1 (x : V) (H : Hp) (Q : VK) : Prop := ∃ n, x = .int n ∧ RgOk 0 n ∧ ∀ q, H q = none → Q (.ref q) (upd H q (.lst (rgV 0 n)))
theorem primN_lr1 {K : Fg} : PrimN1 K rLr1 lrF1 := by
  intro F H v d ds fh hv hf Q k
  cases d with
  | int n =>
    obtain ⟨⟨h1, h2⟩, rfl⟩ := if_some (show (if -1000000 ≤ n ∧ n ≤ 1000000 then some (rangeD 0 n.toNat) else none) = some ds from hf)
    have e : (n - 0).toNat = n.toNat := by rw [Int.sub_zero]
    refine ⟨n, hv.int, ⟨by decide, by decide, by omega, by omega, by omega⟩, fun q hq => k q _ (rgV 0 n) hq (same_upd hq) upd_same ?_ ?_⟩
    · unfold rangeD; rw [List.length_map, List.length_range]; show n.toNat ≤ 1000000; omega
    · unfold rgV rangeD; rw [e]; exact reps_range 0 _
  | _ => cases hf
section
variable {X : Cx} {W : WX} {a b : Expr} {ta tb : TE} {oa ob : M Op} {p2 p3 pos pos2 : Pos}
theorem n_lr1 (hc : X.calm = true) (hm : X.mg "list" = none) (hm2 : X.mg "range" = none) (ha : XO X W a ta oa) (hg : Gl X "list" := by rfl) (hg2 : Gl X "range" := by rfl) (hs : starEach [a] X.env = (false, eval a X.env) :: starEach [] X.env := by rfl) (hs2 : starEach [.Call (.Name "range" p3) [a] [] pos2] X.env = (false, eval (.Call (.Name "range" p3) [a] [] pos2) X.env) :: starEach [] X.env := by rfl) :
    XN X W (.Call (.Name "list" p2) [.Call (.Name "range" p3) [a] [] pos2] [] pos) (tLstRg (tRg1 ta)) (mn1 lrF1 oa) := by
  refine ⟨pe_listRg hc hg hm (prg_1 hg2 hm2 ha.p hs) hs2, ?_⟩
  have := en_1 (ta := ta) (W := W) primN_lr1 ha.v
  intro C hK hW al F H σ δ S hp r hr Q hok hex
  have := this C hK hW al F H σ δ S hp r hr Q hok hex
  exact this
end
end DL

set_option Elab.async false
set_option linter.all false
set_option maxRecDepth 100000
set_option maxHeartbeats 400000
/-! DLzb: min, max of two data. -/
namespace DL
open PySem L2
open PySem.W (alike)
section
variable {prog : Program} {w : World} {A : Around} {E : Value → Shared → Prop} {s : Shared} {a b : Value} {p q : PyData} {as bs : List Addr} {Q : Value → Shared → Prop}
end
/-! ### min, max of two tuples -/
section
variable {X : Cx}
variable {W : WX} {a b : Expr} {ta tb : TE} {oa ob : M Op} {p2 pos : Pos}
end
end DL

set_option Elab.async false
set_option linter.all false
set_option maxRecDepth 100000
set_option maxHeartbeats 400000
/-! DLzc: == by a class's own def. -/
namespace DL
open PySem L2
section
variable {X : Cx} {n m : Nat} {C f : Addr} {fd : FuncData} {ps : List Str} {S : Sp}
end
/-- what is known of a class's own == -/
structure EqO (P : Program) (w : World) (K : Fg) (mg : Str → Option Value) (base : Heap) (C : Addr) (k : Nat) (g : List D → Option D) : Prop where
  ex : ∃ f fd ps, PySem.W.findIn K (.ref C) "__eq__" = some (some (.ref f)) ∧ PySem.W.isFn K (.ref f) = true ∧ Binds K fd ps [] ∧ FnOk P w K mg base CX0 k f fd ps (SpP K [.bo, .bo] g)
section
variable {X : Cx} {W : WX} {a b : Expr} {ta tb : TE} {oa ob : M Op} {pos : Pos}
end
end DL

set_option Elab.async false
set_option linter.all false
set_option maxRecDepth 100000
set_option maxHeartbeats 400000
/-! DLzd: l.index(x) of data. -/
namespace DL
open PySem L2
section
variable {X : Cx} {o e : Expr} {apos cpos : Pos}
end
end DL

set_option Elab.async false
set_option linter.all false
set_option maxRecDepth 100000
set_option maxHeartbeats 400000
/-! DLze: isinstance of an own class; a class's own ==, as the top has written it. -/
namespace DL
open PySem L2
/-- an own class, as isinstance asks for it -/
structure InsK (K : Fg) (C : Addr) : Prop where
  i : C8.InsC K C
  ty : PySem.W.typeIn K (.ref C) = some (.type "type")
section
variable {X : Cx} {W : WX} {a : Expr} {ta : TE} {oa : M Op} {pos : Pos}
end
section
variable {P : Program} {w : World} {K : Fg} {mg : Str → Option Value} {base h : Heap}
end
end DL

set_option Elab.async false
set_option linter.all false
set_option maxRecDepth 100000
set_option maxHeartbeats 1000000
/-! DLzf: zip(text, list), the text of ASCII signs: one step, the end, the making. -/
namespace DL
open PySem PySem.W PySem.Calls PyProof.Rows
section
variable {prog : Program} {w : World} {A : Around} {E : Value → Shared → Prop} {s : Shared}
end
end DL

set_option Elab.async false
set_option linter.all false
set_option maxRecDepth 100000
set_option maxHeartbeats 1000000
/-! DLzg: for a, b in zip(text, list). -/
namespace DL
open PySem
section
open PySem.W PySem.Calls PyProof.Rows
variable {prog : Program} {w : World} {A : Around} {E : Value → Shared → Prop} {s : Shared}
end
open L2
section
variable {K : Fg} {W : WX}
end
end DL

set_option Elab.async false
set_option linter.all false
set_option maxRecDepth 100000
set_option maxHeartbeats 400000
/-! DLzh: an own object lent while an expression runs. -/
namespace DL
open PySem L2
section
variable {K : Fg} {W : WX}
end
section
variable {X : Cx} {W : WX} {te : TE} {pos : Pos} {me : M D} {tg : Expr} {q : Bool} {elt iter : Expr} {ifs : List Expr} {scope : Scope} {own : List (Str × Nat)} {wi : TI} {g : TG} {tt : TT} {it : M (List D)} {ga : Mg} {mt : M Bool}
end
end DL

set_option Elab.async false
set_option linter.all false
set_option maxRecDepth 100000
set_option maxHeartbeats 400000
/-! DLzi: min, max of a tuple or a list of two tuples. -/
namespace DL
open PySem L2
open PySem.W (alike)
section
variable {prog : Program} {w : World} {A : Around} {E : Value → Shared → Prop} {s : Shared} {a b : Value} {p q : PyData} {as bs : List Addr} {Q : Value → Shared → Prop} {l : Addr}
end
section
variable {X : Cx}
variable {W : WX} {a : Expr} {ta : TE} {oa : M Op} {p2 pos : Pos}
end
end DL

set_option Elab.async false
set_option linter.all false
set_option maxRecDepth 100000
set_option maxHeartbeats 400000
/-! DLzj: != by a class's own ==; an item of a list or of a dict. -/
namespace DL
open PySem L2
section
variable {prog : Program} {w : World} {A : Around} {E : Value → Shared → Prop} {s : Shared} {K : PySem.W.Frag} {x C L f : Addr} {h₀ : Heap} {m : Str → Option Value} {ox : Obj} {od : Option Obj} {b tb : Value}
end
/-! the rule -/
section
variable {X : Cx} {n m : Nat} {C f : Addr} {fd : FuncData} {ps : List Str} {S : Sp}
end
/-- what is known of a class's != -/
structure NeO (P : Program) (w : World) (K : Fg) (mg : Str → Option Value) (base : Heap) (C : Addr) (k : Nat) (g : List D → Option D) : Prop where
  eq : EqO P w K mg base C k g
  ne : PySem.W.findIn K (.ref C) "__ne__" = some (some (.builtin "object.__ne__"))
  ob : PySem.W.mroIn K C (.type "object") = some true
section
variable {X : Cx} {W : WX} {a b : Expr} {ta tb : TE} {oa ob : M Op} {pos : Pos}
end
/-! an item of a list, a tuple, a text or a dict -/
section
variable {X : Cx} {W : WX} {a b : Expr} {ta tb : TE} {oa ob : M Op} {pos : Pos}
end
end DL

set_option Elab.async false
set_option linter.all false
set_option maxRecDepth 100000
set_option maxHeartbeats 400000
/-! DLzk: defs by another name; a truth that is one. -/
namespace DL
open PySem L2
/-- a def of the top, y, by another name, x -/
structure DefA (K : Fg) (x y : Str) (st : Stmt) : Prop where
  ex : ∃ f fd, PySem.W.nsIn K mainGlobals x = some (some (.ref f)) ∧ Fun K y y st f fd ∧ PySem.W.keepIn K (.ref f) = true
section
variable {P : Program} {w : World} {K : Fg} {mg : Str → Option Value} {base h : Heap}
end
/-! a is True, a is False -/
section
variable {X : Cx} {W : WX} {a b : Expr} {ta tb : TE} {oa ob : M Op} {pos : Pos}
theorem t_ninD {k : Nat} (hr : Room k X.A) (ha : XO X W a ta oa) (hb : XO X W b tb ob) (hm : behindInMarks .NotIn b = false := by rfl) : XT X W (.Compare a [.NotIn] [b] pos) (tB (tOp (rDInB true) ta tb)) (mTest (m2 (dinD true) oa ob)) := ⟨by
  have h := pt_cmp (pos := pos) (pc_dnotin (hu_of hr) ha.p hb.p) hm
  refine ⟨fun pins s σ H Q I q => h.run pins s σ H Q I ?_⟩
  simpa only [tB, tOp, rDInB, tDNotIn, Bool.true_xor] using q, et_B (ev_2 prim_din ha.v hb.v)⟩
end
end DL

set_option Elab.async false
set_option linter.all false
set_option maxRecDepth 100000
set_option maxHeartbeats 400000
/-! DLzl: for a, b in zip(x, y), both lists or both tuples. -/
namespace DL
open PySem L2 RZ
section
variable {K : Fg} {W : WX}
end
end DL

set_option Elab.async false
set_option linter.all false
set_option maxRecDepth 100000
set_option maxHeartbeats 400000
/-! DLzm: a number or a text not in a tuple of texts; a list so many times. -/
namespace DL
open PySem L2
section
variable {X : Cx} {W : WX} {a b : Expr} {ta tb : TE} {oa ob : M Op} {pos : Pos}
end
end DL

set_option Elab.async false
set_option linter.all false
set_option maxRecDepth 100000
set_option maxHeartbeats 400000
/-! MAa: plain laws about what mirrors compute: loops, comprehensions. -/
namespace DL
open PySem L2
/-- a comprehension without a test, its element of the item alone -/
theorem lcL_map {α : Type} (enc f : α → D) (g : Mg) (e : M D) (vs : List Nat) (ω : En) : ∀ (as : List α) (acc : List D), (∀ a ∈ as, ∃ δ1 δ2, g (enc a) ω = some δ1 ∧ e δ1 = some (.ok (f a) δ2) ∧ wipeE δ2 vs = ω) →
    lcL g mYes e vs acc (as.map enc) ω = some (.ok (acc ++ as.map f) ω)
  | [], acc, _ => by rw [List.map_nil, List.map_nil, List.append_nil]; rfl
  | a :: as, acc, h => by
    obtain ⟨δ1, δ2, h1, h2, h3⟩ := h a List.mem_cons_self
    rw [List.map_cons]
    simp only [lcL, h1, mYes, M.ret, h2, h3]
    have := lcL_map enc f g e vs ω as (acc ++ [f a]) fun a' m => h a' (List.mem_cons_of_mem _ m)
    refine this.trans ?_
    rw [List.map_cons, List.append_assoc]
    rfl
theorem mLc_map {α : Type} {as : List α} {enc f : α → D} {it : M (List D)} {g : Mg} {e : M D} {vs : List Nat} {δ δ0 ω : En} (hit : it δ = some (.ok (as.map enc) δ0)) (hw : wipeE δ0 vs = ω)
    (h : ∀ a ∈ as, ∃ δ1 δ2, g (enc a) ω = some δ1 ∧ e δ1 = some (.ok (f a) δ2) ∧ wipeE δ2 vs = ω) : mLc it g mYes e vs δ = some (.ok (.lst (as.map f)) ω) := by
  unfold mLc M.bind
  simp only [hit, hw, lcL_map enc f g e vs ω as [] h, List.nil_append]
/-- a comprehension that changes something as it goes -/
theorem lcL_rel {α : Type} (enc : α → D) (g : Mg) (e : M D) (vs : List Nat) (Inv : List D → En → Prop) : ∀ (as : List α) (acc : List D) (δ : En), Inv acc δ →
    (∀ acc a δ, a ∈ as → Inv acc δ → ∃ δ1 y δ2, g (enc a) δ = some δ1 ∧ e δ1 = some (.ok y δ2) ∧ Inv (acc ++ [y]) (wipeE δ2 vs)) → ∃ out δ', lcL g mYes e vs acc (as.map enc) δ = some (.ok out δ') ∧ Inv out δ' ∧ out.length = acc.length + as.length
  | [], acc, δ, h, _ => ⟨acc, δ, rfl, h, rfl⟩
  | a :: as, acc, δ, h, hs => by
    obtain ⟨δ1, y, δ2, h1, h2, h3⟩ := hs acc a δ List.mem_cons_self h
    obtain ⟨out, δ', h4, h5, h6⟩ := lcL_rel enc g e vs Inv as (acc ++ [y]) _ h3 fun acc a' δ m => hs acc a' δ (List.mem_cons_of_mem _ m)
    refine ⟨out, δ', ?_, h5, by rw [h6, List.length_append, List.length_cons]; simp only [List.length_cons, List.length_nil]; omega⟩
    rw [List.map_cons]
    simp only [lcL, h1, mYes, M.ret, h2]
    exact h4
theorem mLc_rel {α : Type} {as : List α} {enc : α → D} {it : M (List D)} {g : Mg} {e : M D} {vs : List Nat} {δ δ0 : En} (Inv : List D → En → Prop) (hit : it δ = some (.ok (as.map enc) δ0)) (h0 : Inv [] (wipeE δ0 vs))
    (hs : ∀ acc a δ, a ∈ as → Inv acc δ → ∃ δ1 y δ2, g (enc a) δ = some δ1 ∧ e δ1 = some (.ok y δ2) ∧ Inv (acc ++ [y]) (wipeE δ2 vs)) : ∃ out δ', mLc it g mYes e vs δ = some (.ok (.lst out) δ') ∧ Inv out δ' ∧ out.length = as.length := by
  obtain ⟨out, δ', h1, h2, h3⟩ := lcL_rel enc g e vs Inv as [] _ h0 hs
  refine ⟨out, δ', ?_, h2, by simpa using h3⟩
  unfold mLc M.bind
  simp only [hit, h1]
theorem blsOf_map {α : Type} (f : α → Bool) : ∀ as : List α, blsOf (as.map fun a => D.bl (f a)) = some (as.map f)
  | [] => rfl
  | a :: as => by simp [blsOf, blsOf_map f as]
theorem allD_map {α : Type} (f : α → Bool) (as : List α) : allD (.lst (as.map fun a => D.bl (f a))) = some (.bl (as.all f)) := by
  simp only [allD, blsOf_map, Option.map_some]
  congr 2
  induction as with
  | nil => rfl
  | cons a as ih => simp [ih]
end DL

set_option Elab.async false
set_option linter.all false
set_option maxRecDepth 100000
set_option maxHeartbeats 400000
/-! MAb: plain data (no truths, no objects): equality, membership, counts, sorting said by data alone. -/
namespace DL
open PySem L2
noncomputable instance : DecidableEq D := fun a b => Classical.propDecidable (a = b)
/-- data without truths, objects and dicts, of a depth -/
def Pl : Nat → D → Prop
  | _, .non => True
  | _, .int _ => True
  | _, .str x => PyData.strOk x = true
  | 0, _ => False
  | n + 1, .tup ds => ∀ d ∈ ds, Pl n d
  | n + 1, .lst ds => ∀ d ∈ ds, Pl n d
  | _ + 1, _ => False
theorem Pl.non {n : Nat} : Pl n .non := by cases n <;> simp [Pl]
theorem Pl.int {n : Nat} {i : Int} : Pl n (.int i) := by cases n <;> simp [Pl]
theorem Pl.str {n : Nat} {x : Str} (h : PyData.strOk x = true) : Pl n (.str x) := by cases n <;> simp [Pl, h]
theorem Pl.str_iff {n : Nat} {x : Str} : Pl n (.str x) ↔ PyData.strOk x = true := by cases n <;> simp [Pl]
theorem Pl.tup {n : Nat} {ds : List D} (h : ∀ d ∈ ds, Pl n d) : Pl (n + 1) (.tup ds) := by simpa [Pl] using h
theorem Pl.lst {n : Nat} {ds : List D} (h : ∀ d ∈ ds, Pl n d) : Pl (n + 1) (.lst ds) := by simpa [Pl] using h
theorem Pl.tup_iff {n : Nat} {ds : List D} : Pl (n + 1) (.tup ds) ↔ ∀ d ∈ ds, Pl n d := by simp [Pl]
theorem Pl.lst_iff {n : Nat} {ds : List D} : Pl (n + 1) (.lst ds) ↔ ∀ d ∈ ds, Pl n d := by simp [Pl]
theorem Pl.up : ∀ {n : Nat} {d : D}, Pl n d → Pl (n + 1) d
  | 0, d, h => by cases d <;> simp [Pl] at h ⊢; exact h
  | n + 1, d, h => by
    cases d <;> simp [Pl] at h ⊢
    · exact h
    · exact fun d hd => (h d hd).up
    · exact fun d hd => (h d hd).up
theorem Pl.mono {n m : Nat} {d : D} (h : Pl n d) (l : n ≤ m) : Pl m d := by
  induction l with
  | refl => exact h
  | step _ ih => exact ih.up
theorem toPys_enc : ∀ {ds : List D}, (∀ d ∈ ds, toPy d = some (encD d)) → toPys ds = some (ds.map encD)
  | [], _ => rfl
  | d :: ds, h => by
    have h1 := h d List.mem_cons_self
    have h2 := toPys_enc (ds := ds) fun e he => h e (List.mem_cons_of_mem _ he)
    simp only [toPys, h1, h2, List.map_cons]
theorem canLayAll {ps : List PyData} : (∀ p ∈ ps, p.canLay0 = true) → PyData.canLayAll0 ps = true := by
  induction ps with
  | nil => intro; simp [PyData.canLayAll0]
  | cons p ps ih => intro h; simp [PyData.canLayAll0, h p List.mem_cons_self, ih fun q hq => h q (List.mem_cons_of_mem _ hq)]
theorem depthAll_le {ps : List PyData} {n : Nat} : (∀ p ∈ ps, p.depth ≤ n) → PyData.depthAll ps ≤ n := by
  induction ps with
  | nil => intro; simp [PyData.depthAll]
  | cons p ps ih => intro h; rw [PyData.depthAll]; exact Nat.max_le.mpr ⟨h p List.mem_cons_self, ih fun q hq => h q (List.mem_cons_of_mem _ hq)⟩
theorem Pl.enc : ∀ {n : Nat} {d : D}, Pl n d → toPy d = some (encD d) ∧ (encD d).canLay0 = true ∧ (encD d).depth ≤ n
  | n, .non, _ => ⟨rfl, by simp [encD, toPy, PyData.canLay0], by simp [encD, toPy, PyData.depth]⟩
  | n, .int i, _ => ⟨rfl, by simp [encD, toPy, PyData.canLay0], by simp [encD, toPy, PyData.depth]⟩
  | n, .str x, h => ⟨rfl, by simp [encD, toPy, PyData.canLay0, Pl.str_iff.mp h], by simp [encD, toPy, PyData.depth]⟩
  | n + 1, .tup ds, h => by
    have h := Pl.tup_iff.mp h
    have e := toPys_enc fun d hd => (h d hd).enc.1
    have e1 : encD (.tup ds) = .tuple (ds.map encD) := by simp [encD, toPy, e]
    refine ⟨by rw [e1]; simp [toPy, e], ?_, ?_⟩
    · rw [e1]; simp only [PyData.canLay0]; exact canLayAll fun p hp => by obtain ⟨d, hd, rfl⟩ := List.mem_map.mp hp; exact (h d hd).enc.2.1
    · rw [e1]; simp only [PyData.depth]; exact Nat.succ_le_succ (depthAll_le fun p hp => by obtain ⟨d, hd, rfl⟩ := List.mem_map.mp hp; exact (h d hd).enc.2.2)
  | n + 1, .lst ds, h => by
    have h := Pl.lst_iff.mp h
    have e := toPys_enc fun d hd => (h d hd).enc.1
    have e1 : encD (.lst ds) = .list (ds.map encD) := by simp [encD, toPy, e]
    refine ⟨by rw [e1]; simp [toPy, e], ?_, ?_⟩
    · rw [e1]; simp only [PyData.canLay0]; exact canLayAll fun p hp => by obtain ⟨d, hd, rfl⟩ := List.mem_map.mp hp; exact (h d hd).enc.2.1
    · rw [e1]; simp only [PyData.depth]; exact Nat.succ_le_succ (depthAll_le fun p hp => by obtain ⟨d, hd, rfl⟩ := List.mem_map.mp hp; exact (h d hd).enc.2.2)
  | 0, .bl _, h => by simp [Pl] at h
  | n + 1, .bl _, h => by simp [Pl] at h
  | 0, .ins _ _ _, h => by simp [Pl] at h
  | n + 1, .ins _ _ _, h => by simp [Pl] at h
  | 0, .dk _ _, h => by simp [Pl] at h
  | n + 1, .dk _ _, h => by simp [Pl] at h
  | 0, .dn _ _ _, h => by simp [Pl] at h
  | n + 1, .dn _ _ _, h => by simp [Pl] at h
  | 0, .fn _, h => by simp [Pl] at h
  | n + 1, .fn _, h => by simp [Pl] at h
  | 0, .tup _, h => by simp [Pl] at h
  | 0, .lst _, h => by simp [Pl] at h
theorem encD_tup {n : Nat} {ds : List D} (h : ∀ d ∈ ds, Pl n d) : encD (.tup ds) = .tuple (ds.map encD) := by
  simp [encD, toPy, toPys_enc fun d hd => (h d hd).enc.1]
theorem encD_lst {n : Nat} {ds : List D} (h : ∀ d ∈ ds, Pl n d) : encD (.lst ds) = .list (ds.map encD) := by
  simp [encD, toPy, toPys_enc fun d hd => (h d hd).enc.1]
theorem eqvAll_iff : ∀ {ds es : List D}, (∀ d ∈ ds, ∀ e ∈ es, (PyData.eqv (encD d) (encD e) = true ↔ d = e)) → (PyData.eqvAll (ds.map encD) (es.map encD) = true ↔ ds = es)
  | [], [], _ => by simp [PyData.eqvAll]
  | [], e :: es, _ => by simp [PyData.eqvAll]
  | d :: ds, [], _ => by simp [PyData.eqvAll]
  | d :: ds, e :: es, h => by
    have h1 := h d List.mem_cons_self e List.mem_cons_self
    have h2 := eqvAll_iff (ds := ds) (es := es) fun x hx y hy => h x (List.mem_cons_of_mem _ hx) y (List.mem_cons_of_mem _ hy)
    simp [PyData.eqvAll, h1, h2]
theorem Pl.eqv : ∀ {n : Nat} {d e : D}, Pl n d → Pl n e → (PyData.eqv (encD d) (encD e) = true ↔ d = e)
  | 0, d, e, hd, he => by
    cases d <;> simp [Pl] at hd <;> cases e <;> simp [Pl] at he <;> simp [encD, toPy, PyData.eqv]
  | n + 1, d, e, hd, he => by
    cases d <;> simp [Pl] at hd <;> cases e <;> simp [Pl] at he <;> (try rw [encD_tup hd]) <;> (try rw [encD_lst hd]) <;> (try rw [encD_tup he]) <;> (try rw [encD_lst he]) <;> (try simp [encD, toPy, PyData.eqv])
    · exact eqvAll_iff fun x hx y hy => Pl.eqv (hd x hx) (he y hy)
    · exact eqvAll_iff fun x hx y hy => Pl.eqv (hd x hx) (he y hy)
theorem Pl.shaped {n : Nat} {d : D} (h : Pl n d) (hn : n ≤ 64) : SeqAt.shaped (encD d) = true := by
  have := h.enc
  simp only [SeqAt.shaped, this.2.1, Bool.true_and, decide_eq_true_eq]
  omega
theorem eqvB {n : Nat} {d e : D} (hd : Pl n d) (he : Pl n e) : PyData.eqv (encD d) (encD e) = decide (d = e) := by
  rw [Bool.eq_iff_iff, hd.eqv he, decide_eq_true_iff]
theorem pyEq_pl {n : Nat} {d e : D} (hn : n ≤ 64) (hd : Pl n d) (he : Pl n e) : pyEq d e = some (decide (d = e)) := by
  simp only [pyEq, hd.enc.1, he.enc.1, hd.shaped hn, he.shaped hn, Bool.and_self, if_true, eqvB hd he]
theorem eqD_pl (n : Nat) {d e : D} (hd : Pl n d) (he : Pl n e) (hn : n ≤ 64 := by decide) : eqD d e = some (.bl (decide (d = e))) := by
  simp only [eqD, pyEq_pl hn hd he, Option.map_some]
theorem neD_pl (n : Nat) {d e : D} (hd : Pl n d) (he : Pl n e) (hn : n ≤ 64 := by decide) : neD d e = some (.bl (!decide (d = e))) := by
  simp only [neD, pyEq_pl hn hd he, Option.map_some]
theorem any_eqv {n : Nat} {d : D} {es : List D} (hd : Pl n d) (he : ∀ e ∈ es, Pl n e) : ((es.map encD).any fun z => PyData.eqv z (encD d)) = decide (d ∈ es) := by
  rw [Bool.eq_iff_iff, List.any_map, List.any_eq_true, decide_eq_true_iff]
  constructor
  · rintro ⟨e, h1, h2⟩
    have := ((he e h1).eqv hd).mp h2
    exact this ▸ h1
  · intro h
    exact ⟨d, h, (hd.eqv hd).mpr rfl⟩
theorem inLD_pl (n : Nat) (neg : Bool) {d : D} {es : List D} (hd : Pl n d) (he : ∀ e ∈ es, Pl n e) (hn : n ≤ 60 := by decide) : inLD neg d (.lst es) = some (.bl (xor neg (decide (d ∈ es)))) := by
  have h1 := toPys_enc fun e h => (he e h).enc.1
  have h2 : SeqAt.shaped (.list (es.map encD)) = true := by
    have := (Pl.lst he).shaped (by omega)
    rwa [encD_lst he] at this
  simp only [inLD, hd.enc.1, h1, hd.shaped (by omega), h2, Bool.and_self, if_true, any_eqv hd he]
theorem countP_eqv {n : Nat} {d : D} (hd : Pl n d) : ∀ {es : List D}, (∀ e ∈ es, Pl n e) → (es.map encD).countP (fun z => PyData.eqv z (encD d)) = es.count d
  | [], _ => rfl
  | e :: es, h => by
    have h1 := countP_eqv hd (es := es) fun x hx => h x (List.mem_cons_of_mem _ hx)
    have h2 := eqvB (h e List.mem_cons_self) hd
    rw [List.map_cons, List.countP_cons, h1, h2, List.count_cons]
    simp only [beq_iff_eq, decide_eq_true_iff]
theorem cntD_lst (n : Nat) {d : D} {es : List D} (hd : Pl n d) (he : ∀ e ∈ es, Pl n e) (hn : n ≤ 60 := by decide) : cntD (.lst es) d = some (.int (es.count d : Nat)) := by
  have h1 := toPys_enc fun e h => (he e h).enc.1
  have h2 : (encD d).depth ≤ 60 := Nat.le_trans hd.enc.2.2 hn
  simp only [cntD, seqD, hd.enc.1, h1, h2, if_true, countP_eqv hd he]
end DL

set_option Elab.async false
set_option linter.all false
set_option maxRecDepth 100000
set_option maxHeartbeats 400000
/-! ME: mirrors evaluated step by step: each word applied to an environment, by words over what its first part came to. `simp_arith only [..]` runs a mirror. -/
namespace DL
open PySem L2
section
variable {α β : Type}
def bK (f : α → M β) : Option (R α) → Option (R β)
  | some (.ok a δ) => f a δ
  | some (.ex x δ) => some (.ex x δ)
  | none => none
theorem bind_e (m : M α) (f : α → M β) (δ : En) : M.bind m f δ = bK f (m δ) := by unfold M.bind bK; rcases m δ with _ | (_ | _) <;> rfl
def liftK (o : Option α) (δ : En) : Option (R α) := match o with
  | some a => some (.ok a δ)
  | none => none
theorem lift_e (o : Option α) (δ : En) : M.lift o δ = liftK o δ := (rfl)
theorem liftK_s (a : α) (δ : En) : liftK (some a) δ = some (.ok a δ) := (rfl)
def sK (k : α → Ms) : Option (R α) → Option Ou
  | some (.ok a δ) => k a δ
  | some (.ex x δ) => some (.ex x δ)
  | none => none
theorem mS_e (m : M α) (k : α → Ms) (δ : En) : mS m k δ = sK k (m δ) := by unfold mS sK; rcases m δ with _ | (_ | _) <;> rfl
end
theorem mC_e (d : D) (δ : En) : mC d δ = some (.ok d δ) := (rfl)
def varK (i : Nat) (δ : En) : Option Sl → Option (R D)
  | some (.fr d) => some (.ok d δ)
  | some (.ow d) => some (.ok d (δ.set i (.fr d)))
  | _ => none
theorem mVar_e (i : Nat) (δ : En) : mVar i δ = varK i δ δ[i]? := (rfl)
def ovK (i : Nat) (δ : En) : Option Sl → Option (R Op)
  | some (.fr _) => some (.ok (.slot i) δ)
  | some (.bo _) => some (.ok (.slot i) δ)
  | some (.ow _) => some (.ok (.slot i) δ)
  | some (.io _) => some (.ok (.slot i) δ)
  | _ => none
theorem mOv_e (i : Nat) (δ : En) : mOv i δ = ovK i δ δ[i]? := by unfold mOv ovK; rcases δ[i]? with _ | s <;> first | rfl | (cases s <;> rfl)
def valK : Option (R D) → Option (R Op)
  | some (.ok d δ) => some (.ok (.val d) δ)
  | some (.ex x δ) => some (.ex x δ)
  | none => none
theorem mVal_e (m : M D) (δ : En) : mVal m δ = valK (m δ) := by unfold mVal M.bind valK M.ret; rcases m δ with _ | (_ | _) <;> rfl
def datK : Option Sl → Option D
  | some (.fr d) => some d
  | some (.bo d) => some d
  | some (.ow d) => some d
  | some (.io d) => some d
  | _ => none
theorem rd_v (d : D) (δ : En) : rd (.val d) δ = some d := (rfl)
theorem rd_s (i : Nat) (δ : En) : rd (.slot i) δ = datK δ[i]? := by show (match δ[i]? with | some s => s.dat | none => none) = _; unfold datK; rcases δ[i]? with _ | s <;> first | rfl | (cases s <;> rfl)
theorem mRd_e (o : Op) (δ : En) : mRd o δ = liftK (rd o δ) δ := by unfold mRd liftK; cases rd o δ <;> rfl
def m1L (f : D → Option D) (δ : En) : Option D → Option (R D)
  | some d => liftK (f d) δ
  | none => none
def m1K (f : D → Option D) : Option (R Op) → Option (R D)
  | some (.ok o δ) => m1L f δ (rd o δ)
  | some (.ex x δ) => some (.ex x δ)
  | none => none
theorem m1_e (f : D → Option D) (a : M Op) (δ : En) : m1 f a δ = m1K f (a δ) := by
  unfold m1 m1K
  rw [bind_e]
  rcases a δ with _ | (⟨o, δ'⟩ | _) <;> first | rfl | skip
  simp only [bK, bind_e, mRd]
  unfold m1L
  cases rd o δ' <;> rfl
theorem m1K_o (f : D → Option D) (o : Op) (δ : En) : m1K f (some (.ok o δ)) = m1L f δ (rd o δ) := (rfl)
theorem m1L_s (f : D → Option D) (d : D) (δ : En) : m1L f δ (some d) = liftK (f d) δ := (rfl)
def m2K (f : D → D → Option D) (b : M Op) : Option (R Op) → Option (R D) := bK fun o => b.bind fun q => (mRd o).bind fun d => (mRd q).bind fun e => M.lift (f d e)
def m2L (f : D → D → Option D) (o : Op) : Option (R Op) → Option (R D) := bK fun q => (mRd o).bind fun d => (mRd q).bind fun e => M.lift (f d e)
def m2N (f : D → D → Option D) (δ : En) : Option D → Option D → Option (R D)
  | some d, some e => liftK (f d e) δ
  | _, _ => none
theorem m2_e (f : D → D → Option D) (a b : M Op) (δ : En) : m2 f a b δ = m2K f b (a δ) := by unfold m2 m2K; rw [bind_e]
theorem m2K_o (f : D → D → Option D) (b : M Op) (o : Op) (δ : En) : m2K f b (some (.ok o δ)) = m2L f o (b δ) := by unfold m2K m2L; simp only [bK, bind_e]
theorem m2L_o (f : D → D → Option D) (o q : Op) (δ : En) : m2L f o (some (.ok q δ)) = m2N f δ (rd o δ) (rd q δ) := by
  unfold m2L m2N
  simp only [bK, bind_e, mRd_e, lift_e]
  cases h1 : rd o δ <;> cases h2 : rd q δ <;> simp only [h1, h2, bK, liftK, bind_e, mRd_e, lift_e]
theorem m2N_s (f : D → D → Option D) (d e : D) (δ : En) : m2N f δ (some d) (some e) = liftK (f d e) δ := (rfl)
def lstM : Option (List D) → Option D := Option.map D.lst
theorem lstM_s (ds : List D) : lstM (some ds) = some (.lst ds) := (rfl)
theorem mn1_e (f : D → Option (List D)) (a : M Op) (δ : En) : mn1 f a δ = m1K (fun d => lstM (f d)) (a δ) := m1_e (fun d => lstM (f d)) a δ
theorem mn2_e (f : D → D → Option (List D)) (a b : M Op) (δ : En) : mn2 f a b δ = m2K (fun d e => lstM (f d e)) b (a δ) := m2_e (fun d e => lstM (f d e)) a b δ
/-! arguments -/
theorem maNil_e (δ : En) : maNil δ = some (.ok [] δ) := (rfl)
def acK (b : M (List Op)) : Option (R Op) → Option (R (List Op)) := bK fun o => b.bind fun os => M.ret (o :: os)
def acL (o : Op) : Option (R (List Op)) → Option (R (List Op))
  | some (.ok os δ) => some (.ok (o :: os) δ)
  | some (.ex x δ) => some (.ex x δ)
  | none => none
theorem maCons_e (a : M Op) (b : M (List Op)) (δ : En) : maCons a b δ = acK b (a δ) := by unfold maCons acK; rw [bind_e]
theorem acK_o (b : M (List Op)) (o : Op) (δ : En) : acK b (some (.ok o δ)) = acL o (b δ) := by unfold acK acL; simp only [bK, M.bind, M.ret]; rcases b δ with _ | (_ | _) <;> rfl
theorem mdNil_e (δ : En) : mdNil δ = some (.ok [] δ) := (rfl)
def dcK (b : M (List D)) : Option (R D) → Option (R (List D)) := bK fun o => b.bind fun os => M.ret (o :: os)
def dcL (o : D) : Option (R (List D)) → Option (R (List D))
  | some (.ok os δ) => some (.ok (o :: os) δ)
  | some (.ex x δ) => some (.ex x δ)
  | none => none
theorem mdCons_e (a : M D) (b : M (List D)) (δ : En) : mdCons a b δ = dcK b (a δ) := by unfold mdCons dcK; rw [bind_e]
theorem dcK_o (b : M (List D)) (o : D) (δ : En) : dcK b (some (.ok o δ)) = dcL o (b δ) := by unfold dcK dcL; simp only [bK, M.bind, M.ret]; rcases b δ with _ | (_ | _) <;> rfl
def consO : Option D → Option (List D) → Option (List D)
  | some d, some ds => some (d :: ds)
  | _, _ => none
theorem rds_n (δ : En) : rds [] δ = some [] := (rfl)
theorem rds_c (o : Op) (os : List Op) (δ : En) : rds (o :: os) δ = consO (rd o δ) (rds os δ) := (rfl)
theorem consO_s (d : D) (ds : List D) : consO (some d) (some ds) = some (d :: ds) := (rfl)
def aK (f : List D → Option D) : Option (R (List Op)) → Option (R D) := bK fun os => (mRds os).bind fun ds => M.lift (f ds)
def aL (f : List D → Option D) (δ : En) : Option (List D) → Option (R D)
  | some ds => liftK (f ds) δ
  | none => none
theorem mA_e (f : List D → Option D) (a : M (List Op)) (δ : En) : mA f a δ = aK f (a δ) := by unfold mA aK; rw [bind_e]
theorem mnA_e (f : List D → Option (List D)) (a : M (List Op)) (δ : En) : mnA f a δ = aK (fun ds => lstM (f ds)) (a δ) := mA_e (fun ds => lstM (f ds)) a δ
theorem aK_o (f : List D → Option D) (os : List Op) (δ : En) : aK f (some (.ok os δ)) = aL f δ (rds os δ) := by unfold aK aL; simp only [bK, M.bind, mRds]; cases rds os δ <;> rfl
theorem aL_s (f : List D → Option D) (ds : List D) (δ : En) : aL f δ (some ds) = liftK (f ds) δ := (rfl)
theorem fA1_e (f : D → Option D) (d : D) : fA1 f [d] = f d := (rfl)
theorem fN1_e (f : D → Option (List D)) (d : D) : fN1 f [d] = f d := (rfl)
def tupK : Option (R (List D)) → Option (R D)
  | some (.ok ds δ) => if ds.length ≤ LB then some (.ok (.tup ds) δ) else none
  | some (.ex x δ) => some (.ex x δ)
  | none => none
theorem mTup_e (a : M (List D)) (δ : En) : mTup a δ = tupK (a δ) := by unfold mTup M.bind tupK M.lift; rcases a δ with _ | (⟨ds, _⟩ | _) <;> first | rfl | (by_cases h : ds.length ≤ LB <;> simp [h])
def lstK : Option (R (List D)) → Option (R D)
  | some (.ok ds δ) => if ds.length ≤ LB then some (.ok (.lst ds) δ) else none
  | some (.ex x δ) => some (.ex x δ)
  | none => none
theorem mLst_e (a : M (List D)) (δ : En) : mLst a δ = lstK (a δ) := by unfold mLst M.bind lstK M.lift; rcases a δ with _ | (⟨ds, _⟩ | _) <;> first | rfl | (by_cases h : ds.length ≤ LB <;> simp [h])
/-! tests -/
def testK : Option (R D) → Option (R Bool)
  | some (.ok (.bl b) δ) => some (.ok b δ)
  | some (.ex x δ) => some (.ex x δ)
  | _ => none
theorem mTest_e (m : M D) (δ : En) : mTest m δ = testK (m δ) := by unfold mTest M.bind testK M.lift; rcases m δ with _ | (⟨d, _⟩ | _) <;> first | rfl | (cases d <;> rfl)
def notK : Option (R Bool) → Option (R Bool)
  | some (.ok b δ) => some (.ok (!b) δ)
  | some (.ex x δ) => some (.ex x δ)
  | none => none
theorem mNot_e (m : M Bool) (δ : En) : mNot m δ = notK (m δ) := by unfold mNot M.bind notK M.ret; rcases m δ with _ | (_ | _) <;> rfl
def andK (b : M Bool) : Option (R Bool) → Option (R Bool)
  | some (.ok true δ) => b δ
  | some (.ok false δ) => some (.ok false δ)
  | some (.ex x δ) => some (.ex x δ)
  | none => none
theorem mAnd_e (a b : M Bool) (δ : En) : mAnd a b δ = andK b (a δ) := by unfold mAnd M.bind andK M.ret; rcases a δ with _ | (⟨k, _⟩ | _) <;> first | rfl | (cases k <;> rfl)
def orK (b : M Bool) : Option (R Bool) → Option (R Bool)
  | some (.ok false δ) => b δ
  | some (.ok true δ) => some (.ok true δ)
  | some (.ex x δ) => some (.ex x δ)
  | none => none
theorem mOr_e (a b : M Bool) (δ : En) : mOr a b δ = orK b (a δ) := by unfold mOr M.bind orK M.ret; rcases a δ with _ | (⟨k, _⟩ | _) <;> first | rfl | (cases k <;> rfl)
def andvK (b : M D) : Option (R D) → Option (R D)
  | some (.ok (.bl true) δ) => b δ
  | some (.ok (.bl false) δ) => some (.ok (.bl false) δ)
  | some (.ex x δ) => some (.ex x δ)
  | _ => none
theorem mAndV_e (a b : M D) (δ : En) : mAndV a b δ = andvK b (a δ) := by
  unfold mAndV M.bind andvK M.ret
  rcases a δ with _ | (⟨k, _⟩ | _) <;> first | rfl | (cases k <;> first | rfl | skip)
  rename_i b' ; cases b' <;> rfl
def orvK (b : M D) : Option (R D) → Option (R D)
  | some (.ok (.bl false) δ) => b δ
  | some (.ok (.bl true) δ) => some (.ok (.bl true) δ)
  | some (.ex x δ) => some (.ex x δ)
  | _ => none
theorem mOrV_e (a b : M D) (δ : En) : mOrV a b δ = orvK b (a δ) := by
  unfold mOrV M.bind orvK M.ret
  rcases a δ with _ | (⟨k, _⟩ | _) <;> first | rfl | (cases k <;> first | rfl | skip)
  rename_i b' ; cases b' <;> rfl
def notvK : Option (R D) → Option (R D)
  | some (.ok (.bl b) δ) => some (.ok (.bl (!b)) δ)
  | some (.ex x δ) => some (.ex x δ)
  | _ => none
theorem mNotV_e (a : M D) (δ : En) : mNotV a δ = notvK (a δ) := by unfold mNotV M.bind notvK M.lift; rcases a δ with _ | (⟨d, _⟩ | _) <;> first | rfl | (cases d <;> rfl)
def ifeK (a b : M D) : Option (R Bool) → Option (R D)
  | some (.ok true δ) => a δ
  | some (.ok false δ) => b δ
  | some (.ex x δ) => some (.ex x δ)
  | none => none
theorem mIfE_e (c : M Bool) (a b : M D) (δ : En) : mIfE c a b δ = ifeK a b (c δ) := by unfold mIfE M.bind ifeK; rcases c δ with _ | (⟨k, _⟩ | _) <;> first | rfl | (cases k <;> rfl)
def chN (g : D → D → Option D) (q : Op) (c : M Op) (δ : En) : Option D → Option (R D)
  | some (.bl true) => m2K (fun e y => g e y) c (some (.ok q δ))
  | some (.bl false) => some (.ok (.bl false) δ)
  | _ => none
def chM (f g : D → D → Option D) (q : Op) (c : M Op) (δ : En) : Option D → Option D → Option (R D)
  | some d, some e => chN g q c δ (f d e)
  | _, _ => none
def chL (f g : D → D → Option D) (o : Op) (c : M Op) : Option (R Op) → Option (R D)
  | some (.ok q δ) => chM f g q c δ (rd o δ) (rd q δ)
  | some (.ex x δ) => some (.ex x δ)
  | none => none
def chK (f g : D → D → Option D) (b c : M Op) : Option (R Op) → Option (R D)
  | some (.ok o δ) => chL f g o c (b δ)
  | some (.ex x δ) => some (.ex x δ)
  | none => none
theorem mChain_e (f g : D → D → Option D) (a b c : M Op) (δ : En) : mChain f g a b c δ = chK f g b c (a δ) := by
  unfold mChain chK
  rw [bind_e]
  rcases a δ with _ | (⟨o, δ1⟩ | _) <;> first | rfl | skip
  simp only [bK, bind_e]
  unfold chL
  rcases b δ1 with _ | (⟨q, δ2⟩ | _) <;> first | rfl | skip
  simp only [bK, mRd]
  unfold chM
  cases rd o δ2 with
  | none => rfl
  | some d =>
    simp only [bK, bind_e, mRd]
    cases rd q δ2 with
    | none => rfl
    | some e =>
      simp only [bK, bind_e, lift_e]
      cases f d e with
      | none => rfl
      | some z =>
        simp only [liftK, bK]
        cases z <;> first | rfl | skip
        rename_i k
        cases k <;> first | rfl | skip
        try simp only [chN, m2K, bK, bind_e]
/-! statements -/
theorem mNext_e (δ : En) : mNext δ = some (.nx δ) := (rfl)
def seqK (b : Ms) : Option Ou → Option Ou
  | some (.nx δ) => b δ
  | some (.rt d δ) => some (.rt d δ)
  | some (.rn d δ) => some (.rn d δ)
  | some (.bk δ) => some (.bk δ)
  | some (.ct δ) => some (.ct δ)
  | some (.ex x δ) => some (.ex x δ)
  | none => none
theorem mSeq_e (a b : Ms) (δ : En) : mSeq a b δ = seqK b (a δ) := by unfold mSeq seqK; rcases a δ with _ | o <;> first | rfl | (cases o <;> rfl)
def ifK (a b : Ms) : Option (R Bool) → Option Ou
  | some (.ok true δ) => a δ
  | some (.ok false δ) => b δ
  | some (.ex x δ) => some (.ex x δ)
  | none => none
theorem mIf_e (c : M Bool) (a b : Ms) (δ : En) : mIf c a b δ = ifK a b (c δ) := by unfold mIf mS ifK; rcases c δ with _ | (⟨k, _⟩ | _) <;> first | rfl | (cases k <;> rfl)
def retK : Option (R D) → Option Ou
  | some (.ok d δ) => some (.rt d δ)
  | some (.ex x δ) => some (.ex x δ)
  | none => none
theorem mRet_e (m : M D) (δ : En) : mRet m δ = retK (m δ) := by unfold mRet mS retK; rcases m δ with _ | (_ | _) <;> rfl
def retwK : Option (R D) → Option Ou
  | some (.ok d δ) => some (.rn d δ)
  | some (.ex x δ) => some (.ex x δ)
  | none => none
theorem mRetW_e (m : M D) (δ : En) : mRetW m δ = retwK (m δ) := by unfold mRetW mS retwK; rcases m δ with _ | (_ | _) <;> rfl
def retoK (δ : En) : Option Sl → Option Ou
  | some (.ow d) => some (.rn d δ)
  | _ => none
theorem mRetO_e (i : Nat) (δ : En) : mRetO i δ = retoK δ δ[i]? := (rfl)
def dropK : Option (R D) → Option Ou
  | some (.ok _ δ) => some (.nx δ)
  | some (.ex x δ) => some (.ex x δ)
  | none => none
theorem mDrop_e (m : M D) (δ : En) : mDrop m δ = dropK (m δ) := by unfold mDrop mS dropK; rcases m δ with _ | (_ | _) <;> rfl
def nxK : Option En → Option Ou
  | some δ => some (.nx δ)
  | none => none
def asgK (g : Mg) : Option (R D) → Option Ou
  | some (.ok d δ) => nxK (g d δ)
  | some (.ex x δ) => some (.ex x δ)
  | none => none
theorem mAsg_e (g : Mg) (m : M D) (δ : En) : mAsg g m δ = asgK g (m δ) := by unfold mAsg mS asgK nxK; rcases m δ with _ | (⟨d, δ'⟩ | _) <;> first | rfl | (simp only []; cases g d δ' <;> rfl)
def asgoK (i : Nat) : Option (R D) → Option Ou
  | some (.ok d δ) => some (.nx (δ.set i (.ow d)))
  | some (.ex x δ) => some (.ex x δ)
  | none => none
theorem mAsgO_e (i : Nat) (m : M D) (δ : En) : mAsgO i m δ = asgoK i (m δ) := by unfold mAsgO mS asgoK; rcases m δ with _ | (_ | _) <;> rfl
def parK (i j : Nat) : Option (R (List D)) → Option Ou
  | some (.ok [a, b] δ) => some (.nx ((δ.set i (.fr a)).set j (.fr b)))
  | some (.ex x δ) => some (.ex x δ)
  | _ => none
theorem mPar_e (i j : Nat) (m : M (List D)) (δ : En) : mPar i j m δ = parK i j (m δ) := by
  unfold mPar mS parK
  rcases m δ with _ | (⟨ds, δ'⟩ | _) <;> first | rfl | skip
  match ds with
  | [] => rfl
  | [_] => rfl
  | [_, _] => rfl
  | _ :: _ :: _ :: _ => rfl
theorem gN_e (i : Nat) (d : D) (δ : En) : gN i d δ = some (δ.set i (.fr d)) := (rfl)
theorem gs0_e (δ : En) : gs0 [] δ = some δ := (rfl)
def gscK (b : List D → En → Option En) (r : List D) : Option En → Option En
  | some δ => b r δ
  | none => none
theorem gsC_e (a : Mg) (b : List D → En → Option En) (d : D) (r : List D) (δ : En) : gsC a b (d :: r) δ = gscK b r (a d δ) := by show (match a d δ with | some δ' => b r δ' | none => none) = _; unfold gscK; cases a d δ <;> rfl
theorem gT_e (m : List D → En → Option En) (ds : List D) (δ : En) : gT m (.tup ds) δ = m ds δ := (rfl)
theorem gTL_e (m : List D → En → Option En) (ds : List D) (δ : En) : gTL m (.lst ds) δ = m ds δ := (rfl)
def itK (f : List D → Option (List D)) : Option (R (List D)) → Option (R (List D))
  | some (.ok as δ) => liftK (f as) δ
  | some (.ex x δ) => some (.ex x δ)
  | none => none
theorem mIt_e (f : List D → Option (List D)) (m : M (List D)) (δ : En) : mIt f m δ = itK f (m δ) := by unfold mIt M.bind itK; rcases m δ with _ | (_ | _) <;> rfl
def sqK : Option (R D) → Option (R (List D))
  | some (.ok (.lst ds) δ) => some (.ok ds δ)
  | some (.ex x δ) => some (.ex x δ)
  | _ => none
theorem mSeqOf_e (m : M D) (δ : En) : mSeqOf m δ = sqK (m δ) := by unfold mSeqOf M.bind sqK M.lift; rcases m δ with _ | (⟨d, _⟩ | _) <;> first | rfl | (cases d <;> rfl)
def tqK : Option (R D) → Option (R (List D))
  | some (.ok (.tup ds) δ) => some (.ok ds δ)
  | some (.ex x δ) => some (.ex x δ)
  | _ => none
theorem mTupOf_e (m : M D) (δ : En) : mTupOf m δ = tqK (m δ) := by unfold mTupOf M.bind tqK M.lift; rcases m δ with _ | (⟨d, _⟩ | _) <;> first | rfl | (cases d <;> rfl)
def sbK (i : Nat) (δ : En) : Option Sl → Option (R (List D))
  | some (.bo (.lst ds)) => some (.ok ds δ)
  | some (.fr (.lst ds)) => some (.ok ds δ)
  | some (.ow (.lst ds)) => some (.ok ds (δ.set i (.fr (.lst ds))))
  | _ => none
theorem mSeqB_e (i : Nat) (δ : En) : mSeqB i δ = sbK i δ δ[i]? := by
  unfold mSeqB sbK
  cases h : δ[i]? with
  | none => simp only [mSeqOf_e, mVar_e, h, varK, sqK]
  | some s => cases s with
    | bo d => cases d <;> rfl
    | fr d => simp only [mSeqOf_e, mVar_e, h, varK]; cases d <;> rfl
    | ow d => simp only [mSeqOf_e, mVar_e, h, varK]; cases d <;> rfl
    | _ => simp only [mSeqOf_e, mVar_e, h, varK, sqK]
def enK (i : Nat) (δ : En) : Option Sl → Option (R (List D))
  | some (.bo (.lst ds)) => some (.ok (enumD ds) δ)
  | some (.fr (.lst ds)) => some (.ok (enumD ds) δ)
  | some (.fr (.tup ds)) => some (.ok (enumD ds) δ)
  | some (.ow (.lst ds)) => some (.ok (enumD ds) (δ.set i (.fr (.lst ds))))
  | some (.ow (.tup ds)) => some (.ok (enumD ds) (δ.set i (.fr (.tup ds))))
  | _ => none
theorem mEnumB_e (i : Nat) (δ : En) : mEnumB i δ = enK i δ δ[i]? := by
  unfold mEnumB enK
  cases h : δ[i]? with
  | none => simp only [mIt_e, mdCons_e, mVar_e, h, varK, dcK, bK, itK]
  | some s => cases s with
    | bo d => cases d <;> rfl
    | fr d => simp only [mIt_e, mdCons_e, mVar_e, h, varK, dcK_o, mdNil_e, dcL, itK]; cases d <;> rfl
    | ow d => simp only [mIt_e, mdCons_e, mVar_e, h, varK, dcK_o, mdNil_e, dcL, itK]; cases d <;> rfl
    | _ => simp only [mIt_e, mdCons_e, mVar_e, h, varK, dcK, bK, itK]
def forK (g : Mg) (b : Ms) : Option (R (List D)) → Option Ou
  | some (.ok ds δ) => forL g b ds δ
  | some (.ex x δ) => some (.ex x δ)
  | none => none
theorem mFor_e (it : M (List D)) (g : Mg) (b : Ms) (δ : En) : mFor it g b δ = forK g b (it δ) := by unfold mFor mS forK; rcases it δ with _ | (_ | _) <;> rfl
def flL (g : Mg) (b : Ms) (ds : List D) : Option Ou → Option Ou
  | some (.nx δ) => forL g b ds δ
  | some (.ct δ) => forL g b ds δ
  | some (.bk δ) => some (.nx δ)
  | some (.rt d δ) => some (.rt d δ)
  | some (.rn d δ) => some (.rn d δ)
  | some (.ex x δ) => some (.ex x δ)
  | none => none
def flK (g : Mg) (b : Ms) (ds : List D) : Option En → Option Ou
  | some δ => flL g b ds (b δ)
  | none => none
theorem forL_n (g : Mg) (b : Ms) (δ : En) : forL g b [] δ = some (.nx δ) := (rfl)
theorem forL_c (g : Mg) (b : Ms) (d : D) (ds : List D) (δ : En) : forL g b (d :: ds) δ = flK g b ds (g d δ) := by
  unfold forL flK flL
  rcases g d δ with _ | δ1
  · rfl
  · simp only []
    rcases b δ1 with _ | o <;> first | rfl | (cases o <;> rfl)
/-! calls -/
def cpL (ks : List PK) (g : List D → Option D) (os : List Op) (δ : En) : Option (List D) → Option (R D)
  | some ds => if frOk ks os then liftK (g ds) δ else none
  | none => none
def cpK (ks : List PK) (g : List D → Option D) : Option (R (List Op)) → Option (R D)
  | some (.ok os δ) => cpL ks g os δ (rds os δ)
  | some (.ex x δ) => some (.ex x δ)
  | none => none
theorem mCallP_e (ks : List PK) (g : List D → Option D) (a : M (List Op)) (δ : En) : mCallP ks g a δ = cpK ks g (a δ) := by
  unfold mCallP cpK
  rw [bind_e]
  rcases a δ with _ | (⟨os, δ1⟩ | _) <;> first | rfl | skip
  simp only [bK, bind_e, mRds]
  cases rds os δ1 <;> first | rfl | skip
  simp only [bK, cpL]
  rename_i ds
  cases g ds <;> rfl
theorem mCallN_e (ks : List PK) (g : List D → Option D) (a : M (List Op)) (δ : En) : mCallN ks g a δ = cpK ks g (a δ) := mCallP_e ks g a δ
def ownO (δ : En) (i : Nat) : Option (Sl × D) := match δ[i]? with
  | some (.ow d) => some (.ow d, d)
  | some (.io d) => some (.io d, d)
  | _ => none
def ownK : Option Sl → Option (Sl × D)
  | some (.ow d) => some (.ow d, d)
  | some (.io d) => some (.io d, d)
  | _ => none
theorem ownO_e (δ : En) (i : Nat) : ownO δ i = ownK δ[i]? := (rfl)
def ciM (i : Nat) (δ : En) (s : Sl) : Option (D × D) → Option (R D)
  | some p => some (.ok p.1 (δ.set i (reown s p.2)))
  | none => none
def ciL (i : Nat) (ks : List PK) (g : List D → Option (D × D)) (os : List Op) (δ : En) : Option (Sl × D) → Option (List D) → Option (R D)
  | some (s, c), some ds => if frOk ks os && apart i os then ciM i δ s (g (c :: ds)) else none
  | _, _ => none
def ciK (i : Nat) (ks : List PK) (g : List D → Option (D × D)) : Option (R (List Op)) → Option (R D)
  | some (.ok os δ) => ciL i ks g os δ (ownO δ i) (rds os δ)
  | some (.ex x δ) => some (.ex x δ)
  | none => none
def ciH (i : Nat) (ks : List PK) (g : List D → Option (D × D)) (a : M (List Op)) (δ : En) : Option (Sl × D) → Option (R D)
  | some _ => ciK i ks g (a δ)
  | none => none
theorem mCallI_e (i : Nat) (ks : List PK) (g : List D → Option (D × D)) (a : M (List Op)) (δ : En) : mCallI i ks g a δ = ciH i ks g a δ (ownO δ i) := by
  have key : (a.bind fun os => (mRds os).bind fun ds => fun δ1 => match δ1[i]? with
      | some s1 => match s1.own with
        | some c => if frOk ks os && apart i os then (match g (c :: ds) with
          | some p => some (.ok p.1 (δ1.set i (reown s1 p.2)))
          | none => none) else none
        | none => none
      | none => none) δ = ciK i ks g (a δ) := by
    unfold ciK
    rw [bind_e]
    rcases a δ with _ | (⟨os, δ1⟩ | _) <;> first | rfl | skip
    simp only [bK, bind_e, mRds]
    unfold ownO
    cases rds os δ1 with
    | none => simp only [bK]; rcases δ1[i]? with _ | s <;> first | rfl | (cases s <;> rfl)
    | some ds =>
      simp only [bK]
      rcases δ1[i]? with _ | s
      · rfl
      · cases s with
        | ow d => simp only [Sl.own, ciL]; cases g (d :: ds) <;> rfl
        | io d => simp only [Sl.own, ciL]; cases g (d :: ds) <;> rfl
        | _ => rfl
  unfold mCallI ciH ownO
  rcases δ[i]? with _ | s
  · rfl
  · cases s <;> first | rfl | exact key
def mkN (δ : En) : Option (D × D) → Option (R D)
  | some (.non, .ins C ns es) => some (.ok (.ins C ns es) δ)
  | _ => none
def mkL (C : Addr) (ks : List PK) (g : List D → Option (D × D)) (os : List Op) (δ : En) : Option (List D) → Option (R D)
  | some ds => if frOk ks os then mkN δ (g (.ins C [] [] :: ds)) else none
  | none => none
def mkK (C : Addr) (ks : List PK) (g : List D → Option (D × D)) : Option (R (List Op)) → Option (R D)
  | some (.ok os δ) => mkL C ks g os δ (rds os δ)
  | some (.ex x δ) => some (.ex x δ)
  | none => none
theorem mMakeP_e (C : Addr) (ks : List PK) (g : List D → Option (D × D)) (a : M (List Op)) (δ : En) : mMakeP C ks g a δ = mkK C ks g (a δ) := by
  unfold mMakeP mkK
  rw [bind_e]
  rcases a δ with _ | (⟨os, δ1⟩ | _) <;> first | rfl | skip
  simp only [bK, bind_e, mRds]
  cases rds os δ1 <;> first | rfl | skip
/-! own lists changed -/
def olK : Option Sl → Option (Sl × List D)
  | some (.ow (.lst ds)) => some (.ow (.lst ds), ds)
  | some (.io (.lst ds)) => some (.io (.lst ds), ds)
  | _ => none
theorem ownL_e (δ : En) (i : Nat) : ownL δ i = olK δ[i]? := by
  unfold ownL olK
  rcases δ[i]? with _ | s
  · rfl
  · cases s with
    | ow d => cases d <;> rfl
    | io d => cases d <;> rfl
    | _ => rfl
def muN (i : Nat) (δ : En) (s : Sl) : Option (List D × D) → Option (R D)
  | some (nw, res) => some (.ok res (δ.set i (reown s (.lst nw))))
  | none => none
def muL (f : List D → List D → Option (List D × D)) (i : Nat) (as : List D) (δ : En) : Option (Sl × List D) → Option (R D)
  | some (s, ds) => muN i δ s (f ds as)
  | none => none
def muK (f : List D → List D → Option (List D × D)) (i : Nat) : Option (R (List D)) → Option (R D)
  | some (.ok as δ) => muL f i as δ (ownL δ i)
  | some (.ex x δ) => some (.ex x δ)
  | none => none
def muH (f : List D → List D → Option (List D × D)) (i : Nat) (a : M (List D)) (δ : En) : Option (Sl × List D) → Option (R D)
  | some _ => muK f i (a δ)
  | none => none
theorem mMut_e (f : List D → List D → Option (List D × D)) (i : Nat) (a : M (List D)) (δ : En) : mMut f i a δ = muH f i a δ (ownL δ i) := by
  unfold mMut muH
  cases ownL δ i with
  | none => rfl
  | some p =>
    simp only [bind_e]
    unfold muK
    rcases a δ with _ | (⟨as, δ1⟩ | _) <;> first | rfl | skip
    simp only [bK]
    unfold muL
    rcases ownL δ1 i with _ | ⟨s, ds⟩
    · rfl
    · simp only []
      unfold muN
      rcases f ds as with _ | ⟨nw, res⟩ <;> rfl
theorem appF_e (ds : List D) (d : D) : appF ds [d] = if ds.length < 1000000 then some (ds ++ [d], .non) else none := (rfl)
def puN (i : Nat) (d : D) (δ : En) (s : Sl) (ds : List D) : Option Nat → Option Ou
  | some m => some (.nx (δ.set i (reown s (.lst (ds.set m d)))))
  | none => none
def puM (i : Nat) (d : D) (n : Int) (δ : En) : Option (Sl × List D) → Option Ou
  | some (s, ds) => puN i d δ s ds (ixN ds.length n)
  | none => none
def puL (i : Nat) (d : D) : Option (R D) → Option Ou
  | some (.ok (.int n) δ) => puM i d n δ (ownL δ i)
  | some (.ex x δ) => some (.ex x δ)
  | _ => none
def puH (i : Nat) (d : D) (mi : M D) (δ : En) : Option (Sl × List D) → Option Ou
  | some _ => puL i d (mi δ)
  | none => none
def puK (i : Nat) (mi : M D) : Option (R D) → Option Ou
  | some (.ok d δ) => puH i d mi δ (ownL δ i)
  | some (.ex x δ) => some (.ex x δ)
  | none => none
theorem mPutI_e (i : Nat) (mi me : M D) (δ : En) : mPutI i mi me δ = puK i mi (me δ) := by
  unfold mPutI puK
  rw [mS_e]
  rcases me δ with _ | (⟨d, δ1⟩ | _) <;> first | rfl | skip
  simp only [sK, mHas]
  unfold puH
  cases ownL δ1 i with
  | none => rfl
  | some p =>
    simp only [mS_e]
    unfold puL
    rcases mi δ1 with _ | (⟨j, δ2⟩ | _) <;> first | rfl | skip
    simp only [sK]
    cases j <;> rfl
/-! fields -/
def oiK : Option Sl → Option (Sl × Addr × List Str × List D)
  | some (.ow (.ins C ns ds)) => some (.ow (.ins C ns ds), C, ns, ds)
  | some (.io (.ins C ns ds)) => some (.io (.ins C ns ds), C, ns, ds)
  | _ => none
theorem ownI_e (δ : En) (i : Nat) : ownI δ i = oiK δ[i]? := by
  unfold ownI oiK
  rcases δ[i]? with _ | s
  · rfl
  · cases s with
    | ow d => cases d <;> rfl
    | io d => cases d <;> rfl
    | _ => rfl
def sfL (C : Addr) (i : Nat) (f : Str) (d : D) (δ : En) : Option (Sl × Addr × List Str × List D) → Option Ou
  | some (s, C', ns, ds) => if C' = C ∧ ns.length < 100 ∧ f ∉ ns then some (.nx (δ.set i (reown s (.ins C (ns ++ [f]) (ds ++ [d]))))) else none
  | none => none
def sfK (C : Addr) (i : Nat) (f : Str) : Option (R D) → Option Ou
  | some (.ok d δ) => sfL C i f d δ (ownI δ i)
  | some (.ex x δ) => some (.ex x δ)
  | none => none
theorem mSetF_e (C : Addr) (i : Nat) (f : Str) (m : M D) (δ : En) : mSetF C i f m δ = sfK C i f (m δ) := by
  unfold mSetF sfK
  rw [mS_e]
  rcases m δ with _ | (⟨d, δ1⟩ | _) <;> first | rfl | skip
/-! slices, counts -/
theorem mpNone_e (δ : En) : mpNone δ = some (.ok none δ) := (rfl)
def psK : Option (R D) → Option (R (Option Int))
  | some (.ok (.int i) δ) => some (.ok (some i) δ)
  | some (.ex x δ) => some (.ex x δ)
  | _ => none
theorem mpSome_e (m : M D) (δ : En) : mpSome m δ = psK (m δ) := by unfold mpSome M.bind psK M.lift; rcases m δ with _ | (⟨d, _⟩ | _) <;> first | rfl | (cases d <;> rfl)
def slN (f : D → Option Int → Option Int → Option D) (lo hi : Option Int) (δ : En) : Option D → Option (R D)
  | some d => liftK (f d lo hi) δ
  | none => none
def slM (f : D → Option Int → Option Int → Option D) (o : Op) (lo : Option Int) : Option (R (Option Int)) → Option (R D)
  | some (.ok hi δ) => slN f lo hi δ (rd o δ)
  | some (.ex x δ) => some (.ex x δ)
  | none => none
def slL (f : D → Option Int → Option Int → Option D) (o : Op) (u : M (Option Int)) : Option (R (Option Int)) → Option (R D)
  | some (.ok lo δ) => slM f o lo (u δ)
  | some (.ex x δ) => some (.ex x δ)
  | none => none
def slK (f : D → Option Int → Option Int → Option D) (l u : M (Option Int)) : Option (R Op) → Option (R D)
  | some (.ok o δ) => slL f o u (l δ)
  | some (.ex x δ) => some (.ex x δ)
  | none => none
theorem mSl_e (f : D → Option Int → Option Int → Option D) (a : M Op) (l u : M (Option Int)) (δ : En) : mSl f a l u δ = slK f l u (a δ) := by
  unfold mSl slK
  rw [bind_e]
  rcases a δ with _ | (⟨o, δ1⟩ | _) <;> first | rfl | skip
  simp only [bK, bind_e]
  unfold slL
  rcases l δ1 with _ | (⟨lo, δ2⟩ | _) <;> first | rfl | skip
  simp only [bK, bind_e]
  unfold slM
  rcases u δ2 with _ | (⟨hi, δ3⟩ | _) <;> first | rfl | skip
  simp only [bK, bind_e, mRd]
  unfold slN
  cases rd o δ3 <;> rfl
def cnM (k : Bool) (δ : En) : Option D → Option D → Option (R D)
  | some d, some e => liftK (if kindD d = some k then cntD d e else none) δ
  | _, _ => none
def cnL (o : Op) (k : Bool) : Option (R Op) → Option (R D)
  | some (.ok q δ) => cnM k δ (rd o δ) (rd q δ)
  | some (.ex x δ) => some (.ex x δ)
  | none => none
def cnJ (b : M Op) (o : Op) (δ : En) : Option Bool → Option (R D)
  | some k => cnL o k (b δ)
  | none => none
def cnI (b : M Op) (o : Op) (δ : En) : Option D → Option (R D)
  | some d => cnJ b o δ (kindD d)
  | none => none
def cnK (b : M Op) : Option (R Op) → Option (R D)
  | some (.ok o δ) => cnI b o δ (rd o δ)
  | some (.ex x δ) => some (.ex x δ)
  | none => none
theorem mCount_e (a b : M Op) (δ : En) : mCount a b δ = cnK b (a δ) := by
  unfold mCount cnK
  rw [bind_e]
  rcases a δ with _ | (⟨o, δ1⟩ | _) <;> first | rfl | skip
  simp only [bK, bind_e, mRd]
  unfold cnI
  cases rd o δ1 with
  | none => rfl
  | some d0 =>
    simp only [bK]
    unfold cnJ
    cases kindD d0 with
    | none => rfl
    | some k =>
      simp only [bind_e]
      unfold cnL
      rcases b δ1 with _ | (⟨q, δ2⟩ | _) <;> first | rfl | skip
      simp only [bK, bind_e, mRd]
      unfold cnM
      cases rd o δ2 with
      | none => rfl
      | some d =>
        simp only [bK, bind_e, mRd]
        cases rd q δ2 <;> rfl
def gD : Option Ou → Option D
  | some (.rt d _) => some d
  | some (.nx _) => some .non
  | _ => none
theorem defG_e (n : Nat) (ks : List PK) (m : Ms) (ds : List D) : defG n ks m ds = gD (m (startE n (entry ks ds))) := by unfold defG gD; rcases m (startE n (entry ks ds)) with _ | o <;> first | rfl | (cases o <;> rfl)
def io0K (d : D) : Option Sl → Option (D × D)
  | some (.io e) => some (d, e)
  | _ => none
def gI : Option Ou → Option (D × D)
  | some (.rt d δ) => io0K d δ[(0 : Nat)]?
  | some (.nx δ) => io0K .non δ[(0 : Nat)]?
  | _ => none
theorem io0_map (δ : En) (d : D) : ((io0 δ).map fun e => (d, e)) = io0K d δ[(0 : Nat)]? := by
  unfold io0 io0K
  rcases δ[(0 : Nat)]? with _ | s <;> first | rfl | (cases s <;> rfl)
theorem defI_e (n : Nat) (ks : List PK) (m : Ms) (ds : List D) : defI n ks m ds = gI (m (startE n (entry (.io :: ks) ds))) := by
  unfold defI gI
  rcases m (startE n (entry (.io :: ks) ds)) with _ | o <;> first | rfl | skip
  cases o <;> first | rfl | exact io0_map _ _
def gNw : Option Ou → Option D
  | some (.rn d _) => some d
  | _ => none
theorem defN_e (n : Nat) (ks : List PK) (m : Ms) (ds : List D) : defN n ks m ds = gNw (m (startE n (entry ks ds))) := by unfold defN gNw; rcases m (startE n (entry ks ds)) with _ | o <;> first | rfl | (cases o <;> rfl)
end DL

set_option Elab.async false
set_option linter.all false
set_option maxRecDepth 100000
/-! MF: printed by mk_ev.py: an equation for each way of the words over outcomes. -/
namespace DL
open PySem L2
theorem varK_1 {i} {δ} {d} : varK i δ (some (.fr d)) = some (.ok d δ) := (rfl)
theorem varK_2 {i} {δ} {d} : varK i δ (some (.ow d)) = some (.ok d (δ.set i (.fr d))) := (rfl)
theorem ovK_1 {i} {δ} {u0} : ovK i δ (some (.fr u0)) = some (.ok (.slot i) δ) := (rfl)
theorem ovK_2 {i} {δ} {u0} : ovK i δ (some (.bo u0)) = some (.ok (.slot i) δ) := (rfl)
theorem ovK_3 {i} {δ} {u0} : ovK i δ (some (.ow u0)) = some (.ok (.slot i) δ) := (rfl)
theorem ovK_4 {i} {δ} {u0} : ovK i δ (some (.io u0)) = some (.ok (.slot i) δ) := (rfl)
theorem valK_1 {d} {δ} : valK  (some (.ok d δ)) = some (.ok (.val d) δ) := (rfl)
theorem valK_2 {x} {δ} : valK  (some (.ex x δ)) = some (.ex x δ) := (rfl)
theorem valK_3  : valK  (none) = none := (rfl)
theorem datK_1 {d} : datK  (some (.fr d)) = some d := (rfl)
theorem datK_2 {d} : datK  (some (.bo d)) = some d := (rfl)
theorem datK_3 {d} : datK  (some (.ow d)) = some d := (rfl)
theorem datK_4 {d} : datK  (some (.io d)) = some d := (rfl)
theorem m1L_1 {f} {δ} {d} : m1L f δ (some d) = liftK (f d) δ := (rfl)
theorem m1L_2 {f} {δ} : m1L f δ (none) = none := (rfl)
theorem m1K_1 {f} {o} {δ} : m1K f (some (.ok o δ)) = m1L f δ (rd o δ) := (rfl)
theorem m1K_2 {f} {x} {δ} : m1K f (some (.ex x δ)) = some (.ex x δ) := (rfl)
theorem m1K_3 {f} : m1K f (none) = none := (rfl)
theorem m2N_1 {f} {δ} {d} {e} : m2N f δ (some d) (some e) = liftK (f d e) δ := (rfl)
theorem acL_1 {o} {os} {δ} : acL o (some (.ok os δ)) = some (.ok (o :: os) δ) := (rfl)
theorem acL_2 {o} {x} {δ} : acL o (some (.ex x δ)) = some (.ex x δ) := (rfl)
theorem acL_3 {o} : acL o (none) = none := (rfl)
theorem dcL_1 {o} {os} {δ} : dcL o (some (.ok os δ)) = some (.ok (o :: os) δ) := (rfl)
theorem dcL_2 {o} {x} {δ} : dcL o (some (.ex x δ)) = some (.ex x δ) := (rfl)
theorem dcL_3 {o} : dcL o (none) = none := (rfl)
theorem consO_1 {d} {ds} : consO  (some d) (some ds) = some (d :: ds) := (rfl)
theorem aL_1 {f} {δ} {ds} : aL f δ (some ds) = liftK (f ds) δ := (rfl)
theorem aL_2 {f} {δ} : aL f δ (none) = none := (rfl)
theorem tupK_1 {ds} {δ} : tupK  (some (.ok ds δ)) = if ds.length ≤ LB then some (.ok (.tup ds) δ) else none := (rfl)
theorem tupK_2 {x} {δ} : tupK  (some (.ex x δ)) = some (.ex x δ) := (rfl)
theorem tupK_3  : tupK  (none) = none := (rfl)
theorem lstK_1 {ds} {δ} : lstK  (some (.ok ds δ)) = if ds.length ≤ LB then some (.ok (.lst ds) δ) else none := (rfl)
theorem lstK_2 {x} {δ} : lstK  (some (.ex x δ)) = some (.ex x δ) := (rfl)
theorem lstK_3  : lstK  (none) = none := (rfl)
theorem testK_1 {b} {δ} : testK  (some (.ok (.bl b) δ)) = some (.ok b δ) := (rfl)
theorem testK_2 {x} {δ} : testK  (some (.ex x δ)) = some (.ex x δ) := (rfl)
theorem notK_1 {b} {δ} : notK  (some (.ok b δ)) = some (.ok (!b) δ) := (rfl)
theorem notK_2 {x} {δ} : notK  (some (.ex x δ)) = some (.ex x δ) := (rfl)
theorem notK_3  : notK  (none) = none := (rfl)
theorem andK_1 {b} {δ} : andK b (some (.ok true δ)) = b δ := (rfl)
theorem andK_2 {b} {δ} : andK b (some (.ok false δ)) = some (.ok false δ) := (rfl)
theorem andK_3 {b} {x} {δ} : andK b (some (.ex x δ)) = some (.ex x δ) := (rfl)
theorem andK_4 {b} : andK b (none) = none := (rfl)
theorem orK_1 {b} {δ} : orK b (some (.ok false δ)) = b δ := (rfl)
theorem orK_2 {b} {δ} : orK b (some (.ok true δ)) = some (.ok true δ) := (rfl)
theorem orK_3 {b} {x} {δ} : orK b (some (.ex x δ)) = some (.ex x δ) := (rfl)
theorem orK_4 {b} : orK b (none) = none := (rfl)
theorem andvK_1 {b} {δ} : andvK b (some (.ok (.bl true) δ)) = b δ := (rfl)
theorem andvK_2 {b} {δ} : andvK b (some (.ok (.bl false) δ)) = some (.ok (.bl false) δ) := (rfl)
theorem andvK_3 {b} {x} {δ} : andvK b (some (.ex x δ)) = some (.ex x δ) := (rfl)
theorem orvK_1 {b} {δ} : orvK b (some (.ok (.bl false) δ)) = b δ := (rfl)
theorem orvK_2 {b} {δ} : orvK b (some (.ok (.bl true) δ)) = some (.ok (.bl true) δ) := (rfl)
theorem orvK_3 {b} {x} {δ} : orvK b (some (.ex x δ)) = some (.ex x δ) := (rfl)
theorem notvK_1 {b} {δ} : notvK  (some (.ok (.bl b) δ)) = some (.ok (.bl (!b)) δ) := (rfl)
theorem notvK_2 {x} {δ} : notvK  (some (.ex x δ)) = some (.ex x δ) := (rfl)
theorem ifeK_1 {a} {b} {δ} : ifeK a b (some (.ok true δ)) = a δ := (rfl)
theorem ifeK_2 {a} {b} {δ} : ifeK a b (some (.ok false δ)) = b δ := (rfl)
theorem ifeK_3 {a} {b} {x} {δ} : ifeK a b (some (.ex x δ)) = some (.ex x δ) := (rfl)
theorem ifeK_4 {a} {b} : ifeK a b (none) = none := (rfl)
theorem chN_1 {g} {q} {c} {δ} : chN g q c δ (some (.bl true)) = m2K (fun e y => g e y) c (some (.ok q δ)) := (rfl)
theorem chN_2 {g} {q} {c} {δ} : chN g q c δ (some (.bl false)) = some (.ok (.bl false) δ) := (rfl)
theorem chM_1 {f} {g} {q} {c} {δ} {d} {e} : chM f g q c δ (some d) (some e) = chN g q c δ (f d e) := (rfl)
theorem chL_1 {f} {g} {o} {c} {q} {δ} : chL f g o c (some (.ok q δ)) = chM f g q c δ (rd o δ) (rd q δ) := (rfl)
theorem chL_2 {f} {g} {o} {c} {x} {δ} : chL f g o c (some (.ex x δ)) = some (.ex x δ) := (rfl)
theorem chL_3 {f} {g} {o} {c} : chL f g o c (none) = none := (rfl)
theorem chK_1 {f} {g} {b} {c} {o} {δ} : chK f g b c (some (.ok o δ)) = chL f g o c (b δ) := (rfl)
theorem chK_2 {f} {g} {b} {c} {x} {δ} : chK f g b c (some (.ex x δ)) = some (.ex x δ) := (rfl)
theorem chK_3 {f} {g} {b} {c} : chK f g b c (none) = none := (rfl)
theorem seqK_1 {b} {δ} : seqK b (some (.nx δ)) = b δ := (rfl)
theorem seqK_2 {b} {d} {δ} : seqK b (some (.rt d δ)) = some (.rt d δ) := (rfl)
theorem seqK_3 {b} {d} {δ} : seqK b (some (.rn d δ)) = some (.rn d δ) := (rfl)
theorem seqK_4 {b} {δ} : seqK b (some (.bk δ)) = some (.bk δ) := (rfl)
theorem seqK_5 {b} {δ} : seqK b (some (.ct δ)) = some (.ct δ) := (rfl)
theorem seqK_6 {b} {x} {δ} : seqK b (some (.ex x δ)) = some (.ex x δ) := (rfl)
theorem seqK_7 {b} : seqK b (none) = none := (rfl)
theorem ifK_1 {a} {b} {δ} : ifK a b (some (.ok true δ)) = a δ := (rfl)
theorem ifK_2 {a} {b} {δ} : ifK a b (some (.ok false δ)) = b δ := (rfl)
theorem ifK_3 {a} {b} {x} {δ} : ifK a b (some (.ex x δ)) = some (.ex x δ) := (rfl)
theorem ifK_4 {a} {b} : ifK a b (none) = none := (rfl)
theorem retK_1 {d} {δ} : retK  (some (.ok d δ)) = some (.rt d δ) := (rfl)
theorem retK_2 {x} {δ} : retK  (some (.ex x δ)) = some (.ex x δ) := (rfl)
theorem retK_3  : retK  (none) = none := (rfl)
theorem retwK_1 {d} {δ} : retwK  (some (.ok d δ)) = some (.rn d δ) := (rfl)
theorem retwK_2 {x} {δ} : retwK  (some (.ex x δ)) = some (.ex x δ) := (rfl)
theorem retwK_3  : retwK  (none) = none := (rfl)
theorem retoK_1 {δ} {d} : retoK δ (some (.ow d)) = some (.rn d δ) := (rfl)
theorem dropK_1 {u0} {δ} : dropK  (some (.ok u0 δ)) = some (.nx δ) := (rfl)
theorem dropK_2 {x} {δ} : dropK  (some (.ex x δ)) = some (.ex x δ) := (rfl)
theorem dropK_3  : dropK  (none) = none := (rfl)
theorem nxK_1 {δ} : nxK  (some δ) = some (.nx δ) := (rfl)
theorem nxK_2  : nxK  (none) = none := (rfl)
theorem asgK_1 {g} {d} {δ} : asgK g (some (.ok d δ)) = nxK (g d δ) := (rfl)
theorem asgK_2 {g} {x} {δ} : asgK g (some (.ex x δ)) = some (.ex x δ) := (rfl)
theorem asgK_3 {g} : asgK g (none) = none := (rfl)
theorem asgoK_1 {i} {d} {δ} : asgoK i (some (.ok d δ)) = some (.nx (δ.set i (.ow d))) := (rfl)
theorem asgoK_2 {i} {x} {δ} : asgoK i (some (.ex x δ)) = some (.ex x δ) := (rfl)
theorem asgoK_3 {i} : asgoK i (none) = none := (rfl)
theorem parK_1 {i} {j} {a} {b} {δ} : parK i j (some (.ok [a, b] δ)) = some (.nx ((δ.set i (.fr a)).set j (.fr b))) := (rfl)
theorem parK_2 {i} {j} {x} {δ} : parK i j (some (.ex x δ)) = some (.ex x δ) := (rfl)
theorem gscK_1 {b} {r} {δ} : gscK b r (some δ) = b r δ := (rfl)
theorem gscK_2 {b} {r} : gscK b r (none) = none := (rfl)
theorem itK_1 {f} {as} {δ} : itK f (some (.ok as δ)) = liftK (f as) δ := (rfl)
theorem itK_2 {f} {x} {δ} : itK f (some (.ex x δ)) = some (.ex x δ) := (rfl)
theorem itK_3 {f} : itK f (none) = none := (rfl)
theorem sqK_1 {ds} {δ} : sqK  (some (.ok (.lst ds) δ)) = some (.ok ds δ) := (rfl)
theorem sqK_2 {x} {δ} : sqK  (some (.ex x δ)) = some (.ex x δ) := (rfl)
theorem tqK_1 {ds} {δ} : tqK  (some (.ok (.tup ds) δ)) = some (.ok ds δ) := (rfl)
theorem tqK_2 {x} {δ} : tqK  (some (.ex x δ)) = some (.ex x δ) := (rfl)
theorem sbK_1 {i} {δ} {ds} : sbK i δ (some (.bo (.lst ds))) = some (.ok ds δ) := (rfl)
theorem sbK_2 {i} {δ} {ds} : sbK i δ (some (.fr (.lst ds))) = some (.ok ds δ) := (rfl)
theorem sbK_3 {i} {δ} {ds} : sbK i δ (some (.ow (.lst ds))) = some (.ok ds (δ.set i (.fr (.lst ds)))) := (rfl)
theorem enK_1 {i} {δ} {ds} : enK i δ (some (.bo (.lst ds))) = some (.ok (enumD ds) δ) := (rfl)
theorem enK_2 {i} {δ} {ds} : enK i δ (some (.fr (.lst ds))) = some (.ok (enumD ds) δ) := (rfl)
theorem enK_3 {i} {δ} {ds} : enK i δ (some (.fr (.tup ds))) = some (.ok (enumD ds) δ) := (rfl)
theorem enK_4 {i} {δ} {ds} : enK i δ (some (.ow (.lst ds))) = some (.ok (enumD ds) (δ.set i (.fr (.lst ds)))) := (rfl)
theorem enK_5 {i} {δ} {ds} : enK i δ (some (.ow (.tup ds))) = some (.ok (enumD ds) (δ.set i (.fr (.tup ds)))) := (rfl)
theorem forK_1 {g} {b} {ds} {δ} : forK g b (some (.ok ds δ)) = forL g b ds δ := (rfl)
theorem forK_2 {g} {b} {x} {δ} : forK g b (some (.ex x δ)) = some (.ex x δ) := (rfl)
theorem forK_3 {g} {b} : forK g b (none) = none := (rfl)
theorem flL_1 {g} {b} {ds} {δ} : flL g b ds (some (.nx δ)) = forL g b ds δ := (rfl)
theorem flL_2 {g} {b} {ds} {δ} : flL g b ds (some (.ct δ)) = forL g b ds δ := (rfl)
theorem flL_3 {g} {b} {ds} {δ} : flL g b ds (some (.bk δ)) = some (.nx δ) := (rfl)
theorem flL_4 {g} {b} {ds} {d} {δ} : flL g b ds (some (.rt d δ)) = some (.rt d δ) := (rfl)
theorem flL_5 {g} {b} {ds} {d} {δ} : flL g b ds (some (.rn d δ)) = some (.rn d δ) := (rfl)
theorem flL_6 {g} {b} {ds} {x} {δ} : flL g b ds (some (.ex x δ)) = some (.ex x δ) := (rfl)
theorem flL_7 {g} {b} {ds} : flL g b ds (none) = none := (rfl)
theorem flK_1 {g} {b} {ds} {δ} : flK g b ds (some δ) = flL g b ds (b δ) := (rfl)
theorem flK_2 {g} {b} {ds} : flK g b ds (none) = none := (rfl)
theorem cpL_1 {ks} {g} {os} {δ} {ds} : cpL ks g os δ (some ds) = if frOk ks os then liftK (g ds) δ else none := (rfl)
theorem cpL_2 {ks} {g} {os} {δ} : cpL ks g os δ (none) = none := (rfl)
theorem cpK_1 {ks} {g} {os} {δ} : cpK ks g (some (.ok os δ)) = cpL ks g os δ (rds os δ) := (rfl)
theorem cpK_2 {ks} {g} {x} {δ} : cpK ks g (some (.ex x δ)) = some (.ex x δ) := (rfl)
theorem cpK_3 {ks} {g} : cpK ks g (none) = none := (rfl)
theorem ownK_1 {d} : ownK  (some (.ow d)) = some (.ow d, d) := (rfl)
theorem ownK_2 {d} : ownK  (some (.io d)) = some (.io d, d) := (rfl)
theorem ciM_1 {i} {δ} {s} {p} : ciM i δ s (some p) = some (.ok p.1 (δ.set i (reown s p.2))) := (rfl)
theorem ciM_2 {i} {δ} {s} : ciM i δ s (none) = none := (rfl)
theorem ciL_1 {i} {ks} {g} {os} {δ} {s} {c} {ds} : ciL i ks g os δ (some (s, c)) (some ds) = if frOk ks os && apart i os then ciM i δ s (g (c :: ds)) else none := (rfl)
theorem ciK_1 {i} {ks} {g} {os} {δ} : ciK i ks g (some (.ok os δ)) = ciL i ks g os δ (ownO δ i) (rds os δ) := (rfl)
theorem ciK_2 {i} {ks} {g} {x} {δ} : ciK i ks g (some (.ex x δ)) = some (.ex x δ) := (rfl)
theorem ciK_3 {i} {ks} {g} : ciK i ks g (none) = none := (rfl)
theorem ciH_1 {i} {ks} {g} {a} {δ} {u0} : ciH i ks g a δ (some u0) = ciK i ks g (a δ) := (rfl)
theorem ciH_2 {i} {ks} {g} {a} {δ} : ciH i ks g a δ (none) = none := (rfl)
theorem mkN_1 {δ} {C} {ns} {es} : mkN δ (some (.non, .ins C ns es)) = some (.ok (.ins C ns es) δ) := (rfl)
theorem mkL_1 {C} {ks} {g} {os} {δ} {ds} : mkL C ks g os δ (some ds) = if frOk ks os then mkN δ (g (.ins C [] [] :: ds)) else none := (rfl)
theorem mkL_2 {C} {ks} {g} {os} {δ} : mkL C ks g os δ (none) = none := (rfl)
theorem mkK_1 {C} {ks} {g} {os} {δ} : mkK C ks g (some (.ok os δ)) = mkL C ks g os δ (rds os δ) := (rfl)
theorem mkK_2 {C} {ks} {g} {x} {δ} : mkK C ks g (some (.ex x δ)) = some (.ex x δ) := (rfl)
theorem mkK_3 {C} {ks} {g} : mkK C ks g (none) = none := (rfl)
theorem olK_1 {ds} : olK  (some (.ow (.lst ds))) = some (.ow (.lst ds), ds) := (rfl)
theorem olK_2 {ds} : olK  (some (.io (.lst ds))) = some (.io (.lst ds), ds) := (rfl)
theorem muN_1 {i} {δ} {s} {nw} {res} : muN i δ s (some (nw, res)) = some (.ok res (δ.set i (reown s (.lst nw)))) := (rfl)
theorem muN_2 {i} {δ} {s} : muN i δ s (none) = none := (rfl)
theorem muL_1 {f} {i} {as} {δ} {s} {ds} : muL f i as δ (some (s, ds)) = muN i δ s (f ds as) := (rfl)
theorem muL_2 {f} {i} {as} {δ} : muL f i as δ (none) = none := (rfl)
theorem muK_1 {f} {i} {as} {δ} : muK f i (some (.ok as δ)) = muL f i as δ (ownL δ i) := (rfl)
theorem muK_2 {f} {i} {x} {δ} : muK f i (some (.ex x δ)) = some (.ex x δ) := (rfl)
theorem muK_3 {f} {i} : muK f i (none) = none := (rfl)
theorem muH_1 {f} {i} {a} {δ} {u0} : muH f i a δ (some u0) = muK f i (a δ) := (rfl)
theorem muH_2 {f} {i} {a} {δ} : muH f i a δ (none) = none := (rfl)
theorem puN_1 {i} {d} {δ} {s} {ds} {m} : puN i d δ s ds (some m) = some (.nx (δ.set i (reown s (.lst (ds.set m d))))) := (rfl)
theorem puN_2 {i} {d} {δ} {s} {ds} : puN i d δ s ds (none) = none := (rfl)
theorem puM_1 {i} {d} {n} {δ} {s} {ds} : puM i d n δ (some (s, ds)) = puN i d δ s ds (ixN ds.length n) := (rfl)
theorem puM_2 {i} {d} {n} {δ} : puM i d n δ (none) = none := (rfl)
theorem puL_1 {i} {d} {n} {δ} : puL i d (some (.ok (.int n) δ)) = puM i d n δ (ownL δ i) := (rfl)
theorem puL_2 {i} {d} {x} {δ} : puL i d (some (.ex x δ)) = some (.ex x δ) := (rfl)
theorem puH_1 {i} {d} {mi} {δ} {u0} : puH i d mi δ (some u0) = puL i d (mi δ) := (rfl)
theorem puH_2 {i} {d} {mi} {δ} : puH i d mi δ (none) = none := (rfl)
theorem puK_1 {i} {mi} {d} {δ} : puK i mi (some (.ok d δ)) = puH i d mi δ (ownL δ i) := (rfl)
theorem puK_2 {i} {mi} {x} {δ} : puK i mi (some (.ex x δ)) = some (.ex x δ) := (rfl)
theorem puK_3 {i} {mi} : puK i mi (none) = none := (rfl)
theorem oiK_1 {C} {ns} {ds} : oiK  (some (.ow (.ins C ns ds))) = some (.ow (.ins C ns ds), C, ns, ds) := (rfl)
theorem oiK_2 {C} {ns} {ds} : oiK  (some (.io (.ins C ns ds))) = some (.io (.ins C ns ds), C, ns, ds) := (rfl)
theorem sfL_1 {C} {i} {f} {d} {δ} {s} {C'} {ns} {ds} : sfL C i f d δ (some (s, C', ns, ds)) = if C' = C ∧ ns.length < 100 ∧ f ∉ ns then some (.nx (δ.set i (reown s (.ins C (ns ++ [f]) (ds ++ [d]))))) else none := (rfl)
theorem sfL_2 {C} {i} {f} {d} {δ} : sfL C i f d δ (none) = none := (rfl)
theorem sfK_1 {C} {i} {f} {d} {δ} : sfK C i f (some (.ok d δ)) = sfL C i f d δ (ownI δ i) := (rfl)
theorem sfK_2 {C} {i} {f} {x} {δ} : sfK C i f (some (.ex x δ)) = some (.ex x δ) := (rfl)
theorem sfK_3 {C} {i} {f} : sfK C i f (none) = none := (rfl)
theorem psK_1 {i} {δ} : psK  (some (.ok (.int i) δ)) = some (.ok (some i) δ) := (rfl)
theorem psK_2 {x} {δ} : psK  (some (.ex x δ)) = some (.ex x δ) := (rfl)
theorem slN_1 {f} {lo} {hi} {δ} {d} : slN f lo hi δ (some d) = liftK (f d lo hi) δ := (rfl)
theorem slN_2 {f} {lo} {hi} {δ} : slN f lo hi δ (none) = none := (rfl)
theorem slM_1 {f} {o} {lo} {hi} {δ} : slM f o lo (some (.ok hi δ)) = slN f lo hi δ (rd o δ) := (rfl)
theorem slM_2 {f} {o} {lo} {x} {δ} : slM f o lo (some (.ex x δ)) = some (.ex x δ) := (rfl)
theorem slM_3 {f} {o} {lo} : slM f o lo (none) = none := (rfl)
theorem slL_1 {f} {o} {u} {lo} {δ} : slL f o u (some (.ok lo δ)) = slM f o lo (u δ) := (rfl)
theorem slL_2 {f} {o} {u} {x} {δ} : slL f o u (some (.ex x δ)) = some (.ex x δ) := (rfl)
theorem slL_3 {f} {o} {u} : slL f o u (none) = none := (rfl)
theorem slK_1 {f} {l} {u} {o} {δ} : slK f l u (some (.ok o δ)) = slL f o u (l δ) := (rfl)
theorem slK_2 {f} {l} {u} {x} {δ} : slK f l u (some (.ex x δ)) = some (.ex x δ) := (rfl)
theorem slK_3 {f} {l} {u} : slK f l u (none) = none := (rfl)
theorem cnM_1 {k} {δ} {d} {e} : cnM k δ (some d) (some e) = liftK (if kindD d = some k then cntD d e else none) δ := (rfl)
theorem cnL_1 {o} {k} {q} {δ} : cnL o k (some (.ok q δ)) = cnM k δ (rd o δ) (rd q δ) := (rfl)
theorem cnL_2 {o} {k} {x} {δ} : cnL o k (some (.ex x δ)) = some (.ex x δ) := (rfl)
theorem cnL_3 {o} {k} : cnL o k (none) = none := (rfl)
theorem cnJ_1 {b} {o} {δ} {k} : cnJ b o δ (some k) = cnL o k (b δ) := (rfl)
theorem cnJ_2 {b} {o} {δ} : cnJ b o δ (none) = none := (rfl)
theorem cnI_1 {b} {o} {δ} {d} : cnI b o δ (some d) = cnJ b o δ (kindD d) := (rfl)
theorem cnI_2 {b} {o} {δ} : cnI b o δ (none) = none := (rfl)
theorem cnK_1 {b} {o} {δ} : cnK b (some (.ok o δ)) = cnI b o δ (rd o δ) := (rfl)
theorem cnK_2 {b} {x} {δ} : cnK b (some (.ex x δ)) = some (.ex x δ) := (rfl)
theorem cnK_3 {b} : cnK b (none) = none := (rfl)
theorem gD_1 {d} {u0} : gD  (some (.rt d u0)) = some d := (rfl)
theorem gD_2 {u0} : gD  (some (.nx u0)) = some .non := (rfl)
theorem io0K_1 {d} {e} : io0K d (some (.io e)) = some (d, e) := (rfl)
theorem gI_1 {d} {δ} : gI  (some (.rt d δ)) = io0K d δ[(0 : Nat)]? := (rfl)
theorem gI_2 {δ} : gI  (some (.nx δ)) = io0K .non δ[(0 : Nat)]? := (rfl)
theorem gNw_1 {d} {u0} : gNw  (some (.rn d u0)) = some d := (rfl)
theorem isB_str_non  : isB "str" .non = some (.bl false) := (rfl)
theorem isB_str_bl {z : Bool} : isB "str" (.bl z) = some (.bl false) := (rfl)
theorem isB_str_int {z : Int} : isB "str" (.int z) = some (.bl false) := (rfl)
theorem isB_str_str {z : Str} : isB "str" (.str z) = some (.bl true) := (rfl)
theorem isB_str_tup {z : List D} : isB "str" (.tup z) = some (.bl false) := (rfl)
theorem isB_str_lst {z : List D} : isB "str" (.lst z) = some (.bl false) := (rfl)
theorem isB_str_dk {z : List Key} {y : List D} : isB "str" (.dk z y) = some (.bl false) := (rfl)
theorem isB_list_non  : isB "list" .non = some (.bl false) := (rfl)
theorem isB_list_bl {z : Bool} : isB "list" (.bl z) = some (.bl false) := (rfl)
theorem isB_list_int {z : Int} : isB "list" (.int z) = some (.bl false) := (rfl)
theorem isB_list_str {z : Str} : isB "list" (.str z) = some (.bl false) := (rfl)
theorem isB_list_tup {z : List D} : isB "list" (.tup z) = some (.bl false) := (rfl)
theorem isB_list_lst {z : List D} : isB "list" (.lst z) = some (.bl true) := (rfl)
theorem isB_list_dk {z : List Key} {y : List D} : isB "list" (.dk z y) = some (.bl false) := (rfl)
theorem isB_tuple_non  : isB "tuple" .non = some (.bl false) := (rfl)
theorem isB_tuple_bl {z : Bool} : isB "tuple" (.bl z) = some (.bl false) := (rfl)
theorem isB_tuple_int {z : Int} : isB "tuple" (.int z) = some (.bl false) := (rfl)
theorem isB_tuple_str {z : Str} : isB "tuple" (.str z) = some (.bl false) := (rfl)
theorem isB_tuple_tup {z : List D} : isB "tuple" (.tup z) = some (.bl true) := (rfl)
theorem isB_tuple_lst {z : List D} : isB "tuple" (.lst z) = some (.bl false) := (rfl)
theorem isB_tuple_dk {z : List Key} {y : List D} : isB "tuple" (.dk z y) = some (.bl false) := (rfl)
theorem isB_int_non  : isB "int" .non = some (.bl false) := (rfl)
theorem isB_int_bl {z : Bool} : isB "int" (.bl z) = some (.bl true) := (rfl)
theorem isB_int_int {z : Int} : isB "int" (.int z) = some (.bl true) := (rfl)
theorem isB_int_str {z : Str} : isB "int" (.str z) = some (.bl false) := (rfl)
theorem isB_int_tup {z : List D} : isB "int" (.tup z) = some (.bl false) := (rfl)
theorem isB_int_lst {z : List D} : isB "int" (.lst z) = some (.bl false) := (rfl)
theorem isB_int_dk {z : List Key} {y : List D} : isB "int" (.dk z y) = some (.bl false) := (rfl)
theorem isB_bool_non  : isB "bool" .non = some (.bl false) := (rfl)
theorem isB_bool_bl {z : Bool} : isB "bool" (.bl z) = some (.bl true) := (rfl)
theorem isB_bool_int {z : Int} : isB "bool" (.int z) = some (.bl false) := (rfl)
theorem isB_bool_str {z : Str} : isB "bool" (.str z) = some (.bl false) := (rfl)
theorem isB_bool_tup {z : List D} : isB "bool" (.tup z) = some (.bl false) := (rfl)
theorem isB_bool_lst {z : List D} : isB "bool" (.lst z) = some (.bl false) := (rfl)
theorem isB_bool_dk {z : List Key} {y : List D} : isB "bool" (.dk z y) = some (.bl false) := (rfl)
theorem isB_dict_non  : isB "dict" .non = some (.bl false) := (rfl)
theorem isB_dict_bl {z : Bool} : isB "dict" (.bl z) = some (.bl false) := (rfl)
theorem isB_dict_int {z : Int} : isB "dict" (.int z) = some (.bl false) := (rfl)
theorem isB_dict_str {z : Str} : isB "dict" (.str z) = some (.bl false) := (rfl)
theorem isB_dict_tup {z : List D} : isB "dict" (.tup z) = some (.bl false) := (rfl)
theorem isB_dict_lst {z : List D} : isB "dict" (.lst z) = some (.bl false) := (rfl)
theorem isB_dict_dk {z : List Key} {y : List D} : isB "dict" (.dk z y) = some (.bl true) := (rfl)
theorem bK_1 {α β : Type} {f : α → M β} {a : α} {δ : En} : bK f (some (.ok a δ)) = f a δ := (rfl)
theorem sK_1 {α : Type} {f : α → Ms} {a : α} {δ : En} : sK f (some (.ok a δ)) = f a δ := (rfl)
theorem fI0_ii {g : Int → Int → D} {i j : Int} : fI0 g (.int i) (.int j) = some (g i j) := (rfl)
theorem fI_ii {C : Int → Int → Bool} {g : Int → Int → D} {i j : Int} : fI C g (.int i) (.int j) = if C i j then some (g i j) else none := (rfl)
theorem addD_ii {i j : Int} : addD (.int i) (.int j) = some (.int (i + j)) := (rfl)
theorem lenD_lst {ds : List D} : lenD (.lst ds) = some (.int ds.length) := (rfl)
theorem lenD_tup {ds : List D} : lenD (.tup ds) = some (.int ds.length) := (rfl)
theorem tupD_lst {ds : List D} : tupD (.lst ds) = some (.tup ds) := (rfl)
theorem tupD_tup {ds : List D} : tupD (.tup ds) = some (.tup ds) := (rfl)
theorem listD_lst {ds : List D} : listD (.lst ds) = some ds := (rfl)
theorem listD_tup {ds : List D} : listD (.tup ds) = some ds := (rfl)
theorem kindD_lst {ds : List D} : DL.kindD (.lst ds) = some false := (rfl)
theorem kindD_tup {ds : List D} : DL.kindD (.tup ds) = some true := (rfl)
theorem revLD_lst {ds : List D} : revLD (.lst ds) = some ds.reverse := (rfl)
theorem rown_ow {d e : D} : reown (.ow d) e = .ow e := (rfl)
theorem rown_io {d e : D} : reown (.io d) e = .io e := (rfl)
theorem sl_fr {d : D} : PK.sl .fr d = .fr d := (rfl)
theorem sl_bo {d : D} : PK.sl .bo d = .bo d := (rfl)
theorem sl_io {d : D} : PK.sl .io d = .io d := (rfl)
theorem entry_n {ds : List D} : entry [] ds = [] := (rfl)
theorem entry_c {k : PK} {ks : List PK} {d : D} {ds : List D} : entry (k :: ks) (d :: ds) = k.sl d :: entry ks ds := (rfl)
theorem frOk_n : frOk [] [] = true := (rfl)
theorem frOk_f {ks : List PK} {d : D} {os : List Op} : frOk (.fr :: ks) (.val d :: os) = frOk ks os := (rfl)
theorem frOk_b {ks : List PK} {o : Op} {os : List Op} : frOk (.bo :: ks) (o :: os) = frOk ks os := by cases o <;> rfl
theorem apart_n {i : Nat} : apart i [] = true := (rfl)
theorem apart_v {i : Nat} {d : D} {os : List Op} : apart i (.val d :: os) = apart i os := (rfl)
theorem apart_s {i j : Nat} {os : List Op} : apart i (.slot j :: os) = (j != i && apart i os) := (rfl)
end DL

open PySem L2 DL in
local macro_rules
  | `(tactic| simp_arith only [$as,*]) => `(tactic| simp only [lift_e, liftK_s, mC_e, mVar_e, mOv_e, mVal_e, rd_v, rd_s, m1_e, m1K_o, m1L_s, m2_e, m2K_o, m2L_o, m2N_s, lstM_s, mn1_e, mn2_e, maNil_e, maCons_e, acK_o, mdNil_e, mdCons_e, dcK_o, rds_n, rds_c, consO_s, mA_e, mnA_e, aK_o, aL_s, fA1_e, fN1_e, mTup_e, mLst_e, mTest_e, mNot_e, mAnd_e, mOr_e, mAndV_e, mOrV_e, mNotV_e, mIfE_e, mChain_e, mNext_e, mSeq_e, mIf_e, mRet_e, mRetW_e, mRetO_e, mDrop_e, mAsg_e, mAsgO_e, mPar_e, gN_e, gs0_e, gsC_e, gT_e, gTL_e, mIt_e, mSeqOf_e, mTupOf_e, mSeqB_e, mEnumB_e, mFor_e, forL_n, forL_c, mCallP_e, mCallN_e, ownO_e, mCallI_e, mMakeP_e, ownL_e, mMut_e, appF_e, mPutI_e, ownI_e, mSetF_e, mpNone_e, mpSome_e, mSl_e, mCount_e, defG_e, defI_e, defN_e, varK_1, varK_2, ovK_1, ovK_2, ovK_3, ovK_4, valK_1, valK_2, valK_3, datK_1, datK_2, datK_3, datK_4, m1L_1, m1L_2, m1K_1, m1K_2, m1K_3, m2N_1, acL_1, acL_2, acL_3, dcL_1, dcL_2, dcL_3, consO_1, aL_1, aL_2, tupK_1, tupK_2, tupK_3, lstK_1, lstK_2, lstK_3, testK_1, testK_2, notK_1, notK_2, notK_3, andK_1, andK_2, andK_3, andK_4, orK_1, orK_2, orK_3, orK_4, andvK_1, andvK_2, andvK_3, orvK_1, orvK_2, orvK_3, notvK_1, notvK_2, ifeK_1, ifeK_2, ifeK_3, ifeK_4, chN_1, chN_2, chM_1, chL_1, chL_2, chL_3, chK_1, chK_2, chK_3, seqK_1, seqK_2, seqK_3, seqK_4, seqK_5, seqK_6, seqK_7, ifK_1, ifK_2, ifK_3, ifK_4, retK_1, retK_2, retK_3, retwK_1, retwK_2, retwK_3, retoK_1, dropK_1, dropK_2, dropK_3, nxK_1, nxK_2, asgK_1, asgK_2, asgK_3, asgoK_1, asgoK_2, asgoK_3, parK_1, parK_2, gscK_1, gscK_2, itK_1, itK_2, itK_3, sqK_1, sqK_2, tqK_1, tqK_2, sbK_1, sbK_2, sbK_3, enK_1, enK_2, enK_3, enK_4, enK_5, forK_1, forK_2, forK_3, flL_1, flL_2, flL_3, flL_4, flL_5, flL_6, flL_7, flK_1, flK_2, cpL_1, cpL_2, cpK_1, cpK_2, cpK_3, ownK_1, ownK_2, ciM_1, ciM_2, ciL_1, ciK_1, ciK_2, ciK_3, ciH_1, ciH_2, mkN_1, mkL_1, mkL_2, mkK_1, mkK_2, mkK_3, olK_1, olK_2, muN_1, muN_2, muL_1, muL_2, muK_1, muK_2, muK_3, muH_1, muH_2, puN_1, puN_2, puM_1, puM_2, puL_1, puL_2, puH_1, puH_2, puK_1, puK_2, puK_3, oiK_1, oiK_2, sfL_1, sfL_2, sfK_1, sfK_2, sfK_3, psK_1, psK_2, slN_1, slN_2, slM_1, slM_2, slM_3, slL_1, slL_2, slL_3, slK_1, slK_2, slK_3, cnM_1, cnL_1, cnL_2, cnL_3, cnJ_1, cnJ_2, cnI_1, cnI_2, cnK_1, cnK_2, cnK_3, gD_1, gD_2, io0K_1, gI_1, gI_2, gNw_1, isB_str_non, isB_str_bl, isB_str_int, isB_str_str, isB_str_tup, isB_str_lst, isB_str_dk, isB_list_non, isB_list_bl, isB_list_int, isB_list_str, isB_list_tup, isB_list_lst, isB_list_dk, isB_tuple_non, isB_tuple_bl, isB_tuple_int, isB_tuple_str, isB_tuple_tup, isB_tuple_lst, isB_tuple_dk, isB_int_non, isB_int_bl, isB_int_int, isB_int_str, isB_int_tup, isB_int_lst, isB_int_dk, isB_bool_non, isB_bool_bl, isB_bool_int, isB_bool_str, isB_bool_tup, isB_bool_lst, isB_bool_dk, isB_dict_non, isB_dict_bl, isB_dict_int, isB_dict_str, isB_dict_tup, isB_dict_lst, isB_dict_dk, bK_1, sK_1, fI0_ii, fI_ii, addD_ii, lenD_lst, lenD_tup, tupD_lst, tupD_tup, listD_lst, listD_tup, kindD_lst, kindD_tup, revLD_lst, rown_ow, rown_io, sl_fr, sl_bo, sl_io, entry_n, entry_c, frOk_n, frOk_f, frOk_b, apart_n, apart_v, apart_s, startE, List.length_cons, List.length_nil, List.replicate, List.cons_append, List.nil_append, Nat.reduceAdd, Nat.reduceSub, Nat.zero_add, List.getElem?_cons_zero, List.getElem?_cons_succ, List.set_cons_zero, List.set_cons_succ, if_true, if_false, reduceIte, decide_true, decide_false, Bool.not_true, Bool.not_false, Bool.and_self, Bool.true_and, Bool.and_true, Bool.false_eq_true, LB, Nat.reduceLeDiff, Nat.reduceLT, Nat.reduceBNe, Nat.reduceBEq, $as,*])
set_option Elab.async false
set_option linter.all false
set_option maxRecDepth 100000
set_option maxHeartbeats 400000
/-! MAc: loops by an invariant over how far they are. -/
namespace DL
open PySem L2
theorem forL_from {α : Type} (enc : α → D) (g : Mg) (b : Ms) (Inv : Nat → En → Prop) : ∀ (as pre : List α) (δ : En), Inv pre.length δ →
    (∀ (i : Nat) (a : α) δ, (pre ++ as)[i]? = some a → Inv i δ → ∃ δ1 δ2, g (enc a) δ = some δ1 ∧ b δ1 = some (.nx δ2) ∧ Inv (i + 1) δ2) → ∃ δ', forL g b (as.map enc) δ = some (.nx δ') ∧ Inv (pre ++ as).length δ'
  | [], pre, δ, h, _ => ⟨δ, rfl, by rw [List.append_nil]; exact h⟩
  | a :: as, pre, δ, h, hs => by
    have e : pre ++ a :: as = (pre ++ [a]) ++ as := by simp
    obtain ⟨δ1, δ2, h1, h2, h3⟩ := hs pre.length a δ (by simp) h
    obtain ⟨δ', h4, h5⟩ := forL_from enc g b Inv as (pre ++ [a]) δ2 (by simpa using h3) (by rw [← e]; exact hs)
    refine ⟨δ', ?_, by rw [e]; exact h5⟩
    rw [List.map_cons]
    simp only [forL, h1, h2]
    exact h4
/-- a loop over as, by what holds behind i turns -/
theorem forL_ix {α : Type} {enc : α → D} {g : Mg} {b : Ms} {as : List α} (Inv : Nat → En → Prop) {δ : En} (h0 : Inv 0 δ)
    (hs : ∀ (i : Nat) (a : α) δ, as[i]? = some a → Inv i δ → ∃ δ1 δ2, g (enc a) δ = some δ1 ∧ b δ1 = some (.nx δ2) ∧ Inv (i + 1) δ2) : ∃ δ', forL g b (as.map enc) δ = some (.nx δ') ∧ Inv as.length δ' :=
  forL_from enc g b Inv as [] δ h0 hs
theorem lcL_from {α : Type} (enc : α → D) (g : Mg) (t : M Bool) (e : M D) (vs : List Nat) (Inv : Nat → List D → En → Prop) : ∀ (as pre : List α) (acc : List D) (δ : En), Inv pre.length acc δ →
    (∀ (i : Nat) (a : α) acc δ, (pre ++ as)[i]? = some a → Inv i acc δ → ∃ δ1 b δ2, g (enc a) δ = some δ1 ∧ t δ1 = some (.ok b δ2) ∧ (b = false → Inv (i + 1) acc (wipeE δ2 vs)) ∧ (b = true → ∃ y δ3, e δ2 = some (.ok y δ3) ∧ Inv (i + 1) (acc ++ [y]) (wipeE δ3 vs))) →
    ∃ out δ', lcL g t e vs acc (as.map enc) δ = some (.ok out δ') ∧ Inv (pre ++ as).length out δ'
  | [], pre, acc, δ, h, _ => ⟨acc, δ, rfl, by rw [List.append_nil]; exact h⟩
  | a :: as, pre, acc, δ, h, hs => by
    have e' : pre ++ a :: as = (pre ++ [a]) ++ as := by simp
    obtain ⟨δ1, b, δ2, h1, h2, h3, h4⟩ := hs pre.length a acc δ (by simp) h
    cases b with
    | false =>
      obtain ⟨out, δ', h5, h6⟩ := lcL_from enc g t e vs Inv as (pre ++ [a]) acc _ (by simpa using h3 rfl) (by rw [← e']; exact hs)
      refine ⟨out, δ', ?_, by rw [e']; exact h6⟩
      rw [List.map_cons]
      simp only [lcL, h1, h2]
      exact h5
    | true =>
      obtain ⟨y, δ3, h7, h8⟩ := h4 rfl
      obtain ⟨out, δ', h5, h6⟩ := lcL_from enc g t e vs Inv as (pre ++ [a]) (acc ++ [y]) _ (by simpa using h8) (by rw [← e']; exact hs)
      refine ⟨out, δ', ?_, by rw [e']; exact h6⟩
      rw [List.map_cons]
      simp only [lcL, h1, h2, h7]
      exact h5
/-- a comprehension over as, with a test or none, by what holds behind i turns -/
theorem mLc_ix {α : Type} {as : List α} {enc : α → D} {it : M (List D)} {g : Mg} {t : M Bool} {e : M D} {vs : List Nat} {δ δ0 : En} (Inv : Nat → List D → En → Prop) (hit : it δ = some (.ok (as.map enc) δ0)) (h0 : Inv 0 [] (wipeE δ0 vs))
    (hs : ∀ (i : Nat) (a : α) acc δ, as[i]? = some a → Inv i acc δ → ∃ δ1 b δ2, g (enc a) δ = some δ1 ∧ t δ1 = some (.ok b δ2) ∧ (b = false → Inv (i + 1) acc (wipeE δ2 vs)) ∧ (b = true → ∃ y δ3, e δ2 = some (.ok y δ3) ∧ Inv (i + 1) (acc ++ [y]) (wipeE δ3 vs))) :
    ∃ out δ', mLc it g t e vs δ = some (.ok (.lst out) δ') ∧ Inv as.length out δ' := by
  obtain ⟨out, δ', h1, h2⟩ := lcL_from enc g t e vs Inv as [] [] _ h0 hs
  refine ⟨out, δ', ?_, h2⟩
  unfold mLc M.bind
  simp only [hit, h1]
/-- a pure comprehension with a test -/
theorem lcL_filter {α : Type} (enc f : α → D) (p : α → Bool) (g : Mg) (t : M Bool) (e : M D) (vs : List Nat) (ω : En) : ∀ (as : List α) (acc : List D), (∀ a ∈ as, ∃ δ1 δ2, g (enc a) ω = some δ1 ∧ t δ1 = some (.ok (p a) δ2) ∧ wipeE δ2 vs = ω ∧ (p a = true → ∃ δ3, e δ2 = some (.ok (f a) δ3) ∧ wipeE δ3 vs = ω)) →
    lcL g t e vs acc (as.map enc) ω = some (.ok (acc ++ (as.filter p).map f) ω)
  | [], acc, _ => by simp [lcL]
  | a :: as, acc, h => by
    obtain ⟨δ1, δ2, h1, h2, h3, h4⟩ := h a List.mem_cons_self
    rw [List.map_cons]
    have ih := fun acc => lcL_filter enc f p g t e vs ω as acc fun a' m => h a' (List.mem_cons_of_mem _ m)
    cases hp : p a with
    | false =>
      rw [hp] at h2
      simp only [lcL, h1, h2, h3]
      rw [ih, List.filter_cons_of_neg (by simp [hp])]
    | true =>
      rw [hp] at h2
      obtain ⟨δ3, h5, h6⟩ := h4 hp
      simp only [lcL, h1, h2, h5, h6]
      rw [ih, List.filter_cons_of_pos hp, List.map_cons, List.append_assoc]
      rfl
theorem mLc_filter {α : Type} {as : List α} {enc f : α → D} (p : α → Bool) {it : M (List D)} {g : Mg} {t : M Bool} {e : M D} {vs : List Nat} {δ δ0 ω : En} (hit : it δ = some (.ok (as.map enc) δ0)) (hw : wipeE δ0 vs = ω)
    (h : ∀ a ∈ as, ∃ δ1 δ2, g (enc a) ω = some δ1 ∧ t δ1 = some (.ok (p a) δ2) ∧ wipeE δ2 vs = ω ∧ (p a = true → ∃ δ3, e δ2 = some (.ok (f a) δ3) ∧ wipeE δ3 vs = ω)) : mLc it g t e vs δ = some (.ok (.lst ((as.filter p).map f)) ω) := by
  unfold mLc M.bind
  simp only [hit, hw, lcL_filter enc f p g t e vs ω as [] h, List.nil_append]
theorem mulOk_r {i j : Int} (h : -1000000 ≤ j ∧ j ≤ 1000000) : mulOk i j = true := by
  unfold mulOk small64
  simp only [Bool.or_eq_true, Bool.and_eq_true, decide_eq_true_eq]
  right
  omega
end DL

set_option Elab.async false
set_option linter.all false
set_option maxRecDepth 100000
set_option maxHeartbeats 400000
/-! MAd: sorting data: what sortD gives. -/
namespace DL
open PySem L2
open PySem.W (dataLe dataLt alike keyToks)
abbrev dLe : D → D → Bool := dataLe false encD
theorem dLe_eq (a b : D) : dLe a b = !dataLt (encD b) (encD a) := rfl
theorem lt_irr (p : PyData) : dataLt p p = false := PyProof.Rows.lex_irrefl _
theorem lt_tr {p q r : PyData} (h1 : dataLt p q = true) (h2 : dataLt q r = true) : dataLt p r = true := PyProof.Rows.lex_trans _ _ _ h1 h2
theorem lt_tot {p q : PyData} (h1 : dataLt p q = false) (h2 : dataLt q p = false) : keyToks p = keyToks q := PyProof.Rows.lex_total _ _ h1 h2
theorem dLe_total (a b : D) : (dLe a b || dLe b a) = true := by
  rw [dLe_eq, dLe_eq]
  cases h1 : dataLt (encD b) (encD a) with
  | false => rfl
  | true =>
    cases h2 : dataLt (encD a) (encD b) with
    | false => rfl
    | true =>
      have := lt_tr h1 h2
      rw [lt_irr] at this
      cases this
theorem dLe_trans (a b c : D) (h1 : dLe a b = true) (h2 : dLe b c = true) : dLe a c = true := by
  rw [dLe_eq, Bool.not_eq_true'] at *
  cases h3 : dataLt (encD c) (encD a) with
  | false => rfl
  | true =>
    cases h4 : dataLt (encD a) (encD b) with
    | true =>
      have := lt_tr h3 h4
      rw [h2] at this
      cases this
    | false =>
      have e := lt_tot h4 h1
      have : dataLt (encD c) (encD b) = true := by
        unfold dataLt at h3 ⊢
        rw [← e]
        exact h3
      rw [h2] at this
      cases this
theorem sortD_perm (ds : List D) : (sortD ds).Perm ds := List.mergeSort_perm ds _
theorem sortD_sorted (ds : List D) : (sortD ds).Pairwise fun a b => dLe a b = true := List.pairwise_mergeSort dLe_trans dLe_total ds
theorem sortD_of {ds : List D} (h : ds.Pairwise fun a b => dLe a b = true) : sortD ds = ds := List.mergeSort_of_pairwise h
theorem sortD_idem (ds : List D) : sortD (sortD ds) = sortD ds := sortD_of (sortD_sorted ds)
theorem dLe_anti {n : Nat} {a b : D} (ha : Pl n a) (hb : Pl n b) (al : alike (encD a) (encD b) = true) (h1 : dLe a b = true) (h2 : dLe b a = true) : a = b := by
  rw [dLe_eq, Bool.not_eq_true'] at *
  have e := lt_tot h2 h1
  refine (ha.eqv hb).mp ?_
  cases hq : PyData.eqv (encD a) (encD b) with
  | true => rfl
  | false =>
    exfalso
    have t := (PySem.W.toks_eqv (encD a) (encD b) al).2 hq
    have t1 := t [] [Sum.inl 0]
    have t2 := t [Sum.inl 0] []
    rw [← e] at t1 t2
    have k : PyProof.Rows.lexLt PyProof.Rows.itemOrd (keyToks (encD a)) (keyToks (encD a)) = false := PyProof.Rows.lex_irrefl _
    rw [k, List.append_nil] at t1
    have t3 := PySem.W.lex_pre (keyToks (encD a)) [] [Sum.inl 0]
    rw [List.append_nil] at t3
    rw [t3] at t1
    exact absurd t1 (by decide)
theorem sortD_same {n : Nat} {ds es : List D} (p : ds.Perm es) (hp : ∀ d ∈ ds, Pl n d) (al : ∀ d ∈ ds, ∀ e ∈ ds, alike (encD d) (encD e) = true) : sortD ds = sortD es :=
  List.Perm.eq_of_pairwise (fun a b ha hb h1 h2 => dLe_anti (hp a ((sortD_perm ds).mem_iff.mp ha)) (hp b (p.mem_iff.mpr ((sortD_perm es).mem_iff.mp hb))) (al a ((sortD_perm ds).mem_iff.mp ha) b (p.mem_iff.mpr ((sortD_perm es).mem_iff.mp hb))) h1 h2)
    (sortD_sorted ds) (sortD_sorted es) ((sortD_perm ds).trans (p.trans (sortD_perm es).symm))
theorem perm_map {α : Type} {f : α → D} {ds : List D} {as : List α} (p : ds.Perm (as.map f)) : ∃ bs : List α, ds = bs.map f ∧ bs.Perm as := by
  generalize hl : as.map f = l at p
  induction p generalizing as with
  | nil => exact ⟨[], rfl, by have : as = [] := by simpa using hl
                              rw [this]⟩
  | cons x p ih =>
    cases as with
    | nil => cases hl
    | cons a as =>
      rw [List.map_cons] at hl
      cases hl
      obtain ⟨bs, rfl, q⟩ := ih rfl
      exact ⟨a :: bs, rfl, q.cons a⟩
  | swap x y l =>
    cases as with
    | nil => cases hl
    | cons a as =>
      cases as with
      | nil => cases hl
      | cons b as =>
        rw [List.map_cons, List.map_cons] at hl
        cases hl
        exact ⟨b :: a :: as, rfl, List.Perm.swap a b as⟩
  | trans p1 p2 ih1 ih2 =>
    obtain ⟨bs, rfl, q⟩ := ih2 hl
    obtain ⟨bs', rfl, q'⟩ := ih1 rfl
    exact ⟨bs', rfl, q'.trans q⟩
end DL

set_option linter.all false
/-! PGa: plain arithmetic: factorials, products, ways to change about. -/
namespace PG
def fac : Nat → Nat
  | 0 => 1
  | n + 1 => fac n * (n + 1)
theorem fac_pos : ∀ n, 0 < fac n
  | 0 => Nat.one_pos
  | n + 1 => Nat.mul_pos (fac_pos n) (Nat.succ_pos n)
theorem fac_mono {n m : Nat} (h : n ≤ m) : fac n ≤ fac m := by
  induction h with
  | refl => exact Nat.le_refl _
  | step _ ih => exact Nat.le_trans ih (Nat.le_mul_of_pos_right _ (Nat.succ_pos _))
/-- the product -/
def pr : List Nat → Nat
  | [] => 1
  | n :: ns => n * pr ns
theorem pr_app : ∀ xs ys : List Nat, pr (xs ++ ys) = pr xs * pr ys
  | [], ys => (Nat.one_mul _).symm
  | x :: xs, ys => by rw [List.cons_append, pr, pr, pr_app xs ys, Nat.mul_assoc]
theorem pr_one {α : Type} (f : α → Nat) : ∀ xs : List α, (∀ x ∈ xs, f x = 1) → pr (xs.map f) = 1
  | [], _ => rfl
  | x :: xs, h => by rw [List.map_cons, pr, h x List.mem_cons_self, pr_one f xs fun y hy => h y (List.mem_cons_of_mem _ hy)]
theorem pr_congr {α : Type} {f g : α → Nat} {xs : List α} (h : ∀ x ∈ xs, f x = g x) : pr (xs.map f) = pr (xs.map g) := by
  rw [List.map_congr_left h]
section
variable {α : Type} [DecidableEq α]
/-- the ways, one by one: each behind those that are like it -/
def rk : List α → List α → Nat
  | _, [] => 1
  | pre, x :: xs => (1 + pre.count x) * rk (pre ++ [x]) xs
def ways (ns xs : List α) : Nat := pr (ns.map fun n => fac (xs.count n))
/-- the ways of corners and of ends: each corner behind those like it, then its ends -/
def ch {β : Type} [DecidableEq β] (own : α → List β) : List α → List α → Nat
  | _, [] => 1
  | pre, x :: xs => (1 + pre.count x) * rk [] (own x) * ch own (pre ++ [x]) xs
end
end PG

set_option linter.all false
/-! PGb: plain: in how many ways ends fall into pairs. -/
namespace PG
def wtp : Nat → Nat
  | 0 => 1
  | 1 => 0
  | n + 2 => (n + 1) * wtp n
theorem wtp_odd : ∀ n : Nat, n % 2 = 1 → wtp n = 0
  | 0, h => by simp at h
  | 1, _ => rfl
  | n + 2, h => by rw [wtp, wtp_odd n (by omega), Nat.mul_zero]
theorem wtp_le : ∀ n : Nat, wtp n ≤ fac n
  | 0 => Nat.le_refl _
  | 1 => Nat.zero_le _
  | n + 2 => by
    rw [wtp, fac, fac, Nat.mul_comm (fac n), Nat.mul_assoc]
    refine Nat.mul_le_mul_left _ ?_
    exact Nat.le_trans (wtp_le n) (Nat.le_mul_of_pos_right _ (by omega))
theorem fac_add : ∀ a b : Nat, fac a * fac b ≤ fac (a + b)
  | a, 0 => by rw [fac, Nat.mul_one]; exact Nat.le_refl _
  | a, b + 1 => by
    rw [fac, ← Nat.mul_assoc, ← Nat.add_assoc, fac]
    exact Nat.mul_le_mul (fac_add a b) (by omega)
section
variable {α : Type} [DecidableEq α]
/-- one row's share -/
def shr (lt : α → α → Bool) (ss : List α) (r : α × α) : Nat := if r.1 = r.2 then wtp (ss.count r.1) else if lt r.1 r.2 then fac (ss.count r.1) * (if ss.count r.2 = ss.count r.1 then 1 else 0) else 1
def cntW (lt : α → α → Bool) (rows : List (α × α)) (ss : List α) : Nat := pr (rows.map (shr lt ss))
theorem shr_le (lt : α → α → Bool) (ss : List α) (r : α × α) : shr lt ss r ≤ fac (ss.count r.1) := by
  unfold shr
  split
  · exact wtp_le _
  · split
    · split
      · rw [Nat.mul_one]; exact Nat.le_refl _
      · rw [Nat.mul_zero]; exact Nat.zero_le _
    · exact fac_pos _
/-- the sum of counts -/
def tot (rows : List (α × α)) (ss : List α) : Nat := (rows.map fun r => ss.count r.1).sum
theorem pr_tot (lt : α → α → Bool) (ss : List α) : ∀ rows : List (α × α), pr (rows.map (shr lt ss)) ≤ fac (tot rows ss)
  | [] => Nat.le_refl _
  | r :: rows => by
    rw [List.map_cons, pr]
    have e : tot (r :: rows) ss = ss.count r.1 + tot rows ss := by simp [tot]
    rw [e]
    exact Nat.le_trans (Nat.mul_le_mul (shr_le lt ss r) (pr_tot lt ss rows)) (fac_add _ _)
theorem tot_le : ∀ (rows : List (α × α)) (ss : List α), (rows.map (·.1)).Nodup → tot rows ss ≤ ss.length
  | [], ss, _ => Nat.zero_le _
  | r :: rows, ss, nd => by
    have nd' := List.nodup_cons.mp nd
    have e : tot (r :: rows) ss = ss.count r.1 + tot rows ss := by simp [tot]
    have h1 : tot rows ss = tot rows (ss.filter (· != r.1)) := by
      unfold tot
      congr 1
      refine List.map_congr_left fun q hq => ?_
      have hne : q.1 ≠ r.1 := fun z => nd'.1 (List.mem_map.mpr ⟨q, hq, z⟩)
      rw [List.count_filter (by simpa using hne)]
    have h2 := tot_le rows (ss.filter (· != r.1)) nd'.2
    have h3 : ss.count r.1 + (ss.filter (· != r.1)).length = ss.length := by
      rw [List.count_eq_countP, ← List.countP_eq_length_filter]
      have := List.length_eq_countP_add_countP (p := fun x => x == r.1) (l := ss)
      rw [this]
      congr 1
      refine List.countP_congr fun a _ => ?_
      simp [bne]
    omega
theorem pr_swap1 {β : Type} {f g : β → Nat} {k : Nat} : ∀ {rows : List β} {q : β}, rows.Nodup → q ∈ rows → f q = k * g q → (∀ r ∈ rows, r ≠ q → f r = g r) → pr (rows.map f) = k * pr (rows.map g)
  | r :: rows, q, nd, hq, h1, h2 => by
    have nd' := List.nodup_cons.mp nd
    rw [List.map_cons, List.map_cons, pr, pr]
    rcases List.mem_cons.mp hq with e | e
    · subst e
      rw [h1, pr_congr fun r hr => h2 r (List.mem_cons_of_mem _ hr) fun z => nd'.1 (z ▸ hr), Nat.mul_assoc]
    · have hne : r ≠ q := fun z => nd'.1 (z ▸ e)
      rw [h2 r List.mem_cons_self hne, pr_swap1 nd'.2 e h1 fun r hr => h2 r (List.mem_cons_of_mem _ hr), Nat.mul_left_comm]
/-- going on from end to end -/
def waysN (pt : α → α) : Nat → List α → Nat
  | 0, _ => 1
  | _ + 1, [] => 1
  | n + 1, x :: r => r.count (pt x) * waysN pt n (r.erase (pt x))
theorem ways_cnt (lt : α → α → Bool) (rows : List (α × α)) (pt : α → α) (nd : (rows.map (·.1)).Nodup) (hpt : ∀ r ∈ rows, pt r.1 = r.2) (mu : ∀ r ∈ rows, (r.2, r.1) ∈ rows) (tr : ∀ a b, a ≠ b → (lt a b = true ↔ ¬ lt b a = true)) :
    ∀ (n : Nat) (ss : List α), ss.length ≤ n → (∀ s ∈ ss, s ∈ rows.map (·.1)) → waysN pt n ss = cntW lt rows ss := by
  have nd1 : rows.Nodup := List.Pairwise.of_map (·.1) (fun a b h e => h (by rw [e])) nd
  have uniq : ∀ r ∈ rows, ∀ q ∈ rows, r.1 = q.1 → r = q := fun r hr q hq e => by
    have h1 := hpt r hr
    have h2 := hpt q hq
    rw [e, h2] at h1
    exact Prod.ext e h1.symm
  have nilc : cntW lt rows [] = 1 := by
    refine pr_one _ rows fun r _ => ?_
    unfold shr
    simp [wtp, fac]
  intro n
  induction n with
  | zero =>
    intro ss hl _
    have : ss = [] := List.length_eq_zero_iff.mp (by omega)
    subst this
    rw [nilc]
    rfl
  | succ n ih =>
    intro ss hl hm
    cases ss with
    | nil => rw [nilc]; rfl
    | cons x r =>
      obtain ⟨q, hq, eq⟩ := List.mem_map.mp (hm x List.mem_cons_self)
      have px : pt x = q.2 := by rw [← eq]; exact hpt q hq
      rw [waysN, px]
      have hl' : (r.erase q.2).length ≤ n := by
        have := List.length_erase_le (a := q.2) (l := r)
        simp only [List.length_cons] at hl
        omega
      have hm' : ∀ s ∈ r.erase q.2, s ∈ rows.map (·.1) := fun s hs => hm s (List.mem_cons_of_mem _ (List.mem_of_mem_erase hs))
      rw [ih (r.erase q.2) hl' hm']
      unfold cntW
      symm
      have q1 : q.1 = x := eq
      by_cases e : q.1 = q.2
      · -- its own partner
        refine pr_swap1 nd1 hq ?_ fun p hp hne => ?_
        · unfold shr
          rw [if_pos e, if_pos e, ← e, q1, List.count_cons_self, List.count_erase_self]
          cases hc : r.count x with
          | zero => rw [Nat.zero_mul]; rfl
          | succ k => rw [wtp, Nat.add_sub_cancel]
        · have h1 : p.1 ≠ x := fun z => hne (uniq p hp q hq (z.trans q1.symm))
          have h2 : p.2 ≠ x := fun z => by
            have hz := mu p hp
            rw [z] at hz
            have := uniq _ hz q hq q1.symm
            have e3 : p.1 = q.2 := congrArg Prod.snd this
            exact h1 (e3.trans (e.symm.trans q1))
          unfold shr
          rw [← e, q1, List.count_cons_of_ne (Ne.symm h1), List.count_cons_of_ne (Ne.symm h2), List.count_erase_of_ne h1, List.count_erase_of_ne h2]
      · -- two sorts
        have q2 : (q.2, q.1) ∈ rows := mu q hq
        have hxp : q.2 ≠ x := fun z => e (q1.trans z.symm)
        -- counts
        have cx : (x :: r).count x = r.count x + 1 := List.count_cons_self
        have cp : (x :: r).count q.2 = r.count q.2 := List.count_cons_of_ne (Ne.symm hxp)
        have dx : (r.erase q.2).count x = r.count x := List.count_erase_of_ne (Ne.symm hxp)
        have dp : (r.erase q.2).count q.2 = r.count q.2 - 1 := List.count_erase_self
        have oth : ∀ p ∈ rows, p ≠ q → p ≠ (q.2, q.1) → shr lt (x :: r) p = shr lt (r.erase q.2) p := fun p hp n1 n2 => by
          have h1 : p.1 ≠ x := fun z => n1 (uniq p hp q hq (z.trans q1.symm))
          have h2 : p.1 ≠ q.2 := fun z => n2 (uniq p hp _ q2 z)
          have h3 : p.2 ≠ x := fun z => by
            have hz := mu p hp
            rw [z] at hz
            have := uniq _ hz q hq q1.symm
            exact h2 (congrArg Prod.snd this)
          have h4 : p.2 ≠ q.2 := fun z => by
            have hz := mu p hp
            rw [z] at hz
            have := uniq _ hz _ q2 rfl
            exact h1 ((congrArg Prod.snd this).trans q1)
          unfold shr
          rw [List.count_cons_of_ne (Ne.symm h1), List.count_cons_of_ne (Ne.symm h3), List.count_erase_of_ne h2, List.count_erase_of_ne h4]
        by_cases lq : lt q.1 q.2 = true
        · have ln : ¬ lt q.2 q.1 = true := (tr _ _ e).mp lq
          refine pr_swap1 nd1 hq ?_ fun p hp hne => ?_
          · unfold shr
            rw [if_neg e, if_neg e, if_pos lq, if_pos lq, q1, cx, cp, dx, dp]
            cases hc : r.count q.2 with
            | zero => rw [Nat.zero_mul, if_neg (by omega), Nat.mul_zero]
            | succ k =>
              rw [Nat.add_sub_cancel]
              by_cases hk : k = r.count x
              · rw [if_pos (by omega), if_pos hk, fac, ← hk, Nat.mul_one, Nat.mul_one, Nat.mul_comm]
              · rw [if_neg (by omega), if_neg hk, Nat.mul_zero, Nat.mul_zero, Nat.mul_zero]
          · by_cases hn2 : p = (q.2, q.1)
            · subst hn2
              unfold shr
              rw [if_neg (Ne.symm e), if_neg (Ne.symm e), if_neg ln, if_neg ln]
            · exact oth p hp hne hn2
        · have ly : lt q.2 q.1 = true := by
            by_cases z : lt q.2 q.1 = true
            · exact z
            · exact absurd ((tr _ _ e).mpr z) lq
          refine pr_swap1 nd1 q2 ?_ fun p hp hne => ?_
          · unfold shr
            rw [if_neg (Ne.symm e), if_neg (Ne.symm e), if_pos ly, if_pos ly, q1, cx, cp, dx, dp]
            cases hc : r.count q.2 with
            | zero => rw [Nat.zero_mul, if_neg (by omega), Nat.mul_zero]
            | succ k =>
              rw [Nat.add_sub_cancel]
              by_cases hk : r.count x = k
              · rw [if_pos (by omega), if_pos hk, fac, Nat.mul_one, Nat.mul_one, Nat.mul_comm]
              · rw [if_neg (by omega), if_neg hk, Nat.mul_zero, Nat.mul_zero, Nat.mul_zero]
          · by_cases hn2 : p = q
            · subst hn2
              unfold shr
              rw [if_neg e, if_neg e, if_neg lq, if_neg lq]
            · exact oth p hp hn2 hne
end
end PG

set_option linter.all false
/-! PGc: plain: ways when one is taken away; sums over kinds. -/
namespace PG
section
variable {α : Type} [DecidableEq α]
theorem cntW_perm (lt : α → α → Bool) (rows : List (α × α)) {xs ys : List α} (p : xs.Perm ys) : cntW lt rows xs = cntW lt rows ys := by
  unfold cntW
  refine pr_congr fun r _ => ?_
  unfold shr
  rw [p.count_eq, p.count_eq]
end
end PG

set_option linter.all false
/-! PGd: plain Lean: how many unlike ones a list has; marks tied together; rings. -/
namespace PG
section
variable {α : Type} [DecidableEq α]
def dp : List α → List α
  | [] => []
  | x :: r => if x ∈ r then dp r else x :: dp r
theorem mem_dp {x : α} : ∀ {m : List α}, x ∈ dp m ↔ x ∈ m
  | [] => Iff.rfl
  | y :: r => by
    unfold dp
    by_cases h : y ∈ r
    · rw [if_pos h, mem_dp, List.mem_cons]
      exact ⟨Or.inr, fun z => z.elim (fun e => e ▸ h) id⟩
    · rw [if_neg h, List.mem_cons, List.mem_cons, mem_dp]
theorem nodup_dp : ∀ (m : List α), (dp m).Nodup
  | [] => List.nodup_nil
  | y :: r => by
    unfold dp
    by_cases h : y ∈ r
    · rw [if_pos h]; exact nodup_dp r
    · rw [if_neg h]; exact List.nodup_cons.mpr ⟨fun z => h (mem_dp.mp z), nodup_dp r⟩
theorem len_le_of {xs ys : List α} (h : xs.Nodup) (s : ∀ x ∈ xs, x ∈ ys) : xs.length ≤ ys.length := by
  induction xs generalizing ys with
  | nil => exact Nat.zero_le _
  | cons a xs ih =>
    have ha : a ∈ ys := s a List.mem_cons_self
    have hn := List.nodup_cons.mp h
    have := ih hn.2 (ys := ys.erase a) fun x hx => (List.mem_erase_of_ne fun e => hn.1 (by rw [← e]; exact hx)).mpr (s x (List.mem_cons_of_mem _ hx))
    rw [List.length_erase_of_mem ha] at this
    have := List.length_pos_of_mem ha
    rw [List.length_cons]
    omega
/-- how many unlike ones there are -/
def nd (m : List α) : Nat := (dp m).length
theorem nd_of {u m : List α} (h : u.Nodup) (hm : ∀ x, x ∈ u ↔ x ∈ m) : nd m = u.length :=
  Nat.le_antisymm (len_le_of (nodup_dp m) fun x hx => (hm x).mpr (mem_dp.mp hx)) (len_le_of h fun x hx => mem_dp.mpr ((hm x).mp hx))
end
/-- marks x and y tied: the higher one is called as the lower -/
def tie (m : List Int) (x y : Int) : List Int := m.map fun z => if z = max x y then min x y else z
theorem tie_len (m : List Int) (x y : Int) : (tie m x y).length = m.length := List.length_map ..
end PG

set_option linter.all false
/-! PGe: plain Lean: marks tied join by join; how many joins tie what is tied already; two drawings beside one another. -/
namespace PG
def runM : List (Nat × Nat) → List Int → List Int
  | [], m => m
  | p :: ps, m => runM ps (tie m (m.getD p.1 0) (m.getD p.2 0))
theorem getD_mem {m : List Int} {a : Nat} (h : a < m.length) : m.getD a 0 ∈ m := by
  rw [List.getD_eq_getElem?_getD, List.getElem?_eq_getElem h]
  exact List.getElem_mem h
end PG

set_option linter.all false
/-! PGf: plain Lean: marks and the groups that hang together; a search from place to place. -/
namespace PG
/-- marks: of each place the least one with which it hangs together -/
structure MarkOk (n : Nat) (m : List Int) : Prop where
  len : m.length = n
  lo : ∀ p, p < n → 0 ≤ m.getD p 0 ∧ m.getD p 0 ≤ (p : Int)
  fx : ∀ p, p < n → m.getD (m.getD p 0).toNat 0 = m.getD p 0
theorem getD_map {m : List Int} {f : Int → Int} {p : Nat} (h : p < m.length) : (m.map f).getD p 0 = f (m.getD p 0) := by
  rw [List.getD_eq_getElem?_getD, List.getD_eq_getElem?_getD, List.getElem?_map, List.getElem?_eq_getElem h]
  rfl
theorem tie_getD {m : List Int} {x y : Int} {p : Nat} (h : p < m.length) : (tie m x y).getD p 0 = if m.getD p 0 = max x y then min x y else m.getD p 0 := getD_map h
theorem mx_mn (x y : Int) : (max x y = x ∧ min x y = y) ∨ (max x y = y ∧ min x y = x) := by omega
theorem MarkOk.tie {n : Nat} {m : List Int} (h : MarkOk n m) {a b : Nat} (ha : a < n) (hb : b < n) : MarkOk n (tie m (m.getD a 0) (m.getD b 0)) := by
  have la := h.lo a ha
  have lb := h.lo b hb
  have fa := h.fx a ha
  have fb := h.fx b hb
  obtain ⟨x, hx⟩ : ∃ x, x = m.getD a 0 := ⟨_, rfl⟩
  obtain ⟨y, hy⟩ : ∃ y, y = m.getD b 0 := ⟨_, rfl⟩
  rw [← hx] at la fa ⊢
  rw [← hy] at lb fb ⊢
  have fmn : m.getD (min x y).toNat 0 = min x y := by rcases mx_mn x y with ⟨_, e⟩ | ⟨_, e⟩ <;> rw [e] <;> assumption
  refine ⟨by rw [tie_len]; exact h.len, fun p hp => ?_, fun p hp => ?_⟩
  · rw [tie_getD (by rw [h.len]; exact hp)]
    have := h.lo p hp
    split <;> omega
  · have lp := h.lo p hp
    have ep : (PG.tie m x y).getD p 0 = if m.getD p 0 = max x y then min x y else m.getD p 0 := tie_getD (by rw [h.len]; exact hp)
    by_cases e : m.getD p 0 = max x y
    · rw [if_pos e] at ep
      rw [ep, tie_getD (by rw [h.len]; omega), fmn]
      split <;> rfl
    · rw [if_neg e] at ep
      rw [ep, tie_getD (by rw [h.len]; omega), h.fx p hp, if_neg e]
theorem MarkOk.run {n : Nat} : ∀ {ps : List (Nat × Nat)} {m : List Int}, MarkOk n m → (∀ p ∈ ps, p.1 < n ∧ p.2 < n) → MarkOk n (runM ps m)
  | [], m, h, _ => h
  | p :: ps, m, h, hp => by
    unfold runM
    have h1 := hp p List.mem_cons_self
    exact MarkOk.run (h.tie h1.1 h1.2) fun q hq => hp q (List.mem_cons_of_mem _ hq)
/-- the least places of the groups -/
def heads (n : Nat) (m : List Int) : List Nat := (List.range n).filter fun p => decide (m.getD p 0 = (p : Int))
theorem mem_heads {n : Nat} {m : List Int} {p : Nat} : p ∈ heads n m ↔ p < n ∧ m.getD p 0 = (p : Int) := by
  unfold heads; rw [List.mem_filter, List.mem_range, decide_eq_true_eq]
theorem MarkOk.mem {n : Nat} {m : List Int} (h : MarkOk n m) (z : Int) : z ∈ m ↔ 0 ≤ z ∧ z.toNat ∈ heads n m := by
  constructor
  · intro hz
    obtain ⟨i, hi, e⟩ := List.mem_iff_getElem.mp hz
    have hi' : i < n := by rw [← h.len]; exact hi
    have e' : m.getD i 0 = z := by rw [List.getD_eq_getElem?_getD, List.getElem?_eq_getElem hi]; exact e
    have l := h.lo i hi'
    have f := h.fx i hi'
    rw [e'] at l f
    exact ⟨l.1, mem_heads.mpr ⟨by omega, by rw [f]; omega⟩⟩
  · rintro ⟨h0, hz⟩
    obtain ⟨h1, h2⟩ := mem_heads.mp hz
    have : z = m.getD z.toNat 0 := by rw [h2]; omega
    rw [this]
    exact getD_mem (by rw [h.len]; exact h1)
theorem MarkOk.nd {n : Nat} {m : List Int} (h : MarkOk n m) : nd m = (heads n m).length := by
  have e : (heads n m).length = ((heads n m).map fun p : Nat => (p : Int)).length := (List.length_map ..).symm
  rw [e]
  refine nd_of ?_ fun z => ?_
  · refine List.Pairwise.map _ ?_ ((List.nodup_range (n := n)).filter _)
    intro a b h z
    exact h (by omega)
  · rw [h.mem z, List.mem_map]
    constructor
    · rintro ⟨p, hp, rfl⟩
      exact ⟨by omega, by rw [Int.toNat_natCast]; exact hp⟩
    · rintro ⟨h0, hp⟩
      exact ⟨z.toNat, hp, by omega⟩
structure RowOk (n : Nat) (S : Nat → Prop) (row : List Nat) : Prop where
  nd : row.Nodup
  lt : ∀ x ∈ row, x < n
  s : ∀ x ∈ row, S x
theorem RowOk.len {n : Nat} {S : Nat → Prop} {row : List Nat} (h : RowOk n S row) : row.length ≤ n := by
  have := len_le_of h.nd (ys := List.range n) fun x hx => List.mem_range.mpr (h.lt x hx)
  rwa [List.length_range] at this
end PG

set_option Elab.async false
set_option linter.all false
set_option maxRecDepth 100000
set_option maxHeartbeats 400000
/-! PMa: printed by gen.py: what the defs on stocks, and the laws' drawing helpers, compute. -/
namespace G
open PySem L2 DL
structure Cs where
  stock : Addr
  drawing : Addr
  weights : Addr
  desk : Addr
  x : Nat → Addr
  w : World
abbrev N_is_name : List Str := ["thing", "letter"]
def E_is_name_0 (c : Cs) : M D := m2 (inSignD false) (mOv 1) (mVal (mC (.str "abcdefghijklmnopqrstuvwxyz")))
def L_is_name_0 (c : Cs) : M D := mLc (mTxtOf (mVar 0)) (gN 1) mYes (E_is_name_0 c) [1]
def m_is_name (c : Cs) : Ms := mSeq (mIf (mOr (mNot (mTest (m1 (isB "str") (mOv 0)))) (mNot (mTest (mChain (fI0 fun i j => .bl (decide (i ≤ j))) (fI0 fun i j => .bl (decide (i ≤ j))) (mVal (mC (.int 1))) (mVal (mA (fA1 lenD) (maCons (mOv 0) maNil))) (mVal (mC (.int 8))))))) (mRet (mC (.bl false))) (mNext)) (mRet (mA (fA1 allD) (maCons (mVal (L_is_name_0 c)) maNil)))
def g_is_name (c : Cs) : List D → Option D := defG 2 [.fr] (m_is_name c)
abbrev N_is_sort_row : List Str := ["thing"]
def m_is_sort_row (c : Cs) : Ms := mRet (mAndV (m1 (isB "tuple") (mOv 0)) (mAndV (m2 eqD (mVal (mA (fA1 lenD) (maCons (mOv 0) maNil))) (mVal (mC (.int 2)))) (mAndV (mCallP [.fr] (g_is_name c) (maCons (mVal (m2 ixD (mOv 0) (mVal (mC (.int 0))))) maNil)) (mCallP [.fr] (g_is_name c) (maCons (mVal (m2 ixD (mOv 0) (mVal (mC (.int 1))))) maNil)))))
def g_is_sort_row (c : Cs) : List D → Option D := defG 1 [.fr] (m_is_sort_row c)
abbrev N_are_sorts : List Str := ["thing", "row", "sort", "partner"]
def E_are_sorts_0 (c : Cs) : M D := mCallP [.fr] (g_is_sort_row c) (maCons (mVal (mVar 1)) maNil)
def L_are_sorts_0 (c : Cs) : M D := mLc (mSeqB 0) (gN 1) mYes (E_are_sorts_0 c) [1]
def E_are_sorts_1 (c : Cs) : M D := mVar 2
def L_are_sorts_1 (c : Cs) : M D := mLc (mSeqB 0) (gT (gsC (gN 2) (gsC (gN 3) gs0))) mYes (E_are_sorts_1 c) [2, 3]
def E_are_sorts_2 (c : Cs) : M D := m2 (inLD false) (mVal (mTup (mdCons (mVar 3) (mdCons (mVar 2) mdNil)))) (mOv 0)
def L_are_sorts_2 (c : Cs) : M D := mLc (mSeqB 0) (gT (gsC (gN 2) (gsC (gN 3) gs0))) mYes (E_are_sorts_2 c) [2, 3]
def m_are_sorts (c : Cs) : Ms := mSeq (mIf (mOr (mNot (mTest (m1 (isB "list") (mOv 0)))) (mOr (mNot (mTest (mChain (fI0 fun i j => .bl (decide (i ≤ j))) (fI0 fun i j => .bl (decide (i ≤ j))) (mVal (mC (.int 1))) (mVal (mA (fA1 lenD) (maCons (mOv 0) maNil))) (mVal (mC (.int 3)))))) (mNot (mTest (mA (fA1 allD) (maCons (mVal (L_are_sorts_0 c)) maNil)))))) (mRet (mC (.bl false))) (mNext)) (mSeq (mIf (mTest (m2 (fI0 fun i j => .bl (decide (i < j))) (mVal (mA (fA1 lenSetD) (maCons (mVal (L_are_sorts_1 c)) maNil))) (mVal (mA (fA1 lenD) (maCons (mOv 0) maNil))))) (mRet (mC (.bl false))) (mNext)) (mRet (mA (fA1 allD) (maCons (mVal (L_are_sorts_2 c)) maNil))))
def g_are_sorts (c : Cs) : List D → Option D := defG 4 [.bo] (m_are_sorts c)
abbrev N_is_kind_row : List Str := ["thing", "sorts", "ends", "sort"]
def E_is_kind_row_0 (c : Cs) : M D := mCallP [.fr] (g_is_name c) (maCons (mVal (mVar 3)) maNil)
def L_is_kind_row_0 (c : Cs) : M D := mLc (mTupOf (mVar 2)) (gN 3) mYes (E_is_kind_row_0 c) [3]
def E_is_kind_row_1 (c : Cs) : M D := m2 (inLD false) (mOv 3) (mOv 1)
def L_is_kind_row_1 (c : Cs) : M D := mLc (mTupOf (mVar 2)) (gN 3) mYes (E_is_kind_row_1 c) [3]
def m_is_kind_row (c : Cs) : Ms := mSeq (mIf (mOr (mNot (mTest (m1 (isB "tuple") (mOv 0)))) (mOr (mTest (m2 neD (mVal (mA (fA1 lenD) (maCons (mOv 0) maNil))) (mVal (mC (.int 2))))) (mNot (mTest (mCallP [.fr] (g_is_name c) (maCons (mVal (m2 ixD (mOv 0) (mVal (mC (.int 0))))) maNil)))))) (mRet (mC (.bl false))) (mNext)) (mSeq (mAsg (gN 2) (m2 ixD (mOv 0) (mVal (mC (.int 1))))) (mSeq (mIf (mOr (mNot (mTest (m1 (isB "tuple") (mOv 2)))) (mOr (mNot (mTest (mChain (fI0 fun i j => .bl (decide (i ≤ j))) (fI0 fun i j => .bl (decide (i ≤ j))) (mVal (mC (.int 1))) (mVal (mA (fA1 lenD) (maCons (mOv 2) maNil))) (mVal (mC (.int 5)))))) (mNot (mTest (mA (fA1 allD) (maCons (mVal (L_is_kind_row_0 c)) maNil)))))) (mRet (mC (.bl false))) (mNext)) (mRet (mAndV (mA (fA1 allD) (maCons (mVal (L_is_kind_row_1 c)) maNil)) (m2 eqD (mVal (mnA (fN1 listD) (maCons (mOv 2) maNil))) (mVal (mnA (fN1 sortF) (maCons (mOv 2) maNil))))))))
def g_is_kind_row (c : Cs) : List D → Option D := defG 4 [.fr, .fr] (m_is_kind_row c)
abbrev N_are_kinds : List Str := ["thing", "sorts", "row", "name", "ends"]
def E_are_kinds_0 (c : Cs) : M D := mCallP [.fr, .fr] (g_is_kind_row c) (maCons (mVal (mVar 2)) (maCons (mVal (mVar 1)) maNil))
def L_are_kinds_0 (c : Cs) : M D := mLc (mSeqB 0) (gN 2) mYes (E_are_kinds_0 c) [2]
def E_are_kinds_1 (c : Cs) : M D := mVar 3
def L_are_kinds_1 (c : Cs) : M D := mLc (mSeqB 0) (gT (gsC (gN 3) (gsC (gN 4) gs0))) mYes (E_are_kinds_1 c) [3, 4]
def m_are_kinds (c : Cs) : Ms := mSeq (mIf (mOr (mNot (mTest (m1 (isB "list") (mOv 0)))) (mNot (mTest (mChain (fI0 fun i j => .bl (decide (i ≤ j))) (fI0 fun i j => .bl (decide (i ≤ j))) (mVal (mC (.int 1))) (mVal (mA (fA1 lenD) (maCons (mOv 0) maNil))) (mVal (mC (.int 4))))))) (mRet (mC (.bl false))) (mNext)) (mSeq (mIf (mNot (mTest (mA (fA1 allD) (maCons (mVal (L_are_kinds_0 c)) maNil)))) (mRet (mC (.bl false))) (mNext)) (mRet (m2 eqD (mVal (mA (fA1 lenSetD) (maCons (mVal (L_are_kinds_1 c)) maNil))) (mVal (mA (fA1 lenD) (maCons (mOv 0) maNil))))))
def g_are_kinds (c : Cs) : List D → Option D := defG 5 [.bo, .fr] (m_are_kinds c)
abbrev N_Stock___init__ : List Str := ["self", "sorts", "kinds", "sort", "partner"]
def E_Stock___init___0 (c : Cs) : M D := mVar 3
def L_Stock___init___0 (c : Cs) : M D := mLc (mSeqB 1) (gT (gsC (gN 3) (gsC (gN 4) gs0))) mYes (E_Stock___init___0 c) [3, 4]
def m_Stock___init__ (c : Cs) : Ms := mSeq (mIf (mNot (mTest (mCallP [.bo] (g_are_sorts c) (maCons (mOv 1) maNil)))) (mNever) (mNext)) (mSeq (mIf (mNot (mTest (mCallP [.bo, .fr] (g_are_kinds c) (maCons (mOv 2) (maCons (mVal (L_Stock___init___0 c)) maNil))))) (mNever) (mNext)) (mSeq (mSetF c.stock 0 "sorts" (mnA (fN1 listD) (maCons (mOv 1) maNil))) (mSetF c.stock 0 "kinds" (mnA (fN1 listD) (maCons (mOv 2) maNil)))))
def g_Stock___init__ (c : Cs) : List D → Option (D × D) := defI 5 [.bo, .bo] (m_Stock___init__ c)
abbrev N_is_sort : List Str := ["stock", "thing"]
def m_is_sort (c : Cs) : Ms := mRet (mAndV (m1 (isB "str") (mOv 1)) (m2 (dinD false) (mOv 1) (mVal (mA (fA1 dictD) (maCons (mVal (m1 (fldD [c.stock] "sorts") (mOv 0))) maNil)))))
def g_is_sort (c : Cs) : List D → Option D := defG 2 [.fr, .fr] (m_is_sort c)
abbrev N_is_kind : List Str := ["stock", "thing"]
def m_is_kind (c : Cs) : Ms := mRet (mAndV (m1 (isB "str") (mOv 1)) (m2 (dinD false) (mOv 1) (mVal (mA (fA1 dictD) (maCons (mVal (m1 (fldD [c.stock] "kinds") (mOv 0))) maNil)))))
def g_is_kind (c : Cs) : List D → Option D := defG 2 [.fr, .fr] (m_is_kind c)
abbrev N_ends_of : List Str := ["stock", "kind"]
def m_ends_of (c : Cs) : Ms := mRet (m2 dgetD (mVal (mA (fA1 dictD) (maCons (mVal (m1 (fldD [c.stock] "kinds") (mOv 0))) maNil))) (mOv 1))
def g_ends_of (c : Cs) : List D → Option D := defG 2 [.fr, .fr] (m_ends_of c)
abbrev N_are_corners : List Str := ["stock", "thing", "kind"]
def E_are_corners_0 (c : Cs) : M D := mCallP [.fr, .fr] (g_is_kind c) (maCons (mVal (mVar 0)) (maCons (mVal (mVar 2)) maNil))
def L_are_corners_0 (c : Cs) : M D := mLc (mSeqB 1) (gN 2) mYes (E_are_corners_0 c) [2]
def m_are_corners (c : Cs) : Ms := mRet (mAndV (m1 (isB "list") (mOv 1)) (mAndV (m2 (fI0 fun i j => .bl (decide (i ≤ j))) (mVal (mA (fA1 lenD) (maCons (mOv 1) maNil))) (mVal (mC (.int 6)))) (mA (fA1 allD) (maCons (mVal (L_are_corners_0 c)) maNil))))
def g_are_corners (c : Cs) : List D → Option D := defG 3 [.fr, .bo] (m_are_corners c)
abbrev N_is_leg : List Str := ["stock", "thing"]
def m_is_leg (c : Cs) : Ms := mRet (mAndV (m1 (isB "tuple") (mOv 1)) (mAndV (m2 eqD (mVal (mA (fA1 lenD) (maCons (mOv 1) maNil))) (mVal (mC (.int 2)))) (mAndV (mCallP [.fr] (g_is_name c) (maCons (mVal (m2 ixD (mOv 1) (mVal (mC (.int 0))))) maNil)) (mCallP [.fr, .fr] (g_is_sort c) (maCons (mVal (mVar 0)) (maCons (mVal (m2 ixD (mOv 1) (mVal (mC (.int 1))))) maNil))))))
def g_is_leg (c : Cs) : List D → Option D := defG 2 [.fr, .fr] (m_is_leg c)
abbrev N_are_legs : List Str := ["stock", "thing", "leg", "name", "sort"]
def E_are_legs_0 (c : Cs) : M D := mCallP [.fr, .fr] (g_is_leg c) (maCons (mVal (mVar 0)) (maCons (mVal (mVar 2)) maNil))
def L_are_legs_0 (c : Cs) : M D := mLc (mSeqB 1) (gN 2) mYes (E_are_legs_0 c) [2]
def E_are_legs_1 (c : Cs) : M D := mVar 3
def L_are_legs_1 (c : Cs) : M D := mLc (mSeqB 1) (gT (gsC (gN 3) (gsC (gN 4) gs0))) mYes (E_are_legs_1 c) [3, 4]
def m_are_legs (c : Cs) : Ms := mSeq (mIf (mOr (mNot (mTest (m1 (isB "list") (mOv 1)))) (mOr (mTest (m2 (fI0 fun i j => .bl (decide (j < i))) (mVal (mA (fA1 lenD) (maCons (mOv 1) maNil))) (mVal (mC (.int 6))))) (mNot (mTest (mA (fA1 allD) (maCons (mVal (L_are_legs_0 c)) maNil)))))) (mRet (mC (.bl false))) (mNext)) (mRet (mAndV (m2 eqD (mOv 1) (mVal (mnA (fN1 sortF) (maCons (mOv 1) maNil)))) (m2 eqD (mVal (mA (fA1 lenSetD) (maCons (mVal (L_are_legs_1 c)) maNil))) (mVal (mA (fA1 lenD) (maCons (mOv 1) maNil))))))
def g_are_legs (c : Cs) : List D → Option D := defG 5 [.fr, .bo] (m_are_legs c)
abbrev N_sure_corners : List Str := ["stock", "corners", "legs"]
def m_sure_corners (c : Cs) : Ms := mSeq (mIf (mNot (mTest (mCallP [.fr, .bo] (g_are_corners c) (maCons (mVal (mVar 0)) (maCons (mOv 1) maNil))))) (mNever) (mNext)) (mIf (mNot (mTest (mCallP [.fr, .bo] (g_are_legs c) (maCons (mVal (mVar 0)) (maCons (mOv 2) maNil))))) (mNever) (mNext))
def g_sure_corners (c : Cs) : List D → Option D := defG 3 [.fr, .bo, .bo] (m_sure_corners c)
abbrev N_factorial : List Str := ["number", "found", "factor"]
def B_factorial_0 (c : Cs) : Ms := mAsg (gN 1) (m2 (fI mulOk fun i j => .int (i * j)) (mOv 1) (mOv 2))
def m_factorial (c : Cs) : Ms := mSeq (mAsg (gN 1) (mC (.int 1))) (mSeq (mFor (mIt rg2 (mdCons (mC (.int 2)) (mdCons (m2 addD (mOv 0) (mVal (mC (.int 1)))) mdNil))) (gN 2) (B_factorial_0 c)) (mRet (mVar 1)))
def g_factorial (c : Cs) : List D → Option D := defG 3 [.fr] (m_factorial c)
abbrev N__law_state : List Str := ["_law_cell"]
def m__law_state (c : Cs) : Ms := mRetW (mLst (mdCons (mA (fA1 absD) (maCons (mOv 0) maNil)) (mdCons (m2 (fI modOk fun i j => .int (i % j)) (mOv 0) (mVal (mC (.int 1000000007)))) (mdCons (mC (.int 0)) mdNil))))
def g__law_state (c : Cs) : List D → Option D := defN 1 [.fr] (m__law_state c)
abbrev N__law_pick : List Str := ["_law_state_here", "_law_many", "_law_digit", "_law_number"]
def m__law_pick (c : Cs) : Ms := mSeq (mIf (mTest (m2 (fI0 fun i j => .bl (decide (j ≤ i))) (mVal (m2 ixD (mOv 0) (mVal (mC (.int 0))))) (mVal (m2 (fI powOk fun i j => .int (i ^ j.toNat)) (mVal (mC (.int 10))) (mVal (mC (.int 15))))))) (mSeq (mAsg (gN 2) (m2 (fI modOk fun i j => .int (i % j)) (mVal (m2 ixD (mOv 0) (mVal (mC (.int 0))))) (mOv 1))) (mSeq (mPutI 0 (mC (.int 0)) (m2 (fI divOk fun i j => .int (i / j)) (mVal (m2 ixD (mOv 0) (mVal (mC (.int 0))))) (mOv 1))) (mRet (mVar 2)))) (mNext)) (mSeq (mPutI 0 (mC (.int 2)) (m2 addD (mVal (m2 ixD (mOv 0) (mVal (mC (.int 2))))) (mVal (mC (.int 1))))) (mSeq (mAsg (gN 3) (m2 (fI modOk fun i j => .int (i % j)) (mVal (m2 addD (mVal (m2 addD (mVal (m2 (fI mulOk fun i j => .int (i * j)) (mVal (m2 ixD (mOv 0) (mVal (mC (.int 1))))) (mVal (mC (.int 48271))))) (mVal (m2 (fI mulOk fun i j => .int (i * j)) (mVal (mC (.int 7919))) (mVal (m2 ixD (mOv 0) (mVal (mC (.int 2))))))))) (mVal (mC (.int 12345))))) (mVal (mC (.int 2147483647))))) (mSeq (mAsg (gN 3) (m2 (fI modOk fun i j => .int (i % j)) (mVal (m2 (fI mulOk fun i j => .int (i * j)) (mOv 3) (mVal (m2 addD (mVal (m2 (fI divOk fun i j => .int (i / j)) (mOv 3) (mVal (mC (.int 997))))) (mVal (mC (.int 69069))))))) (mVal (mC (.int 2147483629))))) (mSeq (mPutI 0 (mC (.int 1)) (mVar 3)) (mRet (m2 (fI modOk fun i j => .int (i % j)) (mVal (m2 (fI divOk fun i j => .int (i / j)) (mOv 3) (mVal (mC (.int 11))))) (mOv 1)))))))
def g__law_pick (c : Cs) : List D → Option (D × D) := defI 4 [.fr] (m__law_pick c)
abbrev N__law_words : List Str := ["_law_state_here", "_law_many", "_law_found", "_law_last", "_law_word", "_law_k"]
def B__law_words_0 (c : Cs) : Ms := mAsg (gN 4) (m2 addD (mOv 4) (mVal (m2 ixD (mVal (mC (.str "abcdefghijklmnopqrstuvwxyz"))) (mVal (mCallI 0 [.fr] (g__law_pick c) (maCons (mVal (mC (.int 26))) maNil))))))
def B__law_words_1 (c : Cs) : Ms := mSeq (mAsg (gN 4) (mC (.str ""))) (mSeq (mFor (mIt rg1 (mdCons (m2 ixD (mVal (mLst (mdCons (mC (.int 0)) (mdCons (mC (.int 1)) (mdCons (mC (.int 3)) (mdCons (mC (.int 7)) mdNil)))))) (mVal (mCallI 0 [.fr] (g__law_pick c) (maCons (mVal (mC (.int 4))) maNil)))) mdNil)) (gN 5) (B__law_words_0 c)) (mDrop (mMut appF 2 (mdCons (m2 addD (mOv 4) (mOv 3)) mdNil))))
def m__law_words (c : Cs) : Ms := mSeq (mAsgO 2 (mLst mdNil)) (mSeq (mFor (mTxtOf (mSl slD (mVal (mC (.str "sortend"))) mpNone (mpSome (mVar 1)))) (gN 3) (B__law_words_1 c)) (mRet (mVar 2)))
def g__law_words (c : Cs) : List D → Option (D × D) := defI 6 [.fr] (m__law_words c)
abbrev N__law_stock_rows : List Str := ["_law_state_here", "_law_most", "_law_one", "_law_two", "_law_three", "_law_some", "_law_sorts", "_law_kinds", "_law_name", "_law_own", "_law_k"]
def E__law_stock_rows_0 (c : Cs) : M D := m2 ixD (mVal (m2 ixD (mOv 6) (mVal (mCallI 0 [.fr] (g__law_pick c) (maCons (mVal (mA (fA1 lenD) (maCons (mOv 6) maNil))) maNil))))) (mVal (mC (.int 0)))
def L__law_stock_rows_0 (c : Cs) : M D := mLc (mIt rg1 (mdCons (m2 addD (mVal (mC (.int 1))) (mVal (mCallI 0 [.fr] (g__law_pick c) (maCons (mVal (mVar 1)) maNil)))) mdNil)) (gN 10) mYes (E__law_stock_rows_0 c) [10]
def B__law_stock_rows_0 (c : Cs) : Ms := mSeq (mAsgO 9 (L__law_stock_rows_0 c)) (mDrop (mMut appF 7 (mdCons (mTup (mdCons (mVar 8) (mdCons (mA (fA1 tupD) (maCons (mVal (mnA (fN1 sortF) (maCons (mOv 9) maNil))) maNil)) mdNil))) mdNil)))
def m__law_stock_rows (c : Cs) : Ms := mSeq (mAsg (gTL (gsC (gN 2) (gsC (gN 3) (gsC (gN 4) gs0)))) (mCallI 0 [.fr] (g__law_words c) (maCons (mVal (mC (.int 3))) maNil))) (mSeq (mAsgO 5 (mLst (mdCons (mLst (mdCons (mTup (mdCons (mVar 2) (mdCons (mVar 2) mdNil))) mdNil)) (mdCons (mLst (mdCons (mTup (mdCons (mVar 2) (mdCons (mVar 3) mdNil))) (mdCons (mTup (mdCons (mVar 3) (mdCons (mVar 2) mdNil))) mdNil))) (mdCons (mLst (mdCons (mTup (mdCons (mVar 3) (mdCons (mVar 3) mdNil))) (mdCons (mTup (mdCons (mVar 2) (mdCons (mVar 4) mdNil))) (mdCons (mTup (mdCons (mVar 4) (mdCons (mVar 2) mdNil))) mdNil)))) mdNil))))) (mSeq (mDrop (mMut appF 5 (mdCons (mLst (mdCons (mTup (mdCons (mVar 2) (mdCons (mVar 2) mdNil))) (mdCons (mTup (mdCons (mVar 3) (mdCons (mVar 3) mdNil))) (mdCons (mTup (mdCons (mVar 4) (mdCons (mVar 4) mdNil))) mdNil)))) mdNil))) (mSeq (mAsg (gN 6) (m2 ixD (mOv 5) (mVal (mCallI 0 [.fr] (g__law_pick c) (maCons (mVal (mC (.int 4))) maNil))))) (mSeq (mAsgO 7 (mLst mdNil)) (mSeq (mFor (mSeqOf (mCallI 0 [.fr] (g__law_words c) (maCons (mVal (m2 addD (mVal (mC (.int 1))) (mVal (mCallI 0 [.fr] (g__law_pick c) (maCons (mVal (mC (.int 3))) maNil))))) maNil))) (gN 8) (B__law_stock_rows_0 c)) (mRet (mTup (mdCons (mVar 6) (mdCons (mVar 7) mdNil)))))))))
def g__law_stock_rows (c : Cs) : List D → Option (D × D) := defI 11 [.fr] (m__law_stock_rows c)
end G

set_option Elab.async false
set_option linter.all false
set_option maxRecDepth 100000
set_option maxHeartbeats 400000
/-! PMb: printed by gen.py: what the defs on ends and counts, and the laws' grounds, compute. -/
namespace G
open PySem L2 DL
abbrev N_ends_there : List Str := ["stock", "corners", "legs", "found", "place", "kind", "number", "name", "sort"]
def E_ends_there_0 (c : Cs) : M D := mTup (mdCons (mVar 4) (mdCons (mVar 8) mdNil))
def L_ends_there_0 (c : Cs) : M D := mLc (mTupOf (mCallP [.fr, .fr] (g_ends_of c) (maCons (mVal (mVar 0)) (maCons (mVal (mVar 5)) maNil)))) (gN 8) mYes (E_ends_there_0 c) [8]
def B_ends_there_0 (c : Cs) : Ms := mDrop (mMut extF 3 (mdCons (L_ends_there_0 c) mdNil))
def B_ends_there_1 (c : Cs) : Ms := mDrop (mMut appF 3 (mdCons (mTup (mdCons (m2 addD (mVal (mA (fA1 lenD) (maCons (mOv 1) maNil))) (mOv 6)) (mdCons (mVar 8) mdNil))) mdNil))
def m_ends_there (c : Cs) : Ms := mSeq (mAsgO 3 (mLst mdNil)) (mSeq (mFor (mEnumB 1) (gT (gsC (gN 4) (gsC (gN 5) gs0))) (B_ends_there_0 c)) (mSeq (mFor (mEnumB 2) (gT (gsC (gN 6) (gsC (gT (gsC (gN 7) (gsC (gN 8) gs0))) gs0))) (B_ends_there_1 c)) (mRetO 3)))
def g_ends_there (c : Cs) : List D → Option D := defN 9 [.fr, .bo, .bo] (m_ends_there c)
abbrev N_ways_to_pair : List Str := ["many", "found", "factor"]
def B_ways_to_pair_0 (c : Cs) : Ms := mAsg (gN 1) (m2 (fI mulOk fun i j => .int (i * j)) (mOv 1) (mOv 2))
def m_ways_to_pair (c : Cs) : Ms := mSeq (mIf (mTest (m2 eqD (mVal (m2 (fI modOk fun i j => .int (i % j)) (mOv 0) (mVal (mC (.int 2))))) (mVal (mC (.int 1))))) (mRet (mC (.int 0))) (mNext)) (mSeq (mAsg (gN 1) (mC (.int 1))) (mSeq (mFor (mIt rg3 (mdCons (mC (.int 1)) (mdCons (mVar 0) (mdCons (mC (.int 2)) mdNil)))) (gN 2) (B_ways_to_pair_0 c)) (mRet (mVar 1))))
def g_ways_to_pair (c : Cs) : List D → Option D := defG 3 [.fr] (m_ways_to_pair c)
abbrev N_count : List Str := ["stock", "corners", "legs", "sorts", "found", "sort", "partner", "many", "place"]
def E_count_0 (c : Cs) : M D := mVar 5
def L_count_0 (c : Cs) : M D := mLc (mSeqOf (mCallN [.fr, .bo, .bo] (g_ends_there c) (maCons (mVal (mVar 0)) (maCons (mOv 1) (maCons (mOv 2) maNil))))) (gT (gsC (gN 8) (gsC (gN 5) gs0))) mYes (E_count_0 c) [8, 5]
def B_count_0 (c : Cs) : Ms := mSeq (mAsg (gN 7) (mCount (mOv 3) (mOv 5))) (mIf (mTest (m2 eqD (mOv 5) (mOv 6))) (mAsg (gN 4) (m2 (fI mulOk fun i j => .int (i * j)) (mOv 4) (mVal (mCallP [.fr] (g_ways_to_pair c) (maCons (mVal (mVar 7)) maNil))))) (mIf (mTest (m2 ltSD (mOv 5) (mOv 6))) (mAsg (gN 4) (m2 (fI mulOk fun i j => .int (i * j)) (mVal (m2 (fI mulOk fun i j => .int (i * j)) (mOv 4) (mVal (mCallP [.fr] (g_factorial c) (maCons (mVal (mVar 7)) maNil))))) (mVal (mA (fA1 intD) (maCons (mVal (m2 eqD (mVal (mCount (mOv 3) (mOv 6))) (mOv 7))) maNil))))) (mNext)))
def m_count (c : Cs) : Ms := mSeq (mDrop (mCallP [.fr, .bo, .bo] (g_sure_corners c) (maCons (mVal (mVar 0)) (maCons (mOv 1) (maCons (mOv 2) maNil))))) (mSeq (mAsgO 3 (L_count_0 c)) (mSeq (mAsg (gN 4) (mC (.int 1))) (mSeq (mFor (mSeqOf (m1 (fldD [c.stock] "sorts") (mOv 0))) (gT (gsC (gN 5) (gsC (gN 6) gs0))) (B_count_0 c)) (mRet (mVar 4)))))
def g_count (c : Cs) : List D → Option D := defG 9 [.fr, .bo, .bo] (m_count c)
abbrev N__law_there : List Str := ["_law_kinds", "_law_corners", "_law_legs", "_law_found", "_law_place", "_law_name", "_law_sort", "_law_at", "_law_leg"]
def E__law_there_0 (c : Cs) : M D := mTup (mdCons (mVar 4) (mdCons (mVar 6) mdNil))
def L__law_there_0 (c : Cs) : M D := mLc (mTupOf (m2 dgetD (mVal (mA (fA1 dictD) (maCons (mOv 0) maNil))) (mOv 5))) (gN 6) mYes (E__law_there_0 c) [6]
def B__law_there_0 (c : Cs) : Ms := mDrop (mMut extF 3 (mdCons (L__law_there_0 c) mdNil))
def E__law_there_1 (c : Cs) : M D := mTup (mdCons (m2 addD (mVal (mA (fA1 lenD) (maCons (mOv 1) maNil))) (mOv 7)) (mdCons (m2 ixD (mOv 8) (mVal (mC (.int 1)))) mdNil))
def L__law_there_1 (c : Cs) : M D := mLc (mEnumB 2) (gT (gsC (gN 7) (gsC (gN 8) gs0))) mYes (E__law_there_1 c) [7, 8]
def m__law_there (c : Cs) : Ms := mSeq (mAsgO 3 (mLst mdNil)) (mSeq (mFor (mEnumB 1) (gT (gsC (gN 4) (gsC (gN 5) gs0))) (B__law_there_0 c)) (mRet (m2 addD (mOv 3) (mVal (L__law_there_1 c)))))
def g__law_there (c : Cs) : List D → Option D := defG 9 [.fr, .bo, .bo] (m__law_there c)
abbrev N__law_wanted : List Str := ["_law_sorts", "_law_some", "_law_found", "_law_sort", "_law_partner"]
def B__law_wanted_0 (c : Cs) : Ms := mIf (mTest (m2 eqD (mOv 3) (mOv 4))) (mDrop (mMut extF 2 (mdCons (mn2 repF (mVal (mLst (mdCons (mVar 3) mdNil))) (mVal (m2 (fI modOk fun i j => .int (i % j)) (mVal (mCount (mOv 1) (mOv 3))) (mVal (mC (.int 2)))))) mdNil))) (mDrop (mMut extF 2 (mdCons (mn2 repF (mVal (mLst (mdCons (mVar 4) mdNil))) (mVal (mA (fA2 maxD) (maCons (mVal (mC (.int 0))) (maCons (mVal (m2 (fI0 fun i j => .int (i - j)) (mVal (mCount (mOv 1) (mOv 3))) (mVal (mCount (mOv 1) (mOv 4))))) maNil))))) mdNil)))
def m__law_wanted (c : Cs) : Ms := mSeq (mAsgO 2 (mLst mdNil)) (mSeq (mFor (mSeqB 0) (gT (gsC (gN 3) (gsC (gN 4) gs0))) (B__law_wanted_0 c)) (mRet (mVar 2)))
def g__law_wanted (c : Cs) : List D → Option D := defG 5 [.fr, .bo] (m__law_wanted c)
abbrev N__law_grounds : List Str := ["_law_state_here", "_law_sorts", "_law_kinds", "_law_most", "_law_far", "_law_corners", "_law_extra", "_law_words_here", "_law_turn", "_law_some", "_law_wished", "_law_k", "_law_place", "_law_sort"]
def E__law_grounds_0 (c : Cs) : M D := m2 ixD (mVal (m2 ixD (mOv 2) (mVal (mCallI 0 [.fr] (g__law_pick c) (maCons (mVal (mA (fA1 lenD) (maCons (mOv 2) maNil))) maNil))))) (mVal (mC (.int 0)))
def L__law_grounds_0 (c : Cs) : M D := mLc (mIt rg1 (mdCons (mCallI 0 [.fr] (g__law_pick c) (maCons (mVal (m2 addD (mOv 3) (mVal (mC (.int 1))))) maNil)) mdNil)) (gN 11) mYes (E__law_grounds_0 c) [11]
def E__law_grounds_1 (c : Cs) : M D := m2 ixD (mVal (m2 ixD (mOv 1) (mVal (mCallI 0 [.fr] (g__law_pick c) (maCons (mVal (mA (fA1 lenD) (maCons (mOv 1) maNil))) maNil))))) (mVal (mC (.int 0)))
def L__law_grounds_1 (c : Cs) : M D := mLc (mIt rg1 (mdCons (m2 ixD (mVal (mLst (mdCons (mC (.int 0)) (mdCons (mC (.int 0)) (mdCons (mC (.int 1)) (mdCons (mC (.int 2)) mdNil)))))) (mVal (mCallI 0 [.fr] (g__law_pick c) (maCons (mVal (mC (.int 4))) maNil)))) mdNil)) (gN 11) mYes (E__law_grounds_1 c) [11]
def E__law_grounds_2 (c : Cs) : M D := mVar 13
def L__law_grounds_2 (c : Cs) : M D := mLc (mSeqOf (mCallP [.fr, .bo, .bo] (g__law_there c) (maCons (mVal (mVar 2)) (maCons (mOv 5) (maCons (mVal (mLst mdNil)) maNil))))) (gT (gsC (gN 12) (gsC (gN 13) gs0))) mYes (E__law_grounds_2 c) [12, 13]
def B__law_grounds_0 (c : Cs) : Ms := mSeq (mAsg (gN 9) (m2 addD (mOv 6) (mVal (L__law_grounds_2 c)))) (mSeq (mAsg (gN 10) (m2 addD (mOv 6) (mVal (mCallP [.fr, .bo] (g__law_wanted c) (maCons (mVal (mVar 1)) (maCons (mOv 9) maNil)))))) (mSeq (mIf (mAnd (mTest (m2 (fI0 fun i j => .bl (decide (i ≤ j))) (mVal (mA (fA1 lenD) (maCons (mOv 10) maNil))) (mVal (mC (.int 6))))) (mTest (m2 (fI0 fun i j => .bl (decide (i ≤ j))) (mVal (m2 (fI0 fun i j => .int (i - j)) (mVal (m2 addD (mVal (mA (fA1 lenD) (maCons (mOv 9) maNil))) (mVal (mA (fA1 lenD) (maCons (mOv 10) maNil))))) (mVal (mA (fA1 lenD) (maCons (mOv 6) maNil))))) (mOv 4)))) (mRet (mTup (mdCons (mVar 5) (mdCons (mnA (fN1 sortF) (maCons (mVal (mnA zipF (maCons (mOv 7) (maCons (mOv 10) maNil)))) maNil)) mdNil)))) (mNext)) (mAsg (gN 5) (mSl slD (mOv 5) mpNone (mpSome (mC (.int (-1))))))))
def m__law_grounds (c : Cs) : Ms := mSeq (mAsgO 5 (L__law_grounds_0 c)) (mSeq (mAsgO 6 (L__law_grounds_1 c)) (mSeq (mAsg (gN 7) (mCallI 0 [.fr] (g__law_words c) (maCons (mVal (mC (.int 6))) maNil))) (mSeq (mFor (mIt rg1 (mdCons (m2 addD (mOv 3) (mVal (mC (.int 1)))) mdNil)) (gN 8) (B__law_grounds_0 c)) (mRet (mTup (mdCons (mLst mdNil) (mdCons (mLst mdNil) mdNil)))))))
def g__law_grounds (c : Cs) : List D → Option (D × D) := defI 14 [.fr, .fr, .fr, .fr] (m__law_grounds c)
end G

set_option Elab.async false
set_option linter.all false
set_option maxRecDepth 100000
set_option maxHeartbeats 400000
/-! PMc: printed by gen.py: fractions, sums, and the laws' own reckonings. -/
namespace G
open PySem L2 DL
end G

set_option Elab.async false
set_option linter.all false
set_option maxRecDepth 100000
set_option maxHeartbeats 400000
/-! PMd: printed by gen.py: drawings, and the laws' drawn ones. -/
namespace G
open PySem L2 DL
abbrev N_partner_of : List Str := ["stock", "sort"]
def m_partner_of (c : Cs) : Ms := mRet (m2 dgetD (mVal (mA (fA1 dictD) (maCons (mVal (m1 (fldD [c.stock] "sorts") (mOv 0))) maNil))) (mOv 1))
def g_partner_of (c : Cs) : List D → Option D := defG 2 [.fr, .fr] (m_partner_of c)
end G

set_option Elab.async false
set_option linter.all false
set_option maxRecDepth 100000
set_option maxHeartbeats 4000000
/-! PMe: printed by gen.py: parts, and the first family of the laws' helpers. -/
namespace GA
open PySem L2 DL G
end GA

set_option Elab.async false
set_option linter.all false
set_option maxRecDepth 100000
set_option maxHeartbeats 4000000
/-! PMf: printed by gen.py: parts, drawings compared. -/
namespace GA
open PySem L2 DL G
end GA

set_option Elab.async false
set_option linter.all false
set_option maxRecDepth 100000
set_option maxHeartbeats 4000000
/-! PMg: printed by gen.py: cutting. -/
namespace GA
open PySem L2 DL G
end GA

set_option Elab.async false
set_option linter.all false
set_option maxRecDepth 100000
set_option maxHeartbeats 4000000
/-! PMh: printed by gen.py: joining legs. -/
namespace GA
open PySem L2 DL G
end GA

set_option Elab.async false
set_option linter.all false
set_option maxRecDepth 100000
set_option maxHeartbeats 400000
/-! MBa: what the drawing helpers of the laws (state, pick, words) give. -/
namespace G
open PySem L2 DL
/-- the state that is drawn from -/
def rs (a b k : Int) : D := .lst [.int a, .int b, .int k]
section
theorem pick_spec (c : Cs) (a b k n : Int) (h0 : 0 < n) (h1 : n < 1073741824) : ∃ r a' b' k', g__law_pick c [rs a b k, .int n] = some (.int r, rs a' b' k') ∧ 0 ≤ r ∧ r < n := by
  unfold rs
  by_cases h : 1000000000000000 ≤ a
  · refine ⟨a % n, a / n, b, k, ?_, Int.emod_nonneg _ (by omega), Int.emod_lt_of_pos _ h0⟩
    simp [defI, startE, entry, PK.sl, mSeq, mIf, mTest, m2, M.bind, mVal, mOv, mC, M.ret, Sl.dat, mRd, rd, M.lift, ixD, atI, fI, fI0, powOk, modOk, divOk, mulOk, DL.small64, mS, mAsg, gN, mPutI, mHas, ownL, Sl.own, ixN, reown, mRet, mVar, mNext, io0, addD, g__law_pick, m__law_pick, h, h0, h1]
  · let x := (b * 48271 + 7919 * (k + 1) + 12345) % 2147483647
    have hx0 : 0 ≤ x := Int.emod_nonneg _ (by decide)
    have hx1 : x < 2147483647 := Int.emod_lt_of_pos _ (by decide)
    let y := x * (x / 997 + 69069) % 2147483629
    refine ⟨y / 11 % n, a, y, k + 1, ?_, Int.emod_nonneg _ (by omega), Int.emod_lt_of_pos _ h0⟩
    have e1 : (b * 48271 + 7919 * (k + 1) + 12345) % 2147483647 = x := rfl
    have e2 : x * (x / 997 + 69069) % 2147483629 = y := rfl
    have s1 : -18446744073709551616 < x ∧ x < 18446744073709551616 := by omega
    simp [defI, startE, entry, PK.sl, mSeq, mIf, mTest, m2, M.bind, mVal, mOv, mC, M.ret, Sl.dat, mRd, rd, M.lift, ixD, atI, fI, fI0, powOk, modOk, divOk, mulOk, DL.small64, mS, mAsg, gN, mPutI, mHas, ownL, Sl.own, ixN, reown, mRet, mVar, mNext, io0, addD, g__law_pick, m__law_pick, h, h0, h1, e1, e2, s1]
end
/-- small letters alone -/
def Low (x : Str) : Prop := ∀ c ∈ x.cps.toList, 97 ≤ c ∧ c ≤ 122
def NameOk (x : Str) : Prop := 1 ≤ x.cps.size ∧ x.cps.size ≤ 8 ∧ Low x
/-- a name that ends in the sign -/
def Wd (x : Str) (c : Nat) : Prop := NameOk x ∧ x.cps.toList.getLast? = some c
theorem str_len (x : Str) : x.length = x.cps.size := rfl
theorem app_cps (x y : Str) : (x ++ y).cps.toList = x.cps.toList ++ y.cps.toList := by
  show (x.cps ++ y.cps).toList = _
  rw [Array.toList_append]
theorem app_size (x y : Str) : (x ++ y).cps.size = x.cps.size + y.cps.size := by
  show (x.cps ++ y.cps).size = _
  rw [Array.size_append]
theorem Low.app {x y : Str} (h : Low x) (g : Low y) : Low (x ++ y) := fun c hc => by
  rw [app_cps, List.mem_append] at hc
  exact hc.elim (h c) (g c)
def abc : Str := "abcdefghijklmnopqrstuvwxyz"
theorem abc_list : abc.cps.toList = (List.range 26).map (· + 97) := by decide +kernel
theorem abc_at {r : Int} (h0 : 0 ≤ r) (h1 : r < 26) : ixD (.str abc) (.int r) = some (.str ⟨#[r.toNat + 97]⟩) := by
  have hl : abc.cps.toList.length = 26 := by decide +kernel
  have e : atI abc.cps.toList r = some (r.toNat + 97) := by
    unfold atI ixN
    rw [hl, abc_list]
    have : r.toNat < 26 := by omega
    simp [h0, h1, this]
    try omega
  have hs : abc.length ≤ 1000000 := by decide +kernel
  simp only [ixD, hs, if_true, e, Option.map_some]
theorem low1 {c : Nat} (h : 97 ≤ c ∧ c ≤ 122) : Low ⟨#[c]⟩ := fun d hd => by
  have : d = c := by simpa using hd
  rw [this]; exact h
section
/-- one more letter -/
def letterB (c : Cs) : Ms := mAsg (gN 4) (m2 addD (mOv 4) (mVal (m2 ixD (mVal (mC (.str "abcdefghijklmnopqrstuvwxyz"))) (mVal (mCallI 0 [.fr] (g__law_pick c) (maCons (mVal (mC (.int 26))) maNil))))))
theorem letter_step (c : Cs) (a b k m : Int) (f2 f3 f5 : Sl) (w : Str) (hw : w.cps.size ≤ 100) (hl : Low w) (y : D) : ∃ δ1, gN 5 y [.io (rs a b k), .fr (.int m), f2, f3, .fr (.str w), f5] = some δ1 ∧ ∃ a' b' k' w', letterB c δ1 = some (.nx [.io (rs a' b' k'), .fr (.int m), f2, f3, .fr (.str w'), .fr y]) ∧ Low w' ∧ w'.cps.size = w.cps.size + 1 := by
  obtain ⟨r, a', b', k', hp, h0, h1⟩ := pick_spec c a b k 26 (by decide) (by decide)
  refine ⟨_, rfl, a', b', k', w ++ ⟨#[r.toNat + 97]⟩, ?_, hl.app (low1 (by omega)), app_size _ _⟩
  have e : ixD (.str "abcdefghijklmnopqrstuvwxyz") (.int r) = some (.str ⟨#[r.toNat + 97]⟩) := abc_at h0 h1
  have hz : w.length + 1 ≤ 1000000 := by rw [str_len]; omega
  have ea : addD (.str w) (.str ⟨#[r.toNat + 97]⟩) = some (.str (w ++ ⟨#[r.toNat + 97]⟩)) := by
    have hz' : w.length + (⟨#[r.toNat + 97]⟩ : Str).length ≤ 1000000 := hz
    simp [defI, startE, entry, PK.sl, mSeq, mIf, mTest, m2, M.bind, mVal, mOv, mC, M.ret, Sl.dat, mRd, rd, M.lift, fI, fI0, mS, mAsg, gN, mHas, ownL, Sl.own, reown, mRet, mVar, mNext, io0, mCallI, maCons, maNil, mRds, rds, frOk, apart, addD, fI0, fStrCat, hz']
  unfold letterB
  simp [defI, startE, entry, PK.sl, mSeq, mIf, mTest, m2, M.bind, mVal, mOv, mC, M.ret, Sl.dat, mRd, rd, M.lift, fI, fI0, mS, mAsg, gN, mHas, ownL, Sl.own, reown, mRet, mVar, mNext, io0, mCallI, maCons, maNil, mRds, rds, frOk, apart, hp, e, ea]
/-- letters one by one -/
theorem letters (c : Cs) (m : Int) (f2 f3 : Sl) : ∀ (n : Nat) (ds : List D), ds.length = n → ∀ (a b k : Int) (w : Str) (f5 : Sl), w.cps.size + n ≤ 100 → Low w →
    ∃ a' b' k' w' f5', forL (gN 5) (letterB c) ds [.io (rs a b k), .fr (.int m), f2, f3, .fr (.str w), f5] = some (.nx [.io (rs a' b' k'), .fr (.int m), f2, f3, .fr (.str w'), f5']) ∧ Low w' ∧ w'.cps.size = w.cps.size + n
  | 0, ds, hd, a, b, k, w, f5, hw, hl => by
    cases ds with
    | nil => exact ⟨a, b, k, w, f5, rfl, hl, rfl⟩
    | cons d ds => simp [defI, startE, entry, PK.sl, mSeq, mIf, mTest, m2, M.bind, mVal, mOv, mC, M.ret, Sl.dat, mRd, rd, M.lift, fI, fI0, mS, mAsg, gN, mHas, ownL, Sl.own, reown, mRet, mVar, mNext, io0, mCallI, maCons, maNil, mRds, rds, frOk, apart] at hd
  | n + 1, ds, hd, a, b, k, w, f5, hw, hl => by
    cases ds with
    | nil => simp [defI, startE, entry, PK.sl, mSeq, mIf, mTest, m2, M.bind, mVal, mOv, mC, M.ret, Sl.dat, mRd, rd, M.lift, fI, fI0, mS, mAsg, gN, mHas, ownL, Sl.own, reown, mRet, mVar, mNext, io0, mCallI, maCons, maNil, mRds, rds, frOk, apart] at hd
    | cons d ds =>
      obtain ⟨δ1, h1, a1, b1, k1, w1, h2, h3, h4⟩ := letter_step c a b k m f2 f3 f5 w (by omega) hl d
      obtain ⟨a', b', k', w', f5', h5, h6, h7⟩ := letters c m f2 f3 n ds (by simpa using hd) a1 b1 k1 w1 (.fr d) (by omega) h3
      refine ⟨a', b', k', w', f5', ?_, h6, by omega⟩
      simp only [forL, h1, h2]
      exact h5
def wordB (c : Cs) : Ms := mSeq (mAsg (gN 4) (mC (.str ""))) (mSeq (mFor (mIt rg1 (mdCons (m2 ixD (mVal (mLst (mdCons (mC (.int 0)) (mdCons (mC (.int 1)) (mdCons (mC (.int 3)) (mdCons (mC (.int 7)) mdNil)))))) (mVal (mCallI 0 [.fr] (g__law_pick c) (maCons (mVal (mC (.int 4))) maNil)))) mdNil)) (gN 5) (letterB c)) (mDrop (mMut appF 2 (mdCons (m2 addD (mOv 4) (mOv 3)) mdNil))))
theorem word_step (c : Cs) (a b k m : Int) (ws : List Str) (hws : ws.length < 100) (s : Nat) (hs : 97 ≤ s ∧ s ≤ 122) (f4 f5 : Sl) :
    ∃ a' b' k' x f4' f5', wordB c [.io (rs a b k), .fr (.int m), .ow (.lst (ws.map .str)), .fr (.str ⟨#[s]⟩), f4, f5] = some (.nx [.io (rs a' b' k'), .fr (.int m), .ow (.lst ((ws ++ [x]).map .str)), .fr (.str ⟨#[s]⟩), f4', f5']) ∧ Wd x s := by
  obtain ⟨r, a1, b1, k1, hp, h0, h1⟩ := pick_spec c a b k 4 (by decide) (by decide)
  obtain ⟨n, hn, hn7⟩ : ∃ n : Nat, ixD (.lst [.int 0, .int 1, .int 3, .int 7]) (.int r) = some (.int (n : Nat)) ∧ n ≤ 7 := by
    have : r = 0 ∨ r = 1 ∨ r = 2 ∨ r = 3 := by omega
    rcases this with rfl | rfl | rfl | rfl
    · exact ⟨0, rfl, by decide⟩
    · exact ⟨1, rfl, by decide⟩
    · exact ⟨3, rfl, by decide⟩
    · exact ⟨7, rfl, by decide⟩
  have hr : rg1 [.int (n : Nat)] = some (rangeD 0 n) := by
    have : -1000000 ≤ (n : Int) ∧ (n : Int) ≤ 1000000 := by omega
    simp only [rg1, this, and_self, if_true, Int.toNat_natCast]
  obtain ⟨a', b', k', w', f5', h5, h6, h7⟩ := letters c m (.ow (.lst (ws.map .str))) (.fr (.str ⟨#[s]⟩)) n (rangeD 0 n) rangeD_len a1 b1 k1 "" f5 (by show 0 + n ≤ 100; omega) (fun c hc => by cases hc)
  have z : w'.cps.size = n := by rw [h7]; exact Nat.zero_add _
  have ea : addD (.str w') (.str ⟨#[s]⟩) = some (.str (w' ++ ⟨#[s]⟩)) := by
    have hz' : w'.length + (⟨#[s]⟩ : Str).length ≤ 1000000 := by show w'.cps.size + 1 ≤ 1000000; omega
    simp [defI, startE, entry, PK.sl, mSeq, mIf, mTest, m2, M.bind, mVal, mOv, mC, M.ret, Sl.dat, mRd, rd, M.lift, fI, fI0, mS, mAsg, gN, mHas, ownL, Sl.own, reown, mRet, mVar, mNext, io0, mCallI, maCons, maNil, mRds, rds, frOk, apart, mdCons, mdNil, mLst, mIt, mFor, mDrop, mMut, appF, addD, fI0, fStrCat, hz']
  refine ⟨a', b', k', w' ++ ⟨#[s]⟩, .fr (.str w'), f5', ?_, ⟨by rw [app_size, z]; exact Nat.le_add_left _ _, by rw [app_size, z]; show n + 1 ≤ 8; omega, h6.app (low1 hs)⟩, ?_⟩
  · unfold wordB
    have hlb : (4 : Nat) ≤ LB := by decide
    have hws' : ws.length < 1000000 := by omega
    simp [defI, startE, entry, PK.sl, mSeq, mIf, mTest, m2, M.bind, mVal, mOv, mC, M.ret, Sl.dat, mRd, rd, M.lift, fI, fI0, mS, mAsg, gN, mHas, ownL, Sl.own, reown, mRet, mVar, mNext, io0, mCallI, maCons, maNil, mRds, rds, frOk, apart, mdCons, mdNil, mLst, mIt, mFor, mDrop, mMut, appF, hp, hn, hr, h5, hlb, ea, hws']
  · rw [app_cps]
    show (w'.cps.toList ++ [s]).getLast? = some s
    simp [defI, startE, entry, PK.sl, mSeq, mIf, mTest, m2, M.bind, mVal, mOv, mC, M.ret, Sl.dat, mRd, rd, M.lift, fI, fI0, mS, mAsg, gN, mHas, ownL, Sl.own, reown, mRet, mVar, mNext, io0, mCallI, maCons, maNil, mRds, rds, frOk, apart, mdCons, mdNil, mLst, mIt, mFor, mDrop, mMut, appF]
/-- words: each ends in its own sign -/
def WdAll (ws : List Str) (ss : List Nat) : Prop := ws.length = ss.length ∧ ∀ (i : Nat) (x : Str) (s : Nat), ws[i]? = some x → ss[i]? = some s → Wd x s
theorem WdAll.snoc {ws : List Str} {ss : List Nat} {x : Str} {s : Nat} (h : WdAll ws ss) (g : Wd x s) : WdAll (ws ++ [x]) (ss ++ [s]) := by
  refine ⟨by rw [List.length_append, List.length_append, h.1]; rfl, fun i y t hy ht => ?_⟩
  by_cases c : i < ws.length
  · rw [List.getElem?_append_left c] at hy
    rw [List.getElem?_append_left (by rw [← h.1]; exact c)] at ht
    exact h.2 i y t hy ht
  · rw [List.getElem?_append_right (by omega)] at hy
    rw [List.getElem?_append_right (by rw [← h.1]; omega)] at ht
    rw [h.1] at hy
    cases e : i - ss.length with
    | zero => rw [e] at hy ht; cases hy; cases ht; exact g
    | succ j => rw [e] at hy; simp [defI, startE, entry, PK.sl, mSeq, mIf, mTest, m2, M.bind, mVal, mOv, mC, M.ret, Sl.dat, mRd, rd, M.lift, fI, fI0, mS, mAsg, gN, mHas, ownL, Sl.own, reown, mRet, mVar, mNext, io0, mCallI, maCons, maNil, mRds, rds, frOk, apart, mdCons, mdNil, mLst, mIt, mFor, mDrop, mMut, appF] at hy
theorem words_loop (c : Cs) (m : Int) : ∀ (ss : List Nat) (a b k : Int) (ws : List Str) (pre : List Nat) (f3 f4 f5 : Sl), (∀ s ∈ ss, 97 ≤ s ∧ s ≤ 122) → ws.length + ss.length ≤ 50 → WdAll ws pre →
    ∃ a' b' k' ws' f3' f4' f5', forL (gN 3) (wordB c) (ss.map fun s => D.str ⟨#[s]⟩) [.io (rs a b k), .fr (.int m), .ow (.lst (ws.map .str)), f3, f4, f5] = some (.nx [.io (rs a' b' k'), .fr (.int m), .ow (.lst (ws'.map .str)), f3', f4', f5']) ∧ WdAll ws' (pre ++ ss)
  | [], a, b, k, ws, pre, f3, f4, f5, _, _, h => ⟨a, b, k, ws, f3, f4, f5, rfl, by rw [List.append_nil]; exact h⟩
  | s :: ss, a, b, k, ws, pre, f3, f4, f5, hs, hl, h => by
    simp only [List.length_cons] at hl
    obtain ⟨a1, b1, k1, x, f41, f51, h1, h2⟩ := word_step c a b k m ws (by omega) s (hs s List.mem_cons_self) f4 f5
    obtain ⟨a', b', k', ws', f3', f4', f5', h3, h4⟩ := words_loop c m ss a1 b1 k1 (ws ++ [x]) (pre ++ [s]) (.fr (.str ⟨#[s]⟩)) f41 f51 (fun t ht => hs t (List.mem_cons_of_mem _ ht)) (by rw [List.length_append]; simp only [List.length_cons, List.length_nil]; omega) (h.snoc h2)
    refine ⟨a', b', k', ws', f3', f4', f5', ?_, by rw [List.append_assoc] at h4; exact h4⟩
    rw [List.map_cons]
    simp only [forL, gN]
    have e : ([.io (rs a b k), .fr (.int m), .ow (.lst (ws.map .str)), f3, f4, f5] : En).set 3 (.fr (.str ⟨#[s]⟩)) = [.io (rs a b k), .fr (.int m), .ow (.lst (ws.map .str)), .fr (.str ⟨#[s]⟩), f4, f5] := rfl
    rw [e, h1]
    exact h3
def sgn : List Nat := [115, 111, 114, 116, 101, 110, 100]
theorem words_spec (c : Cs) (a b k : Int) (m : Nat) (hm : m ≤ 7) : ∃ ws a' b' k', g__law_words c [rs a b k, .int m] = some (.lst (ws.map .str), rs a' b' k') ∧ WdAll ws (sgn.take m) := by
  have hsg : ∀ s ∈ sgn.take m, 97 ≤ s ∧ s ≤ 122 := fun s hs => by
    have : s ∈ sgn := List.mem_of_mem_take hs
    have h : ∀ s ∈ sgn, 97 ≤ s ∧ s ≤ 122 := by decide
    exact h s this
  obtain ⟨a', b', k', ws', f3', f4', f5', h3, h4⟩ := words_loop c m (sgn.take m) a b k [] [] .un .un .un hsg (by rw [List.length_take]; simp only [List.length_nil]; have : sgn.length = 7 := rfl; omega) ⟨rfl, fun i x s h => by simp [defI, startE, entry, PK.sl, mSeq, mIf, mTest, m2, M.bind, mVal, mOv, mC, M.ret, Sl.dat, mRd, rd, M.lift, fI, fI0, mS, mAsg, gN, mHas, ownL, Sl.own, reown, mRet, mVar, mNext, io0, mCallI, maCons, maNil, mRds, rds, frOk, apart, mdCons, mdNil, mLst, mIt, mFor, mDrop, mMut, appF] at h⟩
  refine ⟨ws', a', b', k', ?_, h4⟩
  have hsl : slD (.str "sortend") none (some (m : Int)) = some (.str ⟨(sgn.take m).toArray⟩) := by
    have : m = 0 ∨ m = 1 ∨ m = 2 ∨ m = 3 ∨ m = 4 ∨ m = 5 ∨ m = 6 ∨ m = 7 := by omega
    rcases this with rfl | rfl | rfl | rfl | rfl | rfl | rfl | rfl <;> rfl
  have hsz : min m sgn.length ≤ 1000000 := by omega
  have h3' : forL (gN 3) (wordB c) (signsD ⟨(sgn.take m).toArray⟩) [.io (rs a b k), .fr (.int m), .ow (.lst []), .un, .un, .un] = _ := h3
  have em : m__law_words c = mSeq (mAsgO 2 (mLst mdNil)) (mSeq (mFor (mTxtOf (mSl slD (mVal (mC (.str "sortend"))) mpNone (mpSome (mVar 1)))) (gN 3) (wordB c)) (mRet (mVar 2))) := rfl
  simp [defI, startE, entry, PK.sl, mSeq, mIf, mTest, m2, M.bind, mVal, mOv, mC, M.ret, Sl.dat, mRd, rd, M.lift, fI, fI0, mS, mAsg, gN, mHas, ownL, Sl.own, reown, mRet, mVar, mNext, io0, mCallI, maCons, maNil, mRds, rds, frOk, apart, mdCons, mdNil, mLst, mIt, mFor, mDrop, mMut, appF, g__law_words, em, mAsgO, mTxtOf, mSl, mpNone, mpSome, hsl, h3', hsz]
end
end G

set_option Elab.async false
set_option linter.all false
set_option maxRecDepth 100000
set_option maxHeartbeats 400000
/-! MBb: the rows of a stock as the laws draw them. -/
namespace G
open PySem L2 DL
def sortsD (rows : List (Str × Str)) : D := .lst (rows.map fun p => .tup [.str p.1, .str p.2])
def kindD (p : Str × List Str) : D := .tup [.str p.1, .tup (p.2.map .str)]
def kindsD (ks : List (Str × List Str)) : D := .lst (ks.map kindD)
def strLe (x y : Str) : Bool := decide (x.cps.toList ≤ y.cps.toList)
/-- texts sorted -/
def sortS (xs : List Str) : List Str := xs.mergeSort strLe
theorem strs_alike (xs : List Str) : SortOk (xs.map D.str) ↔ xs.length ≤ 1000000 := by
  constructor
  · intro h; have := h.len; rw [List.length_map] at this; exact this
  · intro h
    refine ⟨by rw [List.length_map]; exact h, fun d hd => ?_, fun d hd => ?_, fun d hd e he => ?_, Or.inr fun d hd => ?_⟩
    · obtain ⟨x, _, rfl⟩ := List.mem_map.mp hd; rfl
    · obtain ⟨x, _, rfl⟩ := List.mem_map.mp hd
      show (PyData.str x).depth ≤ 60
      simp [PyData.depth]
    · obtain ⟨x, _, rfl⟩ := List.mem_map.mp hd
      obtain ⟨y, _, rfl⟩ := List.mem_map.mp he
      show PySem.W.alike (.str x) (.str y) = true
      simp [PySem.W.alike]
    · obtain ⟨x, _, rfl⟩ := List.mem_map.mp hd; rfl
theorem sortD_strs (xs : List Str) : sortD (xs.map D.str) = (sortS xs).map D.str := by
  unfold sortD sortS
  rw [PySem.W.sort_maps (r := strLe) (s := PySem.W.dataLe false encD) D.str]
  intro a _ b _
  show strLe a b = !PySem.W.dataLt (.str b) (.str a)
  rw [PySem.W.dataLt_str, PySem.W.not_lt_str]
  rfl
theorem sortF_lst (xs : List Str) (h : xs.length ≤ 1000000) : sortF (.lst (xs.map D.str)) = some ((sortS xs).map D.str) := by
  simp only [sortF, sortOk_iff.mpr ((strs_alike xs).mpr h), if_true, sortD_strs]
theorem sortF_tup (xs : List Str) (h : xs.length ≤ 1000000) : sortF (.tup (xs.map D.str)) = some ((sortS xs).map D.str) := by
  simp only [sortF, sortOk_iff.mpr ((strs_alike xs).mpr h), if_true, sortD_strs]
section
/-- an end of a kind, drawn among the sorts -/
def endE (c : Cs) : M D := m2 ixD (mVal (m2 ixD (mOv 6) (mVal (mCallI 0 [.fr] (g__law_pick c) (maCons (mVal (mA (fA1 lenD) (maCons (mOv 6) maNil))) maNil))))) (mVal (mC (.int 0)))
theorem atI_nat {α : Type} {xs : List α} {r : Int} (h0 : 0 ≤ r) (h1 : r < xs.length) : ∃ h : r.toNat < xs.length, atI xs r = some xs[r.toNat] := by
  have h : r.toNat < xs.length := by omega
  refine ⟨h, ?_⟩
  unfold atI ixN
  simp [defI, startE, entry, PK.sl, mSeq, mIf, mTest, m2, M.bind, mVal, mOv, mC, M.ret, Sl.dat, mRd, rd, M.lift, fI, fI0, mS, mAsg, gN, mHas, ownL, Sl.own, reown, mRet, mVar, mNext, io0, mCallI, maCons, maNil, mRds, rds, frOk, apart, mdCons, mdNil, mLst, mIt, mFor, mDrop, mMut, appF, mA, fA1, lenD, wipeE, h0, h1, h]
theorem end_step (c : Cs) (a b k : Int) (sorts : List (Str × Str)) (hs : 1 ≤ sorts.length ∧ sorts.length ≤ 3) (f1 f2 f3 f4 f5 f7 f8 f9 f10 : Sl) :
    ∃ a' b' k' x, endE c [.io (rs a b k), f1, f2, f3, f4, f5, .fr (sortsD sorts), f7, f8, f9, f10] = some (.ok (.str x) [.io (rs a' b' k'), f1, f2, f3, f4, f5, .fr (sortsD sorts), f7, f8, f9, f10]) ∧ x ∈ sorts.map (·.1) := by
  obtain ⟨r, a', b', k', hp, h0, h1⟩ := pick_spec c a b k sorts.length (by omega) (by omega)
  obtain ⟨h, e⟩ := atI_nat (xs := sorts.map fun p => D.tup [.str p.1, .str p.2]) h0 (by rw [List.length_map]; exact h1)
  have h' : r.toNat < sorts.length := by rw [List.length_map] at h; exact h
  refine ⟨a', b', k', (sorts[r.toNat]'h').1, ?_, List.mem_map.mpr ⟨_, List.getElem_mem h', rfl⟩⟩
  rw [List.getElem_map] at e
  have e1 : ixD (.lst (sorts.map fun p => D.tup [.str p.1, .str p.2])) (.int r) = some (.tup [.str (sorts[r.toNat]'h').1, .str (sorts[r.toNat]'h').2]) := e
  have e2 : ixD (.tup [.str (sorts[r.toNat]'h').1, .str (sorts[r.toNat]'h').2]) (.int 0) = some (.str (sorts[r.toNat]'h').1) := rfl
  unfold endE sortsD
  simp [defI, startE, entry, PK.sl, mSeq, mIf, mTest, m2, M.bind, mVal, mOv, mC, M.ret, Sl.dat, mRd, rd, M.lift, fI, fI0, mS, mAsg, gN, mHas, ownL, Sl.own, reown, mRet, mVar, mNext, io0, mCallI, maCons, maNil, mRds, rds, frOk, apart, mdCons, mdNil, mLst, mIt, mFor, mDrop, mMut, appF, mA, fA1, lenD, wipeE, hp, e1, e2]
/-- the ends of a kind -/
def endsM (c : Cs) : M D := mLc (mIt rg1 (mdCons (m2 addD (mVal (mC (.int 1))) (mVal (mCallI 0 [.fr] (g__law_pick c) (maCons (mVal (mVar 1)) maNil)))) mdNil)) (gN 10) mYes (endE c) [10]
theorem ends_spec (c : Cs) (a b k : Int) (m : Nat) (hm : 1 ≤ m ∧ m ≤ 5) (sorts : List (Str × Str)) (hs : 1 ≤ sorts.length ∧ sorts.length ≤ 3) (f2 f3 f4 f5 f7 f8 f9 f10 : Sl) :
    ∃ (a' b' k' : Int) (xs : List Str), endsM c [.io (rs a b k), .fr (.int m), f2, f3, f4, f5, .fr (sortsD sorts), f7, f8, f9, f10] = some (.ok (.lst (xs.map .str)) [.io (rs a' b' k'), .fr (.int m), f2, f3, f4, f5, .fr (sortsD sorts), f7, f8, f9, .un]) ∧
      (∀ x ∈ xs, x ∈ sorts.map (·.1)) ∧ 1 ≤ xs.length ∧ xs.length ≤ m := by
  obtain ⟨r, a1, b1, k1, hp, h0, h1⟩ := pick_spec c a b k m (by omega) (by omega)
  have ea : addD (.int 1) (.int r) = some (.int (1 + r)) := rfl
  have hrg : rg1 [.int (1 + r)] = some ((List.range (1 + r).toNat).map fun i => D.int (0 + (i : Nat))) := by
    have : -1000000 ≤ 1 + r ∧ 1 + r ≤ 1000000 := by omega
    simp only [rg1, this, and_self, if_true, rangeD]
  obtain ⟨out, δ', g1, ⟨a', b', k', xs, rfl, g2, rfl⟩, g4⟩ := mLc_rel (as := List.range (1 + r).toNat) (enc := fun i => D.int (0 + (i : Nat))) (it := mIt rg1 (mdCons (m2 addD (mVal (mC (.int 1))) (mVal (mCallI 0 [.fr] (g__law_pick c) (maCons (mVal (mVar 1)) maNil)))) mdNil)) (g := gN 10) (e := endE c) (vs := [10])
    (δ := [.io (rs a b k), .fr (.int m), f2, f3, f4, f5, .fr (sortsD sorts), f7, f8, f9, f10]) (δ0 := [.io (rs a1 b1 k1), .fr (.int m), f2, f3, f4, f5, .fr (sortsD sorts), f7, f8, f9, f10])
    (fun acc δ => ∃ (a b k : Int) (xs : List Str), acc = xs.map D.str ∧ (∀ x ∈ xs, x ∈ sorts.map fun p => p.1) ∧ δ = [.io (rs a b k), .fr (.int m), f2, f3, f4, f5, .fr (sortsD sorts), f7, f8, f9, .un])
    (by simp [defI, startE, entry, PK.sl, mSeq, mIf, mTest, m2, M.bind, mVal, mOv, mC, M.ret, Sl.dat, mRd, rd, M.lift, fI, fI0, mS, mAsg, gN, mHas, ownL, Sl.own, reown, mRet, mVar, mNext, io0, mCallI, maCons, maNil, mRds, rds, frOk, apart, mdCons, mdNil, mLst, mIt, mFor, mDrop, mMut, appF, mA, fA1, lenD, wipeE, hp, ea, hrg]) ⟨a1, b1, k1, [], rfl, (fun x hx => by cases hx), rfl⟩ (by
      rintro acc i δ _ ⟨a, b, k, xs, rfl, hx, rfl⟩
      obtain ⟨a', b', k', x, e1, e2⟩ := end_step c a b k sorts hs (.fr (.int m)) f2 f3 f4 f5 f7 f8 f9 (.fr (.int (0 + (i : Nat))))
      refine ⟨_, .str x, _, rfl, e1, a', b', k', xs ++ [x], by rw [List.map_append]; rfl, fun y hy => ?_, rfl⟩
      rcases List.mem_append.mp hy with hy | hy
      · exact hx y hy
      · rw [List.mem_singleton.mp hy]; exact e2)
  rw [List.length_map, List.length_range] at g4
  exact ⟨a', b', k', xs, g1, g2, by omega, by omega⟩
def kindB (c : Cs) : Ms := mSeq (mAsgO 9 (endsM c)) (mDrop (mMut appF 7 (mdCons (mTup (mdCons (mVar 8) (mdCons (mA (fA1 tupD) (maCons (mVal (mnA (fN1 sortF) (maCons (mOv 9) maNil))) maNil)) mdNil))) mdNil)))
theorem kind_step (c : Cs) (a b k : Int) (m : Nat) (hm : 1 ≤ m ∧ m ≤ 5) (sorts : List (Str × Str)) (hs : 1 ≤ sorts.length ∧ sorts.length ≤ 3) (ks : List (Str × List Str)) (hks : ks.length < 100) (x : Str) (f2 f3 f4 f5 f9 f10 : Sl) :
    ∃ (a' b' k' : Int) (xs : List Str) (f9' : Sl), kindB c [.io (rs a b k), .fr (.int m), f2, f3, f4, f5, .fr (sortsD sorts), .ow (kindsD ks), .fr (.str x), f9, f10] = some (.nx [.io (rs a' b' k'), .fr (.int m), f2, f3, f4, f5, .fr (sortsD sorts), .ow (kindsD (ks ++ [(x, sortS xs)])), .fr (.str x), f9', .un]) ∧
      (∀ y ∈ xs, y ∈ sorts.map fun p => p.1) ∧ 1 ≤ xs.length ∧ xs.length ≤ m := by
  obtain ⟨a', b', k', xs, h1, h2, h3, h4⟩ := ends_spec c a b k m hm sorts hs f2 f3 f4 f5 (.ow (kindsD ks)) (.fr (.str x)) f9 f10
  refine ⟨a', b', k', xs, .ow (.lst (xs.map .str)), ?_, h2, h3, h4⟩
  have hso := sortF_lst xs (by omega)
  have l2 : (2 : Nat) ≤ LB := by decide
  have hk : ks.length < 1000000 := by omega
  have ek : kindsD (ks ++ [(x, sortS xs)]) = .lst (ks.map kindD ++ [.tup [.str x, .tup ((sortS xs).map .str)]]) := by unfold kindsD; rw [List.map_append]; rfl
  rw [ek]
  unfold kindB
  have hkd : kindsD ks = .lst (ks.map kindD) := rfl
  rw [hkd] at h1 ⊢
  simp [defI, startE, entry, PK.sl, mSeq, mIf, mTest, m2, M.bind, mVal, mOv, mC, M.ret, Sl.dat, mRd, rd, M.lift, fI, fI0, mS, mAsg, gN, mHas, ownL, Sl.own, reown, mRet, mVar, mNext, io0, mCallI, maCons, maNil, mRds, rds, frOk, apart, mdCons, mdNil, mLst, mIt, mFor, mDrop, mMut, appF, mA, fA1, lenD, wipeE, mTup, mnA, fN1, tupD, mAsgO, h1, hso, l2, hk]
/-- kinds of drawn ends under drawn names -/
def KindsOk (sorts : List (Str × Str)) (m : Nat) (ks : List (Str × List Str)) : Prop := ∀ p ∈ ks, ∃ xs : List Str, p.2 = sortS xs ∧ (∀ y ∈ xs, y ∈ sorts.map fun q => q.1) ∧ 1 ≤ xs.length ∧ xs.length ≤ m
theorem kinds_loop (c : Cs) (m : Nat) (hm : 1 ≤ m ∧ m ≤ 5) (sorts : List (Str × Str)) (hs : 1 ≤ sorts.length ∧ sorts.length ≤ 3) (f2 f3 f4 f5 : Sl) : ∀ (ws : List Str) (a b k : Int) (ks : List (Str × List Str)) (f8 f9 f10 : Sl), ks.length + ws.length ≤ 50 → KindsOk sorts m ks →
    ∃ (a' b' k' : Int) (ks' : List (Str × List Str)) (f8' f9' f10' : Sl), forL (gN 8) (kindB c) (ws.map .str) [.io (rs a b k), .fr (.int m), f2, f3, f4, f5, .fr (sortsD sorts), .ow (kindsD ks), f8, f9, f10] = some (.nx [.io (rs a' b' k'), .fr (.int m), f2, f3, f4, f5, .fr (sortsD sorts), .ow (kindsD ks'), f8', f9', f10']) ∧
      KindsOk sorts m ks' ∧ ks'.map (fun p => p.1) = ks.map (fun p => p.1) ++ ws
  | [], a, b, k, ks, f8, f9, f10, _, h => ⟨a, b, k, ks, f8, f9, f10, rfl, h, by rw [List.append_nil]⟩
  | x :: ws, a, b, k, ks, f8, f9, f10, hl, h => by
    simp only [List.length_cons] at hl
    obtain ⟨a1, b1, k1, xs, f91, h1, h2, h3, h4⟩ := kind_step c a b k m hm sorts hs ks (by omega) x f2 f3 f4 f5 f9 f10
    obtain ⟨a', b', k', ks', f8', f9', f10', g1, g2, g3⟩ := kinds_loop c m hm sorts hs f2 f3 f4 f5 ws a1 b1 k1 (ks ++ [(x, sortS xs)]) (.fr (.str x)) f91 .un (by rw [List.length_append]; simp only [List.length_cons, List.length_nil]; omega) (fun p hp => by
      rcases List.mem_append.mp hp with hp | hp
      · exact h p hp
      · rw [List.mem_singleton.mp hp]; exact ⟨xs, rfl, h2, h3, h4⟩)
    refine ⟨a', b', k', ks', f8', f9', f10', ?_, g2, by rw [g3, List.map_append, List.append_assoc]; rfl⟩
    rw [List.map_cons]
    simp only [forL, gN]
    have e : ([.io (rs a b k), .fr (.int m), f2, f3, f4, f5, .fr (sortsD sorts), .ow (kindsD ks), f8, f9, f10] : En).set 8 (.fr (.str x)) = [.io (rs a b k), .fr (.int m), f2, f3, f4, f5, .fr (sortsD sorts), .ow (kindsD ks), .fr (.str x), f9, f10] := rfl
    rw [e, h1]
    exact g1
end
end G

set_option Elab.async false
set_option linter.all false
set_option maxRecDepth 100000
set_option maxHeartbeats 1000000
/-! MBc: a stock's rows drawn. -/
namespace G
open PySem L2 DL
structure SortsOk (sorts : List (Str × Str)) : Prop where
  lo : 1 ≤ sorts.length
  hi : sorts.length ≤ 3
  nm : ∀ p ∈ sorts, NameOk p.1 ∧ NameOk p.2
  nd : (sorts.map fun p => p.1).Nodup
  mu : ∀ p ∈ sorts, (p.2, p.1) ∈ sorts
theorem wd_ne {x y : Str} {s t : Nat} (h : Wd x s) (g : Wd y t) (ne : s ≠ t) : x ≠ y := fun e => by
  subst e
  have := h.2.symm.trans g.2
  exact ne (Option.some.inj this)
theorem words3 {ws : List Str} (h : WdAll ws (sgn.take 3)) : ∃ x y z, ws = [x, y, z] ∧ Wd x 115 ∧ Wd y 111 ∧ Wd z 114 := by
  match ws, h with
  | [x, y, z], h => exact ⟨x, y, z, rfl, h.2 0 x 115 rfl rfl, h.2 1 y 111 rfl rfl, h.2 2 z 114 rfl rfl⟩
  | [], h => exact absurd h.1 (by decide)
  | [_], h => have := h.1; simp [sgn] at this
  | [_, _], h => have := h.1; simp [sgn] at this
  | _ :: _ :: _ :: _ :: _, h => have := h.1; simp [sgn] at this
theorem words_nd {ws : List Str} {m : Nat} (h : WdAll ws (sgn.take m)) : ws.Nodup ∧ ∀ x ∈ ws, NameOk x := by
  have hl := h.1
  constructor
  · refine List.pairwise_iff_getElem.mpr fun i j hi hj hij e => ?_
    have s1 := List.getElem?_eq_getElem (l := sgn.take m) (i := i) (by omega)
    have s2 := List.getElem?_eq_getElem (l := sgn.take m) (i := j) (by omega)
    have w1 := h.2 i _ _ (List.getElem?_eq_getElem hi) s1
    have w2 := h.2 j _ _ (List.getElem?_eq_getElem hj) s2
    have nd : (sgn.take m).Nodup := List.Nodup.sublist (List.take_sublist m sgn) (by decide)
    exact wd_ne w1 w2 (List.pairwise_iff_getElem.mp nd i j (by omega) (by omega) hij) e
  · intro x hx
    obtain ⟨i, hi, e⟩ := List.mem_iff_getElem.mp hx
    have s1 := List.getElem?_eq_getElem (l := sgn.take m) (i := i) (by omega)
    exact (h.2 i x _ (by rw [List.getElem?_eq_getElem hi, e]) s1).1
section
theorem sorts_pick (x y z : Str) (hx : Wd x 115) (hy : Wd y 111) (hz : Wd z 114) (r : Int) (h0 : 0 ≤ r) (h1 : r < 4) : ∃ sorts, SortsOk sorts ∧
    ixD (.lst [.lst [.tup [.str x, .str x]], .lst [.tup [.str x, .str y], .tup [.str y, .str x]], .lst [.tup [.str y, .str y], .tup [.str x, .str z], .tup [.str z, .str x]], .lst [.tup [.str x, .str x], .tup [.str y, .str y], .tup [.str z, .str z]]]) (.int r) = some (sortsD sorts) := by
  have xy := wd_ne hx hy (by decide)
  have xz := wd_ne hx hz (by decide)
  have yz := wd_ne hy hz (by decide)
  have nx := hx.1
  have ny := hy.1
  have nz := hz.1
  have : r = 0 ∨ r = 1 ∨ r = 2 ∨ r = 3 := by omega
  rcases this with rfl | rfl | rfl | rfl
  · exact ⟨[(x, x)], ⟨by simp [defI, startE, entry, PK.sl, mSeq, mIf, mTest, m2, M.bind, mVal, mOv, mC, M.ret, Sl.dat, mRd, rd, M.lift, fI, fI0, mS, mAsg, gN, mHas, ownL, Sl.own, reown, mRet, mVar, mNext, io0, mCallI, maCons, maNil, mRds, rds, frOk, apart, mdCons, mdNil, mLst, mIt, mFor, mDrop, mMut, appF, mA, fA1, lenD, wipeE, mTup, mnA, fN1, tupD, mAsgO, mSeqOf, gTL, gsC, gs0], by simp [defI, startE, entry, PK.sl, mSeq, mIf, mTest, m2, M.bind, mVal, mOv, mC, M.ret, Sl.dat, mRd, rd, M.lift, fI, fI0, mS, mAsg, gN, mHas, ownL, Sl.own, reown, mRet, mVar, mNext, io0, mCallI, maCons, maNil, mRds, rds, frOk, apart, mdCons, mdNil, mLst, mIt, mFor, mDrop, mMut, appF, mA, fA1, lenD, wipeE, mTup, mnA, fN1, tupD, mAsgO, mSeqOf, gTL, gsC, gs0], by simp [defI, startE, entry, PK.sl, mSeq, mIf, mTest, m2, M.bind, mVal, mOv, mC, M.ret, Sl.dat, mRd, rd, M.lift, fI, fI0, mS, mAsg, gN, mHas, ownL, Sl.own, reown, mRet, mVar, mNext, io0, mCallI, maCons, maNil, mRds, rds, frOk, apart, mdCons, mdNil, mLst, mIt, mFor, mDrop, mMut, appF, mA, fA1, lenD, wipeE, mTup, mnA, fN1, tupD, mAsgO, mSeqOf, gTL, gsC, gs0, nx], by simp [defI, startE, entry, PK.sl, mSeq, mIf, mTest, m2, M.bind, mVal, mOv, mC, M.ret, Sl.dat, mRd, rd, M.lift, fI, fI0, mS, mAsg, gN, mHas, ownL, Sl.own, reown, mRet, mVar, mNext, io0, mCallI, maCons, maNil, mRds, rds, frOk, apart, mdCons, mdNil, mLst, mIt, mFor, mDrop, mMut, appF, mA, fA1, lenD, wipeE, mTup, mnA, fN1, tupD, mAsgO, mSeqOf, gTL, gsC, gs0], by simp [defI, startE, entry, PK.sl, mSeq, mIf, mTest, m2, M.bind, mVal, mOv, mC, M.ret, Sl.dat, mRd, rd, M.lift, fI, fI0, mS, mAsg, gN, mHas, ownL, Sl.own, reown, mRet, mVar, mNext, io0, mCallI, maCons, maNil, mRds, rds, frOk, apart, mdCons, mdNil, mLst, mIt, mFor, mDrop, mMut, appF, mA, fA1, lenD, wipeE, mTup, mnA, fN1, tupD, mAsgO, mSeqOf, gTL, gsC, gs0]⟩, rfl⟩
  · exact ⟨[(x, y), (y, x)], ⟨by simp [defI, startE, entry, PK.sl, mSeq, mIf, mTest, m2, M.bind, mVal, mOv, mC, M.ret, Sl.dat, mRd, rd, M.lift, fI, fI0, mS, mAsg, gN, mHas, ownL, Sl.own, reown, mRet, mVar, mNext, io0, mCallI, maCons, maNil, mRds, rds, frOk, apart, mdCons, mdNil, mLst, mIt, mFor, mDrop, mMut, appF, mA, fA1, lenD, wipeE, mTup, mnA, fN1, tupD, mAsgO, mSeqOf, gTL, gsC, gs0], by simp [defI, startE, entry, PK.sl, mSeq, mIf, mTest, m2, M.bind, mVal, mOv, mC, M.ret, Sl.dat, mRd, rd, M.lift, fI, fI0, mS, mAsg, gN, mHas, ownL, Sl.own, reown, mRet, mVar, mNext, io0, mCallI, maCons, maNil, mRds, rds, frOk, apart, mdCons, mdNil, mLst, mIt, mFor, mDrop, mMut, appF, mA, fA1, lenD, wipeE, mTup, mnA, fN1, tupD, mAsgO, mSeqOf, gTL, gsC, gs0], by simp [defI, startE, entry, PK.sl, mSeq, mIf, mTest, m2, M.bind, mVal, mOv, mC, M.ret, Sl.dat, mRd, rd, M.lift, fI, fI0, mS, mAsg, gN, mHas, ownL, Sl.own, reown, mRet, mVar, mNext, io0, mCallI, maCons, maNil, mRds, rds, frOk, apart, mdCons, mdNil, mLst, mIt, mFor, mDrop, mMut, appF, mA, fA1, lenD, wipeE, mTup, mnA, fN1, tupD, mAsgO, mSeqOf, gTL, gsC, gs0, nx, ny], by simp [defI, startE, entry, PK.sl, mSeq, mIf, mTest, m2, M.bind, mVal, mOv, mC, M.ret, Sl.dat, mRd, rd, M.lift, fI, fI0, mS, mAsg, gN, mHas, ownL, Sl.own, reown, mRet, mVar, mNext, io0, mCallI, maCons, maNil, mRds, rds, frOk, apart, mdCons, mdNil, mLst, mIt, mFor, mDrop, mMut, appF, mA, fA1, lenD, wipeE, mTup, mnA, fN1, tupD, mAsgO, mSeqOf, gTL, gsC, gs0, xy], by simp [defI, startE, entry, PK.sl, mSeq, mIf, mTest, m2, M.bind, mVal, mOv, mC, M.ret, Sl.dat, mRd, rd, M.lift, fI, fI0, mS, mAsg, gN, mHas, ownL, Sl.own, reown, mRet, mVar, mNext, io0, mCallI, maCons, maNil, mRds, rds, frOk, apart, mdCons, mdNil, mLst, mIt, mFor, mDrop, mMut, appF, mA, fA1, lenD, wipeE, mTup, mnA, fN1, tupD, mAsgO, mSeqOf, gTL, gsC, gs0]⟩, rfl⟩
  · exact ⟨[(y, y), (x, z), (z, x)], ⟨by simp [defI, startE, entry, PK.sl, mSeq, mIf, mTest, m2, M.bind, mVal, mOv, mC, M.ret, Sl.dat, mRd, rd, M.lift, fI, fI0, mS, mAsg, gN, mHas, ownL, Sl.own, reown, mRet, mVar, mNext, io0, mCallI, maCons, maNil, mRds, rds, frOk, apart, mdCons, mdNil, mLst, mIt, mFor, mDrop, mMut, appF, mA, fA1, lenD, wipeE, mTup, mnA, fN1, tupD, mAsgO, mSeqOf, gTL, gsC, gs0], by simp [defI, startE, entry, PK.sl, mSeq, mIf, mTest, m2, M.bind, mVal, mOv, mC, M.ret, Sl.dat, mRd, rd, M.lift, fI, fI0, mS, mAsg, gN, mHas, ownL, Sl.own, reown, mRet, mVar, mNext, io0, mCallI, maCons, maNil, mRds, rds, frOk, apart, mdCons, mdNil, mLst, mIt, mFor, mDrop, mMut, appF, mA, fA1, lenD, wipeE, mTup, mnA, fN1, tupD, mAsgO, mSeqOf, gTL, gsC, gs0], by simp [defI, startE, entry, PK.sl, mSeq, mIf, mTest, m2, M.bind, mVal, mOv, mC, M.ret, Sl.dat, mRd, rd, M.lift, fI, fI0, mS, mAsg, gN, mHas, ownL, Sl.own, reown, mRet, mVar, mNext, io0, mCallI, maCons, maNil, mRds, rds, frOk, apart, mdCons, mdNil, mLst, mIt, mFor, mDrop, mMut, appF, mA, fA1, lenD, wipeE, mTup, mnA, fN1, tupD, mAsgO, mSeqOf, gTL, gsC, gs0, nx, ny, nz], by simp [defI, startE, entry, PK.sl, mSeq, mIf, mTest, m2, M.bind, mVal, mOv, mC, M.ret, Sl.dat, mRd, rd, M.lift, fI, fI0, mS, mAsg, gN, mHas, ownL, Sl.own, reown, mRet, mVar, mNext, io0, mCallI, maCons, maNil, mRds, rds, frOk, apart, mdCons, mdNil, mLst, mIt, mFor, mDrop, mMut, appF, mA, fA1, lenD, wipeE, mTup, mnA, fN1, tupD, mAsgO, mSeqOf, gTL, gsC, gs0, xy.symm, yz, xz], by simp [defI, startE, entry, PK.sl, mSeq, mIf, mTest, m2, M.bind, mVal, mOv, mC, M.ret, Sl.dat, mRd, rd, M.lift, fI, fI0, mS, mAsg, gN, mHas, ownL, Sl.own, reown, mRet, mVar, mNext, io0, mCallI, maCons, maNil, mRds, rds, frOk, apart, mdCons, mdNil, mLst, mIt, mFor, mDrop, mMut, appF, mA, fA1, lenD, wipeE, mTup, mnA, fN1, tupD, mAsgO, mSeqOf, gTL, gsC, gs0]⟩, rfl⟩
  · exact ⟨[(x, x), (y, y), (z, z)], ⟨by simp [defI, startE, entry, PK.sl, mSeq, mIf, mTest, m2, M.bind, mVal, mOv, mC, M.ret, Sl.dat, mRd, rd, M.lift, fI, fI0, mS, mAsg, gN, mHas, ownL, Sl.own, reown, mRet, mVar, mNext, io0, mCallI, maCons, maNil, mRds, rds, frOk, apart, mdCons, mdNil, mLst, mIt, mFor, mDrop, mMut, appF, mA, fA1, lenD, wipeE, mTup, mnA, fN1, tupD, mAsgO, mSeqOf, gTL, gsC, gs0], by simp [defI, startE, entry, PK.sl, mSeq, mIf, mTest, m2, M.bind, mVal, mOv, mC, M.ret, Sl.dat, mRd, rd, M.lift, fI, fI0, mS, mAsg, gN, mHas, ownL, Sl.own, reown, mRet, mVar, mNext, io0, mCallI, maCons, maNil, mRds, rds, frOk, apart, mdCons, mdNil, mLst, mIt, mFor, mDrop, mMut, appF, mA, fA1, lenD, wipeE, mTup, mnA, fN1, tupD, mAsgO, mSeqOf, gTL, gsC, gs0], by simp [defI, startE, entry, PK.sl, mSeq, mIf, mTest, m2, M.bind, mVal, mOv, mC, M.ret, Sl.dat, mRd, rd, M.lift, fI, fI0, mS, mAsg, gN, mHas, ownL, Sl.own, reown, mRet, mVar, mNext, io0, mCallI, maCons, maNil, mRds, rds, frOk, apart, mdCons, mdNil, mLst, mIt, mFor, mDrop, mMut, appF, mA, fA1, lenD, wipeE, mTup, mnA, fN1, tupD, mAsgO, mSeqOf, gTL, gsC, gs0, nx, ny, nz], by simp [defI, startE, entry, PK.sl, mSeq, mIf, mTest, m2, M.bind, mVal, mOv, mC, M.ret, Sl.dat, mRd, rd, M.lift, fI, fI0, mS, mAsg, gN, mHas, ownL, Sl.own, reown, mRet, mVar, mNext, io0, mCallI, maCons, maNil, mRds, rds, frOk, apart, mdCons, mdNil, mLst, mIt, mFor, mDrop, mMut, appF, mA, fA1, lenD, wipeE, mTup, mnA, fN1, tupD, mAsgO, mSeqOf, gTL, gsC, gs0, xy, yz, xz], by simp [defI, startE, entry, PK.sl, mSeq, mIf, mTest, m2, M.bind, mVal, mOv, mC, M.ret, Sl.dat, mRd, rd, M.lift, fI, fI0, mS, mAsg, gN, mHas, ownL, Sl.own, reown, mRet, mVar, mNext, io0, mCallI, maCons, maNil, mRds, rds, frOk, apart, mdCons, mdNil, mLst, mIt, mFor, mDrop, mMut, appF, mA, fA1, lenD, wipeE, mTup, mnA, fN1, tupD, mAsgO, mSeqOf, gTL, gsC, gs0]⟩, rfl⟩
theorem rows_spec (c : Cs) (a b k : Int) (m : Nat) (hm : 1 ≤ m ∧ m ≤ 5) : ∃ (a' b' k' : Int) (sorts : List (Str × Str)) (ks : List (Str × List Str)), g__law_stock_rows c [rs a b k, .int m] = some (.tup [sortsD sorts, kindsD ks], rs a' b' k') ∧
    SortsOk sorts ∧ KindsOk sorts m ks ∧ 1 ≤ ks.length ∧ ks.length ≤ 3 ∧ (ks.map fun p => p.1).Nodup ∧ ∀ p ∈ ks, NameOk p.1 := by
  obtain ⟨ws, a1, b1, k1, h1, h2⟩ := words_spec c a b k 3 (by decide)
  obtain ⟨x, y, z, rfl, hx, hy, hz⟩ := words3 h2
  obtain ⟨r, a2, b2, k2, hp, r0, r1⟩ := pick_spec c a1 b1 k1 4 (by decide) (by decide)
  obtain ⟨sorts, hS, hi⟩ := sorts_pick x y z hx hy hz r r0 r1
  obtain ⟨r', a3, b3, k3, hp', r0', r1'⟩ := pick_spec c a2 b2 k2 3 (by decide) (by decide)
  obtain ⟨n, rfl⟩ : ∃ n : Nat, r' = n := ⟨r'.toNat, by omega⟩
  obtain ⟨us, a4, b4, k4, g1, g2⟩ := words_spec c a3 b3 k3 (1 + n) (by omega)
  have hn : (sgn.take (1 + n)).length = 1 + n := by rw [List.length_take]; have : sgn.length = 7 := rfl; omega
  have lu : us.length = 1 + n := by rw [g2.1, hn]
  obtain ⟨a5, b5, k5, ks, f8, f9, f10, e1, e2, e3⟩ := kinds_loop c m hm sorts ⟨hS.lo, hS.hi⟩ (.fr (.str x)) (.fr (.str y)) (.fr (.str z)) (.ow (.lst [.lst [.tup [.str x, .str x]], .lst [.tup [.str x, .str y], .tup [.str y, .str x]], .lst [.tup [.str y, .str y], .tup [.str x, .str z], .tup [.str z, .str x]], .lst [.tup [.str x, .str x], .tup [.str y, .str y], .tup [.str z, .str z]]]))
    us a4 b4 k4 [] .un .un .un (by simp only [List.length_nil]; omega) (fun p hp => by cases hp)
  have e3 : ks.map (fun p => p.1) = us := e3
  have lk : ks.length = 1 + n := by rw [← lu, ← e3, List.length_map]
  obtain ⟨nd, nm⟩ := words_nd g2
  refine ⟨a5, b5, k5, sorts, ks, ?_, hS, e2, by omega, by omega, by rw [e3]; exact nd, fun p hp => nm _ (by rw [← e3]; exact List.mem_map.mpr ⟨p, hp, rfl⟩)⟩
  have em : m__law_stock_rows c = mSeq (mAsg (gTL (gsC (gN 2) (gsC (gN 3) (gsC (gN 4) gs0)))) (mCallI 0 [.fr] (g__law_words c) (maCons (mVal (mC (.int 3))) maNil))) (mSeq (mAsgO 5 (mLst (mdCons (mLst (mdCons (mTup (mdCons (mVar 2) (mdCons (mVar 2) mdNil))) mdNil)) (mdCons (mLst (mdCons (mTup (mdCons (mVar 2) (mdCons (mVar 3) mdNil))) (mdCons (mTup (mdCons (mVar 3) (mdCons (mVar 2) mdNil))) mdNil))) (mdCons (mLst (mdCons (mTup (mdCons (mVar 3) (mdCons (mVar 3) mdNil))) (mdCons (mTup (mdCons (mVar 2) (mdCons (mVar 4) mdNil))) (mdCons (mTup (mdCons (mVar 4) (mdCons (mVar 2) mdNil))) mdNil)))) mdNil))))) (mSeq (mDrop (mMut appF 5 (mdCons (mLst (mdCons (mTup (mdCons (mVar 2) (mdCons (mVar 2) mdNil))) (mdCons (mTup (mdCons (mVar 3) (mdCons (mVar 3) mdNil))) (mdCons (mTup (mdCons (mVar 4) (mdCons (mVar 4) mdNil))) mdNil)))) mdNil))) (mSeq (mAsg (gN 6) (m2 ixD (mOv 5) (mVal (mCallI 0 [.fr] (g__law_pick c) (maCons (mVal (mC (.int 4))) maNil))))) (mSeq (mAsgO 7 (mLst mdNil)) (mSeq (mFor (mSeqOf (mCallI 0 [.fr] (g__law_words c) (maCons (mVal (m2 addD (mVal (mC (.int 1))) (mVal (mCallI 0 [.fr] (g__law_pick c) (maCons (mVal (mC (.int 3))) maNil))))) maNil))) (gN 8) (kindB c)) (mRet (mTup (mdCons (mVar 6) (mdCons (mVar 7) mdNil))))))))) := rfl
  have l1 : (1 : Nat) ≤ LB := by decide
  have l2 : (2 : Nat) ≤ LB := by decide
  have l3 : (3 : Nat) ≤ LB := by decide
  have ea : addD (.int 1) (.int n) = some (.int (1 + (n : Int))) := rfl
  have g1' : g__law_words c [rs a3 b3 k3, .int (1 + (n : Int))] = some (.lst (us.map .str), rs a4 b4 k4) := by
    have e : (1 + (n : Int)) = ((1 + n : Nat) : Int) := by omega
    rw [e]; exact g1
  have h1' : g__law_words c [rs a b k, .int 3] = some (.lst [.str x, .str y, .str z], rs a1 b1 k1) := h1
  have e1' : forL (gN 8) (kindB c) (us.map .str) [.io (rs a4 b4 k4), .fr (.int m), .fr (.str x), .fr (.str y), .fr (.str z), .ow (.lst [.lst [.tup [.str x, .str x]], .lst [.tup [.str x, .str y], .tup [.str y, .str x]], .lst [.tup [.str y, .str y], .tup [.str x, .str z], .tup [.str z, .str x]], .lst [.tup [.str x, .str x], .tup [.str y, .str y], .tup [.str z, .str z]]]), .fr (sortsD sorts), .ow (.lst []), .un, .un, .un] = _ := e1
  simp [defI, startE, entry, PK.sl, mSeq, mIf, mTest, m2, M.bind, mVal, mOv, mC, M.ret, Sl.dat, mRd, rd, M.lift, fI, fI0, mS, mAsg, gN, mHas, ownL, Sl.own, reown, mRet, mVar, mNext, io0, mCallI, maCons, maNil, mRds, rds, frOk, apart, mdCons, mdNil, mLst, mIt, mFor, mDrop, mMut, appF, mA, fA1, lenD, wipeE, mTup, mnA, fN1, tupD, mAsgO, mSeqOf, gTL, gsC, gs0, g__law_stock_rows, em, h1', l1, l2, l3, hp, hi, hp', ea, g1', e1']
end
end G

set_option Elab.async false
set_option linter.all false
set_option maxRecDepth 100000
set_option maxHeartbeats 1000000
/-! MCa: a stock that is in order is made. -/
namespace G
open PySem L2 DL
theorem NameOk.ok {x : Str} (h : NameOk x) : PyData.strOk x = true := by
  unfold PyData.strOk
  rw [Array.all_eq_true']
  intro c hc
  have := h.2.2 c (Array.mem_toList_iff.mpr hc)
  exact decide_eq_true (by omega)
theorem NameOk.pl {x : Str} (h : NameOk x) {n : Nat} : Pl n (.str x) := Pl.str h.ok
def inAbc (z : Nat) : Bool := decide (z ∈ abc.cps.toList)
theorem L_is_name (c : Cs) (x : Str) (s : Sl) (hx : x.length ≤ 100) : L_is_name_0 c [.fr (.str x), s] = some (.ok (.lst (x.cps.toList.map fun z => .bl (inAbc z))) [.fr (.str x), .un]) := by
  have hs : x.length ≤ 1000000 := by omega
  refine mLc_map (as := x.cps.toList) (enc := fun z => .str ⟨#[z]⟩) (δ0 := [.fr (.str x), s]) ?_ rfl fun z _ => ⟨[.fr (.str x), .fr (.str ⟨#[z]⟩)], [.fr (.str x), .fr (.str ⟨#[z]⟩)], rfl, ?_, rfl⟩
  · have hs' : x.cps.size ≤ 1000000 := hs
    simp [defI, defG, defN, startE, entry, PK.sl, mSeq, mIf, mTest, m1, m2, mn1, mn2, M.bind, mVal, mOv, mC, M.ret, Sl.dat, mRd, rd, M.lift, fI, fI0, mS, mAsg, gN, gT, gsC, gs0, mHas, ownL, Sl.own, reown, mRet, mVar, mNext, io0, mCallI, mCallP, mCallN, mMakeP, maCons, maNil, mRds, rds, frOk, apart, mdCons, mdNil, mLst, mTup, mIt, mFor, mDrop, mMut, appF, mA, mnA, fA1, fN1, lenD, tupD, wipeE, mAsgO, mSeqOf, mSeqB, mTupOf, mTxtOf, gTL, mNot, mOr, mAnd, mAndV, mOrV, mNotV, mChain, isB, tyN, mRetW, mRetO, -List.map_map, -Int.natCast_add, -List.map_append, -List.map_cons, -List.map_nil, -List.map_const, -List.map_const_fun, signsD, hs']
  · simp [E_is_name_0, defI, defG, defN, startE, entry, PK.sl, mSeq, mIf, mTest, m1, m2, mn1, mn2, M.bind, mVal, mOv, mC, M.ret, Sl.dat, mRd, rd, M.lift, fI, fI0, mS, mAsg, gN, gT, gsC, gs0, mHas, ownL, Sl.own, reown, mRet, mVar, mNext, io0, mCallI, mCallP, mCallN, mMakeP, maCons, maNil, mRds, rds, frOk, apart, mdCons, mdNil, mLst, mTup, mIt, mFor, mDrop, mMut, appF, mA, mnA, fA1, fN1, lenD, tupD, wipeE, mAsgO, mSeqOf, mSeqB, mTupOf, mTxtOf, gTL, mNot, mOr, mAnd, mAndV, mOrV, mNotV, mChain, isB, tyN, mRetW, mRetO, -List.map_map, -Int.natCast_add, -List.map_append, -List.map_cons, -List.map_nil, -List.map_const, -List.map_const_fun, inSignD, inAbc, abc]
theorem is_name_ok (c : Cs) {x : Str} (h : NameOk x) : g_is_name c [.str x] = some (.bl true) := by
  have h8 : x.length ≤ 8 := h.2.1
  have h1 : 1 ≤ x.length := h.1
  have hL := L_is_name c x .un (by omega)
  have hA : (x.cps.toList.all inAbc) = true := by
    rw [List.all_eq_true]
    intro z hz
    have := h.2.2 z hz
    unfold inAbc
    rw [abc_list]
    exact decide_eq_true (List.mem_map.mpr ⟨z - 97, List.mem_range.mpr (by omega), by omega⟩)
  have hAll : allD (.lst (x.cps.toList.map fun z => .bl (inAbc z))) = some (.bl true) := by rw [allD_map, hA]
  have hs : x.length ≤ 1000000 := by omega
  have i8 : (x.length : Int) ≤ 8 := by omega
  have i1 : (1 : Int) ≤ (x.length : Int) := by omega
  simp [g_is_name, m_is_name, defI, defG, defN, startE, entry, PK.sl, mSeq, mIf, mTest, m1, m2, mn1, mn2, M.bind, mVal, mOv, mC, M.ret, Sl.dat, mRd, rd, M.lift, fI, fI0, mS, mAsg, gN, gT, gsC, gs0, mHas, ownL, Sl.own, reown, mRet, mVar, mNext, io0, mCallI, mCallP, mCallN, mMakeP, maCons, maNil, mRds, rds, frOk, apart, mdCons, mdNil, mLst, mTup, mIt, mFor, mDrop, mMut, appF, mA, mnA, fA1, fN1, lenD, tupD, wipeE, mAsgO, mSeqOf, mSeqB, mTupOf, mTxtOf, gTL, mNot, mOr, mAnd, mAndV, mOrV, mNotV, mChain, isB, tyN, mRetW, mRetO, -List.map_map, -Int.natCast_add, -List.map_append, -List.map_cons, -List.map_nil, -List.map_const, -List.map_const_fun, kitB, hL, hs, i1, i8, hAll]
theorem eqD_int (i j : Int) : eqD (.int i) (.int j) = some (.bl (decide (i = j))) := by
  rw [eqD_pl 0 Pl.int Pl.int]; simp
theorem neD_int (i j : Int) : neD (.int i) (.int j) = some (.bl (!decide (i = j))) := by
  rw [neD_pl 0 Pl.int Pl.int]; simp
theorem is_sort_row_ok (c : Cs) {x y : Str} (hx : NameOk x) (hy : NameOk y) : g_is_sort_row c [.tup [.str x, .str y]] = some (.bl true) := by
  simp [g_is_sort_row, m_is_sort_row, defI, defG, defN, startE, entry, PK.sl, mSeq, mIf, mTest, m1, m2, mn1, mn2, M.bind, mVal, mOv, mC, M.ret, Sl.dat, mRd, rd, M.lift, fI, fI0, mS, mAsg, gN, gT, gsC, gs0, mHas, ownL, Sl.own, reown, mRet, mVar, mNext, io0, mCallI, mCallP, mCallN, mMakeP, maCons, maNil, mRds, rds, frOk, apart, mdCons, mdNil, mLst, mTup, mIt, mFor, mDrop, mMut, appF, mA, mnA, fA1, fN1, lenD, tupD, wipeE, mAsgO, mSeqOf, mSeqB, mTupOf, mTxtOf, gTL, mNot, mOr, mAnd, mAndV, mOrV, mNotV, mChain, isB, tyN, mRetW, mRetO, -List.map_map, -Int.natCast_add, -List.map_append, -List.map_cons, -List.map_nil, -List.map_const, -List.map_const_fun, kitB, eqD_int, ixD, atI, ixN, is_name_ok c hx, is_name_ok c hy]
theorem keysD_strs : ∀ xs : List Str, keysD (xs.map .str) = some (xs.map Sum.inr)
  | [] => rfl
  | x :: xs => by simp [keysD, keyD, keysD_strs xs]
theorem dd_nodup : ∀ {ks : List Key}, ks.Nodup → dd ks = ks
  | [], _ => rfl
  | k :: ks, h => by
    have h' := List.nodup_cons.mp h
    have e : inK k ks = false := Bool.eq_false_iff.mpr fun z => h'.1 (inK_iff.mp z)
    simp [dd, e, dd_nodup h'.2]
theorem inr_nodup {xs : List Str} (h : xs.Nodup) : (xs.map (Sum.inr : Str → Key)).Nodup := by
  refine List.Pairwise.map _ (fun a b hab e => hab (Sum.inr.inj e)) h
theorem setKeys_strs (xs : List Str) (h : xs.length ≤ 4000) : setKeys (.lst (xs.map .str)) = some (xs.map Sum.inr) := by
  simp [setKeys, seqD, keysD_strs, h]
theorem lenSet_strs {xs : List Str} (h : xs.length ≤ 4000) (nd : xs.Nodup) : lenSetD (.lst (xs.map .str)) = some (.int xs.length) := by
  simp [lenSetD, setKeys_strs xs h, dd_nodup (inr_nodup nd)]
section
variable (c : Cs) {sorts : List (Str × Str)} (hS : SortsOk sorts)
include hS
theorem sorts_pl : ∀ e ∈ sorts.map (fun p => D.tup [.str p.1, .str p.2]), Pl 1 e := fun e he => by
  obtain ⟨p, hp, rfl⟩ := List.mem_map.mp he
  refine Pl.tup fun d hd => ?_
  simp at hd
  rcases hd with rfl | rfl
  · exact (hS.nm p hp).1.pl
  · exact (hS.nm p hp).2.pl
theorem L_are_sorts0 (f1 f2 f3 : Sl) : L_are_sorts_0 c [.bo (sortsD sorts), f1, f2, f3] = some (.ok (.lst (sorts.map fun _ => .bl true)) [.bo (sortsD sorts), .un, f2, f3]) := by
  refine mLc_map (as := sorts) (enc := fun p => .tup [.str p.1, .str p.2]) (δ0 := [.bo (sortsD sorts), f1, f2, f3]) rfl rfl fun p hp => ⟨[.bo (sortsD sorts), .fr (.tup [.str p.1, .str p.2]), f2, f3], [.bo (sortsD sorts), .fr (.tup [.str p.1, .str p.2]), f2, f3], rfl, ?_, rfl⟩
  simp [E_are_sorts_0, defI, defG, defN, startE, entry, PK.sl, mSeq, mIf, mTest, m1, m2, mn1, mn2, M.bind, mVal, mOv, mC, M.ret, Sl.dat, mRd, rd, M.lift, fI, fI0, mS, mAsg, gN, gT, gsC, gs0, mHas, ownL, Sl.own, reown, mRet, mVar, mNext, io0, mCallI, mCallP, mCallN, mMakeP, maCons, maNil, mRds, rds, frOk, apart, mdCons, mdNil, mLst, mTup, mIt, mFor, mDrop, mMut, appF, mA, mnA, fA1, fN1, lenD, tupD, wipeE, mAsgO, mSeqOf, mSeqB, mTupOf, mTxtOf, gTL, mNot, mOr, mAnd, mAndV, mOrV, mNotV, mChain, isB, tyN, mRetW, mRetO, -List.map_map, -Int.natCast_add, -List.map_append, -List.map_cons, -List.map_nil, -List.map_const, -List.map_const_fun, is_sort_row_ok c (hS.nm p hp).1 (hS.nm p hp).2]
theorem L_are_sorts1 (f1 f2 f3 : Sl) : L_are_sorts_1 c [.bo (sortsD sorts), f1, f2, f3] = some (.ok (.lst ((sorts.map fun p => p.1).map .str)) [.bo (sortsD sorts), f1, .un, .un]) := by
  rw [List.map_map]
  refine mLc_map (as := sorts) (enc := fun p => .tup [.str p.1, .str p.2]) (δ0 := [.bo (sortsD sorts), f1, f2, f3]) rfl rfl fun p hp => ⟨[.bo (sortsD sorts), f1, .fr (.str p.1), .fr (.str p.2)], [.bo (sortsD sorts), f1, .fr (.str p.1), .fr (.str p.2)], rfl, ?_, rfl⟩
  simp [E_are_sorts_1, defI, defG, defN, startE, entry, PK.sl, mSeq, mIf, mTest, m1, m2, mn1, mn2, M.bind, mVal, mOv, mC, M.ret, Sl.dat, mRd, rd, M.lift, fI, fI0, mS, mAsg, gN, gT, gsC, gs0, mHas, ownL, Sl.own, reown, mRet, mVar, mNext, io0, mCallI, mCallP, mCallN, mMakeP, maCons, maNil, mRds, rds, frOk, apart, mdCons, mdNil, mLst, mTup, mIt, mFor, mDrop, mMut, appF, mA, mnA, fA1, fN1, lenD, tupD, wipeE, mAsgO, mSeqOf, mSeqB, mTupOf, mTxtOf, gTL, mNot, mOr, mAnd, mAndV, mOrV, mNotV, mChain, isB, tyN, mRetW, mRetO, -List.map_map, -Int.natCast_add, -List.map_append, -List.map_cons, -List.map_nil, -List.map_const, -List.map_const_fun]
theorem L_are_sorts2 (f1 f2 f3 : Sl) : L_are_sorts_2 c [.bo (sortsD sorts), f1, f2, f3] = some (.ok (.lst (sorts.map fun _ => .bl true)) [.bo (sortsD sorts), f1, .un, .un]) := by
  refine mLc_map (as := sorts) (enc := fun p => .tup [.str p.1, .str p.2]) (δ0 := [.bo (sortsD sorts), f1, f2, f3]) rfl rfl fun p hp => ⟨[.bo (sortsD sorts), f1, .fr (.str p.1), .fr (.str p.2)], [.bo (sortsD sorts), f1, .fr (.str p.1), .fr (.str p.2)], rfl, ?_, rfl⟩
  have h1 : inLD false (.tup [.str p.2, .str p.1]) (sortsD sorts) = some (.bl true) := by
    unfold sortsD
    rw [inLD_pl 1 false (Pl.tup fun d hd => ?_) (sorts_pl hS)]
    · have : D.tup [.str p.2, .str p.1] ∈ sorts.map (fun p => D.tup [.str p.1, .str p.2]) := List.mem_map.mpr ⟨_, hS.mu p hp, rfl⟩
      simp only [this, decide_true, Bool.false_xor]
    · simp at hd
      rcases hd with rfl | rfl
      · exact (hS.nm p hp).2.pl
      · exact (hS.nm p hp).1.pl
  have l2 : (2 : Nat) ≤ LB := by decide
  simp [E_are_sorts_2, defI, defG, defN, startE, entry, PK.sl, mSeq, mIf, mTest, m1, m2, mn1, mn2, M.bind, mVal, mOv, mC, M.ret, Sl.dat, mRd, rd, M.lift, fI, fI0, mS, mAsg, gN, gT, gsC, gs0, mHas, ownL, Sl.own, reown, mRet, mVar, mNext, io0, mCallI, mCallP, mCallN, mMakeP, maCons, maNil, mRds, rds, frOk, apart, mdCons, mdNil, mLst, mTup, mIt, mFor, mDrop, mMut, appF, mA, mnA, fA1, fN1, lenD, tupD, wipeE, mAsgO, mSeqOf, mSeqB, mTupOf, mTxtOf, gTL, mNot, mOr, mAnd, mAndV, mOrV, mNotV, mChain, isB, tyN, mRetW, mRetO, -List.map_map, -Int.natCast_add, -List.map_append, -List.map_cons, -List.map_nil, -List.map_const, -List.map_const_fun, h1, l2]
theorem are_sorts_ok : g_are_sorts c [sortsD sorts] = some (.bl true) := by
  have h1 := L_are_sorts0 c hS .un .un .un
  have h2 := L_are_sorts1 c hS .un .un .un
  have h3 := L_are_sorts2 c hS .un .un .un
  have a1 : allD (.lst (sorts.map fun _ => .bl true)) = some (.bl true) := by rw [allD_map]; simp
  have ls : lenSetD (.lst ((sorts.map fun p => p.1).map .str)) = some (.int sorts.length) := by
    have := lenSet_strs (xs := sorts.map fun p => p.1) (by rw [List.length_map]; have := hS.hi; omega) hS.nd
    rw [List.length_map] at this
    exact this
  have ln : lenD (sortsD sorts) = some (.int sorts.length) := by simp [sortsD, lenD]
  have i1 : (1 : Int) ≤ (sorts.length : Int) := by have := hS.lo; omega
  have i3 : (sorts.length : Int) ≤ 3 := by have := hS.hi; omega
  have il : isB "list" (sortsD sorts) = some (.bl true) := rfl
  simp_arith only [g_are_sorts, m_are_sorts, il, ln, i1, i3, h1, a1, h2, ls, h3, Int.lt_irrefl]
end
end G

set_option Elab.async false
set_option linter.all false
set_option maxRecDepth 100000
set_option maxHeartbeats 1000000
/-! MCb: kinds in order; a stock made. -/
namespace G
open PySem L2 DL
theorem strLe_trans (a b c : Str) (h1 : strLe a b = true) (h2 : strLe b c = true) : strLe a c = true := by
  unfold strLe at *
  simp only [decide_eq_true_eq] at *
  exact List.le_trans h1 h2
theorem strLe_total (a b : Str) : (strLe a b || strLe b a) = true := by
  unfold strLe
  simp only [Bool.or_eq_true, decide_eq_true_eq]
  exact List.le_total _ _
theorem sortS_sorted (xs : List Str) : (sortS xs).Pairwise fun a b => strLe a b = true := List.pairwise_mergeSort strLe_trans strLe_total xs
theorem sortS_perm (xs : List Str) : (sortS xs).Perm xs := List.mergeSort_perm xs strLe
theorem sortS_of {xs : List Str} (h : xs.Pairwise fun a b => strLe a b = true) : sortS xs = xs := List.mergeSort_of_pairwise h
theorem sortS_idem (xs : List Str) : sortS (sortS xs) = sortS xs := sortS_of (sortS_sorted xs)
theorem sortS_len (xs : List Str) : (sortS xs).length = xs.length := (sortS_perm xs).length_eq
theorem sortS_mem {x : Str} {xs : List Str} : x ∈ sortS xs ↔ x ∈ xs := (sortS_perm xs).mem_iff
/-- a kind's ends, told: sorted, one to five of the sorts -/
structure EndsOk (sorts : List (Str × Str)) (es : List Str) : Prop where
  so : sortS es = es
  mem : ∀ y ∈ es, y ∈ sorts.map fun q => q.1
  lo : 1 ≤ es.length
  hi : es.length ≤ 5
theorem KindsOk.ends {sorts : List (Str × Str)} {m : Nat} {ks : List (Str × List Str)} (h : KindsOk sorts m ks) (hm : m ≤ 5) {p : Str × List Str} (hp : p ∈ ks) : EndsOk sorts p.2 := by
  obtain ⟨xs, e, h1, h2, h3⟩ := h p hp
  rw [e]
  exact ⟨sortS_idem xs, fun y hy => h1 y (sortS_mem.mp hy), by rw [sortS_len]; exact h2, by rw [sortS_len]; omega⟩
section
variable (c : Cs) {sorts : List (Str × Str)} (hS : SortsOk sorts)
include hS
theorem sort_name {y : Str} (h : y ∈ sorts.map fun q => q.1) : NameOk y := by
  obtain ⟨p, hp, rfl⟩ := List.mem_map.mp h
  exact (hS.nm p hp).1
theorem strs_pl {xs : List Str} (h : ∀ y ∈ xs, NameOk y) : ∀ d ∈ xs.map D.str, Pl 0 d := fun d hd => by
  obtain ⟨x, hx, rfl⟩ := List.mem_map.mp hd
  exact (h x hx).pl
/-- the sorts' names -/
def snD (sorts : List (Str × Str)) : D := .lst ((sorts.map fun q => q.1).map .str)
theorem L_kind0 {es : List Str} (he : EndsOk sorts es) (f0 f1 f3 : Sl) : L_is_kind_row_0 c [f0, f1, .fr (.tup (es.map .str)), f3] = some (.ok (.lst (es.map fun _ => .bl true)) [f0, f1, .fr (.tup (es.map .str)), .un]) := by
  refine mLc_map (as := es) (enc := .str) (δ0 := [f0, f1, .fr (.tup (es.map .str)), f3]) (by simp_arith only []) rfl fun y hy => ⟨[f0, f1, .fr (.tup (es.map .str)), .fr (.str y)], [f0, f1, .fr (.tup (es.map .str)), .fr (.str y)], rfl, ?_, rfl⟩
  simp_arith only [E_is_kind_row_0, is_name_ok c (sort_name hS (he.mem y hy))]
theorem L_kind1 {es : List Str} (he : EndsOk sorts es) (f0 f3 : Sl) : L_is_kind_row_1 c [f0, .fr (snD sorts), .fr (.tup (es.map .str)), f3] = some (.ok (.lst (es.map fun _ => .bl true)) [f0, .fr (snD sorts), .fr (.tup (es.map .str)), .un]) := by
  refine mLc_map (as := es) (enc := .str) (δ0 := [f0, .fr (snD sorts), .fr (.tup (es.map .str)), f3]) (by simp_arith only []) rfl fun y hy => ⟨[f0, .fr (snD sorts), .fr (.tup (es.map .str)), .fr (.str y)], [f0, .fr (snD sorts), .fr (.tup (es.map .str)), .fr (.str y)], rfl, ?_, rfl⟩
  have h1 : inLD false (.str y) (snD sorts) = some (.bl true) := by
    unfold snD
    rw [inLD_pl 0 false (sort_name hS (he.mem y hy)).pl (strs_pl hS fun z hz => sort_name hS hz)]
    have : D.str y ∈ (sorts.map fun q => q.1).map D.str := List.mem_map.mpr ⟨y, he.mem y hy, rfl⟩
    simp only [this, decide_true, Bool.false_xor]
  simp_arith only [E_is_kind_row_1, h1]
theorem is_kind_row_ok {n : Str} {es : List Str} (hn : NameOk n) (he : EndsOk sorts es) : g_is_kind_row c [kindD (n, es), snD sorts] = some (.bl true) := by
  have h1 := L_kind0 c hS he (.fr (kindD (n, es))) (.fr (snD sorts)) .un
  have h2 := L_kind1 c hS he (.fr (kindD (n, es))) .un
  have a1 : allD (.lst (es.map fun _ => .bl true)) = some (.bl true) := by rw [allD_map]; simp
  have i1 : (1 : Int) ≤ (es.length : Int) := by have := he.lo; omega
  have i5 : (es.length : Int) ≤ 5 := by have := he.hi; omega
  have l2 : ixD (kindD (n, es)) (.int 0) = some (.str n) := rfl
  have l3 : ixD (kindD (n, es)) (.int 1) = some (.tup (es.map .str)) := rfl
  have l4 : isB "tuple" (kindD (n, es)) = some (.bl true) := rfl
  have l5 : lenD (kindD (n, es)) = some (.int 2) := rfl
  have ls : sortF (.tup (es.map .str)) = some (es.map .str) := by rw [sortF_tup es (by have := he.hi; omega), he.so]
  have le : eqD (.lst (es.map .str)) (.lst (es.map .str)) = some (.bl true) := by
    have := Pl.lst (strs_pl hS fun z hz => sort_name hS (he.mem z hz))
    rw [eqD_pl 1 this this]; simp only [decide_true]
  simp_arith only [g_is_kind_row, m_is_kind_row, l2, l3, l4, l5, neD_int, is_name_ok c hn, List.length_map, i1, i5, h1, a1, h2, ls, le]
end
end G

set_option Elab.async false
set_option linter.all false
set_option maxRecDepth 100000
set_option maxHeartbeats 1000000
/-! MCc: a stock made; its kinds looked up; corners in order. -/
namespace G
open PySem L2 DL
/-- a stock's values -/
structure StockOk (sorts : List (Str × Str)) (ks : List (Str × List Str)) : Prop where
  so : SortsOk sorts
  lo : 1 ≤ ks.length
  hi : ks.length ≤ 4
  nm : ∀ p ∈ ks, NameOk p.1
  nd : (ks.map fun p => p.1).Nodup
  en : ∀ p ∈ ks, EndsOk sorts p.2
def stockD (c : Cs) (sorts : List (Str × Str)) (ks : List (Str × List Str)) : D := .ins c.stock ["sorts", "kinds"] [sortsD sorts, kindsD ks]
section
variable (c : Cs) {sorts : List (Str × Str)} {ks : List (Str × List Str)} (hS : StockOk sorts ks)
include hS
theorem L_kinds0 (f2 f3 f4 : Sl) : L_are_kinds_0 c [.bo (kindsD ks), .fr (snD sorts), f2, f3, f4] = some (.ok (.lst (ks.map fun _ => .bl true)) [.bo (kindsD ks), .fr (snD sorts), .un, f3, f4]) := by
  refine mLc_map (as := ks) (enc := kindD) (δ0 := [.bo (kindsD ks), .fr (snD sorts), f2, f3, f4]) rfl rfl fun p hp => ⟨[.bo (kindsD ks), .fr (snD sorts), .fr (kindD p), f3, f4], [.bo (kindsD ks), .fr (snD sorts), .fr (kindD p), f3, f4], rfl, ?_, rfl⟩
  simp_arith only [E_are_kinds_0, is_kind_row_ok c hS.so (hS.nm p hp) (hS.en p hp)]
theorem L_kinds1 (f1 f2 f3 f4 : Sl) : L_are_kinds_1 c [.bo (kindsD ks), f1, f2, f3, f4] = some (.ok (.lst ((ks.map fun p => p.1).map .str)) [.bo (kindsD ks), f1, f2, .un, .un]) := by
  rw [List.map_map]
  refine mLc_map (as := ks) (enc := kindD) (δ0 := [.bo (kindsD ks), f1, f2, f3, f4]) rfl rfl fun p hp => ⟨[.bo (kindsD ks), f1, f2, .fr (.str p.1), .fr (.tup (p.2.map .str))], [.bo (kindsD ks), f1, f2, .fr (.str p.1), .fr (.tup (p.2.map .str))], rfl, ?_, rfl⟩
  simp_arith only [E_are_kinds_1, Function.comp]
theorem are_kinds_ok : g_are_kinds c [kindsD ks, snD sorts] = some (.bl true) := by
  have h1 := L_kinds0 c hS .un .un .un
  have h2 := L_kinds1 c hS (.fr (snD sorts)) .un .un .un
  have a1 : allD (.lst (ks.map fun _ => .bl true)) = some (.bl true) := by rw [allD_map]; simp
  have ls : lenSetD (.lst ((ks.map fun p => p.1).map .str)) = some (.int ks.length) := by
    have := lenSet_strs (xs := ks.map fun p => p.1) (by rw [List.length_map]; have := hS.hi; omega) hS.nd
    rw [List.length_map] at this
    exact this
  have ln : lenD (kindsD ks) = some (.int ks.length) := by simp [kindsD, lenD]
  have i1 : (1 : Int) ≤ (ks.length : Int) := by have := hS.lo; omega
  have i4 : (ks.length : Int) ≤ 4 := by have := hS.hi; omega
  have il : isB "list" (kindsD ks) = some (.bl true) := rfl
  simp_arith only [g_are_kinds, m_are_kinds, il, ln, i1, i4, h1, a1, h2, ls, eqD_int]
theorem L_init (f0 f2 f3 f4 : Sl) : L_Stock___init___0 c [f0, .bo (sortsD sorts), f2, f3, f4] = some (.ok (snD sorts) [f0, .bo (sortsD sorts), f2, .un, .un]) := by
  unfold snD
  rw [List.map_map]
  refine mLc_map (as := sorts) (enc := fun p => .tup [.str p.1, .str p.2]) (δ0 := [f0, .bo (sortsD sorts), f2, f3, f4]) rfl rfl fun p hp => ⟨[f0, .bo (sortsD sorts), f2, .fr (.str p.1), .fr (.str p.2)], [f0, .bo (sortsD sorts), f2, .fr (.str p.1), .fr (.str p.2)], rfl, ?_, rfl⟩
  simp_arith only [E_Stock___init___0, Function.comp]
theorem stock_made : g_Stock___init__ c [.ins c.stock [] [], sortsD sorts, kindsD ks] = some (.non, stockD c sorts ks) := by
  have h1 := are_sorts_ok c hS.so
  have h2 := are_kinds_ok c hS
  have h3 := L_init c hS (.io (.ins c.stock [] [])) (.bo (kindsD ks)) .un .un
  have l1 : listD (sortsD sorts) = some (sorts.map fun p => .tup [.str p.1, .str p.2]) := rfl
  have l2 : listD (kindsD ks) = some (ks.map kindD) := rfl
  have e1 : (("sorts" : Str) ∈ ([] : List Str)) = False := by simp
  have e2 : (("kinds" : Str) ∈ (["sorts"] : List Str)) = False := by simp; decide
  simp_arith only [g_Stock___init__, m_Stock___init__, h1, h2, h3, l1, l2, e1, e2, not_false_eq_true, and_true, true_and]
  rfl
end
/-! dicts of pairs -/
def lk {α : Type} : List (Str × α) → Str → Option α
  | [], _ => none
  | p :: ps, n => if p.1 = n then some p.2 else lk ps n
theorem pairsOf_map (f : Str × α → D) : ∀ ps : List (Str × α), pairsOf (ps.map fun p => .tup [.str p.1, f p]) = some (ps.map fun p => (Sum.inr p.1, f p))
  | [] => rfl
  | p :: ps => by simp [pairsOf, pairOf, keyD, pairsOf_map f ps]
theorem mergeD_nodup : ∀ (ps : List (Key × D)) (ks : List Key) (ds : List D), (ks ++ ps.map fun p => p.1).Nodup → mergeD ps (ks, ds) = (ks ++ ps.map (fun p => p.1), ds ++ ps.map fun p => p.2)
  | [], ks, ds, _ => by simp [mergeD]
  | p :: ps, ks, ds, h => by
    have e : (ks.any fun q => decide (q = p.1)) = false := by
      rw [List.any_eq_false]
      intro q hq
      simp only [decide_eq_true_eq]
      intro z
      have := (List.nodup_append.mp h).2.2 q hq p.1 (by simp)
      exact this z
    simp only [mergeD, putD, e, Bool.false_eq_true, if_false]
    rw [mergeD_nodup ps (ks ++ [p.1]) (ds ++ [p.2]) (by simpa using h)]
    simp
theorem dictD_map (f : Str × α → D) {ps : List (Str × α)} (nd : (ps.map fun p => p.1).Nodup) : dictD (.lst (ps.map fun p => .tup [.str p.1, f p])) = some (.dk (ps.map fun p => Sum.inr p.1) (ps.map f)) := by
  have h : (([] : List Key) ++ (ps.map fun p => ((Sum.inr p.1 : Key), f p)).map fun p => p.1).Nodup := by
    rw [List.nil_append, List.map_map]
    have : ((fun p : Key × D => p.1) ∘ fun p : Str × α => ((Sum.inr p.1 : Key), f p)) = (Sum.inr : Str → Key) ∘ fun p => p.1 := rfl
    rw [this, ← List.map_map]
    exact inr_nodup nd
  simp only [dictD, pairsOf_map, mergeD_nodup _ [] [] h, List.nil_append, List.map_map, Function.comp]
  rfl
theorem lookK_lk (f : Str × α → D) (n : Str) : ∀ ps : List (Str × α), lookK (ps.map fun p => Sum.inr p.1) (ps.map f) (Sum.inr n) = (lk (ps.map fun p => (p.1, p)) n).map f
  | [] => rfl
  | p :: ps => by
    simp only [List.map_cons, lookK, lk, lookK_lk f n ps]
    by_cases e : p.1 = n
    · simp [e]
    · have : ¬ (Sum.inr p.1 : Key) = Sum.inr n := fun z => e (Sum.inr.inj z)
      simp [e, this]
theorem lk_self : ∀ {ps : List (Str × α)} {p : Str × α}, (ps.map fun p => p.1).Nodup → p ∈ ps → lk (ps.map fun p => (p.1, p)) p.1 = some p
  | q :: ps, p, nd, h => by
    have nd' := List.nodup_cons.mp nd
    simp only [List.map_cons, lk]
    by_cases e : q.1 = p.1
    · rw [if_pos e]
      rcases List.mem_cons.mp h with h | h
      · rw [h]
      · exact absurd (List.mem_map.mpr ⟨p, h, e.symm⟩) nd'.1
    · rw [if_neg e]
      exact lk_self nd'.2 ((List.mem_cons.mp h).resolve_left fun z => e (by rw [z]))
section
variable (c : Cs) {sorts : List (Str × Str)} {ks : List (Str × List Str)} (hS : StockOk sorts ks)
include hS
theorem dict_kinds : dictD (kindsD ks) = some (.dk (ks.map fun p => Sum.inr p.1) (ks.map fun p => .tup (p.2.map .str))) := dictD_map (fun p : Str × List Str => .tup (p.2.map .str)) hS.nd
theorem kinds_of : fldD [c.stock] "kinds" (stockD c sorts ks) = some (kindsD ks) := by
  have h : ¬ (("sorts" : Str) = "kinds") := by decide
  simp only [fldD, stockD, lookF, List.any_cons, beq_self_eq_true, Bool.true_or, if_true, h, if_false]
theorem is_kind_ok {p : Str × List Str} (hp : p ∈ ks) : g_is_kind c [stockD c sorts ks, .str p.1] = some (.bl true) := by
  have h1 := dict_kinds hS
  have h2 := kinds_of c hS
  have h3 : dinD false (.str p.1) (.dk (ks.map fun p => Sum.inr p.1) (ks.map fun p => .tup (p.2.map .str))) = some (.bl true) := by
    simp only [dinD, keyD, lookK_lk (fun p : Str × List Str => D.tup (p.2.map .str)), lk_self hS.nd hp]; rfl
  simp_arith only [g_is_kind, m_is_kind, h1, h2, h3]
theorem ends_of_ok {p : Str × List Str} (hp : p ∈ ks) : g_ends_of c [stockD c sorts ks, .str p.1] = some (.tup (p.2.map .str)) := by
  have h1 := dict_kinds hS
  have h2 := kinds_of c hS
  have h3 : dgetD (.dk (ks.map fun p => Sum.inr p.1) (ks.map fun p => .tup (p.2.map .str))) (.str p.1) = some (.tup (p.2.map .str)) := by
    simp only [dgetD, keyD, lookK_lk (fun p : Str × List Str => D.tup (p.2.map .str)), lk_self hS.nd hp]; rfl
  simp_arith only [g_ends_of, m_ends_of, h1, h2, h3]
/-- corners: up to six kinds' names -/
structure CornersOk (ks : List (Str × List Str)) (cs : List Str) : Prop where
  hi : cs.length ≤ 6
  mem : ∀ n ∈ cs, n ∈ ks.map fun p => p.1
theorem are_corners_ok {cs : List Str} (hC : CornersOk ks cs) : g_are_corners c [stockD c sorts ks, .lst (cs.map .str)] = some (.bl true) := by
  have h1 : L_are_corners_0 c [.fr (stockD c sorts ks), .bo (.lst (cs.map .str)), .un] = some (.ok (.lst (cs.map fun _ => .bl true)) [.fr (stockD c sorts ks), .bo (.lst (cs.map .str)), .un]) := by
    refine mLc_map (as := cs) (enc := .str) (δ0 := [.fr (stockD c sorts ks), .bo (.lst (cs.map .str)), .un]) rfl rfl fun n hn => ⟨[.fr (stockD c sorts ks), .bo (.lst (cs.map .str)), .fr (.str n)], [.fr (stockD c sorts ks), .bo (.lst (cs.map .str)), .fr (.str n)], rfl, ?_, rfl⟩
    obtain ⟨p, hp, rfl⟩ := List.mem_map.mp (hC.mem n hn)
    simp_arith only [E_are_corners_0, is_kind_ok c hS hp]
  have a1 : allD (.lst (cs.map fun _ => .bl true)) = some (.bl true) := by rw [allD_map]; simp
  have i6 : (cs.length : Int) ≤ 6 := by have := hC.hi; omega
  simp_arith only [g_are_corners, m_are_corners, h1, a1, List.length_map, i6]
end
end G

set_option Elab.async false
set_option linter.all false
set_option maxRecDepth 100000
set_option maxHeartbeats 1000000
/-! MGa: factorial, group. -/
namespace G
open PySem L2 DL PG
theorem take_snoc {α : Type} {as : List α} {i : Nat} {a : α} (h : as[i]? = some a) : as.take (i + 1) = as.take i ++ [a] := by
  rw [List.take_succ, h]; rfl
theorem pr_snoc (xs : List Nat) (n : Nat) : pr (xs ++ [n]) = pr xs * n := by rw [pr_app, pr, pr, Nat.mul_one]
theorem count_strs (n : Str) : ∀ xs : List Str, (xs.map D.str).count (.str n) = xs.count n
  | [] => rfl
  | x :: xs => by
    rw [List.map_cons, List.count_cons, List.count_cons, count_strs n xs]
    by_cases e : x = n
    · simp [e]
    · simp [e]
theorem factorial_ok (c : Cs) (n : Nat) (hn : n ≤ 1000) : g_factorial c [.int n] = some (.int (fac n)) := by
  have hr : rg2 [.int 2, .int ((n : Int) + 1)] = some ((List.range (n - 1)).map fun i => D.int (2 + (i : Nat))) := by
    have h : 0 ≤ (2 : Int) ∧ (2 : Int) ≤ 1000000 ∧ -1000000 ≤ (n : Int) + 1 ∧ (n : Int) + 1 ≤ 1000000 := by omega
    have e : ((n : Int) + 1 - 2).toNat = n - 1 := by omega
    simp only [rg2, if_pos h, e, rangeD]
  obtain ⟨δ', h1, ⟨s, rfl⟩⟩ := forL_ix (enc := fun i : Nat => D.int (2 + (i : Nat))) (g := gN 2) (b := B_factorial_0 c) (as := List.range (n - 1)) (fun i δ => ∃ s, δ = [.fr (.int n), .fr (.int (fac (i + 1))), s])
    (δ := [.fr (.int n), .fr (.int 1), .un]) ⟨.un, rfl⟩ (by
      rintro i a δ ha ⟨s, rfl⟩
      obtain ⟨hi, rfl⟩ := List.getElem?_eq_some_iff.mp ha
      rw [List.length_range] at hi
      simp only [List.getElem_range]
      refine ⟨[.fr (.int n), .fr (.int (fac (i + 1))), .fr (.int (2 + (i : Nat)))], [.fr (.int n), .fr (.int (fac (i + 1 + 1))), .fr (.int (2 + (i : Nat)))], rfl, ?_, _, rfl⟩
      have e : (fac (i + 1 + 1) : Int) = (fac (i + 1) : Int) * (2 + (i : Nat)) := by
        rw [fac]
        have : ((i + 1 + 1 : Nat) : Int) = 2 + (i : Int) := by omega
        rw [Int.natCast_mul, this]
      have m : mulOk (fac (i + 1) : Int) (2 + (i : Nat)) = true := mulOk_r (by omega)
      simp_arith only [B_factorial_0, m, e])
  rw [List.length_range] at h1
  have e : fac (n - 1 + 1) = fac n := by
    cases n with
    | zero => rfl
    | succ n => rfl
  simp_arith only [g_factorial, m_factorial, hr, h1, e]
/-- a kind's ends -/
def ownOf (ks : List (Str × List Str)) (n : Str) : List Str := ((lk (ks.map fun p => (p.1, p)) n).map fun p => p.2).getD []
theorem own_self {ks : List (Str × List Str)} (nd : (ks.map fun p => p.1).Nodup) {p : Str × List Str} (hp : p ∈ ks) : ownOf ks p.1 = p.2 := by
  unfold ownOf
  rw [lk_self nd hp]
  rfl
section
variable (c : Cs) {sorts : List (Str × Str)} {ks : List (Str × List Str)} (hS : StockOk sorts ks)
include hS
end
end G

set_option Elab.async false
set_option linter.all false
set_option maxRecDepth 100000
set_option maxHeartbeats 1000000
/-! MGb: what the laws' helpers draw: the state, corners; lists cut, numbered. -/
namespace G
open PySem L2 DL PG
theorem cut_to {xs : List D} {i : Nat} : cutD xs none (some (i : Int)) = xs.take i := by
  unfold cutD
  rw [HT.sIx_none, HT.sIx_nat, List.drop_zero, Nat.sub_zero]
  by_cases h : i ≤ xs.length
  · rw [Nat.min_eq_left h]
  · rw [Nat.min_eq_right (by omega), List.take_length, List.take_of_length_le (by omega)]
theorem enum_map {α : Type} (enc : α → D) (xs : List α) : enumD (xs.map enc) = xs.zipIdx.map fun p => .tup [.int (p.2 : Nat), enc p.1] := by
  unfold enumD
  rw [List.zipIdx_map, List.map_map]
  rfl
theorem zip_at {α : Type} {xs : List α} {i : Nat} {a : α × Nat} (h : xs.zipIdx[i]? = some a) : xs[i]? = some a.1 ∧ a.2 = i := by
  rw [List.getElem?_zipIdx] at h
  cases e : xs[i]? with
  | none => rw [e] at h; cases h
  | some x => rw [e] at h; cases h; exact ⟨rfl, by simp⟩
theorem state_ok (c : Cs) (i : Int) : ∃ a b, g__law_state c [.int i] = some (rs a b 0) := by
  have h : modOk i 1000000007 = true := by simp [modOk]
  have ha : absD (.int i) = some (.int (if i < 0 then -i else i)) := rfl
  refine ⟨(if i < 0 then -i else i), i % 1000000007, ?_⟩
  simp_arith only [g__law_state, m__law_state, ha, h, rs]
/-- the cells that are gone through -/
theorem cells_cut (ns : List Int) (k : Nat) (h : ns.length ≤ 63) (tl : List Int) (htl : tl.length ≤ 10) : addD (.lst (cutD (ns.map D.int) none (some (k : Int)))) (.lst (tl.map .int)) = some (.lst ((ns.take k ++ tl).map .int)) := by
  rw [cut_to]
  have hl : (List.take k (ns.map D.int)).length + (tl.map D.int).length ≤ 1000000 := by
    rw [List.length_take, List.length_map, List.length_map]; omega
  simp only [addD, fI0, fStrCat, fCatL, fCatT, Option.or, hl, if_true, List.map_append, List.map_take]
end G

set_option Elab.async false
set_option linter.all false
set_option maxRecDepth 100000
set_option maxHeartbeats 1000000
/-! MDa: legs in order; all ends there. -/
namespace G
open PySem L2 DL PG
abbrev pairD (p : Str × Str) : D := .tup [.str p.1, .str p.2]
def legsD (legs : List (Str × Str)) : D := .lst (legs.map pairD)
/-- legs as a drawing has them -/
structure LegsOk (sorts legs : List (Str × Str)) : Prop where
  hi : legs.length ≤ 6
  nm : ∀ p ∈ legs, NameOk p.1 ∧ p.2 ∈ sorts.map fun q => q.1
  nd : (legs.map fun p => p.1).Nodup
  so : sortD (legs.map pairD) = legs.map pairD
theorem pair_pl {p : Str × Str} (h1 : NameOk p.1) (h2 : NameOk p.2) : Pl 1 (pairD p) := Pl.tup fun d hd => by
  simp at hd
  rcases hd with rfl | rfl
  · exact h1.pl
  · exact h2.pl
theorem pairs_pl {ps : List (Str × Str)} (h : ∀ p ∈ ps, NameOk p.1 ∧ NameOk p.2) : ∀ d ∈ ps.map pairD, Pl 1 d := fun d hd => by
  obtain ⟨p, hp, rfl⟩ := List.mem_map.mp hd
  exact pair_pl (h p hp).1 (h p hp).2
theorem pairs_sortOk (ps : List (Str × Str)) (h : ps.length ≤ 1000) : SortOk (ps.map pairD) := by
  refine ⟨by rw [List.length_map]; unfold LB; omega, fun d hd => ?_, fun d hd => ?_, fun d hd e he => ?_, Or.inl fun d hd => ?_⟩
  · obtain ⟨x, _, rfl⟩ := List.mem_map.mp hd; rfl
  · obtain ⟨x, _, rfl⟩ := List.mem_map.mp hd
    show (PyData.tuple [.str x.1, .str x.2]).depth ≤ 60
    simp [PyData.depth, PyData.depthAll]
  · obtain ⟨x, _, rfl⟩ := List.mem_map.mp hd
    obtain ⟨y, _, rfl⟩ := List.mem_map.mp he
    show PySem.W.alike (.tuple [.str x.1, .str x.2]) (.tuple [.str y.1, .str y.2]) = true
    simp [PySem.W.alike, PySem.W.alikeAll]
  · obtain ⟨x, _, rfl⟩ := List.mem_map.mp hd; rfl
theorem sortF_pairs (ps : List (Str × Str)) (h : ps.length ≤ 1000) : sortF (.lst (ps.map pairD)) = some (sortD (ps.map pairD)) := by
  simp only [sortF, sortOk_iff.mpr (pairs_sortOk ps h), if_true]
section
variable (c : Cs) {sorts : List (Str × Str)} {ks : List (Str × List Str)} (hS : StockOk sorts ks)
include hS
theorem sorts_of : fldD [c.stock] "sorts" (stockD c sorts ks) = some (sortsD sorts) := by
  simp only [fldD, stockD, lookF, List.any_cons, beq_self_eq_true, Bool.true_or, if_true]
theorem dict_sorts : dictD (sortsD sorts) = some (.dk (sorts.map fun p => Sum.inr p.1) (sorts.map fun p => .str p.2)) := dictD_map (fun p : Str × Str => .str p.2) hS.so.nd
theorem is_sort_ok {p : Str × Str} (hp : p ∈ sorts) : g_is_sort c [stockD c sorts ks, .str p.1] = some (.bl true) := by
  have h1 := dict_sorts hS
  have h2 := sorts_of c hS
  have h3 : dinD false (.str p.1) (.dk (sorts.map fun p => Sum.inr p.1) (sorts.map fun p => .str p.2)) = some (.bl true) := by
    simp only [dinD, keyD, lookK_lk (fun p : Str × Str => D.str p.2), lk_self hS.so.nd hp]; rfl
  simp_arith only [g_is_sort, m_is_sort, h1, h2, h3]
theorem is_leg_ok {p : Str × Str} (hn : NameOk p.1) (hs : p.2 ∈ sorts.map fun q => q.1) : g_is_leg c [stockD c sorts ks, pairD p] = some (.bl true) := by
  obtain ⟨q, hq, e⟩ := List.mem_map.mp hs
  have h1 := is_sort_ok c hS hq
  rw [e] at h1
  have i0 : ixD (pairD p) (.int 0) = some (.str p.1) := rfl
  have i1 : ixD (pairD p) (.int 1) = some (.str p.2) := rfl
  have i2 : lenD (pairD p) = some (.int 2) := rfl
  simp_arith only [g_is_leg, m_is_leg, i2, eqD_int, i0, i1, is_name_ok c hn, h1]
theorem LegsOk.two {legs : List (Str × Str)} (hL : LegsOk sorts legs) : ∀ p ∈ legs, NameOk p.1 ∧ NameOk p.2 := fun p hp => ⟨(hL.nm p hp).1, sort_name hS.so (hL.nm p hp).2⟩
theorem are_legs_ok {legs : List (Str × Str)} (hL : LegsOk sorts legs) : g_are_legs c [stockD c sorts ks, legsD legs] = some (.bl true) := by
  have h1 : L_are_legs_0 c [.fr (stockD c sorts ks), .bo (legsD legs), .un, .un, .un] = some (.ok (.lst (legs.map fun _ => .bl true)) [.fr (stockD c sorts ks), .bo (legsD legs), .un, .un, .un]) := by
    refine mLc_map (as := legs) (enc := pairD) (δ0 := [.fr (stockD c sorts ks), .bo (legsD legs), .un, .un, .un]) rfl rfl fun p hp => ⟨[.fr (stockD c sorts ks), .bo (legsD legs), .fr (pairD p), .un, .un], [.fr (stockD c sorts ks), .bo (legsD legs), .fr (pairD p), .un, .un], rfl, ?_, rfl⟩
    simp_arith only [E_are_legs_0, is_leg_ok c hS (hL.nm p hp).1 (hL.nm p hp).2]
  have h2 : L_are_legs_1 c [.fr (stockD c sorts ks), .bo (legsD legs), .un, .un, .un] = some (.ok (.lst ((legs.map fun p => p.1).map .str)) [.fr (stockD c sorts ks), .bo (legsD legs), .un, .un, .un]) := by
    rw [List.map_map]
    refine mLc_map (as := legs) (enc := pairD) (δ0 := [.fr (stockD c sorts ks), .bo (legsD legs), .un, .un, .un]) rfl rfl fun p hp => ⟨[.fr (stockD c sorts ks), .bo (legsD legs), .un, .fr (.str p.1), .fr (.str p.2)], [.fr (stockD c sorts ks), .bo (legsD legs), .un, .fr (.str p.1), .fr (.str p.2)], rfl, ?_, rfl⟩
    simp_arith only [E_are_legs_1, Function.comp]
  have a1 : allD (.lst (legs.map fun _ => .bl true)) = some (.bl true) := by rw [allD_map]; simp
  have a2 : sortF (legsD legs) = some (legs.map pairD) := by
    have := sortF_pairs legs (by have := hL.hi; omega)
    rw [hL.so] at this
    exact this
  have a3 : lenSetD (.lst ((legs.map fun p => p.1).map .str)) = some (.int legs.length) := by
    have := lenSet_strs (xs := legs.map fun p => p.1) (by rw [List.length_map]; have := hL.hi; omega) hL.nd
    rw [List.length_map] at this
    exact this
  have a4 : eqD (legsD legs) (.lst (legs.map pairD)) = some (.bl true) := by
    have : Pl 2 (legsD legs) := Pl.lst (pairs_pl (LegsOk.two hS hL))
    have e := eqD_pl 2 this this
    simp only [decide_true] at e
    exact e
  have ln : lenD (legsD legs) = some (.int legs.length) := by simp [legsD, lenD]
  have i : ((6 : Int) < (legs.length : Int)) = False := by have := hL.hi; simp; omega
  have il : isB "list" (legsD legs) = some (.bl true) := rfl
  simp_arith only [g_are_legs, m_are_legs, il, ln, i, h1, h2, a1, a2, a3, a4, eqD_int]
theorem sure_ok {cs : List Str} {legs : List (Str × Str)} (hC : CornersOk ks cs) (hL : LegsOk sorts legs) : g_sure_corners c [stockD c sorts ks, .lst (cs.map .str), legsD legs] = some .non := by
  simp_arith only [g_sure_corners, m_sure_corners, are_corners_ok c hS hC, are_legs_ok c hS hL]
end
/-- an end: its place, its sort -/
abbrev endD (p : Nat × Str) : D := .tup [.int (p.1 : Nat), .str p.2]
/-- the ends of corners, from a place on -/
def cornerEnds (ks : List (Str × List Str)) (cs : List (Str × Nat)) : List (Nat × Str) := cs.flatMap fun q => (ownOf ks q.1).map fun s => (q.2, s)
def endsP (ks : List (Str × List Str)) (cs : List Str) (legs : List (Str × Str)) : List (Nat × Str) := cornerEnds ks cs.zipIdx ++ legs.zipIdx.map fun q => (cs.length + q.2, q.1.2)
/-- their sorts -/
def endSorts (ks : List (Str × List Str)) (cs : List Str) (legs : List (Str × Str)) : List Str := cs.flatMap (ownOf ks) ++ legs.map fun p => p.2
theorem cornerEnds_snoc (ks : List (Str × List Str)) (cs : List (Str × Nat)) (q : Str × Nat) : cornerEnds ks (cs ++ [q]) = cornerEnds ks cs ++ (ownOf ks q.1).map fun s => (q.2, s) := by
  unfold cornerEnds
  rw [List.flatMap_append, List.flatMap_singleton]
theorem ends_sorts (ks : List (Str × List Str)) (cs : List Str) (legs : List (Str × Str)) : (endsP ks cs legs).map (fun p => p.2) = endSorts ks cs legs := by
  unfold endsP endSorts
  rw [List.map_append]
  congr 1
  · unfold cornerEnds
    rw [List.map_flatMap]
    have : (fun q : Str × Nat => ((ownOf ks q.1).map fun s => (q.2, s)).map fun p : Nat × Str => p.2) = fun q => ownOf ks q.1 := by
      funext q
      rw [List.map_map]
      exact List.map_id _
    rw [this]
    have h2 : cs.zipIdx.flatMap (fun q => ownOf ks q.1) = (cs.zipIdx.map Prod.fst).flatMap (ownOf ks) := by rw [List.flatMap_map]
    rw [h2, List.zipIdx_map_fst]
  · rw [List.map_map]
    have h2 : ((fun p : Nat × Str => p.2) ∘ fun q : (Str × Str) × Nat => (cs.length + q.2, q.1.2)) = (fun p : Str × Str => p.2) ∘ Prod.fst := rfl
    rw [h2, ← List.map_map, List.zipIdx_map_fst]
theorem ends_len_bound {sorts : List (Str × Str)} {ks : List (Str × List Str)} (hS : StockOk sorts ks) : ∀ {cs : List Str}, (∀ n ∈ cs, n ∈ ks.map fun p => p.1) → (cs.flatMap (ownOf ks)).length ≤ 5 * cs.length
  | [], _ => Nat.zero_le _
  | n :: cs, h => by
    obtain ⟨p, hp, e⟩ := List.mem_map.mp (h n List.mem_cons_self)
    have h1 : (ownOf ks n).length ≤ 5 := by rw [← e, own_self hS.nd hp]; exact (hS.en p hp).hi
    have h2 := ends_len_bound hS (cs := cs) fun m hm => h m (List.mem_cons_of_mem _ hm)
    rw [List.flatMap_cons, List.length_append, List.length_cons]
    omega
theorem cornerEnds_len (ks : List (Str × List Str)) : ∀ cs : List (Str × Nat), (cornerEnds ks cs).length = ((cs.map Prod.fst).flatMap (ownOf ks)).length
  | [] => rfl
  | q :: cs => by
    have := cornerEnds_len ks cs
    unfold cornerEnds at this ⊢
    rw [List.flatMap_cons, List.map_cons, List.flatMap_cons, List.length_append, List.length_append, this, List.length_map]
section
variable (c : Cs) {sorts : List (Str × Str)} {ks : List (Str × List Str)} (hS : StockOk sorts ks)
include hS
theorem ends_there_ok {cs : List Str} {legs : List (Str × Str)} (hC : CornersOk ks cs) (hL : LegsOk sorts legs) : g_ends_there c [stockD c sorts ks, .lst (cs.map .str), legsD legs] = some (.lst ((endsP ks cs legs).map endD)) := by
  have hb := ends_len_bound hS hC.mem
  have h6 := hC.hi
  obtain ⟨δ', h1, ⟨s4, s5, rfl⟩⟩ := forL_ix (enc := fun q : Str × Nat => D.tup [.int (q.2 : Nat), .str q.1]) (g := gT (gsC (gN 4) (gsC (gN 5) gs0))) (b := B_ends_there_0 c) (as := cs.zipIdx)
    (fun i δ => ∃ s4 s5, δ = [.fr (stockD c sorts ks), .bo (.lst (cs.map .str)), .bo (legsD legs), .ow (.lst ((cornerEnds ks (cs.zipIdx.take i)).map endD)), s4, s5, .un, .un, .un])
    (δ := [.fr (stockD c sorts ks), .bo (.lst (cs.map .str)), .bo (legsD legs), .ow (.lst []), .un, .un, .un, .un, .un]) ⟨.un, .un, rfl⟩ (by
      rintro i q δ ha ⟨s4, s5, rfl⟩
      obtain ⟨hq, rfl⟩ := zip_at ha
      obtain ⟨p, hp, ep⟩ := List.mem_map.mp (hC.mem _ (List.mem_of_getElem? hq))
      have ho := ends_of_ok c hS hp
      rw [ep] at ho
      have hL0 : L_ends_there_0 c [.fr (stockD c sorts ks), .bo (.lst (cs.map .str)), .bo (legsD legs), .ow (.lst ((cornerEnds ks (cs.zipIdx.take q.2)).map endD)), .fr (.int (q.2 : Nat)), .fr (.str q.1), .un, .un, .un] =
          some (.ok (.lst (((ownOf ks q.1).map fun s => (q.2, s)).map endD)) [.fr (stockD c sorts ks), .bo (.lst (cs.map .str)), .bo (legsD legs), .ow (.lst ((cornerEnds ks (cs.zipIdx.take q.2)).map endD)), .fr (.int (q.2 : Nat)), .fr (.str q.1), .un, .un, .un]) := by
        rw [← ep, own_self hS.nd hp, List.map_map, ep]
        refine mLc_map (as := p.2) (enc := D.str) (δ0 := [.fr (stockD c sorts ks), .bo (.lst (cs.map .str)), .bo (legsD legs), .ow (.lst ((cornerEnds ks (cs.zipIdx.take q.2)).map endD)), .fr (.int (q.2 : Nat)), .fr (.str q.1), .un, .un, .un]) (by simp_arith only [ho]) rfl
          fun y hy => ⟨[.fr (stockD c sorts ks), .bo (.lst (cs.map .str)), .bo (legsD legs), .ow (.lst ((cornerEnds ks (cs.zipIdx.take q.2)).map endD)), .fr (.int (q.2 : Nat)), .fr (.str q.1), .un, .un, .fr (.str y)], [.fr (stockD c sorts ks), .bo (.lst (cs.map .str)), .bo (legsD legs), .ow (.lst ((cornerEnds ks (cs.zipIdx.take q.2)).map endD)), .fr (.int (q.2 : Nat)), .fr (.str q.1), .un, .un, .fr (.str y)], rfl, ?_, rfl⟩
        simp_arith only [E_ends_there_0, Function.comp]
      have hx : extF ((cornerEnds ks (cs.zipIdx.take q.2)).map endD) [.lst (((ownOf ks q.1).map fun s => (q.2, s)).map endD)] = some ((cornerEnds ks (cs.zipIdx.take (q.2 + 1))).map endD, .non) := by
        have hl : ((cornerEnds ks (cs.zipIdx.take q.2)).map endD).length + (((ownOf ks q.1).map fun s => (q.2, s)).map endD).length ≤ 1000000 := by
          rw [List.length_map, List.length_map, List.length_map, cornerEnds_len, List.map_take, List.zipIdx_map_fst]
          have e1 := ends_len_bound hS (cs := cs.take q.2) fun n hn => hC.mem n (List.mem_of_mem_take hn)
          have e2 : (ownOf ks q.1).length ≤ 5 := by rw [← ep, own_self hS.nd hp]; exact (hS.en p hp).hi
          have e3 : (cs.take q.2).length ≤ cs.length := List.length_take_le' _ _
          omega
        simp only [extF, hl, if_true]
        rw [take_snoc ha, cornerEnds_snoc, List.map_append]
      refine ⟨_, [.fr (stockD c sorts ks), .bo (.lst (cs.map .str)), .bo (legsD legs), .ow (.lst ((cornerEnds ks (cs.zipIdx.take (q.2 + 1))).map endD)), .fr (.int (q.2 : Nat)), .fr (.str q.1), .un, .un, .un], rfl, ?_, _, _, rfl⟩
      simp_arith only [B_ends_there_0, hL0, hx])
  have e : cs.zipIdx.length = cs.length := by simp
  rw [List.take_length] at h1
  obtain ⟨δ', h2, ⟨s6, s7, s8, rfl⟩⟩ := forL_ix (enc := fun q : (Str × Str) × Nat => D.tup [.int (q.2 : Nat), pairD q.1]) (g := gT (gsC (gN 6) (gsC (gT (gsC (gN 7) (gsC (gN 8) gs0))) gs0))) (b := B_ends_there_1 c) (as := legs.zipIdx)
    (fun i δ => ∃ s6 s7 s8, δ = [.fr (stockD c sorts ks), .bo (.lst (cs.map .str)), .bo (legsD legs), .ow (.lst ((cornerEnds ks cs.zipIdx ++ (legs.zipIdx.take i).map fun q => (cs.length + q.2, q.1.2)).map endD)), s4, s5, s6, s7, s8])
    (δ := [.fr (stockD c sorts ks), .bo (.lst (cs.map .str)), .bo (legsD legs), .ow (.lst ((cornerEnds ks cs.zipIdx).map endD)), s4, s5, .un, .un, .un]) ⟨.un, .un, .un, by simp⟩ (by
      rintro i q δ ha ⟨s6, s7, s8, rfl⟩
      obtain ⟨hq, rfl⟩ := zip_at ha
      have hl : ((cornerEnds ks cs.zipIdx ++ (legs.zipIdx.take q.2).map fun q => (cs.length + q.2, q.1.2)).map endD).length < 1000000 := by
        rw [List.length_map, List.length_append, List.length_map, cornerEnds_len, List.zipIdx_map_fst, List.length_take]
        have := hL.hi
        have e2 : legs.zipIdx.length = legs.length := by simp
        omega
      have e3 : ((cs.length + q.2 : Nat) : Int) = (cs.length : Int) + (q.2 : Int) := by omega
      have el : lenD (.lst (cs.map D.str)) = some (.int cs.length) := by simp [lenD]
      refine ⟨_, [.fr (stockD c sorts ks), .bo (.lst (cs.map .str)), .bo (legsD legs), .ow (.lst ((cornerEnds ks cs.zipIdx ++ (legs.zipIdx.take (q.2 + 1)).map fun q => (cs.length + q.2, q.1.2)).map endD)), s4, s5, .fr (.int (q.2 : Nat)), .fr (.str q.1.1), .fr (.str q.1.2)], rfl, ?_, _, _, _, rfl⟩
      have hnew : (cornerEnds ks cs.zipIdx ++ (legs.zipIdx.take (q.2 + 1)).map fun q => (cs.length + q.2, q.1.2)).map endD = (cornerEnds ks cs.zipIdx ++ (legs.zipIdx.take q.2).map fun q => (cs.length + q.2, q.1.2)).map endD ++ [.tup [.int ((cs.length : Int) + (q.2 : Int)), .str q.1.2]] := by
        rw [take_snoc ha]
        simp only [List.map_append, List.map_cons, List.map_nil, List.append_assoc, endD, e3]
      rw [hnew]
      simp_arith only [B_ends_there_1, el, hl])
  rw [List.take_length] at h2
  have g1 : enumD (cs.map D.str) = cs.zipIdx.map fun q => D.tup [.int (q.2 : Nat), .str q.1] := enum_map D.str cs
  have g2 : enumD (legs.map pairD) = legs.zipIdx.map fun q => D.tup [.int (q.2 : Nat), pairD q.1] := enum_map pairD legs
  have hlg : legsD legs = .lst (legs.map pairD) := rfl
  rw [hlg] at h1 h2 ⊢
  simp_arith only [g_ends_there, m_ends_there, g1, g2, h1, h2]
  rfl
end
end G

set_option Elab.async false
set_option linter.all false
set_option maxRecDepth 100000
set_option maxHeartbeats 1000000
/-! MDb: count told. -/
namespace G
open PySem L2 DL PG
theorem rg3_odd (n : Nat) (hn : n ≤ 1000) (h2 : n % 2 = 0) : rg3 [.int 1, .int n, .int 2] = some ((List.range (n / 2)).map fun i => D.int (1 + (i : Nat) * 2)) := by
  have hs : Builtin.Range.rangeSize 1 n 2 = ((n / 2 : Nat) : Int) := by
    unfold Builtin.Range.rangeSize
    rw [if_pos (by decide)]
    by_cases h : (1 : Int) < n
    · rw [if_pos h]; omega
    · rw [if_neg h]; omega
  have hm : Builtin.Range.small 1 n 2 = true := by
    have hf : ∀ x : Int, -1000000 ≤ x → x ≤ 1000000 → Builtin.Range.rangeFitsLong x = true := by
      intro x h1 h2
      unfold Builtin.Range.rangeFitsLong
      simp only [Bool.and_eq_true, decide_eq_true_eq]
      omega
    unfold Builtin.Range.small
    rw [hs, hf 1 (by decide) (by decide), hf n (by omega) (by omega), hf 2 (by decide) (by decide), hf ((n / 2 : Nat) : Int) (by omega) (by omega), if_pos (show (2 : Int) > 0 by decide), hf ((n : Int) + (2 - 1)) (by omega) (by omega), Bool.or_true]
    rfl
  have ht : (Builtin.Range.rangeSize 1 n 2).toNat = n / 2 := by rw [hs]; rfl
  have hc : (2 : Int) ≠ 0 ∧ (2 : Int).natAbs < 1073741824 ∧ Builtin.Range.small 1 n 2 = true ∧ (Builtin.Range.rangeSize 1 n 2).toNat ≤ 1000000 ∧ Builtin.Range.rangeSize 1 n 2 = ((Builtin.Range.rangeSize 1 n 2).toNat : Int) := by
    rw [ht]
    exact ⟨by decide, by decide, hm, by omega, hs⟩
  rw [rg3, if_pos hc, ht, rangeC]
theorem wtp_step (i : Nat) : wtp (2 * (i + 1)) = wtp (2 * i) * (1 + i * 2) := by
  have : 2 * (i + 1) = 2 * i + 2 := by omega
  rw [this, wtp, Nat.mul_comm]
  congr 1
  omega
theorem ways_to_pair_ok (c : Cs) (n : Nat) (hn : n ≤ 1000) : g_ways_to_pair c [.int n] = some (.int (wtp n)) := by
  have hm : modOk n 2 = true := by simp [modOk]
  by_cases h : n % 2 = 1
  · have e : ((n : Int) % 2 = 1) = True := by simp; omega
    simp_arith only [g_ways_to_pair, m_ways_to_pair, hm, eqD_int, e, wtp_odd n h]
    rfl
  · have e : ((n : Int) % 2 = 1) = False := by simp; omega
    have hr := rg3_odd n hn (by omega)
    obtain ⟨δ', h1, ⟨s, rfl⟩⟩ := forL_ix (enc := fun i : Nat => D.int (1 + (i : Nat) * 2)) (g := gN 2) (b := B_ways_to_pair_0 c) (as := List.range (n / 2)) (fun i δ => ∃ s, δ = [.fr (.int n), .fr (.int (wtp (2 * i))), s])
      (δ := [.fr (.int n), .fr (.int 1), .un]) ⟨.un, rfl⟩ (by
        rintro i a δ ha ⟨s, rfl⟩
        obtain ⟨hi, rfl⟩ := List.getElem?_eq_some_iff.mp ha
        rw [List.length_range] at hi
        simp only [List.getElem_range]
        refine ⟨[.fr (.int n), .fr (.int (wtp (2 * i))), .fr (.int (1 + (i : Nat) * 2))], [.fr (.int n), .fr (.int (wtp (2 * (i + 1)))), .fr (.int (1 + (i : Nat) * 2))], rfl, ?_, _, rfl⟩
        have e2 : (wtp (2 * (i + 1)) : Int) = (wtp (2 * i) : Int) * (1 + (i : Nat) * 2) := by
          rw [wtp_step, Int.natCast_mul]
          rfl
        have m : mulOk (wtp (2 * i) : Int) (1 + (i : Nat) * 2) = true := mulOk_r (by omega)
        simp_arith only [B_ways_to_pair_0, m, e2])
    rw [List.length_range] at h1
    have e3 : 2 * (n / 2) = n := by omega
    rw [e3] at h1
    simp_arith only [g_ways_to_pair, m_ways_to_pair, hm, eqD_int, e, hr, h1]
def strLt (x y : Str) : Bool := decide (x.cps.toList < y.cps.toList)
theorem strLt_tr (a b : Str) (h : a ≠ b) : strLt a b = true ↔ ¬ strLt b a = true := by
  unfold strLt
  simp only [decide_eq_true_eq]
  constructor
  · intro h1 h2
    exact List.lt_irrefl _ (List.lt_trans h1 h2)
  · intro h1
    have h2 : a.cps.toList ≤ b.cps.toList := List.not_lt.mp h1
    by_cases h4 : a.cps.toList < b.cps.toList
    · exact h4
    · exact absurd (PySem.W.str_of_cps (List.le_antisymm h2 (List.not_lt.mp h4))) h
theorem mulOk_l {i j : Int} (h : 0 ≤ i ∧ i < 18446744073709551616) : mulOk i j = true := by
  unfold mulOk DL.small64
  simp only [Bool.or_eq_true, Bool.and_eq_true, decide_eq_true_eq]
  left
  omega
theorem mulOk_r2 {i j : Int} (h : 0 ≤ j ∧ j < 18446744073709551616) : mulOk i j = true := by
  unfold mulOk DL.small64
  simp only [Bool.or_eq_true, Bool.and_eq_true, decide_eq_true_eq]
  right
  omega
theorem fac20 : fac 20 = 2432902008176640000 := by decide
theorem fac15 : fac 15 = 1307674368000 := by decide
/-- of a share and what stands ahead one is small -/
theorem one_small {A B a b : Nat} (hA : A ≤ fac a) (hB : B ≤ fac b) (h : a + b ≤ 36) : mulOk (A : Int) (B : Int) = true := by
  by_cases hb : b ≤ 20
  · have := Nat.le_trans hB (fac_mono hb)
    rw [fac20] at this
    exact mulOk_r2 (by omega)
  · have := Nat.le_trans hA (fac_mono (show a ≤ 15 by omega))
    rw [fac15] at this
    exact mulOk_l (by omega)
theorem tot_snoc (rows : List (Str × Str)) (r : Str × Str) (ss : List Str) : tot (rows ++ [r]) ss = tot rows ss + ss.count r.1 := by simp [tot]
theorem eqD_str {x y : Str} (hx : NameOk x) (hy : NameOk y) : eqD (.str x) (.str y) = some (.bl (decide (x = y))) := by
  rw [eqD_pl 0 hx.pl hy.pl]; simp
section
variable (c : Cs) {sorts : List (Str × Str)} {ks : List (Str × List Str)} (hS : StockOk sorts ks)
include hS
theorem ends_names {cs : List Str} {legs : List (Str × Str)} (hC : CornersOk ks cs) (hL : LegsOk sorts legs) : ∀ y ∈ endSorts ks cs legs, y ∈ sorts.map fun q => q.1 := fun y hy => by
  unfold endSorts at hy
  rcases List.mem_append.mp hy with hy | hy
  · obtain ⟨n, hn, hy⟩ := List.mem_flatMap.mp hy
    obtain ⟨p, hp, e⟩ := List.mem_map.mp (hC.mem n hn)
    rw [← e, own_self hS.nd hp] at hy
    exact (hS.en p hp).mem y hy
  · obtain ⟨p, hp, rfl⟩ := List.mem_map.mp hy
    exact (hL.nm p hp).2
theorem ends_len {cs : List Str} {legs : List (Str × Str)} (hC : CornersOk ks cs) (hL : LegsOk sorts legs) : (endSorts ks cs legs).length ≤ 36 := by
  unfold endSorts
  have := ends_len_bound hS hC.mem
  have h1 := hC.hi
  have h2 := hL.hi
  rw [List.length_append, List.length_map]
  omega
theorem count_turn {ss : List Str} (hn : ∀ y ∈ ss, NameOk y) (hl : ss.length ≤ 36) {q : Str × Str} (hq : q ∈ sorts) {A a : Nat} (hA : A ≤ fac a) (ha : a + ss.count q.1 ≤ 36) (f0 f1 f2 f7 f8 : Sl) :
    ∃ s7, B_count_0 c [f0, f1, f2, .ow (.lst (ss.map .str)), .fr (.int A), .fr (.str q.1), .fr (.str q.2), f7, f8] = some (.nx [f0, f1, f2, .ow (.lst (ss.map .str)), .fr (.int (A * shr strLt ss q : Nat)), .fr (.str q.1), .fr (.str q.2), s7, f8]) := by
  have n1 := (hS.so.nm q hq).1
  have n2 := (hS.so.nm q hq).2
  have pl := strs_pl hS.so hn
  have c1 : cntD (.lst (ss.map .str)) (.str q.1) = some (.int (ss.count q.1 : Nat)) := by rw [cntD_lst 0 n1.pl pl, count_strs]
  have c2 : cntD (.lst (ss.map .str)) (.str q.2) = some (.int (ss.count q.2 : Nat)) := by rw [cntD_lst 0 n2.pl pl, count_strs]
  have hc : ss.count q.1 ≤ 36 := Nat.le_trans List.count_le_length hl
  have he := eqD_str n1 n2
  have hlt : ltSD (.str q.1) (.str q.2) = some (.bl (strLt q.1 q.2)) := rfl
  refine ⟨.fr (.int (ss.count q.1 : Nat)), ?_⟩
  by_cases e : q.1 = q.2
  · have d : decide (q.1 = q.2) = true := decide_eq_true e
    rw [d] at he
    have hw := ways_to_pair_ok c (ss.count q.1) (by omega)
    have m : mulOk (A : Int) (wtp (ss.count q.1) : Nat) = true := one_small hA (wtp_le _) ha
    have es : shr strLt ss q = wtp (ss.count q.1) := by unfold shr; rw [if_pos e]
    rw [es, Int.natCast_mul]
    simp_arith only [B_count_0, c1, he, hw, m]
  · have d : decide (q.1 = q.2) = false := decide_eq_false e
    rw [d] at he
    cases hs : strLt q.1 q.2 with
    | true =>
      rw [hs] at hlt
      have hf := factorial_ok c (ss.count q.1) (by omega)
      have m : mulOk (A : Int) (fac (ss.count q.1) : Nat) = true := one_small hA (Nat.le_refl _) ha
      have es : shr strLt ss q = fac (ss.count q.1) * (if ss.count q.2 = ss.count q.1 then 1 else 0) := by unfold shr; rw [if_neg e, if_pos hs]
      have hi : ∀ b : Bool, intD (.bl b) = some (.int (if b then 1 else 0)) := fun b => rfl
      have m2 : mulOk ((A : Int) * (fac (ss.count q.1) : Nat)) (if (decide (((ss.count q.2 : Nat) : Int) = ((ss.count q.1 : Nat) : Int))) = true then 1 else 0) = true := mulOk_r (by split <;> omega)
      have ev : ((A * (fac (ss.count q.1) * (if ss.count q.2 = ss.count q.1 then 1 else 0)) : Nat) : Int) = (A : Int) * (fac (ss.count q.1) : Nat) * (if (decide (((ss.count q.2 : Nat) : Int) = ((ss.count q.1 : Nat) : Int))) = true then 1 else 0) := by
        have z' : ((if ss.count q.2 = ss.count q.1 then 1 else 0 : Nat) : Int) = (if (decide (((ss.count q.2 : Nat) : Int) = ((ss.count q.1 : Nat) : Int))) = true then 1 else 0) := by
          by_cases z : ss.count q.2 = ss.count q.1
          · rw [if_pos z, if_pos (decide_eq_true (by omega))]; rfl
          · rw [if_neg z, if_neg (by rw [decide_eq_true_iff]; omega)]; rfl
        rw [← Nat.mul_assoc, Int.natCast_mul, Int.natCast_mul, z']
      rw [es, ev]
      simp_arith only [B_count_0, c1, c2, he, hlt, hf, m, eqD_int, hi, m2]
    | false =>
      rw [hs] at hlt
      have es : shr strLt ss q = 1 := by unfold shr; rw [if_neg e, if_neg (by rw [hs]; decide)]
      rw [es, Nat.mul_one]
      simp_arith only [B_count_0, c1, he, hlt]
theorem count_ok {cs : List Str} {legs : List (Str × Str)} (hC : CornersOk ks cs) (hL : LegsOk sorts legs) : g_count c [stockD c sorts ks, .lst (cs.map .str), legsD legs] = some (.int (cntW strLt sorts (endSorts ks cs legs))) := by
  obtain ⟨ss, hss⟩ : ∃ ss, ss = endSorts ks cs legs := ⟨_, rfl⟩
  have hm : ∀ y ∈ ss, y ∈ sorts.map fun q => q.1 := by rw [hss]; exact ends_names hS hC hL
  have hl : ss.length ≤ 36 := by rw [hss]; exact ends_len hS hC hL
  have hn : ∀ y ∈ ss, NameOk y := fun y hy => sort_name hS.so (hm y hy)
  have h1 := sure_ok c hS hC hL
  have h2 := ends_there_ok c hS hC hL
  have h3 : L_count_0 c [.fr (stockD c sorts ks), .bo (.lst (cs.map .str)), .bo (legsD legs), .un, .un, .un, .un, .un, .un] = some (.ok (.lst (ss.map .str)) [.fr (stockD c sorts ks), .bo (.lst (cs.map .str)), .bo (legsD legs), .un, .un, .un, .un, .un, .un]) := by
    rw [hss, ← ends_sorts, List.map_map]
    refine mLc_map (as := endsP ks cs legs) (enc := endD) (δ0 := [.fr (stockD c sorts ks), .bo (.lst (cs.map .str)), .bo (legsD legs), .un, .un, .un, .un, .un, .un]) (by simp_arith only [h2]) rfl
      fun p hp => ⟨[.fr (stockD c sorts ks), .bo (.lst (cs.map .str)), .bo (legsD legs), .un, .un, .fr (.str p.2), .un, .un, .fr (.int (p.1 : Nat))], [.fr (stockD c sorts ks), .bo (.lst (cs.map .str)), .bo (legsD legs), .un, .un, .fr (.str p.2), .un, .un, .fr (.int (p.1 : Nat))], rfl, ?_, rfl⟩
    simp_arith only [E_count_0, Function.comp]
  obtain ⟨δ', h4, ⟨s5, s6, s7, rfl⟩⟩ := forL_ix (enc := pairD) (g := gT (gsC (gN 5) (gsC (gN 6) gs0))) (b := B_count_0 c) (as := sorts)
    (fun i δ => ∃ s5 s6 s7, δ = [.fr (stockD c sorts ks), .bo (.lst (cs.map .str)), .bo (legsD legs), .ow (.lst (ss.map .str)), .fr (.int (pr ((sorts.take i).map (shr strLt ss)) : Nat)), s5, s6, s7, .un])
    (δ := [.fr (stockD c sorts ks), .bo (.lst (cs.map .str)), .bo (legsD legs), .ow (.lst (ss.map .str)), .fr (.int 1), .un, .un, .un, .un]) ⟨.un, .un, .un, rfl⟩ (by
      rintro i q δ ha ⟨s5, s6, s7, rfl⟩
      have hq := List.mem_of_getElem? ha
      have hnd : ((sorts.take (i + 1)).map (·.1)).Nodup := by
        rw [List.map_take]
        exact List.Nodup.sublist (List.take_sublist _ _) hS.so.nd
      have ht := tot_le (sorts.take (i + 1)) ss hnd
      rw [take_snoc ha, tot_snoc] at ht
      obtain ⟨s7', h⟩ := count_turn c hS hn hl hq (pr_tot strLt ss (sorts.take i)) (by omega) (.fr (stockD c sorts ks)) (.bo (.lst (cs.map .str))) (.bo (legsD legs)) s7 .un
      have e : pr ((sorts.take (i + 1)).map (shr strLt ss)) = pr ((sorts.take i).map (shr strLt ss)) * shr strLt ss q := by rw [take_snoc ha, List.map_append, List.map_singleton, pr_snoc]
      rw [← e] at h
      exact ⟨_, _, rfl, h, _, _, _, rfl⟩)
  rw [List.take_length] at h4
  have h5 := sorts_of c hS
  have h6 : sortsD sorts = .lst (sorts.map pairD) := rfl
  rw [h6] at h5
  rw [← hss]
  simp_arith only [g_count, m_count, h1, h3, h4, h5, cntW]
end
end G

set_option Elab.async false
set_option linter.all false
set_option maxRecDepth 100000
set_option maxHeartbeats 1000000
/-! MDc: the laws' own helpers: ends, wanted ends, grounds. -/
namespace G
open PySem L2 DL PG
theorem addD_lst {xs ys : List D} (h : xs.length + ys.length ≤ 1000000) : addD (.lst xs) (.lst ys) = some (.lst (xs ++ ys)) := by
  simp only [addD, fI0, fStrCat, fCatL, fCatT, Option.or, h, if_true]
section
variable (c : Cs) {sorts : List (Str × Str)} {ks : List (Str × List Str)} (hS : StockOk sorts ks)
include hS
theorem dget_kind {p : Str × List Str} (hp : p ∈ ks) : dgetD (.dk (ks.map fun p => Sum.inr p.1) (ks.map fun p => .tup (p.2.map .str))) (.str p.1) = some (.tup (p.2.map .str)) := by
  simp only [dgetD, keyD, lookK_lk (fun p : Str × List Str => D.tup (p.2.map .str)), lk_self hS.nd hp]; rfl
theorem there_ok {cs : List Str} {legs : List (Str × Str)} (hm : ∀ n ∈ cs, n ∈ ks.map fun p => p.1) (h6 : cs.length ≤ 100) (hl6 : legs.length ≤ 100) : g__law_there c [kindsD ks, .lst (cs.map .str), legsD legs] = some (.lst ((endsP ks cs legs).map endD)) := by
  have hb := ends_len_bound hS hm
  have hd := dict_kinds hS
  obtain ⟨δ', h1, ⟨s4, s5, rfl⟩⟩ := forL_ix (enc := fun q : Str × Nat => D.tup [.int (q.2 : Nat), .str q.1]) (g := gT (gsC (gN 4) (gsC (gN 5) gs0))) (b := B__law_there_0 c) (as := cs.zipIdx)
    (fun i δ => ∃ s4 s5, δ = [.fr (kindsD ks), .bo (.lst (cs.map .str)), .bo (legsD legs), .ow (.lst ((cornerEnds ks (cs.zipIdx.take i)).map endD)), s4, s5, .un, .un, .un])
    (δ := [.fr (kindsD ks), .bo (.lst (cs.map .str)), .bo (legsD legs), .ow (.lst []), .un, .un, .un, .un, .un]) ⟨.un, .un, rfl⟩ (by
      rintro i q δ ha ⟨s4, s5, rfl⟩
      obtain ⟨hq, rfl⟩ := zip_at ha
      obtain ⟨p, hp, ep⟩ := List.mem_map.mp (hm _ (List.mem_of_getElem? hq))
      have ho := dget_kind hS hp
      rw [ep] at ho
      have hL0 : L__law_there_0 c [.fr (kindsD ks), .bo (.lst (cs.map .str)), .bo (legsD legs), .ow (.lst ((cornerEnds ks (cs.zipIdx.take q.2)).map endD)), .fr (.int (q.2 : Nat)), .fr (.str q.1), .un, .un, .un] =
          some (.ok (.lst (((ownOf ks q.1).map fun s => (q.2, s)).map endD)) [.fr (kindsD ks), .bo (.lst (cs.map .str)), .bo (legsD legs), .ow (.lst ((cornerEnds ks (cs.zipIdx.take q.2)).map endD)), .fr (.int (q.2 : Nat)), .fr (.str q.1), .un, .un, .un]) := by
        rw [← ep, own_self hS.nd hp, List.map_map, ep]
        refine mLc_map (as := p.2) (enc := D.str) (δ0 := [.fr (kindsD ks), .bo (.lst (cs.map .str)), .bo (legsD legs), .ow (.lst ((cornerEnds ks (cs.zipIdx.take q.2)).map endD)), .fr (.int (q.2 : Nat)), .fr (.str q.1), .un, .un, .un]) (by simp_arith only [hd, ho]) rfl
          fun y hy => ⟨[.fr (kindsD ks), .bo (.lst (cs.map .str)), .bo (legsD legs), .ow (.lst ((cornerEnds ks (cs.zipIdx.take q.2)).map endD)), .fr (.int (q.2 : Nat)), .fr (.str q.1), .fr (.str y), .un, .un], [.fr (kindsD ks), .bo (.lst (cs.map .str)), .bo (legsD legs), .ow (.lst ((cornerEnds ks (cs.zipIdx.take q.2)).map endD)), .fr (.int (q.2 : Nat)), .fr (.str q.1), .fr (.str y), .un, .un], rfl, ?_, rfl⟩
        simp_arith only [E__law_there_0, Function.comp]
      have hx : extF ((cornerEnds ks (cs.zipIdx.take q.2)).map endD) [.lst (((ownOf ks q.1).map fun s => (q.2, s)).map endD)] = some ((cornerEnds ks (cs.zipIdx.take (q.2 + 1))).map endD, .non) := by
        have hl : ((cornerEnds ks (cs.zipIdx.take q.2)).map endD).length + (((ownOf ks q.1).map fun s => (q.2, s)).map endD).length ≤ 1000000 := by
          rw [List.length_map, List.length_map, List.length_map, cornerEnds_len, List.map_take, List.zipIdx_map_fst]
          have e1 := ends_len_bound hS (cs := cs.take q.2) fun n hn => hm n (List.mem_of_mem_take hn)
          have e2 : (ownOf ks q.1).length ≤ 5 := by rw [← ep, own_self hS.nd hp]; exact (hS.en p hp).hi
          have e3 : (cs.take q.2).length ≤ cs.length := List.length_take_le' _ _
          omega
        simp only [extF, hl, if_true]
        rw [take_snoc ha, cornerEnds_snoc, List.map_append]
      refine ⟨_, [.fr (kindsD ks), .bo (.lst (cs.map .str)), .bo (legsD legs), .ow (.lst ((cornerEnds ks (cs.zipIdx.take (q.2 + 1))).map endD)), .fr (.int (q.2 : Nat)), .fr (.str q.1), .un, .un, .un], rfl, ?_, _, _, rfl⟩
      simp_arith only [B__law_there_0, hL0, hx])
  rw [List.take_length] at h1
  have g1 : enumD (cs.map D.str) = cs.zipIdx.map fun q => D.tup [.int (q.2 : Nat), .str q.1] := enum_map D.str cs
  have g2 : enumD (legs.map pairD) = legs.zipIdx.map fun q => D.tup [.int (q.2 : Nat), pairD q.1] := enum_map pairD legs
  have hlg : legsD legs = .lst (legs.map pairD) := rfl
  have hL1 : L__law_there_1 c [.fr (kindsD ks), .bo (.lst (cs.map .str)), .bo (legsD legs), .ow (.lst ((cornerEnds ks cs.zipIdx).map endD)), s4, s5, .un, .un, .un] =
      some (.ok (.lst ((legs.zipIdx.map fun q => (cs.length + q.2, q.1.2)).map endD)) [.fr (kindsD ks), .bo (.lst (cs.map .str)), .bo (legsD legs), .ow (.lst ((cornerEnds ks cs.zipIdx).map endD)), s4, s5, .un, .un, .un]) := by
    rw [List.map_map]
    refine mLc_map (as := legs.zipIdx) (enc := fun q => D.tup [.int (q.2 : Nat), pairD q.1]) (δ0 := [.fr (kindsD ks), .bo (.lst (cs.map .str)), .bo (legsD legs), .ow (.lst ((cornerEnds ks cs.zipIdx).map endD)), s4, s5, .un, .un, .un]) (by rw [hlg]; simp_arith only [g2]) rfl
      fun q hq => ⟨[.fr (kindsD ks), .bo (.lst (cs.map .str)), .bo (legsD legs), .ow (.lst ((cornerEnds ks cs.zipIdx).map endD)), s4, s5, .un, .fr (.int (q.2 : Nat)), .fr (pairD q.1)], [.fr (kindsD ks), .bo (.lst (cs.map .str)), .bo (legsD legs), .ow (.lst ((cornerEnds ks cs.zipIdx).map endD)), s4, s5, .un, .fr (.int (q.2 : Nat)), .fr (pairD q.1)], rfl, ?_, rfl⟩
    have el : lenD (.lst (cs.map D.str)) = some (.int cs.length) := by simp [lenD]
    have i1 : ixD (pairD q.1) (.int 1) = some (.str q.1.2) := rfl
    have e3 : ((cs.length + q.2 : Nat) : Int) = (cs.length : Int) + (q.2 : Int) := by omega
    show E__law_there_1 c _ = some (.ok (.tup [.int ((cs.length + q.2 : Nat) : Int), .str q.1.2]) _)
    rw [e3]
    simp_arith only [E__law_there_1, el, i1]
  have ha : addD (.lst ((cornerEnds ks cs.zipIdx).map endD)) (.lst ((legs.zipIdx.map fun q => (cs.length + q.2, q.1.2)).map endD)) = some (.lst ((endsP ks cs legs).map endD)) := by
    rw [addD_lst]
    · unfold endsP; rw [List.map_append]
    · rw [List.length_map, List.length_map, List.length_map, cornerEnds_len, List.zipIdx_map_fst, List.length_zipIdx]
      omega
  simp_arith only [g__law_there, m__law_there, g1, h1, hL1, ha]
/-- the sorts that are lacking -/
def wantL (sorts : List (Str × Str)) (ss : List Str) : List Str := sorts.flatMap fun q => if q.1 = q.2 then List.replicate (ss.count q.1 % 2) q.1 else List.replicate (ss.count q.1 - ss.count q.2) q.2
theorem wanted_ok {ss : List Str} (hn : ∀ y ∈ ss, NameOk y) (hl : ss.length ≤ 1000) : g__law_wanted c [sortsD sorts, .lst (ss.map .str)] = some (.lst ((wantL sorts ss).map .str)) := by
  have pl := strs_pl hS.so hn
  have hlen : ∀ i, (wantL (sorts.take i) ss).length ≤ 3000 := fun i => by
    have hk : (sorts.take i).length ≤ 3 := Nat.le_trans (List.length_take_le' _ _) hS.so.hi
    revert hk
    generalize sorts.take i = rows
    intro hk
    have : ∀ rows : List (Str × Str), (wantL rows ss).length ≤ rows.length * 1000 := fun rows => by
      induction rows with
      | nil => exact Nat.zero_le _
      | cons q rows ih =>
        unfold wantL at ih ⊢
        rw [List.flatMap_cons, List.length_append, List.length_cons]
        have : (if q.1 = q.2 then List.replicate (ss.count q.1 % 2) q.1 else List.replicate (ss.count q.1 - ss.count q.2) q.2).length ≤ 1000 := by
          have hc : ss.count q.1 ≤ ss.length := List.count_le_length
          split
          · rw [List.length_replicate]; omega
          · rw [List.length_replicate]; omega
        omega
    have := this rows
    omega
  obtain ⟨δ', h1, ⟨s3, s4, rfl⟩⟩ := forL_ix (enc := pairD) (g := gT (gsC (gN 3) (gsC (gN 4) gs0))) (b := B__law_wanted_0 c) (as := sorts)
    (fun i δ => ∃ s3 s4, δ = [.fr (sortsD sorts), .bo (.lst (ss.map .str)), .ow (.lst ((wantL (sorts.take i) ss).map .str)), s3, s4])
    (δ := [.fr (sortsD sorts), .bo (.lst (ss.map .str)), .ow (.lst []), .un, .un]) ⟨.un, .un, rfl⟩ (by
      rintro i q δ ha ⟨s3, s4, rfl⟩
      have hq := List.mem_of_getElem? ha
      have n1 := (hS.so.nm q hq).1
      have n2 := (hS.so.nm q hq).2
      have c1 : cntD (.lst (ss.map .str)) (.str q.1) = some (.int (ss.count q.1 : Nat)) := by rw [cntD_lst 0 n1.pl pl, count_strs]
      have c2 : cntD (.lst (ss.map .str)) (.str q.2) = some (.int (ss.count q.2 : Nat)) := by rw [cntD_lst 0 n2.pl pl, count_strs]
      have he := eqD_str n1 n2
      have hc : ss.count q.1 ≤ ss.length := List.count_le_length
      have hw : wantL (sorts.take (i + 1)) ss = wantL (sorts.take i) ss ++ (if q.1 = q.2 then List.replicate (ss.count q.1 % 2) q.1 else List.replicate (ss.count q.1 - ss.count q.2) q.2) := by
        unfold wantL
        rw [take_snoc ha, List.flatMap_append, List.flatMap_singleton]
      have hrep : ∀ (n : Nat) (x : Str), n ≤ 1000 → ∀ k : Int, k.toNat = n → -1000000 ≤ k → k ≤ 1000000 → repF (.lst [.str x]) (.int k) = some ((List.replicate n x).map .str) := fun n x hn k hk k1 k2 => by
        have e : (List.replicate k.toNat [D.str x]).flatten = (List.replicate n x).map .str := by
          rw [hk, List.map_replicate]
          clear hk hn
          induction n with
          | zero => rfl
          | succ n ih => rw [List.replicate_succ, List.flatten_cons, ih, List.replicate_succ]; rfl
        have hcond : -1000000 ≤ k ∧ k ≤ 1000000 ∧ ([D.str x].length * k.toNat ≤ 1000000) := ⟨k1, k2, by rw [hk]; simp; omega⟩
        rw [repF, if_pos hcond, e]
      have hx : ∀ ys : List Str, ys.length ≤ 1000 → extF ((wantL (sorts.take i) ss).map .str) [.lst (ys.map .str)] = some ((wantL (sorts.take i) ss ++ ys).map .str, .non) := fun ys hy => by
        have : ((wantL (sorts.take i) ss).map D.str).length + (ys.map D.str).length ≤ 1000000 := by rw [List.length_map, List.length_map]; have := hlen i; omega
        simp only [extF, this, if_true, List.map_append]
      have hm2 : modOk (ss.count q.1 : Nat) 2 = true := by simp [modOk]
      refine ⟨_, [.fr (sortsD sorts), .bo (.lst (ss.map .str)), .ow (.lst ((wantL (sorts.take (i + 1)) ss).map .str)), .fr (.str q.1), .fr (.str q.2)], rfl, ?_, _, _, rfl⟩
      rw [hw]
      by_cases e : q.1 = q.2
      · rw [if_pos e]
        rw [decide_eq_true e] at he
        have h3 := hrep (ss.count q.1 % 2) q.1 (by omega) ((ss.count q.1 : Nat) % 2 : Int) (by omega) (by omega) (by omega)
        have h4 := hx (List.replicate (ss.count q.1 % 2) q.1) (by rw [List.length_replicate]; omega)
        simp_arith only [B__law_wanted_0, he, c1, hm2, h3, h4]
      · rw [if_neg e]
        rw [decide_eq_false e] at he
        have hmx : fA2 maxD [.int 0, .int ((ss.count q.1 : Nat) - (ss.count q.2 : Nat) : Int)] = some (.int (if ((ss.count q.1 : Nat) - (ss.count q.2 : Nat) : Int) > 0 then ((ss.count q.1 : Nat) - (ss.count q.2 : Nat) : Int) else 0)) := rfl
        have hc2 : ss.count q.2 ≤ ss.length := List.count_le_length
        have h3 := hrep (ss.count q.1 - ss.count q.2) q.2 (by omega) (if ((ss.count q.1 : Nat) - (ss.count q.2 : Nat) : Int) > 0 then ((ss.count q.1 : Nat) - (ss.count q.2 : Nat) : Int) else 0) (by split <;> omega) (by split <;> omega) (by split <;> omega)
        have h4 := hx (List.replicate (ss.count q.1 - ss.count q.2) q.2) (by rw [List.length_replicate]; omega)
        simp_arith only [B__law_wanted_0, he, c1, c2, hmx, h3, h4])
  rw [List.take_length] at h1
  have hsd : sortsD sorts = .lst (sorts.map pairD) := rfl
  rw [hsd] at h1 ⊢
  simp_arith only [g__law_wanted, m__law_wanted, h1]
end
end G

set_option Elab.async false
set_option linter.all false
set_option maxRecDepth 100000
set_option maxHeartbeats 1000000
/-! MDd: grounds: corners and legs as the laws draw them. -/
namespace G
open PySem L2 DL PG
section
variable (c : Cs) {sorts : List (Str × Str)} {ks : List (Str × List Str)} (hS : StockOk sorts ks)
include hS
theorem g_corner (a b k : Int) (f1 f3 f4 f5 f6 f7 f8 f9 f10 f11 f12 f13 : Sl) : ∃ (a' b' k' : Int) (x : Str), E__law_grounds_0 c [.io (rs a b k), f1, .fr (kindsD ks), f3, f4, f5, f6, f7, f8, f9, f10, f11, f12, f13] = some (.ok (.str x) [.io (rs a' b' k'), f1, .fr (kindsD ks), f3, f4, f5, f6, f7, f8, f9, f10, f11, f12, f13]) ∧ x ∈ ks.map fun p => p.1 := by
  have hl := hS.lo
  have hh := hS.hi
  obtain ⟨r, a', b', k', hp, h0, h1⟩ := pick_spec c a b k ks.length (by omega) (by omega)
  obtain ⟨h, e⟩ := atI_nat (xs := ks.map kindD) h0 (by rw [List.length_map]; exact h1)
  have h' : r.toNat < ks.length := by rw [List.length_map] at h; exact h
  rw [List.getElem_map] at e
  have e1 : ixD (kindsD ks) (.int r) = some (kindD (ks[r.toNat]'h')) := e
  have e2 : ixD (kindD (ks[r.toNat]'h')) (.int 0) = some (.str (ks[r.toNat]'h').1) := rfl
  have e3 : lenD (kindsD ks) = some (.int ks.length) := by simp [kindsD, lenD]
  refine ⟨a', b', k', (ks[r.toNat]'h').1, ?_, List.mem_map.mpr ⟨_, List.getElem_mem h', rfl⟩⟩
  simp_arith only [E__law_grounds_0, hp, e1, e2, e3]
theorem g_extra (a b k : Int) (f2 f3 f4 f5 f6 f7 f8 f9 f10 f11 f12 f13 : Sl) : ∃ (a' b' k' : Int) (x : Str), E__law_grounds_1 c [.io (rs a b k), .fr (sortsD sorts), f2, f3, f4, f5, f6, f7, f8, f9, f10, f11, f12, f13] = some (.ok (.str x) [.io (rs a' b' k'), .fr (sortsD sorts), f2, f3, f4, f5, f6, f7, f8, f9, f10, f11, f12, f13]) ∧ x ∈ sorts.map fun p => p.1 := by
  have hl := hS.so.lo
  have hh := hS.so.hi
  obtain ⟨r, a', b', k', hp, h0, h1⟩ := pick_spec c a b k sorts.length (by omega) (by omega)
  obtain ⟨h, e⟩ := atI_nat (xs := sorts.map pairD) h0 (by rw [List.length_map]; exact h1)
  have h' : r.toNat < sorts.length := by rw [List.length_map] at h; exact h
  rw [List.getElem_map] at e
  have e1 : ixD (sortsD sorts) (.int r) = some (pairD (sorts[r.toNat]'h')) := e
  have e2 : ixD (pairD (sorts[r.toNat]'h')) (.int 0) = some (.str (sorts[r.toNat]'h').1) := rfl
  have e3 : lenD (sortsD sorts) = some (.int sorts.length) := by simp [sortsD, lenD]
  refine ⟨a', b', k', (sorts[r.toNat]'h').1, ?_, List.mem_map.mpr ⟨_, List.getElem_mem h', rfl⟩⟩
  simp_arith only [E__law_grounds_1, hp, e1, e2, e3]
theorem g_corners (a b k : Int) (m : Nat) (hm : m ≤ 6) (f1 f4 f5 f6 f7 f8 f9 f10 f11 f12 f13 : Sl) : ∃ (a' b' k' : Int) (cs : List Str), L__law_grounds_0 c [.io (rs a b k), f1, .fr (kindsD ks), .fr (.int m), f4, f5, f6, f7, f8, f9, f10, f11, f12, f13] =
    some (.ok (.lst (cs.map .str)) [.io (rs a' b' k'), f1, .fr (kindsD ks), .fr (.int m), f4, f5, f6, f7, f8, f9, f10, .un, f12, f13]) ∧ cs.length ≤ m ∧ ∀ x ∈ cs, x ∈ ks.map fun p => p.1 := by
  obtain ⟨r, a1, b1, k1, hp, h0, h1⟩ := pick_spec c a b k ((m : Int) + 1) (by omega) (by omega)
  have hrg : rg1 [.int r] = some ((List.range r.toNat).map fun i => D.int (0 + (i : Nat))) := by
    have : -1000000 ≤ r ∧ r ≤ 1000000 := by omega
    simp only [rg1, this, and_self, if_true, rangeD]
  obtain ⟨out, δ', g1, g2⟩ := mLc_ix (as := List.range r.toNat) (enc := fun i : Nat => D.int (0 + (i : Nat))) (it := mIt rg1 (mdCons (mCallI 0 [.fr] (g__law_pick c) (maCons (mVal (m2 addD (mOv 3) (mVal (mC (.int 1))))) maNil)) mdNil)) (g := gN 11) (t := mYes) (e := E__law_grounds_0 c) (vs := [11])
    (δ := [.io (rs a b k), f1, .fr (kindsD ks), .fr (.int m), f4, f5, f6, f7, f8, f9, f10, f11, f12, f13]) (δ0 := [.io (rs a1 b1 k1), f1, .fr (kindsD ks), .fr (.int m), f4, f5, f6, f7, f8, f9, f10, f11, f12, f13])
    (fun i acc δ => ∃ (a b k : Int) (cs : List Str), acc = cs.map D.str ∧ cs.length = i ∧ (∀ x ∈ cs, x ∈ ks.map fun p => p.1) ∧ δ = [.io (rs a b k), f1, .fr (kindsD ks), .fr (.int m), f4, f5, f6, f7, f8, f9, f10, .un, f12, f13])
    (by simp_arith only [hp, hrg]) ⟨a1, b1, k1, [], rfl, rfl, (fun x hx => by cases hx), rfl⟩ (by
      rintro i n acc δ _ ⟨a, b, k, cs, rfl, hl, hx, rfl⟩
      obtain ⟨a', b', k', x, e1, e2⟩ := g_corner c hS a b k f1 (.fr (.int m)) f4 f5 f6 f7 f8 f9 f10 (.fr (.int (0 + (n : Nat)))) f12 f13
      refine ⟨_, true, _, rfl, rfl, (fun h => by cases h), fun _ => ⟨.str x, _, e1, a', b', k', cs ++ [x], by rw [List.map_append]; rfl, by rw [List.length_append, hl]; rfl, fun y hy => ?_, rfl⟩⟩
      rcases List.mem_append.mp hy with hy | hy
      · exact hx y hy
      · rw [List.mem_singleton.mp hy]; exact e2)
  obtain ⟨a', b', k', cs, rfl, hl, hx, rfl⟩ := g2
  rw [List.length_range] at hl
  exact ⟨a', b', k', cs, g1, by omega, hx⟩
theorem g_extras (a b k : Int) (f2 f3 f4 f5 f6 f7 f8 f9 f10 f11 f12 f13 : Sl) : ∃ (a' b' k' : Int) (xs : List Str), L__law_grounds_1 c [.io (rs a b k), .fr (sortsD sorts), f2, f3, f4, f5, f6, f7, f8, f9, f10, f11, f12, f13] =
    some (.ok (.lst (xs.map .str)) [.io (rs a' b' k'), .fr (sortsD sorts), f2, f3, f4, f5, f6, f7, f8, f9, f10, .un, f12, f13]) ∧ xs.length ≤ 2 ∧ ∀ x ∈ xs, x ∈ sorts.map fun p => p.1 := by
  obtain ⟨r, a1, b1, k1, hp, h0, h1⟩ := pick_spec c a b k 4 (by decide) (by decide)
  obtain ⟨n, hi, hn⟩ : ∃ n : Nat, ixD (.lst [.int 0, .int 0, .int 1, .int 2]) (.int r) = some (.int (n : Nat)) ∧ n ≤ 2 := by
    have : r = 0 ∨ r = 1 ∨ r = 2 ∨ r = 3 := by omega
    rcases this with rfl | rfl | rfl | rfl
    · exact ⟨0, rfl, by decide⟩
    · exact ⟨0, rfl, by decide⟩
    · exact ⟨1, rfl, by decide⟩
    · exact ⟨2, rfl, by decide⟩
  have hrg : rg1 [.int (n : Nat)] = some ((List.range n).map fun i => D.int (0 + (i : Nat))) := by
    have : -1000000 ≤ (n : Int) ∧ (n : Int) ≤ 1000000 := by omega
    simp only [rg1, this, and_self, if_true, rangeD, Int.toNat_natCast]
  obtain ⟨out, δ', g1, g2⟩ := mLc_ix (as := List.range n) (enc := fun i : Nat => D.int (0 + (i : Nat))) (it := mIt rg1 (mdCons (m2 ixD (mVal (mLst (mdCons (mC (.int 0)) (mdCons (mC (.int 0)) (mdCons (mC (.int 1)) (mdCons (mC (.int 2)) mdNil)))))) (mVal (mCallI 0 [.fr] (g__law_pick c) (maCons (mVal (mC (.int 4))) maNil)))) mdNil)) (g := gN 11) (t := mYes) (e := E__law_grounds_1 c) (vs := [11])
    (δ := [.io (rs a b k), .fr (sortsD sorts), f2, f3, f4, f5, f6, f7, f8, f9, f10, f11, f12, f13]) (δ0 := [.io (rs a1 b1 k1), .fr (sortsD sorts), f2, f3, f4, f5, f6, f7, f8, f9, f10, f11, f12, f13])
    (fun i acc δ => ∃ (a b k : Int) (xs : List Str), acc = xs.map D.str ∧ xs.length = i ∧ (∀ x ∈ xs, x ∈ sorts.map fun p => p.1) ∧ δ = [.io (rs a b k), .fr (sortsD sorts), f2, f3, f4, f5, f6, f7, f8, f9, f10, .un, f12, f13])
    (by simp_arith only [hp, hi, hrg]) ⟨a1, b1, k1, [], rfl, rfl, (fun x hx => by cases hx), rfl⟩ (by
      rintro i n acc δ _ ⟨a, b, k, xs, rfl, hl, hx, rfl⟩
      obtain ⟨a', b', k', x, e1, e2⟩ := g_extra c hS a b k f2 f3 f4 f5 f6 f7 f8 f9 f10 (.fr (.int (0 + (n : Nat)))) f12 f13
      refine ⟨_, true, _, rfl, rfl, (fun h => by cases h), fun _ => ⟨.str x, _, e1, a', b', k', xs ++ [x], by rw [List.map_append]; rfl, by rw [List.length_append, hl]; rfl, fun y hy => ?_, rfl⟩⟩
      rcases List.mem_append.mp hy with hy | hy
      · exact hx y hy
      · rw [List.mem_singleton.mp hy]; exact e2)
  obtain ⟨a', b', k', xs, rfl, hl, hx, rfl⟩ := g2
  rw [List.length_range] at hl
  exact ⟨a', b', k', xs, g1, by omega, hx⟩
theorem want_mem {ss : List Str} {y : Str} (h : y ∈ wantL sorts ss) : y ∈ sorts.map fun q => q.1 := by
  unfold wantL at h
  obtain ⟨q, hq, h⟩ := List.mem_flatMap.mp h
  by_cases e : q.1 = q.2
  · rw [if_pos e] at h
    rw [List.eq_of_mem_replicate h]
    exact List.mem_map.mpr ⟨q, hq, rfl⟩
  · rw [if_neg e] at h
    rw [List.eq_of_mem_replicate h]
    exact List.mem_map.mpr ⟨_, hS.so.mu q hq, rfl⟩
theorem want_len (ss : List Str) (h : ss.length ≤ 100) : (wantL sorts ss).length ≤ 300 := by
  have : ∀ rows : List (Str × Str), (wantL rows ss).length ≤ rows.length * 100 := fun rows => by
    induction rows with
    | nil => exact Nat.zero_le _
    | cons q rows ih =>
      unfold wantL at ih ⊢
      rw [List.flatMap_cons, List.length_append, List.length_cons]
      have : (if q.1 = q.2 then List.replicate (ss.count q.1 % 2) q.1 else List.replicate (ss.count q.1 - ss.count q.2) q.2).length ≤ 100 := by
        have hc : ss.count q.1 ≤ ss.length := List.count_le_length
        split
        · rw [List.length_replicate]; omega
        · rw [List.length_replicate]; omega
      omega
  have h1 := this sorts
  have h2 := hS.so.hi
  omega
end
theorem cut_last (xs : List Str) : slD (.lst (xs.map .str)) none (some (-1)) = some (.lst ((xs.take (xs.length - 1)).map .str)) := by
  have : HT.sIx (xs.map D.str).length (xs.map D.str).length (some (-1)) = xs.length - 1 := by
    rw [List.length_map]
    show (if (-1 : Int) < 0 then ((-1 : Int) + (xs.length : Int)).toNat else min (-1 : Int).toNat xs.length) = xs.length - 1
    rw [if_pos (by decide)]
    omega
  simp only [slD, cutD, this, HT.sIx_none, List.drop_zero, Nat.sub_zero, List.map_take]
theorem legs_made {sorts : List (Str × Str)} {ws wished : List Str} (hw : ws.Nodup) (hn : ∀ x ∈ ws, NameOk x) (h6 : wished.length ≤ 6) (hm : ∀ y ∈ wished, y ∈ sorts.map fun q => q.1) (hl : ws.length = 6) :
    ∃ legs, sortF (.lst ((ws.zip wished).map pairD)) = some (legs.map pairD) ∧ LegsOk sorts legs ∧ (legs.map fun p => p.2).Perm wished ∧ ∀ p ∈ legs, p.1 ∈ ws := by
  have hzl : (ws.zip wished).length ≤ 6 := by rw [List.length_zip]; omega
  obtain ⟨legs, e, p⟩ := perm_map (sortD_perm ((ws.zip wished).map pairD))
  refine ⟨legs, by rw [sortF_pairs _ (by omega), e], ⟨by rw [p.length_eq]; exact hzl, fun q hq => ?_, ?_, ?_⟩, ?_⟩
  · have := List.of_mem_zip (p.mem_iff.mp hq : q ∈ ws.zip wished)
    exact ⟨hn _ this.1, hm _ this.2⟩
  · have h1 : (legs.map fun p => p.1).Perm ((ws.zip wished).map fun p => p.1) := p.map _
    refine h1.nodup_iff.mpr ?_
    have : ((ws.zip wished).map Prod.fst) = ws.take (wished.length) := by
      rw [List.zip_eq_zip_take_min, List.map_fst_zip (by rw [List.length_take, List.length_take]; omega)]
      congr 1
      omega
    show ((ws.zip wished).map Prod.fst).Nodup
    rw [this]
    exact List.Nodup.sublist (List.take_sublist _ _) hw
  · rw [← e]; exact sortD_idem _
  · have h1 : (legs.map fun p => p.2).Perm ((ws.zip wished).map Prod.snd) := p.map _
    rw [List.map_snd_zip (by omega)] at h1
    exact ⟨h1, fun q hq => (List.of_mem_zip (p.mem_iff.mp hq : q ∈ ws.zip wished)).1⟩
/-- what the grounds are: corners, legs; all told, there are no more ends than may be; the legs are those drawn and those that lack -/
structure Grounds (sorts : List (Str × Str)) (ks : List (Str × List Str)) (most far : Nat) (cs : List Str) (legs : List (Str × Str)) : Prop where
  co : CornersOk ks cs
  le : LegsOk sorts legs
  cm : cs.length ≤ most
  fa : (endSorts ks cs legs).length ≤ far
  lz : ∀ p ∈ legs, ∃ s ∈ sgn, p.1.cps.toList.getLast? = some s
  ba : ∃ extra : List Str, (∀ x ∈ extra, x ∈ sorts.map fun p => p.1) ∧ ((legs.map fun p => p.2).Perm (extra ++ wantL sorts (extra ++ cs.flatMap (ownOf ks))))
theorem Grounds.nz {sorts : List (Str × Str)} {ks : List (Str × List Str)} {most far : Nat} {cs : List Str} {legs : List (Str × Str)} (h : Grounds sorts ks most far cs legs) : ∀ p ∈ legs, p.1 ≠ "zz" := fun p hp e => by
  obtain ⟨s, hs, hl⟩ := h.lz p hp
  rw [e] at hl
  have : s = 122 := (Option.some.inj hl).symm
  rw [this] at hs
  exact absurd hs (by decide)
section
variable (c : Cs) {sorts : List (Str × Str)} {ks : List (Str × List Str)} (hS : StockOk sorts ks)
include hS
theorem g_turn (R : D) (m far : Nat) (hm6 : m ≤ 6) (ws extra : List Str) (hw : ws.Nodup) (hn : ∀ x ∈ ws, NameOk x) (hwl : ws.length = 6) (hzz : ∀ x ∈ ws, ∃ s ∈ sgn, x.cps.toList.getLast? = some s) (hx2 : extra.length ≤ 2) (hx : ∀ x ∈ extra, x ∈ sorts.map fun p => p.1) (cs : List Str) (hcl : cs.length ≤ m) (hcm : ∀ x ∈ cs, x ∈ ks.map fun p => p.1) (s5 s8 s9 s10 s11 s12 s13 : Sl) (h5 : s5 = .ow (.lst (cs.map .str)) ∨ s5 = .fr (.lst (cs.map .str))) :
    (∃ legs δ', B__law_grounds_0 c [.io R, .fr (sortsD sorts), .fr (kindsD ks), .fr (.int m), .fr (.int far), s5, .ow (.lst (extra.map .str)), .fr (.lst (ws.map .str)), s8, s9, s10, s11, s12, s13] = some (.rt (.tup [.lst (cs.map .str), legsD legs]) (.io R :: δ')) ∧ Grounds sorts ks m far cs legs) ∨
    ∃ s9' s10' s12' s13', B__law_grounds_0 c [.io R, .fr (sortsD sorts), .fr (kindsD ks), .fr (.int m), .fr (.int far), s5, .ow (.lst (extra.map .str)), .fr (.lst (ws.map .str)), s8, s9, s10, s11, s12, s13] =
      some (.nx [.io R, .fr (sortsD sorts), .fr (kindsD ks), .fr (.int m), .fr (.int far), .fr (.lst ((cs.take (cs.length - 1)).map .str)), .ow (.lst (extra.map .str)), .fr (.lst (ws.map .str)), s8, s9', s10', s11, s12', s13']) := by
  have hth := there_ok c hS (legs := []) hcm (by omega) (by decide)
  have hb := ends_len_bound hS hcm
  have hst : (endsP ks cs []).map (fun p => p.2) = cs.flatMap (ownOf ks) := by rw [ends_sorts]; unfold endSorts; rw [List.map_nil, List.append_nil]
  have hsl : (endsP ks cs []).length = (cs.flatMap (ownOf ks)).length := by rw [← hst, List.length_map]
  have hL : ∀ s5, s5 = .ow (.lst (cs.map .str)) ∨ s5 = .fr (.lst (cs.map .str)) → L__law_grounds_2 c [.io R, .fr (sortsD sorts), .fr (kindsD ks), .fr (.int m), .fr (.int far), s5, .ow (.lst (extra.map .str)), .fr (.lst (ws.map .str)), s8, s9, s10, s11, s12, s13] =
      some (.ok (.lst ((cs.flatMap (ownOf ks)).map .str)) [.io R, .fr (sortsD sorts), .fr (kindsD ks), .fr (.int m), .fr (.int far), s5, .ow (.lst (extra.map .str)), .fr (.lst (ws.map .str)), s8, s9, s10, s11, .un, .un]) := fun s5 h5 => by
    rw [← hst, List.map_map]
    have hth' : g__law_there c [kindsD ks, .lst (cs.map .str), .lst []] = some (.lst ((endsP ks cs []).map endD)) := hth
    refine mLc_map (as := endsP ks cs []) (enc := endD) (δ0 := [.io R, .fr (sortsD sorts), .fr (kindsD ks), .fr (.int m), .fr (.int far), s5, .ow (.lst (extra.map .str)), .fr (.lst (ws.map .str)), s8, s9, s10, s11, s12, s13]) (by rcases h5 with rfl | rfl <;> simp_arith only [hth']) rfl
      fun p hp => ⟨[.io R, .fr (sortsD sorts), .fr (kindsD ks), .fr (.int m), .fr (.int far), s5, .ow (.lst (extra.map .str)), .fr (.lst (ws.map .str)), s8, s9, s10, s11, .fr (.int (p.1 : Nat)), .fr (.str p.2)], [.io R, .fr (sortsD sorts), .fr (kindsD ks), .fr (.int m), .fr (.int far), s5, .ow (.lst (extra.map .str)), .fr (.lst (ws.map .str)), s8, s9, s10, s11, .fr (.int (p.1 : Nat)), .fr (.str p.2)], rfl, ?_, rfl⟩
    simp_arith only [E__law_grounds_2, Function.comp]
  have hL := hL s5 h5
  obtain ⟨some_, hsome⟩ : ∃ ss, ss = extra ++ cs.flatMap (ownOf ks) := ⟨_, rfl⟩
  have hsm : ∀ y ∈ some_, y ∈ sorts.map fun q => q.1 := fun y hy => by
    rw [hsome] at hy
    rcases List.mem_append.mp hy with hy | hy
    · exact hx y hy
    · obtain ⟨n, hn, hy⟩ := List.mem_flatMap.mp hy
      obtain ⟨p, hp, e⟩ := List.mem_map.mp (hcm n hn)
      rw [← e, own_self hS.nd hp] at hy
      exact (hS.en p hp).mem y hy
  have hsmn : ∀ y ∈ some_, NameOk y := fun y hy => sort_name hS.so (hsm y hy)
  have hslen : some_.length ≤ 32 := by rw [hsome, List.length_append]; omega
  have a1 : addD (.lst (extra.map .str)) (.lst ((cs.flatMap (ownOf ks)).map .str)) = some (.lst (some_.map .str)) := by
    rw [addD_lst (by rw [List.length_map, List.length_map]; omega), hsome, List.map_append]
  have hwt := wanted_ok c hS hsmn (by omega)
  have hwl2 := want_len hS some_ (by omega)
  obtain ⟨wished, hwi⟩ : ∃ ss, ss = extra ++ wantL sorts some_ := ⟨_, rfl⟩
  have a2 : addD (.lst (extra.map .str)) (.lst ((wantL sorts some_).map .str)) = some (.lst (wished.map .str)) := by
    rw [addD_lst (by rw [List.length_map, List.length_map]; omega), hwi, List.map_append]
  have hwm : ∀ y ∈ wished, y ∈ sorts.map fun q => q.1 := fun y hy => by
    rw [hwi] at hy
    rcases List.mem_append.mp hy with hy | hy
    · exact hx y hy
    · exact want_mem hS hy
  have l1 : lenD (.lst (wished.map D.str)) = some (.int wished.length) := by simp [lenD]
  have l2 : lenD (.lst (some_.map D.str)) = some (.int some_.length) := by simp [lenD]
  have l3 : lenD (.lst (extra.map D.str)) = some (.int extra.length) := by simp [lenD]
  have hz : zipF [.lst (ws.map .str), .lst (wished.map .str)] = some ((ws.zip wished).map pairD) := by
    simp only [zipF]
    rw [List.zip_map, List.map_map]
    rfl
  have hcut := cut_last cs
  by_cases c1 : wished.length ≤ 6
  · by_cases c2 : some_.length + wished.length - extra.length ≤ far
    · left
      obtain ⟨legs, g1, g2, g3, g4⟩ := legs_made hw hn c1 hwm hwl
      have e1 : ((wished.length : Int) ≤ 6) = True := by simp; omega
      have e2 : ((some_.length : Int) + (wished.length : Int) - (extra.length : Int) ≤ (far : Int)) = True := by
        simp
        have : extra.length ≤ wished.length := by rw [hwi, List.length_append]; omega
        omega
      have hg : Grounds sorts ks m far cs legs := by
        refine ⟨⟨by omega, hcm⟩, g2, hcl, ?_, (fun p hp => hzz _ (g4 p hp)), extra, hx, ?_⟩
        · unfold endSorts
          have := g3.length_eq
          rw [List.length_append, this]
          have h8 : some_.length = extra.length + (cs.flatMap (ownOf ks)).length := by rw [hsome, List.length_append]
          omega
        · rw [← hsome, ← hwi]; exact g3
      refine ⟨legs, [.fr (sortsD sorts), .fr (kindsD ks), .fr (.int m), .fr (.int far), .fr (.lst (cs.map .str)), .ow (.lst (extra.map .str)), .fr (.lst (ws.map .str)), s8, .fr (.lst (some_.map .str)), .fr (.lst (wished.map .str)), s11, .un, .un], ?_, hg⟩
      have hlg : legsD legs = .lst (legs.map pairD) := rfl
      rw [hlg]
      rcases h5 with rfl | rfl <;> simp_arith only [B__law_grounds_0, hL, a1, hwt, a2, l1, l2, l3, e1, e2, hz, g1]
    · right
      have e1 : ((wished.length : Int) ≤ 6) = True := by simp; omega
      have e2 : ((some_.length : Int) + (wished.length : Int) - (extra.length : Int) ≤ (far : Int)) = False := by
        simp
        have : extra.length ≤ wished.length := by rw [hwi, List.length_append]; omega
        omega
      refine ⟨.fr (.lst (some_.map .str)), .fr (.lst (wished.map .str)), .un, .un, ?_⟩
      rcases h5 with rfl | rfl <;> simp_arith only [B__law_grounds_0, hL, a1, hwt, a2, l1, l2, l3, e1, e2, hcut]
  · right
    have e1 : ((wished.length : Int) ≤ 6) = False := by simp; omega
    refine ⟨.fr (.lst (some_.map .str)), .fr (.lst (wished.map .str)), .un, .un, ?_⟩
    rcases h5 with rfl | rfl <;> simp_arith only [B__law_grounds_0, hL, a1, hwt, a2, l1, l2, l3, e1, hcut]
theorem g_loop (R : D) (m far : Nat) (hm6 : m ≤ 6) (ws extra : List Str) (hw : ws.Nodup) (hn : ∀ x ∈ ws, NameOk x) (hwl : ws.length = 6) (hzz : ∀ x ∈ ws, ∃ s ∈ sgn, x.cps.toList.getLast? = some s) (hx2 : extra.length ≤ 2) (hx : ∀ x ∈ extra, x ∈ sorts.map fun p => p.1) :
    ∀ (ds : List D) (cs : List Str) (s5 s8 s9 s10 s11 s12 s13 : Sl), cs.length ≤ m → (∀ x ∈ cs, x ∈ ks.map fun p => p.1) → (s5 = .ow (.lst (cs.map .str)) ∨ s5 = .fr (.lst (cs.map .str))) →
    (∃ cs' legs δ', forL (gN 8) (B__law_grounds_0 c) ds [.io R, .fr (sortsD sorts), .fr (kindsD ks), .fr (.int m), .fr (.int far), s5, .ow (.lst (extra.map .str)), .fr (.lst (ws.map .str)), s8, s9, s10, s11, s12, s13] = some (.rt (.tup [.lst (cs'.map .str), legsD legs]) (.io R :: δ')) ∧ Grounds sorts ks m far cs' legs) ∨
    ∃ δ', forL (gN 8) (B__law_grounds_0 c) ds [.io R, .fr (sortsD sorts), .fr (kindsD ks), .fr (.int m), .fr (.int far), s5, .ow (.lst (extra.map .str)), .fr (.lst (ws.map .str)), s8, s9, s10, s11, s12, s13] = some (.nx (.io R :: δ'))
  | [], cs, s5, s8, s9, s10, s11, s12, s13, _, _, _ => Or.inr ⟨_, rfl⟩
  | d :: ds, cs, s5, s8, s9, s10, s11, s12, s13, hcl, hcm, h5 => by
    rcases g_turn c hS R m far hm6 ws extra hw hn hwl hzz hx2 hx cs hcl hcm s5 (.fr d) s9 s10 s11 s12 s13 h5 with ⟨legs, δ', h, hg⟩ | ⟨s9', s10', s12', s13', h⟩
    · refine Or.inl ⟨cs, legs, δ', ?_, hg⟩
      simp_arith only [h]
    · have := g_loop R m far hm6 ws extra hw hn hwl hzz hx2 hx ds (cs.take (cs.length - 1)) (.fr (.lst ((cs.take (cs.length - 1)).map .str))) (.fr d) s9' s10' s11 s12' s13' (Nat.le_trans (List.length_take_le' _ _) hcl) (fun x hx => hcm x (List.mem_of_mem_take hx)) (Or.inr rfl)
      rcases this with ⟨cs', legs, δ', h', hg⟩ | ⟨δ', h'⟩
      · refine Or.inl ⟨cs', legs, δ', ?_, hg⟩
        simp_arith only [h, h']
      · refine Or.inr ⟨δ', ?_⟩
        simp_arith only [h, h']
theorem no_grounds (m far : Nat) : Grounds sorts ks m far [] [] := by
  refine ⟨⟨by decide, fun n hn => by cases hn⟩, ⟨by decide, (fun p hp => by cases hp), List.nodup_nil, by rw [List.map_nil]; exact sortD_of List.Pairwise.nil⟩, Nat.zero_le _, Nat.zero_le _, (fun p hp => by cases hp), [], (fun x hx => by cases hx), ?_⟩
  have : wantL sorts ([] ++ [].flatMap (ownOf ks)) = [] := by
    unfold wantL
    rw [List.flatMap_eq_nil_iff]
    intro q _
    split <;> rfl
  rw [this]
  exact List.Perm.refl _
theorem grounds_ok (a b k : Int) (m far : Nat) (hm6 : m ≤ 6) : ∃ (a' b' k' : Int) (cs : List Str) (legs : List (Str × Str)), g__law_grounds c [rs a b k, sortsD sorts, kindsD ks, .int m, .int far] = some (.tup [.lst (cs.map .str), legsD legs], rs a' b' k') ∧ Grounds sorts ks m far cs legs := by
  obtain ⟨a1, b1, k1, cs, h1, hcl, hcm⟩ := g_corners c hS a b k m hm6 (.fr (sortsD sorts)) (.fr (.int far)) .un .un .un .un .un .un .un .un .un
  obtain ⟨a2, b2, k2, extra, h2, hx2, hx⟩ := g_extras c hS a1 b1 k1 (.fr (kindsD ks)) (.fr (.int m)) (.fr (.int far)) (.ow (.lst (cs.map .str))) .un .un .un .un .un .un .un .un
  obtain ⟨ws, a3, b3, k3, h3, h4⟩ := words_spec c a2 b2 k2 6 (by decide)
  obtain ⟨hw, hn⟩ := words_nd h4
  have hwl : ws.length = 6 := by rw [h4.1]; rfl
  have hzz : ∀ x ∈ ws, ∃ s ∈ sgn, x.cps.toList.getLast? = some s := fun x hx => by
    obtain ⟨i, hi, ei⟩ := List.mem_iff_getElem.mp hx
    have s1 := List.getElem?_eq_getElem (l := sgn.take 6) (i := i) (by rw [← h4.1]; exact hi)
    have w := (h4.2 i x _ (by rw [List.getElem?_eq_getElem hi, ei]) s1).2
    exact ⟨_, List.mem_of_mem_take (List.getElem_mem (l := sgn.take 6) (n := i) (by rw [← h4.1]; exact hi)), w⟩
  have h3' : g__law_words c [rs a2 b2 k2, .int 6] = some (.lst (ws.map .str), rs a3 b3 k3) := h3
  have hrg : rg1 [.int ((m : Int) + 1)] = some (rangeD 0 (m + 1)) := by
    have : -1000000 ≤ (m : Int) + 1 ∧ (m : Int) + 1 ≤ 1000000 := by omega
    have e : ((m : Int) + 1).toNat = m + 1 := by omega
    simp only [rg1, this, and_self, if_true, e]
  rcases g_loop c hS (rs a3 b3 k3) m far hm6 ws extra hw hn hwl hzz hx2 hx (rangeD 0 (m + 1)) cs (.ow (.lst (cs.map .str))) .un .un .un .un .un .un hcl hcm (Or.inl rfl) with ⟨cs', legs, δ', h, hg⟩ | ⟨δ', h⟩
  · refine ⟨a3, b3, k3, cs', legs, ?_, hg⟩
    simp_arith only [g__law_grounds, m__law_grounds, h1, h2, h3', hrg, h]
  · refine ⟨a3, b3, k3, [], [], ?_, no_grounds hS m far⟩
    simp_arith only [g__law_grounds, m__law_grounds, h1, h2, h3', hrg, h]
    rfl
end
end G

set_option Elab.async false
set_option linter.all false
set_option maxRecDepth 100000
set_option maxHeartbeats 1000000
/-! MDe: lists of texts: the first taken, one removed; legs cut, one more. -/
namespace G
open PySem L2 DL PG
theorem LegsOk.sorted {sorts legs : List (Str × Str)} (h : LegsOk sorts legs) : (legs.map pairD).Pairwise fun a b => dLe a b = true := by
  have := sortD_sorted (legs.map pairD)
  rwa [h.so] at this
theorem LegsOk.drop1 {sorts legs : List (Str × Str)} (h : LegsOk sorts legs) : LegsOk sorts (legs.drop 1) := by
  refine ⟨Nat.le_trans (by rw [List.length_drop]; omega) h.hi, fun p hp => h.nm p (List.mem_of_mem_drop hp), ?_, ?_⟩
  · rw [List.map_drop]; exact List.Nodup.sublist (List.drop_sublist _ _) h.nd
  · rw [List.map_drop]; exact sortD_of (List.Pairwise.sublist (List.drop_sublist _ _) h.sorted)
def zz : Str := "zz"
theorem zz_name : NameOk zz := by
  refine ⟨by decide, by decide, fun c hc => ?_⟩
  have : ∀ c ∈ zz.cps.toList, 97 ≤ c ∧ c ≤ 122 := by decide
  exact this c hc
theorem LegsOk.more {sorts legs : List (Str × Str)} (h : LegsOk sorts legs) (hl : legs.length < 6) (nz : ∀ p ∈ legs, p.1 ≠ zz) {x : Str} (hx : x ∈ sorts.map fun q => q.1) : ∃ legs', sortF (.lst ((legs ++ [((zz : Str), x)]).map pairD)) = some (legs'.map pairD) ∧ LegsOk sorts legs' := by
  obtain ⟨legs', e, p⟩ := perm_map (sortD_perm ((legs ++ [((zz : Str), x)]).map pairD))
  refine ⟨legs', by rw [sortF_pairs _ (by rw [List.length_append]; simp; omega), e], ⟨by rw [p.length_eq, List.length_append]; simp; omega, fun q hq => ?_, ?_, ?_⟩⟩
  · rcases List.mem_append.mp (p.mem_iff.mp hq) with hq | hq
    · exact h.nm q hq
    · rw [List.mem_singleton.mp hq]; exact ⟨zz_name, hx⟩
  · refine (p.map fun q => q.1).nodup_iff.mpr ?_
    rw [List.map_append, List.nodup_append]
    refine ⟨h.nd, by simp, fun a ha b hb e => ?_⟩
    obtain ⟨q, hq, rfl⟩ := List.mem_map.mp ha
    have : b = zz := by simpa using hb
    exact nz q hq (e.trans this)
  · rw [← e]; exact sortD_idem _
theorem cut_from1 {xs : List D} : cutD xs (some 1) none = xs.drop 1 := by
  unfold cutD
  have e : HT.sIx xs.length 0 (some (1 : Int)) = min 1 xs.length := HT.sIx_nat xs.length 0 1
  rw [HT.sIx_none, e]
  cases xs with
  | nil => rfl
  | cons x xs =>
    have : min 1 (x :: xs).length = 1 := by simp
    rw [this]
    exact List.take_of_length_le (by simp)
/-- a sort's partner -/
def ptOf (sorts : List (Str × Str)) (x : Str) : Str := ((lk (sorts.map fun p => (p.1, p)) x).map fun p => p.2).getD x
theorem pt_self {sorts : List (Str × Str)} (nd : (sorts.map fun p => p.1).Nodup) {q : Str × Str} (hq : q ∈ sorts) : ptOf sorts q.1 = q.2 := by
  unfold ptOf
  rw [lk_self nd hq]
  rfl
theorem dget_sort {sorts : List (Str × Str)} {ks : List (Str × List Str)} (hS : StockOk sorts ks) {q : Str × Str} (hq : q ∈ sorts) : dgetD (.dk (sorts.map fun p => Sum.inr p.1) (sorts.map fun p => .str p.2)) (.str q.1) = some (.str q.2) := by
  simp only [dgetD, keyD, lookK_lk (fun p : Str × Str => D.str p.2), lk_self hS.so.nd hq]; rfl
end G

set_option Elab.async false
set_option linter.all false
set_option maxRecDepth 100000
set_option maxHeartbeats 2000000
/-! MHa: the laws' own reckonings: changes, ways. -/
namespace G
open PySem L2 DL PG
section
variable (c : Cs) {sorts : List (Str × Str)} {ks : List (Str × List Str)} (hS : StockOk sorts ks)
include hS
/-- what the law itself reckons -/
def chN (ks : List (Str × List Str)) (cs : List Str) : Nat := rk [] cs * pr (cs.map fun n => rk [] (ownOf ks n))
theorem CornersOk.perm {cs ds : List Str} (hC : CornersOk ks cs) (p : ds.Perm cs) : CornersOk ks ds := ⟨by rw [p.length_eq]; exact hC.hi, fun n hn => hC.mem n (p.mem_iff.mp hn)⟩
end
section
variable (c : Cs) {sorts : List (Str × Str)} {ks : List (Str × List Str)} (hS : StockOk sorts ks)
include hS
end
end G

set_option Elab.async false
set_option linter.all false
set_option maxRecDepth 100000
set_option maxHeartbeats 1000000
/-! MHb: fractions in lowest terms; sum_all told. -/
namespace G
open PySem L2 DL PG
section
variable (c : Cs) {sorts : List (Str × Str)} {ks : List (Str × List Str)} (hS : StockOk sorts ks)
include hS
end
end G

set_option Elab.async false
set_option linter.all false
set_option maxRecDepth 100000
set_option maxHeartbeats 1000000
/-! MHc: legs put together; counts with an end taken away; fractions added. -/
namespace G
open PySem L2 DL PG
theorem LegsOk.sub {sorts legs legs' : List (Str × Str)} (h : LegsOk sorts legs) (s : legs'.Sublist legs) : LegsOk sorts legs' :=
  ⟨Nat.le_trans s.length_le h.hi, fun p hp => h.nm p (s.subset hp), List.Nodup.sublist (s.map _) h.nd, sortD_of (List.Pairwise.sublist (s.map _) h.sorted)⟩
theorem LegsOk.app {sorts legs qs : List (Str × Str)} (h : LegsOk sorts legs) (hl : legs.length + qs.length ≤ 6) (hn : ∀ q ∈ qs, NameOk q.1 ∧ q.2 ∈ sorts.map fun r => r.1) (nd : (qs.map fun q => q.1).Nodup) (dj : ∀ p ∈ legs, ∀ q ∈ qs, p.1 ≠ q.1) :
    ∃ legs', sortF (.lst ((legs ++ qs).map pairD)) = some (legs'.map pairD) ∧ LegsOk sorts legs' ∧ legs'.Perm (legs ++ qs) := by
  obtain ⟨legs', e, p⟩ := perm_map (sortD_perm ((legs ++ qs).map pairD))
  refine ⟨legs', by rw [sortF_pairs _ (by rw [List.length_append]; omega), e], ⟨by rw [p.length_eq, List.length_append]; omega, fun q hq => ?_, ?_, ?_⟩, p⟩
  · rcases List.mem_append.mp (p.mem_iff.mp hq) with hq | hq
    · exact h.nm q hq
    · exact hn q hq
  · refine (p.map fun q => q.1).nodup_iff.mpr ?_
    rw [List.map_append, List.nodup_append]
    refine ⟨h.nd, nd, fun a ha b hb e => ?_⟩
    obtain ⟨q, hq, rfl⟩ := List.mem_map.mp ha
    obtain ⟨r, hr, rfl⟩ := List.mem_map.mp hb
    exact dj q hq r hr e
  · rw [← e]; exact sortD_idem _
section
variable {sorts : List (Str × Str)} {ks : List (Str × List Str)} (hS : StockOk sorts ks)
include hS
theorem cntW_cons {x : Str} {r : List Str} (hm : ∀ y ∈ x :: r, y ∈ sorts.map fun q => q.1) : cntW strLt sorts (x :: r) = r.count (ptOf sorts x) * cntW strLt sorts (r.erase (ptOf sorts x)) := by
  have h := fun n ss => ways_cnt strLt sorts (ptOf sorts) hS.so.nd (fun r hr => pt_self hS.so.nd hr) hS.so.mu strLt_tr n ss
  rw [← h (r.length + 1) (x :: r) (by simp) hm, waysN, h r.length (r.erase (ptOf sorts x)) List.length_erase_le (fun y hy => hm y (List.mem_cons_of_mem _ (List.mem_of_mem_erase hy)))]
end
end G

set_option Elab.async false
set_option linter.all false
set_option maxRecDepth 100000
set_option maxHeartbeats 400000
/-! MIa: sets of marks. -/
namespace G
open PySem L2 DL
end G

set_option Elab.async false
set_option linter.all false
set_option maxRecDepth 100000
set_option maxHeartbeats 400000
/-! MIb: marks tied join by join. -/
namespace G
open PySem L2 DL
/-- a join: place, sort, far place, its sort -/
abbrev Jo := Nat × Str × Nat × Str
def joD (j : Jo) : D := .tup [.int (j.1 : Nat), .str j.2.1, .int (j.2.2.1 : Nat), .str j.2.2.2]
end G

set_option Elab.async false
set_option linter.all false
set_option maxRecDepth 100000
set_option maxHeartbeats 400000
/-! MIc: rings told. -/
namespace G
open PySem L2 DL
end G

set_option Elab.async false
set_option linter.all false
set_option maxRecDepth 100000
set_option maxHeartbeats 1000000
/-! MJa: ends that can all be joined; a pairing by draws. -/
namespace G
open PySem L2 DL PG
/-- each sort is there as often as its partner; one that is its own an even number of times -/
def Bal (sorts : List (Str × Str)) (ss : List Str) : Prop := ∀ q ∈ sorts, (q.1 = q.2 → ss.count q.1 % 2 = 0) ∧ ss.count q.1 = ss.count q.2
/-- numbers removed -/
def nI (i : Nat) : D := .int (i : Nat)
section
variable (c : Cs) {sorts : List (Str × Str)} {ks : List (Str × List Str)} (hS : StockOk sorts ks)
include hS
end
end G

set_option Elab.async false
set_option linter.all false
set_option maxRecDepth 100000
set_option maxHeartbeats 1000000
/-! MJb: a pairing drawn; its joins. -/
namespace G
open PySem L2 DL PG
theorem Bal.perm {sorts : List (Str × Str)} {ss ts : List Str} (h : Bal sorts ss) (p : ss.Perm ts) : Bal sorts ts := fun q hq => by
  rw [← p.count_eq, ← p.count_eq]; exact h q hq
section
variable (c : Cs) {sorts : List (Str × Str)} {ks : List (Str × List Str)} (hS : StockOk sorts ks)
include hS
end
/-- ends in order -/
theorem toks_end (p : Nat × Str) : PySem.W.keyToks (encD (endD p)) = [.inl 1, .inl (p.1 : Nat), .inl 1, .inr p.2.cps.toList, .inl 0] := rfl
theorem lt_first {a b : Int} {r t : List (Int ⊕ List Nat)} (h : a < b) : PyProof.Rows.lexLt PyProof.Rows.itemOrd (.inl 1 :: .inl a :: r) (.inl 1 :: .inl b :: t) = true := by
  rw [PyProof.Rows.lex_self, PyProof.Rows.lex_diff (O := PyProof.Rows.itemOrd) (fun z => by have := Sum.inl.inj z; omega)]
  exact decide_eq_true h
theorem le_first {a b : Int} {r t : List (Int ⊕ List Nat)} (h : PyProof.Rows.lexLt PyProof.Rows.itemOrd (.inl 1 :: .inl a :: r) (.inl 1 :: .inl b :: t) = false) : b ≤ a := by
  by_cases z : a < b
  · rw [lt_first z] at h; cases h
  · omega
theorem end_le {p q : Nat × Str} (h : dLe (endD p) (endD q) = true) : p.1 ≤ q.1 := by
  rw [dLe_eq] at h
  have h' : PySem.W.dataLt (encD (endD q)) (encD (endD p)) = false := by simpa using h
  unfold PySem.W.dataLt at h'
  rw [toks_end, toks_end] at h'
  have := le_first h'
  omega
theorem jos_sortOk (ps : List Jo) (h : ps.length ≤ 1000) : SortOk (ps.map joD) := by
  refine ⟨by rw [List.length_map]; unfold LB; omega, fun d hd => ?_, fun d hd => ?_, fun d hd e he => ?_, Or.inl fun d hd => ?_⟩
  · obtain ⟨x, _, rfl⟩ := List.mem_map.mp hd; rfl
  · obtain ⟨x, _, rfl⟩ := List.mem_map.mp hd
    show (PyData.tuple [.int (x.1 : Nat), .str x.2.1, .int (x.2.2.1 : Nat), .str x.2.2.2]).depth ≤ 60
    simp [PyData.depth, PyData.depthAll]
  · obtain ⟨x, _, rfl⟩ := List.mem_map.mp hd
    obtain ⟨y, _, rfl⟩ := List.mem_map.mp he
    show PySem.W.alike (.tuple [.int (x.1 : Nat), .str x.2.1, .int (x.2.2.1 : Nat), .str x.2.2.2]) (.tuple [.int (y.1 : Nat), .str y.2.1, .int (y.2.2.1 : Nat), .str y.2.2.2]) = true
    simp [PySem.W.alike, PySem.W.alikeAll]
  · obtain ⟨x, _, rfl⟩ := List.mem_map.mp hd; rfl
/-- the join of two ends -/
def mkJ (p q : Nat × Str) : Jo := if dLe (endD p) (endD q) then (p.1, p.2, q.1, q.2) else (q.1, q.2, p.1, p.2)
def joE (j : Jo) : List (Nat × Str) := [(j.1, j.2.1), (j.2.2.1, j.2.2.2)]
theorem mkJ_le (p q : Nat × Str) : dLe (endD ((mkJ p q).1, (mkJ p q).2.1)) (endD ((mkJ p q).2.2.1, (mkJ p q).2.2.2)) = true := by
  unfold mkJ
  by_cases h : dLe (endD p) (endD q) = true
  · rw [if_pos h]; exact h
  · rw [if_neg h]
    have := dLe_total (endD p) (endD q)
    simp at h
    rw [h, Bool.false_or] at this
    exact this
theorem mkJ_perm (p q : Nat × Str) : (joE (mkJ p q)).Perm [p, q] := by
  unfold mkJ
  by_cases h : dLe (endD p) (endD q) = true
  · rw [if_pos h]; exact List.Perm.refl _
  · rw [if_neg h]; exact List.Perm.swap ..
/-- joins as a drawing has them -/
structure JoinsOk (sorts : List (Str × Str)) (ends : List (Nat × Str)) (js : List Jo) : Prop where
  le : ∀ j ∈ js, dLe (endD (j.1, j.2.1)) (endD (j.2.2.1, j.2.2.2)) = true
  pt : ∀ j ∈ js, (j.2.1, j.2.2.2) ∈ sorts
  so : sortD (js.map joD) = js.map joD
  pm : (js.flatMap joE).Perm ends
end G

set_option Elab.async false
set_option linter.all false
set_option maxRecDepth 100000
set_option maxHeartbeats 1000000
/-! MJc: a drawing made. -/
namespace G
open PySem L2 DL PG
theorem ends_place {ks : List (Str × List Str)} {cs : List Str} {legs : List (Str × Str)} {p : Nat × Str} (h : p ∈ endsP ks cs legs) : p.1 < cs.length + legs.length := by
  unfold endsP at h
  rcases List.mem_append.mp h with h | h
  · unfold cornerEnds at h
    obtain ⟨q, hq, h⟩ := List.mem_flatMap.mp h
    obtain ⟨s, _, rfl⟩ := List.mem_map.mp h
    have := List.snd_lt_of_mem_zipIdx hq
    show q.2 < _
    omega
  · obtain ⟨q, hq, rfl⟩ := List.mem_map.mp h
    have := List.snd_lt_of_mem_zipIdx hq
    show cs.length + q.2 < _
    omega
theorem JoinsOk.mem1 {sorts : List (Str × Str)} {ends : List (Nat × Str)} {js : List Jo} (h : JoinsOk sorts ends js) {j : Jo} (hj : j ∈ js) : (j.1, j.2.1) ∈ ends := h.pm.mem_iff.mp (List.mem_flatMap.mpr ⟨j, hj, by simp [joE]⟩)
theorem JoinsOk.mem2 {sorts : List (Str × Str)} {ends : List (Nat × Str)} {js : List Jo} (h : JoinsOk sorts ends js) {j : Jo} (hj : j ∈ js) : (j.2.2.1, j.2.2.2) ∈ ends := h.pm.mem_iff.mp (List.mem_flatMap.mpr ⟨j, hj, by simp [joE]⟩)
theorem joE_len : ∀ js : List Jo, (js.flatMap joE).length = 2 * js.length
  | [] => rfl
  | j :: js => by rw [List.flatMap_cons, List.length_append, joE_len js, List.length_cons]; simp [joE]; omega
theorem JoinsOk.len {sorts : List (Str × Str)} {ends : List (Nat × Str)} {js : List Jo} (h : JoinsOk sorts ends js) : 2 * js.length = ends.length := by rw [← joE_len, h.pm.length_eq]
section
variable (c : Cs) {sorts : List (Str × Str)} {ks : List (Str × List Str)} (hS : StockOk sorts ks)
include hS
theorem partner_ok {q : Str × Str} (hq : q ∈ sorts) : g_partner_of c [stockD c sorts ks, .str q.1] = some (.str q.2) := by
  have h1 := sorts_of c hS
  have h2 := dict_sorts hS
  have h3 := dget_sort hS hq
  simp_arith only [g_partner_of, m_partner_of, h1, h2, h3]
theorem jo_pl {js : List Jo} (h : ∀ j ∈ js, (j.2.1, j.2.2.2) ∈ sorts) : ∀ d ∈ js.map joD, Pl 1 d := fun d hd => by
  obtain ⟨j, hj, rfl⟩ := List.mem_map.mp hd
  refine Pl.tup fun e z => ?_
  simp at z
  rcases z with rfl | rfl | rfl | rfl
  · exact Pl.int
  · exact (hS.so.nm _ (h j hj)).1.pl
  · exact Pl.int
  · exact (hS.so.nm _ (h j hj)).2.pl
theorem endsP_len {cs : List Str} {legs : List (Str × Str)} (hC : CornersOk ks cs) (hL : LegsOk sorts legs) : (endsP ks cs legs).length ≤ 36 := by
  have := ends_len hS hC hL
  rw [← ends_sorts, List.length_map] at this
  exact this
end
end G

set_option Elab.async false
set_option linter.all false
set_option maxRecDepth 100000
set_option maxHeartbeats 1000000
/-! MJd: a drawing drawn. -/
namespace G
open PySem L2 DL PG
section
variable (c : Cs) {sorts : List (Str × Str)} {ks : List (Str × List Str)} (hS : StockOk sorts ks)
include hS
end
end G

set_option Elab.async false
set_option linter.all false
set_option maxRecDepth 100000
set_option maxHeartbeats 1000000
/-! MJe: joins moved; a leg's place among legs. -/
namespace G
open PySem L2 DL PG
theorem end1_pl {p : Nat × Str} (h : NameOk p.2) : Pl 1 (endD p) := Pl.tup fun e z => by
  simp at z
  rcases z with rfl | rfl
  · exact Pl.int
  · exact h.pl
theorem end_alike (p q : Nat × Str) : PySem.W.alike (encD (endD p)) (encD (endD q)) = true := by
  show PySem.W.alike (.tuple [.int (p.1 : Nat), .str p.2]) (.tuple [.int (q.1 : Nat), .str q.2]) = true
  simp [PySem.W.alike, PySem.W.alikeAll]
theorem endD_inj {p q : Nat × Str} (h : endD p = endD q) : p = q := by
  have h' : D.tup [.int (p.1 : Nat), .str p.2] = .tup [.int (q.1 : Nat), .str q.2] := h
  simp at h'
  exact Prod.ext (by omega) h'.2
/-- a join with its places changed -/
def mvE (pl : List Nat) (p : Nat × Str) : Nat × Str := (pl.getD p.1 0, p.2)
def mvJ (pl : List Nat) (j : Jo) : Jo := mkJ (mvE pl (j.1, j.2.1)) (mvE pl (j.2.2.1, j.2.2.2))
theorem ix_nat {m : List Nat} {a : Nat} (h : a < m.length) : ixD (.lst (m.map nI)) (nI a) = some (nI (m.getD a 0)) := by
  obtain ⟨h1, h2⟩ := atI_nat (xs := m.map nI) (r := (a : Nat)) (by omega) (by rw [List.length_map]; omega)
  show atI (m.map nI) (a : Nat) = _
  rw [h2]
  simp only [Int.toNat_natCast, List.getElem_map, List.getD_eq_getElem?_getD, List.getElem?_eq_getElem h, Option.getD_some]
section
variable (c : Cs) {sorts : List (Str × Str)} {ks : List (Str × List Str)} (hS : StockOk sorts ks)
include hS
end
end G

set_option Elab.async false
set_option linter.all false
set_option maxRecDepth 100000
set_option maxHeartbeats 1000000
/-! MJf: two drawings beside one another. -/
namespace G
open PySem L2 DL PG
theorem flatMap_same {α β : Type} {f g : α → List β} : ∀ {xs : List α}, (∀ x ∈ xs, f x = g x) → xs.flatMap f = xs.flatMap g
  | [], _ => rfl
  | x :: xs, h => by rw [List.flatMap_cons, List.flatMap_cons, h x List.mem_cons_self, flatMap_same fun y hy => h y (List.mem_cons_of_mem _ hy)]
theorem mvJ_perm (pl : List Nat) (j : Jo) : (joE (mvJ pl j)).Perm ((joE j).map (mvE pl)) := mkJ_perm _ _
theorem mvJs_perm (pl : List Nat) : ∀ js : List Jo, ((js.map (mvJ pl)).flatMap joE).Perm ((js.flatMap joE).map (mvE pl))
  | [] => List.Perm.refl _
  | j :: js => by
    rw [List.map_cons, List.flatMap_cons, List.flatMap_cons, List.map_append]
    exact (mvJ_perm pl j).append (mvJs_perm pl js)
theorem mvJ_pt {sorts : List (Str × Str)} (hs : SortsOk sorts) {pl : List Nat} {j : Jo} (h : (j.2.1, j.2.2.2) ∈ sorts) : ((mvJ pl j).2.1, (mvJ pl j).2.2.2) ∈ sorts := by
  unfold mvJ mkJ
  split
  · exact h
  · exact hs.mu _ h
section
variable (c : Cs) {sorts : List (Str × Str)} {ks : List (Str × List Str)} (hS : StockOk sorts ks)
include hS
end
end G

set_option Elab.async false
set_option linter.all false
set_option maxRecDepth 100000
set_option maxHeartbeats 1000000
/-! MJg: inner joins of two drawings beside one another; their rings. -/
namespace G
open PySem L2 DL PG
theorem joD_inj {i j : Jo} (h : joD i = joD j) : i = j := by
  unfold joD at h
  simp at h
  obtain ⟨h1, h2, h3, h4⟩ := h
  exact Prod.ext (by omega) (Prod.ext h2 (Prod.ext (by omega) h4))
theorem jos_inj : ∀ {is js : List Jo}, is.map joD = js.map joD → is = js
  | [], [], _ => rfl
  | [], _ :: _, h => by simp at h
  | _ :: _, [], h => by simp at h
  | i :: is, j :: js, h => by
    rw [List.map_cons, List.map_cons, List.cons.injEq] at h
    rw [joD_inj h.1, jos_inj h.2]
section
variable {sorts : List (Str × Str)} {ks : List (Str × List Str)}
theorem JoinsOk.up {ends : List (Nat × Str)} {js : List Jo} (h : JoinsOk sorts ends js) {j : Jo} (hj : j ∈ js) : j.1 ≤ j.2.2.1 := end_le (h.le j hj)
end
end G

set_option Elab.async false
set_option linter.all false
set_option maxRecDepth 100000
set_option maxHeartbeats 1000000
/-! NAa: the draws of the first family: next, one, names. -/
namespace GA
open PySem L2 DL G PG
/-- a source that was drawn from at most m times -/
def Sr (m : Nat) (R : D) : Prop := ∃ a b k : Int, R = rs a b k ∧ 0 ≤ b ∧ b < 2147483647 ∧ 0 ≤ k ∧ k ≤ (m : Int)
theorem Sr.mono {m n : Nat} {R : D} (h : Sr m R) (l : m ≤ n) : Sr n R := by
  obtain ⟨a, b, k, e, h1, h2, h3, h4⟩ := h
  exact ⟨a, b, k, e, h1, h2, h3, by omega⟩
end GA

set_option Elab.async false
set_option linter.all false
set_option maxRecDepth 100000
set_option maxHeartbeats 1000000
/-! NAb: one of some; names. -/
namespace GA
open PySem L2 DL G PG
theorem cut_fromN {xs : List D} {i : Nat} : cutD xs (some (i : Int)) none = xs.drop i := by
  unfold cutD
  have e : HT.sIx xs.length 0 (some (i : Int)) = min i xs.length := HT.sIx_nat xs.length 0 i
  rw [HT.sIx_none, e]
  by_cases h : i ≤ xs.length
  · rw [Nat.min_eq_left h, List.take_of_length_le (by rw [List.length_drop]; omega)]
  · rw [Nat.min_eq_right (by omega), List.drop_length, List.drop_eq_nil_of_le (by omega)]
    simp
end GA

set_option Elab.async false
set_option linter.all false
set_option maxRecDepth 100000
set_option maxHeartbeats 1000000
/-! NAc: a stock drawn. -/
namespace GA
open PySem L2 DL G PG
def FO (s : Sl) (d : D) : Prop := s = .fr d ∨ s = .ow d
theorem SortsOk.rev {sorts : List (Str × Str)} (h : SortsOk sorts) : SortsOk sorts.reverse := by
  refine ⟨by rw [List.length_reverse]; exact h.lo, by rw [List.length_reverse]; exact h.hi, fun p hp => h.nm p (List.mem_reverse.mp hp), ?_, fun p hp => List.mem_reverse.mpr (h.mu p (List.mem_reverse.mp hp))⟩
  rw [List.map_reverse]
  exact (List.reverse_perm _).nodup_iff.mpr h.nd
end GA

set_option Elab.async false
set_option linter.all false
set_option maxRecDepth 100000
set_option maxHeartbeats 1000000
/-! NAd: ends there, sorts that lack, things mixed. -/
namespace GA
open PySem L2 DL G PG
section
variable (c : Cs) {sorts : List (Str × Str)} {ks : List (Str × List Str)} (hS : StockOk sorts ks)
include hS
end
end GA

set_option Elab.async false
set_option linter.all false
set_option maxRecDepth 100000
set_option maxHeartbeats 1000000
/-! NAe: ends joined by draws. -/
namespace GA
open PySem L2 DL G PG
abbrev En2 := Nat × Str
end GA

set_option Elab.async false
set_option linter.all false
set_option maxRecDepth 100000
set_option maxHeartbeats 1000000
/-! NAf: joins of ends, by draws. -/
namespace GA
open PySem L2 DL G PG
theorem rg1_nat {n : Nat} (h : n ≤ 1000000) : rg1 [.int (n : Nat)] = some ((List.range n).map nI) := by
  have : -1000000 ≤ (n : Int) ∧ (n : Int) ≤ 1000000 := by omega
  simp only [rg1, this, and_self, if_true, rangeD, Int.toNat_natCast]
  congr 1
  refine List.map_congr_left fun i _ => ?_
  show D.int (0 + (i : Int)) = .int (i : Int)
  rw [Int.zero_add]
section
variable (c : Cs) {sorts : List (Str × Str)} {ks : List (Str × List Str)} (hS : StockOk sorts ks)
include hS
end
end GA

set_option Elab.async false
set_option linter.all false
set_option maxRecDepth 100000
set_option maxHeartbeats 1000000
/-! NAg: a drawing drawn. -/
namespace GA
open PySem L2 DL G PG
structure Drawn (sorts : List (Str × Str)) (ks : List (Str × List Str)) (most : Nat) (cs : List Str) (legs : List (Str × Str)) (js : List Jo) : Prop where
  co : CornersOk ks cs
  le : LegsOk sorts legs
  jo : JoinsOk sorts (endsP ks cs legs) js
  cm : cs.length ≤ most
section
variable (c : Cs) {sorts : List (Str × Str)} {ks : List (Str × List Str)} (hS : StockOk sorts ks)
include hS
end
end GA

set_option Elab.async false
set_option linter.all false
set_option maxRecDepth 100000
set_option maxHeartbeats 1000000
/-! NBa: the groups that hang together, as the laws gather them; marks. -/
namespace GA
open PySem L2 DL G PG
theorem nats_sortOk (ps : List Nat) (h : ps.length ≤ 5000) : SortOk (ps.map nI) := by
  refine ⟨by rw [List.length_map]; unfold LB; omega, fun d hd => ?_, fun d hd => ?_, fun d hd e he => ?_, Or.inr fun d hd => ?_⟩
  · obtain ⟨x, _, rfl⟩ := List.mem_map.mp hd; rfl
  · obtain ⟨x, _, rfl⟩ := List.mem_map.mp hd
    show (PyData.int (x : Nat)).depth ≤ 60
    simp [PyData.depth]
  · obtain ⟨x, _, rfl⟩ := List.mem_map.mp hd
    obtain ⟨y, _, rfl⟩ := List.mem_map.mp he
    rfl
  · obtain ⟨x, _, rfl⟩ := List.mem_map.mp hd; rfl
end GA

set_option Elab.async false
set_option linter.all false
set_option maxRecDepth 100000
set_option maxHeartbeats 1000000
/-! NBb: all groups; marks of a drawing's places. -/
namespace GA
open PySem L2 DL G PG
/-- what is left when some groups are gathered -/
structure LeftOk (n : Nat) (m : List Int) (left : List Nat) : Prop where
  asc : left.Pairwise (· < ·)
  lt : ∀ p ∈ left, p < n
  cl : ∀ p, p < n → (p ∈ left ↔ (m.getD p 0).toNat ∈ left)
theorem LeftOk.head {n : Nat} {m : List Int} (hm : MarkOk n m) {x : Nat} {rest : List Nat} (h : LeftOk n m (x :: rest)) : m.getD x 0 = (x : Int) := by
  have hx := h.lt x List.mem_cons_self
  have l := hm.lo x hx
  have := (h.cl x hx).mp List.mem_cons_self
  rcases List.mem_cons.mp this with e | e
  · omega
  · have := (List.pairwise_cons.mp h.asc).1 _ e
    omega
theorem LeftOk.next {n : Nat} {m : List Int} (hm : MarkOk n m) {x : Nat} {rest : List Nat} (h : LeftOk n m (x :: rest)) : LeftOk n m ((x :: rest).filter fun p => decide (m.getD p 0 ≠ (x : Int))) := by
  refine ⟨List.Pairwise.filter _ h.asc, fun p hp => h.lt p (List.mem_filter.mp hp).1, fun p hp => ?_⟩
  have l := hm.lo p hp
  have f := hm.fx p hp
  rw [List.mem_filter, List.mem_filter, h.cl p hp, decide_eq_true_eq, decide_eq_true_eq, f]
theorem LeftOk.heads {n : Nat} {m : List Int} (hm : MarkOk n m) {x : Nat} {rest : List Nat} (h : LeftOk n m (x :: rest)) : ((x :: rest).filter fun p => decide (m.getD p 0 = (p : Int))) = x :: (((x :: rest).filter fun p => decide (m.getD p 0 ≠ (x : Int))).filter fun p => decide (m.getD p 0 = (p : Int))) := by
  have hx := h.head hm
  rw [List.filter_cons_of_pos (by simpa using hx)]
  congr 1
  rw [List.filter_cons_of_neg (by simp only [hx]; simp), List.filter_filter]
  refine List.filter_congr fun p hp => ?_
  have := (List.pairwise_cons.mp h.asc).1 p hp
  by_cases e : m.getD p 0 = (p : Int)
  · have : m.getD p 0 ≠ (x : Int) := by omega
    rw [decide_eq_true e, decide_eq_true this]
    rfl
  · rw [decide_eq_false e]
    rfl
end GA

set_option Elab.async false
set_option linter.all false
set_option maxRecDepth 100000
set_option maxHeartbeats 1000000
/-! NBc: cuts, as the program and the laws tell them. -/
namespace GA
open PySem L2 DL G PG
section
variable (c : Cs) (st : D) (cs : List D) (legs : List (Str × Str)) {js : List Jo} (hp : ∀ j ∈ js, Pl 1 (joD j)) (hl : js.length ≤ 500) (hn : cs.length + legs.length ≤ 40) (hb : ∀ j ∈ js, j.1 < cs.length + legs.length ∧ j.2.2.1 < cs.length + legs.length)
include hp hl hn hb
end
theorem Drawn.lt {sorts : List (Str × Str)} {ks : List (Str × List Str)} {most : Nat} {cs : List Str} {legs : List (Str × Str)} {js : List Jo} (hD : Drawn sorts ks most cs legs js) : ∀ j ∈ js, j.1 < cs.length + legs.length ∧ j.2.2.1 < cs.length + legs.length := fun j hj => ⟨ends_place (hD.jo.mem1 hj), ends_place (hD.jo.mem2 hj)⟩
theorem Drawn.pl {sorts : List (Str × Str)} {ks : List (Str × List Str)} (hS : StockOk sorts ks) {most : Nat} {cs : List Str} {legs : List (Str × Str)} {js : List Jo} (hD : Drawn sorts ks most cs legs js) : ∀ j ∈ js, Pl 1 (joD j) := fun j hj => jo_pl hS hD.jo.pt _ (List.mem_map.mpr ⟨j, hj, rfl⟩)
theorem Drawn.len {sorts : List (Str × Str)} {ks : List (Str × List Str)} (hS : StockOk sorts ks) {most : Nat} {cs : List Str} {legs : List (Str × Str)} {js : List Jo} (hD : Drawn sorts ks most cs legs js) : js.length ≤ 18 := by
  have := hD.jo.len
  have := endsP_len hS hD.co hD.le
  omega
end GA

set_option Elab.async false
set_option linter.all false
set_option maxRecDepth 100000
set_option maxHeartbeats 1000000
/-! NCa: joins moved; ends by places; what a part has. -/
namespace GA
open PySem L2 DL G PG
end GA

set_option Elab.async false
set_option linter.all false
set_option maxRecDepth 100000
set_option maxHeartbeats 1000000
/-! NCb: a part made. -/
namespace GA
open PySem L2 DL G PG
/-- a row of places whose joins lie within it -/
structure RowIn (N : Nat) (js : List Jo) (row : List Nat) : Prop where
  asc : row.Pairwise (· < ·)
  lt : ∀ p ∈ row, p < N
  cl : ∀ j ∈ js, j.1 ∈ row ↔ j.2.2.1 ∈ row
section
variable (c : Cs) {sorts : List (Str × Str)} {ks : List (Str × List Str)} (hS : StockOk sorts ks)
include hS
end
end GA

set_option Elab.async false
set_option linter.all false
set_option maxRecDepth 100000
set_option maxHeartbeats 1000000
/-! NCc: all parts, as the program and the laws tell them; drawings compared. -/
namespace GA
open PySem L2 DL G PG
def sortJ (js : List Jo) : List Jo := js.mergeSort fun a b => dLe (joD a) (joD b)
theorem sortJ_map (js : List Jo) : (sortJ js).map joD = sortD (js.map joD) := List.map_mergeSort fun _ _ _ _ => rfl
theorem map_inj {α : Type} {f : α → D} (inj : ∀ a b, f a = f b → a = b) : ∀ {xs ys : List α}, xs.map f = ys.map f → xs = ys
  | [], [], _ => rfl
  | [], _ :: _, h => by simp at h
  | _ :: _, [], h => by simp at h
  | x :: xs, y :: ys, h => by
    rw [List.map_cons, List.map_cons] at h
    injection h with h1 h2
    rw [inj x y h1, map_inj inj h2]
section
variable (c : Cs) {sorts : List (Str × Str)} {ks : List (Str × List Str)} (hS : StockOk sorts ks) {most : Nat} {cs : List Str} {legs : List (Str × Str)} {js : List Jo} (hD : Drawn sorts ks most cs legs js)
include hS hD
theorem pl_corners : Pl 1 (.lst (cs.map D.str)) := Pl.lst fun d hd => by
  obtain ⟨x, hx, rfl⟩ := List.mem_map.mp hd
  obtain ⟨p, hp, e⟩ := List.mem_map.mp (hD.co.mem x hx)
  rw [← e]
  exact Pl.str (hS.nm p hp).ok
theorem pl_joins : Pl 2 (.lst (js.map joD)) := Pl.lst (jo_pl hS hD.jo.pt)
end
end GA

set_option Elab.async false
set_option linter.all false
set_option maxRecDepth 100000
set_option maxHeartbeats 1000000
/-! NDa: a drawing with other legs; joins by names. -/
namespace GA
open PySem L2 DL G PG
/-- a place: a corner's number, or a leg's name -/
abbrev NP := Nat ⊕ Str
abbrev NEnd := NP × Str
abbrev NRow := NEnd × NEnd
structure EndOk (names : List Str) (e : NEnd) : Prop where
  nm : NameOk e.2
  pl : ∀ x, e.1 = .inr x → x ∈ names
end GA

set_option Elab.async false
set_option linter.all false
set_option maxRecDepth 100000
set_option maxHeartbeats 1000000
/-! NDb: an inner join cut. -/
namespace GA
open PySem L2 DL G PG
/-- what is cut: the join, the names -/
structure CutOk (cs : List Str) (legs : List (Str × Str)) (js : List Jo) (j : Jo) (a b : Str) : Prop where
  mem : j ∈ js
  inn : j.2.2.1 < cs.length
  na : NameOk a
  nb : NameOk b
  ne : a ≠ b
  fa : a ∉ legs.map fun p => p.1
  fb : b ∉ legs.map fun p => p.1
  hl : legs.length ≤ 4
def comeL (j : Jo) (a b : Str) : List (Str × Str) := [(a, j.2.2.2), (b, j.2.1)]
section
variable (c : Cs) {sorts : List (Str × Str)} {ks : List (Str × List Str)} (hS : StockOk sorts ks) {most : Nat} {cs : List Str} {legs : List (Str × Str)} {js : List Jo} (hD : Drawn sorts ks most cs legs js) {j : Jo} {a b : Str} (hC : CutOk cs legs js j a b)
include hS hD hC
end
end GA

set_option Elab.async false
set_option linter.all false
set_option maxRecDepth 100000
set_option maxHeartbeats 1000000
/-! NDc: the cut as the law lays it out. -/
namespace GA
open PySem L2 DL G PG
section
variable (c : Cs) {sorts : List (Str × Str)} {ks : List (Str × List Str)} (hS : StockOk sorts ks) {most : Nat} {cs : List Str} {legs : List (Str × Str)} {js : List Jo} (hD : Drawn sorts ks most cs legs js) {j : Jo} {a b : Str} (hC : CutOk cs legs js j a b)
include hS hD
include hC
end
end GA

set_option Elab.async false
set_option linter.all false
set_option maxRecDepth 100000
set_option maxHeartbeats 1000000
/-! NDd: names that no leg has. -/
namespace GA
open PySem L2 DL G PG
end GA

set_option Elab.async false
set_option linter.all false
set_option maxRecDepth 100000
set_option maxHeartbeats 1000000
/-! NEa: how many groups there are: by the joins that are there, with one taken away, with a leg at each of its ends. -/
namespace GA
open PySem L2 DL G PG
theorem mkJ_ends (p q : En2) : mkJ p q = (p.1, p.2, q.1, q.2) ∨ mkJ p q = (q.1, q.2, p.1, p.2) := by
  unfold mkJ
  split
  · exact Or.inl rfl
  · exact Or.inr rfl
section
variable {sorts : List (Str × Str)} {ks : List (Str × List Str)} (hS : StockOk sorts ks) {most : Nat} {cs : List Str} {legs : List (Str × Str)} {js : List Jo} (hD : Drawn sorts ks most cs legs js) {j : Jo} {a b : Str} (hC : CutOk cs legs js j a b) {LS : List (Str × Str)} (hL : LegsOk sorts LS) (hp : LS.Perm (legs ++ comeL j a b))
include hS hD hC hL hp
theorem idx_lt {l : Str × Str} (h : l ∈ LS) : LS.idxOf l < LS.length := List.idxOf_lt_length_iff.mpr h
end
end GA

set_option Elab.async false
set_option linter.all false
set_option maxRecDepth 100000
set_option maxHeartbeats 1000000
/-! NEb: two legs joined. -/
namespace GA
open PySem L2 DL G PG
structure FarOk (rs : List NRow) (x : Str) (e : NEnd) : Prop where
  a : ∀ r ∈ rs, r.1.1 = .inr x → r.2 = e
  b : ∀ r ∈ rs, r.2.1 = .inr x → r.1 = e
/-- whether a place is none of two names -/
def keep (x y : Str) : NP → Bool
  | .inl _ => true
  | .inr z => !decide (z ∈ [x, y])
end GA

set_option Elab.async false
set_option linter.all false
set_option maxRecDepth 100000
set_option maxHeartbeats 1000000
/-! NEc: the cut one sewn again. -/
namespace GA
open PySem L2 DL G PG
theorem mkJ_comm {p q : En2} (hp : NameOk p.2) (hq : NameOk q.2) : mkJ p q = mkJ q p := by
  unfold mkJ
  by_cases h1 : dLe (endD p) (endD q) = true
  · by_cases h2 : dLe (endD q) (endD p) = true
    · have := endD_inj (dLe_anti (end1_pl hp) (end1_pl hq) (end_alike p q) h1 h2)
      rw [this]
    · rw [if_pos h1, if_neg h2]
  · by_cases h2 : dLe (endD q) (endD p) = true
    · rw [if_neg h1, if_pos h2]
    · exfalso
      have := dLe_total (endD p) (endD q)
      simp at h1 h2
      rw [h1, h2] at this
      simp at this
section
variable {sorts : List (Str × Str)} {ks : List (Str × List Str)} (hS : StockOk sorts ks) {most : Nat} {cs : List Str} {legs : List (Str × Str)} {js : List Jo} (hD : Drawn sorts ks most cs legs js) {j : Jo} {a b : Str} (hC : CutOk cs legs js j a b) {LS : List (Str × Str)} (hL : LegsOk sorts LS) (hp : LS.Perm (legs ++ comeL j a b))
include hS hD hC hL hp
end
end GA

set_option Elab.async false
set_option linter.all false
set_option maxRecDepth 100000
set_option maxHeartbeats 400000
/-! DLzn: errors of own classes without fields: raised, let out of a def, caught, asked for their class. -/
namespace DL
open PySem L2
/-! ### raise -/
/-- what K says of an own class of errors without fields -/
structure ExK (K : Fg) (C : Addr) : Prop where
  q : PySem.W.excIn K C [.type "ValueError", .type "Exception", .type "BaseException", .type "object"] "ValueError.__new__" = true
  kC : PySem.W.keepIn K (.ref C) = true
  h1 : PySem.W.subIn K (.ref C) (.type "BaseException") = some true
  h2 : PySem.W.typeIn K (.ref C) = some (.type "type")
/-! ### defs that may raise -/
section
variable {P : Program} {w : World} {K : Fg} {mg : Str → Option Value} {base : Heap}
end
/-! ### their calls -/
structure CallX (P : Program) (w : World) (K : Fg) (mg : Str → Option Value) (base : Heap) (x : Str) (k : Nat) (ps : List Str) (ks : List PK) (g : List D → Option (R D)) : Prop where
  ex : ∃ f fd, mg x = some (.ref f) ∧ PySem.W.keepIn K (.ref f) = true ∧ Binds K fd ps [] ∧ FnOk P w K mg base (L2.CX P w) k f fd ps (SpD K ks g)
section
variable {X : Cx} {W : WX} {e : Expr} {es : List Expr} {pos p2 : Pos}
end
/-! ### {} -/
/-! ### a caught error's class -/
theorem xMark_ex : ∃ l : List Int, 1000000 < l.length := ⟨List.replicate 1000001 0, by rw [List.length_replicate]; decide⟩
noncomputable def xMark : List Int := xMark_ex.choose
theorem xMark_len : 1000000 < xMark.length := xMark_ex.choose_spec
section
variable {X : Cx} {a D0 : Addr} {oe : Obj} {pn : List (Addr × Obj)} {i : Nat} {b : Bool} {e y : Str} {C : Addr} {p3 p4 p5 pos : Pos} {m0 : M D}
end
/-! ### try -/
def shortB (δ : En) : Bool := δ.all fun s => match s with
  | .sc ns => decide (ns.length ≤ 1000000)
  | _ => true
theorem short_of {δ : En} (h : shortB δ = true) : Short δ := fun i ns q => by
  have := List.all_eq_true.mp h (.sc ns) (List.mem_of_getElem? q)
  simpa using this
def ouE : Ou → En
  | .nx δ => δ
  | .rt _ δ => δ
  | .rn _ δ => δ
  | .bk δ => δ
  | .ct δ => δ
  | .ex _ δ => δ
/-- behind the suite its name is gone -/
def ouSet (i : Nat) : Ou → Option Ou
  | .nx δ => some (.nx (wipeE δ [i]))
  | .rt d δ => some (.rt d (wipeE δ [i]))
  | .rn d δ => some (.rn d (wipeE δ [i]))
  | .bk δ => some (.bk (wipeE δ [i]))
  | .ct δ => some (.ct (wipeE δ [i]))
  | .ex _ _ => none
theorem StOk.hold {C : Cn} {al : Nat → Addr} {F H : Hp} {σ : St} {δ : En} (S : StOk C al F H σ δ) (hs : Short δ) (i : Nat) (a : Addr) : StOk { C with W := WA a } al F H (σ.set i (some (.ref a))) (δ.set i (.sc xMark)) := by
  have key : ∀ (j : Nat) s, (δ.set i (Sl.sc xMark))[j]? = some s → (j = i ∧ s = Sl.sc xMark ∧ i < δ.length) ∨ (j ≠ i ∧ δ[j]? = some s) := fun j s q => by
    by_cases z : j = i
    · subst z
      rw [List.getElem?_set_self'] at q
      cases e : δ[j]? with
      | none => rw [e] at q; cases q
      | some u =>
        rw [e] at q
        cases q
        exact Or.inl ⟨rfl, rfl, (List.getElem?_eq_some_iff.mp e).1⟩
    · rw [List.getElem?_set_ne (Ne.symm z)] at q
      exact Or.inr ⟨z, q⟩
  have sg : ∀ j, j ≠ i → (σ.set i (some (V.ref a)))[j]? = σ[j]? := fun j z => List.getElem?_set_ne (Ne.symm z)
  refine ⟨S.fh, S.ph, S.bp, S.f0, S.fp, by rw [List.length_set, List.length_set]; exact S.len, fun j e q => ?_, fun j e q => ?_, fun j s e q r => ?_, fun j e q => ?_, fun j k s t e f q1 q2 r1 r2 r3 => ?_, fun j ns q => ?_, fun j ds q => ?_, S.qp⟩
  · rcases key j _ q with ⟨_, z, _⟩ | ⟨n, q⟩
    · cases z
    · rw [sg j n]; exact S.fr j e q
  · rcases key j _ q with ⟨_, z, _⟩ | ⟨n, q⟩
    · cases z
    · rw [sg j n]; exact S.bo j e q
  · rcases key j _ q with ⟨_, z, _⟩ | ⟨n, q⟩
    · rw [z] at r; cases r
    · rw [sg j n]; exact S.ow j s e q r
  · rcases key j _ q with ⟨_, z, _⟩ | ⟨n, q⟩
    · cases z
    · exact S.io j e q
  · rcases key j _ q1 with ⟨_, z, _⟩ | ⟨n, q1⟩
    · rw [z] at r1; cases r1
    · rcases key k _ q2 with ⟨_, z, _⟩ | ⟨n2, q2⟩
      · rw [z] at r2; cases r2
      · exact S.inj j k s t e f q1 q2 r1 r2 r3
  · rcases key j _ q with ⟨rfl, z, l⟩ | ⟨n, q⟩
    · cases z
      exact ⟨a, List.getElem?_set_self (by rw [S.len]; exact l), Or.inr ⟨xMark_len, Or.inl rfl⟩⟩
    · rw [sg j n]
      obtain ⟨a', h1, h2⟩ := S.sc j ns q
      exact ⟨a', h1, Or.inl (h2.resolve_right fun z => absurd z.1 (by have := hs j ns q; omega))⟩
  · rcases key j _ q with ⟨_, z, _⟩ | ⟨n, q⟩
    · cases z
    · rw [sg j n]; exact S.b2 j ds q
theorem wiped1 {C : Cn} {al : Nat → Addr} {F H : Hp} {σ : St} {δ : En} (S : StOk C al F H σ δ) (i : Nat) : StOk C al F H (σ.set i none) (wipeE δ [i]) :=
  S.wiped (by rw [List.length_set]) fun j hj => List.getElem?_set_ne fun z => hj (by rw [z]; exact List.mem_cons_self)
theorem wiped0 {C : Cn} {al : Nat → Addr} {F H : Hp} {σ : St} {δ : En} (S : StOk C al F H σ δ) (i : Nat) : StOk C al F H σ (wipeE δ [i]) := S.wiped rfl fun j hj => rfl
section
variable {X : Cx} {W : WX} {st : Stmt} {rest : List Stmt} {m n : Ms}
end
end DL

set_option Elab.async false
set_option linter.all false
set_option maxRecDepth 100000
set_option maxHeartbeats 4000000
/-! PMi: printed by gen.py: joining legs, with what is refused. -/
namespace GA
open PySem L2 DL G
end GA

set_option Elab.async false
set_option linter.all false
set_option maxRecDepth 100000
set_option maxHeartbeats 400000
/-! DLzo: several except clauses, with and without a name. -/
namespace DL
open PySem L2
/-- a clause: its class, the slot of its name, its suite's reading -/
abbrev Cl := Value × Option Nat × (Addr → Value → Option Addr → TS)
def clE (i : Option Nat) (D : Ends) : Ends := match i with
  | none => D
  | some i => { nx := fun σ' H' => D.nx (σ'.set i none) H', rt := D.rt, bk := fun σ' H' => D.bk (σ'.set i none) H', ct := fun σ' H' => D.ct (σ'.set i none) H' }
def clS (i : Option Nat) (σ : St) (a : Addr) : St := match i with
  | none => σ
  | some i => σ.set i (some (.ref a))
def wCl (K : Fg) (Wout : WX) (D : Ends) : List Cl → WX
  | [] => Wout
  | (c, i, ts) :: r => fun cls d σ H => ∃ b, PySem.W.exmOne K cls c = some b ∧ (b = true → ∀ a, H a = none → ts a cls d (clE i D) (clS i σ a) H) ∧ (b = false → wCl K Wout D r cls d σ H)
inductive Cls' (X : Cx) : List ExceptHandler → List Cl → Prop
  | nil : Cls' X [] []
  | cons {x : Str} {c : Value} {ts : Addr → Value → Option Addr → TS} {b₀ : Stmt} {suite : List Stmt} {np pos' : Pos} {n : Option Str} {i : Option Nat} {hds : List ExceptHandler} {l : List Cl} (hc : Names X x c)
      (hi : (n = none ∧ i = none) ∨ ∃ y j, n = some y ∧ i = some j ∧ X.N[j]? = some y ∧ X.env.kindOf y = some .local)
      (hsu : ∀ (a : Addr) (oe : Obj) (cls : Value) (d : Option Addr) (pn : List (Addr × Obj)), Zc cls d oe → (∃ vs, oe.data = .fields vs) → PSs (X.suite a ((a, oe) :: pn)) (b₀ :: suite) (ts a cls d)) (r : Cls' X hds l) :
      Cls' X (.ExceptHandler (some (.Name x np)) n (b₀ :: suite) pos' :: hds) ((c, i, ts) :: l)
section
variable {X : Cx} {body : List Stmt} {h₀ : ExceptHandler} {hds : List ExceptHandler} {l : List Cl} {pos : Pos} {tb : WX → TS} {Wout : WX}
end
/-! ### what it computes -/
/-- a clause: which errors it takes, its name's slot, its suite -/
abbrev ClM := List Nat × Option Nat × (Nat → Ms)
noncomputable def clD (i : Option Nat) (δ : En) : En := match i with
  | none => δ
  | some i => δ.set i (.sc xMark)
def ouNo : Ou → Option Ou
  | .ex _ _ => none
  | o => some o
def ouSetO (i : Option Nat) (o : Ou) : Option Ou := match i with
  | none => ouNo o
  | some i => ouSet i o
noncomputable def mCls (δ : En) (tg : Nat) : List ClM → Option Ou
  | [] => none
  | (ts, i, ms) :: r => if tg ∈ ts then (match ms tg (clD i δ) with
    | none => none
    | some o => match ouSetO i o with
      | none => none
      | some o' => if shortB (ouE o') = true then some o' else none) else mCls δ tg r
theorem StOk.clD {C : Cn} {al : Nat → Addr} {F H : Hp} {σ : St} {δ : En} (S : StOk C al F H σ δ) (hs : Short δ) (i : Option Nat) (a : Addr) : StOk { C with W := WA a } al F H (clS i σ a) (clD i δ) := by
  cases i with
  | none => exact S.wish (WA a) hs
  | some i => exact S.hold hs i a
theorem endOk_cl {C : Cn} {F : Hp} {Z : Ends} {i : Option Nat} {a : Addr} {o o' : Ou} (hZ : EndOk C F Z o') (h : ouSetO i o = some o') (hs : shortB (ouE o') = true) : EndOk { C with W := WA a } F (clE i Z) o := by
  have hs := short_of hs
  cases i with
  | none =>
    cases o with
    | ex _ _ => cases h
    | nx δ => cases h; exact fun al2 F2 H2 σ2 s2 S2 => hZ al2 F2 H2 _ s2 (S2.unwish hs)
    | bk δ => cases h; exact fun al2 F2 H2 σ2 s2 S2 => hZ al2 F2 H2 _ s2 (S2.unwish hs)
    | ct δ => cases h; exact fun al2 F2 H2 σ2 s2 S2 => hZ al2 F2 H2 _ s2 (S2.unwish hs)
    | rt d δ => cases h; exact fun al2 F2 H2 σ2 v s2 S2 rv => hZ al2 F2 H2 _ v s2 (S2.unwish hs) rv
    | rn d δ => cases h; exact fun al2 F2 H2 σ2 p s2 S2 => hZ al2 F2 H2 _ p s2 (S2.unwish hs)
  | some i =>
    cases o with
    | ex _ _ => cases h
    | nx δ => cases h; exact fun al2 F2 H2 σ2 s2 S2 => hZ al2 F2 H2 _ s2 ((wiped1 S2 i).unwish hs)
    | bk δ => cases h; exact fun al2 F2 H2 σ2 s2 S2 => hZ al2 F2 H2 _ s2 ((wiped1 S2 i).unwish hs)
    | ct δ => cases h; exact fun al2 F2 H2 σ2 s2 S2 => hZ al2 F2 H2 _ s2 ((wiped1 S2 i).unwish hs)
    | rt d δ => cases h; exact fun al2 F2 H2 σ2 v s2 S2 rv => hZ al2 F2 H2 _ v s2 ((wiped0 S2 i).unwish hs) rv
    | rn d δ => cases h; exact fun al2 F2 H2 σ2 p s2 S2 => hZ al2 F2 H2 _ p s2 ((wiped0 S2 i).unwish hs)
inductive XCl (X : Cx) (R : List Nat) (cx : Nat → Addr) : List ExceptHandler → List ClM → Prop
  | nil : XCl X R cx [] []
  | cons {x : Str} {c : Value} {ts : List Nat} {b₀ : Stmt} {suite : List Stmt} {np pos' : Pos} {n : Option Str} {i : Option Nat} {ms : Nat → Ms} {hds : List ExceptHandler} {cl : List ClM} (hc : Names X x c)
      (hi : (n = none ∧ i = none) ∨ ∃ y j, n = some y ∧ i = some j ∧ X.N[j]? = some y ∧ X.env.kindOf y = some .local) (hx : ∀ tg ∈ R, PySem.W.exmOne X.K (.ref (cx tg)) c = some (decide (tg ∈ ts)))
      (hsu : ∀ tg ∈ R, tg ∈ ts → ∀ (a : Addr) (oe : Obj) (pn : List (Addr × Obj)), Zc (.ref (cx tg)) none oe → (∃ vs, oe.data = .fields vs) → ∃ t, XB (X.suite a ((a, oe) :: pn)) (WA a) (b₀ :: suite) t (ms tg)) (r : XCl X R cx hds cl) :
      XCl X R cx (.ExceptHandler (some (.Name x np)) n (b₀ :: suite) pos' :: hds) ((ts, i, ms) :: cl)
theorem XCl.read {X : Cx} {R : List Nat} {cx : Nat → Addr} {hds : List ExceptHandler} {cl : List ClM} (h : XCl X R cx hds cl) : ∃ l, Cls' X hds l ∧ ∀ (C : Cn), C.K = X.K → ∀ (al : Nat → Addr) (F H : Hp) (σ : St) (δ : En) (Z : Ends) (tg : Nat), StOk C al F H σ δ → Short δ → tg ∈ R → ∀ o, mCls δ tg cl = some o → EndOk C F Z o → wCl X.K W0 Z l (.ref (cx tg)) none σ H := by
  induction h with
  | nil => exact ⟨[], .nil, fun C hK al F H σ δ Z tg S hs hR o ho => by cases ho⟩
  | @cons x c ts b₀ suite np pos' n i ms hds cl hc hi hx hsu r ih =>
    obtain ⟨l, hl, ih⟩ := ih
    refine ⟨(c, i, fun a cls d Z σ H => ∃ tg, cls = .ref (cx tg) ∧ d = none ∧ tg ∈ R ∧ tg ∈ ts ∧ ∀ (h : tg ∈ R) (h2 : tg ∈ ts) oe pn (hz : Zc (.ref (cx tg)) none oe) (hf : ∃ vs, oe.data = .fields vs), (hsu tg h h2 a oe pn hz hf).choose Z σ H) :: l, .cons hc hi (fun a oe cls d pn hz hf => ?_) hl, fun C hK al F H σ δ Z tg S hs hR o ho hZ => ?_⟩
    · refine ⟨fun pins s σ H D I h => ?_⟩
      obtain ⟨tg, rfl, rfl, hR, hT, h⟩ := h
      exact (hsu tg hR hT a oe pn hz hf).choose_spec.p.run pins s σ H D I (h hR hT oe pn hz hf)
    · refine ⟨_, hx tg hR, fun hb a ha => ?_, fun hb => ?_⟩
      · have hT : tg ∈ ts := of_decide_eq_true hb
        refine ⟨tg, rfl, rfl, hR, hT, fun h h2 oe pn hz hf => ?_⟩
        unfold mCls at ho
        rw [if_pos hT] at ho
        cases e2 : ms tg (DL.clD i δ) with
        | none => rw [e2] at ho; cases ho
        | some o2 =>
          rw [e2] at ho
          refine (hsu tg h h2 a oe pn hz hf).choose_spec.v { C with W := WA a } hK rfl al F H _ _ (S.clD hs i a) o2 e2 _ ?_
          cases e3 : ouSetO i o2 with
          | none => simp only [e3] at ho; cases ho
          | some o3 =>
            simp only [e3] at ho
            obtain ⟨h3, h4⟩ := if_some ho
            subst h4
            exact endOk_cl hZ e3 h3
      · have hT : tg ∉ ts := of_decide_eq_false hb
        unfold mCls at ho
        rw [if_neg hT] at ho
        exact ih C hK al F H σ δ Z tg S hs hR o ho hZ
end DL

set_option Elab.async false
set_option linter.all false
set_option maxRecDepth 100000
set_option maxHeartbeats 400000
/-! DLzp: a tuple times a number from 2 on, the new tuple's object known. -/
namespace DL
open PySem PySem.Spec PyProof.Rows L2
end DL

set_option Elab.async false
set_option linter.all false
set_option maxRecDepth 100000
set_option maxHeartbeats 4000000
/-! PMj: printed by gen.py: the stock of up to four kinds; beside, with what is refused. -/
namespace GA
open PySem L2 DL G
end GA

set_option Elab.async false
set_option linter.all false
set_option maxRecDepth 100000
set_option maxHeartbeats 400000
/-! DLzq: t.index(i) of a tuple of ints; a tuple times a number from 1 on. -/
namespace DL
open PySem PySem.Spec PyProof.Rows L2
/-! ### t.index(i) -/
section
variable {X : Cx} {o e : Expr} {to : TE} {t : TA} {apos cpos : Pos}
end
/-! ### a tuple times one: itself -/
end DL

set_option Elab.async false
set_option linter.all false
set_option maxRecDepth 100000
set_option maxHeartbeats 400000
/-! DLzr: a def that raises, called where it doesn't. -/
namespace DL
open PySem L2
section
variable {X : Cx} {W : WX} {e : Expr} {es : List Expr} {pos p2 : Pos}
end
/-! ### l + m as a new list of one's own -/
section
variable {X : Cx} {W : WX} {a b : Expr} {ta tb : TE} {oa ob : M Op} {pos : Pos}
end
end DL

set_option Elab.async false
set_option linter.all false
set_option maxRecDepth 100000
set_option maxHeartbeats 4000000
/-! PMk: printed by gen.py: drawings renamed, with what is refused; joins moved as the laws do. -/
namespace GA
open PySem L2 DL G
end GA

set_option Elab.async false
set_option linter.all false
set_option maxRecDepth 100000
set_option maxHeartbeats 400000
/-! DLzs: min of a list of data. -/
namespace DL
open PySem PySem.Spec PyProof.Rows L2
open PySem.W (alike dataLt)
structure MinOk (ds : List D) : Prop where
  ne : ds ≠ []
  py : ∀ d ∈ ds, toPy d = some (encD d)
  nn : ∀ d ∈ ds, encD d ≠ .none
  dep : PyData.depthAll (ds.map encD) ≤ 60
  al : ∀ d ∈ ds, ∀ e ∈ ds, alike (encD d) (encD e) = true
section
variable {X : Cx} {W : WX} {a : Expr} {ta : TE} {oa : M Op} {p2 pos : Pos}
end
/-! ### a number in, not in a tuple of numbers -/
section
variable {X : Cx} {W : WX} {a b : Expr} {ta tb : TE} {oa ob : M Op} {pos : Pos}
end
/-! ### x is None, as a test -/
end DL

set_option Elab.async false
set_option linter.all false
set_option maxRecDepth 100000
set_option maxHeartbeats 4000000
/-! PMl: printed by gen.py: the orders of corners, the least drawing. -/
namespace GA
open PySem L2 DL G
end GA

set_option Elab.async false
set_option linter.all false
set_option maxRecDepth 100000
set_option maxHeartbeats 1600000
/-! DLzzS: sets of tuples of whole numbers and texts, one put in. -/
namespace DL
open PySem L2
section
variable (P : Program) (w : World)
abbrev fhash (k : List Key) : Int := tupleKeyHash (mixKind P w) k
abbrev FlatAt (h : Heap) (k : List Key) (a : Addr) : Prop := IsTupleKey (mixKind P w) h k a
def frow (q : Addr × List Key) : Int × Value := (fhash P w q.2, Value.ref q.1)
end
section
variable {P : Program} {w : World} {A : Around} {E : Value → Shared → Prop} {s : Shared}
/-- what a set of such tuples holds -/
structure FlatSet (P : Program) (w : World) (h : Heap) (a : Addr) (L : List (Addr × List Key)) (es : Array (Int × Value)) (ep : Nat) (t : SetTable) : Prop where
  at_ : ∃ o, h.get? a = some o ∧ o.ExactSet ∧ o.data = .set es ep t
  row : es.toList = L.map (frow P w)
  ok : TabOk t (L.map fun q => fhash P w q.2)
  one : (L.map (·.2)).Nodup
  el : ∀ q ∈ L, FlatAt P w h q.2 q.1
  ld : w.params.followText "set-order" = true ∨ t.led = true
  sp : L.length * 5 < t.mask * 3
  lt : L.length < 64
variable {a : Addr} {L : List (Addr × List Key)} {es : Array (Int × Value)} {ep : Nat} {t : SetTable}
theorem rows_len {L : List (Addr × List Key)} {es : Array (Int × Value)} (e : es.toList = L.map (frow P w)) : es.size = L.length := by
  rw [← Array.length_toList, e, List.length_map]
theorem FlatSet.fits (R : FlatSet P w s.heap a L es ep t) : t.fits es.size = true := by
  have h1 : t.place.size = L.length := by rw [R.ok.sz, List.length_map]
  have h2 := rows_len R.row
  have h3 := R.sp
  unfold SetTable.fits SetTable.fill
  rw [R.ok.dm, Bool.and_eq_true, beq_iff_eq, decide_eq_true_eq]
  refine ⟨by omega, ?_⟩
  show t.place.size + 0 ≤ t.mask
  omega
end
end DL

set_option Elab.async false
set_option linter.all false
set_option maxRecDepth 100000
set_option maxHeartbeats 1600000
/-! DLzzSb: set(xs), xs a list of tuples of whole numbers and texts. -/
namespace DL
open PySem L2
open PySem.W (EachIs AllAlike Sortable dataLe alike)
/-- what a set has of the first items -/
structure FGot (ks : List (Addr × List Key)) (i : Nat) (L : List (Addr × List Key)) : Prop where
  sub : ∀ q ∈ L, q ∈ ks.take i
  all : ∀ q ∈ ks.take i, q.2 ∈ L.map (·.2)
  len : L.length ≤ i
theorem FGot.step {ks L L' : List (Addr × List Key)} {i : Nat} {x : Addr × List Key} (g : FGot ks i L) (h : ks[i]? = some x) (c1 : x.2 ∈ L.map (·.2) → L' = L) (c2 : x.2 ∉ L.map (·.2) → L'.Perm (x :: L)) : FGot ks (i + 1) L' := by
  have e : ks.take (i + 1) = ks.take i ++ [x] := by rw [List.take_succ, h]; rfl
  by_cases m : x.2 ∈ L.map (·.2)
  · rw [c1 m]
    refine ⟨fun q hq => by rw [e]; exact List.mem_append_left _ (g.sub q hq), fun q hq => ?_, Nat.le_succ_of_le g.len⟩
    rw [e] at hq
    exact (List.mem_append.mp hq).elim (g.all q) fun z => List.mem_singleton.mp z ▸ m
  · have p := c2 m
    refine ⟨fun q hq => ?_, fun q hq => ?_, by rw [p.length_eq, List.length_cons]; exact Nat.succ_le_succ g.len⟩
    · rw [e]
      exact (List.mem_cons.mp (p.mem_iff.mp hq)).elim (fun z => z ▸ List.mem_append_right _ (List.mem_singleton.mpr rfl)) fun z => List.mem_append_left _ (g.sub q z)
    · rw [(p.map (·.2)).mem_iff, List.map_cons]
      rw [e] at hq
      exact (List.mem_append.mp hq).elim (fun z => List.mem_cons_of_mem _ (g.all q z)) fun z => by rw [List.mem_singleton.mp z]; exact List.mem_cons_self
section
variable {P : Program} {w : World} {A : Around} {E : Value → Shared → Prop} {s : Shared}
theorem FlatSet.keep {h h' : Heap} {a : Addr} {L : List (Addr × List Key)} {es : Array (Int × Value)} {ep : Nat} {t : SetTable} (R : FlatSet P w h a L es ep t) (ha : ∀ o, h.get? a = some o → h'.get? a = some o) (el : ∀ q ∈ L, FlatAt P w h' q.2 q.1) : FlatSet P w h' a L es ep t := by
  obtain ⟨o, ho, r⟩ := R.at_
  exact ⟨⟨o, ha o ho, r⟩, R.row, R.ok, R.one, el, R.ld, R.sp, R.lt⟩
end
end DL

set_option Elab.async false
set_option linter.all false
set_option maxRecDepth 100000
set_option maxHeartbeats 1600000
/-! DLzzT: sorted(set(xs)), xs a list of tuples of whole numbers and texts. -/
namespace DL
open PySem L2
open PySem.W (EachIs AllAlike Sortable dataLe alike)
section
variable {X : Cx}
end
/-! what the mirrors say -/
section
variable {X : Cx}
end
end DL

set_option Elab.async false
set_option linter.all false
set_option maxRecDepth 100000
set_option maxHeartbeats 400000
/-! DLzt: rules that ask for units alone (within an except suite); str(i). -/
namespace DL
open PySem L2
section
variable {X : Cx} {W : WX} {a b o e : Expr} {ta tb : TE} {oa ob : M Op} {pos p2 apos cpos : Pos}
end
/-! ### str(i) -/
section
variable {X : Cx} {W : WX} {a : Expr} {ta : TE} {oa : M Op} {p2 pos : Pos}
end
end DL

set_option Elab.async false
set_option linter.all false
set_option maxRecDepth 100000
set_option maxHeartbeats 400000
/-! DLzu: a list of new lists of one's own: handed on by parts, compared, its parts changed in a loop. -/
namespace DL
open PySem L2
/-! ### objects that are kept from being changed -/
/-- neither frozen, nor kept, nor an own slot's -/
def Free (C : Cn) (al : Nat → Addr) (F : Hp) (δ : En) (b : Addr) : Prop := F b = none ∧ C.P b = none ∧ ∀ (j : Nat) s e, δ[j]? = some s → Sl.own s = some e → al j ≠ b
section
variable {C : Cn} {al al' : Nat → Addr} {F H F' H' : Hp} {σ σ' : St} {δ δ' : En} {bs : List Addr}
end
/-! ### the parts are made -/

/-- new objects of one's own, one after another -/
def JL (K : Fg) (W : WX) (t : TA) (m : M (List D)) : Prop :=
  ∀ (C : Cn), C.K = K → C.W = W → ∀ (al : Nat → Addr) (F H : Hp) (σ : St) (δ : En), StOk C al F H σ δ → ∀ r, m δ = some r → ∀ Q : List V → Hp → Prop,
    (∀ ds δ', r = .ok ds δ' → ∀ al' F' H' (bs : List Addr), Same F F' → StOk C al' F' H' σ δ' → bs.Nodup → (∀ b ∈ bs, Free C al' F' δ' b) → (∀ b ∈ bs, ∃ o, H' b = some o) → Parts K H' F' (bs.map V.ref) ds → ds.length ≤ LB → Q (bs.map V.ref) H') →
    (∀ x δ', r = .ex x δ' → ∀ al' F' H' cls dd, Same F F' → StOk C al' F' H' σ δ' → XRep K F' H' x cls dd → W cls dd σ H') → t σ H Q
section
variable {K : Fg} {W : WX}
end
/-! ### the block -/
def noB2 (δ : En) : Bool := δ.all fun s => match s with
  | .b2 _ => false
  | _ => true
theorem noB2_get {δ : En} (h : noB2 δ = true) {j : Nat} {ds : List D} (q : δ[j]? = some (Sl.b2 ds)) : False := by
  have := List.all_eq_true.mp h (.b2 ds) (List.mem_of_getElem? q)
  cases this
section
variable {K : Fg} {W : WX}
theorem repO_noxd {F H : Hp} {a : Addr} {d : D} (h : RepO K F H a d) {fs : List (Str × V)} : H a ≠ some (.xd fs) := fun q => by
  cases d with
  | lst ds => obtain ⟨vs, h1, _⟩ := h; rw [h1] at q; cases q
  | ins C ns ds => obtain ⟨dx, vs, h1, _⟩ := h; rw [h1] at q; cases q
  | dk ks ds => obtain ⟨vs, h1, _⟩ := h; rw [h1] at q; cases q
  | dn hs ks ds => obtain ⟨o, bs, vs, nks, h1, _⟩ := h; rw [h1] at q; have z : HO.ext _ = HO.xd fs := Option.some.inj q; cases z
  | _ => exact h.elim
end
end DL

set_option Elab.async false
set_option linter.all false
set_option maxRecDepth 100000
set_option maxHeartbeats 400000
/-! DLzv: a list of new lists: the rules over the text. -/
namespace DL
open PySem L2
/-! ### an item of it as an operand -/
section
variable {K : Fg} {W : WX}
/-! ### compared -/
end
/-! ### the text -/
structure XL (X : Cx) (W : WX) (es : List Expr) (t : TA) (m : M (List D)) : Prop where
  p : PA X es t
  v : JL X.K W t m
/-- the first statements of a block -/
structure XPr (X : Cx) (W : WX) (s : List Stmt) (t : TS) (m : Ms) : Prop where
  p : ∀ (rest : List Stmt) (u : TS), PSs X rest u → PSs X (s ++ rest) (tSeq t u)
  v : Es X.K W t m
section
variable {X : Cx} {W : WX} {a b e : Expr} {es : List Expr} {te ta tb : TE} {pos p2 p3 pos' : Pos} {me ma : M D} {ob : M Op} {st : Stmt} {ss : List Stmt} {t u : TS} {m n : Ms}
/-- x.reverse(), x.clear() -/
theorem x_rev0 {K : Fg} {i : Nat} {o : Expr} {apos : Pos} (ho : PE X o (tVar i)) (hbase : attributeBase o "reverse" X.env (eval o X.env) = eval o X.env := by rfl) (hline : (apos.endLine == pos.line) = true := by rfl) (hK : X.K = K := by rfl) :
    XE X W (.Call (.Attribute o "reverse" apos) [] [] pos) (tBM0 K "list" rReverse (tVar i)) (mMut0 revF i) := by
  subst hK
  exact ⟨pe_bm0 PySem.F.plainAttrs_list PySem.F.slot_list_reverse PySem.F.type_list_reverse mt_reverse ho hbase hline, ev_mut0 primM_reverse⟩
end
end DL

set_option Elab.async false
set_option linter.all false
set_option maxRecDepth 100000
set_option maxHeartbeats 400000
/-! DLzw: == by a class's own def, of an instance and plain data. -/
namespace DL
open PySem L2
section
variable {X : Cx} {n m : Nat} {C f : Addr} {fd : FuncData} {ps : List Str} {S : Sp}
end
section
variable {X : Cx} {W : WX} {a b : Expr} {ta tb : TE} {oa ob : M Op} {pos : Pos}
end
end DL

set_option Elab.async false
set_option linter.all false
set_option maxRecDepth 100000
set_option maxHeartbeats 400000
/-! DLzx: errors of own classes with a field: made, raised. -/
namespace DL
open PySem L2
/-- what K says of the class whose __init__ is called by name -/
structure EeK (K : Fg) (C : Addr) : Prop where
  hg : PySem.W.specialIn K (.ref C) "__getattribute__" = some (some (.builtin "type.__getattribute__"))
  hm : PySem.W.typeIn K (.ref C) = some (.type "type")
  hr : PySem.W.readsIn K C (.type "type") = true
  he : PySem.W.findCls K (.ref C) (.type "type") "__init__" = some (.val (.builtin "ValueError.__init__"))
section
variable {X : Cx} {o e : Expr} {es : List Expr} {to te : TE} {ta : TA} {f x : Str} {p p' p1 p2 pos : Pos} {C : Addr}
end
/-- what such a class's own __init__ promises: EndError.__init__(self, ".."); self.f = x -/
def SpE (K : Fg) (f : Str) : Sp := fun vs H Q _ => ∃ (a C : Addr) (y : V), vs = [.ref a, y] ∧ OexC K C ∧ PySem.W.findIn K (.ref C) f = some none ∧ H a = some (exo a C none) ∧
  ∀ dx, H dx = none → dx ≠ a → Q .non (upd (upd H dx (exd dx [(f, y)])) a (exo a C (some dx)))
section
variable {P : Program} {w : World} {K : Fg} {mg : Str → Option Value} {base : Heap}
end
/-! ### raised -/
/-- what is known of such a class -/
structure ExF (P : Program) (w : World) (K : Fg) (mg : Str → Option Value) (base : Heap) (C : Addr) (fld : Str) : Prop where
  T : OexC K C
  hn : PySem.W.findIn K (.ref C) fld = some none
  ex : ∃ f fd ps, PySem.W.findIn K (.ref C) "__init__" = some (some (.ref f)) ∧ PySem.W.typeIn K (.ref f) = some (.type "function") ∧ Binds K fd ps [] ∧ FnOk P w K mg base CX0 1 f fd ps (SpE K fld)
section
variable {X : Cx} {W : WX} {e : Expr} {te : TE} {m : M D} {x fld : Str} {C : Addr} {tg : Nat} {p pos pos' : Pos}
end
end DL

set_option Elab.async false
set_option linter.all false
set_option maxRecDepth 100000
set_option maxHeartbeats 400000
/-! DLzy: classes whose __init__ may raise. -/
namespace DL
open PySem L2
section
variable {K : Fg} {W : WX}
end
section
variable {P : Program} {w : World} {K : Fg} {mg : Str → Option Value} {base : Heap}
end
structure MakeX (P : Program) (w : World) (K : Fg) (mg : Str → Option Value) (base : Heap) (x : Str) (C : Addr) (k : Nat) (ps : List Str) (ks : List PK) (g : List D → Option (R D)) : Prop where
  ex : ∃ f fd, mg x = some (.ref C) ∧ Mk K C f ∧ Binds K fd ps [] ∧ FnOk P w K mg base (L2.CX P w) k f fd ps (SpD K (.io :: ks) g)
section
variable {X : Cx} {W : WX} {e : Expr} {es : List Expr} {pos p2 : Pos}
end
section
variable {P : Program} {w : World} {K : Fg} {mg : Str → Option Value} {base h : Heap}
end
end DL

set_option Elab.async false
set_option linter.all false
set_option maxRecDepth 100000
set_option maxHeartbeats 400000
/-! DLzz: in a suite that holds an error with a field: its field, its class. -/
namespace DL
open PySem L2
/-! ### its class -/
section
variable {X : Cx} {a D0 dd : Addr} {oe : Obj} {pn : List (Addr × Obj)}
end
section
variable {K : Fg} {i : Nat} {a dd D0 : Addr} {fld : Str} {y : V} {b : Bool}
end
section
variable {X : Cx} {a D0 dd : Addr} {oe : Obj} {pn : List (Addr × Obj)} {i : Nat} {b : Bool} {e yy fld : Str} {y : V} {C : Addr} {p3 p4 p5 pos : Pos} {m0 : M D}
end
end DL

set_option Elab.async false
set_option linter.all false
set_option maxRecDepth 100000
set_option maxHeartbeats 400000
/-! DLzzA: try with clauses, the errors having one plain field. -/
namespace DL
open PySem L2
/-- plain values -/
def plV : D → Option V
  | .str x => some (.str x)
  | .int i => some (.int i)
  | .bl b => some (.bl b)
  | .non => some .non
  | _ => none
/-- the context of the suite -/
def CF (C : Cn) (a dd : Addr) (fld : Str) (y : V) : Cn := { C with W := WF a dd fld y, P := fun b => if b = dd then some (.xd [(fld, y)]) else C.P b, Q := fun b => if b = dd then some (.xd [(fld, y)]) else C.Q b }
section
variable {C : Cn} {al : Nat → Addr} {F H : Hp} {σ : St} {δ : En} {a dd : Addr} {fld : Str} {y : V}
theorem same_at {P H : Hp} {dd : Addr} {o : HO} (h : Same P H) (e : H dd = some o) : Same P (fun b => if b = dd then some o else P b) := fun b u q => by
  by_cases z : b = dd
  · subst z
    have := h _ _ q
    rw [e] at this
    rw [← this]
    exact if_pos rfl
  · exact (if_neg z).trans q
/-- into the suite -/
theorem StOk.inF (S : StOk C al F H σ δ) (hs : Short δ) (e : H dd = some (.xd [(fld, y)])) (hF : F dd = none) : StOk (CF C a dd fld y) al F H σ δ := by
  have sP : Same C.P (CF C a dd fld y).P := same_at S.ph e
  have sQ : Same C.Q (CF C a dd fld y).Q := same_at (S.qp.trans S.ph) e
  refine ⟨S.fh, fun b u q => ?_, S.bp.trans sP, S.f0, fun b u q => ?_, S.len, S.fr, S.bo, fun j s d q r => ?_, S.io, S.inj, fun j ns q => ?_, fun j ds q => ?_, fun b u q => ?_⟩
  · have q : (if b = dd then some (HO.xd [(fld, y)]) else C.P b) = some u := q
    by_cases z : b = dd
    · rw [if_pos z] at q; rw [z, e]; exact q
    · rw [if_neg z] at q; exact S.ph b u q
  · have z : b ≠ dd := fun z => by rw [z, hF] at q; cases q
    rcases S.fp b u q with g | g
    · exact Or.inl g
    · exact Or.inr ((if_neg z).trans g)
  · obtain ⟨g1, g2, g3, g4⟩ := S.ow j s d q r
    have z : al j ≠ dd := fun z => repO_noxd g4 (by rw [z]; exact e)
    exact ⟨g1, g2, (if_neg z).trans g3, g4⟩
  · obtain ⟨b, h1, h2⟩ := S.sc j ns q
    exact ⟨b, h1, Or.inl (h2.resolve_right fun z => absurd z.1 (by have := hs j ns q; omega))⟩
  · obtain ⟨vs, h1, h2, h3⟩ := S.b2 j ds q
    exact ⟨vs, h1, h2, h3.mono sQ (Same.refl _)⟩
  · have q : (if b = dd then some (HO.xd [(fld, y)]) else C.Q b) = some u := q
    by_cases z : b = dd
    · rw [if_pos z] at q; exact (if_pos z).trans q
    · rw [if_neg z] at q; exact (if_neg z).trans (S.qp _ _ q)
/-- the suite's name -/
theorem StOk.holdF (S : StOk C al F H σ δ) (hs : Short δ) (i : Nat) (e : H dd = some (.xd [(fld, y)])) (hF : F dd = none) : StOk (CF C a dd fld y) al F H (σ.set i (some (.ref a))) (δ.set i (.sc xMark)) := by
  have T := S.inF (a := a) hs e hF
  have key : ∀ (j : Nat) s, (δ.set i (Sl.sc xMark))[j]? = some s → (j = i ∧ s = Sl.sc xMark ∧ i < δ.length) ∨ (j ≠ i ∧ δ[j]? = some s) := fun j s q => by
    by_cases z : j = i
    · subst z
      rw [List.getElem?_set_self'] at q
      cases e : δ[j]? with
      | none => rw [e] at q; cases q
      | some u =>
        rw [e] at q
        cases q
        exact Or.inl ⟨rfl, rfl, (List.getElem?_eq_some_iff.mp e).1⟩
    · rw [List.getElem?_set_ne (Ne.symm z)] at q
      exact Or.inr ⟨z, q⟩
  have sg : ∀ j, j ≠ i → (σ.set i (some (V.ref a)))[j]? = σ[j]? := fun j z => List.getElem?_set_ne (Ne.symm z)
  refine ⟨T.fh, T.ph, T.bp, T.f0, T.fp, by rw [List.length_set, List.length_set]; exact T.len, fun j e q => ?_, fun j e q => ?_, fun j s e q r => ?_, fun j e q => ?_, fun j k s t e f q1 q2 r1 r2 r3 => ?_, fun j ns q => ?_, fun j ds q => ?_, T.qp⟩
  · rcases key j _ q with ⟨_, z, _⟩ | ⟨n, q⟩
    · cases z
    · rw [sg j n]; exact T.fr j e q
  · rcases key j _ q with ⟨_, z, _⟩ | ⟨n, q⟩
    · cases z
    · rw [sg j n]; exact T.bo j e q
  · rcases key j _ q with ⟨_, z, _⟩ | ⟨n, q⟩
    · rw [z] at r; cases r
    · rw [sg j n]; exact T.ow j s e q r
  · rcases key j _ q with ⟨_, z, _⟩ | ⟨n, q⟩
    · cases z
    · exact T.io j e q
  · rcases key j _ q1 with ⟨_, z, _⟩ | ⟨n, q1⟩
    · rw [z] at r1; cases r1
    · rcases key k _ q2 with ⟨_, z, _⟩ | ⟨n2, q2⟩
      · rw [z] at r2; cases r2
      · exact T.inj j k s t e f q1 q2 r1 r2 r3
  · rcases key j _ q with ⟨rfl, z, l⟩ | ⟨n, q⟩
    · cases z
      exact ⟨a, List.getElem?_set_self (by rw [S.len]; exact l), Or.inr ⟨xMark_len, Or.inr ⟨dd, fld, y, rfl, if_pos rfl⟩⟩⟩
    · rw [sg j n]
      exact T.sc j ns q
  · rcases key j _ q with ⟨_, z, _⟩ | ⟨n, q⟩
    · cases z
    · rw [sg j n]; exact T.b2 j ds q
/-- out of the suite -/
theorem StOk.outF {al' : Nat → Addr} {F' H' : Hp} {σ' : St} {δ' : En} (S : StOk C al F H σ δ) (e : H dd = some (.xd [(fld, y)])) (S' : StOk (CF C a dd fld y) al' F' H' σ' δ') (hs : Short δ') (hn : noB2 δ' = true) : StOk C al' F' H' σ' δ' := by
  have sP : Same C.P (CF C a dd fld y).P := same_at S.ph e
  refine ⟨S'.fh, sP.trans S'.ph, S.bp, S'.f0, fun b u q => ?_, S'.len, S'.fr, S'.bo, fun j s d q r => ?_, S'.io, S'.inj, fun j ns q => ?_, fun j ds q => (noB2_get hn q).elim, S.qp⟩
  · rcases S'.fp b u q with g | g
    · exact Or.inl g
    · have g : (if b = dd then some (HO.xd [(fld, y)]) else C.P b) = none := g
      by_cases z : b = dd
      · rw [if_pos z] at g; cases g
      · rw [if_neg z] at g; exact Or.inr g
  · obtain ⟨g1, g2, g3, g4⟩ := S'.ow j s d q r
    have g3 : (if al' j = dd then some (HO.xd [(fld, y)]) else C.P (al' j)) = none := g3
    by_cases z : al' j = dd
    · rw [if_pos z] at g3; cases g3
    · rw [if_neg z] at g3; exact ⟨g1, g2, g3, g4⟩
  · obtain ⟨b, h1, h2⟩ := S'.sc j ns q
    exact ⟨b, h1, Or.inl (h2.resolve_right fun z => absurd z.1 (by have := hs j ns q; omega))⟩
end
end DL

set_option Elab.async false
set_option linter.all false
set_option maxRecDepth 100000
set_option maxHeartbeats 400000
/-! DLzzB: try with clauses, the errors having one plain field: the rule. -/
namespace DL
open PySem L2
abbrev ClF := List Nat × Option Nat × (Nat → D → Ms)
noncomputable def mClsF (δ : En) (tg : Nat) (d : D) : List ClF → Option Ou
  | [] => none
  | (ts, i, ms) :: r => if tg ∈ ts then (match ms tg d (clD i δ) with
    | none => none
    | some o => match ouSetO i o with
      | none => none
      | some o' => if shortB (ouE o') = true ∧ noB2 (ouE o') = true then some o' else none) else mClsF δ tg d r
section
variable {C : Cn} {al : Nat → Addr} {F H : Hp} {σ : St} {δ : En} {a dd : Addr} {fld : Str} {y : V}
theorem StOk.clF (S : StOk C al F H σ δ) (hs : Short δ) (i : Option Nat) (e : H dd = some (.xd [(fld, y)])) (hF : F dd = none) : StOk (CF C a dd fld y) al F H (clS i σ a) (DL.clD i δ) := by
  cases i with
  | none => exact S.inF hs e hF
  | some i => exact S.holdF hs i e hF
theorem endOk_clF {Z : Ends} {i : Option Nat} {o o' : Ou} (S : StOk C al F H σ δ) (e : H dd = some (.xd [(fld, y)])) (hZ : EndOk C F Z o') (h : ouSetO i o = some o') (hs : shortB (ouE o') = true) (hn : noB2 (ouE o') = true) : EndOk (CF C a dd fld y) F (clE i Z) o := by
  have hs := short_of hs
  have pn : ∀ p, (CF C a dd fld y).P p = none → C.P p = none := fun p g => by
    have g : (if p = dd then some (HO.xd [(fld, y)]) else C.P p) = none := g
    by_cases z : p = dd
    · rw [if_pos z] at g; cases g
    · rw [if_neg z] at g; exact g
  cases i with
  | none =>
    cases o with
    | ex _ _ => cases h
    | nx δ => cases h; exact fun al2 F2 H2 σ2 s2 S2 => hZ al2 F2 H2 _ s2 (S.outF e S2 hs hn)
    | bk δ => cases h; exact fun al2 F2 H2 σ2 s2 S2 => hZ al2 F2 H2 _ s2 (S.outF e S2 hs hn)
    | ct δ => cases h; exact fun al2 F2 H2 σ2 s2 S2 => hZ al2 F2 H2 _ s2 (S.outF e S2 hs hn)
    | rt d δ => cases h; exact fun al2 F2 H2 σ2 v s2 S2 rv => hZ al2 F2 H2 _ v s2 (S.outF e S2 hs hn) rv
    | rn d δ => cases h; exact fun al2 F2 H2 σ2 p s2 S2 n1 n2 ro => hZ al2 F2 H2 _ p s2 (S.outF e S2 hs hn) n1 (pn p n2) ro
  | some i =>
    cases o with
    | ex _ _ => cases h
    | nx δ => cases h; exact fun al2 F2 H2 σ2 s2 S2 => hZ al2 F2 H2 _ s2 (S.outF e (wiped1 S2 i) hs hn)
    | bk δ => cases h; exact fun al2 F2 H2 σ2 s2 S2 => hZ al2 F2 H2 _ s2 (S.outF e (wiped1 S2 i) hs hn)
    | ct δ => cases h; exact fun al2 F2 H2 σ2 s2 S2 => hZ al2 F2 H2 _ s2 (S.outF e (wiped1 S2 i) hs hn)
    | rt d δ => cases h; exact fun al2 F2 H2 σ2 v s2 S2 rv => hZ al2 F2 H2 _ v s2 (S.outF e (wiped0 S2 i) hs hn) rv
    | rn d δ => cases h; exact fun al2 F2 H2 σ2 p s2 S2 n1 n2 ro => hZ al2 F2 H2 _ p s2 (S.outF e (wiped0 S2 i) hs hn) n1 (pn p n2) ro
end
inductive XClF (X : Cx) (R : List Nat) (cx : Nat → Addr) (fld : Str) : List ExceptHandler → List ClF → Prop
  | nil : XClF X R cx fld [] []
  | cons {x : Str} {c : Value} {ts : List Nat} {b₀ : Stmt} {suite : List Stmt} {np pos' : Pos} {n : Option Str} {i : Option Nat} {ms : Nat → D → Ms} {hds : List ExceptHandler} {cl : List ClF} (hc : Names X x c)
      (hi : (n = none ∧ i = none) ∨ ∃ y j, n = some y ∧ i = some j ∧ X.N[j]? = some y ∧ X.env.kindOf y = some .local) (hx : ∀ tg ∈ R, PySem.W.exmOne X.K (.ref (cx tg)) c = some (decide (tg ∈ ts)))
      (hsu : ∀ tg ∈ R, tg ∈ ts → ∀ (d : D) (y : V), plV d = some y → ∀ (a dd : Addr) (oe : Obj) (pn : List (Addr × Obj)), Zc (.ref (cx tg)) (some dd) oe → (∃ vs, oe.data = .fields vs) → ∃ t, XB (X.suite a ((a, oe) :: pn)) (WF a dd fld y) (b₀ :: suite) t (ms tg d)) (r : XClF X R cx fld hds cl) :
      XClF X R cx fld (.ExceptHandler (some (.Name x np)) n (b₀ :: suite) pos' :: hds) ((ts, i, ms) :: cl)
theorem XClF.read {X : Cx} {R : List Nat} {cx : Nat → Addr} {fld : Str} {hds : List ExceptHandler} {cl : List ClF} (h : XClF X R cx fld hds cl) : ∃ l, Cls' X hds l ∧ ∀ (C : Cn), C.K = X.K → ∀ (al : Nat → Addr) (F H : Hp) (σ : St) (δ : En) (Z : Ends) (tg : Nat) (d : D) (y : V) (dd : Addr), StOk C al F H σ δ → Short δ → tg ∈ R → plV d = some y → H dd = some (.xd [(fld, y)]) → F dd = none →
    ∀ o, mClsF δ tg d cl = some o → EndOk C F Z o → wCl X.K W0 Z l (.ref (cx tg)) (some dd) σ H := by
  induction h with
  | nil => exact ⟨[], .nil, fun C hK al F H σ δ Z tg d y dd S hs hR hp e hF o ho => by cases ho⟩
  | @cons x c ts b₀ suite np pos' n i ms hds cl hc hi hx hsu r ih =>
    obtain ⟨l, hl, ih⟩ := ih
    refine ⟨(c, i, fun a cls d' Z σ H => ∃ (tg : Nat) (dd : Addr) (d : D) (y : V), cls = .ref (cx tg) ∧ d' = some dd ∧ tg ∈ R ∧ tg ∈ ts ∧ plV d = some y ∧ ∀ (h : tg ∈ R) (h2 : tg ∈ ts) (hp : plV d = some y) oe pn (hz : Zc (.ref (cx tg)) (some dd) oe) (hf : ∃ vs, oe.data = .fields vs), (hsu tg h h2 d y hp a dd oe pn hz hf).choose Z σ H) :: l, .cons hc hi (fun a oe cls d pn hz hf => ?_) hl, fun C hK al F H σ δ Z tg d y dd S hs hR hp e hF o ho hZ => ?_⟩
    · refine ⟨fun pins s σ H D I h => ?_⟩
      obtain ⟨tg, dd, d, y, rfl, rfl, hR, hT, hp, h⟩ := h
      exact (hsu tg hR hT d y hp a dd oe pn hz hf).choose_spec.p.run pins s σ H D I (h hR hT hp oe pn hz hf)
    · refine ⟨_, hx tg hR, fun hb a ha => ?_, fun hb => ?_⟩
      · have hT : tg ∈ ts := of_decide_eq_true hb
        refine ⟨tg, dd, d, y, rfl, rfl, hR, hT, hp, fun h h2 hp oe pn hz hf => ?_⟩
        unfold mClsF at ho
        rw [if_pos hT] at ho
        cases e2 : ms tg d (DL.clD i δ) with
        | none => rw [e2] at ho; cases ho
        | some o2 =>
          rw [e2] at ho
          refine (hsu tg h h2 d y hp a dd oe pn hz hf).choose_spec.v (CF C a dd fld y) hK rfl al F H _ _ (S.clF hs i e hF) o2 e2 _ ?_
          cases e3 : ouSetO i o2 with
          | none => simp only [e3] at ho; cases ho
          | some o3 =>
            simp only [e3] at ho
            obtain ⟨⟨h3, h5⟩, h4⟩ := if_some ho
            subst h4
            exact endOk_clF S e hZ e3 h3 h5
      · have hT : tg ∉ ts := of_decide_eq_false hb
        unfold mClsF at ho
        rw [if_neg hT] at ho
        exact ih C hK al F H σ δ Z tg d y dd S hs hR hp e hF o ho hZ
end DL

set_option Elab.async false
set_option linter.all false
set_option maxRecDepth 100000
set_option maxHeartbeats 400000
/-! DLzzC: what is known of a class of errors with a field, from decidable facts. -/
namespace DL
open PySem L2 PySem.W
end DL

set_option Elab.async false
set_option linter.all false
set_option maxRecDepth 100000
set_option maxHeartbeats 400000
/-! DLzzD: dicts whose keys are tuples, of any depth: how they stand in the heap; read, asked, written. -/
namespace DL
open PySem L2
/-! ### keys -/
mutual
theorem keyN_is {P : Program} {w : World} {K : Fg} {H : Hp} {h : Heap} (hok : HOk P w H h) (hk : K.In h) : ∀ {d : D} {v : V} {u : Value} {k : NestedKey}, Rep K H d v → RelV v u → keyN d = some k → NestedIs h k u
  | .non, v, u, k, r, e, q => by
    cases q
    rw [Rep.non_iff.mp r] at e
    cases (show u = Value.none from e)
    exact .none
  | .bl b, v, u, k, r, e, q => by simp only [keyN] at q; cases q
  | .int i, v, u, k, r, e, q => by
    cases q
    rw [Rep.int_iff.mp r] at e
    obtain ⟨t, rfl⟩ : ∃ t, u = Value.int i t := e
    exact .int i t
  | .str x, v, u, k, r, e, q => by
    cases q
    rw [Rep.str_iff.mp r] at e
    obtain ⟨t, rfl⟩ : ∃ t, u = Value.str x t := e
    exact .text x t
  | .tup ds, v, u, k, r, e, q => by
    simp only [keyN] at q
    cases q1 : keysN ds with
    | none => rw [q1] at q; cases q
    | some ks =>
      rw [q1] at q
      cases q
      obtain ⟨a, vs, rfl, g1, g2, g3⟩ := Rep.tup_iff.mp r
      cases (show u = Value.ref a from e)
      rcases g1 with ⟨o, _, g1⟩ | ⟨o, its, n, g1, _, gc, gd, _, gv⟩
      · obtain ⟨e1, e2⟩ := hok a _ g1
        obtain ⟨_, its, rv, o2, h1, h2, n, h3⟩ := (show ObjOk P w H h a (.tup vs) from e2)
        exact .tup h1 h2 h3 (by simpa using keysN_is hok hk g3 rv q1)
      · exact .tup (hk _ _ g1) gc gd (keysN_is hok hk g3 gv q1)
  | .lst ds, v, u, k, r, e, q => by simp only [keyN] at q; cases q
  | .ins C ns ds, v, u, k, r, e, q => by simp only [keyN] at q; cases q
  | .dk ks ds, v, u, k, r, e, q => by simp only [keyN] at q; cases q
  | .dn hs ks ds, v, u, k, r, e, q => by simp only [keyN] at q; cases q
theorem keysN_is {P : Program} {w : World} {K : Fg} {H : Hp} {h : Heap} (hok : HOk P w H h) (hk : K.In h) : ∀ {ds : List D} {vs : List V} {us : List Value} {ks : List NestedKey}, Reps K H ds vs → Vals vs us → keysN ds = some ks → NestedAll h ks us
  | [], vs, us, ks, r, e, q => by
    cases q
    rw [r.inv0] at e
    cases e
    exact .nil
  | d :: ds, vs, us, ks, r, e, q => by
    obtain ⟨v, ws, rfl, r1, r2⟩ := r.inv
    simp only [keysN] at q
    cases q1 : keyN d with
    | none => rw [q1] at q; cases q
    | some k =>
      cases q2 : keysN ds with
      | none => rw [q1, q2] at q; cases q
      | some ks' =>
        rw [q1, q2] at q
        cases q
        cases e with
        | cons e1 e2 => exact .cons (keyN_is hok hk r1 e1 q1) (keysN_is hok hk r2 e2 q2)
end
/-- the tuple at b is the key k, in whatever heap -/
def NKey (K : Fg) (H : Hp) (k : NestedKey) (b : Addr) : Prop := k.depth ≤ 8 ∧ ∀ (P : Program) (w : World) (h : Heap), HOk P w H h → K.In h → NestedIs h k (.ref b)
def NKeys (K : Fg) (H : Hp) (nks : List NestedKey) (bs : List Addr) : Prop := Paired (NKey K H) nks bs
/-- what stands at a key -/
def lookL {α : Type} : List NestedKey → List α → NestedKey → Option α
  | k :: ks, d :: ds, q => if k = q then some d else lookL ks ds q
  | _, _, _ => none
def rows3 : List NestedKey → List Addr → List Value → List (NestedKey × Addr × Value)
  | k :: ks, b :: bs, x :: xs => (k, b, x) :: rows3 ks bs xs
  | _, _, _ => []
theorem rows3_ents {w : World} {P : Program} : ∀ {ks : List NestedKey} {bs : List Addr} {xs : List Value}, ents (ks.map fun k => k.hash w) bs xs = (rows3 ks bs xs).map (entryOfKey (nestedKind P w))
  | [], bs, xs => by simp [ents, rows3]
  | k :: ks, [], xs => by simp [ents, rows3]
  | k :: ks, b :: bs, [] => by simp [ents, rows3]
  | k :: ks, b :: bs, x :: xs => by
    simp only [List.map_cons, ents, rows3]
    rw [rows3_ents (P := P)]
    rfl
theorem rows3_keys : ∀ {ks : List NestedKey} {bs : List Addr} {xs : List Value}, bs.length = ks.length → xs.length = ks.length → (rows3 ks bs xs).map (·.1) = ks
  | [], bs, xs, _, _ => by simp [rows3]
  | k :: ks, [], xs, h, _ => by simp at h
  | k :: ks, b :: bs, [], _, h => by simp at h
  | k :: ks, b :: bs, x :: xs, h1, h2 => by simp only [rows3, List.map_cons, rows3_keys (ks := ks) (bs := bs) (xs := xs) (by simpa using h1) (by simpa using h2)]
theorem rows3_is {K : Fg} {H : Hp} {P : Program} {w : World} {h : Heap} (hok : HOk P w H h) (hk : K.In h) : ∀ {ks : List NestedKey} {bs : List Addr} {xs : List Value}, NKeys K H ks bs → ∀ x ∈ rows3 ks bs xs, (nestedKind P w).is h x.1 x.2.1
  | [], bs, xs, n, x, hx => by simp [rows3] at hx
  | k :: ks, b :: bs, [], n, x, hx => by simp [rows3] at hx
  | k :: ks, b :: bs, y :: xs, .cons n t, x, hx => by
    simp only [rows3, List.mem_cons] at hx
    rcases hx with rfl | hx
    · exact ⟨n.2 P w h hok hk, n.1⟩
    · exact rows3_is hok hk t x hx
/-- a dict of tuple keys at a -/
structure NDict (K : Fg) (w : World) (H : Hp) (a : Addr) (o : Obj) (nks : List NestedKey) (bs : List Addr) (vs : List V) : Prop where
  at_ : H a = some (dnO a o (nks.map fun k => k.hash w) bs vs)
  keys : NKeys K H nks bs
  nd : nks.Nodup
  len : vs.length = nks.length
  hi : vs.length ≤ LB
theorem NDict.dict {K : Fg} {w : World} {H : Hp} {a : Addr} {o : Obj} {nks : List NestedKey} {bs : List Addr} {vs : List V} (n : NDict K w H a o nks bs vs) {P : Program} {h : Heap} (hok : HOk P w H h) (hk : K.In h) :
    (a == sysModules) = false ∧ ∃ xs, Vals vs xs ∧ h.DictOfH (nestedKind P w) a (rows3 nks bs xs) := by
  obtain ⟨⟨h2, h1, h3, es, ep, xs, h4, h5, h6⟩, _⟩ := (show ObjOk P w H h a (dnO a o (nks.map fun k => k.hash w) bs vs) from hok a _ n.at_)
  refine ⟨h1, xs, h5, o, es, ep, h2, h3, h4, ?_, rows3_is hok hk n.keys, ?_⟩
  · rw [h6]; exact rows3_ents
  · rw [rows3_keys (Paired.length n.keys).symm (by rw [← Vals.length h5]; exact n.len)]
    exact n.nd
def NGet (K : Fg) (w : World) (H : Hp) (a : Addr) (y : V) (r : Option V) : Prop := ∃ o nks bs vs k b, NDict K w H a o nks bs vs ∧ y = .ref b ∧ NKey K H k b ∧ r = lookL nks vs k
theorem NGet.typ {K : Fg} {w : World} {H : Hp} {a : Addr} {o : Obj} {nks : List NestedKey} {bs : List Addr} {vs : List V} (n : NDict K w H a o nks bs vs) {P : Program} {s : Shared} (hok : HOk P w H s.heap) (hk : K.In s.heap) : s.TypeIs (.ref a) "dict" ∧ (∀ b, Value.ref a = .ref b → ∃ ob, s.heap.get? b = some ob ∧ ob.dict = none) ∧ (a == sysModules) = false := by
  obtain ⟨h1, xs, h2, h3⟩ := n.dict hok hk
  refine ⟨h3.typeIs, fun b q => ?_, h1⟩
  cases q
  obtain ⟨ob, _, _, e1, e2, _⟩ := h3
  exact ⟨ob, e1, e2.2.1⟩
section
variable {X : Cx} {pins : List (Addr × Obj)} {σ : St} {H : Hp} {s : Shared} {a : Addr} {y d : V} {u r : Value} {o : Option V} {A : Around} {E : Value → Shared → Prop}
end
end DL

set_option Elab.async false
set_option linter.all false
set_option maxRecDepth 100000
set_option maxHeartbeats 400000
/-! DLzzE: dicts whose keys are tuples: made of a list of pairs, at the heap's level. -/
namespace DL
open PySem L2 PySem.Spec PyProof.Rows
abbrev NRow := NestedKey × Addr × Value
section
variable {prog : Program} {w : World} {A : Around} {E : Value → Shared → Prop}
def NIs (h : Heap) (k : NestedKey) (a : Addr) : Prop := NestedIs h k (.ref a) ∧ k.depth ≤ 8
theorem NIs.at {h h' : Heap} {k : NestedKey} {a : Addr} (x : NIs h k a) (hk : ∀ b o vs n, h.get? b = some o → o.data = .seq vs n → h'.get? b = some o) : NIs h' k a := ⟨NestedIs.at hk k _ x.1, x.2⟩
end
end DL

set_option Elab.async false
set_option linter.all false
set_option maxRecDepth 100000
set_option maxHeartbeats 400000
/-! DLzzF: dicts whose keys are tuples: read and asked. -/
namespace DL
open PySem L2
/-! ### d[k] -/
theorem NGet.hd {K : Fg} {w : World} {H : Hp} {a : Addr} {y : V} {r : Option V} (g : NGet K w H a y r) {P : Program} {s : Shared} (hok : HOk P w H s.heap) (hk : K.In s.heap) : s.TypeIs (.ref a) "dict" ∧ (∀ b, Value.ref a = .ref b → ∃ ob, s.heap.get? b = some ob ∧ ob.dict = none) := by
  obtain ⟨o, nks, bs, vs, k, b, n, _⟩ := g
  exact ⟨(NGet.typ n hok hk).1, (NGet.typ n hok hk).2.1⟩
section
variable {X : Cx} {W : WX} {a b : Expr} {ta tb : TE} {oa ob : M Op} {pos : Pos}
/-! ### k in d -/
end
/-! ### d.get(k), d.get(k, x) -/
section
variable {X : Cx} {o e f : Expr} {apos cpos : Pos} {td ty tx : TE}
end
section
variable {K : Fg} {W : WX} {w : World} {ta tb tc : TE} {oa ob : M Op} {mc : M D}
end
section
variable {X : Cx} {W : WX} {o e f : Expr} {apos cpos : Pos} {ta tb tc : TE} {oa ob : M Op} {mc : M D}
end
end DL

set_option Elab.async false
set_option linter.all false
set_option maxRecDepth 100000
set_option maxHeartbeats 400000
/-! DLzzG: dicts whose keys are tuples: made, written, made of a list of pairs. -/
namespace DL
open PySem L2
abbrev hsW (w : World) (nks : List NestedKey) : List Int := nks.map fun k => k.hash w
/-! ### {} -/
theorem newN {C : Cn} {al : Nat → Addr} {F H : Hp} {σ : St} {δ : En} {p : Addr} {o : HO} (S : StOk C al F H σ δ) (hp : H p = none) :
    StOk C al F (upd H p o) σ δ ∧ F p = none ∧ C.P p = none ∧ (∀ (j : Nat) s e, δ[j]? = some s → Sl.own s = some e → al j ≠ p) := by
  refine ⟨S.new (New.put S.fh hp), S.fh.free hp, S.ph.free hp, fun j s e q r z => ?_⟩
  obtain ⟨_, _, _, h4⟩ := S.ow j s e q r
  obtain ⟨u, hu⟩ := h4.there
  rw [z, hp] at hu
  cases hu
/-! ### d[k] = v -/
section
variable {X : Cx} {W : WX} {o e : Expr} {te : TE} {me : M D} {pos p2 : Pos}
end
end DL

set_option Elab.async false
set_option linter.all false
set_option maxRecDepth 100000
set_option maxHeartbeats 400000
/-! DLzzH: dicts whose keys are tuples: walked by items; dict(list of pairs). -/
namespace DL
open PySem L2 PySem.Spec PyProof.Rows PySem.Calls
/-! ### for k, v in d.items() -/
section
variable {P : Program} {w : World} {K : PySem.W.Frag} {d : Addr} {o : Obj} {es : Array DictEntry} {ep : Nat} {hs : List Int} {bs : List Addr} {vs : List V} {elts : List Expr} {kk : Nat} {tpos : Pos}
end
end DL

set_option Elab.async false
set_option linter.all false
set_option maxRecDepth 100000
set_option maxHeartbeats 400000
/-! DLzzJ: dict(list of pairs), the keys being tuples. -/
namespace DL
open PySem L2
section
variable {X : Cx}
end
/-! the same of data -/
end DL

set_option Elab.async false
set_option linter.all false
set_option maxRecDepth 100000
set_option maxHeartbeats 400000
/-! DLzzK: a dict of lists filled by setdefault and append, in a loop over rows of four. -/
namespace DL
open PySem L2
/-! ### the rule of d.setdefault(k, x) -/
section
variable {X : Cx} {o e f : Expr} {apos cpos : Pos} {td ty tx : TE}
end
/-! ### the dict of lists -/
abbrev BSt := List NestedKey × List D × List (List D)
def setA (d : D) (k : NestedKey) : List NestedKey → List (List D) → List (List D)
  | n :: ns, l :: ls => if n = k then (l ++ [d]) :: ls else l :: setA d k ns ls
  | _, ls => ls
structure Rg (K : Fg) (w : World) (C : Cn) (al : Nat → Addr) (F H : Hp) (δ : En) (a : Addr) (st : BSt) (m : Nat) : Prop where
  ex : ∃ o bs as, H a = some (dnO a o (hsW w st.1) bs (as.map V.ref)) ∧ Reps K F st.2.1 (bs.map V.ref) ∧ as.Nodup ∧
    Paired (fun b (l : List D) => (∃ vs, H b = some (.lst vs) ∧ Reps K F l vs) ∧ l.length ≤ m ∧ Free C al F δ b) as st.2.2
  fa : Free C al F δ a
  hk : keysT st.2.1 = some st.1
  nd : st.1.Nodup
  ln : st.2.2.length = st.1.length
  sz : st.1.length ≤ m
section
variable {K : Fg} {w : World} {C : Cn} {al : Nat → Addr} {F H F' H' : Hp} {σ : St} {δ : En} {a : Addr} {st : BSt} {m : Nat}
theorem Free.new (h : Free C al F δ a) (n : New F H F' H') {o : HO} (ho : H a = some o) : Free C al F' δ a := by
  refine ⟨?_, h.2⟩
  cases q : F' a with
  | none => rfl
  | some u =>
    rcases n.nw a u q with z | z
    · rw [h.1] at z; cases z
    · rw [ho] at z; cases z
theorem Rg.new (r : Rg K w C al F H δ a st m) (n : New F H F' H') : Rg K w C al F' H' δ a st m := by
  obtain ⟨o, bs, as, h1, h2, h3, h4⟩ := r.ex
  refine ⟨⟨o, bs, as, n.hh _ _ h1, h2.mono n.ff, h3, Paired.mapP h4 fun b l ⟨⟨vs, g1, g2⟩, g3, g4⟩ => ⟨⟨vs, n.hh _ _ g1, g2.mono n.ff⟩, g3, g4.new n g1⟩⟩, r.fa.new n h1, r.hk, r.nd, r.ln, r.sz⟩
theorem Rg.up (r : Rg K w C al F H δ a st m) {m' : Nat} (h : m ≤ m') : Rg K w C al F H δ a st m' := by
  obtain ⟨o, bs, as, h1, h2, h3, h4⟩ := r.ex
  exact ⟨⟨o, bs, as, h1, h2, h3, Paired.mapP h4 fun b l ⟨g1, g2, g3⟩ => ⟨g1, Nat.le_trans g2 h, g3⟩⟩, r.fa, r.hk, r.nd, r.ln, Nat.le_trans r.sz h⟩
/-- the list at b has one item more -/
theorem Rg.app (S : StOk C al F H σ δ) (r : Rg C.K w C al F H δ a st m) {k : NestedKey} (hk : k ∈ st.1) {d : D} {y : V} (hd : Rep C.K F d y) {as : List Addr} {o : Obj} {bs : List Addr} (h1 : H a = some (dnO a o (hsW w st.1) bs (as.map V.ref))) (h2 : Reps C.K F st.2.1 (bs.map V.ref)) (h3 : as.Nodup)
    (h4 : Paired (fun b (l : List D) => (∃ vs, H b = some (.lst vs) ∧ Reps C.K F l vs) ∧ l.length ≤ m ∧ Free C al F δ b) as st.2.2) {b : Addr} {vs : List V} (hb : lookL st.1 as k = some b) (hv : H b = some (.lst vs)) :
    StOk C al F (upd H b (.lst (vs ++ [y]))) σ δ ∧ Rg C.K w C al F (upd H b (.lst (vs ++ [y]))) δ a (st.1, st.2.1, setA d k st.1 st.2.2) (m + 1) := by
  have key : ∀ {nks : List NestedKey} {as : List Addr} {ls : List (List D)}, Paired (fun b (l : List D) => (∃ vs, H b = some (.lst vs) ∧ Reps C.K F l vs) ∧ l.length ≤ m ∧ Free C al F δ b) as ls → as.Nodup → lookL nks as k = some b →
      Free C al F δ b ∧ Paired (fun b' (l : List D) => (∃ ws, upd H b (.lst (vs ++ [y])) b' = some (.lst ws) ∧ Reps C.K F l ws) ∧ l.length ≤ m + 1 ∧ Free C al F δ b') as (setA d k nks ls) := by
    intro nks
    induction nks with
    | nil => intro as ls _ _ h; simp [lookL] at h
    | cons n ns ih =>
      intro as ls hp hn h
      cases hp with
      | nil => simp [lookL] at h
      | @cons a' l' as' ls' r' t =>
        obtain ⟨⟨us, g1, g2⟩, g3, g4⟩ := r'
        have keep : ∀ {as : List Addr} {ls : List (List D)}, b ∉ as → Paired (fun b (l : List D) => (∃ vs, H b = some (.lst vs) ∧ Reps C.K F l vs) ∧ l.length ≤ m ∧ Free C al F δ b) as ls → Paired (fun b' (l : List D) => (∃ ws, upd H b (.lst (vs ++ [y])) b' = some (.lst ws) ∧ Reps C.K F l ws) ∧ l.length ≤ m + 1 ∧ Free C al F δ b') as ls := by
          intro as ls hn hp
          induction hp with
          | nil => exact .nil
          | cons r t ih =>
            rw [List.mem_cons, not_or] at hn
            obtain ⟨⟨ws, f1, f2⟩, f3, f4⟩ := r
            exact .cons ⟨⟨ws, by rw [upd_ne (Ne.symm hn.1)]; exact f1, f2⟩, Nat.le_succ_of_le f3, f4⟩ (ih hn.2)
        rw [List.nodup_cons] at hn
        by_cases e : n = k
        · simp only [lookL, e, if_true] at h
          cases h
          rw [hv] at g1
          cases g1
          refine ⟨g4, ?_⟩
          simp only [setA, e, if_true]
          refine .cons ⟨⟨vs ++ [y], upd_same, g2.app (reps_cons hd reps_nil)⟩, ?_, g4⟩ (keep hn.1 t)
          rw [List.length_append]; simp; exact g3
        · simp only [lookL, e, if_false] at h
          obtain ⟨f1, f2⟩ := ih t hn.2 h
          refine ⟨f1, ?_⟩
          simp only [setA, e, if_false]
          have ne : a' ≠ b := fun z => by
            subst z
            have : ∀ {nks : List NestedKey} {as : List Addr}, lookL nks as k = some a' → a' ∈ as := by
              intro nks
              induction nks with
              | nil => intro as h; simp [lookL] at h
              | cons n ns ih =>
                intro as h
                cases as with
                | nil => simp [lookL] at h
                | cons x xs =>
                  by_cases e : n = k
                  · simp only [lookL, e, if_true] at h; cases h; exact List.mem_cons_self
                  · simp only [lookL, e, if_false] at h; exact List.mem_cons_of_mem _ (ih h)
            exact hn.1 (this h)
          exact .cons ⟨⟨us, by rw [upd_ne ne]; exact g1, g2⟩, Nat.le_succ_of_le g3, g4⟩ f2
  obtain ⟨fb, hp⟩ := key h4 h3 hb
  have ne : a ≠ b := fun z => by
    subst z
    rw [h1] at hv
    have z2 : HO.ext _ = HO.lst vs := Option.some.inj hv
    cases z2
  have la : ∀ {nks : List NestedKey} {ls : List (List D)}, (setA d k nks ls).length = ls.length := by
    intro nks
    induction nks with
    | nil => intro ls; simp [setA]
    | cons n ns ih =>
      intro ls
      cases ls with
      | nil => simp [setA]
      | cons l ls =>
        by_cases e : n = k
        · simp [setA, e]
        · simp [setA, e, ih]
  exact ⟨S.poke fb.1 fb.2.1 fb.2.2, ⟨o, bs, as, by rw [upd_ne ne]; exact h1, h2, h3, hp⟩, r.fa, r.hk, r.nd, (la).trans r.ln, Nat.le_succ_of_le r.sz⟩
end
end DL

set_option Elab.async false
set_option linter.all false
set_option maxRecDepth 100000
set_option maxHeartbeats 400000
/-! DLzzL: a dict of lists filled in a loop: the step, the loop. -/
namespace DL
open PySem L2
section
variable {w : World} {C : Cn} {al : Nat → Addr} {F H F' H' : Hp} {σ : St} {δ : En} {a : Addr} {st : BSt} {m : Nat}
end
end DL

set_option Elab.async false
set_option linter.all false
set_option maxRecDepth 100000
set_option maxHeartbeats 400000
/-! DLzzM: a dict of lists filled in a loop: the loop. -/
namespace DL
open PySem L2
/-! ### slots -/
def noOwn (δ : En) : Bool := δ.all fun s => (s.own).isNone
theorem noOwn_ok {δ : En} (h : noOwn δ = true) {j : Nat} {s : Sl} {e : D} (hj : δ[j]? = some s) (hs : s.own = some e) : False := by
  have := List.all_eq_true.mp h s (List.mem_of_getElem? hj)
  rw [hs] at this
  cases this
section
variable {w : World} {K : Fg} {C : Cn} {al al' : Nat → Addr} {F H F' H' : Hp} {σ : St} {δ δ' : En} {a : Addr} {st : BSt} {m : Nat}
theorem Free.slots (h : Free C al F δ a) (hF : F' a = none) (no : noOwn δ' = true) : Free C al' F' δ' a := ⟨hF, h.2.1, fun j s e q r => (noOwn_ok no q r).elim⟩
theorem Rg.slots (r : Rg K w C al F H δ a st m) (no : noOwn δ' = true) : Rg K w C al' F H δ' a st m := by
  obtain ⟨o, bs, as, h1, h2, h3, h4⟩ := r.ex
  exact ⟨⟨o, bs, as, h1, h2, h3, Paired.mapP h4 fun b l ⟨g1, g2, g3⟩ => ⟨g1, g2, g3.slots g3.1 no⟩⟩, r.fa.slots r.fa.1 no, r.hk, r.nd, r.ln, r.sz⟩
/-- the region in a heap in which it is the same -/
theorem Rg.kept (r : Rg K w C al F H δ a st m) : ∃ as : List Addr, (∀ b ∈ a :: as, Free C al F δ b ∧ ∃ o, H b = some o) ∧ ∀ (al' : Nat → Addr) (F' H' : Hp) (δ' : En), Same F F' → noOwn δ' = true → (∀ b ∈ a :: as, F' b = none ∧ H' b = H b) → Rg K w C al' F' H' δ' a st m := by
  obtain ⟨o, bs, as, h1, h2, h3, h4⟩ := r.ex
  have mem : ∀ {as : List Addr} {ls : List (List D)}, Paired (fun b (l : List D) => (∃ vs, H b = some (.lst vs) ∧ Reps K F l vs) ∧ l.length ≤ m ∧ Free C al F δ b) as ls → ∀ b ∈ as, Free C al F δ b ∧ ∃ o, H b = some o := by
    intro as ls hp
    induction hp with
    | nil => intro b h; cases h
    | cons r t ih =>
      intro b h
      rcases List.mem_cons.mp h with rfl | h
      · obtain ⟨⟨vs, g1, _⟩, _, g3⟩ := r
        exact ⟨g3, _, g1⟩
      · exact ih b h
  refine ⟨as, fun b hb => ?_, fun al' F' H' δ' e no hk => ?_⟩
  · rcases List.mem_cons.mp hb with rfl | hb
    · exact ⟨r.fa, _, h1⟩
    · exact mem h4 b hb
  · have cv : ∀ {as : List Addr} {ls : List (List D)}, (∀ b ∈ as, F' b = none ∧ H' b = H b) → Paired (fun b (l : List D) => (∃ vs, H b = some (.lst vs) ∧ Reps K F l vs) ∧ l.length ≤ m ∧ Free C al F δ b) as ls → Paired (fun b (l : List D) => (∃ vs, H' b = some (.lst vs) ∧ Reps K F' l vs) ∧ l.length ≤ m ∧ Free C al' F' δ' b) as ls := by
      intro as ls hz hp
      induction hp with
      | nil => exact .nil
      | cons r t ih =>
        obtain ⟨⟨vs, g1, g2⟩, g3, g4⟩ := r
        obtain ⟨z1, z2⟩ := hz _ List.mem_cons_self
        exact .cons ⟨⟨vs, by rw [z2]; exact g1, g2.mono e⟩, g3, g4.slots z1 no⟩ (ih fun b hb => hz b (List.mem_cons_of_mem _ hb))
    obtain ⟨z1, z2⟩ := hk a List.mem_cons_self
    exact ⟨⟨o, bs, as, by rw [z2]; exact h1, h2.mono e, h3, cv (fun b hb => hk b (List.mem_cons_of_mem _ hb)) h4⟩, r.fa.slots z1 no, r.hk, r.nd, r.ln, r.sz⟩
end
/-! ### the loop -/
def bKey (a b : Int) : NestedKey := .tup [.num a, .num b]
end DL

set_option Elab.async false
set_option linter.all false
set_option maxRecDepth 100000
set_option maxHeartbeats 400000
/-! DLzzO: a dict of lists filled in a loop: the rule. -/
namespace DL
open PySem L2
end DL

set_option Elab.async false
set_option linter.all false
set_option maxRecDepth 100000
set_option maxHeartbeats 400000
/-! DLzzP: the rule of a dict of lists filled in a loop, over the text. -/
namespace DL
open PySem L2
section
variable {X : Cx} {W : WX} {o ea1 ea2 eb1 eb2 : Expr} {k1 k2 : Nat} {pos1 pos2 pos3 ap1 ap2 cp1 cp2 : Pos}
end
section
variable {X : Cx} {W : WX} {tg e : Expr} {pos : Pos}
end
section
variable {X : Cx}
end
end DL

set_option Elab.async false
set_option linter.all false
set_option maxRecDepth 100000
set_option maxHeartbeats 400000
/-! DLzzQ: sorted, of a list that may hold the empty tuple alone. -/
namespace DL
open PySem L2
open PySem.W (EachIs AllAlike Sortable dataLe alike SortsAt)
open PyProof.Rows (seqObj)
theorem sorts_unit {prog : Program} {w : World} {A : Around} {s : Shared} {vs : List Value} (e : EachIs (fun v d => ∃ as, Reads s.heap v d as) vs [PyData.tuple []]) (hu : A.units + 1 < cLine) : SortsAt prog w A s (PySem.W.dataKind s.heap [PyData.tuple []]) vs := by
  have hal : AllAlike [PyData.tuple []] := by
    intro x hx y hy
    rw [List.mem_singleton.mp hx, List.mem_singleton.mp hy]
    rfl
  refine ⟨fun v hv => ?_, ⟨PyProof.Rows.tuples' true, ?_, fun h2 => ?_⟩⟩
  · obtain ⟨d, hd, as, r⟩ := e.left v hv
    exact ⟨_, PySem.W.dataKind_some hal hd r⟩
  · intro E x y a b Q ha hb hq
    obtain ⟨d, as, hd, ra, rfl⟩ := PySem.W.dataKind_inv ha
    obtain ⟨d', as', hd', rb, rfl⟩ := PySem.W.dataKind_inv hb
    rw [List.mem_singleton.mp hd] at ra hq
    rw [List.mem_singleton.mp hd'] at rb hq
    have hq' : Q (PySem.W.dataLt (.tuple []) (.tuple [])) s := hq
    rw [PySem.W.dataLt_tuple] at hq'
    cases ra with
    | @tuple l o xs n _ _ h1 h2 h3 h4 =>
      cases rb with
      | @tuple l' o' xs' n' _ _ k1 k2 k3 k4 =>
        have n1 : xs.size = 0 := by simpa using SeqAt.ReadsAll.length _ _ _ h4
        have n2 : xs'.size = 0 := by simpa using SeqAt.ReadsAll.length _ _ _ k4
        refine PySem.W.kat_lt h1 h3 k1 k3 (PySem.W.katLex_alike (A := A) [] [] 0 _ _ _ _ h4 k4 rfl (by simp [PyData.depthAll]; omega) (fun hb _ x r t ex => nomatch ex) (by rw [n1, n2]; rfl) hq')
  · have := e.length
    rw [this] at h2
    simp at h2
/-- a list that can be sorted, or that holds the empty tuple alone -/
def SortOk1 (ds : List D) : Prop := SortOk ds ∨ ds = [.tup []]
theorem SortOk1.len {ds : List D} (h : SortOk1 ds) : ds.length ≤ LB := by
  rcases h with h | rfl
  · exact h.len
  · unfold LB; simp
theorem SortOk1.py {ds : List D} (h : SortOk1 ds) : ∀ d ∈ ds, toPy d = some (encD d) := by
  rcases h with h | rfl
  · exact h.py
  · intro d hd; rw [List.mem_singleton.mp hd]; rfl
theorem SortOk1.dep {ds : List D} (h : SortOk1 ds) : ∀ d ∈ ds, (encD d).depth ≤ 60 := by
  rcases h with h | rfl
  · exact h.dep
  · intro d hd
    rw [List.mem_singleton.mp hd]
    show (PyData.tuple []).depth ≤ 60
    simp [PyData.depth, PyData.depthAll]
theorem SortOk1.alike {ds : List D} (h : SortOk1 ds) : AllAlike (ds.map encD) := by
  rcases h with h | rfl
  · exact h.alike
  · intro x hx y hy
    rw [List.mem_singleton.mp (show x ∈ [encD (.tup [])] from hx), List.mem_singleton.mp (show y ∈ [encD (.tup [])] from hy)]
    rfl
theorem SortOk1.sorts {prog : Program} {w : World} {A : Around} {s : Shared} {ds : List D} (h : SortOk1 ds) {vs : List Value} (e : EachIs (fun v d => ∃ as, Reads s.heap v d as) vs (ds.map encD)) (hu : A.units + 61 < cLine) : SortsAt prog w A s (PySem.W.dataKind s.heap (ds.map encD)) vs := by
  rcases h with h | rfl
  · refine SortsAt.data e h.alike h.sortable fun d hd => ?_
    obtain ⟨x, hx, rfl⟩ := List.mem_map.mp hd
    have := h.dep x hx
    omega
  · exact sorts_unit e (by omega)
section
variable {X : Cx} {pins : List (Addr × Obj)} {σ : St} {F H : Hp} {s : Shared}
end
section
variable {X : Cx} {W : WX} {a : Expr} {ta : TE} {oa : M Op} {p2 pos : Pos}
end
end DL

set_option Elab.async false
set_option linter.all false
set_option maxRecDepth 100000
set_option maxHeartbeats 400000
/-! DLzzR: ints shifted to the left. -/
namespace DL
open PySem L2
/-! ### x is not None -/
end DL

set_option Elab.async false
set_option linter.all false
set_option maxRecDepth 100000
set_option maxHeartbeats 400000
/-! DLzzW: an own dict with keys whole numbers or texts: d = {}, d[k] = v. -/
namespace DL
open PySem L2
def putL {α : Type} (ks : List Key) (xs : List α) (k : Key) (x : α) : List Key × List α :=
  if inK k ks = true then (ks, List.zipWith (fun q y => if q = k then x else y) ks xs) else (ks ++ [k], xs ++ [x])
theorem any_zip (k : Key) : ∀ (ks : List Key) (vs : List V), ks.length = vs.length → (ks.zip vs).any (fun kv => decide (kv.1 = k)) = inK k ks
  | [], [], _ => rfl
  | q :: ks, v :: vs, h => by
    have ih := any_zip k ks vs (by simpa using h)
    rw [List.zip_cons_cons, List.any_cons, ih]
    rfl
  | [], _ :: _, h => by cases h
  | _ :: _, [], h => by cases h
theorem map_zip (k : Key) (v : V) : ∀ (ks : List Key) (vs : List V), (ks.zip vs).map (fun kv => if kv.1 = k then (kv.1, v) else kv) = ks.zip (List.zipWith (fun q y => if q = k then v else y) ks vs)
  | [], vs => by simp
  | q :: ks, [] => by simp
  | q :: ks, u :: vs => by
    rw [List.zip_cons_cons, List.map_cons, map_zip k v ks vs, List.zipWith_cons_cons, List.zip_cons_cons]
    by_cases e : q = k
    · simp [e]
    · simp [e]
theorem putK_zip {ks : List Key} {vs : List V} (k : Key) (v : V) (h : ks.length = vs.length) : putK (ks.zip vs) k v = (putL ks vs k v).1.zip (putL ks vs k v).2 := by
  unfold putK putL
  rw [any_zip k ks vs h]
  by_cases e : inK k ks = true
  · rw [if_pos e, if_pos e, map_zip]
  · rw [if_neg e, if_neg e, List.zip_append h]
    rfl
theorem putL_len {α : Type} {ks : List Key} {xs : List α} {k : Key} {x : α} (h : ks.length = xs.length) : (putL ks xs k x).1.length = (putL ks xs k x).2.length ∧ (putL ks xs k x).2.length ≤ xs.length + 1 := by
  unfold putL
  by_cases e : inK k ks = true
  · rw [if_pos e]
    simp only [List.length_zipWith]
    omega
  · rw [if_neg e]
    simp only [List.length_append, List.length_cons, List.length_nil]
    omega
theorem putL_reps {K : Fg} {F : Hp} {k : Key} {d : D} {v : V} (hv : Rep K F d v) {ks : List Key} {ds : List D} {vs : List V} (h : Reps K F ds vs) (hl : ks.length = ds.length) : Reps K F (putL ks ds k d).2 (putL ks vs k v).2 := by
  unfold putL
  by_cases e : inK k ks = true
  · rw [if_pos e, if_pos e]
    clear e
    induction ks generalizing ds vs with
    | nil => simp only [List.zipWith_nil_left]; exact reps_nil
    | cons q ks ih =>
      cases ds with
      | nil => cases hl
      | cons y ds =>
        obtain ⟨u, us, rfl, h1, h2⟩ := Reps.inv h
        simp only [List.zipWith_cons_cons]
        refine reps_cons ?_ (ih h2 (by simpa using hl))
        by_cases z : q = k
        · simp only [z, if_true]; exact hv
        · simp only [z, if_false]; exact h1
  · rw [if_neg e, if_neg e]
    exact h.app (reps_cons hv reps_nil)
def mDk0 : M D := M.ret (.dk [] [])
theorem en_dk0 {K : Fg} {W : WX} : En1 K W tDNewK mDk0 := by
  intro C hK hW al F H σ δ S _ r hr Q hok hex p hp
  cases hr
  obtain ⟨g1, g2, g3, g4⟩ := newN (o := HO.dK []) S hp
  exact hok _ δ rfl al F _ p (Same.refl _) g1 g2 g3 g4 ⟨[], upd_same, rfl, Nat.zero_le _, reps_nil⟩
theorem n_dk0 {X : Cx} {W : WX} {pos : Pos} : XN X W (.Dict [] [] pos) tDNewK mDk0 := ⟨pe_dnewK, en_dk0⟩
def rPutK : TSet := fun x y v H Q => ∃ a H', x = .ref a ∧ DPut H a y v H' ∧ Q H'
theorem set_K {X : Cx} (hu : X.A.units + 65 < cLine) : PSet X rPutK := by
  intro pins s σ H x y v ov iv u Q I rx ry rv h
  obtain ⟨a, H', rfl, g, q⟩ := h
  cases (show ov = Value.ref a from rx)
  exact d_setItem (by omega) I g ry rv fun s' I' => ⟨H', I', q⟩
def ownDk (δ : En) (i : Nat) : Option (Sl × List Key × List D) := match δ[i]? with
  | some s => match s.own with
    | some (.dk ks ds) => some (s, ks, ds)
    | _ => none
  | none => none
theorem ownDk_some {δ : En} {i : Nat} {s : Sl} {ks : List Key} {ds : List D} (h : ownDk δ i = some (s, ks, ds)) : δ[i]? = some s ∧ s.own = some (.dk ks ds) := by
  unfold ownDk at h
  cases e : δ[i]? with
  | none => simp only [e] at h; cases h
  | some t =>
    simp only [e] at h
    cases e2 : t.own with
    | none => simp only [e2] at h; cases h
    | some d =>
      simp only [e2] at h
      cases d with
      | dk ks ds => cases h; exact ⟨rfl, e2⟩
      | _ => cases h
def putKO (ks : List Key) (ds : List D) (e d : D) : Option D := match keyD e with
  | some k => if ds.length < LB then some (.dk (putL ks ds k d).1 (putL ks ds k d).2) else none
  | none => none
def mPutK (i : Nat) (mi me : M D) : Ms := mS me fun d => fun δ0 => match ownDk δ0 i with
  | some _ => mS mi (fun e => fun δ => match ownDk δ i with
    | some (s, ks, ds) => match putKO ks ds e d with
      | some z => some (.nx (δ.set i (reown s z)))
      | none => none
    | none => none) δ0
  | none => none
theorem es_putK {K : Fg} {W : WX} {i : Nat} {te ti : TE} {mi me : M D} (hv : Ev K W te me) (hi : Ev K W ti mi) : Es K W (tAsg te (gSub (tVar i) ti rPutK)) (mPutK i mi me) := by
  refine es_of (u := fun (v : V) Z σ H => gSub (tVar i) ti rPutK v σ H Z.nx) hv fun d v C hK hW al F H σ δ S rl o ho Z hZ => ?_
  cases e0 : ownDk δ i with
  | none => simp only [e0] at ho; cases ho
  | some p0 =>
    obtain ⟨s0, ks0, ds0⟩ := p0
    simp only [e0] at ho
    obtain ⟨h1, h2⟩ := ownDk_some e0
    obtain ⟨o1, o2, o3, o4⟩ := S.ow i s0 _ h1 h2
    refine ⟨_, o1, ?_⟩
    cases e : mi δ with
    | none => unfold mS at ho; rw [e] at ho; cases ho
    | some r =>
      refine hi C hK hW al F H σ δ S trivial r e _ (fun j δ1 e1 al1 F1 H1 y s1 S1 rj => ?_) fun x δ1 e1 al1 F1 H1 cls dd s1 S1 xr => ?_
      · subst e1
        unfold mS at ho
        rw [e] at ho
        cases e2 : ownDk δ1 i with
        | none => simp only [e2] at ho; cases ho
        | some p1 =>
          obtain ⟨s, ks, ds⟩ := p1
          simp only [e2] at ho
          cases e3 : putKO ks ds j d with
          | none => simp only [e3] at ho; cases ho
          | some z =>
            simp only [e3] at ho
            cases ho
            subst hK
            obtain ⟨g1, g2⟩ := ownDk_some e2
            obtain ⟨y1, y2, y3, vs, y4, y5, y6, y7⟩ := S1.ow i s _ g1 g2
            have ea : al i = al1 i := by
              rw [o1] at y1
              exact V.ref.inj (Option.some.inj (Option.some.inj y1))
            unfold putKO at e3
            cases q2 : keyD j with
            | none => rw [q2] at e3; cases e3
            | some k =>
              rw [q2] at e3
              simp only at e3
              split at e3
              · rename_i hl
                cases e3
                have rj' : Rep C.K F1 j y := rj
                have rd : Rep C.K F1 d v := (show Rep C.K F d v from rl).mono s1
                have ey := keyD_v (H := H1) q2 (.inl rj')
                subst ey
                have hvl : vs.length = ds.length := y7.len
                have zl : (ks.zip vs).length < sizeLine := by
                  rw [List.length_zip, sizeLine_eq]
                  have : LB = 1000000 := rfl
                  omega
                refine ⟨al i, _, rfl, DPut.k (by rw [ea]; exact y4) zl, ?_⟩
                rw [ea, putK_zip k v (by rw [hvl]; exact y5)]
                refine hZ al1 F1 _ σ s1 ?_
                obtain ⟨p1, p2⟩ := putL_len (k := k) (x := d) y5
                exact S1.poke1 g1 g2 (reown_own (s := s)) (fun z hz => reown_io hz) ⟨(putL ks vs k v).2, by rw [upd_same]; unfold putL; by_cases z : inK k ks = true <;> simp only [z, if_true, if_false] <;> rfl, p1, by omega, putL_reps rd y7 y5⟩
              · cases e3
      · subst e1
        unfold mS at ho
        rw [e] at ho
        cases ho
        subst hK
        rw [← hW] at *
        exact hZ al1 F1 H1 σ cls dd s1 S1 xr
section
variable {X : Cx} {W : WX} {o e : Expr} {te : TE} {me : M D} {pos p2 : Pos}
theorem s_putK {k : Nat} {i : Nat} {ix : Expr} {ti : TE} {mi : M D} {tpos : Pos} (hr : Room k X.A) (ho : PE X o (tVar i)) (hi : XE X W ix ti mi) (h : XE X W e te me) (ha : ∀ v, assign (.Subscript o ix tpos) X.env v = (do
      let ov ← holding [v] (eval o X.env)
      let iv ← holding [v, ov] (eval ix X.env)
      standAt tpos
      holding [v, ov, iv] (setItem ov iv v)
      release [v, ov, iv] []) := by intro _; rfl) (hs : swapsWithSole [.Subscript o ix tpos] e pos.line X.env = pure false := by rfl) (hw : swappedStores [.Subscript o ix tpos] e X.env = pure none := by rfl) (h1 : (assignEach [.Subscript o ix tpos] X.env).map (·.2) = [assign (.Subscript o ix tpos) X.env] := by rfl) :
    XS X W (.Assign [.Subscript o ix tpos] e pos) (tAsg te (gSub (tVar i) ti rPutK)) (mPutK i mi me) :=
  ⟨ps_asg h.p (pg_sub ho hi.p (set_K (room_in hr)) ha) hs hw h1, es_putK h.v hi.v⟩
end
end DL

set_option Elab.async false
set_option linter.all false
set_option maxRecDepth 100000
set_option maxHeartbeats 400000
/-! DLzzV: {"a": x} of a frozen x; in a suite of errors with a field: isinstance of a built-in class. -/
namespace DL
open PySem L2
section
variable {X : Cx} {a D0 dd : Addr} {oe : Obj} {pn : List (Addr × Obj)} {i : Nat} {b : Bool} {e yy fld : Str} {y : V} {p3 p4 p5 pos : Pos} {m0 : M D}
end
end DL

set_option Elab.async false
set_option linter.all false
set_option maxRecDepth 100000
set_option maxHeartbeats 4000000
/-! PMq: printed by gen.py: pairings, lists of drawings, with what is refused. -/
namespace GA
open PySem L2 DL G
abbrev N_next_pairs : List Str := ["stock", "ends", "row", "used", "first", "second", "left", "sort", "number"]
noncomputable def B_next_pairs_0 (c : Cs) : Ms := mSeq (mPutK 3 (mVar 4) (mC (.bl true))) (mPutK 3 (mVar 5) (mC (.bl true)))
noncomputable def E_next_pairs_0 (c : Cs) : M D := mVar 8
noncomputable def T_next_pairs_0 (c : Cs) : M Bool := (mTest (m2 (dinD true) (mOv 8) (mOv 3)))
noncomputable def L_next_pairs_0 (c : Cs) : M D := mLc (mIt rg1 (mdCons (mA (fA1 lenD) (maCons (mOv 1) maNil)) mdNil)) (gN 8) (T_next_pairs_0 c) (E_next_pairs_0 c) [8]
noncomputable def E_next_pairs_1 (c : Cs) : M D := mTup (mdCons (m2 ixD (mOv 6) (mVal (mC (.int 0)))) (mdCons (mVar 8) mdNil))
noncomputable def T_next_pairs_1 (c : Cs) : M Bool := (mTest (m2 eqD (mVal (m2 ixD (mVal (m2 ixD (mOv 1) (mOv 8))) (mVal (mC (.int 1))))) (mOv 7)))
noncomputable def L_next_pairs_1 (c : Cs) : M D := mLc (mSeqOf (mSl slD (mOv 6) (mpSome (mC (.int 1))) mpNone)) (gN 8) (T_next_pairs_1 c) (E_next_pairs_1 c) [8]
noncomputable def m_next_pairs (c : Cs) : Ms := mSeq (mAsgO 3 mDk0) (mSeq (mFor (mSeqB 2) (gT (gsC (gN 4) (gsC (gN 5) gs0))) (B_next_pairs_0 c)) (mSeq (mAsgO 6 (L_next_pairs_0 c)) (mSeq (mAsg (gN 7) (mCallP [.fr, .fr] (g_partner_of c) (maCons (mVal (mVar 0)) (maCons (mVal (m2 ixD (mVal (m2 ixD (mOv 1) (mVal (m2 ixD (mOv 6) (mVal (mC (.int 0))))))) (mVal (mC (.int 1))))) maNil)))) (mRet (L_next_pairs_1 c)))))
noncomputable def g_next_pairs (c : Cs) : List D → Option D := defG 9 [.fr, .fr, .fr] (m_next_pairs c)
noncomputable def E_pairingsX_0 (c : Cs) : M D := m2 addD (mOv 7) (mVal (mLst (mdCons (mVar 8) mdNil)))
noncomputable def L_pairingsX_0 (c : Cs) : M D := mLc (mSeqOf (mCallP [.fr, .fr, .fr] (g_next_pairs c) (maCons (mVal (mVar 0)) (maCons (mVal (mVar 3)) (maCons (mVal (mVar 7)) maNil))))) (gN 8) mYes (E_pairingsX_0 c) [8]
noncomputable def B_pairingsX_0 (c : Cs) : Ms := mDrop (mMut extF 6 (mdCons (L_pairingsX_0 c) mdNil))
noncomputable def B_pairingsX_1 (c : Cs) : Ms := mSeq (mAsgO 6 (mLst mdNil)) (mSeq (mFor (mSeqB 4) (gN 7) (B_pairingsX_0 c)) (mAsg (gN 4) (mVar 6)))
end GA

set_option Elab.async false
set_option linter.all false
set_option maxRecDepth 100000
set_option maxHeartbeats 400000
/-! DLzzY: a list of new lists that a def hands back: looked at, then changed with its parts, then let go. -/
namespace DL
open PySem L2
/-! ### frozen things without lists that begin with a number -/
def hdI : List V → Bool
  | .int _ :: _ => true
  | _ => false
def hdD : List D → Bool
  | .int _ :: _ => true
  | _ => false
def fltF (F : Hp) : Hp := fun a => match F a with
  | some (.lst vs) => if hdI vs = true then none else some (.lst vs)
  | o => o
theorem flt_keep {F : Hp} {a : Addr} {o : HO} (h : F a = some o) (ho : ∀ vs, o = .lst vs → hdI vs = false) : fltF F a = some o := by
  unfold fltF
  rw [h]
  cases o with
  | lst vs =>
    have := ho vs rfl
    simp only [this]
    rfl
  | _ => rfl
mutual
def noI : D → Bool
  | .tup ds => noIs ds
  | .lst ds => !hdD ds && noIs ds
  | .ins _ _ ds => noIs ds
  | .dk _ ds => noIs ds
  | .dn _ ks ds => noIs ks && noIs ds
  | .non => true
  | .bl _ => true
  | .int _ => true
  | .str _ => true
  | .fn _ => true
def noIs : List D → Bool
  | [] => true
  | d :: ds => noI d && noIs ds
end
section
variable {K : Fg} {F : Hp}
theorem rep_int {d : D} {i : Int} (h : Rep K F d (.int i)) : d = .int i := by
  cases d with
  | non => cases Rep.non_iff.mp h
  | bl b => cases Rep.bl_iff.mp h
  | int j => cases Rep.int_iff.mp h; rfl
  | str x => cases Rep.str_iff.mp h
  | tup ds => obtain ⟨a, vs, e, _⟩ := Rep.tup_iff.mp h; cases e
  | lst ds => obtain ⟨a, vs, e, _⟩ := Rep.lst_iff.mp h; cases e
  | ins C ns ds => obtain ⟨a, dx, vs, e, _⟩ := Rep.ins_iff.mp h; cases e
  | dk ks ds => obtain ⟨a, vs, e, _⟩ := Rep.dk_iff.mp h; cases e
  | dn hs ks ds => obtain ⟨a, o, bs, vs, nks, e, _⟩ := Rep.dn_iff.mp h; cases e
  | fn f => cases Rep.fn_iff.mp h
theorem reps_hd {ds : List D} {vs : List V} (h : Reps K F ds vs) : hdI vs = hdD ds := by
  cases ds with
  | nil => rw [h.inv0]; rfl
  | cons d ds =>
    obtain ⟨v, us, rfl, h1, h2⟩ := h.inv
    cases v with
    | int i => rw [rep_int h1]; rfl
    | _ =>
      cases d with
      | int j => cases Rep.int_iff.mp h1
      | _ => rfl
theorem TupR.flt {a : Addr} {vs : List V} (h : TupR K F a vs) : TupR K (fltF F) a vs := by
  rcases h with ⟨o, h1, h2⟩ | h
  · exact Or.inl ⟨o, h1, flt_keep h2 fun vs e => by cases e⟩
  · exact Or.inr h
theorem rd_flt {a : Addr} {u : HO} (h : Rd F a u) (hu : ∀ vs, u = .lst vs → hdI vs = false) : Rd (fltF F) a u := by
  rcases h with h | ⟨o, h⟩
  · exact Or.inl (flt_keep h hu)
  · exact Or.inr ⟨o, flt_keep h fun vs e => by cases e⟩
mutual
theorem Rep.flt : ∀ {d : D} {v : V}, noI d = true → Rep K F d v → Rep K (fltF F) d v
  | .non, v, _, h => by simpa only [Rep] using h
  | .bl b, v, _, h => by simpa only [Rep] using h
  | .int i, v, _, h => by simpa only [Rep] using h
  | .str x, v, _, h => by simpa only [Rep] using h
  | .fn f, v, _, h => by simpa only [Rep] using h
  | .tup ds, v, n, h => by
    simp only [noI] at n
    obtain ⟨a, vs, h1, h2, h3, h4⟩ := Rep.tup_iff.mp h
    exact Rep.tup_iff.mpr ⟨a, vs, h1, h2.flt, h3, Reps.flt n h4⟩
  | .lst ds, v, n, h => by
    simp only [noI, Bool.and_eq_true, Bool.not_eq_true'] at n
    obtain ⟨a, vs, h1, h2, h3, h4⟩ := Rep.lst_iff.mp h
    exact Rep.lst_iff.mpr ⟨a, vs, h1, flt_keep h2 (fun us e => by cases e; rw [reps_hd h4]; exact n.1), h3, Reps.flt n.2 h4⟩
  | .ins C ns ds, v, n, h => by
    simp only [noI] at n
    obtain ⟨a, dx, vs, h1, h2, h3, h4⟩ := Rep.ins_iff.mp h
    exact Rep.ins_iff.mpr ⟨a, dx, vs, h1, flt_keep h2 (fun us e => by cases e), h3, Reps.flt n h4⟩
  | .dk ks ds, v, n, h => by
    simp only [noI] at n
    obtain ⟨a, vs, h1, h2, h3, h4, h5⟩ := Rep.dk_iff.mp h
    exact Rep.dk_iff.mpr ⟨a, vs, h1, rd_flt h2 (fun us e => by cases e), h3, h4, Reps.flt n h5⟩
  | .dn hs ks ds, v, n, h => by
    simp only [noI, Bool.and_eq_true] at n
    obtain ⟨a, o, bs, vs, nks, h1, h2, h3, h4, h5, h6, h7, h8, h9⟩ := Rep.dn_iff.mp h
    exact Rep.dn_iff.mpr ⟨a, o, bs, vs, nks, h1, flt_keep h2 (fun us e => by cases e), h3, h4, h5, h6, h7, Reps.flt n.1 h8, Reps.flt n.2 h9⟩
theorem Reps.flt : ∀ {ds : List D} {vs : List V}, noIs ds = true → Reps K F ds vs → Reps K (fltF F) ds vs
  | [], vs, _, h => by simpa only [Reps] using h
  | d :: ds, vs, n, h => by
    simp only [noIs, Bool.and_eq_true] at n
    obtain ⟨v, us, rfl, h2, h3⟩ := h.inv
    exact reps_cons (Rep.flt n.1 h2) (Reps.flt n.2 h3)
end
theorem RepO.flt {H : Hp} {a : Addr} {d : D} (n : noI d = true) (h : RepO K F H a d) : RepO K (fltF F) H a d := by
  cases d with
  | lst ds =>
    simp only [noI, Bool.and_eq_true] at n
    obtain ⟨vs, h1, h2, h3⟩ := h; exact ⟨vs, h1, h2, Reps.flt n.2 h3⟩
  | ins C ns ds =>
    simp only [noI] at n
    obtain ⟨dx, vs, h1, h2, h3⟩ := h; exact ⟨dx, vs, h1, h2, Reps.flt n h3⟩
  | dk ks ds =>
    simp only [noI] at n
    obtain ⟨vs, h1, h2, h3, h4⟩ := h; exact ⟨vs, h1, h2, h3, Reps.flt n h4⟩
  | dn hs ks ds =>
    simp only [noI, Bool.and_eq_true] at n
    obtain ⟨o, bs, vs, nks, h1, h2, h3, h4, h5, h6, h7, h8⟩ := h; exact ⟨o, bs, vs, nks, h1, h2, h3, h4, h5, h6, Reps.flt n.1 h7, Reps.flt n.2 h8⟩
  | _ => exact h.elim
end
/-! ### all things borrowed, tests alone -/
def borS : Sl → Sl
  | .fr d => .fr d
  | .bo d => .bo d
  | .ow d => .bo d
  | .io d => .bo d
  | _ => .un
def borE (δ : En) : En := δ.map borS
structure Kept (K : Fg) (F H : Hp) (σ : St) (δ : En) : Prop where
  fh : Same F H
  len : σ.length = δ.length
  fr : ∀ (i : Nat) (d : D), δ[i]? = some (Sl.fr d) → ∃ v, σ[i]? = some (some v) ∧ Rep K F d v
  bo : ∀ (i : Nat) (d : D), δ[i]? = some (Sl.bo d) → ∃ v, σ[i]? = some (some v) ∧ RepR K F H v d
  un : ∀ (i : Nat) (s : Sl), δ[i]? = some s → (∃ d, s = .fr d) ∨ (∃ d, s = .bo d) ∨ s = .un
section
variable {K : Fg} {F H H' : Hp} {σ : St} {δ : En}
theorem Kept.st (k : Kept K F H σ δ) (W : WX) : StOk { K := K, P := H, B := H, F0 := F, bt := fun _ => 0, W := W } (fun _ => 0) F H σ δ := by
  have no : ∀ (i : Nat) (s : Sl), δ[i]? = some s → s.own = none ∧ (∀ ns, s ≠ .sc ns) ∧ ∀ ds, s ≠ .b2 ds := fun i s q => by
    rcases k.un i s q with ⟨d, rfl⟩ | ⟨d, rfl⟩ | rfl <;> exact ⟨rfl, fun _ z => by (cases z), fun _ z => by (cases z)⟩
  refine ⟨k.fh, Same.refl _, Same.refl _, Same.refl _, fun b o q => Or.inl q, k.len, k.fr, k.bo, fun i s d q r => ?_, fun i d q => ?_, fun i j s t d e q1 q2 r1 r2 => ?_, fun i ns q => ((no i _ q).2.1 ns rfl).elim, fun i ds q => ((no i _ q).2.2 ds rfl).elim, fun _ _ q => by cases q⟩
  · rw [(no i s q).1] at r; cases r
  · have := (no i _ q).1; cases this
  · rw [(no i s q1).1] at r1; cases r1
end
def EsB (K : Fg) (W : WX) (t : TS) (ok : En → Bool) : Prop := ∀ (F H : Hp) (σ : St) (δ : En), Kept K F H σ δ → ok δ = true → ∀ Z : Ends, (∀ H', Same H H' → Z.nx σ H') → t Z σ H
def okF (c : M Bool) (δ : En) : Bool := match c δ with
  | some (.ok false _) => true
  | _ => false
section
variable {K : Fg} {W : WX}
theorem esB_if {tc : TT} {t : TS} {c : M Bool} (hc : Et K W tc c) : EsB K W (tIfS tc t tNext) (okF c) := by
  intro F H σ δ k ho Z hZ
  unfold okF at ho
  cases e : c δ with
  | none => rw [e] at ho; cases ho
  | some r =>
    rw [e] at ho
    cases r with
    | ex x δ' => cases ho
    | ok b δ' =>
      cases b with
      | true => cases ho
      | false =>
        refine hc { K := K, P := H, B := H, F0 := F, bt := fun _ => 0, W := W } rfl rfl (fun _ => 0) F H σ δ (k.st W) trivial _ e _ (fun b1 δ1 e1 al1 F1 H1 b s1 S1 rl => ?_) fun x δ1 e1 => by cases e1
        cases e1
        have rl : b = false := rl
        subst rl
        exact hZ H1 S1.ph
/-! ### what is let go -/
structure Loose (K : Fg) (i : Nat) (H1 : Hp) (p : Addr) (n : Nat) (σ : St) (H : Hp) : Prop where
  at' : σ[i]? = some (some (.ref p))
  np : H1 p = none
  kp : Same H1 H
  ls : ∃ bs : List Addr, H p = some (.lst (bs.map V.ref)) ∧ bs.length ≤ 1000 + n ∧ ∀ b ∈ bs, H1 b = none ∧ b ≠ p ∧ ∃ ws, H b = some (.lst ws) ∧ ws.length ≤ 1000 + n
end
end DL

set_option Elab.async false
set_option linter.all false
set_option maxRecDepth 100000
set_option maxHeartbeats 400000
/-! DLzzYb: the same of a list of rows of tuples that begin with a number (rows may be empty): the constants' objects are those of the heap. -/
namespace DL
open PySem L2
/-- what stands at a constant's place is that constant -/
def Det (K : Fg) (H : Hp) : Prop := ∀ (a : Addr) (o : Obj), K.lookup a = some o → (∀ vs, H a = some (.lst vs) → o.cls ≠ .type "tuple") ∧ ∀ o1 vs, H a = some (.frz o1 (.tup vs)) → ∀ its n, o.data = .seq its n → Vals vs its.toList
theorem det_inv {X : Cx} {pins : List (Addr × Obj)} {σ : St} {H : Hp} {s : Shared} (I : L2.Inv X pins σ H s) : Det X.K H := by
  intro a o hk
  have hg := Inv.kIn I a o hk
  refine ⟨fun vs h e => ?_, fun o1 vs h its n e => ?_⟩
  · have := I.hok a _ h
    simp only [ObjOk] at this
    obtain ⟨_, us, m, _, h2⟩ := this
    rw [hg] at h2
    cases h2
    injection e with e
    revert e
    decide
  · have := I.hok a _ h
    simp only [ObjOk] at this
    obtain ⟨h1, _, us, h2, h3⟩ := this
    obtain ⟨o2, g1, g2, m, g3⟩ := h3
    rw [hg] at g1
    cases g1
    rw [e] at g3
    cases g3
    exact h2
def tDet (K : Fg) (te : TE) : TE := fun σ H Q => te σ H fun v H' => Det K H' → Q v H'
theorem pe_det {X : Cx} {e : Expr} {te : TE} (h : PE X e te) : PE X e (tDet X.K te) := ⟨fun pins s σ H Q I ht => wpAny_mono (h.run pins s σ H (fun v H' => Det X.K H' → Q v H') I ht) (fun u s' ⟨v, H', I', r, q⟩ => ⟨v, H', I', r, q (det_inv I')⟩) fun _ _ z => z⟩
/-! ### data whose lists are filled, none of them with rows that begin with a number -/
def plE : D → Bool
  | .tup _ => true
  | .int _ => true
  | .str _ => true
  | .bl _ => true
  | .non => true
  | _ => false
mutual
def okD : D → Bool
  | .tup ds => !hdD ds && okDs ds
  | .lst ds => !ds.isEmpty && (ds.all plE && okDs ds)
  | .ins _ _ ds => okDs ds
  | .dk _ ds => okDs ds
  | .dn _ _ _ => false
  | .fn _ => false
  | .non => true
  | .bl _ => true
  | .int _ => true
  | .str _ => true
def okDs : List D → Bool
  | [] => true
  | d :: ds => okD d && okDs ds
end
open Classical in
noncomputable def supF (K : Fg) (F : Hp) : Hp := fun a => if ∃ d, okD d = true ∧ Rep K F d (.ref a) then F a else none
section
variable {K : Fg} {F : Hp}
theorem sup_sub : Same (supF K F) F := fun a o h => by
  unfold supF at h
  split at h
  · exact h
  · cases h
theorem sup_there {a : Addr} {o : HO} (h : supF K F a = some o) : ∃ d, okD d = true ∧ Rep K F d (.ref a) := by
  unfold supF at h
  split at h
  · assumption
  · cases h
theorem sup_keep {a : Addr} {d : D} (n : okD d = true) (h : Rep K F d (.ref a)) : supF K F a = F a := by
  unfold supF
  rw [if_pos ⟨d, n, h⟩]
mutual
theorem Rep.sup : ∀ {d : D} {v : V}, okD d = true → Rep K F d v → Rep K (supF K F) d v
  | .non, v, _, h => by simpa only [Rep] using h
  | .bl b, v, _, h => by simpa only [Rep] using h
  | .int i, v, _, h => by simpa only [Rep] using h
  | .str x, v, _, h => by simpa only [Rep] using h
  | .fn f, v, n, h => by simp [okD] at n
  | .dn _ _ _, v, n, h => by simp [okD] at n
  | .tup ds, v, n, h => by
    have n' := n
    simp only [okD, Bool.and_eq_true] at n'
    obtain ⟨a, vs, rfl, h2, h3, h4⟩ := Rep.tup_iff.mp h
    refine Rep.tup_iff.mpr ⟨a, vs, rfl, ?_, h3, Reps.sup n'.2 h4⟩
    rcases h2 with ⟨o, g1, g2⟩ | g
    · exact Or.inl ⟨o, g1, (sup_keep n h).trans g2⟩
    · exact Or.inr g
  | .lst ds, v, n, h => by
    have n' := n
    simp only [okD, Bool.and_eq_true] at n'
    obtain ⟨a, vs, rfl, h2, h3, h4⟩ := Rep.lst_iff.mp h
    exact Rep.lst_iff.mpr ⟨a, vs, rfl, (sup_keep n h).trans h2, h3, Reps.sup n'.2.2 h4⟩
  | .ins C ns ds, v, n, h => by
    have n' := n
    simp only [okD] at n'
    obtain ⟨a, dx, vs, rfl, h2, h3, h4⟩ := Rep.ins_iff.mp h
    exact Rep.ins_iff.mpr ⟨a, dx, vs, rfl, (sup_keep n h).trans h2, h3, Reps.sup n' h4⟩
  | .dk ks ds, v, n, h => by
    have n' := n
    simp only [okD] at n'
    obtain ⟨a, vs, rfl, h2, h3, h4, h5⟩ := Rep.dk_iff.mp h
    refine Rep.dk_iff.mpr ⟨a, vs, rfl, ?_, h3, h4, Reps.sup n' h5⟩
    rcases h2 with g | ⟨o, g⟩
    · exact Or.inl ((sup_keep n h).trans g)
    · exact Or.inr ⟨o, (sup_keep n h).trans g⟩
theorem Reps.sup : ∀ {ds : List D} {vs : List V}, okDs ds = true → Reps K F ds vs → Reps K (supF K F) ds vs
  | [], vs, _, h => by simpa only [Reps] using h
  | d :: ds, vs, n, h => by
    simp only [okDs, Bool.and_eq_true] at n
    obtain ⟨v, us, rfl, h2, h3⟩ := h.inv
    exact reps_cons (Rep.sup n.1 h2) (Reps.sup n.2 h3)
end
def goodA : List PK → List D → Bool
  | .fr :: ks, d :: ds => okD d && goodA ks ds
  | .bo :: ks, .lst es :: ds => okDs es && goodA ks ds
  | [], [] => true
  | _, _ => false
theorem goodA_get : ∀ {ks : List PK} {ds : List D} {i : Nat} {k : PK} {d : D}, goodA ks ds = true → ks[i]? = some k → ds[i]? = some d → (k = .fr ∧ okD d = true) ∨ (k = .bo ∧ ∃ es, d = .lst es ∧ okDs es = true)
  | [], _, i, k, d, _, h, _ => by simp at h
  | .fr :: ks, [], i, k, d, g, _, _ => by simp [goodA] at g
  | .bo :: ks, [], i, k, d, g, _, _ => by simp [goodA] at g
  | .io :: ks, _, i, k, d, g, _, _ => by simp [goodA] at g
  | .fr :: ks, e :: ds, i, k, d, g, h1, h2 => by
    simp only [goodA, Bool.and_eq_true] at g
    cases i with
    | zero =>
      cases (show PK.fr = k by simpa using h1)
      cases (show e = d by simpa using h2)
      exact Or.inl ⟨rfl, g.1⟩
    | succ i => exact goodA_get (i := i) g.2 (by simpa using h1) (by simpa using h2)
  | .bo :: ks, e :: ds, i, k, d, g, h1, h2 => by
    cases e with
    | lst es =>
      simp only [goodA, Bool.and_eq_true] at g
      cases i with
      | zero =>
        cases (show PK.bo = k by simpa using h1)
        cases (show D.lst es = d by simpa using h2)
        exact Or.inr ⟨rfl, es, rfl, g.1⟩
      | succ i => exact goodA_get (i := i) g.2 (by simpa using h1) (by simpa using h2)
    | _ => simp [goodA] at g
theorem StOk.supC {H : Hp} {us : St} {ks : List PK} {ds : List D} {W : WX} (S : StOk { K := K, P := H, B := H, F0 := F, bt := fun _ => 0, W := W } (fun _ => 0) F H us (entry ks ds)) (n : goodA ks ds = true) :
    StOk { K := K, P := H, B := H, F0 := supF K F, bt := fun _ => 0, W := W } (fun _ => 0) (supF K F) H us (entry ks ds) := by
  have no : ∀ (i : Nat) (s : Sl) (d : D), (entry ks ds)[i]? = some s → s.own = some d → False := fun i s d q r => by
    obtain ⟨k, e, g1, g2, g3⟩ := entry_get q
    rcases goodA_get n g1 g2 with ⟨rfl, _⟩ | ⟨rfl, _⟩ <;> (subst g3; cases r)
  refine ⟨sup_sub.trans S.fh, Same.refl _, Same.refl _, Same.refl _, fun b o q => Or.inl q, S.len, fun i d q => ?_, fun i d q => ?_, fun i s d q r => (no i s d q r).elim, fun i d q => (no i _ d q rfl).elim, fun i j s t d e q1 q2 r1 r2 => (no i s d q1 r1).elim, fun i ns q => ?_, fun i ns q => ?_, fun _ _ q => by cases q⟩
  · obtain ⟨k, e, g1, g2, g3⟩ := entry_get q
    rcases goodA_get n g1 g2 with ⟨rfl, n1⟩ | ⟨rfl, _⟩
    · cases g3
      obtain ⟨v, h1, h2⟩ := S.fr i _ q
      exact ⟨v, h1, h2.sup n1⟩
    · cases g3
  · obtain ⟨k, e, g1, g2, g3⟩ := entry_get q
    rcases goodA_get n g1 g2 with ⟨rfl, n1⟩ | ⟨rfl, es, rfl, n1⟩
    · cases g3
    · cases g3
      obtain ⟨v, h1, h2⟩ := S.bo i _ q
      obtain ⟨a, vs, rfl, h3, h4, h5⟩ := h2.lst S.fh
      exact ⟨_, h1, Or.inr ⟨a, rfl, vs, h3, h4, h5.sup n1⟩⟩
  · obtain ⟨k, e, g1, g2, g3⟩ := entry_get q
    rcases goodA_get n g1 g2 with ⟨rfl, _⟩ | ⟨rfl, _⟩ <;> cases g3
  · obtain ⟨k, e, g1, g2, g3⟩ := entry_get q
    rcases goodA_get n g1 g2 with ⟨rfl, _⟩ | ⟨rfl, _⟩ <;> cases g3
/-- a tuple's values do not hang on where it is looked up -/
theorem tup_hd {H : Hp} (dt : Det K H) {F1 F2 : Hp} (s1 : Same F1 H) (s2 : Same F2 H) {a : Addr} {i : Int} {us vs : List V} (h1 : TupR K F1 a (.int i :: us)) (h2 : TupR K F2 a vs) : hdI vs = true := by
  have key : ∀ its : List Value, Vals (.int i :: us) its → Vals vs its → hdI vs = true := fun its g1 g2 => by
    cases g1 with
    | cons r t =>
      cases g2 with
      | @cons x _ _ _ r' t' =>
        obtain ⟨tk, rfl⟩ := r
        cases x <;> simp [RelV] at r' <;> rfl
  rcases h1 with ⟨o1, _, g1⟩ | ⟨o1, its1, n1, k1, _, c1, d1, _, v1⟩
  · rcases h2 with ⟨o2, _, g2⟩ | ⟨o2, its2, n2, k2, _, c2, d2, _, v2⟩
    · have e1 := s1 _ _ g1
      have e2 := s2 _ _ g2
      rw [e1] at e2
      cases e2
      rfl
    · exact key _ ((dt a o2 k2).2 _ _ (s1 _ _ g1) _ _ d2) v2
  · rcases h2 with ⟨o2, _, g2⟩ | ⟨o2, its2, n2, k2, _, c2, d2, _, v2⟩
    · exact key _ v1 ((dt a o1 k1).2 _ _ (s2 _ _ g2) _ _ d1)
    · rw [k1] at k2
      cases k2
      rw [d1] at d2
      cases d2
      exact key _ v1 v2
def rowT (d : D) : Bool := match d with
  | .lst rs => decide (rs.length ≤ 1000) && rs.all fun r => match r with
    | .tup (.int _ :: _) => true
    | _ => false
  | _ => false
def partT2 (es : List D) : Bool := decide (es.length ≤ 1000) && es.all rowT
end
end DL

set_option Elab.async false
set_option linter.all false
set_option maxRecDepth 100000
set_option maxHeartbeats 400000
/-! DLzzZ: found = f(..); if ..: return; if ..: return; found.append([n]); found[0].append(k): one rule. -/
namespace DL
open PySem L2
section
variable {K : Fg} {W : WX}
end
section
variable {X : Cx} {W : WX} {o e : Expr} {pos : Pos}
end
end DL

set_option Elab.async false
set_option linter.all false
set_option maxRecDepth 100000
set_option maxHeartbeats 400000
/-! DLzzZb: found = f(..); if ..: return; for row in found[:3]: row.append((0, 1)); found.append([]); found.reverse(): one rule. -/
namespace DL
open PySem L2
section
variable {K : Fg} {W : WX}
def Wild2 (K : Fg) (i : Nat) (ys : List Nat) (t : TS) : Prop := ∀ (H1 : Hp) (p : Addr) (σ : St) (H : Hp), Loose K i H1 p 0 σ H → (∀ y ∈ ys, y < σ.length) → ∀ Z : Ends, (∀ σ' H', Same H1 H' → σ'.length = σ.length → (∀ j, j ∉ ys → σ'[j]? = σ[j]?) → Z.nx σ' H') → t Z σ H
def mTold2 (i : Nat) (ys : List Nat) (ks : List PK) (g : List D → Option D) (a : M (List Op)) (ok : En → Bool) : Ms := fun δ => match a δ with
  | some (.ok os δ1) => (match rds os δ1 with
    | some ds => if frOk ks os = true ∧ goodA ks ds = true ∧ i < δ1.length ∧ ys.all (fun y => decide (y < δ1.length)) = true then (match g ds with
      | some (.lst es) => if partT2 es = true ∧ ok ((borE δ1).set i (.bo (.lst es))) = true then some (.nx (wipeE δ1 (i :: ys))) else none
      | _ => none) else none
    | none => none)
  | _ => none
/-! ### the rows of found[:3] get a pair, found one row, and is turned about -/
theorem cutV_sub (xs : List V) (lo hi : Option Int) : ∀ v ∈ cutV xs lo hi, v ∈ xs := fun v h => by
  unfold cutV at h
  exact List.mem_of_mem_drop (List.mem_of_mem_take h)
def tFor22 (K : Fg) (i j : Nat) (n a b : Int) : TS := tFor (iList K (tSl (rSlAny K) (tVar i) tNoPart (tPart (tC (.int n))))) (gName j) (tDrop (tBM K "list" rAppend (tVar j) (tCons (tTupZ (tCons (tC (.int a)) (tCons (tC (.int b)) tNil))) tNil)))
def tEnd22 (K : Fg) (i : Nat) : TS := tSeq (tDrop (tBM K "list" rAppend (tVar i) (tCons (tLst tNil) tNil))) (tDrop (tBM0 K "list" rReverse (tVar i)))
theorem wild22 {i j : Nat} {n a b : Int} (hij : i ≠ j) : Wild2 K i [j] (tSeq (tFor22 K i j n a b) (tEnd22 K i)) := by
  intro H1 p σ H lo hy Z hZ
  have hj : j < σ.length := hy j (by simp)
  obtain ⟨bs, g1, g2, g3⟩ := lo.ls
  refine ⟨.ref p, lo.at', n, rfl, Or.inl ⟨p, bs.map V.ref, rfl, Or.inl (Or.inl g1), fun q hq => ?_⟩⟩
  have npq : p ≠ q := fun z => by rw [← z, g1] at hq; cases hq
  have hq1 : H1 q = none := lo.kp.free hq
  obtain ⟨cut, hcut⟩ : ∃ cut, cut = cutV (bs.map V.ref) none (some n) := ⟨_, rfl⟩
  have csub : ∀ v ∈ cut, ∃ b ∈ bs, v = V.ref b := fun v hv => by
    rw [hcut] at hv
    obtain ⟨b, hb, e⟩ := List.mem_map.mp (cutV_sub _ _ _ v hv)
    exact ⟨b, hb, e.symm⟩
  have clen : cut.length ≤ bs.length := by
    rw [hcut]
    unfold cutV
    rw [List.length_take, List.length_drop, List.length_map]
    omega
  rw [← hcut]
  have hq0 : (upd H q (HO.lst cut)) q = some (.lst cut) := upd_same
  refine ⟨q, rfl, ⟨cut, Or.inl (Or.inl hq0)⟩, fun k m σ2 H2 => m = cut.length - k ∧ k ≤ cut.length ∧ σ2.length = σ.length ∧ (∀ x, x ≠ j → σ2[x]? = σ[x]?) ∧ Same H1 H2 ∧ H2 p = some (.lst (bs.map V.ref)) ∧ H2 q = some (.lst cut) ∧ ∀ b ∈ bs, ∃ ws, H2 b = some (.lst ws) ∧ ws.length ≤ 1000 + k, ⟨cut.length, by omega, by omega, rfl, fun _ _ => rfl, fun x o h => ?_, ?_, hq0, fun b hb => ?_⟩, ?_⟩
  · rw [upd_ne (fun z => by rw [z, hq1] at h; cases h)]
    exact lo.kp _ _ h
  · rw [upd_ne npq]; exact g1
  · obtain ⟨w1, w2, ws, w3, w4⟩ := g3 b hb
    refine ⟨ws, ?_, by omega⟩
    rw [upd_ne (fun z => by rw [z, hq] at w3; cases w3)]
    exact w3
  rintro k m σ2 H2 ⟨rfl, hk, l2, a2, s2, p2, q2, b2⟩
  have big : (3000 : Nat) < sizeLine := by decide
  by_cases hl : k < cut.length
  · have hg : cut[k]? = some cut[k] := List.getElem?_eq_getElem hl
    obtain ⟨b, hb, eb⟩ := csub cut[k] (List.getElem_mem hl)
    rw [eb] at hg
    obtain ⟨ws, w1, w2⟩ := b2 b hb
    obtain ⟨v1, v2, _⟩ := g3 b hb
    refine Or.inr ⟨⟨cut, _, Or.inl (Or.inl q2), hg⟩, fun σ3 H3 => k + 1 ≤ cut.length ∧ σ3.length = σ.length ∧ (∀ x, x ≠ j → σ3[x]? = σ[x]?) ∧ Same H1 H3 ∧ H3 p = some (.lst (bs.map V.ref)) ∧ H3 q = some (.lst cut) ∧ ∀ b ∈ bs, ∃ ws, H3 b = some (.lst ws) ∧ ws.length ≤ 1000 + (k + 1), fun σ3 H3 z => ⟨cut.length - (k + 1), by omega, rfl, z.1, z.2.1, z.2.2.1, z.2.2.2.1, z.2.2.2.2.1, z.2.2.2.2.2.1, z.2.2.2.2.2.2⟩, fun x H3 y => ?_⟩
    obtain ⟨rfl, y⟩ := y
    have ye := y _ (Or.inl (Or.inl q2))
    rw [hg] at ye
    cases ye
    have sj : (σ2.set j (some (V.ref b)))[j]? = some (some (.ref b)) := List.getElem?_set_self (by rw [l2]; exact hj)
    refine ⟨.ref b, sj, Or.inl ⟨rfl, ws, Or.inl (Or.inl w1)⟩, by simp [sizeLine], fun r o hr ho => ?_⟩
    have nbr : b ≠ r := fun z => by rw [← z, w1] at hr; cases hr
    refine ⟨b, ws, .ref r, rfl, rfl, by rw [upd_ne nbr]; exact w1, by omega, ?_⟩
    have nrp : p ≠ r := fun z => by rw [← z, p2] at hr; cases hr
    have nrq : q ≠ r := fun z => by rw [← z, q2] at hr; cases hr
    have nbq : q ≠ b := fun z => by
      have w3 : H b = none := by rw [← z]; exact hq
      obtain ⟨_, _, us, u1, _⟩ := g3 b hb
      rw [w3] at u1; cases u1
    refine ⟨by omega, by rw [List.length_set]; exact l2, fun x hx => by rw [List.getElem?_set_ne (Ne.symm hx)]; exact a2 x hx, fun x o' h => ?_, ?_, ?_, fun b' hb' => ?_⟩
    · have h2 := s2 _ _ h
      rw [upd_ne (fun z => by rw [z, v1] at h; cases h), upd_ne (fun z => by rw [z, hr] at h2; cases h2)]
      exact h2
    · rw [upd_ne v2.symm, upd_ne nrp]; exact p2
    · rw [upd_ne nbq, upd_ne nrq]; exact q2
    · by_cases z : b' = b
      · subst z
        exact ⟨_, upd_same, by rw [List.length_append]; simp; omega⟩
      · obtain ⟨us, u1, u2⟩ := b2 b' hb'
        refine ⟨us, ?_, by omega⟩
        rw [upd_ne z, upd_ne (fun y => by rw [y, hr] at u1; cases u1)]
        exact u1
  · refine Or.inl ⟨⟨cut, Or.inl (Or.inl q2), by omega⟩, ?_⟩
    have pi2 : σ2[i]? = some (some (.ref p)) := by rw [a2 i hij]; exact lo.at'
    refine ⟨.ref p, pi2, Or.inl ⟨rfl, _, Or.inl (Or.inl p2)⟩, by simp, fun u hu => ?_⟩
    have npu : p ≠ u := fun z => by rw [← z, p2] at hu; cases hu
    refine ⟨p, _, .ref u, rfl, rfl, by rw [upd_ne npu]; exact p2, by rw [List.length_map]; omega, ?_⟩
    refine ⟨.ref p, pi2, Or.inl ⟨rfl, _, Or.inl (Or.inl upd_same)⟩, p, _, rfl, rfl, upd_same, ?_⟩
    refine hZ σ2 _ (fun x o h => ?_) l2 fun x hx => a2 x fun z => hx (by rw [z]; exact List.mem_singleton.mpr rfl)
    have h2 := s2 _ _ h
    have nxp : x ≠ p := fun z => by rw [z, lo.np] at h; cases h
    rw [upd_ne nxp, upd_ne nxp, upd_ne (fun z => by rw [z, hu] at h2; cases h2)]
    exact h2
end
section
variable {X : Cx} {W : WX}
end
end DL

set_option Elab.async false
set_option linter.all false
set_option maxRecDepth 100000
set_option maxHeartbeats 400000
/-! DLzzZc: the same of a def whose list is handed back frozen. -/
namespace DL
open PySem L2
section
variable {K : Fg} {F : Hp}
theorem parts_new3 {F' H1 H' : Hp} (dt : Det K H') (sc : Same (supF K F) F') (fh1 : Same F H') (fh : Same F' H') (hfp : ∀ a o, F' a = some o → supF K F a = some o ∨ H1 a = none) {p : Addr} (hne : ∀ b rs, rowT (.lst rs) = true → Rep K F' (.lst rs) (.ref b) → b ≠ p) : ∀ {es : List D} {vs : List V}, es.all rowT = true → Reps K F' es vs → ∃ bs : List Addr, vs = bs.map V.ref ∧ ∀ b ∈ bs, H1 b = none ∧ b ≠ p ∧ ∃ ws, H' b = some (.lst ws) ∧ ws.length ≤ 1000
  | [], vs, _, h => ⟨[], h.inv0, fun b z => by cases z⟩
  | d :: es, vs, ha, h => by
    rw [List.all_cons, Bool.and_eq_true] at ha
    obtain ⟨v, us, rfl, h2, h3⟩ := h.inv
    obtain ⟨bs, rfl, hb⟩ := parts_new3 dt sc fh1 fh hfp hne ha.2 h3
    cases d with
    | lst rs =>
      have h1 := ha.1
      simp only [rowT, Bool.and_eq_true, decide_eq_true_eq] at h1
      have h2' := h2
      obtain ⟨b, ws, rfl, g1, g2, g3⟩ := Rep.lst_iff.mp h2
      have hbl := fh _ _ g1
      have fresh : H1 b = none := by
        rcases hfp b _ g1 with z | z
        · exfalso
          have z1 := sup_sub _ _ z
          obtain ⟨d, okd, rd⟩ := sup_there z
          cases d with
          | non => cases Rep.non_iff.mp rd
          | bl b => cases Rep.bl_iff.mp rd
          | int j => cases Rep.int_iff.mp rd
          | str x => cases Rep.str_iff.mp rd
          | dn _ _ _ => simp [okD] at okd
          | fn f => simp [okD] at okd
          | tup ds =>
            obtain ⟨a, xs, e, t, _⟩ := Rep.tup_iff.mp rd
            cases e
            rcases t with ⟨o, _, t⟩ | ⟨o, its, m, t, _, c, _⟩
            · rw [z1] at t; cases t
            · exact (dt b o t).1 _ hbl c
          | ins C ns ds =>
            obtain ⟨a, dx, xs, e, t, _⟩ := Rep.ins_iff.mp rd
            cases e
            rw [z1] at t; cases t
          | dk kk ds =>
            obtain ⟨a, xs, e, t, _⟩ := Rep.dk_iff.mp rd
            cases e
            rcases t with t | ⟨o, t⟩ <;> (rw [z1] at t; cases t)
          | lst ds =>
            obtain ⟨a, xs, e, t, _, rds⟩ := Rep.lst_iff.mp rd
            cases e
            rw [z1] at t
            cases t
            simp only [okD, Bool.and_eq_true] at okd
            obtain ⟨n1, n2, n3⟩ := okd
            cases ds with
            | nil => simp at n1
            | cons e ds =>
              obtain ⟨w0, wr, rfl, q1, q2⟩ := rds.inv
              cases rs with
              | nil => cases g3.inv0
              | cons r rs =>
                obtain ⟨w0', wr', e', q3, q4⟩ := g3.inv
                cases e'
                have hr := h1.2
                rw [List.all_cons, Bool.and_eq_true] at hr
                have hr := hr.1
                cases r with
                | tup ts =>
                  cases ts with
                  | nil => cases hr
                  | cons t0 tr =>
                    cases t0 with
                    | int i =>
                      obtain ⟨a0, xs, rfl, t1, _, t2⟩ := Rep.tup_iff.mp q3
                      obtain ⟨x0, xr, rfl, t3, t4⟩ := t2.inv
                      cases Rep.int_iff.mp t3
                      rw [List.all_cons, Bool.and_eq_true] at n2
                      simp only [okDs, Bool.and_eq_true] at n3
                      cases e with
                      | non => cases Rep.non_iff.mp q1
                      | bl b => cases Rep.bl_iff.mp q1
                      | int j => cases Rep.int_iff.mp q1
                      | str x => cases Rep.str_iff.mp q1
                      | tup ds2 =>
                        obtain ⟨a1, ys, e5, t5, _, t6⟩ := Rep.tup_iff.mp q1
                        cases e5
                        have := tup_hd dt fh fh1 t1 t5
                        rw [reps_hd t6] at this
                        have n4 := n3.1
                        simp only [okD, Bool.and_eq_true, Bool.not_eq_true'] at n4
                        rw [n4.1] at this
                        cases this
                      | lst _ => cases n2.1
                      | ins _ _ _ => cases n2.1
                      | dk _ _ => cases n2.1
                      | dn _ _ _ => cases n2.1
                      | fn _ => cases n2.1
                    | _ => cases hr
                | _ => cases hr
        · exact z
      refine ⟨b :: bs, rfl, fun x hx => ?_⟩
      rcases List.mem_cons.mp hx with rfl | hx
      · exact ⟨fresh, hne _ _ ha.1 h2', ws, hbl, by rw [g3.len]; exact h1.1⟩
      · exact hb x hx
    | _ => cases ha.1
/-- not frozen as a list of a row of the arguments -/
theorem told_new {F' H1 H' : Hp} (dt : Det K H') (sc : Same (supF K F) F') (fh1 : Same F H') (fh : Same F' H') (hfp : ∀ a o, F' a = some o → supF K F a = some o ∨ H1 a = none) {p : Addr} {es : List D} {vs : List V} (ha : es.all rowT = true) (hp : F' p = some (.lst vs)) (h : Reps K F' es vs) : H1 p = none := by
  rcases hfp p _ hp with z | z
  · exfalso
    have z1 := sup_sub _ _ z
    have hpl := fh _ _ hp
    obtain ⟨d, okd, rd⟩ := sup_there z
    cases d with
    | non => cases Rep.non_iff.mp rd
    | bl b => cases Rep.bl_iff.mp rd
    | int j => cases Rep.int_iff.mp rd
    | str x => cases Rep.str_iff.mp rd
    | dn _ _ _ => simp [okD] at okd
    | fn f => simp [okD] at okd
    | tup ds =>
      obtain ⟨a, xs, e, t, _⟩ := Rep.tup_iff.mp rd
      cases e
      rcases t with ⟨o, _, t⟩ | ⟨o, its, m, t, _, c, _⟩
      · rw [z1] at t; cases t
      · exact (dt p o t).1 _ hpl c
    | ins C ns ds =>
      obtain ⟨a, dx, xs, e, t, _⟩ := Rep.ins_iff.mp rd
      cases e
      rw [z1] at t; cases t
    | dk kk ds =>
      obtain ⟨a, xs, e, t, _⟩ := Rep.dk_iff.mp rd
      cases e
      rcases t with t | ⟨o, t⟩ <;> (rw [z1] at t; cases t)
    | lst ds =>
      obtain ⟨a, xs, e, t, _, rds⟩ := Rep.lst_iff.mp rd
      cases e
      rw [z1] at t
      cases t
      simp only [okD, Bool.and_eq_true] at okd
      obtain ⟨n1, n2, n3⟩ := okd
      cases ds with
      | nil => simp at n1
      | cons e ds =>
        obtain ⟨w0, wr, rfl, q1, q2⟩ := rds.inv
        cases es with
        | nil => cases h.inv0
        | cons r rs =>
          obtain ⟨w0', wr', e', q3, q4⟩ := h.inv
          cases e'
          rw [List.all_cons, Bool.and_eq_true] at ha
          cases r with
          | lst r0 =>
            obtain ⟨b0, ws0, rfl, t1, _, _⟩ := Rep.lst_iff.mp q3
            have hb0 := fh _ _ t1
            rw [List.all_cons, Bool.and_eq_true] at n2
            cases e with
            | non => cases Rep.non_iff.mp q1
            | bl b => cases Rep.bl_iff.mp q1
            | int j => cases Rep.int_iff.mp q1
            | str x => cases Rep.str_iff.mp q1
            | tup ds2 =>
              obtain ⟨a1, ys, e5, t5, _, t6⟩ := Rep.tup_iff.mp q1
              cases e5
              rcases t5 with ⟨o, _, t5⟩ | ⟨o, its, m, t5, _, c, _⟩
              · have := fh1 _ _ t5
                rw [hb0] at this; cases this
              · exact (dt b0 o t5).1 _ hb0 c
            | lst _ => cases n2.1
            | ins _ _ _ => cases n2.1
            | dk _ _ => cases n2.1
            | dn _ _ _ => cases n2.1
            | fn _ => cases n2.1
          | _ => cases ha.1
  · exact z
theorem told_parts {F' H1 H' : Hp} (dt : Det K H') (sc : Same (supF K F) F') (fh1 : Same F H') (fh : Same F' H') (hfp : ∀ a o, F' a = some o → supF K F a = some o ∨ H1 a = none) {p : Addr} {es : List D} {vs : List V} (ha : es.all rowT = true) (hp : F' p = some (.lst vs)) (h : Reps K F' es vs) : ∃ bs : List Addr, vs = bs.map V.ref ∧ ∀ b ∈ bs, H1 b = none ∧ b ≠ p ∧ ∃ ws, H' b = some (.lst ws) ∧ ws.length ≤ 1000 := by
  cases es with
  | nil => exact ⟨[], h.inv0, fun b z => by cases z⟩
  | cons r rs =>
    refine parts_new3 dt sc fh1 fh hfp (p := p) (fun b rs' hr rb e => ?_) ha h
    subst e
    obtain ⟨a, ws, e, t, _, rw1⟩ := Rep.lst_iff.mp rb
    cases e
    rw [hp] at t
    cases t
    obtain ⟨w0, wr, rfl, q1, q2⟩ := h.inv
    rw [List.all_cons, Bool.and_eq_true] at ha
    cases r with
    | lst r0 =>
      obtain ⟨b0, ws0, rfl, t1, _, _⟩ := Rep.lst_iff.mp q1
      have hb0 := fh _ _ t1
      cases rs' with
      | nil => cases rw1.inv0
      | cons x xs =>
        obtain ⟨w0', wr', e', q3, q4⟩ := rw1.inv
        cases e'
        simp only [rowT, Bool.and_eq_true, decide_eq_true_eq] at hr
        have hx := hr.2
        rw [List.all_cons, Bool.and_eq_true] at hx
        cases x with
        | tup ts =>
          obtain ⟨a1, ys, e5, t5, _, t6⟩ := Rep.tup_iff.mp q3
          cases e5
          rcases t5 with ⟨o, _, t5⟩ | ⟨o, its, m, t5, _, c, _⟩
          · rw [t1] at t5; cases t5
          · exact (dt b0 o t5).1 _ hb0 c
        | _ => cases hx.1
    | _ => cases ha.1
end
section
variable {K : Fg} {W : WX}
theorem es_told3 {i : Nat} {ys : List Nat} {ks : List PK} {g : List D → Option D} {a : M (List Op)} {ta : TA} {E : XK} {tm tw : TS} {ok : En → Bool} (ha : Ea K W ta a) (hm : EsB K W tm ok) (hw : Wild2 K i ys tw) :
    Es K W (tSeq (tAsg (tDet K (tCall (SpP K ks g) [] E ta)) (gName i)) (tSeq tm tw)) (mTold2 i ys ks g a ok) := by
  intro C hK hWC al F H σ δ S o ho Z hZ
  subst hK
  subst hWC
  unfold mTold2 at ho
  cases e : a δ with
  | none => rw [e] at ho; cases ho
  | some r =>
    rw [e] at ho
    cases r with
    | ex x δ' => cases ho
    | ok os δ1 =>
      refine ha C rfl rfl al F H σ δ S trivial _ e _ (fun os' δ' e1 al1 F1 H1 vs s1 S1 rel => ?_) fun x δ1 e1 => by cases e1
      cases e1
      cases e2 : rds os δ1 with
      | none => simp only [e2] at ho; cases ho
      | some ds =>
        simp only [e2] at ho
        by_cases hcc : frOk ks os = true ∧ goodA ks ds = true ∧ i < δ1.length ∧ ys.all (fun y => decide (y < δ1.length)) = true
        case neg => rw [if_neg hcc] at ho; cases ho
        rw [if_pos hcc] at ho
        obtain ⟨hf, hn, hi, hys⟩ := hcc
        cases e3 : g ds with
        | none => rw [e3] at ho; cases ho
        | some d =>
          rw [e3] at ho
          cases d with
          | lst es =>
            simp only at ho
            obtain ⟨⟨hp, hk⟩, rfl⟩ := if_some ho
            obtain ⟨l1, l2, St1⟩ := S1.callee rel e2 hf
            refine ⟨{ K := C.K, P := H1, B := H1, F0 := supF C.K F1, bt := fun _ => 0, W := C.W }, fun _ => 0, ds, .ok (.lst es) [], rfl, by rw [List.append_nil]; exact l1, l2, (by rw [List.append_nil]; exact St1.supC hn), (by show (g ds).map _ = _; rw [e3]; rfl), fun d δ' e5 al' F' H' σ' v s' S' rv dt => ?_, fun x δ' e5 => by cases e5⟩
            cases e5
            have sH : Same H1 H' := S'.ph
            unfold partT2 at hp
            simp only [Bool.and_eq_true, decide_eq_true_eq] at hp
            obtain ⟨p, us, rfl, g0, g2, g3⟩ := Rep.lst_iff.mp rv
            have g1 := S'.fh _ _ g0
            have n2 : H1 p = none := told_new dt s' (S1.fh.trans sH) S'.fh S'.fp hp.2 g0 g3
            obtain ⟨bs, rfl, hb⟩ := told_parts (F := F1) (H1 := H1) dt s' (S1.fh.trans sH) S'.fh S'.fp hp.2 g0 g3
            have lb : bs.length ≤ 1000 := by have := g3.len; rw [List.length_map] at this; rw [this]; exact hp.1
            -- frozen things together
            obtain ⟨F2, hF2⟩ : ∃ F2 : Hp, F2 = fun a => match F1 a with
              | some o => some o
              | none => F' a := ⟨_, rfl⟩
            have f12 : Same F1 F2 := fun a o q => by rw [hF2]; simp only [q]
            have f22 : Same F' F2 := fun a o q => by
              rw [hF2]
              cases w : F1 a with
              | none => simp only [w]; exact q
              | some u =>
                simp only [w]
                have h1 := sH _ _ (S1.fh _ _ w)
                have h2 := S'.fh _ _ q
                rw [h1] at h2
                exact h2
            have f2h : Same F2 H' := fun a o q => by
              rw [hF2] at q
              cases w : F1 a with
              | none => simp only [w] at q; exact S'.fh _ _ q
              | some u => simp only [w] at q; rw [← q]; exact sH _ _ (S1.fh _ _ w)
            have lσ : σ.length = δ1.length := S1.len
            have kept : Kept C.K F2 H' (σ.set i (some (.ref p))) ((borE δ1).set i (.bo (.lst es))) := by
              have key : ∀ (j : Nat) s, ((borE δ1).set i (Sl.bo (.lst es)))[j]? = some s → (j = i ∧ s = Sl.bo (.lst es)) ∨ (j ≠ i ∧ ∃ s0, δ1[j]? = some s0 ∧ s = borS s0) := fun j s q => by
                by_cases z : j = i
                · subst z
                  rw [List.getElem?_set_self (by unfold borE; rw [List.length_map]; exact hi)] at q
                  exact Or.inl ⟨rfl, (Option.some.inj q).symm⟩
                · rw [List.getElem?_set_ne (Ne.symm z)] at q
                  unfold borE at q
                  rw [List.getElem?_map] at q
                  obtain ⟨s0, w1, w2⟩ := Option.map_eq_some_iff.mp q
                  exact Or.inr ⟨z, s0, w1, w2.symm⟩
              have sg : ∀ j, j ≠ i → (σ.set i (some (V.ref p)))[j]? = σ[j]? := fun j z => List.getElem?_set_ne (Ne.symm z)
              refine ⟨f2h, by rw [List.length_set, List.length_set]; unfold borE; rw [List.length_map]; exact lσ, fun j d q => ?_, fun j d q => ?_, fun j s q => ?_⟩
              · rcases key j _ q with ⟨_, z⟩ | ⟨nj, s0, w1, w2⟩
                · cases z
                · rw [sg j nj]
                  cases s0 with
                  | fr d0 =>
                    cases w2
                    obtain ⟨v, h1, h2⟩ := S1.fr j _ w1
                    exact ⟨v, h1, h2.mono f12⟩
                  | _ => cases w2
              · rcases key j _ q with ⟨ej, z⟩ | ⟨nj, s0, w1, w2⟩
                · cases z
                  subst ej
                  exact ⟨.ref p, List.getElem?_set_self (by rw [lσ]; exact hi), Or.inl (rv.mono f22)⟩
                · rw [sg j nj]
                  cases s0 with
                  | bo d0 =>
                    cases w2
                    obtain ⟨v, h1, h2⟩ := S1.bo j _ w1
                    exact ⟨v, h1, h2.mono f12 ((S1.bp.trans S1.ph).trans sH)⟩
                  | ow d0 =>
                    cases w2
                    obtain ⟨h1, h2, h3, h4⟩ := S1.ow j _ _ w1 rfl
                    exact ⟨_, h1, Or.inr ⟨_, rfl, h4.mono f12 fun o q => sH _ _ q⟩⟩
                  | io d0 =>
                    cases w2
                    obtain ⟨h1, h2, h3, h4⟩ := S1.ow j _ _ w1 rfl
                    exact ⟨_, h1, Or.inr ⟨_, rfl, h4.mono f12 fun o q => sH _ _ q⟩⟩
                  | _ => cases w2
              · rcases key j _ q with ⟨_, z⟩ | ⟨_, s0, _, w2⟩
                · exact Or.inr (Or.inl ⟨_, z⟩)
                · cases s0 <;> (subst w2; first | exact Or.inl ⟨_, rfl⟩ | exact Or.inr (Or.inl ⟨_, rfl⟩) | exact Or.inr (Or.inr rfl))
            refine hm F2 H' _ _ kept hk _ fun H2 s2 => ?_
            have lo : Loose C.K i H1 p 0 (σ.set i (some (.ref p))) H2 := ⟨List.getElem?_set_self (by rw [lσ]; exact hi), n2, sH.trans s2, bs, s2 _ _ g1, by omega, fun b hb' => by
              obtain ⟨w1, w2, ws, w3, w4⟩ := hb b hb'
              exact ⟨w1, w2, ws, s2 _ _ w3, by omega⟩⟩
            refine hw H1 p _ H2 lo (fun y hy => by rw [List.length_set, lσ]; exact of_decide_eq_true (List.all_eq_true.mp hys y hy)) Z fun σ3 H3 s3 l3 a3 => ?_
            have S3 : StOk C al1 F1 H3 σ δ1 := S1.new ⟨Same.refl _, S1.fh.trans s3, s3, fun _ _ q => Or.inl q⟩
            refine (hZ.mono s1) al1 F1 H3 σ3 (Same.refl _) (S3.wiped (by rw [l3, List.length_set]) fun j hj => ?_)
            rw [a3 j fun z => hj (List.mem_cons_of_mem _ z)]
            exact List.getElem?_set_ne fun z => hj (by rw [z]; exact List.mem_cons_self)
          | _ => cases ho
end
section
variable {X : Cx} {W : WX}
theorem b_told22P {K : Fg} {i r : Nat} {x y fx : Str} {ps : List Str} {k0 j : Nat} {ks : List PK} {g : List D → Option D} {a0 : Expr} {as : List Expr} {c1 it e2 e3 e4 : Expr} {b1 : List Stmt} {pos' pos1 p1 p2 p3 p4 p5 py cp cp2 : Pos} {t : TA} {m : M (List Op)} {tc1 : TT} {mc1 : M Bool} {u1 : TS} {n1 : Ms} {n a b : Int}
    (hN : X.N.Nodup) (c : CallP X.prog X.w X.K X.mg X.base fx k0 ps ks g) (hr : Room j X.A) (ha : XA X W (a0 :: as) t m) (h1 : XT X W c1 tc1 mc1) (hb1 : XB X W b1 u1 n1)
    (hp : PassesOwn (model X.prog X.w) X.A X.env X.xe) (hcm : X.calm = true) (hit : PE X it (tSl (rSlAny K) (tVar i) tNoPart (tPart (tC (.int n))))) (hgy : PG X (.Name y py) (gName r)) (h2 : PE X e2 (tBM K "list" rAppend (tVar r) (tCons (tTupZ (tCons (tC (.int a)) (tCons (tC (.int b)) tNil))) tNil)))
    (h3 : PE X e3 (tBM K "list" rAppend (tVar i) (tCons (tLst tNil) tNil))) (h4 : PE X e4 (tBM0 K "list" rReverse (tVar i))) (hir : i ≠ r := by decide)
    (hkj : k0 ≤ j := by decide) (hg : Gl X fx := by rfl) (hdb : (fx == ("__debug__" : Str)) = false := by decide) (hse : starEach (a0 :: as) X.env = (false, eval a0 X.env) :: starEach as X.env := by rfl) (hpl : (backTo cp (starEach as X.env)).any (·.1) = false := by rfl)
    (hi : X.N[i]? = some x := by rfl) (hx : Loc X.env.scope x := by first | exact Or.inl rfl | exact Or.inr rfl) (hs : swapsWith (.Call (.Name fx cp2) (a0 :: as) [] cp) (some (.Name x pos')) pos1.line X.env = pure false := by rfl) (hf : X.fn x = true ∨ X.env.scope.names.lookup x = some .local := by first | exact .inl rfl | exact .inr rfl)
    (hs1 : ∀ z : Value, foldedSetIterable it X.env z = pure z := by intro _; rfl) (hs2 : swapsWith e2 none p5.line X.env = pure false := by rfl) (hs3 : swapsWith e3 none p3.line X.env = pure false := by rfl) (hs4 : swapsWith e4 none p4.line X.env = pure false := by rfl) (hK : X.K = K := by rfl) :
    XB X W [.Assign [.Name x pos'] (.Call (.Name fx cp2) (a0 :: as) [] cp) pos1, .If c1 b1 [] p1, .For (.Name y py) it [.Expr e2 p5] [] p2, .Expr e3 p3, .Expr e4 p4] (tSeq (tAsg (tDet K (tCall (SpP K ks g) [] E0 t)) (gName i)) (tSeq (tIfS tc1 u1 tNext) (tSeq (tFor22 K i r n a b) (tEnd22 K i)))) (mTold2 i [r] ks g m (okF mc1)) := by
  subst hK
  have hc := x_cq (p2 := cp2) (pos := cp) c hr ha hkj hg hdb hse hpl
  refine ⟨pss_cons (ps_set hN hi hx (pe_det hc.p) hs hf) (pss_cons (ps_if h1.p hb1.p (b_nil (W := W)).p) (pss_cons (ps_for hp hcm (pi_list hit) hgy (pss_one (ps_expr h2 hs2)) hs1) (pss_cons (ps_expr h3 hs3) (pss_one (ps_expr h4 hs4))))), ?_⟩
  exact es_told3 (E := E0) (ks := ks) (i := i) (ys := [r]) (g := g) ha.v (esB_if (t := u1) h1.v) (wild22 (K := X.K) (i := i) (j := r) (n := n) (a := a) (b := b) hir)
end
end DL

set_option Elab.async false
set_option linter.all false
set_option maxRecDepth 100000
set_option maxHeartbeats 4000000
namespace GA
open PySem L2 DL G
/-! ### the text by places -/
def top (i : Nat) : Stmt := PySem.Challenge.pw_endsum_k22_pairings_told.main.body.getD i (.Pass ⟨0, 0, 0, 0⟩)
abbrev s_is_name : Stmt := top 7
abbrev s_is_sort_row : Stmt := top 8
abbrev s_are_sorts : Stmt := top 9
abbrev s_is_kind_row : Stmt := top 10
abbrev s_are_kinds : Stmt := top 11
abbrev s_Stock___init__ : Stmt := inClass (top 12) 0
abbrev s_is_sort : Stmt := top 13
abbrev s_is_kind : Stmt := top 14
abbrev s_ends_of : Stmt := top 16
abbrev s_are_corners : Stmt := top 19
abbrev s_is_leg : Stmt := top 20
abbrev s_are_legs : Stmt := top 21
abbrev s_sure_corners : Stmt := top 22
abbrev s_factorial : Stmt := top 25
abbrev s_partner_of : Stmt := top 15
abbrev s_ends_there : Stmt := top 23
abbrev s_ways_to_pair : Stmt := top 28
abbrev s_count : Stmt := top 29
abbrev s_next_pairs : Stmt := top 30
abbrev s_pairings : Stmt := top 31
abbrev s__law_state : Stmt := top 34
abbrev s__law_pick : Stmt := top 35
abbrev s__law_words : Stmt := top 36
abbrev s__law_stock_rows : Stmt := top 37
abbrev s__law_there : Stmt := top 38
abbrev s__law_wanted : Stmt := top 39
abbrev s__law_grounds : Stmt := top 40
abbrev s__law_all_pairings : Stmt := top 41
abbrev s__law_right : Stmt := top 42
abbrev s_law : Stmt := top 43
structure Txt (K : Fg) (mg : Str → Option Value) (c : Cs) : Prop where
  b_abs : mg "abs" = none
  b_all : mg "all" = none
  b_dict : mg "dict" = none
  b_enumerate : mg "enumerate" = none
  b_int : mg "int" = none
  b_isinstance : mg "isinstance" = none
  b_len : mg "len" = none
  b_list : mg "list" = none
  b_max : mg "max" = none
  b_range : mg "range" = none
  b_set : mg "set" = none
  b_sorted : mg "sorted" = none
  b_str : mg "str" = none
  b_tuple : mg "tuple" = none
  b_zip : mg "zip" = none
  c_LETTERS : ∃ t, mg "LETTERS" = some (.str "abcdefghijklmnopqrstuvwxyz" t)
  c_MOST : ∃ t, mg "MOST" = some (.int 6 t)
  c_MOST_ENDS : ∃ t, mg "MOST_ENDS" = some (.int 10 t)
  f_stock_kinds : ∀ C ∈ [c.stock], ClsOk K C "kinds"
  f_stock_sorts : ∀ C ∈ [c.stock], ClsOk K C "sorts"
  k_stock_kinds : ClsOk K c.stock "kinds"
  k_stock_sorts : ClsOk K c.stock "sorts"
/-! ### what each def computes -/
abbrev N_pairings : List Str := ["stock", "corners", "legs", "ends", "found", "turn", "longer", "row", "pair"]
noncomputable def E_pairings_0 (c : Cs) : M D := m2 addD (mOv 7) (mVal (mLst (mdCons (mVar 8) mdNil)))
noncomputable def L_pairings_0 (c : Cs) : M D := mLc (mSeqOf (mCallP [.fr, .fr, .fr] (g_next_pairs c) (maCons (mVal (mVar 0)) (maCons (mVal (mVar 3)) (maCons (mVal (mVar 7)) maNil))))) (gN 8) mYes (E_pairings_0 c) [8]
noncomputable def B_pairings_0 (c : Cs) : Ms := mDrop (mMut extF 6 (mdCons (L_pairings_0 c) mdNil))
noncomputable def B_pairings_1 (c : Cs) : Ms := mSeq (mAsgO 6 (mLst mdNil)) (mSeq (mFor (mSeqB 4) (gN 7) (B_pairings_0 c)) (mAsg (gN 4) (mVar 6)))
noncomputable def m_pairings (c : Cs) : Ms := mSeq (mDrop (mCallP [.fr, .bo, .bo] (g_sure_corners c) (maCons (mVal (mVar 0)) (maCons (mOv 1) (maCons (mOv 2) maNil))))) (mSeq (mAsgO 3 (mCallN [.fr, .bo, .bo] (g_ends_there c) (maCons (mVal (mVar 0)) (maCons (mOv 1) (maCons (mOv 2) maNil))))) (mSeq (mIf (mTest (m2 (fI0 fun i j => .bl (decide (j < i))) (mVal (mA (fA1 lenD) (maCons (mOv 3) maNil))) (mVal (mC (.int 10))))) (mNever) (mNext)) (mSeq (mIf (mTest (m2 eqD (mVal (m2 (fI modOk fun i j => .int (i % j)) (mVal (mA (fA1 lenD) (maCons (mOv 3) maNil))) (mVal (mC (.int 2))))) (mVal (mC (.int 1))))) (mRet (mLst mdNil)) (mNext)) (mSeq (mAsgO 4 (mLst (mdCons (mLst mdNil) mdNil))) (mSeq (mFor (mIt rg1 (mdCons (m2 (fI divOk fun i j => .int (i / j)) (mVal (mA (fA1 lenD) (maCons (mOv 3) maNil))) (mVal (mC (.int 2)))) mdNil)) (gN 5) (B_pairings_1 c)) (mRet (mVar 4)))))))
noncomputable def g_pairings (c : Cs) : List D → Option D := defG 9 [.fr, .bo, .bo] (m_pairings c)
abbrev N__law_all_pairings : List Str := ["_law_sorts", "_law_ends", "_law_rows", "_law_turn", "_law_longer", "_law_row", "_law_left", "_law_sort", "_law_number", "_law_rest", "_law_one"]
noncomputable def E__law_all_pairings_0 (c : Cs) : M D := mVar 10
noncomputable def T__law_all_pairings_0 (c : Cs) : M Bool := (mTest (m2 neD (mOv 10) (mOv 8)))
noncomputable def L__law_all_pairings_0 (c : Cs) : M D := mLc (mSeqOf (mSl slD (mOv 6) (mpSome (mC (.int 1))) mpNone)) (gN 10) (T__law_all_pairings_0 c) (E__law_all_pairings_0 c) [10]
noncomputable def B__law_all_pairings_0 (c : Cs) : Ms := mIf (mTest (m2 eqD (mVal (m2 ixD (mVal (m2 ixD (mOv 1) (mOv 8))) (mVal (mC (.int 1))))) (mOv 7))) (mSeq (mAsgO 9 (L__law_all_pairings_0 c)) (mDrop (mMut appF 4 (mdCons (mTup (mdCons (m2 addD (mOv 5) (mVal (mLst (mdCons (mTup (mdCons (m2 ixD (mOv 6) (mVal (mC (.int 0)))) (mdCons (mVar 8) mdNil))) mdNil)))) (mdCons (mVar 9) mdNil))) mdNil)))) (mNext)
noncomputable def B__law_all_pairings_1 (c : Cs) : Ms := mSeq (mAsg (gN 7) (m2 dgetD (mVal (mA (fA1 dictD) (maCons (mOv 0) maNil))) (mVal (m2 ixD (mVal (m2 ixD (mOv 1) (mVal (m2 ixD (mOv 6) (mVal (mC (.int 0))))))) (mVal (mC (.int 1))))))) (mFor (mSeqOf (mSl slD (mOv 6) (mpSome (mC (.int 1))) mpNone)) (gN 8) (B__law_all_pairings_0 c))
noncomputable def B__law_all_pairings_2 (c : Cs) : Ms := mSeq (mAsgO 4 (mLst mdNil)) (mSeq (mFor (mSeqB 2) (gT (gsC (gN 5) (gsC (gN 6) gs0))) (B__law_all_pairings_1 c)) (mAsg (gN 2) (mVar 4)))
noncomputable def E__law_all_pairings_1 (c : Cs) : M D := mVar 5
noncomputable def L__law_all_pairings_1 (c : Cs) : M D := mLc (mSeqB 2) (gT (gsC (gN 5) (gsC (gN 6) gs0))) mYes (E__law_all_pairings_1 c) [5, 6]
noncomputable def m__law_all_pairings (c : Cs) : Ms := mSeq (mAsgO 2 (mLst (mdCons (mTup (mdCons (mLst mdNil) (mdCons (mn1 lrF1 (mVal (mA (fA1 lenD) (maCons (mOv 1) maNil)))) mdNil))) mdNil))) (mSeq (mFor (mIt rg1 (mdCons (m2 (fI divOk fun i j => .int (i / j)) (mVal (m2 addD (mVal (mA (fA1 lenD) (maCons (mOv 1) maNil))) (mVal (mC (.int 1))))) (mVal (mC (.int 2)))) mdNil)) (gN 3) (B__law_all_pairings_2 c)) (mRet (L__law_all_pairings_1 c)))
noncomputable def g__law_all_pairings (c : Cs) : List D → Option D := defG 11 [.fr, .fr] (m__law_all_pairings c)
abbrev N__law_right : List Str := ["_law_stock", "_law_sorts", "_law_ends", "_law_corners", "_law_legs", "_law_due", "_law_turn", "_law_found", "_law_row"]
noncomputable def B__law_right_0 (c : Cs) : Ms := mTold2 7 [8] [.fr, .bo, .bo] (g_pairings c) (maCons (mVal (mVar 0)) (maCons (mOv 3) (maCons (mOv 4) maNil))) (okF (mOr (mNot (mTest (m1 (isB "list") (mOv 7)))) (mOr (mTest (m2 neD (mOv 7) (mOv 5))) (mTest (m2 neD (mVal (mA (fA1 lenD) (maCons (mOv 7) maNil))) (mVal (mCallP [.fr, .bo, .bo] (g_count c) (maCons (mVal (mVar 0)) (maCons (mOv 3) (maCons (mOv 4) maNil))))))))))
noncomputable def m__law_right (c : Cs) : Ms := mSeq (mAsg (gN 5) (mCallP [.fr, .fr] (g__law_all_pairings c) (maCons (mVal (mVar 1)) (maCons (mVal (mVar 2)) maNil)))) (mSeq (mFor (mIt rg1 (mdCons (mC (.int 2)) mdNil)) (gN 6) (B__law_right_0 c)) (mRet (mC (.bl true))))
noncomputable def g__law_right (c : Cs) : List D → Option D := defG 9 [.fr, .fr, .fr, .fr, .fr] (m__law_right c)
abbrev N_law : List Str := ["_law_script", "_law_cell", "_law_state_here", "_law_far", "_law_sorts", "_law_kinds", "_law_corners", "_law_legs", "_law_way"]
noncomputable def B_law_0 (c : Cs) : Ms := mSeq (mAsgO 2 (mCallN [.fr] (g__law_state c) (maCons (mVal (mVar 1)) maNil))) (mSeq (mAsg (gN 3) (m2 ixD (mVal (mLst (mdCons (mC (.int 6)) (mdCons (mC (.int 8)) (mdCons (mC (.int 8)) (mdCons (mC (.int 8)) (mdCons (mC (.int 8)) (mdCons (mC (.int 10)) mdNil)))))))) (mVal (mCallI 2 [.fr] (g__law_pick c) (maCons (mVal (mC (.int 6))) maNil))))) (mSeq (mAsg (gT (gsC (gN 4) (gsC (gN 5) gs0))) (mCallI 2 [.fr] (g__law_stock_rows c) (maCons (mVal (mC (.int 4))) maNil))) (mSeq (mAsg (gT (gsC (gN 6) (gsC (gN 7) gs0))) (mCallI 2 [.fr, .fr, .fr, .fr] (g__law_grounds c) (maCons (mVal (mVar 4)) (maCons (mVal (mVar 5)) (maCons (mVal (mC (.int 4))) (maCons (mVal (mVar 3)) maNil)))))) (mSeq (mAsg (gN 8) (mCallI 2 [.fr] (g__law_pick c) (maCons (mVal (mC (.int 6))) maNil))) (mSeq (mIf (mTest (m2 eqD (mOv 8) (mVal (mC (.int 0))))) (mAsg (gN 7) (mSl slD (mOv 7) (mpSome (mC (.int 1))) mpNone)) (mNext)) (mSeq (mIf (mAnd (mTest (m2 eqD (mOv 8) (mVal (mC (.int 1))))) (mAnd (mTest (m2 (fI0 fun i j => .bl (decide (i < j))) (mVal (mA (fA1 lenD) (maCons (mOv 7) maNil))) (mVal (mC (.int 6))))) (mTest (m2 (fI0 fun i j => .bl (decide (i < j))) (mVal (mA (fA1 lenD) (maCons (mVal (mCallP [.fr, .bo, .bo] (g__law_there c) (maCons (mVal (mVar 5)) (maCons (mOv 6) (maCons (mOv 7) maNil))))) maNil))) (mOv 3))))) (mAsgO 7 (mnA (fN1 sortF) (maCons (mVal (m2 addD (mOv 7) (mVal (mLst (mdCons (mTup (mdCons (mC (.str "zz")) (mdCons (m2 ixD (mVal (m2 ixD (mOv 4) (mVal (mCallI 2 [.fr] (g__law_pick c) (maCons (mVal (mA (fA1 lenD) (maCons (mOv 4) maNil))) maNil))))) (mVal (mC (.int 0)))) mdNil))) mdNil))))) maNil))) (mNext)) (mIf (mNot (mTest (mCallP [.fr, .fr, .fr, .fr, .fr] (g__law_right c) (maCons (mVal (mMakeP c.stock [.bo, .bo] (g_Stock___init__ c) (maCons (mOv 4) (maCons (mOv 5) maNil)))) (maCons (mVal (mVar 4)) (maCons (mVal (mCallP [.fr, .bo, .bo] (g__law_there c) (maCons (mVal (mVar 5)) (maCons (mOv 6) (maCons (mOv 7) maNil))))) (maCons (mVal (mVar 6)) (maCons (mVal (mVar 7)) maNil)))))))) (mRet (mC (.bl false))) (mNext))))))))
noncomputable def m_law (c : Cs) : Ms := mSeq (mFor (mSeqOf (m2 addD (mVal (mScSl 0 none (some 3))) (mVal (mLst (mdCons (mC (.int 5)) mdNil))))) (gN 1) (B_law_0 c)) (mRet (mC (.bl true)))
/-! ### it does -/
section
variable {P : Program} {w : World} {K : Fg} {mg : Str → Option Value} {base : Heap} {c : Cs}
theorem sc_is_name : FnScope N_is_name ["thing"] (defScope s_is_name) := ⟨rfl, rfl, rfl, by decide +kernel, rfl, by decide +kernel, by decide +kernel⟩
theorem ok_is_name {f : Addr} {fd : FuncData} (F : Fun K "is_name" "is_name" s_is_name f fd) (T : Txt K mg c) : FnOk P w K mg base CX0 1 f fd ["thing"] (SpP K [.fr] (g_is_name c)) :=
  fn_g (N := N_is_name) (k := 0) F sc_is_name rfl fun cdv A outer s H E hr => ⟨_, b_cons (s_if (t_w (w_or (t_not (t_val (x_isi (K := K) T.b_isinstance T.b_str (by decide +kernel) (o_var 0)))) (w_or1 (t_not (t_leLe (o_e (x_int)) (o_e (x_len (K := K) T.b_len (o_var 0))) (o_e (x_int))))))) (b_one (s_ret (x_bl))) (b_nil)) (b_one (s_ret (x_all (K := K) rfl T.b_all (o_e (x_n (n_lc (own := [("letter", 1)]) rfl sc_is_name.nd (i_str (x_var 0)) (blkOk_by (own := [("letter", 1)]) (N := N_is_name) (sc := defScope s_is_name) (by decide +kernel)) (fun _ _ _ _ _ => (g_name (vs := [1]) 1 sc_is_name.nd)) (fun _ _ _ _ _ => ts_nil) (fun _ _ _ _ _ => x_inS (o_var 1) (o_e (x_globS T.c_LETTERS.choose_spec)))))))))⟩
theorem sc_is_sort_row : FnScope N_is_sort_row ["thing"] (defScope s_is_sort_row) := ⟨rfl, rfl, rfl, by decide +kernel, rfl, by decide +kernel, by decide +kernel⟩
theorem ok_is_sort_row {f : Addr} {fd : FuncData} (F : Fun K "is_sort_row" "is_sort_row" s_is_sort_row f fd) (T : Txt K mg c) (h_is_name : CallP P w K mg base "is_name" 1 ["thing"] [.fr] (g_is_name c)) : FnOk P w K mg base CX0 2 f fd ["thing"] (SpP K [.fr] (g_is_sort_row c)) :=
  fn_g (N := N_is_sort_row) (k := 1) F sc_is_sort_row rfl fun cdv A outer s H E hr => ⟨_, b_one (s_ret (x_and (x_isi (K := K) T.b_isinstance T.b_tuple (by decide +kernel) (o_var 0)) (x_and (x_eq (K := K) hr (o_e (x_len (K := K) T.b_len (o_var 0))) (o_e (x_int))) (x_and (x_cq (K := K) h_is_name hr (a_cons (o_e (x_ix (K := K) (o_var 0) (o_e (x_int)))) a_nil)) (x_one (x_cq (K := K) h_is_name hr (a_cons (o_e (x_ix (K := K) (o_var 0) (o_e (x_int)))) a_nil)))))))⟩
theorem sc_are_sorts : FnScope N_are_sorts ["thing"] (defScope s_are_sorts) := ⟨rfl, rfl, rfl, by decide +kernel, rfl, by decide +kernel, by decide +kernel⟩
theorem ok_are_sorts {f : Addr} {fd : FuncData} (F : Fun K "are_sorts" "are_sorts" s_are_sorts f fd) (T : Txt K mg c) (h_is_sort_row : CallP P w K mg base "is_sort_row" 2 ["thing"] [.fr] (g_is_sort_row c)) : FnOk P w K mg base CX0 3 f fd ["thing"] (SpP K [.bo] (g_are_sorts c)) :=
  fn_g (N := N_are_sorts) (k := 2) F sc_are_sorts rfl fun cdv A outer s H E hr => ⟨_, b_cons (s_if (t_w (w_or (t_not (t_val (x_isi (K := K) T.b_isinstance T.b_list (by decide +kernel) (o_var 0)))) (w_or (t_not (t_leLe (o_e (x_int)) (o_e (x_len (K := K) T.b_len (o_var 0))) (o_e (x_int)))) (w_or1 (t_not (t_val (x_all (K := K) rfl T.b_all (o_e (x_n (n_lc (own := [("row", 1)]) rfl sc_are_sorts.nd (i_listB (K := K) (x_var 0)) (blkOk_by (own := [("row", 1)]) (N := N_are_sorts) (sc := defScope s_are_sorts) (by decide +kernel)) (fun _ _ _ _ _ => (g_name (vs := [1]) 1 sc_are_sorts.nd)) (fun _ _ _ _ _ => ts_nil) (fun _ _ _ _ _ => x_cq (K := K) h_is_sort_row hr (a_cons (o_e (x_var 1)) a_nil)))))))))))) (b_one (s_ret (x_bl))) (b_nil)) (b_cons (s_if (t_lt (o_e (x_lenSet (K := K) rfl T.b_len T.b_set (o_e (x_n (n_lc (own := [("sort", 2), ("partner", 3)]) rfl sc_are_sorts.nd (i_listB (K := K) (x_var 0)) (blkOk_by (own := [("sort", 2), ("partner", 3)]) (N := N_are_sorts) (sc := defScope s_are_sorts) (by decide +kernel)) (fun _ _ _ _ _ => (g_tup (K := K) rfl (gs_cons (g_name (vs := [2, 3]) 2 sc_are_sorts.nd) (gs_cons (g_name (vs := [2, 3]) 3 sc_are_sorts.nd) gs_nil)))) (fun _ _ _ _ _ => ts_nil) (fun _ _ _ _ _ => x_var 2)))))) (o_e (x_len (K := K) T.b_len (o_var 0)))) (b_one (s_ret (x_bl))) (b_nil)) (b_one (s_ret (x_all (K := K) rfl T.b_all (o_e (x_n (n_lc (own := [("sort", 2), ("partner", 3)]) rfl sc_are_sorts.nd (i_listB (K := K) (x_var 0)) (blkOk_by (own := [("sort", 2), ("partner", 3)]) (N := N_are_sorts) (sc := defScope s_are_sorts) (by decide +kernel)) (fun _ _ _ _ _ => (g_tup (K := K) rfl (gs_cons (g_name (vs := [2, 3]) 2 sc_are_sorts.nd) (gs_cons (g_name (vs := [2, 3]) 3 sc_are_sorts.nd) gs_nil)))) (fun _ _ _ _ _ => ts_nil) (fun _ _ _ _ _ => x_inL (K := K) hr (o_e (x_tup (d_cons (x_var 3) (d_cons (x_var 2) d_nil)))) (o_var 0)))))))))⟩
theorem sc_is_kind_row : FnScope N_is_kind_row ["thing", "sorts"] (defScope s_is_kind_row) := ⟨rfl, rfl, rfl, by decide +kernel, rfl, by decide +kernel, by decide +kernel⟩
theorem ok_is_kind_row {f : Addr} {fd : FuncData} (F : Fun K "is_kind_row" "is_kind_row" s_is_kind_row f fd) (T : Txt K mg c) (h_is_name : CallP P w K mg base "is_name" 1 ["thing"] [.fr] (g_is_name c)) : FnOk P w K mg base CX0 2 f fd ["thing", "sorts"] (SpP K [.fr, .fr] (g_is_kind_row c)) :=
  fn_g (N := N_is_kind_row) (k := 1) F sc_is_kind_row rfl fun cdv A outer s H E hr => ⟨_, b_cons (s_if (t_w (w_or (t_not (t_val (x_isi (K := K) T.b_isinstance T.b_tuple (by decide +kernel) (o_var 0)))) (w_or (t_ne (K := K) hr (o_e (x_len (K := K) T.b_len (o_var 0))) (o_e (x_int))) (w_or1 (t_not (t_val (x_cq (K := K) h_is_name hr (a_cons (o_e (x_ix (K := K) (o_var 0) (o_e (x_int)))) a_nil)))))))) (b_one (s_ret (x_bl))) (b_nil)) (b_cons (s_set 2 (x_ix (K := K) (o_var 0) (o_e (x_int))) sc_is_kind_row.nd) (b_cons (s_if (t_w (w_or (t_not (t_val (x_isi (K := K) T.b_isinstance T.b_tuple (by decide +kernel) (o_var 2)))) (w_or (t_not (t_leLe (o_e (x_int)) (o_e (x_len (K := K) T.b_len (o_var 2))) (o_e (x_int)))) (w_or1 (t_not (t_val (x_all (K := K) rfl T.b_all (o_e (x_n (n_lc (own := [("sort", 3)]) rfl sc_is_kind_row.nd (i_tup (K := K) (x_var 2)) (blkOk_by (own := [("sort", 3)]) (N := N_is_kind_row) (sc := defScope s_is_kind_row) (by decide +kernel)) (fun _ _ _ _ _ => (g_name (vs := [3]) 3 sc_is_kind_row.nd)) (fun _ _ _ _ _ => ts_nil) (fun _ _ _ _ _ => x_cq (K := K) h_is_name hr (a_cons (o_e (x_var 3)) a_nil)))))))))))) (b_one (s_ret (x_bl))) (b_nil)) (b_one (s_ret (x_and (x_all (K := K) rfl T.b_all (o_e (x_n (n_lc (own := [("sort", 3)]) rfl sc_is_kind_row.nd (i_tup (K := K) (x_var 2)) (blkOk_by (own := [("sort", 3)]) (N := N_is_kind_row) (sc := defScope s_is_kind_row) (by decide +kernel)) (fun _ _ _ _ _ => (g_name (vs := [3]) 3 sc_is_kind_row.nd)) (fun _ _ _ _ _ => ts_nil) (fun _ _ _ _ _ => x_inL (K := K) hr (o_var 3) (o_var 1)))))) (x_one (x_eq (K := K) hr (o_e (x_n (n_list (K := K) T.b_list (o_var 2)))) (o_e (x_n (n_sorted (K := K) hr T.b_sorted (o_var 2)))))))))))⟩
theorem sc_are_kinds : FnScope N_are_kinds ["thing", "sorts"] (defScope s_are_kinds) := ⟨rfl, rfl, rfl, by decide +kernel, rfl, by decide +kernel, by decide +kernel⟩
theorem ok_are_kinds {f : Addr} {fd : FuncData} (F : Fun K "are_kinds" "are_kinds" s_are_kinds f fd) (T : Txt K mg c) (h_is_kind_row : CallP P w K mg base "is_kind_row" 2 ["thing", "sorts"] [.fr, .fr] (g_is_kind_row c)) : FnOk P w K mg base CX0 3 f fd ["thing", "sorts"] (SpP K [.bo, .fr] (g_are_kinds c)) :=
  fn_g (N := N_are_kinds) (k := 2) F sc_are_kinds rfl fun cdv A outer s H E hr => ⟨_, b_cons (s_if (t_w (w_or (t_not (t_val (x_isi (K := K) T.b_isinstance T.b_list (by decide +kernel) (o_var 0)))) (w_or1 (t_not (t_leLe (o_e (x_int)) (o_e (x_len (K := K) T.b_len (o_var 0))) (o_e (x_int))))))) (b_one (s_ret (x_bl))) (b_nil)) (b_cons (s_if (t_not (t_val (x_all (K := K) rfl T.b_all (o_e (x_n (n_lc (own := [("row", 2)]) rfl sc_are_kinds.nd (i_listB (K := K) (x_var 0)) (blkOk_by (own := [("row", 2)]) (N := N_are_kinds) (sc := defScope s_are_kinds) (by decide +kernel)) (fun _ _ _ _ _ => (g_name (vs := [2]) 2 sc_are_kinds.nd)) (fun _ _ _ _ _ => ts_nil) (fun _ _ _ _ _ => x_cq (K := K) h_is_kind_row hr (a_cons (o_e (x_var 2)) (a_cons (o_e (x_var 1)) a_nil))))))))) (b_one (s_ret (x_bl))) (b_nil)) (b_one (s_ret (x_eq (K := K) hr (o_e (x_lenSet (K := K) rfl T.b_len T.b_set (o_e (x_n (n_lc (own := [("name", 3), ("ends", 4)]) rfl sc_are_kinds.nd (i_listB (K := K) (x_var 0)) (blkOk_by (own := [("name", 3), ("ends", 4)]) (N := N_are_kinds) (sc := defScope s_are_kinds) (by decide +kernel)) (fun _ _ _ _ _ => (g_tup (K := K) rfl (gs_cons (g_name (vs := [3, 4]) 3 sc_are_kinds.nd) (gs_cons (g_name (vs := [3, 4]) 4 sc_are_kinds.nd) gs_nil)))) (fun _ _ _ _ _ => ts_nil) (fun _ _ _ _ _ => x_var 3)))))) (o_e (x_len (K := K) T.b_len (o_var 0)))))))⟩
theorem sc_Stock___init__ : FnScope N_Stock___init__ ["self", "sorts", "kinds"] (defScope s_Stock___init__) := ⟨rfl, rfl, rfl, by decide +kernel, rfl, by decide +kernel, by decide +kernel⟩
theorem ok_Stock___init__ {f : Addr} {fd : FuncData} (F : Fun K "__init__" "Stock.__init__" s_Stock___init__ f fd) (T : Txt K mg c) (h_are_sorts : CallP P w K mg base "are_sorts" 3 ["thing"] [.bo] (g_are_sorts c)) (h_are_kinds : CallP P w K mg base "are_kinds" 3 ["thing", "sorts"] [.bo, .fr] (g_are_kinds c)) : FnOk P w K mg base CX0 4 f fd ["self", "sorts", "kinds"] (SpI K [.bo, .bo] (g_Stock___init__ c)) :=
  fn_i (N := N_Stock___init__) (k := 3) F sc_Stock___init__ rfl fun cdv A outer s H E hr => ⟨_, b_cons (s_if (t_not (t_val (x_cq (K := K) h_are_sorts hr (a_cons (o_var 1) a_nil)))) (b_one (s_never)) (b_nil)) (b_cons (s_if (t_not (t_val (x_cq (K := K) h_are_kinds hr (a_cons (o_var 2) (a_cons (o_e (x_n (n_lc (own := [("sort", 3), ("partner", 4)]) rfl sc_Stock___init__.nd (i_listB (K := K) (x_var 1)) (blkOk_by (own := [("sort", 3), ("partner", 4)]) (N := N_Stock___init__) (sc := defScope s_Stock___init__) (by decide +kernel)) (fun _ _ _ _ _ => (g_tup (K := K) rfl (gs_cons (g_name (vs := [3, 4]) 3 sc_Stock___init__.nd) (gs_cons (g_name (vs := [3, 4]) 4 sc_Stock___init__.nd) gs_nil)))) (fun _ _ _ _ _ => ts_nil) (fun _ _ _ _ _ => x_var 3)))) a_nil))))) (b_one (s_never)) (b_nil)) (b_cons (s_fld (K := K) (T.k_stock_sorts) (x_var (W := W0) 0).p (x_n (n_list (K := K) T.b_list (o_var 1)))) (b_one (s_fld (K := K) (T.k_stock_kinds) (x_var (W := W0) 0).p (x_n (n_list (K := K) T.b_list (o_var 2)))))))⟩
theorem sc_is_sort : FnScope N_is_sort ["stock", "thing"] (defScope s_is_sort) := ⟨rfl, rfl, rfl, by decide +kernel, rfl, by decide +kernel, by decide +kernel⟩
theorem ok_is_sort {f : Addr} {fd : FuncData} (F : Fun K "is_sort" "is_sort" s_is_sort f fd) (T : Txt K mg c) : FnOk P w K mg base CX0 1 f fd ["stock", "thing"] (SpP K [.fr, .fr] (g_is_sort c)) :=
  fn_g (N := N_is_sort) (k := 0) F sc_is_sort rfl fun cdv A outer s H E hr => ⟨_, b_one (s_ret (x_and (x_isi (K := K) T.b_isinstance T.b_str (by decide +kernel) (o_var 1)) (x_one (x_inD hr (o_var 1) (o_e (x_dict (K := K) rfl T.b_dict (o_e (x_fld (K := K) T.f_stock_sorts (o_var 0)))))))))⟩
theorem sc_is_kind : FnScope N_is_kind ["stock", "thing"] (defScope s_is_kind) := ⟨rfl, rfl, rfl, by decide +kernel, rfl, by decide +kernel, by decide +kernel⟩
theorem ok_is_kind {f : Addr} {fd : FuncData} (F : Fun K "is_kind" "is_kind" s_is_kind f fd) (T : Txt K mg c) : FnOk P w K mg base CX0 1 f fd ["stock", "thing"] (SpP K [.fr, .fr] (g_is_kind c)) :=
  fn_g (N := N_is_kind) (k := 0) F sc_is_kind rfl fun cdv A outer s H E hr => ⟨_, b_one (s_ret (x_and (x_isi (K := K) T.b_isinstance T.b_str (by decide +kernel) (o_var 1)) (x_one (x_inD hr (o_var 1) (o_e (x_dict (K := K) rfl T.b_dict (o_e (x_fld (K := K) T.f_stock_kinds (o_var 0)))))))))⟩
theorem sc_ends_of : FnScope N_ends_of ["stock", "kind"] (defScope s_ends_of) := ⟨rfl, rfl, rfl, by decide +kernel, rfl, by decide +kernel, by decide +kernel⟩
theorem ok_ends_of {f : Addr} {fd : FuncData} (F : Fun K "ends_of" "ends_of" s_ends_of f fd) (T : Txt K mg c) : FnOk P w K mg base CX0 1 f fd ["stock", "kind"] (SpP K [.fr, .fr] (g_ends_of c)) :=
  fn_g (N := N_ends_of) (k := 0) F sc_ends_of rfl fun cdv A outer s H E hr => ⟨_, b_one (s_ret (x_dget hr (o_e (x_dict (K := K) rfl T.b_dict (o_e (x_fld (K := K) T.f_stock_kinds (o_var 0))))) (o_var 1)))⟩
theorem sc_are_corners : FnScope N_are_corners ["stock", "thing"] (defScope s_are_corners) := ⟨rfl, rfl, rfl, by decide +kernel, rfl, by decide +kernel, by decide +kernel⟩
theorem ok_are_corners {f : Addr} {fd : FuncData} (F : Fun K "are_corners" "are_corners" s_are_corners f fd) (T : Txt K mg c) (h_is_kind : CallP P w K mg base "is_kind" 1 ["stock", "thing"] [.fr, .fr] (g_is_kind c)) : FnOk P w K mg base CX0 2 f fd ["stock", "thing"] (SpP K [.fr, .bo] (g_are_corners c)) :=
  fn_g (N := N_are_corners) (k := 1) F sc_are_corners rfl fun cdv A outer s H E hr => ⟨_, b_one (s_ret (x_and (x_isi (K := K) T.b_isinstance T.b_list (by decide +kernel) (o_var 1)) (x_and (x_le (o_e (x_len (K := K) T.b_len (o_var 1))) (o_e (x_globI T.c_MOST.choose_spec))) (x_one (x_all (K := K) rfl T.b_all (o_e (x_n (n_lc (own := [("kind", 2)]) rfl sc_are_corners.nd (i_listB (K := K) (x_var 1)) (blkOk_by (own := [("kind", 2)]) (N := N_are_corners) (sc := defScope s_are_corners) (by decide +kernel)) (fun _ _ _ _ _ => (g_name (vs := [2]) 2 sc_are_corners.nd)) (fun _ _ _ _ _ => ts_nil) (fun _ _ _ _ _ => x_cq (K := K) h_is_kind hr (a_cons (o_e (x_var 0)) (a_cons (o_e (x_var 2)) a_nil)))))))))))⟩
theorem sc_is_leg : FnScope N_is_leg ["stock", "thing"] (defScope s_is_leg) := ⟨rfl, rfl, rfl, by decide +kernel, rfl, by decide +kernel, by decide +kernel⟩
theorem ok_is_leg {f : Addr} {fd : FuncData} (F : Fun K "is_leg" "is_leg" s_is_leg f fd) (T : Txt K mg c) (h_is_sort : CallP P w K mg base "is_sort" 1 ["stock", "thing"] [.fr, .fr] (g_is_sort c)) (h_is_name : CallP P w K mg base "is_name" 1 ["thing"] [.fr] (g_is_name c)) : FnOk P w K mg base CX0 2 f fd ["stock", "thing"] (SpP K [.fr, .fr] (g_is_leg c)) :=
  fn_g (N := N_is_leg) (k := 1) F sc_is_leg rfl fun cdv A outer s H E hr => ⟨_, b_one (s_ret (x_and (x_isi (K := K) T.b_isinstance T.b_tuple (by decide +kernel) (o_var 1)) (x_and (x_eq (K := K) hr (o_e (x_len (K := K) T.b_len (o_var 1))) (o_e (x_int))) (x_and (x_cq (K := K) h_is_name hr (a_cons (o_e (x_ix (K := K) (o_var 1) (o_e (x_int)))) a_nil)) (x_one (x_cq (K := K) h_is_sort hr (a_cons (o_e (x_var 0)) (a_cons (o_e (x_ix (K := K) (o_var 1) (o_e (x_int)))) a_nil))))))))⟩
theorem sc_are_legs : FnScope N_are_legs ["stock", "thing"] (defScope s_are_legs) := ⟨rfl, rfl, rfl, by decide +kernel, rfl, by decide +kernel, by decide +kernel⟩
theorem ok_are_legs {f : Addr} {fd : FuncData} (F : Fun K "are_legs" "are_legs" s_are_legs f fd) (T : Txt K mg c) (h_is_leg : CallP P w K mg base "is_leg" 2 ["stock", "thing"] [.fr, .fr] (g_is_leg c)) : FnOk P w K mg base CX0 3 f fd ["stock", "thing"] (SpP K [.fr, .bo] (g_are_legs c)) :=
  fn_g (N := N_are_legs) (k := 2) F sc_are_legs rfl fun cdv A outer s H E hr => ⟨_, b_cons (s_if (t_w (w_or (t_not (t_val (x_isi (K := K) T.b_isinstance T.b_list (by decide +kernel) (o_var 1)))) (w_or (t_gt (o_e (x_len (K := K) T.b_len (o_var 1))) (o_e (x_globI T.c_MOST.choose_spec))) (w_or1 (t_not (t_val (x_all (K := K) rfl T.b_all (o_e (x_n (n_lc (own := [("leg", 2)]) rfl sc_are_legs.nd (i_listB (K := K) (x_var 1)) (blkOk_by (own := [("leg", 2)]) (N := N_are_legs) (sc := defScope s_are_legs) (by decide +kernel)) (fun _ _ _ _ _ => (g_name (vs := [2]) 2 sc_are_legs.nd)) (fun _ _ _ _ _ => ts_nil) (fun _ _ _ _ _ => x_cq (K := K) h_is_leg hr (a_cons (o_e (x_var 0)) (a_cons (o_e (x_var 2)) a_nil))))))))))))) (b_one (s_ret (x_bl))) (b_nil)) (b_one (s_ret (x_and (x_eq (K := K) hr (o_var 1) (o_e (x_n (n_sorted (K := K) hr T.b_sorted (o_var 1))))) (x_one (x_eq (K := K) hr (o_e (x_lenSet (K := K) rfl T.b_len T.b_set (o_e (x_n (n_lc (own := [("name", 3), ("sort", 4)]) rfl sc_are_legs.nd (i_listB (K := K) (x_var 1)) (blkOk_by (own := [("name", 3), ("sort", 4)]) (N := N_are_legs) (sc := defScope s_are_legs) (by decide +kernel)) (fun _ _ _ _ _ => (g_tup (K := K) rfl (gs_cons (g_name (vs := [3, 4]) 3 sc_are_legs.nd) (gs_cons (g_name (vs := [3, 4]) 4 sc_are_legs.nd) gs_nil)))) (fun _ _ _ _ _ => ts_nil) (fun _ _ _ _ _ => x_var 3)))))) (o_e (x_len (K := K) T.b_len (o_var 1))))))))⟩
theorem sc_sure_corners : FnScope N_sure_corners ["stock", "corners", "legs"] (defScope s_sure_corners) := ⟨rfl, rfl, rfl, by decide +kernel, rfl, by decide +kernel, by decide +kernel⟩
theorem ok_sure_corners {f : Addr} {fd : FuncData} (F : Fun K "sure_corners" "sure_corners" s_sure_corners f fd) (T : Txt K mg c) (h_are_corners : CallP P w K mg base "are_corners" 2 ["stock", "thing"] [.fr, .bo] (g_are_corners c)) (h_are_legs : CallP P w K mg base "are_legs" 3 ["stock", "thing"] [.fr, .bo] (g_are_legs c)) : FnOk P w K mg base CX0 4 f fd ["stock", "corners", "legs"] (SpP K [.fr, .bo, .bo] (g_sure_corners c)) :=
  fn_g (N := N_sure_corners) (k := 3) F sc_sure_corners rfl fun cdv A outer s H E hr => ⟨_, b_cons (s_if (t_not (t_val (x_cq (K := K) h_are_corners hr (a_cons (o_e (x_var 0)) (a_cons (o_var 1) a_nil))))) (b_one (s_never)) (b_nil)) (b_one (s_if (t_not (t_val (x_cq (K := K) h_are_legs hr (a_cons (o_e (x_var 0)) (a_cons (o_var 2) a_nil))))) (b_one (s_never)) (b_nil)))⟩
theorem sc_factorial : FnScope N_factorial ["number"] (defScope s_factorial) := ⟨rfl, rfl, rfl, by decide +kernel, rfl, by decide +kernel, by decide +kernel⟩
theorem ok_factorial {f : Addr} {fd : FuncData} (F : Fun K "factorial" "factorial" s_factorial f fd) (T : Txt K mg c) : FnOk P w K mg base CX0 1 f fd ["number"] (SpP K [.fr] (g_factorial c)) :=
  fn_g (N := N_factorial) (k := 0) F sc_factorial rfl fun cdv A outer s H E hr => ⟨_, b_cons (s_set 1 (x_int) sc_factorial.nd) (b_cons (s_for PassesOwn.never rfl (i_range2 T.b_range (d_cons (x_int) (d_cons (x_add (K := K) (o_var 0) (o_e (x_int))) d_nil))) (g_name (vs := [2]) 2 sc_factorial.nd) (b_one (s_set 1 (x_mul (o_var 1) (o_var 2)) sc_factorial.nd))) (b_one (s_ret (x_var 1))))⟩
theorem sc_partner_of : FnScope N_partner_of ["stock", "sort"] (defScope s_partner_of) := ⟨rfl, rfl, rfl, by decide +kernel, rfl, by decide +kernel, by decide +kernel⟩
theorem ok_partner_of {f : Addr} {fd : FuncData} (F : Fun K "partner_of" "partner_of" s_partner_of f fd) (T : Txt K mg c) : FnOk P w K mg base CX0 1 f fd ["stock", "sort"] (SpP K [.fr, .fr] (g_partner_of c)) :=
  fn_g (N := N_partner_of) (k := 0) F sc_partner_of rfl fun cdv A outer s H E hr => ⟨_, b_one (s_ret (x_dget hr (o_e (x_dict (K := K) rfl T.b_dict (o_e (x_fld (K := K) T.f_stock_sorts (o_var 0))))) (o_var 1)))⟩
theorem sc_ends_there : FnScope N_ends_there ["stock", "corners", "legs"] (defScope s_ends_there) := ⟨rfl, rfl, rfl, by decide +kernel, rfl, by decide +kernel, by decide +kernel⟩
theorem ok_ends_there {f : Addr} {fd : FuncData} (F : Fun K "ends_there" "ends_there" s_ends_there f fd) (T : Txt K mg c) (h_ends_of : CallP P w K mg base "ends_of" 1 ["stock", "kind"] [.fr, .fr] (g_ends_of c)) : FnOk P w K mg base CX0 2 f fd ["stock", "corners", "legs"] (SpN K [.fr, .bo, .bo] (g_ends_there c)) :=
  fn_n (N := N_ends_there) (k := 1) F sc_ends_there rfl fun cdv A outer s H E hr => ⟨_, b_cons (s_setO 3 (n_lst d_nil) sc_ends_there.nd) (b_cons (s_for PassesOwn.never rfl (i_enumB (K := K) T.b_enumerate (x_var 1)) (g_tup (K := K) rfl (gs_cons (g_name (vs := [4, 5]) 4 sc_ends_there.nd) (gs_cons (g_name (vs := [4, 5]) 5 sc_ends_there.nd) gs_nil))) (b_one (s_expr (x_ext (K := K) (x_var (W := W0) 3).p (d_cons (x_n (n_lc (own := [("sort", 8)]) rfl sc_ends_there.nd (i_tup (K := K) (x_cq (K := K) h_ends_of hr (a_cons (o_e (x_var 0)) (a_cons (o_e (x_var 5)) a_nil)))) (blkOk_by (own := [("sort", 8)]) (N := N_ends_there) (sc := defScope s_ends_there) (by decide +kernel)) (fun _ _ _ _ _ => (g_name (vs := [8]) 8 sc_ends_there.nd)) (fun _ _ _ _ _ => ts_nil) (fun _ _ _ _ _ => x_tup (d_cons (x_var 4) (d_cons (x_var 8) d_nil))))) d_nil))))) (b_cons (s_for PassesOwn.never rfl (i_enumB (K := K) T.b_enumerate (x_var 2)) (g_tup (K := K) rfl (gs_cons (g_name (vs := [6, 7, 8]) 6 sc_ends_there.nd) (gs_cons (g_tup (K := K) rfl (gs_cons (g_name (vs := [6, 7, 8]) 7 sc_ends_there.nd) (gs_cons (g_name (vs := [6, 7, 8]) 8 sc_ends_there.nd) gs_nil))) gs_nil))) (b_one (s_expr (x_app (K := K) (x_var (W := W0) 3).p (d_cons (x_tup (d_cons (x_add (K := K) (o_e (x_len (K := K) T.b_len (o_var 1))) (o_var 6)) (d_cons (x_var 8) d_nil))) d_nil))))) (b_one (s_retO (x_var 3)))))⟩
theorem sc_ways_to_pair : FnScope N_ways_to_pair ["many"] (defScope s_ways_to_pair) := ⟨rfl, rfl, rfl, by decide +kernel, rfl, by decide +kernel, by decide +kernel⟩
theorem ok_ways_to_pair {f : Addr} {fd : FuncData} (F : Fun K "ways_to_pair" "ways_to_pair" s_ways_to_pair f fd) (T : Txt K mg c) : FnOk P w K mg base CX0 1 f fd ["many"] (SpP K [.fr] (g_ways_to_pair c)) :=
  fn_g (N := N_ways_to_pair) (k := 0) F sc_ways_to_pair rfl fun cdv A outer s H E hr => ⟨_, b_cons (s_if (t_eq (K := K) hr (o_e (x_mod (o_var 0) (o_e (x_int)))) (o_e (x_int))) (b_one (s_ret (x_int))) (b_nil)) (b_cons (s_set 1 (x_int) sc_ways_to_pair.nd) (b_cons (s_for PassesOwn.never rfl (i_range3 T.b_range (d_cons (x_int) (d_cons (x_var 0) (d_cons (x_int) d_nil)))) (g_name (vs := [2]) 2 sc_ways_to_pair.nd) (b_one (s_set 1 (x_mul (o_var 1) (o_var 2)) sc_ways_to_pair.nd))) (b_one (s_ret (x_var 1)))))⟩
theorem sc_count : FnScope N_count ["stock", "corners", "legs"] (defScope s_count) := ⟨rfl, rfl, rfl, by decide +kernel, rfl, by decide +kernel, by decide +kernel⟩
theorem ok_count {f : Addr} {fd : FuncData} (F : Fun K "count" "count" s_count f fd) (T : Txt K mg c) (h_sure_corners : CallP P w K mg base "sure_corners" 4 ["stock", "corners", "legs"] [.fr, .bo, .bo] (g_sure_corners c)) (h_ends_there : CallN P w K mg base "ends_there" 2 ["stock", "corners", "legs"] [.fr, .bo, .bo] (g_ends_there c)) (h_ways_to_pair : CallP P w K mg base "ways_to_pair" 1 ["many"] [.fr] (g_ways_to_pair c)) (h_factorial : CallP P w K mg base "factorial" 1 ["number"] [.fr] (g_factorial c)) : FnOk P w K mg base CX0 5 f fd ["stock", "corners", "legs"] (SpP K [.fr, .bo, .bo] (g_count c)) :=
  fn_g (N := N_count) (k := 4) F sc_count rfl fun cdv A outer s H E hr => ⟨_, b_cons (s_expr (x_cq (K := K) h_sure_corners hr (a_cons (o_e (x_var 0)) (a_cons (o_var 1) (a_cons (o_var 2) a_nil))))) (b_cons (s_setLc (own := [("place", 8), ("sort", 5)]) 3 rfl sc_count.nd rfl rfl (sw_true rfl rfl rfl (by decide +kernel)) (i_list (K := K) (x_n (n_cn (K := K) h_ends_there hr (a_cons (o_e (x_var 0)) (a_cons (o_var 1) (a_cons (o_var 2) a_nil)))))) (blkOk_by (own := [("place", 8), ("sort", 5)]) (N := N_count) (sc := defScope s_count) (by decide +kernel)) (fun _ _ _ _ _ => (g_tup (K := K) rfl (gs_cons (g_name (vs := [8, 5]) 8 sc_count.nd) (gs_cons (g_name (vs := [8, 5]) 5 sc_count.nd) gs_nil)))) (fun _ _ _ _ _ => ts_nil) (fun _ _ _ _ _ => x_var 5)) (b_cons (s_set 4 (x_int) sc_count.nd) (b_cons (s_for PassesOwn.never rfl (i_list (K := K) (x_fld (K := K) T.f_stock_sorts (o_var 0))) (g_tup (K := K) rfl (gs_cons (g_name (vs := [5, 6]) 5 sc_count.nd) (gs_cons (g_name (vs := [5, 6]) 6 sc_count.nd) gs_nil))) (b_cons (s_set 7 (x_cnt (K := K) hr (o_var 3) (o_var 5)) sc_count.nd) (b_one (s_if (t_eq (K := K) hr (o_var 5) (o_var 6)) (b_one (s_set 4 (x_mul (o_var 4) (o_e (x_cq (K := K) h_ways_to_pair hr (a_cons (o_e (x_var 7)) a_nil)))) sc_count.nd)) (b_one (s_if (t_ltS (o_var 5) (o_var 6)) (b_one (s_set 4 (x_mul (o_e (x_mul (o_var 4) (o_e (x_cq (K := K) h_factorial hr (a_cons (o_e (x_var 7)) a_nil))))) (o_e (x_int1 T.b_int (o_e (x_eq (K := K) hr (o_e (x_cnt (K := K) hr (o_var 3) (o_var 6))) (o_var 7)))))) sc_count.nd)) (b_nil))))))) (b_one (s_ret (x_var 4))))))⟩
theorem sc_next_pairs : FnScope N_next_pairs ["stock", "ends", "row"] (defScope s_next_pairs) := ⟨rfl, rfl, rfl, by decide +kernel, rfl, by decide +kernel, by decide +kernel⟩
theorem ok_next_pairs {f : Addr} {fd : FuncData} (F : Fun K "next_pairs" "next_pairs" s_next_pairs f fd) (T : Txt K mg c) (h_partner_of : CallP P w K mg base "partner_of" 1 ["stock", "sort"] [.fr, .fr] (g_partner_of c)) : FnOk P w K mg base CX0 2 f fd ["stock", "ends", "row"] (SpP K [.fr, .fr, .fr] (g_next_pairs c)) :=
  fn_g (N := N_next_pairs) (k := 1) F sc_next_pairs rfl fun cdv A outer s H E hr => ⟨_, b_cons (s_setO 3 n_dk0 sc_next_pairs.nd) (b_cons (s_for PassesOwn.never rfl (i_listB (K := K) (x_var 2)) (g_tup (K := K) rfl (gs_cons (g_name (vs := [4, 5]) 4 sc_next_pairs.nd) (gs_cons (g_name (vs := [4, 5]) 5 sc_next_pairs.nd) gs_nil))) (b_cons (s_putK hr (x_var (W := W0) 3).p (x_var 4) (x_bl)) (b_one (s_putK hr (x_var (W := W0) 3).p (x_var 5) (x_bl))))) (b_cons (s_setO 6 (n_lc (own := [("number", 8)]) rfl sc_next_pairs.nd (i_range1 T.b_range (d_cons (x_len (K := K) T.b_len (o_var 1)) d_nil)) (blkOk_by (own := [("number", 8)]) (N := N_next_pairs) (sc := defScope s_next_pairs) (by decide +kernel)) (fun _ _ _ _ _ => (g_name (vs := [8]) 8 sc_next_pairs.nd)) (fun _ _ _ _ _ => (ts_one (t_ninD hr (o_var 8) (o_var 3)))) (fun _ _ _ _ _ => x_var 8)) sc_next_pairs.nd) (b_cons (s_set 7 (x_cq (K := K) h_partner_of hr (a_cons (o_e (x_var 0)) (a_cons (o_e (x_ix (K := K) (o_e (x_ix (K := K) (o_var 1) (o_e (x_ix (K := K) (o_var 6) (o_e (x_int)))))) (o_e (x_int)))) a_nil))) sc_next_pairs.nd) (b_one (s_ret (x_n (n_lc (own := [("number", 8)]) rfl sc_next_pairs.nd (i_list (K := K) (x_sl (K := K) (o_var 6) (p_some (x_int)) p_none)) (blkOk_by (own := [("number", 8)]) (N := N_next_pairs) (sc := defScope s_next_pairs) (by decide +kernel)) (fun _ _ _ _ _ => (g_name (vs := [8]) 8 sc_next_pairs.nd)) (fun _ _ _ _ _ => (ts_one (t_eq (K := K) hr (o_e (x_ix (K := K) (o_e (x_ix (K := K) (o_var 1) (o_var 8))) (o_e (x_int)))) (o_var 7)))) (fun _ _ _ _ _ => x_tup (d_cons (x_ix (K := K) (o_var 6) (o_e (x_int))) (d_cons (x_var 8) d_nil))))))))))⟩
theorem sc_pairings : FnScope N_pairings ["stock", "corners", "legs"] (defScope s_pairings) := ⟨rfl, rfl, rfl, by decide +kernel, rfl, by decide +kernel, by decide +kernel⟩
theorem ok_pairings {f : Addr} {fd : FuncData} (F : Fun K "pairings" "pairings" s_pairings f fd) (T : Txt K mg c) (h_sure_corners : CallP P w K mg base "sure_corners" 4 ["stock", "corners", "legs"] [.fr, .bo, .bo] (g_sure_corners c)) (h_ends_there : CallN P w K mg base "ends_there" 2 ["stock", "corners", "legs"] [.fr, .bo, .bo] (g_ends_there c)) (h_next_pairs : CallP P w K mg base "next_pairs" 2 ["stock", "ends", "row"] [.fr, .fr, .fr] (g_next_pairs c)) : FnOk P w K mg base CX0 5 f fd ["stock", "corners", "legs"] (SpP K [.fr, .bo, .bo] (g_pairings c)) :=
  fn_g (N := N_pairings) (k := 4) F sc_pairings rfl fun cdv A outer s H E hr => ⟨_, b_cons (s_expr (x_cq (K := K) h_sure_corners hr (a_cons (o_e (x_var 0)) (a_cons (o_var 1) (a_cons (o_var 2) a_nil))))) (b_cons (s_setO 3 (n_cn (K := K) h_ends_there hr (a_cons (o_e (x_var 0)) (a_cons (o_var 1) (a_cons (o_var 2) a_nil)))) sc_pairings.nd) (b_cons (s_if (t_gt (o_e (x_len (K := K) T.b_len (o_var 3))) (o_e (x_globI T.c_MOST_ENDS.choose_spec))) (b_one (s_never)) (b_nil)) (b_cons (s_if (t_eq (K := K) hr (o_e (x_mod (o_e (x_len (K := K) T.b_len (o_var 3))) (o_e (x_int)))) (o_e (x_int))) (b_one (s_ret (x_n (n_lst d_nil)))) (b_nil)) (b_cons (s_setO 4 (n_lst (d_cons (x_n (n_lst d_nil)) d_nil)) sc_pairings.nd) (b_cons (s_for PassesOwn.never rfl (i_range1 T.b_range (d_cons (x_div (o_e (x_len (K := K) T.b_len (o_var 3))) (o_e (x_int))) d_nil)) (g_name (vs := [5]) 5 sc_pairings.nd) (b_cons (s_setO 6 (n_lst d_nil) sc_pairings.nd) (b_cons (s_for PassesOwn.never rfl (i_listB (K := K) (x_var 4)) (g_name (vs := [7]) 7 sc_pairings.nd) (b_one (s_expr (x_ext (K := K) (x_var (W := W0) 6).p (d_cons (x_n (n_lc (own := [("pair", 8)]) rfl sc_pairings.nd (i_list (K := K) (x_cq (K := K) h_next_pairs hr (a_cons (o_e (x_var 0)) (a_cons (o_e (x_var 3)) (a_cons (o_e (x_var 7)) a_nil))))) (blkOk_by (own := [("pair", 8)]) (N := N_pairings) (sc := defScope s_pairings) (by decide +kernel)) (fun _ _ _ _ _ => (g_name (vs := [8]) 8 sc_pairings.nd)) (fun _ _ _ _ _ => ts_nil) (fun _ _ _ _ _ => x_add (K := K) (o_var 7) (o_e (x_n (n_lst (d_cons (x_var 8) d_nil))))))) d_nil))))) (b_one (s_set 4 (x_var 6) sc_pairings.nd))))) (b_one (s_ret (x_var 4))))))))⟩
theorem sc__law_state : FnScope N__law_state ["_law_cell"] (defScope s__law_state) := ⟨rfl, rfl, rfl, by decide +kernel, rfl, by decide +kernel, by decide +kernel⟩
theorem ok__law_state {f : Addr} {fd : FuncData} (F : Fun K "_law_state" "_law_state" s__law_state f fd) (T : Txt K mg c) : FnOk P w K mg base CX0 1 f fd ["_law_cell"] (SpN K [.fr] (g__law_state c)) :=
  fn_n (N := N__law_state) (k := 0) F sc__law_state rfl fun cdv A outer s H E hr => ⟨_, b_one (s_retW (n_lst (d_cons (x_abs T.b_abs (o_var 0)) (d_cons (x_mod (o_var 0) (o_e (x_int))) (d_cons (x_int) d_nil)))))⟩
theorem sc__law_pick : FnScope N__law_pick ["_law_state_here", "_law_many"] (defScope s__law_pick) := ⟨rfl, rfl, rfl, by decide +kernel, rfl, by decide +kernel, by decide +kernel⟩
theorem ok__law_pick {f : Addr} {fd : FuncData} (F : Fun K "_law_pick" "_law_pick" s__law_pick f fd) (T : Txt K mg c) : FnOk P w K mg base CX0 1 f fd ["_law_state_here", "_law_many"] (SpI K [.fr] (g__law_pick c)) :=
  fn_i (N := N__law_pick) (k := 0) F sc__law_pick rfl fun cdv A outer s H E hr => ⟨_, b_cons (s_if (t_ge (o_e (x_ix (K := K) (o_var 0) (o_e (x_int)))) (o_e (x_pow (o_e (x_int)) (o_e (x_int))))) (b_cons (s_set 2 (x_mod (o_e (x_ix (K := K) (o_var 0) (o_e (x_int)))) (o_var 1)) sc__law_pick.nd) (b_cons (s_putI (x_var (W := W0) 0).p (x_int) (x_div (o_e (x_ix (K := K) (o_var 0) (o_e (x_int)))) (o_var 1))) (b_one (s_ret (x_var 2))))) (b_nil)) (b_cons (s_putI (x_var (W := W0) 0).p (x_int) (x_add (K := K) (o_e (x_ix (K := K) (o_var 0) (o_e (x_int)))) (o_e (x_int)))) (b_cons (s_set 3 (x_mod (o_e (x_add (K := K) (o_e (x_add (K := K) (o_e (x_mul (o_e (x_ix (K := K) (o_var 0) (o_e (x_int)))) (o_e (x_int)))) (o_e (x_mul (o_e (x_int)) (o_e (x_ix (K := K) (o_var 0) (o_e (x_int)))))))) (o_e (x_int)))) (o_e (x_int))) sc__law_pick.nd) (b_cons (s_set 3 (x_mod (o_e (x_mul (o_var 3) (o_e (x_add (K := K) (o_e (x_div (o_var 3) (o_e (x_int)))) (o_e (x_int)))))) (o_e (x_int))) sc__law_pick.nd) (b_cons (s_putI (x_var (W := W0) 0).p (x_int) (x_var 3)) (b_one (s_ret (x_mod (o_e (x_div (o_var 3) (o_e (x_int)))) (o_var 1))))))))⟩
theorem sc__law_words : FnScope N__law_words ["_law_state_here", "_law_many"] (defScope s__law_words) := ⟨rfl, rfl, rfl, by decide +kernel, rfl, by decide +kernel, by decide +kernel⟩
theorem ok__law_words {f : Addr} {fd : FuncData} (F : Fun K "_law_words" "_law_words" s__law_words f fd) (T : Txt K mg c) (h__law_pick : CallI P w K mg base "_law_pick" 1 ["_law_state_here", "_law_many"] [.fr] (g__law_pick c)) : FnOk P w K mg base CX0 2 f fd ["_law_state_here", "_law_many"] (SpI K [.fr] (g__law_words c)) :=
  fn_i (N := N__law_words) (k := 1) F sc__law_words rfl fun cdv A outer s H E hr => ⟨_, b_cons (s_setO 2 (n_lst d_nil) sc__law_words.nd) (b_cons (s_for PassesOwn.never rfl (i_str (x_sl (K := K) (o_e (x_str)) p_none (p_some (x_var 1)))) (g_name (vs := [3]) 3 sc__law_words.nd) (b_cons (s_set 4 (x_str) sc__law_words.nd) (b_cons (s_for PassesOwn.never rfl (i_range1 T.b_range (d_cons (x_ix (K := K) (o_e (x_n (n_lst (d_cons (x_int) (d_cons (x_int) (d_cons (x_int) (d_cons (x_int) d_nil))))))) (o_e (x_cqi (K := K) h__law_pick hr (x_var 0) (a_cons (o_e (x_int)) a_nil)))) d_nil)) (g_name (vs := [5]) 5 sc__law_words.nd) (b_one (s_set 4 (x_add (K := K) (o_var 4) (o_e (x_ix (K := K) (o_e (x_str)) (o_e (x_cqi (K := K) h__law_pick hr (x_var 0) (a_cons (o_e (x_int)) a_nil)))))) sc__law_words.nd))) (b_one (s_expr (x_app (K := K) (x_var (W := W0) 2).p (d_cons (x_add (K := K) (o_var 4) (o_var 3)) d_nil))))))) (b_one (s_ret (x_var 2))))⟩
theorem sc__law_stock_rows : FnScope N__law_stock_rows ["_law_state_here", "_law_most"] (defScope s__law_stock_rows) := ⟨rfl, rfl, rfl, by decide +kernel, rfl, by decide +kernel, by decide +kernel⟩
theorem ok__law_stock_rows {f : Addr} {fd : FuncData} (F : Fun K "_law_stock_rows" "_law_stock_rows" s__law_stock_rows f fd) (T : Txt K mg c) (h__law_words : CallI P w K mg base "_law_words" 2 ["_law_state_here", "_law_many"] [.fr] (g__law_words c)) (h__law_pick : CallI P w K mg base "_law_pick" 1 ["_law_state_here", "_law_many"] [.fr] (g__law_pick c)) : FnOk P w K mg base CX0 3 f fd ["_law_state_here", "_law_most"] (SpI K [.fr] (g__law_stock_rows c)) :=
  fn_i (N := N__law_stock_rows) (k := 2) F sc__law_stock_rows rfl fun cdv A outer s H E hr => ⟨_, b_cons (s_unl (K := K) rfl (x_cqi (K := K) h__law_words hr (x_var 0) (a_cons (o_e (x_int)) a_nil)) (gs_cons (g_name (vs := [2, 3, 4]) 2 sc__law_stock_rows.nd) (gs_cons (g_name (vs := [2, 3, 4]) 3 sc__law_stock_rows.nd) (gs_cons (g_name (vs := [2, 3, 4]) 4 sc__law_stock_rows.nd) gs_nil)))) (b_cons (s_setO 5 (n_lst (d_cons (x_n (n_lst (d_cons (x_tup (d_cons (x_var 2) (d_cons (x_var 2) d_nil))) d_nil))) (d_cons (x_n (n_lst (d_cons (x_tup (d_cons (x_var 2) (d_cons (x_var 3) d_nil))) (d_cons (x_tup (d_cons (x_var 3) (d_cons (x_var 2) d_nil))) d_nil)))) (d_cons (x_n (n_lst (d_cons (x_tup (d_cons (x_var 3) (d_cons (x_var 3) d_nil))) (d_cons (x_tup (d_cons (x_var 2) (d_cons (x_var 4) d_nil))) (d_cons (x_tup (d_cons (x_var 4) (d_cons (x_var 2) d_nil))) d_nil))))) d_nil)))) sc__law_stock_rows.nd) (b_cons (s_expr (x_app (K := K) (x_var (W := W0) 5).p (d_cons (x_n (n_lst (d_cons (x_tup (d_cons (x_var 2) (d_cons (x_var 2) d_nil))) (d_cons (x_tup (d_cons (x_var 3) (d_cons (x_var 3) d_nil))) (d_cons (x_tup (d_cons (x_var 4) (d_cons (x_var 4) d_nil))) d_nil))))) d_nil))) (b_cons (s_set 6 (x_ix (K := K) (o_var 5) (o_e (x_cqi (K := K) h__law_pick hr (x_var 0) (a_cons (o_e (x_int)) a_nil)))) sc__law_stock_rows.nd) (b_cons (s_setO 7 (n_lst d_nil) sc__law_stock_rows.nd) (b_cons (s_for PassesOwn.never rfl (i_list (K := K) (x_cqi (K := K) h__law_words hr (x_var 0) (a_cons (o_e (x_add (K := K) (o_e (x_int)) (o_e (x_cqi (K := K) h__law_pick hr (x_var 0) (a_cons (o_e (x_int)) a_nil))))) a_nil))) (g_name (vs := [8]) 8 sc__law_stock_rows.nd) (b_cons (s_setLc (own := [("_law_k", 10)]) 9 rfl sc__law_stock_rows.nd rfl rfl (sw_true rfl rfl rfl (by decide +kernel)) (i_range1 T.b_range (d_cons (x_add (K := K) (o_e (x_int)) (o_e (x_cqi (K := K) h__law_pick hr (x_var 0) (a_cons (o_e (x_var 1)) a_nil)))) d_nil)) (blkOk_by (own := [("_law_k", 10)]) (N := N__law_stock_rows) (sc := defScope s__law_stock_rows) (by decide +kernel)) (fun _ _ _ _ _ => (g_name (vs := [10]) 10 sc__law_stock_rows.nd)) (fun _ _ _ _ _ => ts_nil) (fun _ _ _ _ _ => x_ix (K := K) (o_e (x_ix (K := K) (o_var 6) (o_e (x_cqi (K := K) h__law_pick hr (x_var 0) (a_cons (o_e (x_len (K := K) T.b_len (o_var 6))) a_nil))))) (o_e (x_int)))) (b_one (s_expr (x_app (K := K) (x_var (W := W0) 7).p (d_cons (x_tup (d_cons (x_var 8) (d_cons (x_tuple (K := K) T.b_tuple (o_e (x_n (n_sorted (K := K) hr T.b_sorted (o_var 9))))) d_nil))) d_nil)))))) (b_one (s_ret (x_tup (d_cons (x_var 6) (d_cons (x_var 7) d_nil))))))))))⟩
theorem sc__law_there : FnScope N__law_there ["_law_kinds", "_law_corners", "_law_legs"] (defScope s__law_there) := ⟨rfl, rfl, rfl, by decide +kernel, rfl, by decide +kernel, by decide +kernel⟩
theorem ok__law_there {f : Addr} {fd : FuncData} (F : Fun K "_law_there" "_law_there" s__law_there f fd) (T : Txt K mg c) : FnOk P w K mg base CX0 1 f fd ["_law_kinds", "_law_corners", "_law_legs"] (SpP K [.fr, .bo, .bo] (g__law_there c)) :=
  fn_g (N := N__law_there) (k := 0) F sc__law_there rfl fun cdv A outer s H E hr => ⟨_, b_cons (s_setO 3 (n_lst d_nil) sc__law_there.nd) (b_cons (s_for PassesOwn.never rfl (i_enumB (K := K) T.b_enumerate (x_var 1)) (g_tup (K := K) rfl (gs_cons (g_name (vs := [4, 5]) 4 sc__law_there.nd) (gs_cons (g_name (vs := [4, 5]) 5 sc__law_there.nd) gs_nil))) (b_one (s_expr (x_ext (K := K) (x_var (W := W0) 3).p (d_cons (x_n (n_lc (own := [("_law_sort", 6)]) rfl sc__law_there.nd (i_tup (K := K) (x_dget hr (o_e (x_dict (K := K) rfl T.b_dict (o_var 0))) (o_var 5))) (blkOk_by (own := [("_law_sort", 6)]) (N := N__law_there) (sc := defScope s__law_there) (by decide +kernel)) (fun _ _ _ _ _ => (g_name (vs := [6]) 6 sc__law_there.nd)) (fun _ _ _ _ _ => ts_nil) (fun _ _ _ _ _ => x_tup (d_cons (x_var 4) (d_cons (x_var 6) d_nil))))) d_nil))))) (b_one (s_ret (x_add (K := K) (o_var 3) (o_e (x_n (n_lc (own := [("_law_at", 7), ("_law_leg", 8)]) rfl sc__law_there.nd (i_enumB (K := K) T.b_enumerate (x_var 2)) (blkOk_by (own := [("_law_at", 7), ("_law_leg", 8)]) (N := N__law_there) (sc := defScope s__law_there) (by decide +kernel)) (fun _ _ _ _ _ => (g_tup (K := K) rfl (gs_cons (g_name (vs := [7, 8]) 7 sc__law_there.nd) (gs_cons (g_name (vs := [7, 8]) 8 sc__law_there.nd) gs_nil)))) (fun _ _ _ _ _ => ts_nil) (fun _ _ _ _ _ => x_tup (d_cons (x_add (K := K) (o_e (x_len (K := K) T.b_len (o_var 1))) (o_var 7)) (d_cons (x_ix (K := K) (o_var 8) (o_e (x_int))) d_nil))))))))))⟩
theorem sc__law_wanted : FnScope N__law_wanted ["_law_sorts", "_law_some"] (defScope s__law_wanted) := ⟨rfl, rfl, rfl, by decide +kernel, rfl, by decide +kernel, by decide +kernel⟩
theorem ok__law_wanted {f : Addr} {fd : FuncData} (F : Fun K "_law_wanted" "_law_wanted" s__law_wanted f fd) (T : Txt K mg c) : FnOk P w K mg base CX0 1 f fd ["_law_sorts", "_law_some"] (SpP K [.fr, .bo] (g__law_wanted c)) :=
  fn_g (N := N__law_wanted) (k := 0) F sc__law_wanted rfl fun cdv A outer s H E hr => ⟨_, b_cons (s_setO 2 (n_lst d_nil) sc__law_wanted.nd) (b_cons (s_for PassesOwn.never rfl (i_listB (K := K) (x_var 0)) (g_tup (K := K) rfl (gs_cons (g_name (vs := [3, 4]) 3 sc__law_wanted.nd) (gs_cons (g_name (vs := [3, 4]) 4 sc__law_wanted.nd) gs_nil))) (b_one (s_if (t_eq (K := K) hr (o_var 3) (o_var 4)) (b_one (s_expr (x_ext (K := K) (x_var (W := W0) 2).p (d_cons (x_n (n_rep (o_e (x_n (n_lst (d_cons (x_var 3) d_nil)))) (o_e (x_mod (o_e (x_cnt (K := K) hr (o_var 1) (o_var 3))) (o_e (x_int)))))) d_nil)))) (b_one (s_expr (x_ext (K := K) (x_var (W := W0) 2).p (d_cons (x_n (n_rep (o_e (x_n (n_lst (d_cons (x_var 4) d_nil)))) (o_e (x_max2 rfl T.b_max (o_e (x_int)) (o_e (x_sub (o_e (x_cnt (K := K) hr (o_var 1) (o_var 3))) (o_e (x_cnt (K := K) hr (o_var 1) (o_var 4))))))))) d_nil))))))) (b_one (s_ret (x_var 2))))⟩
theorem sc__law_grounds : FnScope N__law_grounds ["_law_state_here", "_law_sorts", "_law_kinds", "_law_most", "_law_far"] (defScope s__law_grounds) := ⟨rfl, rfl, rfl, by decide +kernel, rfl, by decide +kernel, by decide +kernel⟩
theorem ok__law_grounds {f : Addr} {fd : FuncData} (F : Fun K "_law_grounds" "_law_grounds" s__law_grounds f fd) (T : Txt K mg c) (h__law_pick : CallI P w K mg base "_law_pick" 1 ["_law_state_here", "_law_many"] [.fr] (g__law_pick c)) (h__law_words : CallI P w K mg base "_law_words" 2 ["_law_state_here", "_law_many"] [.fr] (g__law_words c)) (h__law_there : CallP P w K mg base "_law_there" 1 ["_law_kinds", "_law_corners", "_law_legs"] [.fr, .bo, .bo] (g__law_there c)) (h__law_wanted : CallP P w K mg base "_law_wanted" 1 ["_law_sorts", "_law_some"] [.fr, .bo] (g__law_wanted c)) : FnOk P w K mg base CX0 3 f fd ["_law_state_here", "_law_sorts", "_law_kinds", "_law_most", "_law_far"] (SpI K [.fr, .fr, .fr, .fr] (g__law_grounds c)) :=
  fn_i (N := N__law_grounds) (k := 2) F sc__law_grounds rfl fun cdv A outer s H E hr => ⟨_, b_cons (s_setLc (own := [("_law_k", 11)]) 5 rfl sc__law_grounds.nd rfl rfl (sw_true rfl rfl rfl (by decide +kernel)) (i_range1 T.b_range (d_cons (x_cqi (K := K) h__law_pick hr (x_var 0) (a_cons (o_e (x_add (K := K) (o_var 3) (o_e (x_int)))) a_nil)) d_nil)) (blkOk_by (own := [("_law_k", 11)]) (N := N__law_grounds) (sc := defScope s__law_grounds) (by decide +kernel)) (fun _ _ _ _ _ => (g_name (vs := [11]) 11 sc__law_grounds.nd)) (fun _ _ _ _ _ => ts_nil) (fun _ _ _ _ _ => x_ix (K := K) (o_e (x_ix (K := K) (o_var 2) (o_e (x_cqi (K := K) h__law_pick hr (x_var 0) (a_cons (o_e (x_len (K := K) T.b_len (o_var 2))) a_nil))))) (o_e (x_int)))) (b_cons (s_setLc (own := [("_law_k", 11)]) 6 rfl sc__law_grounds.nd rfl rfl (sw_true rfl rfl rfl (by decide +kernel)) (i_range1 T.b_range (d_cons (x_ix (K := K) (o_e (x_n (n_lst (d_cons (x_int) (d_cons (x_int) (d_cons (x_int) (d_cons (x_int) d_nil))))))) (o_e (x_cqi (K := K) h__law_pick hr (x_var 0) (a_cons (o_e (x_int)) a_nil)))) d_nil)) (blkOk_by (own := [("_law_k", 11)]) (N := N__law_grounds) (sc := defScope s__law_grounds) (by decide +kernel)) (fun _ _ _ _ _ => (g_name (vs := [11]) 11 sc__law_grounds.nd)) (fun _ _ _ _ _ => ts_nil) (fun _ _ _ _ _ => x_ix (K := K) (o_e (x_ix (K := K) (o_var 1) (o_e (x_cqi (K := K) h__law_pick hr (x_var 0) (a_cons (o_e (x_len (K := K) T.b_len (o_var 1))) a_nil))))) (o_e (x_int)))) (b_cons (s_set 7 (x_cqi (K := K) h__law_words hr (x_var 0) (a_cons (o_e (x_int)) a_nil)) sc__law_grounds.nd) (b_cons (s_for PassesOwn.never rfl (i_range1 T.b_range (d_cons (x_add (K := K) (o_var 3) (o_e (x_int))) d_nil)) (g_name (vs := [8]) 8 sc__law_grounds.nd) (b_cons (s_set 9 (x_add (K := K) (o_var 6) (o_e (x_n (n_lc (own := [("_law_place", 12), ("_law_sort", 13)]) rfl sc__law_grounds.nd (i_list (K := K) (x_cq (K := K) h__law_there hr (a_cons (o_e (x_var 2)) (a_cons (o_var 5) (a_cons (o_e (x_n (n_lst d_nil))) a_nil))))) (blkOk_by (own := [("_law_place", 12), ("_law_sort", 13)]) (N := N__law_grounds) (sc := defScope s__law_grounds) (by decide +kernel)) (fun _ _ _ _ _ => (g_tup (K := K) rfl (gs_cons (g_name (vs := [12, 13]) 12 sc__law_grounds.nd) (gs_cons (g_name (vs := [12, 13]) 13 sc__law_grounds.nd) gs_nil)))) (fun _ _ _ _ _ => ts_nil) (fun _ _ _ _ _ => x_var 13))))) sc__law_grounds.nd) (b_cons (s_set 10 (x_add (K := K) (o_var 6) (o_e (x_cq (K := K) h__law_wanted hr (a_cons (o_e (x_var 1)) (a_cons (o_var 9) a_nil))))) sc__law_grounds.nd) (b_cons (s_if (t_w (w_and (t_le (o_e (x_len (K := K) T.b_len (o_var 10))) (o_e (x_int))) (w_and1 (t_le (o_e (x_sub (o_e (x_add (K := K) (o_e (x_len (K := K) T.b_len (o_var 9))) (o_e (x_len (K := K) T.b_len (o_var 10))))) (o_e (x_len (K := K) T.b_len (o_var 6))))) (o_var 4))))) (b_one (s_ret (x_tup (d_cons (x_var 5) (d_cons (x_n (n_sorted (K := K) hr T.b_sorted (o_e (x_n (n_zip (K := K) rfl T.b_list T.b_zip (a_cons (o_var 7) (a_cons (o_var 10) a_nil))))))) d_nil))))) (b_nil)) (b_one (s_set 5 (x_sl (K := K) (o_var 5) p_none (p_some (x_neg1))) sc__law_grounds.nd)))))) (b_one (s_ret (x_tup (d_cons (x_n (n_lst d_nil)) (d_cons (x_n (n_lst d_nil)) d_nil))))))))⟩
theorem sc__law_all_pairings : FnScope N__law_all_pairings ["_law_sorts", "_law_ends"] (defScope s__law_all_pairings) := ⟨rfl, rfl, rfl, by decide +kernel, rfl, by decide +kernel, by decide +kernel⟩
theorem ok__law_all_pairings {f : Addr} {fd : FuncData} (F : Fun K "_law_all_pairings" "_law_all_pairings" s__law_all_pairings f fd) (T : Txt K mg c) : FnOk P w K mg base CX0 1 f fd ["_law_sorts", "_law_ends"] (SpP K [.fr, .fr] (g__law_all_pairings c)) :=
  fn_g (N := N__law_all_pairings) (k := 0) F sc__law_all_pairings rfl fun cdv A outer s H E hr => ⟨_, b_cons (s_setO 2 (n_lst (d_cons (x_tup (d_cons (x_n (n_lst d_nil)) (d_cons (x_n (n_lr1 rfl T.b_list T.b_range (o_e (x_len (K := K) T.b_len (o_var 1))))) d_nil))) d_nil)) sc__law_all_pairings.nd) (b_cons (s_for PassesOwn.never rfl (i_range1 T.b_range (d_cons (x_div (o_e (x_add (K := K) (o_e (x_len (K := K) T.b_len (o_var 1))) (o_e (x_int)))) (o_e (x_int))) d_nil)) (g_name (vs := [3]) 3 sc__law_all_pairings.nd) (b_cons (s_setO 4 (n_lst d_nil) sc__law_all_pairings.nd) (b_cons (s_for PassesOwn.never rfl (i_listB (K := K) (x_var 2)) (g_tup (K := K) rfl (gs_cons (g_name (vs := [5, 6]) 5 sc__law_all_pairings.nd) (gs_cons (g_name (vs := [5, 6]) 6 sc__law_all_pairings.nd) gs_nil))) (b_cons (s_set 7 (x_dget hr (o_e (x_dict (K := K) rfl T.b_dict (o_var 0))) (o_e (x_ix (K := K) (o_e (x_ix (K := K) (o_var 1) (o_e (x_ix (K := K) (o_var 6) (o_e (x_int)))))) (o_e (x_int))))) sc__law_all_pairings.nd) (b_one (s_for PassesOwn.never rfl (i_list (K := K) (x_sl (K := K) (o_var 6) (p_some (x_int)) p_none)) (g_name (vs := [8]) 8 sc__law_all_pairings.nd) (b_one (s_if (t_eq (K := K) hr (o_e (x_ix (K := K) (o_e (x_ix (K := K) (o_var 1) (o_var 8))) (o_e (x_int)))) (o_var 7)) (b_cons (s_setLc (own := [("_law_one", 10)]) 9 rfl sc__law_all_pairings.nd rfl rfl (sw_true rfl rfl rfl (by decide +kernel)) (i_list (K := K) (x_sl (K := K) (o_var 6) (p_some (x_int)) p_none)) (blkOk_by (own := [("_law_one", 10)]) (N := N__law_all_pairings) (sc := defScope s__law_all_pairings) (by decide +kernel)) (fun _ _ _ _ _ => (g_name (vs := [10]) 10 sc__law_all_pairings.nd)) (fun _ _ _ _ _ => (ts_one (t_ne (K := K) hr (o_var 10) (o_var 8)))) (fun _ _ _ _ _ => x_var 10)) (b_one (s_expr (x_app (K := K) (x_var (W := W0) 4).p (d_cons (x_tup (d_cons (x_add (K := K) (o_var 5) (o_e (x_n (n_lst (d_cons (x_tup (d_cons (x_ix (K := K) (o_var 6) (o_e (x_int))) (d_cons (x_var 8) d_nil))) d_nil))))) (d_cons (x_var 9) d_nil))) d_nil))))) (b_nil))))))) (b_one (s_set 2 (x_var 4) sc__law_all_pairings.nd))))) (b_one (s_ret (x_n (n_lc (own := [("_law_row", 5), ("_law_left", 6)]) rfl sc__law_all_pairings.nd (i_listB (K := K) (x_var 2)) (blkOk_by (own := [("_law_row", 5), ("_law_left", 6)]) (N := N__law_all_pairings) (sc := defScope s__law_all_pairings) (by decide +kernel)) (fun _ _ _ _ _ => (g_tup (K := K) rfl (gs_cons (g_name (vs := [5, 6]) 5 sc__law_all_pairings.nd) (gs_cons (g_name (vs := [5, 6]) 6 sc__law_all_pairings.nd) gs_nil)))) (fun _ _ _ _ _ => ts_nil) (fun _ _ _ _ _ => x_var 5))))))⟩
theorem sc__law_right : FnScope N__law_right ["_law_stock", "_law_sorts", "_law_ends", "_law_corners", "_law_legs"] (defScope s__law_right) := ⟨rfl, rfl, rfl, by decide +kernel, rfl, by decide +kernel, by decide +kernel⟩
theorem ok__law_right {f : Addr} {fd : FuncData} (F : Fun K "_law_right" "_law_right" s__law_right f fd) (T : Txt K mg c) (h__law_all_pairings : CallP P w K mg base "_law_all_pairings" 1 ["_law_sorts", "_law_ends"] [.fr, .fr] (g__law_all_pairings c)) (h_pairings : CallP P w K mg base "pairings" 5 ["stock", "corners", "legs"] [.fr, .bo, .bo] (g_pairings c)) (h_count : CallP P w K mg base "count" 5 ["stock", "corners", "legs"] [.fr, .bo, .bo] (g_count c)) : FnOk P w K mg base CX0 6 f fd ["_law_stock", "_law_sorts", "_law_ends", "_law_corners", "_law_legs"] (SpP K [.fr, .fr, .fr, .fr, .fr] (g__law_right c)) :=
  fn_g (N := N__law_right) (k := 5) F sc__law_right rfl fun cdv A outer s H E hr => ⟨_, b_cons (s_set 5 (x_cq (K := K) h__law_all_pairings hr (a_cons (o_e (x_var 1)) (a_cons (o_e (x_var 2)) a_nil))) sc__law_right.nd) (b_cons (s_for PassesOwn.never rfl (i_range1 T.b_range (d_cons (x_int) d_nil)) (g_name (vs := [6]) 6 sc__law_right.nd) (b_told22P (K := K) (i := 7) (r := 8) sc__law_right.nd h_pairings hr (a_cons (o_e (x_var 0)) (a_cons (o_var 3) (a_cons (o_var 4) a_nil))) (t_w (w_or (t_not (t_val (x_isi (K := K) T.b_isinstance T.b_list (by decide +kernel) (o_var 7)))) (w_or (t_ne (K := K) hr (o_var 7) (o_var 5)) (w_or1 (t_ne (K := K) hr (o_e (x_len (K := K) T.b_len (o_var 7))) (o_e (x_cq (K := K) h_count hr (a_cons (o_e (x_var 0)) (a_cons (o_var 3) (a_cons (o_var 4) a_nil)))))))))) (b_one (s_ret (x_bl))) PassesOwn.never rfl (x_sl (K := K) (W := W0) (o_var 7) p_none (p_some (x_int))).p (g_name (vs := [8]) 8 sc__law_right.nd).p (x_app (K := K) (W := W0) (x_var (W := W0) 8).p (d_cons (x_tup (d_cons (x_int) (d_cons (x_int) d_nil))) d_nil)).p (x_app (K := K) (W := W0) (x_var (W := W0) 7).p (d_cons (x_n (n_lst d_nil)) d_nil)).p (x_rev0 (K := K) (W := W0) (x_var (W := W0) 7).p).p)) (b_one (s_ret (x_bl))))⟩
theorem sc_law : FnScope N_law ["_law_script"] (defScope s_law) := ⟨rfl, rfl, rfl, by decide +kernel, rfl, by decide +kernel, by decide +kernel⟩
theorem ok_law {f : Addr} {fd : FuncData} (F : Fun K "law" "law" s_law f fd) (T : Txt K mg c) (h__law_state : CallN P w K mg base "_law_state" 1 ["_law_cell"] [.fr] (g__law_state c)) (h__law_pick : CallI P w K mg base "_law_pick" 1 ["_law_state_here", "_law_many"] [.fr] (g__law_pick c)) (h__law_stock_rows : CallI P w K mg base "_law_stock_rows" 3 ["_law_state_here", "_law_most"] [.fr] (g__law_stock_rows c)) (h__law_grounds : CallI P w K mg base "_law_grounds" 3 ["_law_state_here", "_law_sorts", "_law_kinds", "_law_most", "_law_far"] [.fr, .fr, .fr, .fr] (g__law_grounds c)) (h__law_there : CallP P w K mg base "_law_there" 1 ["_law_kinds", "_law_corners", "_law_legs"] [.fr, .bo, .bo] (g__law_there c)) (h__law_right : CallP P w K mg base "_law_right" 6 ["_law_stock", "_law_sorts", "_law_ends", "_law_corners", "_law_legs"] [.fr, .fr, .fr, .fr, .fr] (g__law_right c)) (h_Stock___init__ : MakeI P w K mg base "Stock" c.stock 4 ["self", "sorts", "kinds"] [.bo, .bo] (g_Stock___init__ c)) (hm : lawOk (m_law c) 9) : FnOk P w K mg base CX0 7 f fd ["_law_script"] (spLawD K) :=
  law_fn (N := N_law) (k := 6) F sc_law hm fun cdv A outer s H E hr => ⟨_, b_cons (s_for PassesOwn.never rfl (i_list (K := K) (x_add (K := K) (o_e (x_scSl (K := K) (x_var (W := W0) 0).p po_none (po_some pe_int) cp_none cp_int)) (o_e (x_n (n_lst (d_cons (x_int) d_nil)))))) (g_name (vs := [1]) 1 sc_law.nd) (b_cons (s_setO 2 (n_cn (K := K) h__law_state hr (a_cons (o_e (x_var 1)) a_nil)) sc_law.nd) (b_cons (s_set 3 (x_ix (K := K) (o_e (x_n (n_lst (d_cons (x_int) (d_cons (x_int) (d_cons (x_int) (d_cons (x_int) (d_cons (x_int) (d_cons (x_int) d_nil))))))))) (o_e (x_cqi (K := K) h__law_pick hr (x_var 2) (a_cons (o_e (x_int)) a_nil)))) sc_law.nd) (b_cons (s_asg (x_cqi (K := K) h__law_stock_rows hr (x_var 2) (a_cons (o_e (x_int)) a_nil)) (g_tup (K := K) rfl (gs_cons (g_name (vs := [4, 5]) 4 sc_law.nd) (gs_cons (g_name (vs := [4, 5]) 5 sc_law.nd) gs_nil)))) (b_cons (s_asg (x_cqi (K := K) h__law_grounds hr (x_var 2) (a_cons (o_e (x_var 4)) (a_cons (o_e (x_var 5)) (a_cons (o_e (x_int)) (a_cons (o_e (x_var 3)) a_nil))))) (g_tup (K := K) rfl (gs_cons (g_name (vs := [6, 7]) 6 sc_law.nd) (gs_cons (g_name (vs := [6, 7]) 7 sc_law.nd) gs_nil)))) (b_cons (s_set 8 (x_cqi (K := K) h__law_pick hr (x_var 2) (a_cons (o_e (x_int)) a_nil)) sc_law.nd) (b_cons (s_if (t_eq (K := K) hr (o_var 8) (o_e (x_int))) (b_one (s_set 7 (x_sl (K := K) (o_var 7) (p_some (x_int)) p_none) sc_law.nd)) (b_nil)) (b_cons (s_if (t_w (w_and (t_eq (K := K) hr (o_var 8) (o_e (x_int))) (w_and (t_lt (o_e (x_len (K := K) T.b_len (o_var 7))) (o_e (x_int))) (w_and1 (t_lt (o_e (x_len (K := K) T.b_len (o_e (x_cq (K := K) h__law_there hr (a_cons (o_e (x_var 5)) (a_cons (o_var 6) (a_cons (o_var 7) a_nil))))))) (o_var 3)))))) (b_one (s_setO 7 (n_sorted (K := K) hr T.b_sorted (o_e (x_add (K := K) (o_var 7) (o_e (x_n (n_lst (d_cons (x_tup (d_cons (x_str) (d_cons (x_ix (K := K) (o_e (x_ix (K := K) (o_var 4) (o_e (x_cqi (K := K) h__law_pick hr (x_var 2) (a_cons (o_e (x_len (K := K) T.b_len (o_var 4))) a_nil))))) (o_e (x_int))) d_nil))) d_nil))))))) sc_law.nd)) (b_nil)) (b_one (s_if (t_not (t_val (x_cq (K := K) h__law_right hr (a_cons (o_e (x_n (n_mkq (K := K) h_Stock___init__ hr (a_cons (o_var 4) (a_cons (o_var 5) a_nil))))) (a_cons (o_e (x_var 4)) (a_cons (o_e (x_cq (K := K) h__law_there hr (a_cons (o_e (x_var 5)) (a_cons (o_var 6) (a_cons (o_var 7) a_nil))))) (a_cons (o_e (x_var 6)) (a_cons (o_e (x_var 7)) a_nil)))))))) (b_one (s_ret (x_bl))) (b_nil))))))))))) (b_one (s_ret (x_bl)))⟩
end
/-! ### what the top has written, all together -/
theorem all_mk {P : Program} {w : World} {K : Fg} {h : Heap} {mg : Str → Option Value} {fa : Addr} {C_stock f_Stock___init__ : Addr} (X : K.In h) (G : h.Ns mainGlobals mg) (hfa : mg "law" = some (.ref fa))
    (z_abs : PySem.W.nsIn K mainGlobals "abs" = some none)
    (z_all : PySem.W.nsIn K mainGlobals "all" = some none)
    (z_dict : PySem.W.nsIn K mainGlobals "dict" = some none)
    (z_enumerate : PySem.W.nsIn K mainGlobals "enumerate" = some none)
    (z_int : PySem.W.nsIn K mainGlobals "int" = some none)
    (z_isinstance : PySem.W.nsIn K mainGlobals "isinstance" = some none)
    (z_len : PySem.W.nsIn K mainGlobals "len" = some none)
    (z_list : PySem.W.nsIn K mainGlobals "list" = some none)
    (z_max : PySem.W.nsIn K mainGlobals "max" = some none)
    (z_range : PySem.W.nsIn K mainGlobals "range" = some none)
    (z_set : PySem.W.nsIn K mainGlobals "set" = some none)
    (z_sorted : PySem.W.nsIn K mainGlobals "sorted" = some none)
    (z_str : PySem.W.nsIn K mainGlobals "str" = some none)
    (z_tuple : PySem.W.nsIn K mainGlobals "tuple" = some none)
    (z_zip : PySem.W.nsIn K mainGlobals "zip" = some none)
    (y_LETTERS : ∃ v : Value, PySem.W.nsIn K mainGlobals "LETTERS" = some (some v) ∧ ∃ t, v = .str "abcdefghijklmnopqrstuvwxyz" t)
    (y_MOST : ∃ v : Value, PySem.W.nsIn K mainGlobals "MOST" = some (some v) ∧ ∃ t, v = .int 6 t)
    (y_MOST_ENDS : ∃ v : Value, PySem.W.nsIn K mainGlobals "MOST_ENDS" = some (some v) ∧ ∃ t, v = .int 10 t)
    (k_stock : ClsK K "Stock" C_stock)
    (n_stock_kinds : PySem.W.findIn K (.ref C_stock) "kinds" = some none)
    (n_stock_sorts : PySem.W.findIn K (.ref C_stock) "sorts" = some none)
    (d_is_name : DefK K "is_name" s_is_name)
    (d_is_sort_row : DefK K "is_sort_row" s_is_sort_row)
    (d_are_sorts : DefK K "are_sorts" s_are_sorts)
    (d_is_kind_row : DefK K "is_kind_row" s_is_kind_row)
    (d_are_kinds : DefK K "are_kinds" s_are_kinds)
    (d_Stock___init__ : MetK K C_stock "__init__" "Stock.__init__" s_Stock___init__ f_Stock___init__)
    (d_is_sort : DefK K "is_sort" s_is_sort)
    (d_is_kind : DefK K "is_kind" s_is_kind)
    (d_ends_of : DefK K "ends_of" s_ends_of)
    (d_are_corners : DefK K "are_corners" s_are_corners)
    (d_is_leg : DefK K "is_leg" s_is_leg)
    (d_are_legs : DefK K "are_legs" s_are_legs)
    (d_sure_corners : DefK K "sure_corners" s_sure_corners)
    (d_factorial : DefK K "factorial" s_factorial)
    (d_partner_of : DefK K "partner_of" s_partner_of)
    (d_ends_there : DefK K "ends_there" s_ends_there)
    (d_ways_to_pair : DefK K "ways_to_pair" s_ways_to_pair)
    (d_count : DefK K "count" s_count)
    (d_next_pairs : DefK K "next_pairs" s_next_pairs)
    (d_pairings : DefK K "pairings" s_pairings)
    (d__law_state : DefK K "_law_state" s__law_state)
    (d__law_pick : DefK K "_law_pick" s__law_pick)
    (d__law_words : DefK K "_law_words" s__law_words)
    (d__law_stock_rows : DefK K "_law_stock_rows" s__law_stock_rows)
    (d__law_there : DefK K "_law_there" s__law_there)
    (d__law_wanted : DefK K "_law_wanted" s__law_wanted)
    (d__law_grounds : DefK K "_law_grounds" s__law_grounds)
    (d__law_all_pairings : DefK K "_law_all_pairings" s__law_all_pairings)
    (d__law_right : DefK K "_law_right" s__law_right)
    (d_law : DefK K "law" s_law)
    (hm : ∀ c, lawOk (m_law c) 9) :
    ∃ fd : FuncData, (∀ (s : Shared) (v : Value), BindsTo s fd ⟨[v], []⟩ [("_law_script", v)]) ∧ ∀ base : Heap, K.In base → base.Ns mainGlobals mg → FnOk P w K mg base CX0 7 fa fd ["_law_script"] (spLawD K) := by
  obtain ⟨f, fd, h1, h2, h3, kV, dc, pm, an, cd, ct, rfl⟩ := d_law.ex
  have e := hfa.symm.trans (PySem.W.mg_of X G h1)
  cases e
  obtain ⟨v_LETTERS, u_LETTERS, t_LETTERS, e_LETTERS⟩ := y_LETTERS
  subst e_LETTERS
  obtain ⟨v_MOST, u_MOST, t_MOST, e_MOST⟩ := y_MOST
  subst e_MOST
  obtain ⟨v_MOST_ENDS, u_MOST_ENDS, t_MOST_ENDS, e_MOST_ENDS⟩ := y_MOST_ENDS
  subst e_MOST_ENDS
  have T : Txt K mg (Cs.mk C_stock 0 0 0 (fun _ => 0) w) := ⟨PySem.W.mg_none_of X G z_abs,
    PySem.W.mg_none_of X G z_all,
    PySem.W.mg_none_of X G z_dict,
    PySem.W.mg_none_of X G z_enumerate,
    PySem.W.mg_none_of X G z_int,
    PySem.W.mg_none_of X G z_isinstance,
    PySem.W.mg_none_of X G z_len,
    PySem.W.mg_none_of X G z_list,
    PySem.W.mg_none_of X G z_max,
    PySem.W.mg_none_of X G z_range,
    PySem.W.mg_none_of X G z_set,
    PySem.W.mg_none_of X G z_sorted,
    PySem.W.mg_none_of X G z_str,
    PySem.W.mg_none_of X G z_tuple,
    PySem.W.mg_none_of X G z_zip,
    ⟨t_LETTERS, PySem.W.mg_of X G u_LETTERS⟩,
    ⟨t_MOST, PySem.W.mg_of X G u_MOST⟩,
    ⟨t_MOST_ENDS, PySem.W.mg_of X G u_MOST_ENDS⟩,
    (fun C hC => by
      simp only [List.mem_cons, List.not_mem_nil, or_false] at hC
      subst hC
      exact ⟨k_stock.cls, n_stock_kinds⟩),
    (fun C hC => by
      simp only [List.mem_cons, List.not_mem_nil, or_false] at hC
      subst hC
      exact ⟨k_stock.cls, n_stock_sorts⟩),
    ⟨k_stock.cls, n_stock_kinds⟩,
    ⟨k_stock.cls, n_stock_sorts⟩⟩
  refine ⟨PySem.W.fnOf "law" "law" (defArgs s_law) (defBody s_law) (defScope s_law) .none kV dc pm an cd ct, fun s v => .of_eq rfl, fun base _ _ => ?_⟩
  have h_is_name := callP_of (P := P) (w := w) (base := base) d_is_name X G (fun F => F.binds fun _ _ _ _ _ _ us hl => match us, hl with | [_], _ => rfl) (fun F => ok_is_name F T )
  have h_is_sort_row := callP_of (P := P) (w := w) (base := base) d_is_sort_row X G (fun F => F.binds fun _ _ _ _ _ _ us hl => match us, hl with | [_], _ => rfl) (fun F => ok_is_sort_row F T h_is_name)
  have h_are_sorts := callP_of (P := P) (w := w) (base := base) d_are_sorts X G (fun F => F.binds fun _ _ _ _ _ _ us hl => match us, hl with | [_], _ => rfl) (fun F => ok_are_sorts F T h_is_sort_row)
  have h_is_kind_row := callP_of (P := P) (w := w) (base := base) d_is_kind_row X G (fun F => F.binds fun _ _ _ _ _ _ us hl => match us, hl with | [_, _], _ => rfl) (fun F => ok_is_kind_row F T h_is_name)
  have h_are_kinds := callP_of (P := P) (w := w) (base := base) d_are_kinds X G (fun F => F.binds fun _ _ _ _ _ _ us hl => match us, hl with | [_, _], _ => rfl) (fun F => ok_are_kinds F T h_is_kind_row)
  have h_Stock___init__ := makeI_of (P := P) (w := w) (base := base) k_stock d_Stock___init__ X G (fun F => F.binds fun _ _ _ _ _ _ us hl => match us, hl with | [_, _, _], _ => rfl) (fun F => ok_Stock___init__ F T h_are_sorts h_are_kinds)
  have h_is_sort := callP_of (P := P) (w := w) (base := base) d_is_sort X G (fun F => F.binds fun _ _ _ _ _ _ us hl => match us, hl with | [_, _], _ => rfl) (fun F => ok_is_sort F T )
  have h_is_kind := callP_of (P := P) (w := w) (base := base) d_is_kind X G (fun F => F.binds fun _ _ _ _ _ _ us hl => match us, hl with | [_, _], _ => rfl) (fun F => ok_is_kind F T )
  have h_ends_of := callP_of (P := P) (w := w) (base := base) d_ends_of X G (fun F => F.binds fun _ _ _ _ _ _ us hl => match us, hl with | [_, _], _ => rfl) (fun F => ok_ends_of F T )
  have h_are_corners := callP_of (P := P) (w := w) (base := base) d_are_corners X G (fun F => F.binds fun _ _ _ _ _ _ us hl => match us, hl with | [_, _], _ => rfl) (fun F => ok_are_corners F T h_is_kind)
  have h_is_leg := callP_of (P := P) (w := w) (base := base) d_is_leg X G (fun F => F.binds fun _ _ _ _ _ _ us hl => match us, hl with | [_, _], _ => rfl) (fun F => ok_is_leg F T h_is_sort h_is_name)
  have h_are_legs := callP_of (P := P) (w := w) (base := base) d_are_legs X G (fun F => F.binds fun _ _ _ _ _ _ us hl => match us, hl with | [_, _], _ => rfl) (fun F => ok_are_legs F T h_is_leg)
  have h_sure_corners := callP_of (P := P) (w := w) (base := base) d_sure_corners X G (fun F => F.binds fun _ _ _ _ _ _ us hl => match us, hl with | [_, _, _], _ => rfl) (fun F => ok_sure_corners F T h_are_corners h_are_legs)
  have h_factorial := callP_of (P := P) (w := w) (base := base) d_factorial X G (fun F => F.binds fun _ _ _ _ _ _ us hl => match us, hl with | [_], _ => rfl) (fun F => ok_factorial F T )
  have h_partner_of := callP_of (P := P) (w := w) (base := base) d_partner_of X G (fun F => F.binds fun _ _ _ _ _ _ us hl => match us, hl with | [_, _], _ => rfl) (fun F => ok_partner_of F T )
  have h_ends_there := callN_of (P := P) (w := w) (base := base) d_ends_there X G (fun F => F.binds fun _ _ _ _ _ _ us hl => match us, hl with | [_, _, _], _ => rfl) (fun F => ok_ends_there F T h_ends_of)
  have h_ways_to_pair := callP_of (P := P) (w := w) (base := base) d_ways_to_pair X G (fun F => F.binds fun _ _ _ _ _ _ us hl => match us, hl with | [_], _ => rfl) (fun F => ok_ways_to_pair F T )
  have h_count := callP_of (P := P) (w := w) (base := base) d_count X G (fun F => F.binds fun _ _ _ _ _ _ us hl => match us, hl with | [_, _, _], _ => rfl) (fun F => ok_count F T h_sure_corners h_ends_there h_ways_to_pair h_factorial)
  have h_next_pairs := callP_of (P := P) (w := w) (base := base) d_next_pairs X G (fun F => F.binds fun _ _ _ _ _ _ us hl => match us, hl with | [_, _, _], _ => rfl) (fun F => ok_next_pairs F T h_partner_of)
  have h_pairings := callP_of (P := P) (w := w) (base := base) d_pairings X G (fun F => F.binds fun _ _ _ _ _ _ us hl => match us, hl with | [_, _, _], _ => rfl) (fun F => ok_pairings F T h_sure_corners h_ends_there h_next_pairs)
  have h__law_state := callN_of (P := P) (w := w) (base := base) d__law_state X G (fun F => F.binds fun _ _ _ _ _ _ us hl => match us, hl with | [_], _ => rfl) (fun F => ok__law_state F T )
  have h__law_pick := callI_of (P := P) (w := w) (base := base) d__law_pick X G (fun F => F.binds fun _ _ _ _ _ _ us hl => match us, hl with | [_, _], _ => rfl) (fun F => ok__law_pick F T )
  have h__law_words := callI_of (P := P) (w := w) (base := base) d__law_words X G (fun F => F.binds fun _ _ _ _ _ _ us hl => match us, hl with | [_, _], _ => rfl) (fun F => ok__law_words F T h__law_pick)
  have h__law_stock_rows := callI_of (P := P) (w := w) (base := base) d__law_stock_rows X G (fun F => F.binds fun _ _ _ _ _ _ us hl => match us, hl with | [_, _], _ => rfl) (fun F => ok__law_stock_rows F T h__law_words h__law_pick)
  have h__law_there := callP_of (P := P) (w := w) (base := base) d__law_there X G (fun F => F.binds fun _ _ _ _ _ _ us hl => match us, hl with | [_, _, _], _ => rfl) (fun F => ok__law_there F T )
  have h__law_wanted := callP_of (P := P) (w := w) (base := base) d__law_wanted X G (fun F => F.binds fun _ _ _ _ _ _ us hl => match us, hl with | [_, _], _ => rfl) (fun F => ok__law_wanted F T )
  have h__law_grounds := callI_of (P := P) (w := w) (base := base) d__law_grounds X G (fun F => F.binds fun _ _ _ _ _ _ us hl => match us, hl with | [_, _, _, _, _], _ => rfl) (fun F => ok__law_grounds F T h__law_pick h__law_words h__law_there h__law_wanted)
  have h__law_all_pairings := callP_of (P := P) (w := w) (base := base) d__law_all_pairings X G (fun F => F.binds fun _ _ _ _ _ _ us hl => match us, hl with | [_, _], _ => rfl) (fun F => ok__law_all_pairings F T )
  have h__law_right := callP_of (P := P) (w := w) (base := base) d__law_right X G (fun F => F.binds fun _ _ _ _ _ _ us hl => match us, hl with | [_, _, _, _, _], _ => rfl) (fun F => ok__law_right F T h__law_all_pairings h_pairings h_count)
  exact ok_law h2 T h__law_state h__law_pick h__law_stock_rows h__law_grounds h__law_there h__law_right h_Stock___init__ (hm _)
theorem walk {l : PySem.W.OpenLaw} {q : Program} {loose : List Str} {XP : (Str → Option Value) → Heap → Prop} {YP : World → Heap → Prop} {d : DefRec} {K : Params → Fg} (hn : l.most = some 63) (hdf : d.params.defaults = [])
    (hY : ∀ (w : World) (h : Heap), YP w h → (K w.params).In h) (F : ∀ (w : World) (mg : Str → Option Value) (fa : Addr) (h : Heap), (K w.params).In h → h.Ns mainGlobals mg → mg d.name = some (.ref fa) →
      ∃ fd : FuncData, (∀ (s : Shared) (u : Value), BindsTo s fd ⟨[u], []⟩ [("_law_script", u)]) ∧ ∀ base : Heap, (K w.params).In base → base.Ns mainGlobals mg → FnOk l.prog w (K w.params) mg base CX0 7 fa fd ["_law_script"] (spLawD (K w.params))) :
    PySem.W.WalkO q loose XP YP l.row.toRowW d [] (fun f vs => PySem.call f vs) :=
  L2.walk_of (n := 63) (k := 7) (x := "_law_script") (CX := fun _ => CX0) (sp := fun w => spLawD (K w.params)) hn (by decide) hdf ⟨rfl, by decide, by decide⟩ hY F (fun _ _ a ns hl _ hS => ⟨a, ns, rfl, hS, hl, fun _ => rfl⟩) fun _ _ _ _ _ z => z
end GA

set_option Elab.async false
set_option linter.all false
set_option maxRecDepth 100000
set_option maxHeartbeats 4000000
/-! PMn: printed by gen.py: renamings by which one drawing becomes another. -/
namespace GA
open PySem L2 DL G
end GA

set_option Elab.async false
set_option linter.all false
set_option maxRecDepth 100000
set_option maxHeartbeats 1000000
/-! NFa: two legs that aren't there, or aren't two, are refused. -/
namespace GA
open PySem L2 DL G PG
/-- no leg's name -/
def Bd (c : Cs) (US : List Str) (d : D) : Prop := g_is_name c [d] = some (.bl false) ∨ ∃ x, d = .str x ∧ NameOk x ∧ x ∉ US
/-- a thing that is a name or none -/
def Nm (c : Cs) (d : D) : Prop := g_is_name c [d] = some (.bl false) ∨ ∃ x, d = .str x ∧ NameOk x
theorem Bd.nm {c : Cs} {US : List Str} {d : D} (h : Bd c US d) : Nm c d := h.imp_right fun ⟨x, e, n, _⟩ => ⟨x, e, n⟩
end GA

set_option Elab.async false
set_option linter.all false
set_option maxRecDepth 100000
set_option maxHeartbeats 1000000
/-! NGa: two legs of any drawing, the ends to which they are joined, and the drawing without them. -/
namespace GA
open PySem L2 DL G PG
def rE (r : NRow) : List NEnd := [r.1, r.2]
/-- one end of its kind: one row has it, at one side -/
theorem pick (P : NEnd → Bool) : ∀ {RS : List NRow}, ((RS.flatMap rE).filter P).length = 1 → ∃ r A, RS.Perm (r :: A) ∧ ((P r.1 = true ∧ P r.2 = false) ∨ (P r.1 = false ∧ P r.2 = true)) ∧ ∀ q ∈ A, P q.1 = false ∧ P q.2 = false
  | [], h => by simp at h
  | r :: RS, h => by
    rw [List.flatMap_cons, List.filter_append, List.length_append] at h
    have none_ : ((RS.flatMap rE).filter P).length = 0 → ∀ q ∈ RS, P q.1 = false ∧ P q.2 = false := fun z q hq => by
      have z' := List.filter_eq_nil_iff.mp (List.length_eq_zero_iff.mp z)
      have m1 : q.1 ∈ RS.flatMap rE := List.mem_flatMap.mpr ⟨q, hq, by simp [rE]⟩
      have m2 : q.2 ∈ RS.flatMap rE := List.mem_flatMap.mpr ⟨q, hq, by simp [rE]⟩
      exact ⟨by simpa using z' _ m1, by simpa using z' _ m2⟩
    cases h1 : P r.1 with
    | true =>
      cases h2 : P r.2 with
      | true =>
        have : ((rE r).filter P).length = 2 := by simp [rE, h1, h2]
        omega
      | false =>
        have : ((rE r).filter P).length = 1 := by simp [rE, h1, h2]
        exact ⟨r, RS, List.Perm.refl _, Or.inl ⟨h1, h2⟩, none_ (by omega)⟩
    | false =>
      cases h2 : P r.2 with
      | true =>
        have : ((rE r).filter P).length = 1 := by simp [rE, h1, h2]
        exact ⟨r, RS, List.Perm.refl _, Or.inr ⟨h1, h2⟩, none_ (by omega)⟩
      | false =>
        have : ((rE r).filter P).length = 0 := by simp [rE, h1, h2]
        obtain ⟨r', A, p, q, z⟩ := pick P (RS := RS) (by omega)
        refine ⟨r', r :: A, (List.Perm.cons r p).trans (List.Perm.swap r' r A), q, fun s hs => ?_⟩
        rcases List.mem_cons.mp hs with rfl | hs
        · exact ⟨h1, h2⟩
        · exact z s hs
section
variable {sorts : List (Str × Str)} {ks : List (Str × List Str)} (hS : StockOk sorts ks) {most : Nat} {cs : List Str} {legs : List (Str × Str)} {js : List Jo} (hD : Drawn sorts ks most cs legs js)
include hS hD
omit hS hD in
omit hS hD in
end
end GA

set_option Elab.async false
set_option linter.all false
set_option maxRecDepth 100000
set_option maxHeartbeats 4000000
/-! NGb: two legs joined, with what is refused; the sewn one is a drawing. -/
namespace GA
open PySem L2 DL G PG
section
variable {sorts : List (Str × Str)} {ks : List (Str × List Str)} (hS : StockOk sorts ks) {most : Nat} {cs : List Str} {legs : List (Str × Str)} {js : List Jo} (hD : Drawn sorts ks most cs legs js)
include hS hD
omit hS hD in
end
end GA

set_option Elab.async false
set_option linter.all false
set_option maxRecDepth 100000
set_option maxHeartbeats 4000000
/-! NHa: two drawings beside one another, with what is refused. -/
namespace GA
open PySem L2 DL G PG
section
variable (c : Cs) {sorts : List (Str × Str)} {ks : List (Str × List Str)} (hS : StockOk sorts ks)
include hS
end
end GA

set_option Elab.async false
set_option linter.all false
set_option maxRecDepth 100000
set_option maxHeartbeats 4000000
/-! NHb: two drawings that don't go together, or are too many. -/
namespace GA
open PySem L2 DL G PG
section
variable (c : Cs) {st1 st2 : D} {cs1 cs2 : List Str} {legs1 legs2 : List (Str × Str)} {js1 js2 : List Jo} (h1 : legs1.length ≤ 100) (h2 : legs2.length ≤ 100)
include h1 h2
end
end GA

set_option Elab.async false
set_option linter.all false
set_option maxRecDepth 100000
set_option maxHeartbeats 4000000
/-! NIa: renamings: corners and joins moved by an order. -/
namespace GA
open PySem L2 DL G PG
abbrev PermN (n : Nat) (σ : List Nat) : Prop := σ.Perm (List.range n)
theorem PermN.len {n : Nat} {σ : List Nat} (h : PermN n σ) : σ.length = n := by rw [h.length_eq, List.length_range]
theorem PermN.nd {n : Nat} {σ : List Nat} (h : PermN n σ) : σ.Nodup := h.nodup_iff.mpr List.nodup_range
theorem PermN.mem {n : Nat} {σ : List Nat} (h : PermN n σ) {x : Nat} : x ∈ σ ↔ x < n := by rw [h.mem_iff, List.mem_range]
theorem PermN.idx_lt {n : Nat} {σ : List Nat} (h : PermN n σ) {x : Nat} (hx : x < n) : σ.idxOf x < n := by
  have := List.idxOf_lt_length_of_mem (h.mem.mpr hx)
  rwa [h.len] at this
theorem PermN.at_lt {n : Nat} {σ : List Nat} (h : PermN n σ) {i : Nat} (hi : i < n) : σ.getD i 0 < n := by
  have hl := h.len
  rw [List.getD_eq_getElem?_getD, List.getElem?_eq_getElem (by omega)]
  exact h.mem.mp (List.getElem_mem _)
theorem getD_at {α : Type} {xs : List α} {i : Nat} (h : i < xs.length) (d : α) : xs.getD i d = xs[i] := by
  rw [List.getD_eq_getElem?_getD, List.getElem?_eq_getElem h]
  rfl
theorem PermN.idx_at {n : Nat} {σ : List Nat} (h : PermN n σ) {i : Nat} (hi : i < n) : σ.idxOf (σ.getD i 0) = i := by
  have hl := h.len
  rw [getD_at (by omega)]
  exact h.nd.idxOf_getElem i (by omega)
theorem PermN.at_idx {n : Nat} {σ : List Nat} (h : PermN n σ) {x : Nat} (hx : x < n) : σ.getD (σ.idxOf x) 0 = x := by
  rw [getD_at (List.idxOf_lt_length_of_mem (h.mem.mpr hx))]
  exact List.getElem_idxOf _
theorem range_map_getD {α : Type} (xs : List α) (d : α) : (List.range xs.length).map (fun i => xs.getD i d) = xs := by
  apply List.ext_getElem
  · simp
  · intro i h1 h2
    simp only [List.getElem_map, List.getElem_range]
    exact getD_at h2 d
/-- all places: the corners' and behind them the legs' -/
def plR (σ : List Nat) (n m : Nat) : List Nat := σ ++ (List.range m).map fun k => n + k
theorem plR_lo {σ : List Nat} {n m : Nat} (h : σ.length = n) {i : Nat} (hi : i < n) : (plR σ n m).getD i 0 = σ.getD i 0 := by
  unfold plR
  rw [List.getD_eq_getElem?_getD, List.getElem?_append_left (by omega), ← List.getD_eq_getElem?_getD]
theorem plR_hi {σ : List Nat} {n m : Nat} (h : σ.length = n) {i : Nat} (hi : i < m) : (plR σ n m).getD (n + i) 0 = n + i := by
  unfold plR
  rw [List.getD_eq_getElem?_getD, List.getElem?_append_right (by omega), show n + i - σ.length = i by omega, List.getElem?_map, List.getElem?_range hi]
  rfl
def mvC (σ : List Nat) (cs : List Str) : List Str := (List.range cs.length).map fun k => cs.getD (σ.idxOf k) ""
def mvJs (σ : List Nat) (n m : Nat) (js : List Jo) : List Jo := sortJ (js.map (mvJ (plR σ n m)))
theorem mvC_len (σ : List Nat) (cs : List Str) : (mvC σ cs).length = cs.length := by unfold mvC; simp
theorem mvC_at {σ : List Nat} {cs : List Str} {k : Nat} (h : k < cs.length) : (mvC σ cs).getD k "" = cs.getD (σ.idxOf k) "" := by
  unfold mvC
  rw [getD_at (by simpa using h)]
  simp
theorem mvC_mem {σ : List Nat} {cs : List Str} (h : PermN cs.length σ) {x : Str} (hx : x ∈ mvC σ cs) : x ∈ cs := by
  unfold mvC at hx
  obtain ⟨k, hk, rfl⟩ := List.mem_map.mp hx
  have := h.idx_lt (List.mem_range.mp hk)
  rw [getD_at this]
  exact List.getElem_mem _
theorem zip_range {α : Type} (cs : List α) (d : α) : cs.zipIdx = (List.range cs.length).map fun i => (cs.getD i d, i) := by
  apply List.ext_getElem
  · simp
  · intro i h1 h2
    have hi : i < cs.length := by simpa using h1
    simp only [List.getElem_zipIdx, List.getElem_map, List.getElem_range, Nat.zero_add]
    rw [getD_at hi]
theorem corner_range (ks : List (Str × List Str)) (cs : List Str) : cornerEnds ks cs.zipIdx = (List.range cs.length).flatMap fun i => (ownOf ks (cs.getD i "")).map fun s => (i, s) := by
  unfold cornerEnds
  rw [zip_range cs "", List.flatMap_map]
theorem ren_ends {ks : List (Str × List Str)} {cs : List Str} {σ : List Nat} (h : PermN cs.length σ) (legs : List (Str × Str)) : ((endsP ks cs legs).map (mvE (plR σ cs.length legs.length))).Perm (endsP ks (mvC σ cs) legs) := by
  unfold endsP
  rw [List.map_append]
  refine List.Perm.append ?_ (List.Perm.of_eq ?_)
  · rw [corner_range, corner_range, mvC_len, List.map_flatMap]
    have e1 : ((List.range cs.length).flatMap fun a => ((ownOf ks (cs.getD a "")).map fun s => (a, s)).map (mvE (plR σ cs.length legs.length))) = (List.range cs.length).flatMap fun a => (ownOf ks (cs.getD a "")).map fun s => (σ.getD a 0, s) := by
      refine flatMap_same fun a ha => ?_
      rw [List.map_map]
      refine List.map_congr_left fun s _ => ?_
      show ((plR σ cs.length legs.length).getD a 0, s) = _
      rw [plR_lo h.len (List.mem_range.mp ha)]
    rw [e1]
    have e2 : ((List.range cs.length).flatMap fun a => (ownOf ks (cs.getD a "")).map fun s => (σ.getD a 0, s)) = σ.flatMap fun k => (ownOf ks ((mvC σ cs).getD k "")).map fun s => (k, s) := by
      have e3 : σ = (List.range cs.length).map fun i => σ.getD i 0 := by
        have := range_map_getD σ 0
        rw [h.len] at this
        exact this.symm
      conv => rhs; arg 2; rw [e3]
      rw [List.flatMap_map]
      refine flatMap_same fun a ha => ?_
      have ha := List.mem_range.mp ha
      rw [mvC_at (h.at_lt ha), h.idx_at ha]
    rw [e2]
    exact h.flatMap_right _
  · rw [List.map_map]
    refine List.map_congr_left fun q hq => ?_
    have hb : q.2 < legs.length := by
      have := (List.mem_zipIdx hq).2.1
      omega
    show ((plR σ cs.length legs.length).getD (cs.length + q.2) 0, q.1.2) = _
    rw [plR_hi h.len hb, mvC_len]
section
variable {sorts : List (Str × Str)} {ks : List (Str × List Str)} (hS : StockOk sorts ks) {most : Nat} {cs : List Str} {legs : List (Str × Str)} {js : List Jo} (hD : Drawn sorts ks most cs legs js) {σ : List Nat} (hσ : PermN cs.length σ)
include hS hD hσ
theorem ren_drawn : Drawn sorts ks most (mvC σ cs) legs (mvJs σ cs.length legs.length js) := by
  have hl := hD.len hS
  have p : (mvJs σ cs.length legs.length js).Perm (js.map (mvJ (plR σ cs.length legs.length))) := List.mergeSort_perm _ _
  refine ⟨⟨by rw [mvC_len]; exact hD.co.hi, fun x hx => hD.co.mem x (mvC_mem hσ hx)⟩, hD.le, ⟨fun j hj => ?_, fun j hj => ?_, ?_, ?_⟩, by rw [mvC_len]; exact hD.cm⟩
  · obtain ⟨i, _, rfl⟩ := List.mem_map.mp (p.mem_iff.mp hj)
    exact mkJ_le _ _
  · obtain ⟨i, hi, rfl⟩ := List.mem_map.mp (p.mem_iff.mp hj)
    exact mvJ_pt hS.so (hD.jo.pt i hi)
  · unfold mvJs
    rw [sortJ_map]
    exact sortD_idem _
  · refine (p.flatMap_right joE).trans ((mvJs_perm _ js).trans ((hD.jo.pm.map _).trans (ren_ends hσ legs)))
end
end GA

set_option Elab.async false
set_option linter.all false
set_option maxRecDepth 100000
set_option maxHeartbeats 4000000
/-! NIb: drawings renamed, as the program and as the laws do; what is no renaming. -/
namespace GA
open PySem L2 DL G PG
theorem sortF_tup (σ : List Nat) (h : σ.length ≤ 5000) : sortF (.tup (σ.map nI)) = some (sortD (σ.map nI)) := by
  simp only [sortF, sortOk_iff.mpr (nats_sortOk σ h), if_true]
theorem lr1_nat {n : Nat} (h : n ≤ 100000) : lrF1 (.int (n : Nat)) = some ((List.range n).map nI) := by
  have hc : (-1000000 : Int) ≤ (n : Nat) ∧ ((n : Nat) : Int) ≤ 1000000 := by omega
  simp only [lrF1]
  rw [if_pos hc, Int.toNat_natCast]
  congr 1
  unfold rangeD
  refine List.map_congr_left fun i _ => ?_
  show D.int (0 + (i : Int)) = .int (i : Int)
  rw [Int.zero_add]
section
variable (c : Cs) {DR : D} {CS : List D} (hc : fldD [c.drawing] "corners" DR = some (.lst CS)) (h6 : CS.length ≤ 1000)
include hc h6
end
/-! ### what is a renaming -/
section
variable (c : Cs) {sorts : List (Str × Str)} {ks : List (Str × List Str)} (hS : StockOk sorts ks) {most : Nat} {cs : List Str} {legs : List (Str × Str)} {js : List Jo} (hD : Drawn sorts ks most cs legs js) {σ : List Nat} (hσ : PermN cs.length σ)
include hS hD hσ
end
end GA

set_option Elab.async false
set_option linter.all false
set_option maxRecDepth 100000
set_option maxHeartbeats 4000000
/-! NIc: two renamings one behind the other; none; joins moved as the laws do. -/
namespace GA
open PySem L2 DL G PG
def cmp (σ τ : List Nat) : List Nat := σ.map fun x => τ.getD x 0
theorem PermN.cmp {n : Nat} {σ τ : List Nat} (h : PermN n σ) (g : PermN n τ) : PermN n (GA.cmp σ τ) := by
  unfold GA.cmp
  have e : (List.range n).map (fun x => τ.getD x 0) = τ := by
    have := range_map_getD τ 0
    rw [g.len] at this
    exact this
  exact (h.map _).trans (e.symm ▸ g)
theorem cmp_at {n : Nat} {σ τ : List Nat} (h : PermN n σ) {i : Nat} (hi : i < n) : (cmp σ τ).getD i 0 = τ.getD (σ.getD i 0) 0 := by
  unfold cmp
  have hl := h.len
  rw [getD_at (by rw [List.length_map]; omega), List.getElem_map, getD_at (show i < σ.length by omega)]
theorem cmp_idx {n : Nat} {σ τ : List Nat} (h : PermN n σ) (g : PermN n τ) {k : Nat} (hk : k < n) : (cmp σ τ).idxOf k = σ.idxOf (τ.idxOf k) := by
  have h1 := g.idx_lt hk
  have h2 := h.idx_lt h1
  have e : (cmp σ τ).getD (σ.idxOf (τ.idxOf k)) 0 = k := by
    rw [cmp_at h h2, h.at_idx h1, g.at_idx hk]
  have := (h.cmp g).idx_at h2
  rw [e] at this
  exact this
theorem mvC_cmp {cs : List Str} {σ τ : List Nat} (h : PermN cs.length σ) (g : PermN cs.length τ) : mvC τ (mvC σ cs) = mvC (cmp σ τ) cs := by
  unfold mvC
  rw [List.length_map, List.length_range]
  refine List.map_congr_left fun k hk => ?_
  have hk := List.mem_range.mp hk
  have := mvC_at (σ := σ) (cs := cs) (g.idx_lt hk)
  unfold mvC at this
  rw [this, cmp_idx h g hk]
theorem pl_cmp {n m : Nat} {σ τ : List Nat} (h : PermN n σ) (g : PermN n τ) {p : Nat} (hp : p < n + m) : (plR τ n m).getD ((plR σ n m).getD p 0) 0 = (plR (cmp σ τ) n m).getD p 0 := by
  by_cases q : p < n
  · rw [plR_lo h.len q, plR_lo g.len (h.at_lt q), plR_lo (h.cmp g).len q, cmp_at h q]
  · obtain ⟨i, rfl⟩ : ∃ i, p = n + i := ⟨p - n, by omega⟩
    rw [plR_hi h.len (by omega), plR_hi g.len (by omega), plR_hi (h.cmp g).len (by omega)]
theorem mvJ_cmp {pl1 pl2 pl3 : List Nat} {j : Jo} (hn : NameOk j.2.1 ∧ NameOk j.2.2.2) (h1 : pl2.getD (pl1.getD j.1 0) 0 = pl3.getD j.1 0) (h2 : pl2.getD (pl1.getD j.2.2.1 0) 0 = pl3.getD j.2.2.1 0) : mvJ pl2 (mvJ pl1 j) = mvJ pl3 j := by
  have e3 : mvJ pl3 j = mkJ (pl3.getD j.1 0, j.2.1) (pl3.getD j.2.2.1 0, j.2.2.2) := rfl
  have e1 : mvJ pl1 j = mkJ (pl1.getD j.1 0, j.2.1) (pl1.getD j.2.2.1 0, j.2.2.2) := rfl
  rw [e3, e1, ← h1, ← h2]
  rcases mkJ_ends (pl1.getD j.1 0, j.2.1) (pl1.getD j.2.2.1 0, j.2.2.2) with e | e
  · rw [e]; rfl
  · rw [e]
    exact mkJ_comm (p := (pl2.getD (pl1.getD j.2.2.1 0) 0, j.2.2.2)) (q := (pl2.getD (pl1.getD j.1 0) 0, j.2.1)) hn.2 hn.1
theorem sortJ_eq {is js : List Jo} (h : sortD (is.map joD) = sortD (js.map joD)) : sortJ is = sortJ js := by
  refine jos_inj ?_
  rw [sortJ_map, sortJ_map, h]
theorem sortJ_same {sorts : List (Str × Str)} {ks : List (Str × List Str)} (hS : StockOk sorts ks) {is js : List Jo} (p : is.Perm js) (h : ∀ j ∈ is, (j.2.1, j.2.2.2) ∈ sorts) (hl : is.length ≤ 1000) : sortJ is = sortJ js :=
  sortJ_eq (sortD_same (n := 1) (p.map joD) (jo_pl hS h) (jos_sortOk is hl).al)
section
variable {sorts : List (Str × Str)} {ks : List (Str × List Str)} (hS : StockOk sorts ks) {most : Nat} {cs : List Str} {legs : List (Str × Str)} {js : List Jo} (hD : Drawn sorts ks most cs legs js)
include hS hD
theorem mvJs_cmp {σ τ : List Nat} (h : PermN cs.length σ) (g : PermN cs.length τ) : mvJs τ cs.length legs.length (mvJs σ cs.length legs.length js) = mvJs (cmp σ τ) cs.length legs.length js := by
  have hlen := hD.len hS
  have hp : (mvJs σ cs.length legs.length js).Perm (js.map (mvJ (plR σ cs.length legs.length))) := List.mergeSort_perm _ _
  have hm := hp.map (mvJ (plR τ cs.length legs.length))
  rw [List.map_map] at hm
  have e : js.map (mvJ (plR τ cs.length legs.length) ∘ mvJ (plR σ cs.length legs.length)) = js.map (mvJ (plR (cmp σ τ) cs.length legs.length)) := by
    refine List.map_congr_left fun j hj => ?_
    have := hD.lt j hj
    exact mvJ_cmp (hS.so.nm _ (hD.jo.pt j hj)) (pl_cmp h g this.1) (pl_cmp h g this.2)
  rw [e] at hm
  refine sortJ_same hS hm (fun j hj => ?_) (by rw [List.length_map, hp.length_eq, List.length_map]; omega)
  obtain ⟨i, hi, rfl⟩ := List.mem_map.mp (hm.mem_iff.mp hj)
  exact mvJ_pt hS.so (hD.jo.pt i hi)
end
/-! ### the order turned back -/
def inv (n : Nat) (σ : List Nat) : List Nat := (List.range n).map fun k => σ.idxOf k
theorem cmp_inv {n : Nat} {σ : List Nat} (h : PermN n σ) : cmp σ (inv n σ) = List.range n := by
  unfold cmp inv
  have e : σ = (List.range n).map fun i => σ.getD i 0 := by
    have := range_map_getD σ 0
    rw [h.len] at this
    exact this.symm
  conv => lhs; arg 2; rw [e]
  rw [List.map_map]
  conv => rhs; rw [← List.map_id (List.range n)]
  refine List.map_congr_left fun i hi => ?_
  have hi := List.mem_range.mp hi
  show ((List.range n).map fun k => σ.idxOf k).getD (σ.getD i 0) 0 = i
  have hl := h.at_lt hi
  rw [getD_at (by simpa using hl), List.getElem_map, List.getElem_range, h.idx_at hi]
theorem PermN.inv {n : Nat} {σ : List Nat} (h : PermN n σ) : PermN n (GA.inv n σ) := by
  have nd : (GA.inv n σ).Nodup := by
    unfold GA.inv List.Nodup
    rw [List.pairwise_map]
    refine List.Pairwise.imp_of_mem (fun {a b} ha hb hab e => ?_) (List.nodup_range (n := n))
    have h1 := h.at_idx (List.mem_range.mp ha)
    rw [e, h.at_idx (List.mem_range.mp hb)] at h1
    exact hab h1.symm
  refine (List.perm_ext_iff_of_nodup nd List.nodup_range).mpr fun x => ?_
  rw [List.mem_range]
  constructor
  · intro hx
    obtain ⟨k, hk, rfl⟩ := List.mem_map.mp hx
    exact h.idx_lt (List.mem_range.mp hk)
  · intro hx
    exact List.mem_map.mpr ⟨σ.getD x 0, List.mem_range.mpr (h.at_lt hx), h.idx_at hx⟩
/-! ### as the laws do -/
section
variable (c : Cs) {sorts : List (Str × Str)} {ks : List (Str × List Str)} (hS : StockOk sorts ks)
include hS
end
end GA

set_option Elab.async false
set_option linter.all false
set_option maxRecDepth 100000
set_option maxHeartbeats 4000000
/-! NJa: all orders, those that bring the kinds in order; lists of data compared. -/
namespace GA
open PySem L2 DL G PG
/-! ### all orders -/
def extN (n : Nat) (r : List Nat) : List (List Nat) := ((List.range n).filter fun x => decide (x ∉ r)).map fun x => r ++ [x]
def permRows (n : Nat) : Nat → List (List Nat)
  | 0 => [[]]
  | i + 1 => (permRows n i).flatMap (extN n)
/-! ### those that bring the kinds in order -/
end GA

set_option Elab.async false
set_option linter.all false
set_option maxRecDepth 100000
set_option maxHeartbeats 4000000
/-! NJb: all orders, as the program and as the laws gather them. -/
namespace GA
open PySem L2 DL G PG
/-! ### the program's -/
end GA

set_option Elab.async false
set_option linter.all false
set_option maxRecDepth 100000
set_option maxHeartbeats 4000000
/-! NJc: the orders that bring the kinds in order, as the program gathers them; the least drawing. -/
namespace GA
open PySem L2 DL G PG
section
variable (c : Cs) {sorts : List (Str × Str)} {ks : List (Str × List Str)} (hS : StockOk sorts ks) {most : Nat} {cs : List Str} {legs : List (Str × Str)} {js : List Jo} (hD : Drawn sorts ks most cs legs js)
include hS hD
end
/-! ### data compared -/
theorem enc_strs (xs : List Str) : encD (.lst (xs.map .str)) = .list (xs.map .str) := by
  have := toPys_enc (ds := xs.map D.str) fun d hd => by obtain ⟨x, _, rfl⟩ := List.mem_map.mp hd; rfl
  simp only [encD, toPy, this, Option.map_some, Option.getD_some]
  rw [List.map_map]
  rfl
end GA

set_option Elab.async false
set_option linter.all false
set_option maxRecDepth 100000
set_option maxHeartbeats 4000000
/-! NJd: the least drawing: what it is, and that the program tells it. -/
namespace GA
open PySem L2 DL G PG
theorem alikeAll_of : ∀ {ps qs : List PyData}, (∀ p ∈ ps, ∀ q ∈ qs, PySem.W.alike p q = true) → PySem.W.alikeAll ps qs = true
  | [], _, _ => by simp [PySem.W.alikeAll]
  | _ :: _, [], _ => by simp [PySem.W.alikeAll]
  | p :: ps, q :: qs, h => by
    rw [PySem.W.alikeAll, h p List.mem_cons_self q List.mem_cons_self, alikeAll_of fun x hx y hy => h x (List.mem_cons_of_mem _ hx) y (List.mem_cons_of_mem _ hy)]
    rfl
theorem alike_lst {n : Nat} {ds es : List D} (hd : ∀ d ∈ ds, Pl n d) (he : ∀ d ∈ es, Pl n d) (h : ∀ d ∈ ds, ∀ e ∈ es, PySem.W.alike (encD d) (encD e) = true) : PySem.W.alike (encD (.lst ds)) (encD (.lst es)) = true := by
  rw [encD_lst hd, encD_lst he]
  show PySem.W.alikeAll _ _ = true
  refine alikeAll_of fun p hp q hq => ?_
  obtain ⟨d, hd, rfl⟩ := List.mem_map.mp hp
  obtain ⟨e, he, rfl⟩ := List.mem_map.mp hq
  exact h d hd e he
theorem alike_tup {n : Nat} {ds es : List D} (hd : ∀ d ∈ ds, Pl n d) (he : ∀ d ∈ es, Pl n d) (h : PySem.W.alikeAll (ds.map encD) (es.map encD) = true) : PySem.W.alike (encD (.tup ds)) (encD (.tup es)) = true := by
  rw [encD_tup hd, encD_tup he]
  exact h
theorem alike_jos (is js : List Jo) (hi : ∀ d ∈ is.map joD, Pl 1 d) (hj : ∀ d ∈ js.map joD, Pl 1 d) : PySem.W.alike (encD (.lst (is.map joD))) (encD (.lst (js.map joD))) = true :=
  alike_lst hi hj fun d hd e he => by
    obtain ⟨i, _, rfl⟩ := List.mem_map.mp hd
    obtain ⟨j, _, rfl⟩ := List.mem_map.mp he
    rfl
theorem alike_strs (xs ys : List Str) : PySem.W.alike (encD (.lst (xs.map .str))) (encD (.lst (ys.map .str))) = true := by
  rw [enc_strs, enc_strs]
  show PySem.W.alikeAll _ _ = true
  refine alikeAll_of fun p hp q hq => ?_
  obtain ⟨d, hd, rfl⟩ := List.mem_map.mp hp
  obtain ⟨e, he, rfl⟩ := List.mem_map.mp hq
  rfl
def pD (cs : List Str) (js : List Jo) : D := .tup [.lst (cs.map .str), .lst (js.map joD)]
theorem cmp_back {n : Nat} {ρ τ : List Nat} (h : PermN n ρ) (g : PermN n τ) : cmp ρ (cmp (inv n ρ) τ) = τ := by
  have hl := (h.cmp (h.inv.cmp g)).len
  apply List.ext_getElem
  · rw [hl, g.len]
  · intro i a b
    have hi : i < n := by rw [hl] at a; exact a
    have e1 := cmp_at h (τ := cmp (inv n ρ) τ) hi
    rw [cmp_at h.inv (h.at_lt hi)] at e1
    have e2 : (inv n ρ).getD (ρ.getD i 0) 0 = i := by
      have := cmp_inv h
      have h2 := cmp_at h (τ := inv n ρ) hi
      rw [this, getD_at (by simpa using hi), List.getElem_range] at h2
      exact h2.symm
    rw [e2, getD_at a, getD_at b] at e1
    exact e1
/-- the least of all renamed ones -/
def IsLeast (m : Nat) (cs : List Str) (js : List Jo) (cs' : List Str) (js' : List Jo) : Prop := (∃ σ, PermN cs.length σ ∧ cs' = mvC σ cs ∧ js' = mvJs σ cs.length m js) ∧ ∀ τ, PermN cs.length τ → dLe (pD cs' js') (pD (mvC τ cs) (mvJs τ cs.length m js)) = true
section
variable {sorts : List (Str × Str)} {ks : List (Str × List Str)} (hS : StockOk sorts ks) {most : Nat} {cs : List Str} {legs : List (Str × Str)} {js : List Jo} (hD : Drawn sorts ks most cs legs js)
include hS hD
theorem pair_parts : ∀ d ∈ [D.lst (cs.map .str), .lst (js.map joD)], Pl 2 d := fun d hd => by
  simp only [List.mem_cons, List.not_mem_nil, or_false] at hd
  rcases hd with rfl | rfl
  · exact (pl_corners hS hD).mono (by decide)
  · exact pl_joins hS hD
theorem pD_pl : Pl 3 (pD cs js) := Pl.tup (pair_parts hS hD)
end
section
variable {sorts : List (Str × Str)} {ks : List (Str × List Str)} (hS : StockOk sorts ks) {m1 m2 : Nat} {cs1 cs2 : List Str} {legs1 legs2 : List (Str × Str)} {js1 js2 : List Jo} (h1 : Drawn sorts ks m1 cs1 legs1 js1) (h2 : Drawn sorts ks m2 cs2 legs2 js2)
include hS h1 h2
theorem pD_alike : PySem.W.alike (encD (pD cs1 js1)) (encD (pD cs2 js2)) = true := by
  refine alike_tup (pair_parts hS h1) (pair_parts hS h2) ?_
  simp only [List.map_cons, List.map_nil, PySem.W.alikeAll, Bool.and_true, Bool.and_eq_true]
  exact ⟨alike_strs _ _, alike_jos _ _ (jo_pl hS h1.jo.pt) (jo_pl hS h2.jo.pt)⟩
theorem pD_anti (a : dLe (pD cs1 js1) (pD cs2 js2) = true) (b : dLe (pD cs2 js2) (pD cs1 js1) = true) : cs1 = cs2 ∧ js1 = js2 := by
  have := dLe_anti (pD_pl hS h1) (pD_pl hS h2) (pD_alike hS h1 h2) a b
  unfold pD at this
  simp only [D.tup.injEq, List.cons.injEq, D.lst.injEq, and_true] at this
  exact ⟨map_inj (fun _ _ z => D.str.inj z) this.1, jos_inj this.2⟩
end
section
variable {sorts : List (Str × Str)} {ks : List (Str × List Str)} (hS : StockOk sorts ks) {most : Nat} {cs : List Str} {legs : List (Str × Str)} {js : List Jo} (hD : Drawn sorts ks most cs legs js)
include hS hD
theorem IsLeast.drawn {cs' : List Str} {js' : List Jo} (h : IsLeast legs.length cs js cs' js') : Drawn sorts ks most cs' legs js' := by
  obtain ⟨⟨σ, hσ, rfl, rfl⟩, _⟩ := h
  exact ren_drawn hS hD hσ
theorem IsLeast.uniq {cs1 cs2 : List Str} {js1 js2 : List Jo} (h1 : IsLeast legs.length cs js cs1 js1) (h2 : IsLeast legs.length cs js cs2 js2) : cs1 = cs2 ∧ js1 = js2 := by
  have d1 := h1.drawn hS hD
  have d2 := h2.drawn hS hD
  obtain ⟨⟨σ, hσ, e1, e2⟩, m1⟩ := h1
  obtain ⟨⟨τ, hτ, e3, e4⟩, m2⟩ := h2
  refine pD_anti hS d1 d2 ?_ ?_
  · rw [e3, e4]; exact m1 τ hτ
  · rw [e1, e2]; exact m2 σ hσ
/-- of a renamed one it is the same -/
theorem IsLeast.back {ρ : List Nat} (hρ : PermN cs.length ρ) {cs' : List Str} {js' : List Jo} (h : IsLeast legs.length (mvC ρ cs) (mvJs ρ cs.length legs.length js) cs' js') : IsLeast legs.length cs js cs' js' := by
  obtain ⟨⟨σ, hσ, e1, e2⟩, m⟩ := h
  rw [mvC_len] at hσ e2 m
  refine ⟨⟨cmp ρ σ, hρ.cmp hσ, by rw [e1, mvC_cmp hρ hσ], by rw [e2, mvJs_cmp hS hD hρ hσ]⟩, fun τ hτ => ?_⟩
  have hp := hρ.inv.cmp hτ
  have := m _ hp
  rw [mvC_cmp hρ hp, mvJs_cmp hS hD hρ hp, cmp_back hρ hτ] at this
  exact this
end
section
variable (c : Cs) {sorts : List (Str × Str)} {ks : List (Str × List Str)} (hS : StockOk sorts ks) {most : Nat} {cs : List Str} {legs : List (Str × Str)} {js : List Jo} (hD : Drawn sorts ks most cs legs js)
include hS hD
end
end GA

set_option Elab.async false
set_option linter.all false
set_option maxRecDepth 100000
set_option maxHeartbeats 1000000
/-! RAa: which joins lie between two places (plain). -/
namespace GA
open PySem L2 DL G PG
abbrev nK (x y : Nat) : NestedKey := bKey (x : Nat) (y : Nat)
structure BInv (st : BSt) : Prop where
  hk : keysT st.2.1 = some st.1
  nd : st.1.Nodup
  ln : st.2.2.length = st.1.length
  ky : ∀ k ∈ st.1, ∃ x y : Nat, k = nK x y
end GA

set_option Elab.async false
set_option linter.all false
set_option maxRecDepth 100000
set_option maxHeartbeats 1000000
/-! RAb: what bonds tells. -/
namespace GA
open PySem L2 DL G PG
section
variable (c : Cs) {sorts : List (Str × Str)} {ks : List (Str × List Str)} (hS : StockOk sorts ks) {most : Nat} {cs : List Str} {legs : List (Str × Str)} {js : List Jo} (hD : Drawn sorts ks most cs legs js)
include hS hD
end
end GA

set_option Elab.async false
set_option linter.all false
set_option maxRecDepth 100000
set_option maxHeartbeats 1000000
/-! RAc: whether one more corner may get a number. -/
namespace GA
open PySem L2 DL G PG
section
variable (c : Cs) {sorts : List (Str × Str)} {ks : List (Str × List Str)} (hS : StockOk sorts ks) {most : Nat} {cs : List Str} {legs : List (Str × Str)} {js : List Jo} (hD : Drawn sorts ks most cs legs js)
include hS hD
end
section
variable (c : Cs) {sorts : List (Str × Str)} {ks : List (Str × List Str)} (hS : StockOk sorts ks) {m1 m2 : Nat} {cs1 cs2 : List Str} {legs : List (Str × Str)} {js1 js2 : List Jo} (hD1 : Drawn sorts ks m1 cs1 legs js1) (hD2 : Drawn sorts ks m2 cs2 legs js2)
include hS hD1 hD2
end
end GA

set_option Elab.async false
set_option linter.all false
set_option maxRecDepth 100000
set_option maxHeartbeats 1000000
/-! TAa: pairings: all pairs of the least end that isn't paired yet. -/
namespace GA
open PySem L2 DL G PG
def ppD (p : Nat × Nat) : D := .tup [nI p.1, nI p.2]
def prwD (row : List (Nat × Nat)) : D := .lst (row.map ppD)
def usedOf (row : List (Nat × Nat)) : List Nat := row.flatMap fun p => [p.1, p.2]
def leftOf (n : Nat) (row : List (Nat × Nat)) : List Nat := (List.range n).filter fun x => decide (x ∉ usedOf row)
def ptOf (sorts : List (Str × Str)) (s : Str) : Str := ((sorts.find? fun q => decide (q.1 = s)).map (·.2)).getD ""
def nextPl (sorts : List (Str × Str)) (es : List (Nat × Str)) (row : List (Nat × Nat)) : List (Nat × Nat) := match leftOf es.length row with
  | [] => []
  | a :: r => (r.filter fun j => decide ((es.getD j (0, "")).2 = ptOf sorts (es.getD a (0, "")).2)).map fun j => (a, j)
theorem ptOf_ok {sorts : List (Str × Str)} (hs : SortsOk sorts) {q : Str × Str} (h : q ∈ sorts) : ptOf sorts q.1 = q.2 := by
  unfold ptOf
  have hn := hs.nd
  clear hs
  induction sorts with
  | nil => cases h
  | cons p r ih =>
    rw [List.map_cons, List.nodup_cons] at hn
    by_cases e : p.1 = q.1
    · rw [List.find?_cons_of_pos (by simpa using e)]
      rcases List.mem_cons.mp h with rfl | h
      · rfl
      · exact absurd (List.mem_map.mpr ⟨q, h, e.symm⟩) hn.1
    · rw [List.find?_cons_of_neg (by simpa using e)]
      rcases List.mem_cons.mp h with rfl | h
      · exact absurd rfl e
      · exact ih h hn.2
theorem partner_at (c : Cs) {sorts : List (Str × Str)} {ks : List (Str × List Str)} (hS : StockOk sorts ks) {s : Str} (h : s ∈ sorts.map fun q => q.1) : g_partner_of c [stockD c sorts ks, .str s] = some (.str (ptOf sorts s)) := by
  obtain ⟨q, hq, rfl⟩ := List.mem_map.mp h
  rw [ptOf_ok hS.so hq]
  exact partner_ok c hS hq
def trD (ks : List Key) : D := .dk ks (ks.map fun _ => .bl true)
theorem look_tr (k : Key) : ∀ ks : List Key, (lookK ks (ks.map fun _ => D.bl true) k).isSome = inK k ks
  | [] => rfl
  | q :: ks => by
    have ih := look_tr k ks
    rw [List.map_cons]
    unfold lookK inK
    rw [List.any_cons]
    by_cases e : q = k
    · rw [if_pos e]; simp [e]
    · rw [if_neg e, ih]; simp [e, inK]
theorem putL_tr (ks : List Key) (k : Key) : ∃ qs, putL ks (ks.map fun _ => D.bl true) k (.bl true) = (qs, qs.map fun _ => .bl true) ∧ qs.length ≤ ks.length + 1 ∧ ∀ x, inK x qs = true ↔ x = k ∨ inK x ks = true := by
  unfold putL
  by_cases e : inK k ks = true
  · rw [if_pos e]
    refine ⟨ks, ?_, Nat.le_succ _, fun x => ⟨Or.inr, fun h => h.elim (fun z => z ▸ e) id⟩⟩
    congr 1
    have : ∀ qs : List Key, List.zipWith (fun q y => if q = k then D.bl true else y) qs (qs.map fun _ => D.bl true) = qs.map fun _ => .bl true := fun qs => by
      induction qs with
      | nil => rfl
      | cons q qs ih =>
        rw [List.map_cons, List.zipWith_cons_cons, ih]
        by_cases z : q = k <;> simp [z]
    exact this ks
  · rw [if_neg e]
    refine ⟨ks ++ [k], by rw [List.map_append]; rfl, by rw [List.length_append]; exact Nat.le_refl _, fun x => ?_⟩
    unfold inK
    rw [List.any_append, Bool.or_eq_true]
    simp only [List.any_cons, List.any_nil, Bool.or_false, decide_eq_true_eq]
    exact ⟨fun h => h.elim Or.inr fun h => Or.inl h.symm, fun h => h.elim (fun h => Or.inr h.symm) Or.inl⟩
theorem put_key {ks qs : List Key} {x : Nat} (h : putL ks (ks.map fun _ => D.bl true) (Sum.inl ((x : Nat) : Int)) (.bl true) = (qs, qs.map fun _ => .bl true)) (hl : ks.length < 1000) : putKO ks (ks.map fun _ => D.bl true) (nI x) (.bl true) = some (trD qs) := by
  unfold putKO
  have : keyD (nI x) = some (Sum.inl ((x : Nat) : Int)) := rfl
  rw [this]
  have hl' : (ks.map fun _ => D.bl true).length < LB := by rw [List.length_map]; unfold LB; omega
  simp only [hl', if_true, h]
  rfl
theorem used_step (c : Cs) {ks : List Key} (hl : ks.length < 900) (p : Nat × Nat) (f0 f1 f2 f6 f7 f8 : Sl) : ∃ qs, B_next_pairs_0 c [f0, f1, f2, .ow (trD ks), .fr (nI p.1), .fr (nI p.2), f6, f7, f8] = some (.nx [f0, f1, f2, .ow (trD qs), .fr (nI p.1), .fr (nI p.2), f6, f7, f8]) ∧
    qs.length ≤ ks.length + 2 ∧ ∀ x : Key, inK x qs = true ↔ x = (Sum.inl ((p.1 : Nat) : Int) : Key) ∨ x = (Sum.inl ((p.2 : Nat) : Int) : Key) ∨ inK x ks = true := by
  obtain ⟨q1, e1, l1, i1⟩ := putL_tr ks (Sum.inl ((p.1 : Nat) : Int))
  obtain ⟨q2, e2, l2, i2⟩ := putL_tr q1 (Sum.inl ((p.2 : Nat) : Int))
  refine ⟨q2, ?_, by omega, fun x => ?_⟩
  · have h1 := put_key e1 (by omega)
    have h2 := put_key e2 (by omega)
    have o1 : ownDk [f0, f1, f2, .ow (trD ks), .fr (nI p.1), .fr (nI p.2), f6, f7, f8] 3 = some (.ow (trD ks), ks, ks.map fun _ => .bl true) := rfl
    have o2 : ownDk [f0, f1, f2, .ow (trD q1), .fr (nI p.1), .fr (nI p.2), f6, f7, f8] 3 = some (.ow (trD q1), q1, q1.map fun _ => .bl true) := rfl
    have s1 : mPutK 3 (mVar 4) (mC (.bl true)) [f0, f1, f2, .ow (trD ks), .fr (nI p.1), .fr (nI p.2), f6, f7, f8] = some (.nx [f0, f1, f2, .ow (trD q1), .fr (nI p.1), .fr (nI p.2), f6, f7, f8]) := by
      have v : mVar 4 [f0, f1, f2, .ow (trD ks), .fr (nI p.1), .fr (nI p.2), f6, f7, f8] = some (.ok (nI p.1) [f0, f1, f2, .ow (trD ks), .fr (nI p.1), .fr (nI p.2), f6, f7, f8]) := rfl
      unfold mPutK mS mC M.ret
      simp only [o1, v, h1]
      rfl
    have s2 : mPutK 3 (mVar 5) (mC (.bl true)) [f0, f1, f2, .ow (trD q1), .fr (nI p.1), .fr (nI p.2), f6, f7, f8] = some (.nx [f0, f1, f2, .ow (trD q2), .fr (nI p.1), .fr (nI p.2), f6, f7, f8]) := by
      have v : mVar 5 [f0, f1, f2, .ow (trD q1), .fr (nI p.1), .fr (nI p.2), f6, f7, f8] = some (.ok (nI p.2) [f0, f1, f2, .ow (trD q1), .fr (nI p.1), .fr (nI p.2), f6, f7, f8]) := rfl
      unfold mPutK mS mC M.ret
      simp only [o2, v, h2]
      rfl
    simp_arith only [B_next_pairs_0, s1, s2]
  · rw [i2, i1]
    exact ⟨fun h => h.elim (fun z => .inr (.inl z)) fun h => h.elim .inl fun z => .inr (.inr z), fun h => h.elim (fun z => .inr (.inl z)) fun h => h.elim .inl fun z => .inr (.inr z)⟩
theorem used_loop (c : Cs) (row : List (Nat × Nat)) (hr : row.length ≤ 100) (f0 f1 f2 f6 f7 f8 : Sl) : ∃ qs f4 f5, forL (gT (gsC (gN 4) (gsC (gN 5) gs0))) (B_next_pairs_0 c) (row.map ppD) [f0, f1, f2, .ow (trD []), .un, .un, f6, f7, f8] = some (.nx [f0, f1, f2, .ow (trD qs), f4, f5, f6, f7, f8]) ∧
    ∀ x : Nat, inK (Sum.inl ((x : Nat) : Int)) qs = true ↔ x ∈ usedOf row := by
  obtain ⟨δ', h1, ⟨qs, f4, f5, rfl, hl, hm⟩⟩ := forL_ix (enc := ppD) (g := gT (gsC (gN 4) (gsC (gN 5) gs0))) (b := B_next_pairs_0 c) (as := row)
    (fun i δ => ∃ qs f4 f5, δ = [f0, f1, f2, .ow (trD qs), f4, f5, f6, f7, f8] ∧ qs.length ≤ 2 * i ∧ ∀ x : Nat, inK (Sum.inl ((x : Nat) : Int)) qs = true ↔ x ∈ usedOf (row.take i))
    (δ := [f0, f1, f2, .ow (trD []), .un, .un, f6, f7, f8]) ⟨[], .un, .un, rfl, Nat.zero_le _, fun x => by simp [inK, usedOf]⟩ (by
      rintro i p δ hp ⟨qs, f4, f5, rfl, hl, hm⟩
      have hi := (List.getElem?_eq_some_iff.mp hp).1
      obtain ⟨q2, h1, l2, i2⟩ := used_step c (ks := qs) (by omega) p f0 f1 f2 f6 f7 f8
      refine ⟨_, _, rfl, h1, q2, .fr (nI p.1), .fr (nI p.2), rfl, by omega, fun x => ?_⟩
      rw [i2, hm, take_snoc hp]
      unfold usedOf
      rw [List.flatMap_append, List.mem_append]
      simp only [List.flatMap_cons, List.flatMap_nil, List.append_nil, List.mem_cons, List.not_mem_nil, or_false]
      have e : ∀ y : Nat, (Sum.inl ((x : Nat) : Int) : Key) = Sum.inl ((y : Nat) : Int) ↔ x = y := fun y => ⟨fun h => by injection h with h; omega, fun h => by rw [h]⟩
      rw [e, e]
      exact ⟨fun h => h.elim (fun z => .inr (.inl z)) fun h => h.elim (fun z => .inr (.inr z)) .inl, fun h => h.elim (fun z => .inr (.inr z)) fun h => h.elim .inl fun z => .inr (.inl z)⟩)
  rw [List.take_length] at hm
  exact ⟨qs, f4, f5, h1, hm⟩
section
variable (c : Cs) {sorts : List (Str × Str)} {ks : List (Str × List Str)} (hS : StockOk sorts ks)
include hS
theorem next_ok {es : List (Nat × Str)} (he : ∀ e ∈ es, e.2 ∈ sorts.map fun q => q.1) (hl : es.length ≤ 100) {row : List (Nat × Nat)} (hr : row.length ≤ 100) (h0 : leftOf es.length row ≠ []) :
    g_next_pairs c [stockD c sorts ks, .lst (es.map endD), prwD row] = some (.lst ((nextPl sorts es row).map ppD)) := by
  obtain ⟨SD, hSD⟩ : ∃ X, X = stockD c sorts ks := ⟨_, rfl⟩
  obtain ⟨qs, f4, f5, h1, hm⟩ := used_loop c row hr (.fr SD) (.fr (.lst (es.map endD))) (.fr (prwD row)) .un .un .un
  have ll : lenD (.lst (es.map endD)) = some (.int (es.length : Nat)) := by simp [lenD]
  have rg := rg1_nat (n := es.length) (by omega)
  have hL0 : ∀ f6 f7 : Sl, L_next_pairs_0 c [.fr SD, .fr (.lst (es.map endD)), .fr (prwD row), .ow (trD qs), f4, f5, f6, f7, .un] = some (.ok (.lst ((leftOf es.length row).map nI)) [.fr SD, .fr (.lst (es.map endD)), .fr (prwD row), .ow (trD qs), f4, f5, f6, f7, .un]) := fun f6 f7 => by
    refine mLc_filter (as := List.range es.length) (enc := nI) (f := nI) (fun x => decide (x ∉ usedOf row)) (δ0 := [.fr SD, .fr (.lst (es.map endD)), .fr (prwD row), .ow (trD qs), f4, f5, f6, f7, .un]) (by simp_arith only [ll, rg]) rfl fun x _ => ⟨[.fr SD, .fr (.lst (es.map endD)), .fr (prwD row), .ow (trD qs), f4, f5, f6, f7, .fr (nI x)], [.fr SD, .fr (.lst (es.map endD)), .fr (prwD row), .ow (trD qs), f4, f5, f6, f7, .fr (nI x)], rfl, ?_, rfl, fun _ => ⟨[.fr SD, .fr (.lst (es.map endD)), .fr (prwD row), .ow (trD qs), f4, f5, f6, f7, .fr (nI x)], ?_, rfl⟩⟩
    · have dn : dinD true (nI x) (trD qs) = some (.bl (decide (x ∉ usedOf row))) := by
        show some (D.bl (xor true (lookK qs (qs.map fun _ => D.bl true) (Sum.inl ((x : Nat) : Int))).isSome)) = _
        rw [look_tr]
        refine congrArg (fun b => some (D.bl b)) ?_
        by_cases z : x ∈ usedOf row
        · rw [(hm x).mpr z]; simp [z]
        · rw [show inK (Sum.inl ((x : Nat) : Int)) qs = false from by rw [Bool.eq_false_iff]; exact fun q => z ((hm x).mp q)]; simp [z]
      simp_arith only [T_next_pairs_0, dn]
    · simp_arith only [E_next_pairs_0]
  obtain ⟨a, r, e0⟩ : ∃ a r, leftOf es.length row = a :: r := by
    cases h : leftOf es.length row with
    | nil => exact absurd h h0
    | cons a r => exact ⟨a, r, rfl⟩
  have hb : ∀ x ∈ a :: r, x < es.length := fun x hx => by
    rw [← e0] at hx
    unfold leftOf at hx
    exact List.mem_range.mp (List.mem_filter.mp hx).1
  have ea : ∀ x, x < es.length → ixD (.lst (es.map endD)) (nI x) = some (endD (es.getD x (0, ""))) := fun x hx => by
    obtain ⟨h1, h2⟩ := atI_nat (xs := es.map endD) (r := (x : Nat)) (by omega) (by rw [List.length_map]; omega)
    show atI (es.map endD) (x : Nat) = _
    rw [h2]
    simp only [Int.toNat_natCast, List.getElem_map, List.getD_eq_getElem?_getD, List.getElem?_eq_getElem hx, Option.getD_some]
  have sn : ∀ x, x < es.length → (es.getD x (0, "")).2 ∈ sorts.map fun q => q.1 := fun x hx => by
    rw [List.getD_eq_getElem?_getD, List.getElem?_eq_getElem hx, Option.getD_some]
    exact he _ (List.getElem_mem hx)
  have e1 : ∀ p : Nat × Str, ixD (endD p) (.int 1) = some (.str p.2) := fun _ => rfl
  have pa := partner_at c hS (sn a (hb a List.mem_cons_self))
  rw [← hSD] at pa ⊢
  have i0 : ixD (.lst ((a :: r).map nI)) (.int 0) = some (nI a) := ix_nat (m := a :: r) (a := 0) (by simp)
  have sl : slD (.lst ((a :: r).map nI)) (some 1) none = some (.lst (r.map nI)) := by
    show some (D.lst (cutD ((a :: r).map nI) (some ((1 : Nat) : Int)) none)) = _
    rw [cut_fromN]
    rfl
  have nm : ∀ {y : Str}, (y ∈ sorts.map fun q => q.1) → NameOk y := fun {y} hy => by
    obtain ⟨q, hq, rfl⟩ := List.mem_map.mp hy
    exact (hS.so.nm q hq).1
  have np : NameOk (ptOf sorts (es.getD a (0, "")).2) := by
    obtain ⟨q, hq, e⟩ := List.mem_map.mp (sn a (hb a List.mem_cons_self))
    rw [← e, ptOf_ok hS.so hq]
    exact (hS.so.nm q hq).2
  have hL1 : L_next_pairs_1 c [.fr SD, .fr (.lst (es.map endD)), .fr (prwD row), .ow (trD qs), f4, f5, .ow (.lst ((a :: r).map nI)), .fr (.str (ptOf sorts (es.getD a (0, "")).2)), .un] = some (.ok (.lst ((nextPl sorts es row).map ppD)) [.fr SD, .fr (.lst (es.map endD)), .fr (prwD row), .ow (trD qs), f4, f5, .ow (.lst ((a :: r).map nI)), .fr (.str (ptOf sorts (es.getD a (0, "")).2)), .un]) := by
    have en : nextPl sorts es row = (r.filter fun j => decide ((es.getD j (0, "")).2 = ptOf sorts (es.getD a (0, "")).2)).map fun j => (a, j) := by
      unfold nextPl
      rw [e0]
    rw [en, List.map_map]
    refine mLc_filter (as := r) (enc := nI) (f := ppD ∘ fun j => (a, j)) (fun j => decide ((es.getD j (0, "")).2 = ptOf sorts (es.getD a (0, "")).2)) (δ0 := [.fr SD, .fr (.lst (es.map endD)), .fr (prwD row), .ow (trD qs), f4, f5, .ow (.lst ((a :: r).map nI)), .fr (.str (ptOf sorts (es.getD a (0, "")).2)), .un]) (by simp_arith only [sl]) rfl fun x hx => ⟨[.fr SD, .fr (.lst (es.map endD)), .fr (prwD row), .ow (trD qs), f4, f5, .ow (.lst ((a :: r).map nI)), .fr (.str (ptOf sorts (es.getD a (0, "")).2)), .fr (nI x)], [.fr SD, .fr (.lst (es.map endD)), .fr (prwD row), .ow (trD qs), f4, f5, .ow (.lst ((a :: r).map nI)), .fr (.str (ptOf sorts (es.getD a (0, "")).2)), .fr (nI x)], rfl, ?_, rfl, fun _ => ⟨[.fr SD, .fr (.lst (es.map endD)), .fr (prwD row), .ow (trD qs), f4, f5, .ow (.lst ((a :: r).map nI)), .fr (.str (ptOf sorts (es.getD a (0, "")).2)), .fr (nI x)], ?_, rfl⟩⟩
    · have hx' := hb x (List.mem_cons_of_mem _ hx)
      have q1 := ea x hx'
      have q2 := e1 (es.getD x (0, ""))
      have q3 : eqD (.str (es.getD x (0, "")).2) (.str (ptOf sorts (es.getD a (0, "")).2)) = some (.bl (decide ((es.getD x (0, "")).2 = ptOf sorts (es.getD a (0, "")).2))) := by
        rw [eqD_pl 1 (nm (sn x hx')).pl np.pl]
        exact congrArg (fun b => some (D.bl b)) (decide_eq_decide.mpr ⟨fun h => by injection h, fun h => by rw [h]⟩)
      simp_arith only [T_next_pairs_1, q1, q2, q3]
    · simp_arith only [E_next_pairs_1, i0]
      rfl
  have qa := ea a (hb a List.mem_cons_self)
  have q1 := e1 (es.getD a (0, ""))
  have h1' : forL (gT (gsC (gN 4) (gsC (gN 5) gs0))) (B_next_pairs_0 c) (row.map ppD) [.fr SD, .fr (.lst (es.map endD)), .fr (.lst (row.map ppD)), .ow (.dk [] []), .un, .un, .un, .un, .un] = _ := h1
  have hL0' := hL0 .un .un
  rw [e0] at hL0'
  unfold prwD at hL0' hL1 h1' ⊢
  have d0 : mDk0 = fun δ => some (.ok (.dk [] []) δ) := rfl
  simp_arith only [g_next_pairs, m_next_pairs, d0, h1', hL0', i0, qa, q1, pa, hL1]
end
end GA

set_option Elab.async false
set_option linter.all false
set_option maxRecDepth 100000
set_option maxHeartbeats 4000000
/-! PMm: printed by gen.py: cutting, with what is refused. -/
namespace GA
open PySem L2 DL G
end GA

set_option Elab.async false
set_option linter.all false
set_option maxRecDepth 100000
set_option maxHeartbeats 4000000
/-! NAh: the stock of up to four kinds (k03-k13). -/
namespace GA
open PySem L2 DL G PG
end GA

set_option Elab.async false
set_option linter.all false
set_option maxRecDepth 100000
set_option maxHeartbeats 4000000
/-! NAi: stocks compared; the strange stock of the laws. -/
namespace GA
open PySem L2 DL G PG
section
variable (c : Cs) {sorts : List (Str × Str)} {ks : List (Str × List Str)} (hS : StockOk sorts ks)
include hS
end
end GA

set_option Elab.async false
set_option linter.all false
set_option maxRecDepth 100000
set_option maxHeartbeats 1000000
/-! NAj: the stock of up to three kinds, with what its sorts are called. -/
namespace GA
open PySem L2 DL G PG
end GA

set_option Elab.async false
set_option linter.all false
set_option maxRecDepth 100000
set_option maxHeartbeats 4000000
/-! NKa: cutting, with what is refused. -/
namespace GA
open PySem L2 DL G PG
section
variable (c : Cs) {sorts : List (Str × Str)} {ks : List (Str × List Str)} (hS : StockOk sorts ks) {most : Nat} {cs : List Str} {legs : List (Str × Str)} {js : List Jo} (hD : Drawn sorts ks most cs legs js) {j : Jo} {a b : Str} (hC : CutOk cs legs js j a b)
include hS hD hC
end
/-! ### what is no join -/
section
variable (c : Cs) {a b e f : D}
end
section
variable (c : Cs) {sorts : List (Str × Str)} {ks : List (Str × List Str)} (hS : StockOk sorts ks)
include hS
variable {most : Nat} {cs : List Str} {legs : List (Str × Str)} {js : List Jo} (hD : Drawn sorts ks most cs legs js)
include hD
end
end GA

set_option Elab.async false
set_option linter.all false
set_option maxRecDepth 100000
set_option maxHeartbeats 1000000
/-! QAa: a suite with clauses for errors with a field, evaluated; what are no corners, no legs, no joins; the stock of up to four kinds, with all its names. -/
namespace GA
open PySem L2 DL G PG
section
variable (c : Cs)
end
section
variable (c : Cs) {sorts : List (Str × Str)} {ks : List (Str × List Str)} (hS : StockOk sorts ks)
include hS
end
end GA

set_option Elab.async false
set_option linter.all false
set_option maxRecDepth 100000
set_option maxHeartbeats 1000000
/-! TAb: what is refused by corners and legs; count, group, sum_all, pairings where nothing is refused. -/
namespace GA
open PySem L2 DL G PG
section
variable (c : Cs) {SD X1 X2 X3 : D}
end
section
variable (c : Cs) {sorts : List (Str × Str)} {ks : List (Str × List Str)} (hS : StockOk sorts ks) {cs : List Str} {legs : List (Str × Str)} (hC : CornersOk ks cs) (hL : LegsOk sorts legs)
include hS hC hL
end
end GA

set_option Elab.async false
set_option linter.all false
set_option maxRecDepth 100000
set_option maxHeartbeats 4000000
/-! PMo: printed by gen.py: likeness. -/
namespace GA
open PySem L2 DL G
end GA

set_option Elab.async false
set_option linter.all false
set_option maxRecDepth 100000
set_option maxHeartbeats 1000000
/-! RAd: all renamings by which one drawing becomes another. -/
namespace GA
open PySem L2 DL G PG
/-! ### rows that fit so far -/
section
variable (c : Cs) {sorts : List (Str × Str)} {ks : List (Str × List Str)} (hS : StockOk sorts ks) {m1 m2 : Nat} {cs1 cs2 : List Str} {legs : List (Str × Str)} {js1 js2 : List Jo} (hD1 : Drawn sorts ks m1 cs1 legs js1) (hD2 : Drawn sorts ks m2 cs2 legs js2) (hn : cs2.length = cs1.length)
include hS hD1 hD2 hn
end
end GA

set_option Elab.async false
set_option linter.all false
set_option maxRecDepth 100000
set_option maxHeartbeats 1000000
/-! RAe: an order fits all along just where it moves corners and joins to the other's. -/
namespace GA
open PySem L2 DL G PG
section
variable {sorts : List (Str × Str)} {ks : List (Str × List Str)} (hS : StockOk sorts ks) {m1 m2 : Nat} {cs1 cs2 : List Str} {legs : List (Str × Str)} {js1 js2 : List Jo} (hD1 : Drawn sorts ks m1 cs1 legs js1) (hD2 : Drawn sorts ks m2 cs2 legs js2)
include hS hD1 hD2
end
/-! ### joins by the sorts between places -/
/-! ### places moved -/
section
variable {sorts : List (Str × Str)} {ks : List (Str × List Str)} (hS : StockOk sorts ks) {m1 m2 : Nat} {cs1 cs2 : List Str} {legs : List (Str × Str)} {js1 js2 : List Jo} (hD1 : Drawn sorts ks m1 cs1 legs js1) (hD2 : Drawn sorts ks m2 cs2 legs js2) (hn : cs2.length = cs1.length) {σ : List Nat} (hσ : PermN cs1.length σ)
include hS hD1 hD2 hn hσ
end
end GA

set_option Elab.async false
set_option linter.all false
set_option maxRecDepth 100000
set_option maxHeartbeats 1000000
/-! RAh: the renamings that keep a drawing. -/
namespace GA
open PySem L2 DL G PG
section
variable (c : Cs) {sorts : List (Str × Str)} {ks : List (Str × List Str)} (hS : StockOk sorts ks) {most : Nat} {cs : List Str} {legs : List (Str × Str)} {js : List Jo} (hD : Drawn sorts ks most cs legs js)
include hS hD
end
end GA

set_option Elab.async false
set_option linter.all false
set_option maxRecDepth 100000
set_option maxHeartbeats 4000000
/-! NFb: a suite with several clauses, evaluated. -/
namespace GA
open PySem L2 DL G PG
end GA

set_option Elab.async false
set_option linter.all false
set_option maxRecDepth 100000
set_option maxHeartbeats 1000000
/-! RAi: likeness. -/
namespace GA
open PySem L2 DL G PG
/-- the orders by which one drawing becomes another -/
def goodL (cs1 : List Str) (legs1 : List (Str × Str)) (js1 : List Jo) (cs2 : List Str) (legs2 : List (Str × Str)) (js2 : List Jo) : List (List Nat) :=
  (permRows cs1.length cs1.length).filter fun σ => decide (legs1 = legs2 ∧ mvC σ cs1 = cs2 ∧ mvJs σ cs1.length legs1.length js1 = js2)
section
variable (c : Cs) {sorts : List (Str × Str)} {ks : List (Str × List Str)} (hS : StockOk sorts ks)
include hS
section
variable {m1 : Nat} {cs1 : List Str} {legs1 : List (Str × Str)} {js1 : List Jo} (hD1 : Drawn sorts ks m1 cs1 legs1 js1)
include hD1
end
section
variable {m1 m2 : Nat} {cs1 cs2 : List Str} {legs : List (Str × Str)} {js1 js2 : List Jo} (hD1 : Drawn sorts ks m1 cs1 legs js1) (hD2 : Drawn sorts ks m2 cs2 legs js2) (hn : cs2.length = cs1.length)
include hD1 hD2 hn
end
section
variable {m1 m2 : Nat} {cs1 cs2 : List Str} {legs1 legs2 : List (Str × Str)} {js1 js2 : List Jo} (hD1 : Drawn sorts ks m1 cs1 legs1 js1) (hD2 : Drawn sorts ks m2 cs2 legs2 js2)
include hD1 hD2
end
end
end GA

set_option Elab.async false
set_option linter.all false
set_option maxRecDepth 100000
set_option maxHeartbeats 4000000
/-! PMp: printed by gen.py: turns. -/
namespace GA
open PySem L2 DL G
end GA

set_option Elab.async false
set_option linter.all false
set_option maxRecDepth 100000
set_option maxHeartbeats 1000000
/-! RAj: a drawing's turns. -/
namespace GA
open PySem L2 DL G PG
/-! ### what the program's loops do -/
section
variable (c : Cs) {sorts : List (Str × Str)} {ks : List (Str × List Str)} (hS : StockOk sorts ks) {most : Nat} {cs : List Str} {legs : List (Str × Str)} {js : List Jo} (hD : Drawn sorts ks most cs legs js)
include hS hD
end
end GA

set_option Elab.async false
set_option linter.all false
set_option maxRecDepth 100000
set_option maxHeartbeats 1000000
/-! RAk: renamings counted; turns of a renamed drawing. -/
namespace GA
open PySem L2 DL G PG
theorem nodup_leG {α : Type} [BEq α] [LawfulBEq α] : ∀ {σ L : List α}, σ.Nodup → (∀ x ∈ σ, x ∈ L) → σ.length ≤ L.length
  | [], _, _, _ => Nat.zero_le _
  | x :: σ, L, h, hs => by
    obtain ⟨h1, h2⟩ := List.nodup_cons.mp h
    have hx := hs x List.mem_cons_self
    have := nodup_leG (σ := σ) (L := L.erase x) h2 fun y hy => (List.mem_erase_of_ne fun (e : y = x) => h1 (by rw [← e]; exact hy)).mpr (hs y (List.mem_cons_of_mem _ hy))
    rw [List.length_erase_of_mem hx] at this
    have hp : 0 < L.length := List.length_pos_of_mem hx
    rw [List.length_cons]
    omega
section
variable (c : Cs) {sorts : List (Str × Str)} {ks : List (Str × List Str)} (hS : StockOk sorts ks)
include hS
section
variable {m1 m2 m3 : Nat} {cs1 cs2 cs3 : List Str} {legs1 legs2 legs3 : List (Str × Str)} {js1 js2 js3 : List Jo} (hD1 : Drawn sorts ks m1 cs1 legs1 js1)
include hD1
end
section
variable {m1 m2 : Nat} {cs1 cs2 : List Str} {legs1 legs2 : List (Str × Str)} {js1 js2 : List Jo} (hD1 : Drawn sorts ks m1 cs1 legs1 js1) (hD2 : Drawn sorts ks m2 cs2 legs2 js2) {σ : List Nat} (hσ : σ ∈ goodL cs1 legs1 js1 cs2 legs2 js2)
include hD1 hD2 hσ
end
section
variable {m1 m2 : Nat} {cs1 cs2 : List Str} {legs1 legs2 : List (Str × Str)} {js1 js2 : List Jo} (hD1 : Drawn sorts ks m1 cs1 legs1 js1) {σ : List Nat} (hσ : σ ∈ goodL cs1 legs1 js1 cs2 legs2 js2)
include hD1 hσ
end
end
end GA

set_option Elab.async false
set_option linter.all false
set_option maxRecDepth 100000
set_option maxHeartbeats 1000000
/-! TAc: pairings, all of them. -/
namespace GA
open PySem L2 DL G PG
section
variable (c : Cs) {sorts : List (Str × Str)} {ks : List (Str × List Str)} (hS : StockOk sorts ks) {cs : List Str} {legs : List (Str × Str)} (hC : CornersOk ks cs) (hL : LegsOk sorts legs)
include hS hC
include hL
end
/-- all pairings of so many turns -/
def pairR (sorts : List (Str × Str)) (es : List (Nat × Str)) : Nat → List (List (Nat × Nat))
  | 0 => [[]]
  | i + 1 => (pairR sorts es i).flatMap fun row => (nextPl sorts es row).map fun p => row ++ [p]
def pairsPl (sorts : List (Str × Str)) (es : List (Nat × Str)) : List (List (Nat × Nat)) := if es.length % 2 = 1 then [] else pairR sorts es (es.length / 2)
theorem used_len (row : List (Nat × Nat)) : (usedOf row).length = 2 * row.length := by
  unfold usedOf
  induction row with
  | nil => rfl
  | cons p r ih => rw [List.flatMap_cons, List.length_append, ih, List.length_cons]; simp; omega
theorem left_ne {n : Nat} {row : List (Nat × Nat)} (h : 2 * row.length < n) : leftOf n row ≠ [] := fun e => by
  have hm : ∀ x ∈ List.range n, x ∈ usedOf row := fun x hx => by
    by_cases z : x ∈ usedOf row
    · exact z
    · have : x ∈ leftOf n row := List.mem_filter.mpr ⟨hx, decide_eq_true z⟩
      rw [e] at this
      cases this
  have := nodup_leG List.nodup_range hm
  rw [List.length_range, used_len] at this
  omega
theorem pairR_len {sorts : List (Str × Str)} {es : List (Nat × Str)} : ∀ {i : Nat} {row : List (Nat × Nat)}, row ∈ pairR sorts es i → row.length = i
  | 0, row, h => by rw [List.mem_singleton.mp h]; rfl
  | i + 1, row, h => by
    obtain ⟨r, hr, h⟩ := List.mem_flatMap.mp h
    obtain ⟨p, _, rfl⟩ := List.mem_map.mp h
    rw [List.length_append, pairR_len hr]
    rfl
theorem nextPl_len (sorts : List (Str × Str)) (es : List (Nat × Str)) (row : List (Nat × Nat)) : (nextPl sorts es row).length ≤ es.length := by
  unfold nextPl
  cases h : leftOf es.length row with
  | nil => exact Nat.zero_le _
  | cons a r =>
    have h1 : (leftOf es.length row).length ≤ es.length := by
      unfold leftOf
      exact Nat.le_trans (List.length_filter_le _ _) (by rw [List.length_range]; exact Nat.le_refl _)
    rw [h, List.length_cons] at h1
    show ((r.filter _).map _).length ≤ _
    rw [List.length_map]
    exact Nat.le_trans (List.length_filter_le _ _) (by omega)
theorem flat_len {α β : Type} (f : α → List β) (b : Nat) : ∀ as : List α, (∀ a ∈ as, (f a).length ≤ b) → (as.flatMap f).length ≤ as.length * b
  | [], _ => Nat.zero_le _
  | a :: as, h => by
    rw [List.flatMap_cons, List.length_append, List.length_cons, Nat.succ_mul]
    have h1 := flat_len f b as fun x hx => h x (List.mem_cons_of_mem _ hx)
    have h2 := h a List.mem_cons_self
    omega
theorem pairR_many (sorts : List (Str × Str)) (es : List (Nat × Str)) : ∀ i, (pairR sorts es i).length ≤ es.length ^ i
  | 0 => by simp [pairR]
  | i + 1 => by
    have h := flat_len (fun row => (nextPl sorts es row).map fun p => row ++ [p]) es.length (pairR sorts es i) fun row _ => by rw [List.length_map]; exact nextPl_len sorts es row
    have := pairR_many sorts es i
    rw [Nat.pow_succ]
    exact Nat.le_trans h (Nat.mul_le_mul_right _ this)
section
variable (c : Cs) {sorts : List (Str × Str)} {ks : List (Str × List Str)} (hS : StockOk sorts ks)
include hS
theorem prow_step {es : List (Nat × Str)} (he : ∀ e ∈ es, e.2 ∈ sorts.map fun q => q.1) (hl : es.length ≤ 40) {row : List (Nat × Nat)} (hr : 2 * row.length < es.length) {s3 : Sl} (h3 : FO s3 (.lst (es.map endD))) (acc : List (List (Nat × Nat))) (ha : acc.length ≤ 900000) (b1 b2 f4 f5 : Sl) :
    B_pairingsX_0 c [.fr (stockD c sorts ks), b1, b2, s3, f4, f5, .ow (.lst (acc.map prwD)), .fr (prwD row), .un] = some (.nx [.fr (stockD c sorts ks), b1, b2, .fr (.lst (es.map endD)), f4, f5, .ow (.lst ((acc ++ (nextPl sorts es row).map fun p => row ++ [p]).map prwD)), .fr (prwD row), .un]) := by
  have nx := next_ok c hS he (by omega) (row := row) (by omega) (left_ne hr)
  have nl := nextPl_len sorts es row
  obtain ⟨SD, hSD⟩ : ∃ X, X = stockD c sorts ks := ⟨_, rfl⟩
  obtain ⟨EL, hEL⟩ : ∃ X, X = es.map endD := ⟨_, rfl⟩
  rw [← hSD, ← hEL] at nx ⊢
  rw [← hEL] at h3
  have hL : L_pairingsX_0 c [.fr SD, b1, b2, s3, f4, f5, .ow (.lst (acc.map prwD)), .fr (prwD row), .un] = some (.ok (.lst ((nextPl sorts es row).map fun p => prwD (row ++ [p]))) [.fr SD, b1, b2, .fr (.lst EL), f4, f5, .ow (.lst (acc.map prwD)), .fr (prwD row), .un]) := by
    have hit : mSeqOf (mCallP [.fr, .fr, .fr] (g_next_pairs c) (maCons (mVal (mVar 0)) (maCons (mVal (mVar 3)) (maCons (mVal (mVar 7)) maNil)))) [.fr SD, b1, b2, s3, f4, f5, .ow (.lst (acc.map prwD)), .fr (prwD row), .un] = some (.ok ((nextPl sorts es row).map ppD) [.fr SD, b1, b2, .fr (.lst EL), f4, f5, .ow (.lst (acc.map prwD)), .fr (prwD row), .un]) := by
      rcases h3 with rfl | rfl <;> simp_arith only [nx]
    refine mLc_map (as := nextPl sorts es row) (enc := ppD) (δ0 := [.fr SD, b1, b2, .fr (.lst EL), f4, f5, .ow (.lst (acc.map prwD)), .fr (prwD row), .un]) hit rfl fun p hp => ⟨[.fr SD, b1, b2, .fr (.lst EL), f4, f5, .ow (.lst (acc.map prwD)), .fr (prwD row), .fr (ppD p)], [.fr SD, b1, b2, .fr (.lst EL), f4, f5, .ow (.lst (acc.map prwD)), .fr (prwD row), .fr (ppD p)], rfl, ?_, rfl⟩
    have ad : addD (prwD row) (.lst [ppD p]) = some (prwD (row ++ [p])) := by
      unfold prwD
      rw [addD_lst (by rw [List.length_map]; simp; omega), List.map_append]
      rfl
    simp_arith only [E_pairingsX_0, ad]
  have hx : extF (acc.map prwD) [.lst ((nextPl sorts es row).map fun p => prwD (row ++ [p]))] = some ((acc ++ (nextPl sorts es row).map fun p => row ++ [p]).map prwD, .non) := by
    have hf : (acc.map prwD).length + ((nextPl sorts es row).map fun p => prwD (row ++ [p])).length ≤ 1000000 := by
      rw [List.length_map, List.length_map]
      omega
    rw [List.map_append, List.map_map]
    simp only [extF, hf, if_true]
    rfl
  simp_arith only [B_pairingsX_0, hL, hx]
theorem prow_loop {es : List (Nat × Str)} (he : ∀ e ∈ es, e.2 ∈ sorts.map fun q => q.1) (hl : es.length ≤ 40) (b1 b2 f4 f5 : Sl) : ∀ (rows : List (List (Nat × Nat))) (acc : List (List (Nat × Nat))) (s3 f7 : Sl), FO s3 (.lst (es.map endD)) → (∀ r ∈ rows, 2 * r.length < es.length) → acc.length + rows.length * es.length ≤ 900000 →
    ∃ s3' f7', FO s3' (.lst (es.map endD)) ∧ forL (gN 7) (B_pairingsX_0 c) (rows.map prwD) [.fr (stockD c sorts ks), b1, b2, s3, f4, f5, .ow (.lst (acc.map prwD)), f7, .un] = some (.nx [.fr (stockD c sorts ks), b1, b2, s3', f4, f5, .ow (.lst ((acc ++ rows.flatMap fun row => (nextPl sorts es row).map fun p => row ++ [p]).map prwD)), f7', .un]) := by
  intro rows
  induction rows with
  | nil =>
    intro acc s3 f7 h3 _ _
    refine ⟨s3, f7, h3, ?_⟩
    rw [List.flatMap_nil, List.append_nil]
    rfl
  | cons row rows ih =>
    intro acc s3 f7 h3 hr ha
    rw [List.length_cons, Nat.succ_mul] at ha
    have nl := nextPl_len sorts es row
    have hb := prow_step c hS he hl (hr row List.mem_cons_self) h3 acc (by omega) b1 b2 f4 f5
    obtain ⟨s3', f7', h3', h⟩ := ih (acc ++ (nextPl sorts es row).map fun p => row ++ [p]) (.fr (.lst (es.map endD))) (.fr (prwD row)) (.inl rfl) (fun r hr' => hr r (List.mem_cons_of_mem _ hr')) (by rw [List.length_append, List.length_map]; omega)
    refine ⟨s3', f7', h3', ?_⟩
    have hg : gN 7 (prwD row) [.fr (stockD c sorts ks), b1, b2, s3, f4, f5, .ow (.lst (acc.map prwD)), f7, .un] = some [.fr (stockD c sorts ks), b1, b2, s3, f4, f5, .ow (.lst (acc.map prwD)), .fr (prwD row), .un] := rfl
    rw [List.map_cons, forL_c, hg, flK_1, hb, flL_1, h, List.flatMap_cons, List.append_assoc]
theorem pturns {es : List (Nat × Str)} (he : ∀ e ∈ es, e.2 ∈ sorts.map fun q => q.1) (hl : es.length ≤ 10) (b1 b2 f4 s3 : Sl) (h3 : FO s3 (.lst (es.map endD))) (h4 : FO f4 (.lst [prwD []])) :
    ∃ s3' s4 s5 s6 s7, FO s4 (.lst ((pairR sorts es (es.length / 2)).map prwD)) ∧ forL (gN 5) (B_pairingsX_1 c) ((List.range (es.length / 2)).map nI) [.fr (stockD c sorts ks), b1, b2, s3, f4, .un, .un, .un, .un] = some (.nx [.fr (stockD c sorts ks), b1, b2, s3', s4, s5, s6, s7, .un]) := by
  obtain ⟨δ', h1, ⟨s3', s4, s5, s6, s7, g3, g4, rfl⟩⟩ := forL_ix (enc := nI) (g := gN 5) (b := B_pairingsX_1 c) (as := List.range (es.length / 2))
    (fun i δ => ∃ s3 s4 s5 s6 s7, FO s3 (.lst (es.map endD)) ∧ FO s4 (.lst ((pairR sorts es i).map prwD)) ∧ δ = [.fr (stockD c sorts ks), b1, b2, s3, s4, s5, s6, s7, .un])
    (δ := [.fr (stockD c sorts ks), b1, b2, s3, f4, .un, .un, .un, .un]) ⟨s3, f4, .un, .un, .un, h3, h4, rfl⟩ (by
      rintro i x δ hx ⟨s3, s4, s5, s6, s7, g3, g4, rfl⟩
      obtain ⟨hi, ex⟩ := List.getElem?_eq_some_iff.mp hx
      rw [List.length_range] at hi
      have hm := pairR_many sorts es i
      have hp : es.length ^ i ≤ 10 ^ 4 := by
        have h1 : es.length ^ i ≤ 10 ^ i := Nat.pow_le_pow_left hl i
        have h2 : 10 ^ i ≤ 10 ^ 4 := Nat.pow_le_pow_right (by decide) (by omega)
        exact Nat.le_trans h1 h2
      have hmul : (pairR sorts es i).length * es.length ≤ 10 ^ 4 * 10 := Nat.mul_le_mul (Nat.le_trans hm hp) hl
      obtain ⟨z3, z7, k3, h⟩ := prow_loop c hS he (by omega) b1 b2 (.fr (.lst ((pairR sorts es i).map prwD))) (.fr (nI x)) (pairR sorts es i) [] s3 s7 g3 (fun r hr => by rw [pairR_len hr]; omega) (by simp only [List.length_nil]; omega)
      have h' : forL (gN 7) (B_pairingsX_0 c) ((pairR sorts es i).map prwD) [.fr (stockD c sorts ks), b1, b2, s3, .fr (.lst ((pairR sorts es i).map prwD)), .fr (nI x), .ow (.lst []), s7, .un] = some (.nx [.fr (stockD c sorts ks), b1, b2, z3, .fr (.lst ((pairR sorts es i).map prwD)), .fr (nI x), .ow (.lst ((pairR sorts es (i + 1)).map prwD)), z7, .un]) := h
      refine ⟨[.fr (stockD c sorts ks), b1, b2, s3, s4, .fr (nI x), s6, s7, .un], [.fr (stockD c sorts ks), b1, b2, z3, .fr (.lst ((pairR sorts es (i + 1)).map prwD)), .fr (nI x), .fr (.lst ((pairR sorts es (i + 1)).map prwD)), z7, .un], rfl, ?_, z3, _, _, _, _, k3, .inl rfl, rfl⟩
      generalize (pairR sorts es i).map prwD = P1 at h' g4
      generalize (pairR sorts es (i + 1)).map prwD = P2 at h' ⊢
      generalize stockD c sorts ks = SD at h' ⊢
      rcases g4 with rfl | rfl <;> simp_arith only [B_pairingsX_1, h'])
  rw [List.length_range] at g4
  exact ⟨s3', s4, s5, s6, s7, g4, h1⟩
end
end GA

set_option Elab.async false
set_option linter.all false
set_option maxRecDepth 100000
set_option maxHeartbeats 1000000
/-! TAl: how many pairings there are. -/
namespace GA
open PySem L2 DL G PG
def sAt (es : List (Nat × Str)) (x : Nat) : Str := (es.getD x (0, "")).2
theorem left_snoc (n : Nat) (row : List (Nat × Nat)) (a j : Nat) : leftOf n (row ++ [(a, j)]) = (leftOf n row).filter fun x => decide (x ≠ a ∧ x ≠ j) := by
  unfold leftOf
  rw [List.filter_filter]
  refine List.filter_congr fun x _ => ?_
  have : usedOf (row ++ [(a, j)]) = usedOf row ++ [a, j] := by
    unfold usedOf
    rw [List.flatMap_append]
    rfl
  rw [this]
  by_cases h1 : x ∈ usedOf row <;> by_cases h2 : x = a <;> by_cases h3 : x = j <;> simp [h1, h2, h3]
theorem left_nodup (n : Nat) (row : List (Nat × Nat)) : (leftOf n row).Nodup := List.Nodup.sublist List.filter_sublist List.nodup_range
theorem sum_const {α : Type} (f : α → Nat) (k : Nat) : ∀ xs : List α, (∀ x ∈ xs, f x = k) → (xs.map f).sum = xs.length * k
  | [], _ => by simp
  | x :: xs, h => by
    rw [List.map_cons, List.sum_cons, h x List.mem_cons_self, sum_const f k xs fun y hy => h y (List.mem_cons_of_mem _ hy), List.length_cons, Nat.succ_mul, Nat.add_comm]
theorem sum_flat {α β : Type} (f : α → List β) (g : β → Nat) : ∀ xs : List α, ((xs.flatMap f).map g).sum = (xs.map fun x => ((f x).map g).sum).sum
  | [] => by simp
  | x :: xs => by
    rw [List.flatMap_cons, List.map_append, List.sum_append, sum_flat f g xs, List.map_cons, List.sum_cons]
theorem count_filter (es : List (Nat × Str)) (s : Str) : ∀ r : List Nat, (r.map (sAt es)).count s = (r.filter fun j => decide (sAt es j = s)).length
  | [] => rfl
  | x :: r => by
    rw [List.map_cons, List.count_cons, count_filter es s r, List.filter_cons]
    by_cases h : sAt es x = s
    · simp [h]
    · simp [h]
theorem cntW_z (rows : List (Str × Str)) : cntW strLt rows [] = 1 := by
  refine pr_one _ rows fun r _ => ?_
  unfold shr
  simp [wtp, fac]
theorem pt_both {sorts : List (Str × Str)} (hs : SortsOk sorts) {s : Str} (h : s ∈ sorts.map fun q => q.1) : G.ptOf sorts s = ptOf sorts s := by
  obtain ⟨q, hq, rfl⟩ := List.mem_map.mp h
  rw [ptOf_ok hs hq]
  exact pt_self hs.nd hq
section
variable {sorts : List (Str × Str)} {ks : List (Str × List Str)} (hS : StockOk sorts ks) {es : List (Nat × Str)} (he : ∀ e ∈ es, e.2 ∈ sorts.map fun q => q.1)
include hS he
theorem sAt_mem {x : Nat} (hx : x < es.length) : sAt es x ∈ sorts.map fun q => q.1 := by
  unfold sAt
  rw [List.getD_eq_getElem?_getD, List.getElem?_eq_getElem hx, Option.getD_some]
  exact he _ (List.getElem_mem hx)
theorem step_sum (row : List (Nat × Nat)) (hne : leftOf es.length row ≠ []) : (((nextPl sorts es row).map fun p => row ++ [p]).map fun r => cntW strLt sorts ((leftOf es.length r).map (sAt es))).sum = cntW strLt sorts ((leftOf es.length row).map (sAt es)) := by
  obtain ⟨a, r, e0⟩ : ∃ a r, leftOf es.length row = a :: r := by
    cases h : leftOf es.length row with
    | nil => exact absurd h hne
    | cons a r => exact ⟨a, r, rfl⟩
  have hb : ∀ x ∈ a :: r, x < es.length := fun x hx => by
    rw [← e0] at hx
    unfold leftOf at hx
    exact List.mem_range.mp (List.mem_filter.mp hx).1
  have nd : (a :: r).Nodup := by rw [← e0]; exact left_nodup _ _
  obtain ⟨na, nr⟩ := List.nodup_cons.mp nd
  have hm : ∀ y ∈ sAt es a :: r.map (sAt es), y ∈ sorts.map fun q => q.1 := fun y hy => by
    rcases List.mem_cons.mp hy with rfl | hy
    · exact sAt_mem hS he (hb a List.mem_cons_self)
    · obtain ⟨x, hx, rfl⟩ := List.mem_map.mp hy
      exact sAt_mem hS he (hb x (List.mem_cons_of_mem _ hx))
  have pb := pt_both hS.so (hm (sAt es a) List.mem_cons_self)
  have en : nextPl sorts es row = (r.filter fun j => decide (sAt es j = ptOf sorts (sAt es a))).map fun j => (a, j) := by
    unfold nextPl
    rw [e0]
    rfl
  rw [en, e0, List.map_cons, cntW_cons hS hm, pb, count_filter, List.map_map, List.map_map]
  refine sum_const _ _ _ fun j hj => ?_
  obtain ⟨hj, hs⟩ := List.mem_filter.mp hj
  have hs := of_decide_eq_true hs
  show cntW strLt sorts ((leftOf es.length (row ++ [(a, j)])).map (sAt es)) = _
  have ef : leftOf es.length (row ++ [(a, j)]) = r.filter fun x => decide (x ≠ j) := by
    rw [left_snoc, e0, List.filter_cons, if_neg (by simp)]
    refine List.filter_congr fun x hx => ?_
    have : x ≠ a := fun z => na (z ▸ hx)
    simp [this]
  rw [ef]
  refine cntW_perm strLt sorts ?_
  have p1 : r.Perm (j :: r.filter fun x => decide (x ≠ j)) := by
    have h1 : (r.filter fun x => decide (x ≠ j)) = r.erase j := by
      rw [nr.erase_eq_filter]
      refine List.filter_congr fun x _ => ?_
      by_cases z : x = j <;> simp [z]
    rw [h1]
    exact List.perm_cons_erase hj
  have p2 := (p1.map (sAt es)).erase (ptOf sorts (sAt es a))
  rw [List.map_cons, hs, List.erase_cons_head] at p2
  exact p2.symm
theorem pair_sum : ∀ i, 2 * i ≤ es.length → ((pairR sorts es i).map fun r => cntW strLt sorts ((leftOf es.length r).map (sAt es))).sum = cntW strLt sorts (es.map (·.2))
  | 0, _ => by
    have e : leftOf es.length [] = List.range es.length := by
      unfold leftOf
      rw [List.filter_eq_self]
      intro x _
      simp [usedOf]
    have e2 : (List.range es.length).map (sAt es) = es.map (·.2) := by
      refine List.ext_getElem (by simp) fun i h1 h2 => ?_
      simp only [List.getElem_map, List.getElem_range, sAt]
      rw [List.length_map] at h2
      rw [List.getD_eq_getElem?_getD, List.getElem?_eq_getElem h2, Option.getD_some]
    simp only [pairR, List.map_cons, List.map_nil, List.sum_cons, List.sum_nil, Nat.add_zero, e, e2]
  | i + 1, h => by
    rw [← pair_sum i (by omega)]
    show (((pairR sorts es i).flatMap fun row => (nextPl sorts es row).map fun p => row ++ [p]).map _).sum = _
    rw [sum_flat]
    refine congrArg List.sum (List.map_congr_left fun row hrow => ?_)
    have hl := pairR_len hrow
    exact step_sum hS he row (left_ne (by omega))
theorem left_len {i : Nat} {row : List (Nat × Nat)} (hrow : row ∈ pairR sorts es i) (hi : 2 * i ≤ es.length) : (leftOf es.length row).length = es.length - 2 * i := by
  induction i generalizing row with
  | zero =>
    have : row = [] := List.mem_singleton.mp hrow
    subst this
    have e : leftOf es.length [] = List.range es.length := by
      unfold leftOf
      rw [List.filter_eq_self]
      intro x _
      simp [usedOf]
    rw [e, List.length_range]; omega
  | succ i ih =>
    obtain ⟨r0, hr0, h⟩ := List.mem_flatMap.mp hrow
    obtain ⟨p, hp, rfl⟩ := List.mem_map.mp h
    have h1 := ih hr0 (by omega)
    obtain ⟨a, r, e0⟩ : ∃ a r, leftOf es.length r0 = a :: r := by
      cases z : leftOf es.length r0 with
      | nil => rw [z] at h1; simp at h1; omega
      | cons a r => exact ⟨a, r, rfl⟩
    have nd : (a :: r).Nodup := by rw [← e0]; exact left_nodup _ _
    obtain ⟨na, nr⟩ := List.nodup_cons.mp nd
    unfold nextPl at hp
    rw [e0] at hp
    obtain ⟨j, hj, rfl⟩ := List.mem_map.mp hp
    have hj := (List.mem_filter.mp hj).1
    rw [left_snoc, e0, List.filter_cons, if_neg (by simp)]
    have ef : (r.filter fun x => decide (x ≠ a ∧ x ≠ j)) = r.erase j := by
      rw [nr.erase_eq_filter]
      refine List.filter_congr fun x hx => ?_
      have : x ≠ a := fun z => na (z ▸ hx)
      by_cases z : x = j <;> simp [z, this]
    rw [ef, List.length_erase_of_mem hj]
    rw [e0, List.length_cons] at h1
    omega
/-- as many pairings as are counted -/
theorem pairs_count : (pairsPl sorts es).length = cntW strLt sorts (es.map (·.2)) := by
  have h := pair_sum hS he (es.length / 2) (by omega)
  unfold pairsPl
  by_cases ho : es.length % 2 = 1
  · rw [if_pos ho, ← h]
    rw [sum_const _ 0 _ fun row hrow => ?_]
    · rfl
    · have hl := left_len hS he hrow (by omega)
      obtain ⟨x, e⟩ : ∃ x, leftOf es.length row = [x] := by
        cases z : leftOf es.length row with
        | nil => rw [z] at hl; simp at hl; omega
        | cons x r =>
          cases r with
          | nil => exact ⟨x, rfl⟩
          | cons y r => rw [z] at hl; simp at hl; omega
      have hx : x < es.length := by
        have : x ∈ leftOf es.length row := by rw [e]; simp
        unfold leftOf at this
        exact List.mem_range.mp (List.mem_filter.mp this).1
      rw [e]
      show cntW strLt sorts [sAt es x] = 0
      rw [cntW_cons hS fun y hy => by rw [List.mem_singleton.mp hy]; exact sAt_mem hS he hx]
      simp
  · rw [if_neg ho, ← h, sum_const _ 1 _ fun row hrow => ?_, Nat.mul_one]
    have hl := left_len hS he hrow (by omega)
    have e : leftOf es.length row = [] := List.length_eq_zero_iff.mp (by omega)
    rw [e]
    exact cntW_z sorts
end
end GA

set_option Elab.async false
set_option linter.all false
set_option maxRecDepth 100000
set_option maxHeartbeats 1000000
/-! UBa: pairings told (where nothing is refused), and all pairings as the law goes through them. -/
namespace GA
open PySem L2 DL G PG
/-- the rows with what is left of each -/
def lwD (row : List (Nat × Nat)) (left : List Nat) : D := .tup [prwD row, .lst (left.map nI)]
section
variable (c : Cs) {sorts : List (Str × Str)} {ks : List (Str × List Str)} (hS : StockOk sorts ks)
include hS
theorem pairs_ok {cs : List Str} {legs : List (Str × Str)} (hC : CornersOk ks cs) (hL : LegsOk sorts legs) (h10 : (endsP ks cs legs).length ≤ 10) : g_pairings c [stockD c sorts ks, .lst (cs.map .str), legsD legs] = some (.lst ((pairsPl sorts (endsP ks cs legs)).map prwD)) := by
  have h1 := sure_ok c hS hC hL
  have h2 := ends_there_ok c hS hC hL
  have he : ∀ e ∈ endsP ks cs legs, e.2 ∈ sorts.map fun q => q.1 := fun e he => by
    refine ends_names hS hC hL e.2 ?_
    rw [← ends_sorts]
    exact List.mem_map.mpr ⟨e, he, rfl⟩
  generalize hE : endsP ks cs legs = es at *
  have ll : lenD (.lst (es.map endD)) = some (.int (es.length : Nat)) := by simp [lenD]
  have lt : fI0 (fun i j => .bl (decide (j < i))) (.int (es.length : Nat)) (.int 10) = some (.bl false) := by
    show some (D.bl (decide ((10 : Int) < ((es.length : Nat) : Int)))) = _
    rw [decide_eq_false (by omega)]
  have md : fI modOk (fun i j => .int (i % j)) (.int (es.length : Nat)) (.int 2) = some (nI (es.length % 2)) := by
    have ok : modOk ((es.length : Nat) : Int) 2 = true := by simp [modOk]
    show (if modOk ((es.length : Nat) : Int) 2 = true then some (D.int (((es.length : Nat) : Int) % 2)) else none) = _
    rw [if_pos ok]
    rfl
  have eq : eqD (nI (es.length % 2)) (.int 1) = some (.bl (decide (es.length % 2 = 1))) := by
    show eqD (.int _) (.int _) = _
    rw [eqD_int]
    exact congrArg (fun b => some (D.bl b)) (decide_eq_decide.mpr (by omega))
  obtain ⟨SD, hSD⟩ : ∃ X, X = stockD c sorts ks := ⟨_, rfl⟩
  obtain ⟨CD, hCD⟩ : ∃ X, X = D.lst (cs.map .str) := ⟨_, rfl⟩
  obtain ⟨LD, hLD⟩ : ∃ X, X = legsD legs := ⟨_, rfl⟩
  by_cases q : es.length % 2 = 1
  · rw [decide_eq_true q] at eq
    have e : pairsPl sorts es = [] := if_pos q
    rw [e]
    rw [← hSD, ← hCD, ← hLD] at h1 h2 ⊢
    simp_arith only [g_pairings, m_pairings, h1, h2, ll, lt, md, eq]
    rfl
  · rw [decide_eq_false q] at eq
    have e : pairsPl sorts es = pairR sorts es (es.length / 2) := if_neg q
    rw [e]
    obtain ⟨s3', s4, s5, s6, s7, g4, ht0⟩ := pturns c hS he h10 (.bo CD) (.bo LD) (.ow (.lst [prwD []])) (.ow (.lst (es.map endD))) (.inr rfl) (.inr rfl)
    have dv : fI divOk (fun i j => .int (i / j)) (.int (es.length : Nat)) (.int 2) = some (.int ((es.length / 2 : Nat) : Int)) := by
      have ok : divOk ((es.length : Nat) : Int) 2 = true := by simp [divOk, DL.small64]
      show (if divOk ((es.length : Nat) : Int) 2 = true then some (D.int (((es.length : Nat) : Int) / 2)) else none) = _
      rw [if_pos ok]
      rfl
    have rg := rg1_nat (n := es.length / 2) (by omega)
    have p0 : prwD [] = .lst [] := rfl
    rw [p0] at ht0
    rw [← hSD] at ht0
    have ht : forL (gN 5) (B_pairings_1 c) ((List.range (es.length / 2)).map nI) [.fr SD, .bo CD, .bo LD, .ow (.lst (es.map endD)), .ow (.lst [.lst []]), .un, .un, .un, .un] = _ := ht0
    rw [← hSD, ← hCD, ← hLD] at h1 h2 ⊢
    generalize (pairR sorts es (es.length / 2)).map prwD = PR at g4 ⊢
    rcases g4 with rfl | rfl <;> simp_arith only [g_pairings, m_pairings, h1, h2, ll, lt, md, eq, dv, rg, ht]
/-! ### the law's own -/
theorem lap_in {es : List (Nat × Str)} (he : ∀ e ∈ es, e.2 ∈ sorts.map fun q => q.1) (hl : es.length ≤ 40) {a : Nat} {r : List Nat} (hb : ∀ x ∈ a :: r, x < es.length) (hr : r.length ≤ 40) (row : List (Nat × Nat)) (hrow : row.length ≤ 100) (f0 f2 f3 : Sl) :
    ∀ (is : List Nat) (acc : List D) (f8 f9 : Sl), (∀ x ∈ is, x ∈ r) → acc.length + is.length ≤ 900000 → ∃ f8' f9', forL (gN 8) (B__law_all_pairings_0 c) (is.map nI) [f0, .fr (.lst (es.map endD)), f2, f3, .ow (.lst acc), .fr (prwD row), .fr (.lst ((a :: r).map nI)), .fr (.str (ptOf sorts (sAt es a))), f8, f9, .un] =
      some (.nx [f0, .fr (.lst (es.map endD)), f2, f3, .ow (.lst (acc ++ (is.filter fun j => decide (sAt es j = ptOf sorts (sAt es a))).map fun j => lwD (row ++ [(a, j)]) (r.filter fun x => decide (x ≠ j)))), .fr (prwD row), .fr (.lst ((a :: r).map nI)), .fr (.str (ptOf sorts (sAt es a))), f8', f9', .un]) := by
  have ea : ∀ x, x < es.length → ixD (.lst (es.map endD)) (nI x) = some (endD (es.getD x (0, ""))) := fun x hx => by
    obtain ⟨h1, h2⟩ := atI_nat (xs := es.map endD) (r := (x : Nat)) (by omega) (by rw [List.length_map]; omega)
    show atI (es.map endD) (x : Nat) = _
    rw [h2]
    simp only [Int.toNat_natCast, List.getElem_map, List.getD_eq_getElem?_getD, List.getElem?_eq_getElem hx, Option.getD_some]
  have e1 : ∀ p : Nat × Str, ixD (endD p) (.int 1) = some (.str p.2) := fun _ => rfl
  have nm : ∀ {y : Str}, (y ∈ sorts.map fun q => q.1) → NameOk y := fun {y} hy => by
    obtain ⟨q, hq, rfl⟩ := List.mem_map.mp hy
    exact (hS.so.nm q hq).1
  have hsa := sAt_mem hS he (hb a List.mem_cons_self)
  have np : NameOk (ptOf sorts (sAt es a)) := by
    obtain ⟨q, hq, e⟩ := List.mem_map.mp hsa
    rw [← e, ptOf_ok hS.so hq]
    exact (hS.so.nm q hq).2
  have sl : slD (.lst ((a :: r).map nI)) (some 1) none = some (.lst (r.map nI)) := by
    show some (D.lst (cutD ((a :: r).map nI) (some ((1 : Nat) : Int)) none)) = _
    rw [cut_fromN]
    rfl
  have i0 : ixD (.lst ((a :: r).map nI)) (.int 0) = some (nI a) := ix_nat (m := a :: r) (a := 0) (by simp)
  obtain ⟨LR, hLR⟩ : ∃ X, X = (a :: r).map nI := ⟨_, rfl⟩
  rw [← hLR] at sl i0 ⊢
  intro is
  induction is with
  | nil =>
    intro acc f8 f9 _ _
    refine ⟨f8, f9, ?_⟩
    simp only [List.filter_nil, List.map_nil, List.append_nil]
    rfl
  | cons j is ih =>
    intro acc f8 f9 hi hacc
    rw [List.length_cons] at hacc
    have hj := hi j List.mem_cons_self
    have hjb := hb j (List.mem_cons_of_mem _ hj)
    have q1 := ea j hjb
    have q2 := e1 (es.getD j (0, ""))
    have q3 : eqD (.str (es.getD j (0, "")).2) (.str (ptOf sorts (sAt es a))) = some (.bl (decide (sAt es j = ptOf sorts (sAt es a)))) := by
      show eqD (.str (sAt es j)) _ = _
      rw [eqD_str (nm (sAt_mem hS he hjb)) np]
    have hg : gN 8 (nI j) [f0, .fr (.lst (es.map endD)), f2, f3, .ow (.lst acc), .fr (prwD row), .fr (.lst LR), .fr (.str (ptOf sorts (sAt es a))), f8, f9, .un] = some [f0, .fr (.lst (es.map endD)), f2, f3, .ow (.lst acc), .fr (prwD row), .fr (.lst LR), .fr (.str (ptOf sorts (sAt es a))), .fr (nI j), f9, .un] := rfl
    by_cases z : sAt es j = ptOf sorts (sAt es a)
    · rw [decide_eq_true z] at q3
      have hL : L__law_all_pairings_0 c [f0, .fr (.lst (es.map endD)), f2, f3, .ow (.lst acc), .fr (prwD row), .fr (.lst LR), .fr (.str (ptOf sorts (sAt es a))), .fr (nI j), f9, .un] = some (.ok (.lst ((r.filter fun x => decide (x ≠ j)).map nI)) [f0, .fr (.lst (es.map endD)), f2, f3, .ow (.lst acc), .fr (prwD row), .fr (.lst LR), .fr (.str (ptOf sorts (sAt es a))), .fr (nI j), f9, .un]) := by
        refine mLc_filter (as := r) (enc := nI) (f := nI) (fun x => decide (x ≠ j)) (δ0 := [f0, .fr (.lst (es.map endD)), f2, f3, .ow (.lst acc), .fr (prwD row), .fr (.lst LR), .fr (.str (ptOf sorts (sAt es a))), .fr (nI j), f9, .un]) (by simp_arith only [sl]) rfl fun x hx => ⟨[f0, .fr (.lst (es.map endD)), f2, f3, .ow (.lst acc), .fr (prwD row), .fr (.lst LR), .fr (.str (ptOf sorts (sAt es a))), .fr (nI j), f9, .fr (nI x)], [f0, .fr (.lst (es.map endD)), f2, f3, .ow (.lst acc), .fr (prwD row), .fr (.lst LR), .fr (.str (ptOf sorts (sAt es a))), .fr (nI j), f9, .fr (nI x)], rfl, ?_, rfl, fun _ => ⟨_, rfl, rfl⟩⟩
        have w : neD (nI x) (nI j) = some (.bl (decide (x ≠ j))) := by
          show neD (.int _) (.int _) = _
          rw [neD_int]
          refine congrArg (fun b => some (D.bl b)) ?_
          by_cases y : x = j
          · subst y; simp
          · have : ¬ ((x : Int) = (j : Int)) := by omega
            simp [y, this]
        simp_arith only [T__law_all_pairings_0, w]
      have ad : addD (prwD row) (.lst [.tup [nI a, nI j]]) = some (prwD (row ++ [(a, j)])) := by
        unfold prwD
        rw [addD_lst (by rw [List.length_map]; simp; omega), List.map_append]
        rfl
      have la : acc.length < 1000000 := by omega
      have ap : appF acc [.tup [prwD (row ++ [(a, j)]), .lst ((r.filter fun x => decide (x ≠ j)).map nI)]] = some (acc ++ [lwD (row ++ [(a, j)]) (r.filter fun x => decide (x ≠ j))], .non) := by
        simp only [appF, la, if_true]
        rfl
      obtain ⟨f8', f9', h⟩ := ih (acc ++ [lwD (row ++ [(a, j)]) (r.filter fun x => decide (x ≠ j))]) (.fr (nI j)) (.fr (.lst ((r.filter fun x => decide (x ≠ j)).map nI))) (fun x hx => hi x (List.mem_cons_of_mem _ hx)) (by rw [List.length_append]; simp; omega)
      refine ⟨f8', f9', ?_⟩
      rw [List.filter_cons_of_pos (by simpa using z), List.map_cons, List.map_cons, forL_c, hg, flK_1]
      have hb : B__law_all_pairings_0 c [f0, .fr (.lst (es.map endD)), f2, f3, .ow (.lst acc), .fr (prwD row), .fr (.lst LR), .fr (.str (ptOf sorts (sAt es a))), .fr (nI j), f9, .un] = some (.nx [f0, .fr (.lst (es.map endD)), f2, f3, .ow (.lst (acc ++ [lwD (row ++ [(a, j)]) (r.filter fun x => decide (x ≠ j))])), .fr (prwD row), .fr (.lst LR), .fr (.str (ptOf sorts (sAt es a))), .fr (nI j), .fr (.lst ((r.filter fun x => decide (x ≠ j)).map nI)), .un]) := by
        generalize lwD (row ++ [(a, j)]) (r.filter fun x => decide (x ≠ j)) = LW at ap ⊢
        generalize prwD (row ++ [(a, j)]) = RW at ap ad
        generalize (r.filter fun x => decide (x ≠ j)).map nI = RF at ap hL ⊢
        simp_arith only [B__law_all_pairings_0, q1, q2, q3, hL, i0, ad, ap]
      rw [hb, flL_1, h, List.append_assoc]
      rfl
    · rw [decide_eq_false z] at q3
      obtain ⟨f8', f9', h⟩ := ih acc (.fr (nI j)) f9 (fun x hx => hi x (List.mem_cons_of_mem _ hx)) (by omega)
      refine ⟨f8', f9', ?_⟩
      rw [List.filter_cons_of_neg (by simpa using z), List.map_cons, forL_c, hg, flK_1]
      have hb : B__law_all_pairings_0 c [f0, .fr (.lst (es.map endD)), f2, f3, .ow (.lst acc), .fr (prwD row), .fr (.lst LR), .fr (.str (ptOf sorts (sAt es a))), .fr (nI j), f9, .un] = some (.nx [f0, .fr (.lst (es.map endD)), f2, f3, .ow (.lst acc), .fr (prwD row), .fr (.lst LR), .fr (.str (ptOf sorts (sAt es a))), .fr (nI j), f9, .un]) := by
        simp_arith only [B__law_all_pairings_0, q1, q2, q3]
      rw [hb, flL_1, h]
end
end GA

set_option Elab.async false
set_option linter.all false
set_option maxRecDepth 100000
set_option maxHeartbeats 1000000
/-! UBb: all pairings as the law goes through them are those told. -/
namespace GA
open PySem L2 DL G PG
/-- a row with what is left -/
def lwR (n : Nat) (row : List (Nat × Nat)) : D := lwD row (leftOf n row)
theorem flatMap_cg {α β : Type} {f g : α → List β} : ∀ {xs : List α}, (∀ x ∈ xs, f x = g x) → xs.flatMap f = xs.flatMap g
  | [], _ => rfl
  | x :: xs, h => by rw [List.flatMap_cons, List.flatMap_cons, h x List.mem_cons_self, flatMap_cg fun y hy => h y (List.mem_cons_of_mem _ hy)]
section
variable (c : Cs) {sorts : List (Str × Str)} {ks : List (Str × List Str)} (hS : StockOk sorts ks)
include hS
theorem lap_row {es : List (Nat × Str)} (he : ∀ e ∈ es, e.2 ∈ sorts.map fun q => q.1) (hl : es.length ≤ 40) {row : List (Nat × Nat)} (hr : 2 * row.length < es.length) (acc : List D) (ha : acc.length ≤ 800000) (f2 f3 f7 f8 f9 : Sl) :
    ∃ f7' f8' f9', B__law_all_pairings_1 c [.fr (sortsD sorts), .fr (.lst (es.map endD)), f2, f3, .ow (.lst acc), .fr (prwD row), .fr (.lst ((leftOf es.length row).map nI)), f7, f8, f9, .un] =
      some (.nx [.fr (sortsD sorts), .fr (.lst (es.map endD)), f2, f3, .ow (.lst (acc ++ (nextPl sorts es row).map fun p => lwR es.length (row ++ [p]))), .fr (prwD row), .fr (.lst ((leftOf es.length row).map nI)), f7', f8', f9', .un]) := by
  obtain ⟨a, r, e0⟩ : ∃ a r, leftOf es.length row = a :: r := by
    cases h : leftOf es.length row with
    | nil => exact absurd h (left_ne hr)
    | cons a r => exact ⟨a, r, rfl⟩
  have hb : ∀ x ∈ a :: r, x < es.length := fun x hx => by
    rw [← e0] at hx
    unfold leftOf at hx
    exact List.mem_range.mp (List.mem_filter.mp hx).1
  have nd : (a :: r).Nodup := by rw [← e0]; exact left_nodup _ _
  obtain ⟨na, nr⟩ := List.nodup_cons.mp nd
  have hlen : (a :: r).length ≤ es.length := by
    rw [← e0]
    unfold leftOf
    exact Nat.le_trans (List.length_filter_le _ _) (by rw [List.length_range]; exact Nat.le_refl _)
  rw [List.length_cons] at hlen
  have hsa := sAt_mem hS he (hb a List.mem_cons_self)
  have i0 : ixD (.lst ((a :: r).map nI)) (.int 0) = some (nI a) := ix_nat (m := a :: r) (a := 0) (by simp)
  have ea : ixD (.lst (es.map endD)) (nI a) = some (endD (es.getD a (0, ""))) := by
    have hx := hb a List.mem_cons_self
    obtain ⟨h1, h2⟩ := atI_nat (xs := es.map endD) (r := (a : Nat)) (by omega) (by rw [List.length_map]; omega)
    show atI (es.map endD) (a : Nat) = _
    rw [h2]
    simp only [Int.toNat_natCast, List.getElem_map, List.getD_eq_getElem?_getD, List.getElem?_eq_getElem hx, Option.getD_some]
  have e1 : ixD (endD (es.getD a (0, ""))) (.int 1) = some (.str (sAt es a)) := rfl
  have ds := dict_sorts hS
  have dg : dgetD (.dk (sorts.map fun p => Sum.inr p.1) (sorts.map fun p => .str p.2)) (.str (sAt es a)) = some (.str (ptOf sorts (sAt es a))) := by
    obtain ⟨q, hq, e⟩ := List.mem_map.mp hsa
    rw [← e, ptOf_ok hS.so hq]
    exact dget_sort hS hq
  have sl : slD (.lst ((a :: r).map nI)) (some 1) none = some (.lst (r.map nI)) := by
    show some (D.lst (cutD ((a :: r).map nI) (some ((1 : Nat) : Int)) none)) = _
    rw [cut_fromN]
    rfl
  obtain ⟨f8', f9', h⟩ := lap_in c hS he hl hb (by omega) row (by omega) (.fr (sortsD sorts)) f2 f3 r acc f8 f9 (fun x hx => hx) (by omega)
  have en : (nextPl sorts es row).map (fun p => lwR es.length (row ++ [p])) = (r.filter fun j => decide (sAt es j = ptOf sorts (sAt es a))).map fun j => lwD (row ++ [(a, j)]) (r.filter fun x => decide (x ≠ j)) := by
    have : nextPl sorts es row = (r.filter fun j => decide (sAt es j = ptOf sorts (sAt es a))).map fun j => (a, j) := by
      unfold nextPl
      rw [e0]
      rfl
    rw [this, List.map_map]
    refine List.map_congr_left fun j hj => ?_
    have hj := (List.mem_filter.mp hj).1
    have ef : leftOf es.length (row ++ [(a, j)]) = r.filter fun x => decide (x ≠ j) := by
      rw [left_snoc, e0, List.filter_cons, if_neg (by simp)]
      refine List.filter_congr fun x hx => ?_
      have : x ≠ a := fun z => na (z ▸ hx)
      simp [this]
    show lwD (row ++ [(a, j)]) (leftOf es.length (row ++ [(a, j)])) = _
    rw [ef]
  refine ⟨.fr (.str (ptOf sorts (sAt es a))), f8', f9', ?_⟩
  rw [en, e0]
  generalize (r.filter fun j => decide (sAt es j = ptOf sorts (sAt es a))).map (fun j => lwD (row ++ [(a, j)]) (r.filter fun x => decide (x ≠ j))) = NW at h ⊢
  obtain ⟨LR, hLR⟩ : ∃ X, X = (a :: r).map nI := ⟨_, rfl⟩
  rw [← hLR] at i0 sl h ⊢
  obtain ⟨SS, hSS⟩ : ∃ X, X = sortsD sorts := ⟨_, rfl⟩
  rw [← hSS] at ds h ⊢
  simp_arith only [B__law_all_pairings_1, ds, i0, ea, e1, dg, sl, h]
theorem lap_rows {es : List (Nat × Str)} (he : ∀ e ∈ es, e.2 ∈ sorts.map fun q => q.1) (hl : es.length ≤ 40) (f2 f3 : Sl) : ∀ (rows : List (List (Nat × Nat))) (acc : List D) (f5 f6 f7 f8 f9 : Sl), (∀ r ∈ rows, 2 * r.length < es.length) → acc.length + rows.length * es.length ≤ 800000 →
    ∃ f5' f6' f7' f8' f9', forL (gT (gsC (gN 5) (gsC (gN 6) gs0))) (B__law_all_pairings_1 c) (rows.map (lwR es.length)) [.fr (sortsD sorts), .fr (.lst (es.map endD)), f2, f3, .ow (.lst acc), f5, f6, f7, f8, f9, .un] =
      some (.nx [.fr (sortsD sorts), .fr (.lst (es.map endD)), f2, f3, .ow (.lst (acc ++ rows.flatMap fun row => (nextPl sorts es row).map fun p => lwR es.length (row ++ [p]))), f5', f6', f7', f8', f9', .un]) := by
  intro rows
  induction rows with
  | nil =>
    intro acc f5 f6 f7 f8 f9 _ _
    refine ⟨f5, f6, f7, f8, f9, ?_⟩
    rw [List.flatMap_nil, List.append_nil]
    rfl
  | cons row rows ih =>
    intro acc f5 f6 f7 f8 f9 hr ha
    rw [List.length_cons, Nat.succ_mul] at ha
    have nl := nextPl_len sorts es row
    obtain ⟨g7, g8, g9, hb⟩ := lap_row c hS he hl (hr row List.mem_cons_self) acc (by omega) f2 f3 f7 f8 f9
    obtain ⟨k5, k6, k7, k8, k9, h⟩ := ih (acc ++ (nextPl sorts es row).map fun p => lwR es.length (row ++ [p])) (.fr (prwD row)) (.fr (.lst ((leftOf es.length row).map nI))) g7 g8 g9 (fun r hr' => hr r (List.mem_cons_of_mem _ hr')) (by rw [List.length_append, List.length_map]; omega)
    refine ⟨k5, k6, k7, k8, k9, ?_⟩
    have hg : gT (gsC (gN 5) (gsC (gN 6) gs0)) (lwR es.length row) [.fr (sortsD sorts), .fr (.lst (es.map endD)), f2, f3, .ow (.lst acc), f5, f6, f7, f8, f9, .un] = some [.fr (sortsD sorts), .fr (.lst (es.map endD)), f2, f3, .ow (.lst acc), .fr (prwD row), .fr (.lst ((leftOf es.length row).map nI)), f7, f8, f9, .un] := rfl
    rw [List.map_cons, forL_c, hg, flK_1, hb, flL_1, h, List.flatMap_cons, List.append_assoc]
theorem lap_ok {es : List (Nat × Str)} (he : ∀ e ∈ es, e.2 ∈ sorts.map fun q => q.1) (hl : es.length ≤ 10) : g__law_all_pairings c [sortsD sorts, .lst (es.map endD)] = some (.lst ((pairsPl sorts es).map prwD)) := by
  obtain ⟨δ', h1, ⟨s2, s3, s4, s5, s6, s7, s8, s9, g2, rfl⟩⟩ := forL_ix (enc := nI) (g := gN 3) (b := B__law_all_pairings_2 c) (as := List.range ((es.length + 1) / 2))
    (fun i δ => ∃ s2 s3 s4 s5 s6 s7 s8 s9, FO s2 (.lst ((pairR sorts es i).map (lwR es.length))) ∧ δ = [.fr (sortsD sorts), .fr (.lst (es.map endD)), s2, s3, s4, s5, s6, s7, s8, s9, .un])
    (δ := [.fr (sortsD sorts), .fr (.lst (es.map endD)), .ow (.lst [lwR es.length []]), .un, .un, .un, .un, .un, .un, .un, .un]) ⟨_, .un, .un, .un, .un, .un, .un, .un, .inr rfl, rfl⟩ (by
      rintro i x δ hx ⟨s2, s3, s4, s5, s6, s7, s8, s9, g2, rfl⟩
      obtain ⟨hi, ex⟩ := List.getElem?_eq_some_iff.mp hx
      rw [List.length_range] at hi
      have hm := pairR_many sorts es i
      have hp : es.length ^ i ≤ 10 ^ 4 := by
        have h1 : es.length ^ i ≤ 10 ^ i := Nat.pow_le_pow_left hl i
        have h2 : 10 ^ i ≤ 10 ^ 4 := Nat.pow_le_pow_right (by decide) (by omega)
        exact Nat.le_trans h1 h2
      have hmul : (pairR sorts es i).length * es.length ≤ 10 ^ 4 * 10 := Nat.mul_le_mul (Nat.le_trans hm hp) hl
      obtain ⟨k5, k6, k7, k8, k9, h⟩ := lap_rows c hS he (by omega) (.fr (.lst ((pairR sorts es i).map (lwR es.length)))) (.fr (nI x)) (pairR sorts es i) [] s5 s6 s7 s8 s9 (fun r hr => by rw [pairR_len hr]; omega) (by simp only [List.length_nil]; omega)
      have h' : forL (gT (gsC (gN 5) (gsC (gN 6) gs0))) (B__law_all_pairings_1 c) ((pairR sorts es i).map (lwR es.length)) [.fr (sortsD sorts), .fr (.lst (es.map endD)), .fr (.lst ((pairR sorts es i).map (lwR es.length))), .fr (nI x), .ow (.lst []), s5, s6, s7, s8, s9, .un] = some (.nx [.fr (sortsD sorts), .fr (.lst (es.map endD)), .fr (.lst ((pairR sorts es i).map (lwR es.length))), .fr (nI x), .ow (.lst ((pairR sorts es (i + 1)).map (lwR es.length))), k5, k6, k7, k8, k9, .un]) := by
        have e : (pairR sorts es (i + 1)).map (lwR es.length) = (pairR sorts es i).flatMap fun row => (nextPl sorts es row).map fun p => lwR es.length (row ++ [p]) := by
          show ((pairR sorts es i).flatMap fun row => (nextPl sorts es row).map fun p => row ++ [p]).map _ = _
          rw [List.map_flatMap]
          refine flatMap_cg fun row _ => ?_
          rw [List.map_map]
          rfl
        rw [h, e, List.nil_append]
      refine ⟨[.fr (sortsD sorts), .fr (.lst (es.map endD)), s2, .fr (nI x), s4, s5, s6, s7, s8, s9, .un], [.fr (sortsD sorts), .fr (.lst (es.map endD)), .fr (.lst ((pairR sorts es (i + 1)).map (lwR es.length))), .fr (nI x), .fr (.lst ((pairR sorts es (i + 1)).map (lwR es.length))), k5, k6, k7, k8, k9, .un], rfl, ?_, _, _, _, _, _, _, _, _, .inl rfl, rfl⟩
      generalize (pairR sorts es i).map (lwR es.length) = P1 at h' g2
      generalize (pairR sorts es (i + 1)).map (lwR es.length) = P2 at h' ⊢
      rcases g2 with rfl | rfl <;> simp_arith only [B__law_all_pairings_2, h'])
  rw [List.length_range] at g2
  have fin : pairR sorts es ((es.length + 1) / 2) = pairsPl sorts es := by
    unfold pairsPl
    by_cases ho : es.length % 2 = 1
    · rw [if_pos ho]
      have e : (es.length + 1) / 2 = es.length / 2 + 1 := by omega
      rw [e]
      show ((pairR sorts es (es.length / 2)).flatMap fun row => (nextPl sorts es row).map fun p => row ++ [p]) = []
      rw [List.flatMap_eq_nil_iff]
      intro row hrow
      have hl := left_len hS he hrow (by omega)
      obtain ⟨x, e⟩ : ∃ x, leftOf es.length row = [x] := by
        cases z : leftOf es.length row with
        | nil => rw [z] at hl; simp at hl; omega
        | cons x r =>
          cases r with
          | nil => exact ⟨x, rfl⟩
          | cons y r => rw [z] at hl; simp at hl; omega
      unfold nextPl
      rw [e]
      rfl
    · rw [if_neg ho]
      have e : (es.length + 1) / 2 = es.length / 2 := by omega
      rw [e]
  rw [fin] at g2
  have ll : lenD (.lst (es.map endD)) = some (.int (es.length : Nat)) := by simp [lenD]
  have lr : lrF1 (.int (es.length : Nat)) = some ((List.range es.length).map nI) := lr1_nat (by omega)
  have ad : addD (.int (es.length : Nat)) (.int 1) = some (.int ((es.length + 1 : Nat) : Int)) := rfl
  have dv : fI divOk (fun i j => .int (i / j)) (.int ((es.length + 1 : Nat) : Int)) (.int 2) = some (.int (((es.length + 1) / 2 : Nat) : Int)) := by
    have ok : divOk ((es.length + 1 : Nat) : Int) 2 = true := by simp [divOk, DL.small64]
    show (if divOk ((es.length + 1 : Nat) : Int) 2 = true then some (D.int (((es.length + 1 : Nat) : Int) / 2)) else none) = _
    rw [if_pos ok]
    rfl
  have rg := rg1_nat (n := (es.length + 1) / 2) (by omega)
  have l0 : D.tup [D.lst [], .lst ((List.range es.length).map nI)] = lwR es.length [] := by
    have e : leftOf es.length [] = List.range es.length := by
      unfold leftOf
      rw [List.filter_eq_self]
      intro x _
      simp [usedOf]
    unfold lwR lwD
    rw [e]
    rfl
  have hL : ∀ s2, FO s2 (.lst ((pairsPl sorts es).map (lwR es.length))) → ∃ s2', L__law_all_pairings_1 c [.fr (sortsD sorts), .fr (.lst (es.map endD)), s2, s3, s4, s5, s6, s7, s8, s9, .un] = some (.ok (.lst ((pairsPl sorts es).map prwD)) [.fr (sortsD sorts), .fr (.lst (es.map endD)), s2', s3, s4, .un, .un, s7, s8, s9, .un]) := fun s2 h2 => by
    refine ⟨.fr (.lst ((pairsPl sorts es).map (lwR es.length))), ?_⟩
    have hit : mSeqB 2 [.fr (sortsD sorts), .fr (.lst (es.map endD)), s2, s3, s4, s5, s6, s7, s8, s9, .un] = some (.ok ((pairsPl sorts es).map (lwR es.length)) [.fr (sortsD sorts), .fr (.lst (es.map endD)), .fr (.lst ((pairsPl sorts es).map (lwR es.length))), s3, s4, s5, s6, s7, s8, s9, .un]) := by
      generalize (pairsPl sorts es).map (lwR es.length) = P1 at h2 ⊢
      rcases h2 with rfl | rfl <;> simp_arith only []
    obtain ⟨out, δ', g1, g2⟩ := mLc_ix (as := pairsPl sorts es) (enc := lwR es.length) (it := mSeqB 2) (g := gT (gsC (gN 5) (gsC (gN 6) gs0))) (t := mYes) (e := E__law_all_pairings_1 c) (vs := [5, 6])
      (δ := [.fr (sortsD sorts), .fr (.lst (es.map endD)), s2, s3, s4, s5, s6, s7, s8, s9, .un]) (δ0 := [.fr (sortsD sorts), .fr (.lst (es.map endD)), .fr (.lst ((pairsPl sorts es).map (lwR es.length))), s3, s4, s5, s6, s7, s8, s9, .un])
      (fun i acc δ => acc = ((pairsPl sorts es).take i).map prwD ∧ δ = [.fr (sortsD sorts), .fr (.lst (es.map endD)), .fr (.lst ((pairsPl sorts es).map (lwR es.length))), s3, s4, .un, .un, s7, s8, s9, .un])
      hit ⟨rfl, rfl⟩ (by
        rintro i row acc δ hrow ⟨rfl, rfl⟩
        refine ⟨[.fr (sortsD sorts), .fr (.lst (es.map endD)), .fr (.lst ((pairsPl sorts es).map (lwR es.length))), s3, s4, .fr (prwD row), .fr (.lst ((leftOf es.length row).map nI)), s7, s8, s9, .un], true, [.fr (sortsD sorts), .fr (.lst (es.map endD)), .fr (.lst ((pairsPl sorts es).map (lwR es.length))), s3, s4, .fr (prwD row), .fr (.lst ((leftOf es.length row).map nI)), s7, s8, s9, .un], rfl, rfl, (fun h => by cases h), fun _ => ⟨prwD row, [.fr (sortsD sorts), .fr (.lst (es.map endD)), .fr (.lst ((pairsPl sorts es).map (lwR es.length))), s3, s4, .fr (prwD row), .fr (.lst ((leftOf es.length row).map nI)), s7, s8, s9, .un], ?_, ?_, rfl⟩⟩
        · simp_arith only [E__law_all_pairings_1]
        · rw [take_snoc hrow, List.map_append]; rfl)
    obtain ⟨rfl, rfl⟩ := g2
    rw [List.take_length] at g1
    exact g1
  obtain ⟨s2', hL'⟩ := hL s2 g2
  generalize (pairsPl sorts es).map prwD = PW at hL' ⊢
  generalize hLW : lwR es.length [] = LW at l0 h1
  simp_arith only [g__law_all_pairings, m__law_all_pairings, ll, lr, l0, ad, dv, rg, h1, hL']
end
end GA

set_option Elab.async false
set_option linter.all false
set_option maxRecDepth 100000
set_option maxHeartbeats 4000000
/-! MK22: the law on pairings told. -/
namespace GA
open PySem L2 DL G PG
def oddB (n : Nat) : Nat → Nat
  | 0 => 1
  | i + 1 => oddB n i * (n - 2 * i - 1)
theorem oddB_le : ∀ n, n < 11 → ∀ i, i < 6 → oddB n i ≤ 945 := by decide
theorem okDs_map {α : Type} (f : α → D) : ∀ xs : List α, (∀ x ∈ xs, okD (f x) = true) → okDs (xs.map f) = true
  | [], _ => rfl
  | x :: xs, h => by
    rw [List.map_cons]
    unfold okDs
    rw [h x List.mem_cons_self, okDs_map f xs fun y hy => h y (List.mem_cons_of_mem _ hy)]
    rfl
theorem okD_lst {α : Type} (f : α → D) {xs : List α} (h0 : xs ≠ []) (h : ∀ x ∈ xs, okD (f x) = true) (hf : ∀ x, plE (f x) = true) : okD (.lst (xs.map f)) = true := by
  unfold okD
  rw [okDs_map f xs h]
  have : (xs.map f).all plE = true := by rw [List.all_map, List.all_eq_true]; exact fun x _ => hf x
  rw [this]
  cases xs with
  | nil => exact absurd rfl h0
  | cons x xs => rfl
theorem okD_stock (c : Cs) {sorts : List (Str × Str)} {ks : List (Str × List Str)} (hS : StockOk sorts ks) : okD (stockD c sorts ks) = true := by
  have h1 : okD (sortsD sorts) = true := okD_lst pairD (by intro z; have := hS.so.lo; rw [z] at this; simp at this) (fun x _ => rfl) fun _ => rfl
  have h2 : okD (kindsD ks) = true := okD_lst G.kindD (by intro z; have := hS.lo; rw [z] at this; simp at this) (fun x _ => by
    show okD (.tup [.str x.1, .tup (x.2.map .str)]) = true
    have h3 : okDs (x.2.map D.str) = true := okDs_map D.str x.2 fun _ _ => rfl
    have h4 : hdD (x.2.map D.str) = false := by cases x.2 <;> rfl
    have h5 : hdD [D.str x.1, .tup (x.2.map .str)] = false := rfl
    simp [okD, okDs, h3, h4, h5]) fun _ => rfl
  unfold stockD
  simp only [okD, okDs, h1, h2, Bool.and_self]
theorem mTold2_e {i : Nat} {ys : List Nat} {ks : List PK} {g : List D → Option D} {a : M (List Op)} {ok : En → Bool} {δ δ1 : En} {os : List Op} {ds es : List D} (h1 : a δ = some (.ok os δ1)) (h2 : rds os δ1 = some ds) (h3 : frOk ks os = true) (h4 : goodA ks ds = true) (h5 : i < δ1.length) (h5' : ys.all (fun y => decide (y < δ1.length)) = true) (h6 : g ds = some (.lst es)) (h7 : partT2 es = true) (h8 : ok ((borE δ1).set i (.bo (.lst es))) = true) :
    mTold2 i ys ks g a ok δ = some (.nx (wipeE δ1 (i :: ys))) := by
  unfold mTold2
  rw [h1]
  simp only [h2]
  rw [if_pos ⟨h3, h4, h5, h5'⟩, h6]
  simp only
  rw [if_pos ⟨h7, h8⟩]
section
variable (c : Cs) {sorts : List (Str × Str)} {ks : List (Str × List Str)} (hS : StockOk sorts ks)
include hS
theorem pairR_odd {es : List (Nat × Str)} (he : ∀ e ∈ es, e.2 ∈ sorts.map fun q => q.1) : ∀ i, 2 * i ≤ es.length → (pairR sorts es i).length ≤ oddB es.length i
  | 0, _ => Nat.le_refl _
  | i + 1, h => by
    have ih := pairR_odd he i (by omega)
    have hf := flat_len (fun row => (nextPl sorts es row).map fun p => row ++ [p]) (es.length - 2 * i - 1) (pairR sorts es i) fun row hrow => by
      rw [List.length_map]
      have hl := left_len hS he hrow (by omega)
      unfold nextPl
      cases e : leftOf es.length row with
      | nil => simp
      | cons a r =>
        rw [e, List.length_cons] at hl
        show ((r.filter _).map _).length ≤ _
        rw [List.length_map]
        exact Nat.le_trans (List.length_filter_le _ _) (by omega)
    exact Nat.le_trans hf (Nat.mul_le_mul_right _ ih)
theorem part_pairs {es : List (Nat × Str)} (he : ∀ e ∈ es, e.2 ∈ sorts.map fun q => q.1) (hl : es.length ≤ 10) : partT2 ((pairsPl sorts es).map prwD) = true := by
  have h1 : (pairsPl sorts es).length ≤ 945 ∧ ∀ row ∈ pairsPl sorts es, row.length ≤ 5 := by
    unfold pairsPl
    by_cases ho : es.length % 2 = 1
    · rw [if_pos ho]
      exact ⟨by simp, fun row h => by cases h⟩
    · rw [if_neg ho]
      exact ⟨Nat.le_trans (pairR_odd hS he _ (by omega)) (oddB_le _ (by omega) _ (by omega)), fun row h => by rw [pairR_len h]; omega⟩
  unfold partT2
  rw [Bool.and_eq_true]
  refine ⟨decide_eq_true (by rw [List.length_map]; omega), ?_⟩
  rw [List.all_map, List.all_eq_true]
  intro row hrow
  have := h1.2 row hrow
  show rowT (prwD row) = true
  unfold prwD rowT
  rw [Bool.and_eq_true]
  refine ⟨decide_eq_true (by rw [List.length_map]; omega), ?_⟩
  rw [List.all_map, List.all_eq_true]
  exact fun p _ => rfl
theorem pl_pairs (es : List (Nat × Str)) : Pl 4 (.lst ((pairsPl sorts es).map prwD)) := by
  refine Pl.lst fun d hd => ?_
  obtain ⟨row, _, rfl⟩ := List.mem_map.mp hd
  refine Pl.lst fun d hd => ?_
  obtain ⟨p, _, rfl⟩ := List.mem_map.mp hd
  refine Pl.tup fun d hd => ?_
  simp only [List.mem_cons, List.not_mem_nil, or_false] at hd
  rcases hd with rfl | rfl <;> exact Pl.int
theorem turn22 {cs : List Str} {legs : List (Str × Str)} (hC : CornersOk ks cs) (hL : LegsOk sorts legs) (h10 : (endsP ks cs legs).length ≤ 10) (f1 f2 : Sl) (t : Nat) :
    B__law_right_0 c [.fr (stockD c sorts ks), f1, f2, .fr (.lst (cs.map .str)), .fr (legsD legs), .fr (.lst ((pairsPl sorts (endsP ks cs legs)).map prwD)), .fr (nI t), .un, .un] = some (.nx (wipeE [.fr (stockD c sorts ks), f1, f2, .fr (.lst (cs.map .str)), .fr (legsD legs), .fr (.lst ((pairsPl sorts (endsP ks cs legs)).map prwD)), .fr (nI t), .un, .un] [7, 8])) := by
  have g1 := pairs_ok c hS hC hL h10
  have q1 := count_ok c hS hC hL
  have he : ∀ e ∈ endsP ks cs legs, e.2 ∈ sorts.map fun q => q.1 := fun e he => by
    refine ends_names hS hC hL e.2 ?_
    rw [← ends_sorts]
    exact List.mem_map.mpr ⟨e, he, rfl⟩
  have hp := part_pairs hS he h10
  have pc := pairs_count hS he
  rw [ends_sorts] at pc
  have pE := pl_pairs hS (endsP ks cs legs)
  have n1 : neD (.lst ((pairsPl sorts (endsP ks cs legs)).map prwD)) (.lst ((pairsPl sorts (endsP ks cs legs)).map prwD)) = some (.bl false) := by rw [neD_pl 4 pE pE]; simp
  have lE : lenD (.lst ((pairsPl sorts (endsP ks cs legs)).map prwD)) = some (.int (cntW strLt sorts (endSorts ks cs legs) : Nat)) := by rw [← pc]; simp [lenD]
  have n2 : neD (.int (cntW strLt sorts (endSorts ks cs legs) : Nat)) (.int (cntW strLt sorts (endSorts ks cs legs) : Nat)) = some (.bl false) := by rw [neD_int]; simp
  have hgood : goodA [.fr, .bo, .bo] [stockD c sorts ks, .lst (cs.map .str), legsD legs] = true := by
    have a1 := okD_stock c hS
    have a2 : okDs (cs.map D.str) = true := okDs_map D.str cs fun _ _ => rfl
    have a3 : okDs (legs.map pairD) = true := okDs_map pairD legs fun _ _ => rfl
    show (okD (stockD c sorts ks) && (okDs (cs.map D.str) && (okDs (legs.map pairD) && true))) = true
    rw [a1, a2, a3]
    rfl
  generalize (pairsPl sorts (endsP ks cs legs)).map prwD = es at *
  generalize cntW strLt sorts (endSorts ks cs legs) = W at *
  generalize stockD c sorts ks = SD at *
  generalize cs.map D.str = CS at *
  generalize legsD legs = LD at *
  have ib : isB "list" (.lst es) = some (.bl true) := rfl
  have ev : (maCons (mVal (mVar 0)) (maCons (mOv 3) (maCons (mOv 4) maNil))) [.fr SD, f1, f2, .fr (.lst CS), .fr LD, .fr (.lst es), .fr (nI t), .un, .un] = some (.ok [.val SD, .slot 3, .slot 4] [.fr SD, f1, f2, .fr (.lst CS), .fr LD, .fr (.lst es), .fr (nI t), .un, .un]) := by simp_arith only []
  refine mTold2_e ev rfl rfl hgood (by show 7 < 9; decide) rfl g1 hp ?_
  show okF _ [.fr SD, borS f1, borS f2, .fr (.lst CS), .fr LD, .fr (.lst es), .fr (nI t), .bo (.lst es), .un] = true
  unfold okF
  have : (mOr (mNot (mTest (m1 (isB "list") (mOv 7)))) (mOr (mTest (m2 neD (mOv 7) (mOv 5))) (mTest (m2 neD (mVal (mA (fA1 lenD) (maCons (mOv 7) maNil))) (mVal (mCallP [.fr, .bo, .bo] (g_count c) (maCons (mVal (mVar 0)) (maCons (mOv 3) (maCons (mOv 4) maNil))))))))) [.fr SD, borS f1, borS f2, .fr (.lst CS), .fr LD, .fr (.lst es), .fr (nI t), .bo (.lst es), .un] = some (.ok false [.fr SD, borS f1, borS f2, .fr (.lst CS), .fr LD, .fr (.lst es), .fr (nI t), .bo (.lst es), .un]) := by
    generalize borS f1 = g1'
    generalize borS f2 = g2'
    simp_arith only [ib, n1, lE, q1, n2]
  rw [this]
theorem right22 {cs : List Str} {legs : List (Str × Str)} (hC : CornersOk ks cs) (hL : LegsOk sorts legs) (h10 : (endsP ks cs legs).length ≤ 10) : g__law_right c [stockD c sorts ks, sortsD sorts, .lst ((endsP ks cs legs).map endD), .lst (cs.map .str), legsD legs] = some (.bl true) := by
  have he : ∀ e ∈ endsP ks cs legs, e.2 ∈ sorts.map fun q => q.1 := fun e he => by
    refine ends_names hS hC hL e.2 ?_
    rw [← ends_sorts]
    exact List.mem_map.mpr ⟨e, he, rfl⟩
  have h1 := lap_ok c hS he h10
  have t1 := turn22 c hS hC hL h10 (.fr (sortsD sorts)) (.fr (.lst ((endsP ks cs legs).map endD))) 0
  have t2 := turn22 c hS hC hL h10 (.fr (sortsD sorts)) (.fr (.lst ((endsP ks cs legs).map endD))) 1
  have hr : rg1 [.int 2] = some [nI 0, nI 1] := rg1_nat (n := 2) (by decide)
  generalize (endsP ks cs legs).map endD = EL at *
  generalize (pairsPl sorts (endsP ks cs legs)).map prwD = PW at *
  generalize stockD c sorts ks = SD at *
  generalize sortsD sorts = SS at *
  generalize cs.map D.str = CS at *
  generalize legsD legs = LD at *
  have t1 : B__law_right_0 c [.fr SD, .fr SS, .fr (.lst EL), .fr (.lst CS), .fr LD, .fr (.lst PW), .fr (nI 0), .un, .un] = some (.nx [.fr SD, .fr SS, .fr (.lst EL), .fr (.lst CS), .fr LD, .fr (.lst PW), .fr (nI 0), .un, .un]) := t1
  have t2 : B__law_right_0 c [.fr SD, .fr SS, .fr (.lst EL), .fr (.lst CS), .fr LD, .fr (.lst PW), .fr (nI 1), .un, .un] = some (.nx [.fr SD, .fr SS, .fr (.lst EL), .fr (.lst CS), .fr LD, .fr (.lst PW), .fr (nI 1), .un, .un]) := t2
  have hg : ∀ (i : Nat) (f0 f1 f2 f3 f4 f5 f6 f7 f8 : Sl), gN 6 (nI i) [f0, f1, f2, f3, f4, f5, f6, f7, f8] = some [f0, f1, f2, f3, f4, f5, .fr (nI i), f7, f8] := fun _ _ _ _ _ _ _ _ _ _ => rfl
  simp_arith only [g__law_right, m__law_right, h1, hr, forL, hg, t1, t2]
end
noncomputable def tail22 (c : Cs) : Ms := mIf (mNot (mTest (mCallP [.fr, .fr, .fr, .fr, .fr] (g__law_right c) (maCons (mVal (mMakeP c.stock [.bo, .bo] (g_Stock___init__ c) (maCons (mOv 4) (maCons (mOv 5) maNil)))) (maCons (mVal (mVar 4)) (maCons (mVal (mCallP [.fr, .bo, .bo] (g__law_there c) (maCons (mVal (mVar 5)) (maCons (mOv 6) (maCons (mOv 7) maNil))))) (maCons (mVal (mVar 6)) (maCons (mVal (mVar 7)) maNil)))))))) (mRet (mC (.bl false))) (mNext)
theorem tail22_ok (c : Cs) {sorts : List (Str × Str)} {ks : List (Str × List Str)} (hS : StockOk sorts ks) {cs : List Str} {legs : List (Str × Str)} (hC : CornersOk ks cs) (hL : LegsOk sorts legs) (h10 : (endsP ks cs legs).length ≤ 10) (f0 f1 f2 f3 f8 s7 : Sl) (h7 : s7 = .ow (legsD legs) ∨ s7 = .fr (legsD legs)) :
    tail22 c [f0, f1, f2, f3, .fr (sortsD sorts), .fr (kindsD ks), .fr (.lst (cs.map .str)), s7, f8] = some (.nx [f0, f1, f2, f3, .fr (sortsD sorts), .fr (kindsD ks), .fr (.lst (cs.map .str)), .fr (legsD legs), f8]) := by
  have hr := right22 c hS hC hL h10
  have h1 := stock_made c hS
  have h2 := there_ok c hS (legs := legs) hC.mem (by have := hC.hi; omega) (by have := hL.hi; omega)
  obtain ⟨SD, hSD⟩ : ∃ X, X = stockD c sorts ks := ⟨_, rfl⟩
  have mkS : ∀ δ, mkN δ (some (.non, SD)) = some (.ok SD δ) := fun _ => by rw [hSD]; rfl
  rw [← hSD] at hr h1
  obtain ⟨SS, hSS⟩ : ∃ X, X = sortsD sorts := ⟨_, rfl⟩
  obtain ⟨KK, hKK⟩ : ∃ X, X = kindsD ks := ⟨_, rfl⟩
  obtain ⟨LD, hLD⟩ : ∃ X, X = legsD legs := ⟨_, rfl⟩
  rw [← hSS] at hr h1 ⊢
  rw [← hKK] at h1 h2 ⊢
  rw [← hLD] at hr h2 h7 ⊢
  rcases h7 with rfl | rfl <;> simp_arith only [tail22, h1, mkS, h2, hr]
theorem law_turn (c : Cs) (n : Int) (f0 f2 f3 f4 f5 f6 f7 f8 : Sl) : ∃ s2 s3 s4 s5 s6 s7 s8, B_law_0 c [f0, .fr (.int n), f2, f3, f4, f5, f6, f7, f8] = some (.nx [f0, .fr (.int n), s2, s3, s4, s5, s6, s7, s8]) := by
  obtain ⟨a, b, h1⟩ := state_ok c n
  obtain ⟨q, a0, b0, k0, hq, q0, q1⟩ := pick_spec c a b 0 6 (by decide) (by decide)
  obtain ⟨far, hfar, far10⟩ : ∃ far : Nat, ixD (.lst [.int 6, .int 8, .int 8, .int 8, .int 8, .int 10]) (.int q) = some (.int (far : Nat)) ∧ far ≤ 10 := by
    have : q = 0 ∨ q = 1 ∨ q = 2 ∨ q = 3 ∨ q = 4 ∨ q = 5 := by omega
    rcases this with rfl | rfl | rfl | rfl | rfl | rfl
    · exact ⟨6, rfl, by decide⟩
    · exact ⟨8, rfl, by decide⟩
    · exact ⟨8, rfl, by decide⟩
    · exact ⟨8, rfl, by decide⟩
    · exact ⟨8, rfl, by decide⟩
    · exact ⟨10, rfl, by decide⟩
  obtain ⟨a1, b1, k1, sorts, ks, h2, hSo, hK, l1, l3, nd, nm⟩ := rows_spec c a0 b0 k0 4 (by decide)
  have hS : StockOk sorts ks := ⟨hSo, l1, by omega, nm, nd, fun p hp => hK.ends (by decide) hp⟩
  obtain ⟨a2, b2, k2, cs, legs, h3, hG⟩ := grounds_ok c hS a1 b1 k1 4 far (by decide)
  obtain ⟨r, a3, b3, k3, h4, r0, r1⟩ := pick_spec c a2 b2 k2 6 (by decide) (by decide)
  have h2' : g__law_stock_rows c [rs a0 b0 k0, .int 4] = some (.tup [sortsD sorts, kindsD ks], rs a1 b1 k1) := h2
  have h3' : g__law_grounds c [rs a1 b1 k1, sortsD sorts, kindsD ks, .int 4, .int (far : Nat)] = some (.tup [.lst (cs.map .str), legsD legs], rs a2 b2 k2) := h3
  have len : ∀ ls : List (Str × Str), (endsP ks cs ls).length = (cs.flatMap (ownOf ks)).length + ls.length := fun ls => by
    have := congrArg List.length (ends_sorts ks cs ls)
    rw [List.length_map] at this
    rw [this]
    unfold endSorts
    rw [List.length_append, List.length_map]
  have hfa := hG.fa
  rw [← ends_sorts, List.length_map, len] at hfa
  have em : B_law_0 c = mSeq (mAsgO 2 (mCallN [.fr] (g__law_state c) (maCons (mVal (mVar 1)) maNil))) (mSeq (mAsg (gN 3) (m2 ixD (mVal (mLst (mdCons (mC (.int 6)) (mdCons (mC (.int 8)) (mdCons (mC (.int 8)) (mdCons (mC (.int 8)) (mdCons (mC (.int 8)) (mdCons (mC (.int 10)) mdNil)))))))) (mVal (mCallI 2 [.fr] (g__law_pick c) (maCons (mVal (mC (.int 6))) maNil))))) (mSeq (mAsg (gT (gsC (gN 4) (gsC (gN 5) gs0))) (mCallI 2 [.fr] (g__law_stock_rows c) (maCons (mVal (mC (.int 4))) maNil))) (mSeq (mAsg (gT (gsC (gN 6) (gsC (gN 7) gs0))) (mCallI 2 [.fr, .fr, .fr, .fr] (g__law_grounds c) (maCons (mVal (mVar 4)) (maCons (mVal (mVar 5)) (maCons (mVal (mC (.int 4))) (maCons (mVal (mVar 3)) maNil)))))) (mSeq (mAsg (gN 8) (mCallI 2 [.fr] (g__law_pick c) (maCons (mVal (mC (.int 6))) maNil))) (mSeq (mIf (mTest (m2 eqD (mOv 8) (mVal (mC (.int 0))))) (mAsg (gN 7) (mSl slD (mOv 7) (mpSome (mC (.int 1))) mpNone)) (mNext)) (mSeq (mIf (mAnd (mTest (m2 eqD (mOv 8) (mVal (mC (.int 1))))) (mAnd (mTest (m2 (fI0 fun i j => .bl (decide (i < j))) (mVal (mA (fA1 lenD) (maCons (mOv 7) maNil))) (mVal (mC (.int 6))))) (mTest (m2 (fI0 fun i j => .bl (decide (i < j))) (mVal (mA (fA1 lenD) (maCons (mVal (mCallP [.fr, .bo, .bo] (g__law_there c) (maCons (mVal (mVar 5)) (maCons (mOv 6) (maCons (mOv 7) maNil))))) maNil))) (mOv 3))))) (mAsgO 7 (mnA (fN1 sortF) (maCons (mVal (m2 addD (mOv 7) (mVal (mLst (mdCons (mTup (mdCons (mC (.str "zz")) (mdCons (m2 ixD (mVal (m2 ixD (mOv 4) (mVal (mCallI 2 [.fr] (g__law_pick c) (maCons (mVal (mA (fA1 lenD) (maCons (mOv 4) maNil))) maNil))))) (mVal (mC (.int 0)))) mdNil))) mdNil))))) maNil))) (mNext)) (tail22 c))))))) := rfl
  have ll : lenD (legsD legs) = some (.int legs.length) := by simp [legsD, lenD]
  have lth : ∀ i j : Int, fI0 (fun i j => .bl (decide (i < j))) (.int i) (.int j) = some (.bl (decide (i < j))) := fun _ _ => rfl
  by_cases w0 : r = 0
  · have ht := tail22_ok c hS hG.co hG.le.drop1 (by rw [len, List.length_drop]; omega) f0 (.fr (.int n)) (.ow (rs a3 b3 k3)) (.fr (.int (far : Nat))) (.fr (.int r)) (.fr (legsD (legs.drop 1))) (.inr rfl)
    have hsl : slD (legsD legs) (some 1) none = some (legsD (legs.drop 1)) := by
      show some (D.lst (cutD (legs.map pairD) (some 1) none)) = _
      rw [cut_from1, ← List.map_drop]
      rfl
    refine ⟨.ow (rs a3 b3 k3), .fr (.int (far : Nat)), .fr (sortsD sorts), .fr (kindsD ks), .fr (.lst (cs.map .str)), .fr (legsD (legs.drop 1)), .fr (.int r), ?_⟩
    have e0 : (r = 0) = True := by simp [w0]
    have e1 : (r = 1) = False := by simp [w0]
    rw [em]
    simp_arith only [h1, hq, hfar, h2', h3', h4, eqD_int, e0, e1, hsl, ht]
  · have e0 : (r = 0) = False := by simp [w0]
    have hth := there_ok c hS hG.co.mem (by have := hG.co.hi; omega) (by have := hG.le.hi; omega) (legs := legs)
    have lt' : lenD (.lst ((endsP ks cs legs).map endD)) = some (.int ((endsP ks cs legs).length : Nat)) := by simp [lenD]
    have stay := tail22_ok c hS hG.co hG.le (by rw [len]; omega) f0 (.fr (.int n)) (.ow (rs a3 b3 k3)) (.fr (.int (far : Nat))) (.fr (.int r)) (.fr (legsD legs)) (.inr rfl)
    by_cases w1 : r = 1
    · have e1 : (r = 1) = True := by simp [w1]
      by_cases w2 : legs.length < 6
      · have e2 : ((legs.length : Int) < 6) = True := by simp; omega
        by_cases w3 : (endsP ks cs legs).length < far
        · have e3 : (((endsP ks cs legs).length : Int) < (far : Int)) = True := by simp; omega
          have hl := hSo.lo
          have hh := hSo.hi
          obtain ⟨r', a4, b4, k4, hp, p0, p1⟩ := pick_spec c a3 b3 k3 sorts.length (by omega) (by omega)
          obtain ⟨h, e⟩ := atI_nat (xs := sorts.map pairD) p0 (by rw [List.length_map]; exact p1)
          have h' : r'.toNat < sorts.length := by rw [List.length_map] at h; exact h
          rw [List.getElem_map] at e
          have x1 : ixD (sortsD sorts) (.int r') = some (pairD (sorts[r'.toNat]'h')) := e
          have x2 : ixD (pairD (sorts[r'.toNat]'h')) (.int 0) = some (.str (sorts[r'.toNat]'h').1) := rfl
          have x3 : lenD (sortsD sorts) = some (.int sorts.length) := by simp [sortsD, lenD]
          obtain ⟨legs', hs, hL'⟩ := hG.le.more w2 hG.nz (x := (sorts[r'.toNat]'h').1) (List.mem_map.mpr ⟨_, List.getElem_mem h', rfl⟩)
          have hll : legs'.length = legs.length + 1 := by
            have := sortF_pairs (legs ++ [((zz : Str), (sorts[r'.toNat]'h').1)]) (by rw [List.length_append]; simp; omega)
            rw [hs] at this
            have := congrArg List.length (Option.some.inj this)
            rw [List.length_map, (sortD_perm _).length_eq, List.length_map, List.length_append] at this
            simpa using this
          have ha : addD (legsD legs) (.lst [.tup [.str "zz", .str (sorts[r'.toNat]'h').1]]) = some (.lst ((legs ++ [((zz : Str), (sorts[r'.toNat]'h').1)]).map pairD)) := by
            rw [List.map_append]
            exact addD_lst (by rw [List.length_map]; simp; omega)
          have ht := tail22_ok c hS hG.co hL' (by rw [len, hll]; rw [len] at w3; omega) f0 (.fr (.int n)) (.ow (rs a4 b4 k4)) (.fr (.int (far : Nat))) (.fr (.int r)) (.ow (legsD legs')) (.inl rfl)
          have hlg : D.lst (legs'.map pairD) = legsD legs' := rfl
          refine ⟨.ow (rs a4 b4 k4), .fr (.int (far : Nat)), .fr (sortsD sorts), .fr (kindsD ks), .fr (.lst (cs.map .str)), .fr (legsD legs'), .fr (.int r), ?_⟩
          rw [em]
          simp_arith only [h1, hq, hfar, h2', h3', h4, eqD_int, e0, e1, e2, e3, ll, hth, lt', x3, hp, x1, x2, ha, hs, hlg, ht]
        · have e3 : (((endsP ks cs legs).length : Int) < (far : Int)) = False := by simp; omega
          refine ⟨.ow (rs a3 b3 k3), .fr (.int (far : Nat)), .fr (sortsD sorts), .fr (kindsD ks), .fr (.lst (cs.map .str)), .fr (legsD legs), .fr (.int r), ?_⟩
          rw [em]
          simp_arith only [h1, hq, hfar, h2', h3', h4, eqD_int, e0, e1, e2, e3, ll, hth, lt', stay]
      · have e2 : ((legs.length : Int) < 6) = False := by simp; omega
        refine ⟨.ow (rs a3 b3 k3), .fr (.int (far : Nat)), .fr (sortsD sorts), .fr (kindsD ks), .fr (.lst (cs.map .str)), .fr (legsD legs), .fr (.int r), ?_⟩
        rw [em]
        simp_arith only [h1, hq, hfar, h2', h3', h4, eqD_int, e0, e1, e2, ll, stay]
    · have e1 : (r = 1) = False := by simp [w1]
      refine ⟨.ow (rs a3 b3 k3), .fr (.int (far : Nat)), .fr (sortsD sorts), .fr (kindsD ks), .fr (.lst (cs.map .str)), .fr (legsD legs), .fr (.int r), ?_⟩
      rw [em]
      simp_arith only [h1, hq, hfar, h2', h3', h4, eqD_int, e0, e1, stay]
theorem law_ok : ∀ c, lawOk (m_law c) N_law.length := fun c ns hl => by
  obtain ⟨δ', h1, ⟨s1, s2, s3, s4, s5, s6, s7, s8, rfl⟩⟩ := forL_ix (enc := D.int) (g := gN 1) (b := B_law_0 c) (as := ns.take 3 ++ [5])
    (fun i δ => ∃ s1 s2 s3 s4 s5 s6 s7 s8, δ = [.sc ns, s1, s2, s3, s4, s5, s6, s7, s8])
    (δ := [.sc ns, .un, .un, .un, .un, .un, .un, .un, .un]) ⟨_, _, _, _, _, _, _, _, rfl⟩ (by
      rintro i n δ _ ⟨s1, s2, s3, s4, s5, s6, s7, s8, rfl⟩
      obtain ⟨t2, t3, t4, t5, t6, t7, t8, h⟩ := law_turn c n (.sc ns) s2 s3 s4 s5 s6 s7 s8
      exact ⟨_, _, rfl, h, _, _, _, _, _, _, _, _, rfl⟩)
  have hc := cells_cut ns 3 hl [5] (by decide)
  have hc' : addD (.lst (cutD (ns.map D.int) none (some 3))) (.lst [.int 5]) = some (.lst ((ns.take 3 ++ [5]).map .int)) := hc
  have hs : mScSl 0 none (some 3) [.sc ns, .un, .un, .un, .un, .un, .un, .un, .un] = some (.ok (.lst (cutD (ns.map D.int) none (some 3))) [.sc ns, .un, .un, .un, .un, .un, .un, .un, .un]) := by
    have : ns.length ≤ 1000000 := by omega
    simp only [mScSl, List.getElem?_cons_zero, this, if_true]
  refine ⟨[.sc ns, s1, s2, s3, s4, s5, s6, s7, s8], ?_⟩
  simp_arith only [m_law, hs, hc', h1]
end GA

open PySem PySem.W PyProof.Rows
set_option maxRecDepth 100000 in
set_option maxHeartbeats 0 in
theorem PySem.Challenge.cw_endsum_k22_pairings_told_holds : PySem.Challenge.rw_endsum_k22_pairings_told.Holds := by
  w_on; o_law; k_head; (case hw => w_witness2)
  k_fill
  refine GA.walk (l := PySem.Challenge.rw_endsum_k22_pairings_told) rfl rfl (fun w h Y => PySem.W.kIn_of Y) ?F
  case F =>
    intro w mg fa h KX GX hmg
    refine' GA.all_mk KX GX hmg ?z_abs ?z_all ?z_dict ?z_enumerate ?z_int ?z_isinstance ?z_len ?z_list ?z_max ?z_range ?z_set ?z_sorted ?z_str ?z_tuple ?z_zip ?y_LETTERS ?y_MOST ?y_MOST_ENDS ?k_stock ?n_stock_kinds ?n_stock_sorts ?d_is_name ?d_is_sort_row ?d_are_sorts ?d_is_kind_row ?d_are_kinds ?d_Stock___init__ ?d_is_sort ?d_is_kind ?d_ends_of ?d_are_corners ?d_is_leg ?d_are_legs ?d_sure_corners ?d_factorial ?d_partner_of ?d_ends_there ?d_ways_to_pair ?d_count ?d_next_pairs ?d_pairings ?d__law_state ?d__law_pick ?d__law_words ?d__law_stock_rows ?d__law_there ?d__law_wanted ?d__law_grounds ?d__law_all_pairings ?d__law_right ?d_law ?hm
    (case z_abs => k_is)
    (case z_all => k_is)
    (case z_dict => k_is)
    (case z_enumerate => k_is)
    (case z_int => k_is)
    (case z_isinstance => k_is)
    (case z_len => k_is)
    (case z_list => k_is)
    (case z_max => k_is)
    (case z_range => k_is)
    (case z_set => k_is)
    (case z_sorted => k_is)
    (case z_str => k_is)
    (case z_tuple => k_is)
    (case z_zip => k_is)
    (case y_LETTERS => refine' DL.globS_mk ?y ?z; (case y => k_is); (case z => rfl))
    (case y_MOST => refine' DL.globI_mk ?y ?z; (case y => k_is); (case z => rfl))
    (case y_MOST_ENDS => refine' DL.globI_mk ?y ?z; (case y => k_is); (case z => rfl))
    (case k_stock => refine' ⟨?a, ?pg, ?hd, ?po, ?sa, ?mks, ?kc⟩; (case a => k_is); (case pg => k_is); (case hd => k_is); (case po => k_is); (case sa => k_is); (case mks => k_is); (case kc => k_is))
    (case n_stock_kinds => k_is)
    (case n_stock_sorts => k_is)
    (case d_is_name => refine' DL.defK_mk ?a ?l ?c ?k; (case a => k_is); (case l => k_is); (case c => k_is); (case k => k_is))
    (case d_is_sort_row => refine' DL.defK_mk ?a ?l ?c ?k; (case a => k_is); (case l => k_is); (case c => k_is); (case k => k_is))
    (case d_are_sorts => refine' DL.defK_mk ?a ?l ?c ?k; (case a => k_is); (case l => k_is); (case c => k_is); (case k => k_is))
    (case d_is_kind_row => refine' DL.defK_mk ?a ?l ?c ?k; (case a => k_is); (case l => k_is); (case c => k_is); (case k => k_is))
    (case d_are_kinds => refine' DL.defK_mk ?a ?l ?c ?k; (case a => k_is); (case l => k_is); (case c => k_is); (case k => k_is))
    (case d_Stock___init__ => refine' DL.metK_mk ?a ?i ?l ?c ?k; (case a => k_is); (case i => k_is); (case l => k_is); (case c => k_is); (case k => k_is))
    (case d_is_sort => refine' DL.defK_mk ?a ?l ?c ?k; (case a => k_is); (case l => k_is); (case c => k_is); (case k => k_is))
    (case d_is_kind => refine' DL.defK_mk ?a ?l ?c ?k; (case a => k_is); (case l => k_is); (case c => k_is); (case k => k_is))
    (case d_ends_of => refine' DL.defK_mk ?a ?l ?c ?k; (case a => k_is); (case l => k_is); (case c => k_is); (case k => k_is))
    (case d_are_corners => refine' DL.defK_mk ?a ?l ?c ?k; (case a => k_is); (case l => k_is); (case c => k_is); (case k => k_is))
    (case d_is_leg => refine' DL.defK_mk ?a ?l ?c ?k; (case a => k_is); (case l => k_is); (case c => k_is); (case k => k_is))
    (case d_are_legs => refine' DL.defK_mk ?a ?l ?c ?k; (case a => k_is); (case l => k_is); (case c => k_is); (case k => k_is))
    (case d_sure_corners => refine' DL.defK_mk ?a ?l ?c ?k; (case a => k_is); (case l => k_is); (case c => k_is); (case k => k_is))
    (case d_factorial => refine' DL.defK_mk ?a ?l ?c ?k; (case a => k_is); (case l => k_is); (case c => k_is); (case k => k_is))
    (case d_partner_of => refine' DL.defK_mk ?a ?l ?c ?k; (case a => k_is); (case l => k_is); (case c => k_is); (case k => k_is))
    (case d_ends_there => refine' DL.defK_mk ?a ?l ?c ?k; (case a => k_is); (case l => k_is); (case c => k_is); (case k => k_is))
    (case d_ways_to_pair => refine' DL.defK_mk ?a ?l ?c ?k; (case a => k_is); (case l => k_is); (case c => k_is); (case k => k_is))
    (case d_count => refine' DL.defK_mk ?a ?l ?c ?k; (case a => k_is); (case l => k_is); (case c => k_is); (case k => k_is))
    (case d_next_pairs => refine' DL.defK_mk ?a ?l ?c ?k; (case a => k_is); (case l => k_is); (case c => k_is); (case k => k_is))
    (case d_pairings => refine' DL.defK_mk ?a ?l ?c ?k; (case a => k_is); (case l => k_is); (case c => k_is); (case k => k_is))
    (case d__law_state => refine' DL.defK_mk ?a ?l ?c ?k; (case a => k_is); (case l => k_is); (case c => k_is); (case k => k_is))
    (case d__law_pick => refine' DL.defK_mk ?a ?l ?c ?k; (case a => k_is); (case l => k_is); (case c => k_is); (case k => k_is))
    (case d__law_words => refine' DL.defK_mk ?a ?l ?c ?k; (case a => k_is); (case l => k_is); (case c => k_is); (case k => k_is))
    (case d__law_stock_rows => refine' DL.defK_mk ?a ?l ?c ?k; (case a => k_is); (case l => k_is); (case c => k_is); (case k => k_is))
    (case d__law_there => refine' DL.defK_mk ?a ?l ?c ?k; (case a => k_is); (case l => k_is); (case c => k_is); (case k => k_is))
    (case d__law_wanted => refine' DL.defK_mk ?a ?l ?c ?k; (case a => k_is); (case l => k_is); (case c => k_is); (case k => k_is))
    (case d__law_grounds => refine' DL.defK_mk ?a ?l ?c ?k; (case a => k_is); (case l => k_is); (case c => k_is); (case k => k_is))
    (case d__law_all_pairings => refine' DL.defK_mk ?a ?l ?c ?k; (case a => k_is); (case l => k_is); (case c => k_is); (case k => k_is))
    (case d__law_right => refine' DL.defK_mk ?a ?l ?c ?k; (case a => k_is); (case l => k_is); (case c => k_is); (case k => k_is))
    (case d_law => refine' DL.defK_mk ?a ?l ?c ?k; (case a => k_is); (case l => k_is); (case c => k_is); (case k => k_is))
    (case hm => exact GA.law_ok)
