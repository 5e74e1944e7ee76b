import PyProof.Rows.All
import Wide.All
import OpenK.AllK
import Wide.FinOn
import HandS.ForMost
import HandS.ForExc
import KE.KeyNested
import HandS.IsInst
import HandS.TupAny
import HandS.Style
import HandS.Deep
import HandS.Wide
import HandS.SortInts
import KE.SortData
import KE.DataFind
import KE.DataCmp
import KE.DataMinMax
import HandS.Set
import HandS.SetFor
import HandS.SetKeys
import HandS.Strs
import HandS.ExcValue
import HandS.Iter
import HandS.NoneIn
import KE.GoesEnum
import KE.GoesMore
import PyProof.ZipIter
import KE.KItemsList
import KE.KDictItemsList
import HandS.Conv
import HandS.OwnEq
import HandS.Codes
import PyProof.Draws
import PyProof.InstNe
import HandS.Zip
import KE.KSortTupAny
import HandS.WordsExc
import HandS.ExcIs
import HandS.TupMul
import KE.KIndexOf
import HandS.ExcInit
import HandS.ExcField
import KE.KExcIs
import KE.KExcInit
import KE.KExcLine
import HandS.CallLocal
import PySem.Challenge.RW_endsum_k01_stocks_made
set_option Elab.async false
set_option linter.all false
set_option maxRecDepth 100000
set_option maxHeartbeats 400000
/-! DLa: plain data D, how it stands in a heap (Rep), what a def's slots hold (Sl, StOk), and the judgements Ev, Eo, Et, Ea, Es: a reading of the hand layer computes what a plain function of the slots' data computes. -/
namespace DL
open PySem L2

abbrev Fg := PySem.W.Frag
def LB : Nat := 1000000
theorem LB_size {n : Nat} (h : n ≤ LB) : n ≤ sizeLine := Nat.le_trans h (by decide)
theorem LB_lt {n : Nat} (h : n ≤ LB) : n < sizeLine := Nat.lt_of_le_of_lt h (by decide)

inductive D where
  | non
  | bl (b : Bool)
  | int (i : Int)
  | str (x : Str)
  | tup (xs : List D)
  | lst (xs : List D)
  | ins (C : Addr) (ns : List Str) (ds : List D)
  | dk (ks : List Key) (ds : List D)
  | dn (hs : List Int) (ks ds : List D)
  | fn (f : Addr)

/-! keys of any depth -/
mutual
def keyN : D → Option NestedKey
  | .non => some .none
  | .int i => some (.num i)
  | .str x => some (.text x)
  | .tup ds => match keysN ds with
    | some ks => some (.tup ks)
    | none => none
  | .bl _ => none
  | .lst _ => none
  | .ins _ _ _ => none
  | .dk _ _ => none
  | .dn _ _ _ => none
  | .fn _ => none
def keysN : List D → Option (List NestedKey)
  | [] => some []
  | d :: ds => match keyN d, keysN ds with
    | some k, some ks => some (k :: ks)
    | _, _ => none
end
/-- a tuple as a key -/
def keyT (d : D) : Option NestedKey := match keyN d with
  | some (.tup ks) => if NestedKey.depthAll ks ≤ 7 then some (.tup ks) else none
  | _ => none
def keysT : List D → Option (List NestedKey)
  | [] => some []
  | d :: ds => match keyT d, keysT ds with
    | some k, some ks => some (k :: ks)
    | _, _ => none
/-- the rows of a dict: hashes, keys (tuples), values -/
def ents : List Int → List Addr → List Value → List DictEntry
  | i :: hs, b :: bs, x :: xs => ⟨i, .ref b, x⟩ :: ents hs bs xs
  | _, _, _ => []
def dnP (a : Addr) (o : Obj) (hs : List Int) (bs : List Addr) (vs : List V) (h : Heap) : Prop :=
  h.get? a = some o ∧ (a == sysModules) = false ∧ o.ExactDict ∧ ∃ (es : Array DictEntry) (ep : Nat) (xs : List Value), o.data = .dict es ep ∧ Vals vs xs ∧ es.toList = ents hs bs xs
/-- a dict whose keys are tuples (the object itself is known: it may be walked) -/
def dnO (a : Addr) (o : Obj) (hs : List Int) (bs : List Addr) (vs : List V) : HO := .ext (dnP a o hs bs vs)

/-- a tuple: its object is known (it has no dict of its own) -/
def TupR (K : Fg) (F : Hp) (a : Addr) (vs : List V) : Prop := (∃ o : Obj, o.dict = none ∧ F a = some (.frz o (.tup vs))) ∨
  ∃ (o : Obj) (its : Array Value) (n : Nat), K.lookup a = some o ∧ o.dict = none ∧ o.cls = .type "tuple" ∧ o.data = .seq its n ∧ its.size ≤ sizeLine ∧ Vals vs its.toList
theorem TupR.sq {K : Fg} {F : Hp} {a : Addr} {vs : List V} (h : TupR K F a vs) : SqT K F a vs := by
  rcases h with ⟨o, _, h⟩ | ⟨o, its, n, h1, _, h2, h3, h4, h5⟩
  · exact Or.inl (Or.inr ⟨o, h⟩)
  · exact Or.inr ⟨o, its, n, h1, h2, h3, h4, h5⟩
theorem TupR.mono {K : Fg} {F F' : Hp} (e : Same F F') {a : Addr} {vs : List V} (h : TupR K F a vs) : TupR K F' a vs := by
  rcases h with ⟨o, h1, h⟩ | h
  · exact Or.inl ⟨o, h1, e _ _ h⟩
  · exact Or.inr h
mutual
def Rep (K : Fg) (F : Hp) : D → V → Prop
  | .non, v => v = .non
  | .bl b, v => v = .bl b
  | .int i, v => v = .int i
  | .str x, v => v = .str x
  | .tup ds, v => ∃ a vs, v = .ref a ∧ TupR K F a vs ∧ ds.length ≤ LB ∧ Reps K F ds vs
  | .lst ds, v => ∃ a vs, v = .ref a ∧ F a = some (.lst vs) ∧ ds.length ≤ LB ∧ Reps K F ds vs
  | .ins C ns ds, v => ∃ a dx vs, v = .ref a ∧ F a = some (.ins C dx (ns.zip vs)) ∧ ns.length = ds.length ∧ Reps K F ds vs
  | .dk ks ds, v => ∃ a vs, v = .ref a ∧ Rd F a (.dK (ks.zip vs)) ∧ ks.length = ds.length ∧ ds.length ≤ LB ∧ Reps K F ds vs
  | .dn hs ks ds, v => ∃ a o bs vs nks, v = .ref a ∧ F a = some (dnO a o hs bs vs) ∧ keysT ks = some nks ∧ nks.Nodup ∧ hs.length = ks.length ∧ ks.length = ds.length ∧ ds.length ≤ LB ∧ Reps K F ks (bs.map V.ref) ∧ Reps K F ds vs
  | .fn f, v => v = .ref f
def Reps (K : Fg) (F : Hp) : List D → List V → Prop
  | [], vs => vs = []
  | d :: ds, vs => ∃ v us, vs = v :: us ∧ Rep K F d v ∧ Reps K F ds us
end

theorem same_rd {F F' : Hp} (e : Same F F') {a : Addr} {u : HO} (h : Rd F a u) : Rd F' a u := by
  rcases h with h | ⟨o, h⟩
  · exact Or.inl (e _ _ h)
  · exact Or.inr ⟨o, e _ _ h⟩
theorem same_t {K : Fg} {F F' : Hp} (e : Same F F') {a : Addr} {xs : List V} (h : SqT K F a xs) : SqT K F' a xs := by
  rcases h with h | h
  · exact Or.inl (same_rd e h)
  · exact Or.inr h

mutual
theorem Rep.mono {K : Fg} {F F' : Hp} (e : Same F F') : ∀ {d : D} {v : V}, Rep K F d v → Rep K F' d v
  | .non, v, h => by simpa only [Rep] using h
  | .bl b, v, h => by simpa only [Rep] using h
  | .int i, v, h => by simpa only [Rep] using h
  | .str x, v, h => by simpa only [Rep] using h
  | .tup ds, v, h => by
    simp only [Rep] at h ⊢
    obtain ⟨a, vs, h1, h2, h3, h4⟩ := h
    exact ⟨a, vs, h1, h2.mono e, h3, Reps.mono e h4⟩
  | .lst ds, v, h => by
    simp only [Rep] at h ⊢
    obtain ⟨a, vs, h1, h2, h3, h4⟩ := h
    exact ⟨a, vs, h1, e _ _ h2, h3, Reps.mono e h4⟩
  | .ins C ns ds, v, h => by
    simp only [Rep] at h ⊢
    obtain ⟨a, dx, vs, h1, h2, h3, h4⟩ := h
    exact ⟨a, dx, vs, h1, e _ _ h2, h3, Reps.mono e h4⟩
  | .dk ks ds, v, h => by
    simp only [Rep] at h ⊢
    obtain ⟨a, vs, h1, h2, h3, h4, h5⟩ := h
    exact ⟨a, vs, h1, same_rd e h2, h3, h4, Reps.mono e h5⟩
  | .dn hs ks ds, v, h => by
    simp only [Rep] at h ⊢
    obtain ⟨a, o, bs, vs, nks, h1, h2, h3, h4, h5, h6, h7, h8, h9⟩ := h
    exact ⟨a, o, bs, vs, nks, h1, e _ _ h2, h3, h4, h5, h6, h7, Reps.mono e h8, Reps.mono e h9⟩
  | .fn f, v, h => by simpa only [Rep] using h
theorem Reps.mono {K : Fg} {F F' : Hp} (e : Same F F') : ∀ {ds : List D} {vs : List V}, Reps K F ds vs → Reps K F' ds vs
  | [], vs, h => by simpa only [Reps] using h
  | d :: ds, vs, h => by
    simp only [Reps] at h ⊢
    obtain ⟨v, us, h1, h2, h3⟩ := h
    exact ⟨v, us, h1, Rep.mono e h2, Reps.mono e h3⟩
end

theorem reps_nil {K : Fg} {F : Hp} : Reps K F [] [] := by simp only [Reps]
theorem reps_cons {K : Fg} {F : Hp} {d : D} {ds : List D} {v : V} {vs : List V} (h : Rep K F d v) (t : Reps K F ds vs) : Reps K F (d :: ds) (v :: vs) := by
  simp only [Reps]
  exact ⟨v, vs, rfl, h, t⟩
theorem Reps.inv {K : Fg} {F : Hp} {d : D} {ds : List D} {vs : List V} (h : Reps K F (d :: ds) vs) : ∃ v us, vs = v :: us ∧ Rep K F d v ∧ Reps K F ds us := by simpa only [Reps] using h
theorem Reps.inv0 {K : Fg} {F : Hp} {vs : List V} (h : Reps K F [] vs) : vs = [] := by simpa only [Reps] using h
theorem Reps.len {K : Fg} {F : Hp} : ∀ {ds : List D} {vs : List V}, Reps K F ds vs → vs.length = ds.length
  | [], vs, h => by rw [h.inv0] <;> rfl
  | d :: ds, vs, h => by
    obtain ⟨v, us, rfl, _, h3⟩ := h.inv
    simp [Reps.len h3]
theorem Reps.app {K : Fg} {F : Hp} : ∀ {ds es : List D} {vs us : List V}, Reps K F ds vs → Reps K F es us → Reps K F (ds ++ es) (vs ++ us)
  | [], es, vs, us, h, g => by rw [h.inv0]; exact g
  | d :: ds, es, vs, us, h, g => by
    obtain ⟨v, ws, rfl, h2, h3⟩ := h.inv
    exact reps_cons h2 (Reps.app h3 g)
theorem Reps.get {K : Fg} {F : Hp} : ∀ {ds : List D} {vs : List V} {i : Nat} {d : D}, Reps K F ds vs → ds[i]? = some d → ∃ v, vs[i]? = some v ∧ Rep K F d v
  | [], vs, i, d, h, e => by simp at e
  | x :: ds, vs, 0, d, h, e => by
    obtain ⟨v, us, rfl, h2, h3⟩ := h.inv
    have e' : x = d := by simpa using e
    subst e'
    exact ⟨v, rfl, h2⟩
  | x :: ds, vs, i + 1, d, h, e => by
    obtain ⟨v, us, rfl, h2, h3⟩ := h.inv
    obtain ⟨u, h4, h5⟩ := Reps.get (i := i) h3 (by simpa using e)
    exact ⟨u, by simpa using h4, h5⟩
theorem Reps.take {K : Fg} {F : Hp} : ∀ {ds : List D} {vs : List V} (n : Nat), Reps K F ds vs → Reps K F (ds.take n) (vs.take n)
  | [], vs, n, h => by rw [h.inv0]; simp [Reps]
  | x :: ds, vs, 0, h => by simp [Reps]
  | x :: ds, vs, n + 1, h => by
    obtain ⟨u, us, rfl, h2, h3⟩ := h.inv
    exact reps_cons h2 (Reps.take n h3)
theorem Reps.drop {K : Fg} {F : Hp} : ∀ {ds : List D} {vs : List V} (n : Nat), Reps K F ds vs → Reps K F (ds.drop n) (vs.drop n)
  | [], vs, n, h => by rw [h.inv0]; simp [Reps]
  | x :: ds, vs, 0, h => h
  | x :: ds, vs, n + 1, h => by
    obtain ⟨u, us, rfl, h2, h3⟩ := h.inv
    exact Reps.drop n h3
theorem Reps.set {K : Fg} {F : Hp} {d : D} {v : V} (g : Rep K F d v) : ∀ {ds : List D} {vs : List V} (i : Nat), Reps K F ds vs → Reps K F (ds.set i d) (vs.set i v)
  | [], vs, i, h => by rw [h.inv0]; simp [Reps]
  | x :: ds, vs, 0, h => by
    obtain ⟨u, us, rfl, h2, h3⟩ := h.inv
    exact reps_cons g h3
  | x :: ds, vs, i + 1, h => by
    obtain ⟨u, us, rfl, h2, h3⟩ := h.inv
    exact reps_cons h2 (Reps.set g i h3)
theorem Reps.rev {K : Fg} {F : Hp} : ∀ {ds : List D} {vs : List V}, Reps K F ds vs → Reps K F ds.reverse vs.reverse
  | [], vs, h => by rw [h.inv0]; simp [Reps]
  | x :: ds, vs, h => by
    obtain ⟨u, us, rfl, h2, h3⟩ := h.inv
    rw [List.reverse_cons, List.reverse_cons]
    exact Reps.app (Reps.rev h3) (reps_cons h2 reps_nil)
theorem Reps.erase {K : Fg} {F : Hp} : ∀ {ds : List D} {vs : List V} (i : Nat), Reps K F ds vs → Reps K F (ds.eraseIdx i) (vs.eraseIdx i)
  | [], vs, i, h => by rw [h.inv0]; simp [Reps]
  | x :: ds, vs, 0, h => by
    obtain ⟨u, us, rfl, h2, h3⟩ := h.inv
    exact h3
  | x :: ds, vs, i + 1, h => by
    obtain ⟨u, us, rfl, h2, h3⟩ := h.inv
    exact reps_cons h2 (Reps.erase i h3)

/-! ### inversions -/
section
variable {K : Fg} {F : Hp} {v : V}
theorem Rep.non_iff : Rep K F .non v ↔ v = .non := by simp only [Rep]
theorem Rep.bl_iff {b : Bool} : Rep K F (.bl b) v ↔ v = .bl b := by simp only [Rep]
theorem Rep.int_iff {i : Int} : Rep K F (.int i) v ↔ v = .int i := by simp only [Rep]
theorem Rep.fn_iff {f : Addr} : Rep K F (.fn f) v ↔ v = .ref f := by simp only [Rep]
theorem Rep.str_iff {x : Str} : Rep K F (.str x) v ↔ v = .str x := by simp only [Rep]
theorem Rep.tup_iff {ds : List D} : Rep K F (.tup ds) v ↔ ∃ a vs, v = .ref a ∧ TupR K F a vs ∧ ds.length ≤ LB ∧ Reps K F ds vs := by simp only [Rep]
theorem Rep.lst_iff {ds : List D} : Rep K F (.lst ds) v ↔ ∃ a vs, v = .ref a ∧ F a = some (.lst vs) ∧ ds.length ≤ LB ∧ Reps K F ds vs := by simp only [Rep]
theorem Rep.ins_iff {C : Addr} {ns : List Str} {ds : List D} : Rep K F (.ins C ns ds) v ↔ ∃ a dx vs, v = .ref a ∧ F a = some (.ins C dx (ns.zip vs)) ∧ ns.length = ds.length ∧ Reps K F ds vs := by simp only [Rep]
theorem Rep.dk_iff {ks : List Key} {ds : List D} : Rep K F (.dk ks ds) v ↔ ∃ a vs, v = .ref a ∧ Rd F a (.dK (ks.zip vs)) ∧ ks.length = ds.length ∧ ds.length ≤ LB ∧ Reps K F ds vs := by simp only [Rep]
theorem Rep.dn_iff {hs : List Int} {ks ds : List D} : Rep K F (.dn hs ks ds) v ↔ ∃ a o bs vs nks, v = .ref a ∧ F a = some (dnO a o hs bs vs) ∧ keysT ks = some nks ∧ nks.Nodup ∧ hs.length = ks.length ∧ ks.length = ds.length ∧ ds.length ≤ LB ∧ Reps K F ks (bs.map V.ref) ∧ Reps K F ds vs := by simp only [Rep]
end

/-- a tuple on the way to its parts: nothing but its parts is known -/
def RepW (K : Fg) (F : Hp) (d : D) (v : V) : Prop := match d with
  | .tup ds => ∃ a vs, v = .ref a ∧ SqT K F a vs ∧ Reps K F ds vs
  | d => Rep K F d v
theorem Rep.weak {K : Fg} {F : Hp} {d : D} {v : V} (h : Rep K F d v) : RepW K F d v := by
  cases d with
  | tup ds =>
    obtain ⟨a, vs, h1, h2, h3, h4⟩ := Rep.tup_iff.mp h
    exact ⟨a, vs, h1, h2.sq, h4⟩
  | _ => exact h
def Rq (K : Fg) : Bool → Hp → D → V → Prop
  | true => RepW K
  | false => Rep K
theorem Rq.tup {K : Fg} {F : Hp} {ds : List D} {v : V} : ∀ {b : Bool}, Rq K b F (.tup ds) v → ∃ a vs, v = .ref a ∧ SqT K F a vs ∧ Reps K F ds vs
  | true, h => h
  | false, h => Rep.weak h
/-- an object of one's own at a in H, its parts in F -/
def RepO (K : Fg) (F H : Hp) (a : Addr) : D → Prop
  | .lst ds => ∃ vs, H a = some (.lst vs) ∧ ds.length ≤ LB ∧ Reps K F ds vs
  | .ins C ns ds => ∃ dx vs, H a = some (.ins C dx (ns.zip vs)) ∧ ns.length = ds.length ∧ Reps K F ds vs
  | .dk ks ds => ∃ vs, H a = some (.dK (ks.zip vs)) ∧ ks.length = ds.length ∧ ds.length ≤ LB ∧ Reps K F ds vs
  | .dn hs ks ds => ∃ o bs vs nks, H a = some (dnO a o hs bs vs) ∧ keysT ks = some nks ∧ nks.Nodup ∧ hs.length = ks.length ∧ ks.length = ds.length ∧ ds.length ≤ LB ∧ Reps K F ks (bs.map V.ref) ∧ Reps K F ds vs
  | _ => False
theorem RepO.there {K : Fg} {F H : Hp} {a : Addr} {d : D} (h : RepO K F H a d) : ∃ o, H a = some o := by
  cases d with
  | lst ds => obtain ⟨vs, h, _⟩ := h; exact ⟨_, h⟩
  | ins C ns ds => obtain ⟨dx, vs, h, _⟩ := h; exact ⟨_, h⟩
  | dk ks ds => obtain ⟨vs, h, _⟩ := h; exact ⟨_, h⟩
  | dn hs ks ds => obtain ⟨o, bs, vs, nks, h, _⟩ := h; exact ⟨_, h⟩
  | _ => exact h.elim
theorem RepO.mono {K : Fg} {F F' H H' : Hp} {a : Addr} {d : D} (h : RepO K F H a d) (e : Same F F') (k : ∀ o, H a = some o → H' a = some o) : RepO K F' H' a d := by
  cases d with
  | lst ds => obtain ⟨vs, h1, h2, h3⟩ := h; exact ⟨vs, k _ h1, h2, Reps.mono e h3⟩
  | ins C ns ds => obtain ⟨dx, vs, h1, h2, h3⟩ := h; exact ⟨dx, vs, k _ h1, h2, Reps.mono e h3⟩
  | dk ks ds => obtain ⟨vs, h1, h2, h3, h4⟩ := h; exact ⟨vs, k _ h1, h2, h3, Reps.mono e h4⟩
  | dn hs ks ds => obtain ⟨o, bs, vs, nks, h1, h2, h3, h4, h5, h6, h7, h8⟩ := h; exact ⟨o, bs, vs, nks, k _ h1, h2, h3, h4, h5, h6, Reps.mono e h7, Reps.mono e h8⟩
  | _ => exact h.elim
/-- readable: frozen data, or an object of one's own -/
def RepR (K : Fg) (F H : Hp) (v : V) (d : D) : Prop := Rep K F d v ∨ ∃ a, v = .ref a ∧ RepO K F H a d
theorem RepR.mono {K : Fg} {F F' H H' : Hp} {v : V} {d : D} (h : RepR K F H v d) (e : Same F F') (k : Same H H') : RepR K F' H' v d := by
  rcases h with h | ⟨a, rfl, h⟩
  · exact Or.inl (h.mono e)
  · exact Or.inr ⟨a, rfl, h.mono e fun o q => k _ _ q⟩
/-- an own object is frozen -/
theorem RepO.freeze {K : Fg} {F H : Hp} {a : Addr} {d : D} (h : RepO K F H a d) (hn : F a = none) : ∃ o, H a = some o ∧ Rep K (upd F a o) d (.ref a) := by
  have e : ∀ o, Same F (upd F a o) := fun o b u q => by rw [upd_ne (ne_of_none q hn)]; exact q
  cases d with
  | lst ds =>
    obtain ⟨vs, h1, h2, h3⟩ := h
    exact ⟨_, h1, Rep.lst_iff.mpr ⟨a, vs, rfl, upd_same, h2, Reps.mono (e _) h3⟩⟩
  | ins C ns ds =>
    obtain ⟨dx, vs, h1, h2, h3⟩ := h
    exact ⟨_, h1, Rep.ins_iff.mpr ⟨a, dx, vs, rfl, upd_same, h2, Reps.mono (e _) h3⟩⟩
  | dk ks ds =>
    obtain ⟨vs, h1, h2, h3, h4⟩ := h
    exact ⟨_, h1, Rep.dk_iff.mpr ⟨a, vs, rfl, Or.inl upd_same, h2, h3, Reps.mono (e _) h4⟩⟩
  | dn hs ks ds =>
    obtain ⟨o, bs, vs, nks, h1, h2, h3, h4, h5, h6, h7, h8⟩ := h
    exact ⟨_, h1, Rep.dn_iff.mpr ⟨a, o, bs, vs, nks, rfl, upd_same, h2, h3, h4, h5, h6, Reps.mono (e _) h7, Reps.mono (e _) h8⟩⟩
  | _ => exact h.elim

/-! ### slots -/
/-- un: nothing known; fr: frozen data; bo: borrowed (another's object, read alone); ow: an object of this def's own; io: an object that the caller handed in to be changed; sc: the script; b2: a list of borrowed objects -/
inductive Sl where
  | un | fr (d : D) | bo (d : D) | ow (d : D) | io (d : D) | sc (ns : List Int) | b2 (ds : List D)
abbrev En := List Sl
/-- what is told of an error: its class, its own attributes -/
structure Xn where
  C : Addr
  ns : List Str
  ds : List D
  tg : Nat := 0
/-- the wish that tells which error a suite holds -/
def WA (a : Addr) : WX := fun cls _ _ _ => cls = Value.ref a
/-- the same of an error with a field -/
def WF (a dd : Addr) (fld : Str) (y : V) : WX := fun cls d σ H => cls = Value.ref a ∧ d = some dd ∧ σ = [] ∧ H = fun _ => some (.xd [(fld, y)])

structure Cn where
  K : Fg
  P : Hp
  B : Hp
  F0 : Hp
  bt : Nat → Addr
  W : WX
  Q : Hp := fun _ => none

def Sl.own : Sl → Option D
  | .ow d => some d
  | .io d => some d
  | _ => none
def Sl.dat : Sl → Option D
  | .fr d => some d
  | .bo d => some d
  | .ow d => some d
  | .io d => some d
  | _ => none

/-- the parts of a list of borrowed objects -/
def Parts (K : Fg) (P F : Hp) (vs : List V) (ds : List D) : Prop := Paired (fun v d => ∃ b, v = V.ref b ∧ RepO K F P b d) vs ds
theorem Parts.mono {K : Fg} {P P' F F' : Hp} {vs : List V} {ds : List D} (h : Parts K P F vs ds) (p : Same P P') (e : Same F F') : Parts K P' F' vs ds :=
  Paired.mapP h fun _ _ ⟨b, h1, h2⟩ => ⟨b, h1, h2.mono e fun o q => p _ _ q⟩
structure StOk (C : Cn) (α : Nat → Addr) (F H : Hp) (σ : St) (δ : En) : Prop where
  fh : Same F H
  ph : Same C.P H
  bp : Same C.B C.P
  f0 : Same C.F0 F
  fp : ∀ a o, F a = some o → C.F0 a = some o ∨ C.P a = none
  len : σ.length = δ.length
  fr : ∀ (i : Nat) (d : D), δ[i]? = some (Sl.fr d) → ∃ v, σ[i]? = some (some v) ∧ Rep C.K F d v
  bo : ∀ (i : Nat) (d : D), δ[i]? = some (Sl.bo d) → ∃ v, σ[i]? = some (some v) ∧ RepR C.K F C.B v d
  ow : ∀ (i : Nat) (s : Sl) (d : D), δ[i]? = some s → s.own = some d → σ[i]? = some (some (V.ref (α i))) ∧ F (α i) = none ∧ C.P (α i) = none ∧ RepO C.K F H (α i) d
  io : ∀ (i : Nat) (d : D), δ[i]? = some (Sl.io d) → α i = C.bt i
  inj : ∀ (i j : Nat) (s t : Sl) (d e : D), δ[i]? = some s → δ[j]? = some t → s.own = some d → t.own = some e → α i = α j → i = j
  sc : ∀ (i : Nat) (ns : List Int), δ[i]? = some (Sl.sc ns) → ∃ a, σ[i]? = some (some (V.ref a)) ∧ (ns.length ≤ 1000000 ∧ SqL C.K C.B a (ns.map V.int) ∨ 1000000 < ns.length ∧ (C.W = WA a ∨ ∃ dd fld y, C.W = WF a dd fld y ∧ C.Q dd = some (.xd [(fld, y)])))
  b2 : ∀ (i : Nat) (ds : List D), δ[i]? = some (Sl.b2 ds) → ∃ vs, σ[i]? = some (some (V.ref (C.bt i))) ∧ F (C.bt i) = some (.lst vs) ∧ Parts C.K C.Q F vs ds
  qp : Same C.Q C.P

/-- only new things are laid, and frozen -/
structure New (F H F' H' : Hp) : Prop where
  ff : Same F F'
  fh : Same F' H'
  hh : Same H H'
  nw : ∀ a o, F' a = some o → F a = some o ∨ H a = none
theorem New.refl {F H : Hp} (h : Same F H) : New F H F H := ⟨Same.refl _, h, Same.refl _, fun _ _ q => Or.inl q⟩
theorem New.trans {F H F1 H1 F2 H2 : Hp} (a : New F H F1 H1) (b : New F1 H1 F2 H2) : New F H F2 H2 :=
  ⟨a.ff.trans b.ff, b.fh, a.hh.trans b.hh, fun x o q => by
    rcases b.nw x o q with q | q
    · exact a.nw x o q
    · exact Or.inr (a.hh.free q)⟩
theorem same_upd {H : Hp} {p : Addr} {o : HO} (h : H p = none) : Same H (upd H p o) := fun a u e => by
  rw [upd_ne (ne_of_none e h)]
  exact e
/-- one new object, frozen at once -/
theorem New.lay {F H : Hp} {p : Addr} {o : HO} (fh : Same F H) (h : H p = none) : New F H (upd F p o) (upd H p o) :=
  ⟨same_upd (fh.free h), fun a u e => by
    by_cases q : a = p
    · subst q
      rw [upd_same] at e ⊢
      exact e
    · rw [upd_ne q] at e ⊢
      exact fh a u e, same_upd h, fun a u e => by
    by_cases q : a = p
    · subst q
      exact Or.inr h
    · rw [upd_ne q] at e
      exact Or.inl e⟩
/-- one new object, not frozen -/
theorem New.put {F H : Hp} {p : Addr} {o : HO} (fh : Same F H) (h : H p = none) : New F H F (upd H p o) :=
  ⟨Same.refl _, fh.trans (same_upd h), same_upd h, fun _ _ q => Or.inl q⟩

section
variable {C : Cn} {α : Nat → Addr} {F H F' H' : Hp} {σ : St} {δ : En}
theorem StOk.new (S : StOk C α F H σ δ) (n : New F H F' H') : StOk C α F' H' σ δ where
  fh := n.fh
  ph := S.ph.trans n.hh
  bp := S.bp
  f0 := S.f0.trans n.ff
  fp := fun a o q => by
    rcases n.nw a o q with q | q
    · exact S.fp a o q
    · exact Or.inr (S.ph.free q)
  len := S.len
  fr := fun i d q => let ⟨v, h1, h2⟩ := S.fr i d q; ⟨v, h1, h2.mono n.ff⟩
  bo := fun i d q => let ⟨v, h1, h2⟩ := S.bo i d q; ⟨v, h1, h2.mono n.ff (Same.refl _)⟩
  ow := fun i s d q r => by
    obtain ⟨h1, h2, h3, h4⟩ := S.ow i s d q r
    refine ⟨h1, ?_, h3, h4.mono n.ff fun o q => n.hh _ _ q⟩
    cases e : F' (α i) with
    | none => rfl
    | some o =>
      rcases n.nw _ _ e with z | z
      · rw [h2] at z; cases z
      · obtain ⟨u, hu⟩ := h4.there
        rw [hu] at z; cases z
  io := S.io
  inj := S.inj
  sc := S.sc
  b2 := fun i ds q => by
    obtain ⟨vs, h1, h2, h3⟩ := S.b2 i ds q
    exact ⟨vs, h1, n.ff _ _ h2, h3.mono (Same.refl _) n.ff⟩
  qp := S.qp
theorem StOk.look (S : StOk C α F H σ δ) {i : Nat} {s : Sl} {d : D} (h : δ[i]? = some s) (hd : s.dat = some d) : ∃ v, σ[i]? = some (some v) ∧ RepR C.K F H v d := by
  cases s with
  | un => cases hd
  | fr e =>
    cases hd
    obtain ⟨v, h1, h2⟩ := S.fr i d h
    exact ⟨v, h1, Or.inl h2⟩
  | bo e =>
    cases hd
    obtain ⟨v, h1, h2⟩ := S.bo i d h
    exact ⟨v, h1, h2.mono (Same.refl _) (S.bp.trans S.ph)⟩
  | ow e =>
    cases hd
    obtain ⟨h1, h2, h3, h4⟩ := S.ow i _ d h rfl
    exact ⟨_, h1, Or.inr ⟨_, rfl, h4⟩⟩
  | io e =>
    cases hd
    obtain ⟨h1, h2, h3, h4⟩ := S.ow i _ d h rfl
    exact ⟨_, h1, Or.inr ⟨_, rfl, h4⟩⟩
  | sc ns => cases hd
  | b2 ds => cases hd
/-- a slot is stored: frozen data -/
theorem StOk.set (S : StOk C α F H σ δ) {i : Nat} {d : D} {v : V} (h : Rep C.K F d v) : StOk C α F H (σ.set i (some v)) (δ.set i (.fr d)) := by
  have key : ∀ (j : Nat) (s : Sl), (δ.set i (Sl.fr d))[j]? = some s → (j = i ∧ s = Sl.fr d ∧ i < δ.length) ∨ (j ≠ i ∧ δ[j]? = some s) := fun j s e => by
    by_cases q : j = i
    · subst q
      by_cases l : j < δ.length
      · rw [List.getElem?_set_self l] at e
        exact Or.inl ⟨rfl, (Option.some.inj e).symm, l⟩
      · rw [List.getElem?_eq_none (by rw [List.length_set]; omega)] at e
        cases e
    · rw [List.getElem?_set_ne (Ne.symm q)] at e
      exact Or.inr ⟨q, e⟩
  have sg : ∀ (j : Nat), j ≠ i → (σ.set i (some v))[j]? = σ[j]? := fun j q => List.getElem?_set_ne (Ne.symm q)
  refine ⟨S.fh, S.ph, S.bp, S.f0, S.fp, by rw [List.length_set, List.length_set]; exact S.len, fun j e q => ?_, fun j e q => ?_, fun j s e q r => ?_, fun j e q => ?_, fun j k s t e f q1 q2 r1 r2 => ?_, fun j ns q => ?_, fun j ds q => ?_, S.qp⟩
  · rcases key j _ q with ⟨rfl, z, l⟩ | ⟨n, q⟩
    · cases z
      exact ⟨v, by rw [List.getElem?_set_self (by rw [S.len]; exact l)], h⟩
    · rw [sg j n]
      exact S.fr j e q
  · rcases key j _ q with ⟨rfl, z, l⟩ | ⟨n, q⟩
    · cases z
    · rw [sg j n]
      exact S.bo j e q
  · rcases key j _ q with ⟨rfl, z, l⟩ | ⟨n, q⟩
    · subst z
      cases r
    · rw [sg j n]
      exact S.ow j s e q r
  · rcases key j _ q with ⟨rfl, z, l⟩ | ⟨n, q⟩
    · cases z
    · exact S.io j e q
  · rcases key j _ q1 with ⟨rfl, z, l⟩ | ⟨n, q1⟩
    · subst z
      cases r1
    · rcases key k _ q2 with ⟨rfl, z, l⟩ | ⟨n, q2⟩
      · subst z
        cases r2
      · exact S.inj j k s t e f q1 q2 r1 r2
  · rcases key j _ q with ⟨rfl, z, l⟩ | ⟨n, q⟩
    · cases z
    · rw [sg j n]
      exact S.sc j ns q
  · rcases key j _ q with ⟨rfl, z, l⟩ | ⟨n, q⟩
    · cases z
    · rw [sg j n]
      exact S.b2 j ds q
/-- a slot is stored: an own object, new at p -/
theorem StOk.setO (S : StOk C α F H σ δ) {i : Nat} {d : D} {p : Addr} (h : RepO C.K F H p d) (hF : F p = none) (hP : C.P p = none) (hne : ∀ (j : Nat) (s : Sl) (e : D), δ[j]? = some s → s.own = some e → j ≠ i → α j ≠ p) :
    StOk C (fun j => if j = i then p else α j) F H (σ.set i (some (.ref p))) (δ.set i (.ow d)) := by
  have key : ∀ (j : Nat) (s : Sl), (δ.set i (Sl.ow d))[j]? = some s → (j = i ∧ s = Sl.ow d ∧ i < δ.length) ∨ (j ≠ i ∧ δ[j]? = some s) := fun j s e => by
    by_cases q : j = i
    · subst q
      by_cases l : j < δ.length
      · rw [List.getElem?_set_self l] at e
        exact Or.inl ⟨rfl, (Option.some.inj e).symm, l⟩
      · rw [List.getElem?_eq_none (by rw [List.length_set]; omega)] at e
        cases e
    · rw [List.getElem?_set_ne (Ne.symm q)] at e
      exact Or.inr ⟨q, e⟩
  have sg : ∀ (j : Nat), j ≠ i → (σ.set i (some (V.ref p)))[j]? = σ[j]? := fun j q => List.getElem?_set_ne (Ne.symm q)
  refine ⟨S.fh, S.ph, S.bp, S.f0, S.fp, by rw [List.length_set, List.length_set]; exact S.len, fun j e q => ?_, fun j e q => ?_, fun j s e q r => ?_, fun j e q => ?_, fun j k s t e f q1 q2 r1 r2 r3 => ?_, fun j ns q => ?_, fun j ds q => ?_, S.qp⟩
  · rcases key j _ q with ⟨rfl, z, l⟩ | ⟨n, q⟩
    · cases z
    · rw [sg j n]
      exact S.fr j e q
  · rcases key j _ q with ⟨rfl, z, l⟩ | ⟨n, q⟩
    · cases z
    · rw [sg j n]
      exact S.bo j e q
  · rcases key j _ q with ⟨rfl, z, l⟩ | ⟨n, q⟩
    · subst z
      cases r
      rw [if_pos rfl]
      exact ⟨by rw [List.getElem?_set_self (by rw [S.len]; exact l)], hF, hP, h⟩
    · rw [sg j n, if_neg n]
      exact S.ow j s e q r
  · rcases key j _ q with ⟨rfl, z, l⟩ | ⟨n, q⟩
    · cases z
    · rw [if_neg n]
      exact S.io j e q
  · rcases key j _ q1 with ⟨ej, z, l⟩ | ⟨n, p1⟩
    · rcases key k _ q2 with ⟨ek, z2, l2⟩ | ⟨n2, p2⟩
      · rw [ej, ek]
      · rw [if_pos ej, if_neg n2] at r3
        exact absurd r3.symm (hne k t f p2 r2 n2)
    · rcases key k _ q2 with ⟨ek, z2, l2⟩ | ⟨n2, p2⟩
      · rw [if_neg n, if_pos ek] at r3
        exact absurd r3 (hne j s e p1 r1 n)
      · rw [if_neg n, if_neg n2] at r3
        exact S.inj j k s t e f p1 p2 r1 r2 r3
  · rcases key j _ q with ⟨rfl, z, l⟩ | ⟨n, q⟩
    · cases z
    · rw [sg j n]
      exact S.sc j ns q
  · rcases key j _ q with ⟨rfl, z, l⟩ | ⟨n, q⟩
    · cases z
    · rw [sg j n]
      exact S.b2 j ds q
/-- an object that is neither frozen, nor kept, nor another slot's own is changed -/
theorem StOk.poke (S : StOk C α F H σ δ) {p : Addr} {o : HO} (hF : F p = none) (hP : C.P p = none) (hne : ∀ (j : Nat) (s : Sl) (e : D), δ[j]? = some s → s.own = some e → α j ≠ p) : StOk C α F (upd H p o) σ δ where
  fh := fun a u q => by rw [upd_ne (ne_of_none q hF)]; exact S.fh a u q
  ph := fun a u q => by rw [upd_ne (ne_of_none q hP)]; exact S.ph a u q
  bp := S.bp
  f0 := S.f0
  fp := S.fp
  len := S.len
  fr := S.fr
  bo := S.bo
  ow := fun j s e q r => by
    obtain ⟨h1, h2, h3, h4⟩ := S.ow j s e q r
    refine ⟨h1, h2, h3, h4.mono (Same.refl _) fun u z => ?_⟩
    rw [upd_ne (hne j s e q r)]
    exact z
  io := S.io
  inj := S.inj
  sc := S.sc
  b2 := S.b2
  qp := S.qp
/-- an own object is changed -/
theorem StOk.poke1 (S : StOk C α F H σ δ) {i : Nat} {s t : Sl} {d e : D} {o : HO} (hi : δ[i]? = some s) (hs : s.own = some d) (ht : t.own = some e) (hk : ∀ z, t = .io z → ∃ y, s = .io y) (ho : RepO C.K F (upd H (α i) o) (α i) e) : StOk C α F (upd H (α i) o) σ (δ.set i t) := by
  obtain ⟨h1, h2, h3, h4⟩ := S.ow i s d hi hs
  have li : i < δ.length := (List.getElem?_eq_some_iff.mp hi).1
  have key : ∀ (j : Nat) (u : Sl), (δ.set i t)[j]? = some u → (j = i ∧ u = t) ∨ (j ≠ i ∧ δ[j]? = some u) := fun j u e => by
    by_cases q : j = i
    · subst q
      rw [List.getElem?_set_self li] at e
      exact Or.inl ⟨rfl, (Option.some.inj e).symm⟩
    · rw [List.getElem?_set_ne (Ne.symm q)] at e
      exact Or.inr ⟨q, e⟩
  have tf : ∀ d, t ≠ .fr d := fun d z => by rw [z] at ht; cases ht
  have tb : ∀ d, t ≠ .bo d := fun d z => by rw [z] at ht; cases ht
  have tc : ∀ d, t ≠ .sc d := fun d z => by rw [z] at ht; cases ht
  have td : ∀ d, t ≠ .b2 d := fun d z => by rw [z] at ht; cases ht
  refine ⟨fun a u q => ?_, fun a u q => ?_, S.bp, S.f0, S.fp, by rw [List.length_set]; exact S.len, fun j e q => ?_, fun j e q => ?_, fun j u e q r => ?_, fun j e q => ?_, fun j k u v e f q1 q2 r1 r2 r3 => ?_, fun j ns q => ?_, fun j ds q => ?_, S.qp⟩
  · rw [upd_ne (ne_of_none q h2)]; exact S.fh a u q
  · rw [upd_ne (ne_of_none q h3)]; exact S.ph a u q
  · rcases key j _ q with ⟨ej, z⟩ | ⟨n, q⟩
    · exact absurd z.symm (tf _)
    · exact S.fr j e q
  · rcases key j _ q with ⟨ej, z⟩ | ⟨n, q⟩
    · exact absurd z.symm (tb _)
    · exact S.bo j e q
  · rcases key j _ q with ⟨ej, z⟩ | ⟨n, q⟩
    · subst z
      rw [ht] at r
      cases r
      rw [ej]
      exact ⟨h1, h2, h3, ho⟩
    · obtain ⟨g1, g2, g3, g4⟩ := S.ow j u e q r
      refine ⟨g1, g2, g3, g4.mono (Same.refl _) fun w z => ?_⟩
      rw [upd_ne fun z => n (S.inj j i u s e d q hi r hs z)]
      exact z
  · rcases key j _ q with ⟨ej, z⟩ | ⟨n, q⟩
    · obtain ⟨y, hy⟩ := hk _ z.symm
      rw [ej]
      exact S.io i y (by rw [hi, hy])
    · exact S.io j e q
  · rcases key j _ q1 with ⟨ej, z⟩ | ⟨n, p1⟩
    · rcases key k _ q2 with ⟨ek, z2⟩ | ⟨n2, p2⟩
      · rw [ej, ek]
      · rw [ej] at r3 ⊢
        exact S.inj i k s v d f hi p2 hs r2 r3
    · rcases key k _ q2 with ⟨ek, z2⟩ | ⟨n2, p2⟩
      · rw [ek] at r3 ⊢
        exact S.inj j i u s e d p1 hi r1 hs r3
      · exact S.inj j k u v e f p1 p2 r1 r2 r3
  · rcases key j _ q with ⟨ej, z⟩ | ⟨n, q⟩
    · exact absurd z.symm (tc _)
    · exact S.sc j ns q
  · rcases key j _ q with ⟨ej, z⟩ | ⟨n, q⟩
    · exact absurd z.symm (td _)
    · exact S.b2 j ds q
/-- slots forgotten -/
def wipeE (δ : En) : List Nat → En
  | [] => δ
  | v :: vs => (wipeE δ vs).set v .un
theorem wipeE_get {δ : En} {i : Nat} {s : Sl} : ∀ {vs : List Nat}, (wipeE δ vs)[i]? = some s → s = .un ∨ (i ∉ vs ∧ δ[i]? = some s)
  | [], h => Or.inr ⟨by simp, h⟩
  | v :: vs, h => by
    unfold wipeE at h
    by_cases q : i = v
    · subst q
      by_cases l : i < (wipeE δ vs).length
      · rw [List.getElem?_set_self l] at h
        exact Or.inl (Option.some.inj h).symm
      · rw [List.getElem?_eq_none (by rw [List.length_set]; omega)] at h
        cases h
    · rw [List.getElem?_set_ne (Ne.symm q)] at h
      rcases wipeE_get h with z | ⟨z1, z2⟩
      · exact Or.inl z
      · exact Or.inr ⟨by simp [q, z1], z2⟩
theorem wipeE_len {δ : En} : ∀ vs : List Nat, (wipeE δ vs).length = δ.length
  | [] => rfl
  | v :: vs => by unfold wipeE; rw [List.length_set, wipeE_len vs]
theorem wipe_get {σ : St} {i : Nat} : ∀ {vs : List Nat}, i ∉ vs → (wipe σ vs)[i]? = σ[i]?
  | [], _ => rfl
  | v :: vs, h => by
    unfold wipe
    rw [List.getElem?_set_ne fun z => h (by simp [z]), wipe_get fun z => h (by simp [z])]
/-- the same slots, but for the forgotten ones -/
theorem StOk.wiped (S : StOk C α F H σ δ) {vs : List Nat} {σ' : St} (hl : σ'.length = σ.length) (hs : ∀ i, i ∉ vs → σ'[i]? = σ[i]?) : StOk C α F H σ' (wipeE δ vs) where
  fh := S.fh
  ph := S.ph
  bp := S.bp
  f0 := S.f0
  fp := S.fp
  len := by rw [hl, wipeE_len]; exact S.len
  fr := fun j e q => by
    rcases wipeE_get q with z | ⟨z1, z2⟩
    · cases z
    · rw [hs j z1]; exact S.fr j e z2
  bo := fun j e q => by
    rcases wipeE_get q with z | ⟨z1, z2⟩
    · cases z
    · rw [hs j z1]; exact S.bo j e z2
  ow := fun j s e q r => by
    rcases wipeE_get q with z | ⟨z1, z2⟩
    · subst z; cases r
    · rw [hs j z1]; exact S.ow j s e z2 r
  io := fun j e q => by
    rcases wipeE_get q with z | ⟨z1, z2⟩
    · cases z
    · exact S.io j e z2
  inj := fun j k s t e f q1 q2 r1 r2 r3 => by
    rcases wipeE_get q1 with z | ⟨z1, z2⟩
    · subst z; cases r1
    · rcases wipeE_get q2 with z | ⟨y1, y2⟩
      · subst z; cases r2
      · exact S.inj j k s t e f z2 y2 r1 r2 r3
  sc := fun j ns q => by
    rcases wipeE_get q with z | ⟨z1, z2⟩
    · cases z
    · rw [hs j z1]; exact S.sc j ns z2
  b2 := fun j ds q => by
    rcases wipeE_get q with z | ⟨z1, z2⟩
    · cases z
    · rw [hs j z1]; exact S.b2 j ds z2
  qp := S.qp
end
end DL

set_option Elab.async false
set_option linter.all false
set_option maxRecDepth 100000
set_option maxHeartbeats 400000
/-! DLb: the judgements. -/
namespace DL
open PySem L2

inductive R (α : Type) where
  | ok (a : α) (δ : En)
  | ex (x : Xn) (δ : En)
abbrev M (α : Type) := En → Option (R α)
def M.ret {α : Type} (a : α) : M α := fun δ => some (.ok a δ)
def M.bind {α β : Type} (m : M α) (f : α → M β) : M β := fun δ => match m δ with
  | none => none
  | some (.ex x δ') => some (.ex x δ')
  | some (.ok a δ') => f a δ'
def M.lift {α : Type} (o : Option α) : M α := fun δ => match o with
  | some a => some (.ok a δ)
  | none => none
theorem M.bind_ok {α β : Type} {m : M α} {f : α → M β} {δ δ' : En} {a : α} (h : m δ = some (.ok a δ')) : M.bind m f δ = f a δ' := by unfold M.bind; rw [h]
theorem M.bind_ex {α β : Type} {m : M α} {f : α → M β} {δ δ' : En} {x : Xn} (h : m δ = some (.ex x δ')) : M.bind m f δ = some (.ex x δ') := by unfold M.bind; rw [h]

def XRep (K : Fg) (F H : Hp) (x : Xn) (cls : Value) (dd : Option Addr) : Prop :=
  cls = .ref x.C ∧ ((x.ns = [] ∧ x.ds = [] ∧ dd = none) ∨ ∃ a vs, dd = some a ∧ H a = some (.xd (x.ns.zip vs)) ∧ x.ns ≠ [] ∧ x.ns.length = x.ds.length ∧ Reps K F x.ds vs ∧ F a = none)

abbrev Rl (β α : Type) := Hp → St → β → α → Prop
abbrev Pr := Hp → St → Prop
def relD (K : Fg) : Rl V D := fun F _ v d => Rep K F d v
def relB : Rl Bool Bool := fun _ _ b c => b = c

/-- t computes what m computes -/
def J {β α : Type} (K : Fg) (W : WX) (pre : Pr) (t : St → Hp → (β → Hp → Prop) → Prop) (rel : Rl β α) (m : M α) : Prop :=
  ∀ (C : Cn), C.K = K → C.W = W → ∀ (al : Nat → Addr) (F H : Hp) (σ : St) (δ : En), StOk C al F H σ δ → pre F σ → ∀ r, m δ = some r → ∀ Q : β → Hp → Prop,
    (∀ a δ', r = .ok a δ' → ∀ al' F' H' b, Same F F' → StOk C al' F' H' σ δ' → rel F' σ b a → Q b H') →
    (∀ x δ', r = .ex x δ' → ∀ al' F' H' cls dd, Same F F' → StOk C al' F' H' σ δ' → XRep K F' H' x cls dd → W cls dd σ H') → t σ H Q
/-- the same of a new object of one's own -/
def Jn (K : Fg) (W : WX) (pre : Pr) (t : TE) (m : M D) : Prop :=
  ∀ (C : Cn), C.K = K → C.W = W → ∀ (al : Nat → Addr) (F H : Hp) (σ : St) (δ : En), StOk C al F H σ δ → pre F σ → ∀ r, m δ = some r → ∀ Q : VK,
    (∀ d δ', r = .ok d δ' → ∀ al' F' H' p, Same F F' → StOk C al' F' H' σ δ' → F' p = none → C.P p = none → (∀ (j : Nat) s e, δ'[j]? = some s → Sl.own s = some e → al' j ≠ p) → RepO K F' H' p d → Q (.ref p) H') →
    (∀ x δ', r = .ex x δ' → ∀ al' F' H' cls dd, Same F F' → StOk C al' F' H' σ δ' → XRep K F' H' x cls dd → W cls dd σ H') → t σ H Q
def tru : Pr := fun _ _ => True
abbrev Ev (K : Fg) (W : WX) (te : TE) (m : M D) : Prop := J K W tru te (relD K) m
abbrev En1 (K : Fg) (W : WX) (te : TE) (m : M D) : Prop := Jn K W tru te m
abbrev Et (K : Fg) (W : WX) (tt : TT) (m : M Bool) : Prop := J K W tru tt relB m

def MonoP (pre : Pr) : Prop := ∀ F F' σ, Same F F' → pre F σ → pre F' σ
def MonoR {β α : Type} (rel : Rl β α) : Prop := ∀ F F' σ b a, Same F F' → rel F σ b a → rel F' σ b a
theorem monoT : MonoP tru := fun _ _ _ _ _ => trivial
theorem monoD {K : Fg} : MonoR (relD K) := fun _ _ _ _ _ e h => Rep.mono e h
theorem MonoP.and {p q : Pr} (a : MonoP p) (b : MonoP q) : MonoP fun F σ => p F σ ∧ q F σ := fun F F' σ e h => ⟨a F F' σ e h.1, b F F' σ e h.2⟩
theorem MonoR.at {β α : Type} {rel : Rl β α} (h : MonoR rel) {b : β} {a : α} : MonoP fun F σ => rel F σ b a := fun F F' σ e q => h F F' σ b a e q

section
variable {K : Fg} {W : WX} {pre : Pr}
theorem J.bind {β γ α ε : Type} {t1 : St → Hp → (β → Hp → Prop) → Prop} {t2 : β → St → Hp → (γ → Hp → Prop) → Prop} {rel1 : Rl β α} {rel2 : Rl γ ε} {m : M α} {f : α → M ε}
    (h1 : J K W pre t1 rel1 m) (mp : MonoP pre) (h2 : ∀ a b, J K W (fun F σ => pre F σ ∧ rel1 F σ b a) (t2 b) rel2 (f a)) : J K W pre (fun σ H Q => t1 σ H fun b H1 => t2 b σ H1 Q) rel2 (m.bind f) := by
  intro C hK hW al F H σ δ S hp r hr Q hok hex
  cases e : m δ with
  | none => unfold M.bind at hr; rw [e] at hr; cases hr
  | some r1 =>
    refine h1 C hK hW al F H σ δ S hp r1 e _ (fun a δ1 e1 al1 F1 H1 b s1 S1 rel => ?_) fun x δ1 e1 al1 F1 H1 cls dd s1 S1 xr => ?_
    · subst e1
      rw [M.bind_ok e] at hr
      exact h2 a b C hK hW al1 F1 H1 σ δ1 S1 ⟨mp _ _ _ s1 hp, rel⟩ r hr Q (fun a2 δ2 e2 al2 F2 H2 b2 s2 S2 rel2 => hok a2 δ2 e2 al2 F2 H2 b2 (s1.trans s2) S2 rel2)
        fun x δ2 e2 al2 F2 H2 cls dd s2 S2 xr => hex x δ2 e2 al2 F2 H2 cls dd (s1.trans s2) S2 xr
    · subst e1
      rw [M.bind_ex e] at hr
      cases hr
      exact hex x δ1 rfl al1 F1 H1 cls dd s1 S1 xr
theorem J.bindN {β α : Type} {t1 : St → Hp → (β → Hp → Prop) → Prop} {t2 : β → TE} {rel1 : Rl β α} {m : M α} {f : α → M D}
    (h1 : J K W pre t1 rel1 m) (mp : MonoP pre) (h2 : ∀ a b, Jn K W (fun F σ => pre F σ ∧ rel1 F σ b a) (t2 b) (f a)) : Jn K W pre (fun σ H Q => t1 σ H fun b H1 => t2 b σ H1 Q) (m.bind f) := by
  intro C hK hW al F H σ δ S hp r hr Q hok hex
  cases e : m δ with
  | none => unfold M.bind at hr; rw [e] at hr; cases hr
  | some r1 =>
    refine h1 C hK hW al F H σ δ S hp r1 e _ (fun a δ1 e1 al1 F1 H1 b s1 S1 rel => ?_) fun x δ1 e1 al1 F1 H1 cls dd s1 S1 xr => ?_
    · subst e1
      rw [M.bind_ok e] at hr
      exact h2 a b C hK hW al1 F1 H1 σ δ1 S1 ⟨mp _ _ _ s1 hp, rel⟩ r hr Q (fun a2 δ2 e2 al2 F2 H2 p s2 S2 a1 a2 a3 a4 => hok _ δ2 e2 al2 F2 H2 p (s1.trans s2) S2 a1 a2 a3 a4)
        fun x δ2 e2 al2 F2 H2 cls dd s2 S2 xr => hex x δ2 e2 al2 F2 H2 cls dd (s1.trans s2) S2 xr
    · subst e1
      rw [M.bind_ex e] at hr
      cases hr
      exact hex x δ1 rfl al1 F1 H1 cls dd s1 S1 xr
theorem J.wk {β α : Type} {t : St → Hp → (β → Hp → Prop) → Prop} {rel : Rl β α} {m : M α} {p q : Pr} (h : J K W p t rel m) (i : ∀ F σ, q F σ → p F σ) : J K W q t rel m :=
  fun C hK hW al F H σ δ S hp => h C hK hW al F H σ δ S (i _ _ hp)
/-- a new object frozen -/
theorem Jn.frz {t : TE} {m : M D} (h : Jn K W pre t m) : J K W pre t (relD K) m := by
  intro C hK hW al F H σ δ S hp r hr Q hok hex
  refine h C hK hW al F H σ δ S hp r hr Q (fun d δ' e al' F' H' p s S' n1 n2 n3 o => ?_) hex
  obtain ⟨u, hu, rp⟩ := o.freeze n1
  have fs : Same F' (upd F' p u) := same_upd n1
  refine hok d δ' e al' (upd F' p u) H' (.ref p) (s.trans fs) ⟨fun a v q => ?_, S'.ph, S'.bp, S'.f0.trans fs, fun a v q => ?_, S'.len, fun i d q => ?_, fun i d q => ?_, fun i s d q r => ?_, S'.io, S'.inj, S'.sc, fun i ds q => ?_, S'.qp⟩ rp
  · by_cases z : a = p
    · subst z
      rw [upd_same] at q
      rw [← q]
      exact hu
    · rw [upd_ne z] at q
      exact S'.fh a v q
  · by_cases z : a = p
    · subst z
      exact Or.inr n2
    · rw [upd_ne z] at q
      exact S'.fp a v q
  · obtain ⟨v, h1, h2⟩ := S'.fr i d q
    exact ⟨v, h1, h2.mono fs⟩
  · obtain ⟨v, h1, h2⟩ := S'.bo i d q
    exact ⟨v, h1, h2.mono fs (Same.refl _)⟩
  · obtain ⟨h1, h2, h3, h4⟩ := S'.ow i s d q r
    refine ⟨h1, ?_, h3, h4.mono fs fun o z => z⟩
    rw [upd_ne (n3 i s d q r)]
    exact h2
  · obtain ⟨vs, h1, h2, h3⟩ := S'.b2 i ds q
    exact ⟨vs, h1, fs _ _ h2, h3.mono (Same.refl _) fs⟩
end

/-! ### names, constants -/
def mVar (i : Nat) : M D := fun δ => match δ[i]? with
  | some (.fr d) => some (.ok d δ)
  | some (.ow d) => some (.ok d (δ.set i (.fr d)))
  | _ => none
def mC (d : D) : M D := M.ret d
section
variable {K : Fg} {W : WX}
/-- an own object is frozen in its slot -/
theorem StOk.frz {C : Cn} {al : Nat → Addr} {F H : Hp} {σ : St} {δ : En} {i : Nat} {d : D} (S : StOk C al F H σ δ) (h : δ[i]? = some (.ow d)) :
    ∃ F', Same F F' ∧ StOk C al F' H σ (δ.set i (.fr d)) ∧ σ[i]? = some (some (.ref (al i))) ∧ Rep C.K F' d (.ref (al i)) := by
  obtain ⟨h1, h2, h3, h4⟩ := S.ow i _ d h rfl
  obtain ⟨u, hu, rp⟩ := h4.freeze h2
  have fs : Same F (upd F (al i) u) := same_upd h2
  have li : i < δ.length := (List.getElem?_eq_some_iff.mp h).1
  have key : ∀ (j : Nat) (s : Sl), (δ.set i (Sl.fr d))[j]? = some s → (j = i ∧ s = Sl.fr d) ∨ (j ≠ i ∧ δ[j]? = some s) := fun j s e => by
    by_cases q : j = i
    · subst q
      rw [List.getElem?_set_self li] at e
      exact Or.inl ⟨rfl, (Option.some.inj e).symm⟩
    · rw [List.getElem?_set_ne (Ne.symm q)] at e
      exact Or.inr ⟨q, e⟩
  refine ⟨_, fs, ⟨fun a v q => ?_, S.ph, S.bp, S.f0.trans fs, fun a v q => ?_, by rw [List.length_set]; exact S.len, fun j e q => ?_, fun j e q => ?_, fun j s e q r => ?_, fun j e q => ?_, fun j k s t e f q1 q2 r1 r2 r3 => ?_, fun j ns q => ?_, fun j ds q => ?_, S.qp⟩, h1, rp⟩
  · by_cases z : a = al i
    · rw [z] at q ⊢
      rw [upd_same] at q
      rw [← q]
      exact hu
    · rw [upd_ne z] at q
      exact S.fh a v q
  · by_cases z : a = al i
    · rw [z]
      exact Or.inr h3
    · rw [upd_ne z] at q
      exact S.fp a v q
  · rcases key j _ q with ⟨ej, z⟩ | ⟨n, q⟩
    · cases z
      rw [ej]
      exact ⟨_, h1, rp⟩
    · obtain ⟨v, g1, g2⟩ := S.fr j e q
      exact ⟨v, g1, g2.mono fs⟩
  · rcases key j _ q with ⟨ej, z⟩ | ⟨n, q⟩
    · cases z
    · obtain ⟨v, g1, g2⟩ := S.bo j e q
      exact ⟨v, g1, g2.mono fs (Same.refl _)⟩
  · rcases key j _ q with ⟨ej, z⟩ | ⟨n, q⟩
    · subst z
      cases r
    · obtain ⟨g1, g2, g3, g4⟩ := S.ow j s e q r
      refine ⟨g1, ?_, g3, g4.mono fs fun o z => z⟩
      rw [upd_ne fun z => n (S.inj j i s _ e d q h r rfl z)]
      exact g2
  · rcases key j _ q with ⟨ej, z⟩ | ⟨n, q⟩
    · cases z
    · exact S.io j e q
  · rcases key j _ q1 with ⟨ej, z⟩ | ⟨n, p1⟩
    · subst z
      cases r1
    · rcases key k _ q2 with ⟨ek, z⟩ | ⟨n2, p2⟩
      · subst z
        cases r2
      · exact S.inj j k s t e f p1 p2 r1 r2 r3
  · rcases key j _ q with ⟨ej, z⟩ | ⟨n, q⟩
    · cases z
    · exact S.sc j ns q
  · rcases key j _ q with ⟨ej, z⟩ | ⟨n, q⟩
    · cases z
    · obtain ⟨vs, g1, g2, g3⟩ := S.b2 j ds q
      exact ⟨vs, g1, fs _ _ g2, g3.mono (Same.refl _) fs⟩
theorem ev_var {i : Nat} : Ev K W (tVar i) (mVar i) := by
  intro C hK hW al F H σ δ S _ r hr Q hok hex
  subst hK
  unfold mVar at hr
  cases e : δ[i]? with
  | none => rw [e] at hr; cases hr
  | some s =>
    rw [e] at hr
    cases s with
    | fr d =>
      cases hr
      obtain ⟨v, h1, h2⟩ := S.fr i d e
      exact ⟨v, h1, hok d δ rfl al F H v (Same.refl _) S h2⟩
    | ow d =>
      cases hr
      obtain ⟨F', s, S', h1, h2⟩ := S.frz e
      exact ⟨_, h1, hok d _ rfl al F' H _ s S' h2⟩
    | _ => cases hr
theorem ev_c {v : V} {d : D} (h : ∀ F, Rep K F d v) : Ev K W (tC v) (mC d) := by
  intro C hK hW al F H σ δ S _ r hr Q hok hex
  cases hr
  exact hok d δ rfl al F H v (Same.refl _) S (h F)
end

/-! ### operands: a value, or a slot that is looked at when the operation is done -/
inductive Op where
  | val (d : D) | slot (i : Nat) | part (i k : Nat)
def opIx : Op → Option Nat
  | .val _ => none
  | .slot i => some i
  | .part i _ => some i
def rd : Op → En → Option D
  | .val d, _ => some d
  | .slot i, δ => match δ[i]? with
    | some s => s.dat
    | none => none
  | .part i k, δ => match δ[i]? with
    | some (.b2 ds) => ds[k]?
    | _ => none
def relO (K : Fg) : Rl V Op := fun F σ v o => match o with
  | .val d => Rep K F d v
  | .slot i => σ[i]? = some (some v)
  | .part i k => ∃ p vs, σ[i]? = some (some (V.ref p)) ∧ F p = some (.lst vs) ∧ vs[k]? = some v
theorem monoO {K : Fg} : MonoR (relO K) := fun F F' σ v o e h => by
  cases o with
  | val d => exact Rep.mono e h
  | slot i => exact h
  | part i k => obtain ⟨p, vs, h1, h2, h3⟩ := h; exact ⟨p, vs, h1, e _ _ h2, h3⟩
theorem parts_get {K : Fg} {P F : Hp} : ∀ {vs : List V} {ds : List D} {k : Nat} {v : V} {d : D}, Parts K P F vs ds → vs[k]? = some v → ds[k]? = some d → ∃ b, v = V.ref b ∧ RepO K F P b d
  | _, _, k, v, d, .nil, e, _ => by simp at e
  | _, _, 0, v, d, .cons r t, e, g => by simp at e g; subst e; subst g; exact r
  | _, _, k + 1, v, d, .cons r t, e, g => parts_get (k := k) t (by simpa using e) (by simpa using g)
abbrev Eo (K : Fg) (W : WX) (te : TE) (m : M Op) : Prop := J K W tru te (relO K) m
def mVal (m : M D) : M Op := m.bind fun d => M.ret (.val d)
def mRd (o : Op) : M D := fun δ => match rd o δ with
  | some d => some (.ok d δ)
  | none => none
def mOv (i : Nat) : M Op := fun δ => match δ[i]? with
  | some s => match s.dat with
    | some _ => some (.ok (.slot i) δ)
    | none => none
  | none => none

theorem StOk.opd {C : Cn} {al : Nat → Addr} {F H : Hp} {σ : St} {δ : En} (S : StOk C al F H σ δ) {o : Op} {v : V} {d : D} (h : relO C.K F σ v o) (hd : rd o δ = some d) : RepR C.K F H v d := by
  cases o with
  | val e =>
    cases hd
    exact Or.inl h
  | slot i =>
    simp only [rd] at hd
    cases e : δ[i]? with
    | none => rw [e] at hd; cases hd
    | some s =>
      rw [e] at hd
      obtain ⟨u, h1, h2⟩ := S.look e hd
      have h' : σ[i]? = some (some v) := h
      rw [h1] at h'
      cases h'
      exact h2
  | part i k =>
    obtain ⟨p, vs, h1, h2, h3⟩ := h
    simp only [rd] at hd
    cases e : δ[i]? with
    | none => rw [e] at hd; cases hd
    | some s =>
      cases s with
      | b2 ds =>
        rw [e] at hd
        obtain ⟨ws, g1, g2, g3⟩ := S.b2 i ds e
        rw [h1] at g1
        cases g1
        rw [h2] at g2
        cases g2
        obtain ⟨b, rfl, rb⟩ := parts_get g3 h3 hd
        exact Or.inr ⟨b, rfl, rb.mono (Same.refl _) fun o q => S.ph _ _ (S.qp _ _ q)⟩
      | _ => rw [e] at hd; cases hd
section
variable {K : Fg} {W : WX} {ta tb : TE} {pre : Pr}
theorem eo_val {m : M D} (h : Ev K W ta m) : Eo K W ta (mVal m) := by
  have g := J.bind (t2 := fun b _ H Q => Q b H) (rel2 := relO K) (f := fun d => M.ret (.val d)) h monoT fun a b => by
    intro C hK hW al F H σ δ S hp r hr Q hok hex
    cases hr
    exact hok _ δ rfl al F H b (Same.refl _) S hp.2
  exact g
/-- a slot that holds something -/
theorem eo_var {i : Nat} : Eo K W (tVar i) (mOv i) := by
  intro C hK hW al F H σ δ S _ r hr Q hok hex
  unfold mOv at hr
  cases e : δ[i]? with
  | none => simp only [e] at hr; cases hr
  | some s =>
    cases e2 : s.dat with
    | none => simp only [e, e2] at hr; cases hr
    | some d =>
      simp only [e, e2] at hr
      cases hr
      obtain ⟨v, h1, h2⟩ := S.look e e2
      exact ⟨v, h1, hok _ δ rfl al F H v (Same.refl _) S h1⟩
end
/-! ### primitives -/
/-- r of readable data gives data (new things may be laid) -/
def Prim1 (K : Fg) (r : V → Hp → VK → Prop) (f : D → Option D) : Prop := ∀ (F H : Hp) (v : V) (d e : D), Same F H → RepR K F H v d → f d = some e → ∀ Q : VK, (∀ F' H' u, New F H F' H' → Rep K F' e u → Q u H') → r v H Q
def Prim2 (K : Fg) (r : R2) (f : D → D → Option D) : Prop := ∀ (F H : Hp) (v w : V) (d e z : D), Same F H → RepR K F H v d → RepR K F H w e → f d e = some z → ∀ Q : VK, (∀ F' H' u, New F H F' H' → Rep K F' z u → Q u H') → r v w H Q
/-- .. gives a new list -/
def PrimN1 (K : Fg) (r : V → Hp → VK → Prop) (f : D → Option (List D)) : Prop := ∀ (F H : Hp) (v : V) (d : D) (ds : List D), Same F H → RepR K F H v d → f d = some ds → ∀ Q : VK, (∀ p H' vs, H p = none → Same H H' → H' p = some (.lst vs) → ds.length ≤ LB → Reps K F ds vs → Q (.ref p) H') → r v H Q
def PrimN2 (K : Fg) (r : R2) (f : D → D → Option (List D)) : Prop := ∀ (F H : Hp) (v w : V) (d e : D) (ds : List D), Same F H → RepR K F H v d → RepR K F H w e → f d e = some ds → ∀ Q : VK, (∀ p H' vs, H p = none → Same H H' → H' p = some (.lst vs) → ds.length ≤ LB → Reps K F ds vs → Q (.ref p) H') → r v w H Q

def m1 (f : D → Option D) (a : M Op) : M D := a.bind fun o => (mRd o).bind fun d => M.lift (f d)
def m2 (f : D → D → Option D) (a b : M Op) : M D := a.bind fun o => b.bind fun q => (mRd o).bind fun d => (mRd q).bind fun e => M.lift (f d e)
def mn1 (f : D → Option (List D)) (a : M Op) : M D := a.bind fun o => (mRd o).bind fun d => M.lift ((f d).map D.lst)
def mn2 (f : D → D → Option (List D)) (a b : M Op) : M D := a.bind fun o => b.bind fun q => (mRd o).bind fun d => (mRd q).bind fun e => M.lift ((f d e).map D.lst)
theorem rd_bind {β : Type} {o : Op} {δ : En} {f : D → M β} {r : R β} (h : (mRd o).bind f δ = some r) : ∃ d, rd o δ = some d ∧ f d δ = some r := by
  unfold M.bind mRd at h
  cases e : rd o δ with
  | none => simp only [e] at h; cases h
  | some d => simp only [e] at h; exact ⟨d, rfl, h⟩
theorem lift_some {β : Type} {o : Option β} {δ : En} {r : R β} (h : M.lift o δ = some r) : ∃ d, o = some d ∧ r = .ok d δ := by
  unfold M.lift at h
  cases o with
  | none => cases h
  | some d => cases h; exact ⟨d, rfl, rfl⟩
section
variable {K : Fg} {W : WX} {ta tb : TE} {pre : Pr}
theorem ev_1 {r : V → Hp → VK → Prop} {f : D → Option D} {a : M Op} (p : Prim1 K r f) (ha : Eo K W ta a) : Ev K W (fun σ H Q => ta σ H fun x H1 => r x H1 Q) (m1 f a) := by
  refine J.bind (t2 := fun x _ H Q => r x H Q) ha monoT fun o v => ?_
  intro C hK hW al F H σ δ S hp q hr Q hok hex
  subst hK
  obtain ⟨d, h1, hr⟩ := rd_bind hr
  obtain ⟨e, h2, rfl⟩ := lift_some hr
  exact p F H v d e S.fh (S.opd hp.2 h1) h2 Q fun F' H' u n ru => hok e δ rfl al F' H' u n.ff (S.new n) ru
theorem ev_2 {r : R2} {f : D → D → Option D} {a b : M Op} (p : Prim2 K r f) (ha : Eo K W ta a) (hb : Eo K W tb b) : Ev K W (tOp r ta tb) (m2 f a b) := by
  refine J.bind (t2 := fun x σ H Q => tb σ H fun y H2 => r x y H2 Q) ha monoT fun o v => ?_
  refine J.bind (t2 := fun y _ H Q => r v y H Q) (hb.wk fun _ _ _ => trivial) (monoT.and monoO.at) fun q w => ?_
  intro C hK hW al F H σ δ S hp r' hr Q hok hex
  subst hK
  obtain ⟨d, h1, hr⟩ := rd_bind hr
  obtain ⟨e, h2, hr⟩ := rd_bind hr
  obtain ⟨z, h3, rfl⟩ := lift_some hr
  exact p F H v w d e z S.fh (S.opd hp.1.2 h1) (S.opd hp.2 h2) h3 Q fun F' H' u n ru => hok z δ rfl al F' H' u n.ff (S.new n) ru
theorem newO {C : Cn} {al : Nat → Addr} {F H H' : Hp} {σ : St} {δ : En} {p : Addr} {vs : List V} {ds : List D} (S : StOk C al F H σ δ) (hp : H p = none) (hh : Same H H') (ho : H' p = some (.lst vs)) (hl : ds.length ≤ LB) (hr : Reps C.K F ds vs) :
    StOk C al F H' σ δ ∧ F p = none ∧ C.P p = none ∧ (∀ (j : Nat) s e, δ[j]? = some s → Sl.own s = some e → al j ≠ p) ∧ RepO C.K F H' p (.lst ds) := by
  refine ⟨S.new ⟨Same.refl _, S.fh.trans hh, hh, fun _ _ q => Or.inl q⟩, S.fh.free hp, S.ph.free hp, fun j s e q r z => ?_, vs, ho, hl, hr⟩
  obtain ⟨_, _, _, h4⟩ := S.ow j s e q r
  obtain ⟨u, hu⟩ := h4.there
  rw [z, hp] at hu
  cases hu
theorem en_1 {r : V → Hp → VK → Prop} {f : D → Option (List D)} {a : M Op} (p : PrimN1 K r f) (ha : Eo K W ta a) : En1 K W (fun σ H Q => ta σ H fun x H1 => r x H1 Q) (mn1 f a) := by
  refine J.bindN (t2 := fun x _ H Q => r x H Q) ha monoT fun o v => ?_
  intro C hK hW al F H σ δ S hp q hr Q hok hex
  subst hK
  obtain ⟨d, h1, hr⟩ := rd_bind hr
  obtain ⟨e, h2, rfl⟩ := lift_some hr
  cases h3 : f d with
  | none => rw [h3] at h2; cases h2
  | some ds =>
    rw [h3] at h2
    cases h2
    refine p F H v d ds S.fh (S.opd hp.2 h1) h3 Q fun x H' vs hx hh ho hl hr => ?_
    obtain ⟨g1, g2, g3, g4, g5⟩ := newO S hx hh ho hl hr
    exact hok _ δ rfl al F H' x (Same.refl _) g1 g2 g3 g4 g5
theorem en_2 {r : R2} {f : D → D → Option (List D)} {a b : M Op} (p : PrimN2 K r f) (ha : Eo K W ta a) (hb : Eo K W tb b) : En1 K W (tOp r ta tb) (mn2 f a b) := by
  refine J.bindN (t2 := fun x σ H Q => tb σ H fun y H2 => r x y H2 Q) ha monoT fun o v => ?_
  refine J.bindN (t2 := fun y _ H Q => r v y H Q) (hb.wk fun _ _ _ => trivial) (monoT.and monoO.at) fun q w => ?_
  intro C hK hW al F H σ δ S hp r' hr Q hok hex
  subst hK
  obtain ⟨d, h1, hr⟩ := rd_bind hr
  obtain ⟨e, h2, hr⟩ := rd_bind hr
  obtain ⟨z, h3, rfl⟩ := lift_some hr
  cases h4 : f d e with
  | none => rw [h4] at h3; cases h3
  | some ds =>
    rw [h4] at h3
    cases h3
    refine p F H v w d e ds S.fh (S.opd hp.1.2 h1) (S.opd hp.2 h2) h4 Q fun x H' vs hx hh ho hl hr => ?_
    obtain ⟨g1, g2, g3, g4, g5⟩ := newO S hx hh ho hl hr
    exact hok _ δ rfl al F H' x (Same.refl _) g1 g2 g3 g4 g5
end

/-! ### arguments -/
def relA (K : Fg) : Rl (List V) (List Op) := fun F σ vs os => Paired (fun v o => relO K F σ v o) vs os
abbrev Ea (K : Fg) (W : WX) (ta : TA) (m : M (List Op)) : Prop := J K W tru ta (relA K) m
def maNil : M (List Op) := M.ret []
def maCons (a : M Op) (b : M (List Op)) : M (List Op) := a.bind fun o => b.bind fun os => M.ret (o :: os)
section
variable {K : Fg} {W : WX}
theorem ea_nil : Ea K W tNil maNil := by
  intro C hK hW al F H σ δ S hp r hr Q hok hex
  cases hr
  exact hok [] δ rfl al F H [] (Same.refl _) S .nil
theorem ea_cons {te : TE} {tr : TA} {a : M Op} {b : M (List Op)} (ha : Eo K W te a) (hb : Ea K W tr b) : Ea K W (tCons te tr) (maCons a b) := by
  refine J.bind (t2 := fun x σ H Q => tr σ H fun xs H2 => Q (x :: xs) H2) ha monoT fun o v => ?_
  refine J.bind (t2 := fun xs _ H Q => Q (v :: xs) H) (hb.wk fun _ _ _ => trivial) (monoT.and monoO.at) fun q w => ?_
  intro C hK hW al F H σ δ S hp r' hr Q hok hex
  cases hr
  exact hok _ δ rfl al F H _ (Same.refl _) S (.cons hp.1.2 hp.2)
/-- what arguments hold -/
def rds : List Op → En → Option (List D)
  | [], _ => some []
  | o :: os, δ => match rd o δ, rds os δ with
    | some d, some ds => some (d :: ds)
    | _, _ => none
theorem StOk.opds {C : Cn} {al : Nat → Addr} {F H : Hp} {σ : St} {δ : En} (S : StOk C al F H σ δ) : ∀ {os : List Op} {vs : List V} {ds : List D}, relA C.K F σ vs os → rds os δ = some ds → Paired (fun v d => RepR C.K F H v d) vs ds
  | [], _, ds, h, e => by
    cases h
    cases e
    exact .nil
  | o :: os, _, ds, h, e => by
    cases h with
    | cons r t =>
      unfold rds at e
      cases e1 : rd o δ with
      | none => rw [e1] at e; cases e
      | some d =>
        cases e2 : rds os δ with
        | none => rw [e1, e2] at e; cases e
        | some ds' =>
          rw [e1, e2] at e
          cases e
          exact .cons (S.opd r e1) (S.opds t e2)
def mRds (os : List Op) : M (List D) := fun δ => match rds os δ with
  | some ds => some (.ok ds δ)
  | none => none
theorem rds_bind {β : Type} {os : List Op} {δ : En} {f : List D → M β} {r : R β} (h : (mRds os).bind f δ = some r) : ∃ ds, rds os δ = some ds ∧ f ds δ = some r := by
  unfold M.bind mRds at h
  cases e : rds os δ with
  | none => simp only [e] at h; cases h
  | some d => simp only [e] at h; exact ⟨d, rfl, h⟩
def PrimA (K : Fg) (r : List V → Hp → VK → Prop) (f : List D → Option D) : Prop := ∀ (F H : Hp) (vs : List V) (ds : List D) (e : D), Same F H → Paired (fun v d => RepR K F H v d) vs ds → f ds = some e → ∀ Q : VK, (∀ F' H' u, New F H F' H' → Rep K F' e u → Q u H') → r vs H Q
def PrimNA (K : Fg) (r : List V → Hp → VK → Prop) (f : List D → Option (List D)) : Prop := ∀ (F H : Hp) (vs : List V) (ds es : List D), Same F H → Paired (fun v d => RepR K F H v d) vs ds → f ds = some es → ∀ Q : VK, (∀ p H' us, H p = none → Same H H' → H' p = some (.lst us) → es.length ≤ LB → Reps K F es us → Q (.ref p) H') → r vs H Q
def mA (f : List D → Option D) (a : M (List Op)) : M D := a.bind fun os => (mRds os).bind fun ds => M.lift (f ds)
def mnA (f : List D → Option (List D)) (a : M (List Op)) : M D := a.bind fun os => (mRds os).bind fun ds => M.lift ((f ds).map D.lst)
theorem ev_A {ta : TA} {r : List V → Hp → VK → Prop} {f : List D → Option D} {a : M (List Op)} (p : PrimA K r f) (ha : Ea K W ta a) : Ev K W (tCB r ta) (mA f a) := by
  refine J.bind (t2 := fun x _ H Q => r x H Q) ha monoT fun o v => ?_
  intro C hK hW al F H σ δ S hp q hr Q hok hex
  subst hK
  obtain ⟨d, h1, hr⟩ := rds_bind hr
  obtain ⟨e, h2, rfl⟩ := lift_some hr
  exact p F H v d e S.fh (S.opds hp.2 h1) h2 Q fun F' H' u n ru => hok e δ rfl al F' H' u n.ff (S.new n) ru
theorem en_A {ta : TA} {r : List V → Hp → VK → Prop} {f : List D → Option (List D)} {a : M (List Op)} (p : PrimNA K r f) (ha : Ea K W ta a) : En1 K W (tCB r ta) (mnA f a) := by
  refine J.bindN (t2 := fun x _ H Q => r x H Q) ha monoT fun o v => ?_
  intro C hK hW al F H σ δ S hp q hr Q hok hex
  subst hK
  obtain ⟨d, h1, hr⟩ := rds_bind hr
  obtain ⟨e, h2, rfl⟩ := lift_some hr
  cases h3 : f d with
  | none => rw [h3] at h2; cases h2
  | some ds =>
    rw [h3] at h2
    cases h2
    refine p F H v d ds S.fh (S.opds hp.2 h1) h3 Q fun x H' vs hx hh ho hl hr => ?_
    obtain ⟨g1, g2, g3, g4, g5⟩ := newO S hx hh ho hl hr
    exact hok _ δ rfl al F H' x (Same.refl _) g1 g2 g3 g4 g5
end

/-! ### displays: frozen values -/
def relS (K : Fg) : Rl (List V) (List D) := fun F _ vs ds => Reps K F ds vs
abbrev Eds (K : Fg) (W : WX) (ta : TA) (m : M (List D)) : Prop := J K W tru ta (relS K) m
def mdNil : M (List D) := M.ret []
def mdCons (a : M D) (b : M (List D)) : M (List D) := a.bind fun d => b.bind fun ds => M.ret (d :: ds)
def mTup (a : M (List D)) : M D := a.bind fun ds => M.lift (if ds.length ≤ LB then some (.tup ds) else none)
def mLst (a : M (List D)) : M D := a.bind fun ds => M.lift (if ds.length ≤ LB then some (.lst ds) else none)
section
variable {K : Fg} {W : WX}
theorem ed_nil : Eds K W tNil mdNil := by
  intro C hK hW al F H σ δ S hp r hr Q hok hex
  cases hr
  exact hok [] δ rfl al F H [] (Same.refl _) S reps_nil
theorem ed_cons {te : TE} {tr : TA} {a : M D} {b : M (List D)} (ha : Ev K W te a) (hb : Eds K W tr b) : Eds K W (tCons te tr) (mdCons a b) := by
  refine J.bind (t2 := fun x σ H Q => tr σ H fun xs H2 => Q (x :: xs) H2) ha monoT fun o v => ?_
  refine J.bind (t2 := fun xs _ H Q => Q (v :: xs) H) (hb.wk fun _ _ _ => trivial) (monoT.and monoD.at) fun q w => ?_
  intro C hK hW al F H σ δ S hp r' hr Q hok hex
  cases hr
  exact hok _ δ rfl al F H _ (Same.refl _) S (reps_cons hp.1.2 hp.2)
theorem if_some {β : Type} {c : Prop} [Decidable c] {x y : β} (h : (if c then some x else none) = some y) : c ∧ x = y := by
  by_cases q : c
  · rw [if_pos q] at h
    exact ⟨q, Option.some.inj h⟩
  · rw [if_neg q] at h
    cases h
/-- a display of a tuple: its object is known -/
def tTupZ (t : TA) : TE := fun σ H Q => t σ H fun xs H1 => xs.length ≤ sizeLine ∧ ∀ p o, H1 p = none → o.dict = none → Q (V.ref p) (upd H1 p (.frz o (.tup xs)))
theorem pe_tupZ {X : Cx} {es : List Expr} {t : TA} {pos : Pos} {x1} (h : PA X es t) : PE X (.Tuple es x1 pos) (tTupZ t) := by
  refine ⟨fun pins s σ H Q I hq => ?_⟩
  refine wpAny_Tuple_spliced (thn (h.run pos pins s σ H _ I hq) fun us s1 ⟨xs, H1, I1, r, z, q⟩ => ⟨by rw [← r.length]; exact z, ?_⟩)
  have hf : H1 s1.heap.objs.size = none := I1.hok.fresh (Nat.le_refl _)
  refine ⟨.ref s1.heap.objs.size, upd H1 s1.heap.objs.size (.frz { cls := .type "tuple", data := .seq us.toArray } (.tup xs)), I1.laid (t' := s1.toks) (fun b u e => Heap.get?_push_of_some _ e) (Nat.le_refl _) ?_, rfl, q _ _ hf rfl⟩
  exact ⟨Heap.get?_push_size _ rfl, z, us, r, ⟨_, Heap.get?_push_size _ rfl, rfl, _, rfl⟩⟩
/-- a new tuple -/
theorem newT {K : Fg} {F H : Hp} {p : Addr} {o : Obj} {ds : List D} {vs : List V} (fh : Same F H) (hn : H p = none) (ho : o.dict = none) (hl : ds.length ≤ LB) (hs : Reps K F ds vs) : New F H (upd F p (.frz o (.tup vs))) (upd H p (.frz o (.tup vs))) ∧ Rep K (upd F p (.frz o (.tup vs))) (.tup ds) (.ref p) := by
  have n : New F H (upd F p (.frz o (.tup vs))) (upd H p (.frz o (.tup vs))) := New.lay fh hn
  exact ⟨n, Rep.tup_iff.mpr ⟨p, vs, rfl, Or.inl ⟨o, ho, upd_same⟩, hl, hs.mono n.ff⟩⟩
theorem ev_tup {ta : TA} {a : M (List D)} (ha : Eds K W ta a) : Ev K W (tTupZ ta) (mTup a) := by
  refine J.bind (t2 := fun (xs : List V) (_ : St) (H : Hp) (Q : VK) => xs.length ≤ sizeLine ∧ ∀ p o, H p = none → o.dict = none → Q (V.ref p) (upd H p (.frz o (.tup xs)))) ha monoT fun ds vs => ?_
  intro C hK hW al F H σ δ S hp r hr Q hok hex
  obtain ⟨e, h2, rfl⟩ := lift_some hr
  obtain ⟨hl, rfl⟩ := if_some h2
  have hs : Reps K F ds vs := hp.2
  refine ⟨by rw [hs.len]; exact LB_size hl, fun p o hn ho => ?_⟩
  obtain ⟨n, hr⟩ := newT S.fh hn ho hl hs
  exact hok _ δ rfl al _ _ _ n.ff (S.new n) hr
theorem en_lst {ta : TA} {a : M (List D)} (ha : Eds K W ta a) : En1 K W (tLst ta) (mLst a) := by
  refine J.bindN (t2 := fun (xs : List V) (_ : St) (H : Hp) (Q : VK) => xs.length ≤ sizeLine ∧ ∀ p, H p = none → Q (V.ref p) (upd H p (.lst xs))) ha monoT fun ds vs => ?_
  intro C hK hW al F H σ δ S hp r hr Q hok hex
  subst hK
  obtain ⟨e, h2, rfl⟩ := lift_some hr
  obtain ⟨hl, rfl⟩ := if_some h2
  have hs : Reps C.K F ds vs := hp.2
  refine ⟨by rw [hs.len]; exact LB_size hl, fun p hn => ?_⟩
  obtain ⟨g1, g2, g3, g4, g5⟩ := newO S hn (same_upd hn) upd_same hl hs
  exact hok _ δ rfl al F _ p (Same.refl _) g1 g2 g3 g4 g5
end
end DL

set_option Elab.async false
set_option linter.all false
set_option maxRecDepth 100000
set_option maxHeartbeats 400000
/-! DLc: statements, loops, comprehensions. -/
namespace DL
open PySem L2

inductive Ou where
  | nx (δ : En) | rt (d : D) (δ : En) | rn (d : D) (δ : En) | bk (δ : En) | ct (δ : En) | ex (x : Xn) (δ : En)
def EndOk (C : Cn) (F : Hp) (Z : Ends) : Ou → Prop
  | .nx δ' => ∀ al' F' H' σ', Same F F' → StOk C al' F' H' σ' δ' → Z.nx σ' H'
  | .rt d δ' => ∀ al' F' H' σ' v, Same F F' → StOk C al' F' H' σ' δ' → Rep C.K F' d v → Z.rt v H'
  | .rn d δ' => ∀ al' F' H' σ' p, Same F F' → StOk C al' F' H' σ' δ' → F' p = none → C.P p = none → RepO C.K F' H' p d → Z.rt (.ref p) H'
  | .bk δ' => ∀ al' F' H' σ', Same F F' → StOk C al' F' H' σ' δ' → Z.bk σ' H'
  | .ct δ' => ∀ al' F' H' σ', Same F F' → StOk C al' F' H' σ' δ' → Z.ct σ' H'
  | .ex x δ' => ∀ al' F' H' σ' cls dd, Same F F' → StOk C al' F' H' σ' δ' → XRep C.K F' H' x cls dd → C.W cls dd σ' H'
theorem EndOk.mono {C : Cn} {F F1 : Hp} {Z : Ends} {o : Ou} (e : Same F F1) (h : EndOk C F Z o) : EndOk C F1 Z o := by
  cases o with
  | nx δ' => exact fun al' F' H' σ' s => h al' F' H' σ' (e.trans s)
  | rt d δ' => exact fun al' F' H' σ' v s => h al' F' H' σ' v (e.trans s)
  | rn d δ' => exact fun al' F' H' σ' p s => h al' F' H' σ' p (e.trans s)
  | bk δ' => exact fun al' F' H' σ' s => h al' F' H' σ' (e.trans s)
  | ct δ' => exact fun al' F' H' σ' s => h al' F' H' σ' (e.trans s)
  | ex x δ' => exact fun al' F' H' σ' cls dd s => h al' F' H' σ' cls dd (e.trans s)
abbrev Ms := En → Option Ou
def Es (K : Fg) (W : WX) (ts : TS) (m : Ms) : Prop :=
  ∀ (C : Cn), C.K = K → C.W = W → ∀ (al : Nat → Addr) (F H : Hp) (σ : St) (δ : En), StOk C al F H σ δ → ∀ o, m δ = some o → ∀ Z : Ends, EndOk C F Z o → ts Z σ H
/-- an expression, then something -/
def mS {α : Type} (m : M α) (k : α → Ms) : Ms := fun δ => match m δ with
  | none => none
  | some (.ex x δ') => some (.ex x δ')
  | some (.ok a δ') => k a δ'
section
variable {K : Fg} {W : WX}
theorem es_of {β α : Type} {t1 : St → Hp → (β → Hp → Prop) → Prop} {rel : Rl β α} {u : β → TS} {m : M α} {k : α → Ms} (h : J K W tru t1 rel m)
    (hk : ∀ a b, ∀ (C : Cn), C.K = K → C.W = W → ∀ (al : Nat → Addr) (F H : Hp) (σ : St) (δ : En), StOk C al F H σ δ → rel F σ b a → ∀ o, k a δ = some o → ∀ Z : Ends, EndOk C F Z o → u b Z σ H) :
    Es K W (fun Z σ H => t1 σ H fun b H1 => u b Z σ H1) (mS m k) := by
  intro C hK hW al F H σ δ S o ho Z hZ
  cases e : m δ with
  | none => unfold mS at ho; rw [e] at ho; cases ho
  | some r =>
    refine h C hK hW al F H σ δ S trivial r e _ (fun a δ1 e1 al1 F1 H1 b s1 S1 rl => ?_) fun x δ1 e1 al1 F1 H1 cls dd s1 S1 xr => ?_
    · subst e1
      have ho' : k a δ1 = some o := by unfold mS at ho; rw [e] at ho; exact ho
      exact hk a b C hK hW al1 F1 H1 σ δ1 S1 rl o ho' Z (hZ.mono s1)
    · subst e1
      unfold mS at ho
      rw [e] at ho
      cases ho
      subst hK
      rw [← hW]
      exact hZ al1 F1 H1 σ cls dd s1 S1 xr
theorem es_ofN {t1 : TE} {u : V → TS} {m : M D} {k : D → Ms} (h : En1 K W t1 m)
    (hk : ∀ d p, ∀ (C : Cn), C.K = K → C.W = W → ∀ (al : Nat → Addr) (F H : Hp) (σ : St) (δ : En), StOk C al F H σ δ → F p = none → C.P p = none → (∀ (j : Nat) s e, δ[j]? = some s → Sl.own s = some e → al j ≠ p) → RepO K F H p d → ∀ o, k d δ = some o → ∀ Z : Ends, EndOk C F Z o → u (.ref p) Z σ H) :
    Es K W (fun Z σ H => t1 σ H fun b H1 => u b Z σ H1) (mS m k) := by
  intro C hK hW al F H σ δ S o ho Z hZ
  cases e : m δ with
  | none => unfold mS at ho; rw [e] at ho; cases ho
  | some r =>
    refine h C hK hW al F H σ δ S trivial r e _ (fun a δ1 e1 al1 F1 H1 p s1 S1 n1 n2 n3 n4 => ?_) fun x δ1 e1 al1 F1 H1 cls dd s1 S1 xr => ?_
    · subst e1
      have ho' : k a δ1 = some o := by unfold mS at ho; rw [e] at ho; exact ho
      exact hk a p C hK hW al1 F1 H1 σ δ1 S1 n1 n2 n3 n4 o ho' Z (hZ.mono s1)
    · subst e1
      unfold mS at ho
      rw [e] at ho
      cases ho
      subst hK
      rw [← hW]
      exact hZ al1 F1 H1 σ cls dd s1 S1 xr

/-! ### blocks -/
def mNext : Ms := fun δ => some (.nx δ)
def mSeq (a b : Ms) : Ms := fun δ => match a δ with
  | some (.nx δ') => b δ'
  | r => r
theorem es_next : Es K W tNext mNext := fun C hK hW al F H σ δ S o ho Z hZ => by
  cases ho
  exact hZ al F H σ (Same.refl _) S
theorem es_seq {t u : TS} {a b : Ms} (ha : Es K W t a) (hb : Es K W u b) : Es K W (tSeq t u) (mSeq a b) := by
  intro C hK hW al F H σ δ S o ho Z hZ
  cases e : a δ with
  | none => unfold mSeq at ho; rw [e] at ho; cases ho
  | some r =>
    refine ha C hK hW al F H σ δ S r e { Z with nx := u Z } ?_
    unfold mSeq at ho
    rw [e] at ho
    cases r with
    | nx δ1 => exact fun al1 F1 H1 σ1 s1 S1 => hb C hK hW al1 F1 H1 σ1 δ1 S1 o ho Z (hZ.mono s1)
    | rt d δ1 => cases ho; exact hZ
    | rn d δ1 => cases ho; exact hZ
    | bk δ1 => cases ho; exact hZ
    | ct δ1 => cases ho; exact hZ
    | ex x δ1 => cases ho; exact hZ
def mNever : Ms := fun _ => none
theorem es_never : Es K W tNever mNever := fun C hK hW al F H σ δ S o ho Z hZ => by cases ho
def mIf (c : M Bool) (a b : Ms) : Ms := mS c fun k => if k then a else b
theorem es_if {tc : TT} {t u : TS} {c : M Bool} {a b : Ms} (hc : Et K W tc c) (ha : Es K W t a) (hb : Es K W u b) : Es K W (tIfS tc t u) (mIf c a b) := by
  refine es_of (u := fun (b : Bool) Z σ H => if b = true then t Z σ H else u Z σ H) hc fun k b C hK hW al F H σ δ S rl o ho Z hZ => ?_
  have e : b = k := rl
  subst e
  cases b with
  | true => exact ha C hK hW al F H σ δ S o ho Z hZ
  | false => exact hb C hK hW al F H σ δ S o ho Z hZ
def mRet (m : M D) : Ms := mS m fun d δ => some (.rt d δ)
theorem es_ret {te : TE} {m : M D} (h : Ev K W te m) : Es K W (tRet te) (mRet m) := by
  refine es_of (u := fun (v : V) Z σ H => Z.rt v H) h fun d v C hK hW al F H σ δ S rl o ho Z hZ => ?_
  cases ho
  subst hK
  exact hZ al F H σ v (Same.refl _) S rl
/-- a new object of one's own is handed back -/
def mRetW (m : M D) : Ms := mS m fun d δ => some (.rn d δ)
theorem es_retW {te : TE} {m : M D} (h : En1 K W te m) : Es K W (tRet te) (mRetW m) := by
  refine es_ofN (u := fun (v : V) Z σ H => Z.rt v H) h fun d p C hK hW al F H σ δ S n1 n2 n3 n4 o ho Z hZ => ?_
  cases ho
  subst hK
  exact hZ al F H σ p (Same.refl _) S n1 n2 n4
def mRetO (i : Nat) : Ms := fun δ => match δ[i]? with
  | some (.ow d) => some (.rn d δ)
  | _ => none
def mDrop (m : M D) : Ms := mS m fun _ δ => some (.nx δ)
theorem es_drop {te : TE} {m : M D} (h : Ev K W te m) : Es K W (tDrop te) (mDrop m) := by
  refine es_of (u := fun (v : V) Z σ H => Z.nx σ H) h fun d v C hK hW al F H σ δ S rl o ho Z hZ => ?_
  cases ho
  exact hZ al F H σ (Same.refl _) S

/-! ### targets -/
abbrev Mg := D → En → Option En
def Eg (K : Fg) (b : Bool) (g : TG) (m : Mg) : Prop :=
  ∀ (C : Cn), C.K = K → ∀ (al : Nat → Addr) (F H : Hp) (σ : St) (δ : En), StOk C al F H σ δ → ∀ d v δ', Rq K b F d v → m d δ = some δ' → ∀ Q : St → Hp → Prop, (∀ al' F' H' σ', Same F F' → StOk C al' F' H' σ' δ' → Q σ' H') → g v σ H Q
def Egs (K : Fg) (g : TGs) (m : List D → En → Option En) : Prop :=
  ∀ (C : Cn), C.K = K → ∀ (al : Nat → Addr) (F H : Hp) (σ : St) (δ : En), StOk C al F H σ δ → ∀ ds vs δ', Reps K F ds vs → m ds δ = some δ' → ∀ Q : St → Hp → Prop, (∀ al' F' H' σ', Same F F' → StOk C al' F' H' σ' δ' → Q σ' H') → g vs σ H Q
def gN (i : Nat) : Mg := fun d δ => some (δ.set i (.fr d))
theorem eg_name {i : Nat} : Eg K false (gName i) (gN i) := fun C hK al F H σ δ S d v δ' h e Q k => by
  cases e
  subst hK
  exact k al F H _ (Same.refl _) (S.set h)
def gs0 : List D → En → Option En := fun ds δ => match ds with
  | [] => some δ
  | _ => none
def gsC (a : Mg) (b : List D → En → Option En) : List D → En → Option En := fun ds δ => match ds with
  | d :: r => match a d δ with
    | some δ' => b r δ'
    | none => none
  | [] => none
def gT (m : List D → En → Option En) : Mg := fun d δ => match d with
  | .tup ds => m ds δ
  | _ => none
theorem egs_nil : Egs K gNil gs0 := fun C hK al F H σ δ S ds vs δ' h e Q k => by
  cases ds with
  | nil =>
    cases e
    exact ⟨h.inv0, k al F H σ (Same.refl _) S⟩
  | cons d r => cases e
theorem egs_cons {t : TG} {u : TGs} {a : Mg} {b : List D → En → Option En} (ha : Eg K false t a) (hb : Egs K u b) : Egs K (gCons t u) (gsC a b) := fun C hK al F H σ δ S ds vs δ' h e Q k => by
  cases ds with
  | nil => cases e
  | cons d r =>
    obtain ⟨v, us, rfl, h1, h2⟩ := h.inv
    cases e1 : a d δ with
    | none => simp only [gsC, e1] at e; cases e
    | some δ1 =>
      simp only [gsC, e1] at e
      exact ⟨v, us, rfl, ha C hK al F H σ δ S d v δ1 h1 e1 _ fun al1 F1 H1 σ1 s1 S1 => hb C hK al1 F1 H1 σ1 δ1 S1 r us δ' (h2.mono s1) e Q fun al2 F2 H2 σ2 s2 S2 => k al2 F2 H2 σ2 (s1.trans s2) S2⟩
/-- how many targets -/
def GsN (b : List D → En → Option En) (n : Nat) : Prop := ∀ ds δ δ', b ds δ = some δ' → ds.length = n
theorem gsn0 : GsN gs0 0 := fun ds δ δ' h => by cases ds with
  | nil => rfl
  | cons d r => cases h
theorem gsnC {a : Mg} {b : List D → En → Option En} {n : Nat} (h : GsN b n) : GsN (gsC a b) (n + 1) := fun ds δ δ' e => by cases ds with
  | nil => cases e
  | cons d r =>
    cases e1 : a d δ with
    | none => simp only [gsC, e1] at e; cases e
    | some δ1 =>
      simp only [gsC, e1] at e
      simp [h r δ1 δ' e]

theorem eg_tup {u : TGs} {b : List D → En → Option En} {n : Nat} {q : Bool} (hb : Egs K u b) (h : GsN b n) : Eg K q (gTup K n u) (gT b) := fun C hK al F H σ δ S d v δ' hr e Q k => by
  cases d with
  | tup ds =>
    obtain ⟨a, vs, rfl, h1, h3⟩ := Rq.tup hr
    have e' : b ds δ = some δ' := e
    exact ⟨a, vs, rfl, same_t S.fh h1, by rw [h3.len]; exact h ds δ δ' e', hb C hK al F H σ δ S ds vs δ' h3 e' Q k⟩
  | _ => cases e
def mAsg (g : Mg) (m : M D) : Ms := mS m fun d δ => match g d δ with
  | some δ' => some (.nx δ')
  | none => none
theorem es_asg {te : TE} {g : TG} {m : M D} {a : Mg} (h : Ev K W te m) (hg : Eg K false g a) : Es K W (tAsg te g) (mAsg a m) := by
  refine es_of (u := fun (v : V) Z σ H => g v σ H Z.nx) h fun d v C hK hW al F H σ δ S rl o ho Z hZ => ?_
  cases e : a d δ with
  | none => simp only [e] at ho; cases ho
  | some δ1 =>
    simp only [e] at ho
    cases ho
    exact hg C hK al F H σ δ S d v δ1 rl e Z.nx fun al' F' H' σ' s S' => hZ al' F' H' σ' s S'
/-- x = a new object of one's own -/
def mAsgO (i : Nat) (m : M D) : Ms := mS m fun d δ => some (.nx (δ.set i (.ow d)))
theorem es_asgO {te : TE} {i : Nat} {m : M D} (h : En1 K W te m) : Es K W (tAsg te (gName i)) (mAsgO i m) := by
  refine es_ofN (u := fun (v : V) Z σ H => gName i v σ H Z.nx) h fun d p C hK hW al F H σ δ S n1 n2 n3 n4 o ho Z hZ => ?_
  cases ho
  subst hK
  exact hZ _ F H _ (Same.refl _) (S.setO n4 n1 n2 fun j s e q r _ => n3 j s e q r)

/-! ### what a loop walks -/
def Walks (C : Cn) (b : Bool) (Fw : Hp) (I : It) (ds : List D) : Prop := ds.length ≤ LB ∧ ∀ F H, Same Fw F → Same F H → Same C.P H → ∀ i : Nat,
  (∀ d, ds[i]? = some d → I.go i H ∧ ∀ x H', I.yld i H x H' → ∃ F', New F H F' H' ∧ Rq C.K b F' d x) ∧ (ds.length ≤ i → I.stop i H)
def Ei (K : Fg) (W : WX) (b : Bool) (wi : TI) (m : M (List D)) : Prop :=
  ∀ (C : Cn), C.K = K → C.W = W → ∀ (al : Nat → Addr) (F H : Hp) (σ : St) (δ : En), StOk C al F H σ δ → ∀ r, m δ = some r → ∀ R : It → Hp → Prop,
    (∀ ds δ', r = .ok ds δ' → ∀ al' F' H' I, Same F F' → StOk C al' F' H' σ δ' → Walks C b F' I ds → R I H') →
    (∀ x δ', r = .ex x δ' → ∀ al' F' H' cls dd, Same F F' → StOk C al' F' H' σ δ' → XRep K F' H' x cls dd → W cls dd σ H') → wi σ H R
def mSeqOf (m : M D) : M (List D) := m.bind fun d => M.lift (match d with
  | .lst ds => some ds
  | _ => none)
def mTupOf (m : M D) : M (List D) := m.bind fun d => M.lift (match d with
  | .tup ds => some ds
  | _ => none)
theorem ei_list {tl : TE} {m : M D} (h : Ev K W tl m) : Ei K W false (iList K tl) (mSeqOf m) := by
  intro C hK hW al F H σ δ S r hr R hok hex
  cases e : m δ with
  | none => unfold mSeqOf M.bind at hr; rw [e] at hr; cases hr
  | some r1 =>
    refine h C hK hW al F H σ δ S trivial r1 e _ (fun d δ1 e1 al1 F1 H1 v s1 S1 rl => ?_) fun x δ1 e1 al1 F1 H1 cls dd s1 S1 xr => ?_
    · subst e1
      have hr' : mSeqOf m δ = some r := hr
      unfold mSeqOf at hr'
      rw [M.bind_ok e] at hr'
      obtain ⟨ds, h2, rfl⟩ := lift_some hr'
      cases d with
      | lst es =>
        cases h2
        subst hK
        obtain ⟨a, vs, rfl, g1, g2, g3⟩ := Rep.lst_iff.mp rl
        refine ⟨a, rfl, ⟨vs, Or.inl (Or.inl (S1.fh _ _ g1))⟩, hok _ δ1 rfl al1 F1 H1 _ s1 S1 ⟨g2, fun F2 H2 f1 f2 _ i => ⟨fun d hd => ?_, fun hl => ?_⟩⟩⟩
        · obtain ⟨u, hu, ru⟩ := g3.get hd
          have ha : H2 a = some (.lst vs) := f2 _ _ (f1 _ _ g1)
          refine ⟨⟨vs, u, Or.inl (Or.inl ha), hu⟩, fun x H' y => ?_⟩
          obtain ⟨rfl, y⟩ := y
          have q := y vs (Or.inl (Or.inl ha))
          rw [hu] at q
          cases q
          exact ⟨F2, New.refl f2, ru.mono f1⟩
        · exact ⟨vs, Or.inl (Or.inl (f2 _ _ (f1 _ _ g1))), by rw [g3.len]; exact hl⟩
      | _ => cases h2
    · subst e1
      unfold mSeqOf at hr
      rw [M.bind_ex e] at hr
      cases hr
      exact hex x δ1 rfl al1 F1 H1 cls dd s1 S1 xr
theorem ei_tup {tl : TE} {m : M D} (h : Ev K W tl m) : Ei K W false (iTup K tl) (mTupOf m) := by
  intro C hK hW al F H σ δ S r hr R hok hex
  cases e : m δ with
  | none => unfold mTupOf M.bind at hr; rw [e] at hr; cases hr
  | some r1 =>
    refine h C hK hW al F H σ δ S trivial r1 e _ (fun d δ1 e1 al1 F1 H1 v s1 S1 rl => ?_) fun x δ1 e1 al1 F1 H1 cls dd s1 S1 xr => ?_
    · subst e1
      have hr' : mTupOf m δ = some r := hr
      unfold mTupOf at hr'
      rw [M.bind_ok e] at hr'
      obtain ⟨ds, h2, rfl⟩ := lift_some hr'
      cases d with
      | tup es =>
        cases h2
        subst hK
        obtain ⟨a, vs, rfl, g1, g2, g3⟩ := Rep.tup_iff.mp rl
        refine ⟨a, rfl, ⟨vs, same_t S1.fh g1.sq⟩, hok _ δ1 rfl al1 F1 H1 _ s1 S1 ⟨g2, fun F2 H2 f1 f2 _ i => ⟨fun d hd => ?_, fun hl => ?_⟩⟩⟩
        · obtain ⟨u, hu, ru⟩ := g3.get hd
          have ha : SqT C.K H2 a vs := same_t f2 (same_t f1 g1.sq)
          refine ⟨⟨vs, u, ha, hu⟩, fun x H' y => ?_⟩
          obtain ⟨rfl, y⟩ := y
          have q := y vs ha
          rw [hu] at q
          cases q
          exact ⟨F2, New.refl f2, ru.mono f1⟩
        · exact ⟨vs, same_t f2 (same_t f1 g1.sq), by rw [g3.len]; exact hl⟩
      | _ => cases h2
    · subst e1
      unfold mTupOf at hr
      rw [M.bind_ex e] at hr
      cases hr
      exact hex x δ1 rfl al1 F1 H1 cls dd s1 S1 xr
/-- from an argument list of frozen values -/
theorem ei_args {ta : TA} {m : M (List D)} {u : List V → Hp → (It → Hp → Prop) → Prop} {f : List D → Option (List D)} {b : Bool} (h : Eds K W ta m)
    (hu : ∀ (C : Cn) (F H : Hp) (as : List D) (vs : List V) (ds : List D), C.K = K → Same F H → Reps K F as vs → f as = some ds → ∀ R : It → Hp → Prop, (∀ I, Walks C b F I ds → R I H) → u vs H R) :
    Ei K W b (fun σ H R => ta σ H fun vs H1 => u vs H1 R) (m.bind fun as => M.lift (f as)) := by
  intro C hK hW al F H σ δ S r hr R hok hex
  cases e : m δ with
  | none => unfold M.bind at hr; rw [e] at hr; cases hr
  | some r1 =>
    refine h C hK hW al F H σ δ S trivial r1 e _ (fun as δ1 e1 al1 F1 H1 vs s1 S1 rl => ?_) fun x δ1 e1 al1 F1 H1 cls dd s1 S1 xr => ?_
    · subst e1
      rw [M.bind_ok e] at hr
      obtain ⟨ds, h2, rfl⟩ := lift_some hr
      exact hu C F1 H1 as vs ds hK S1.fh rl h2 R fun I w => hok ds δ1 rfl al1 F1 H1 I s1 S1 w
    · subst e1
      rw [M.bind_ex e] at hr
      cases hr
      exact hex x δ1 rfl al1 F1 H1 cls dd s1 S1 xr
def rangeD (lo : Int) (n : Nat) : List D := (List.range n).map fun i => .int (lo + (i : Nat))
theorem rangeD_get {lo : Int} {n i : Nat} {d : D} (h : (rangeD lo n)[i]? = some d) : i < n ∧ d = .int (lo + (i : Nat)) := by
  unfold rangeD at h
  rw [List.getElem?_map] at h
  by_cases q : i < n
  · rw [List.getElem?_range q] at h
    exact ⟨q, (Option.some.inj h).symm⟩
  · rw [List.getElem?_eq_none (by rw [List.length_range]; omega)] at h
    cases h
theorem rangeD_len {lo : Int} {n : Nat} : (rangeD lo n).length = n := by unfold rangeD; rw [List.length_map, List.length_range]
theorem walks_range {C : Cn} {F : Hp} {lo : Int} {n : Nat} (hn : n ≤ LB) : Walks C false F (Itr lo n) (rangeD lo n) := ⟨by rw [rangeD_len]; exact hn, fun F2 H2 f1 f2 _ i => ⟨fun d hd => by
    obtain ⟨q, rfl⟩ := rangeD_get hd
    refine ⟨q, fun x H' y => ?_⟩
    obtain ⟨rfl, rfl⟩ := y
    exact ⟨F2, New.refl f2, (Rep.int_iff (K := C.K) (F := F2)).mpr rfl⟩, fun hl => by
    rw [rangeD_len] at hl
    exact hl⟩⟩
def rg1 : List D → Option (List D)
  | [.int j] => if -1000000 ≤ j ∧ j ≤ 1000000 then some (rangeD 0 j.toNat) else none
  | _ => none
def mIt (f : List D → Option (List D)) (m : M (List D)) : M (List D) := m.bind fun as => M.lift (f as)
theorem ei_range1 {ta : TA} {m : M (List D)} (h : Eds K W ta m) : Ei K W false (iRng1 ta) (mIt rg1 m) := by
  refine ei_args (u := fun vs H R => ∃ j : Int, vs = [.int j] ∧ -(2 ^ 62) ≤ j ∧ j < 2 ^ 62 ∧ R (Itr 0 j.toNat) H) h fun C F H as vs ds hK fh rs hf R hR => ?_
  match as, hf with
  | [.int j], hf =>
    obtain ⟨⟨h1, h2⟩, rfl⟩ := if_some hf
    obtain ⟨v, us, rfl, r1, r2⟩ := rs.inv
    cases r2.inv0
    exact ⟨j, by rw [Rep.int_iff.mp r1], by omega, by omega, hR _ (walks_range (by unfold LB; omega))⟩
/-! ### for -/
def forL (g : Mg) (b : Ms) : List D → Ms
  | [], δ => some (.nx δ)
  | d :: ds, δ => match g d δ with
    | none => none
    | some δ1 => match b δ1 with
      | some (.nx δ2) => forL g b ds δ2
      | some (.ct δ2) => forL g b ds δ2
      | some (.bk δ2) => some (.nx δ2)
      | r => r
def mFor (it : M (List D)) (g : Mg) (b : Ms) : Ms := mS it fun ds => forL g b ds
theorem es_for {wi : TI} {g : TG} {tb : TS} {it : M (List D)} {a : Mg} {b : Ms} {q : Bool} (hi : Ei K W q wi it) (hg : Eg K q g a) (hb : Es K W tb b) : Es K W (tFor wi g tb) (mFor it a b) := by
  intro C hK hW al F H σ δ S o ho Z hZ
  cases e : it δ with
  | none => unfold mFor mS at ho; rw [e] at ho; cases ho
  | some r =>
    refine hi C hK hW al F H σ δ S r e _ (fun ds δ1 e1 al1 F1 H1 I s1 S1 wk => ?_) fun x δ1 e1 al1 F1 H1 cls dd s1 S1 xr => ?_
    · subst e1
      have ho' : forL a b ds δ1 = some o := by unfold mFor mS at ho; rw [e] at ho; exact ho
      refine ⟨fun i n σ2 H2 => n = ds.length - i ∧ i ≤ ds.length ∧ ∃ al2 F2 δ2, Same F1 F2 ∧ StOk C al2 F2 H2 σ2 δ2 ∧ forL a b (ds.drop i) δ2 = some o, ⟨ds.length, rfl, Nat.zero_le _, al1, F1, δ1, Same.refl _, S1, ho'⟩, ?_⟩
      rintro i n σ2 H2 ⟨rfl, hi, al2, F2, δ2, s2, S2, h2⟩
      by_cases hl : i < ds.length
      · have hd : ds[i]? = some ds[i] := List.getElem?_eq_getElem hl
        obtain ⟨go, yl⟩ := (wk.2 F2 H2 s2 S2.fh S2.ph i).1 _ hd
        have hdr : ds.drop i = ds[i] :: ds.drop (i + 1) := List.drop_eq_getElem_cons hl
        rw [hdr] at h2
        refine Or.inr ⟨go, fun σ3 H3 => ∃ al3 F3 δ3, Same F1 F3 ∧ StOk C al3 F3 H3 σ3 δ3 ∧ forL a b (ds.drop (i + 1)) δ3 = some o, fun σ3 H3 q => ⟨ds.length - (i + 1), by omega, rfl, hl, q⟩, fun x H3 y => ?_⟩
        obtain ⟨F3, nw, rx⟩ := yl x H3 y
        have S3 := S2.new nw
        cases e2 : a ds[i] δ2 with
        | none => simp only [forL, e2] at h2; cases h2
        | some δ3 =>
          subst hK
          refine hg C rfl al2 F3 H3 σ2 δ2 S3 _ x δ3 rx e2 _ fun al4 F4 H4 σ4 s4 S4 => ?_
          cases e3 : b δ3 with
          | none => simp only [forL, e2, e3] at h2; cases h2
          | some r3 =>
            have s14 : Same F1 F4 := s2.trans (nw.ff.trans s4)
            refine hb C rfl hW al4 F4 H4 σ4 δ3 S4 r3 e3 _ ?_
            cases r3 with
            | nx δ5 =>
              simp only [forL, e2, e3] at h2
              exact fun al5 F5 H5 σ5 s5 S5 => ⟨al5, F5, δ5, s14.trans s5, S5, h2⟩
            | ct δ5 =>
              simp only [forL, e2, e3] at h2
              exact fun al5 F5 H5 σ5 s5 S5 => ⟨al5, F5, δ5, s14.trans s5, S5, h2⟩
            | bk δ5 =>
              simp only [forL, e2, e3] at h2
              cases h2
              exact fun al5 F5 H5 σ5 s5 S5 => hZ al5 F5 H5 σ5 (s1.trans (s14.trans s5)) S5
            | rt d δ5 =>
              simp only [forL, e2, e3] at h2
              cases h2
              exact hZ.mono (s1.trans s14)
            | rn d δ5 =>
              simp only [forL, e2, e3] at h2
              cases h2
              exact hZ.mono (s1.trans s14)
            | ex x δ5 =>
              simp only [forL, e2, e3] at h2
              cases h2
              exact hZ.mono (s1.trans s14)
      · have hdr : ds.drop i = [] := List.drop_eq_nil_of_le (by omega)
        rw [hdr] at h2
        cases h2
        exact Or.inl ⟨(wk.2 F2 H2 s2 S2.fh S2.ph i).2 (by omega), hZ al2 F2 H2 σ2 (s1.trans s2) S2⟩
    · subst e1
      unfold mFor mS at ho
      rw [e] at ho
      cases ho
      subst hK
      rw [← hW]
      exact hZ al1 F1 H1 σ cls dd s1 S1 xr
/-! ### while -/
end
end DL

set_option Elab.async false
set_option linter.all false
set_option maxRecDepth 100000
set_option maxHeartbeats 400000
/-! DLd: tests, comprehensions, calls, objects, changes of own objects. -/
namespace DL
open PySem L2
section
variable {K : Fg} {W : WX}
/-! ### tests -/
def mTest (m : M D) : M Bool := m.bind fun d => M.lift (match d with
  | .bl b => some b
  | _ => none)
theorem et_test {te : TE} {m : M D} (h : Ev K W te m) : Et K W (tTest te) (mTest m) := by
  refine J.bind (t2 := fun (x : V) (_ : St) (H : Hp) (Q : Bool → Hp → Prop) => ∃ k, x = V.bl k ∧ Q k H) h monoT fun d v => ?_
  intro C hK hW al F H σ δ S hp r hr Q hok hex
  obtain ⟨b, h2, rfl⟩ := lift_some hr
  cases d with
  | bl c =>
    cases h2
    have hv : Rep K F (.bl b) v := hp.2
    exact ⟨b, Rep.bl_iff.mp hv, hok b δ rfl al F H b (Same.refl _) S rfl⟩
  | _ => cases h2
theorem et_B {te : TE} {m : M D} (h : Ev K W te m) : Et K W (tB te) (mTest m) := et_test h
def mAnd (a b : M Bool) : M Bool := a.bind fun k => if k then b else M.ret false
def mOr (a b : M Bool) : M Bool := a.bind fun k => if k then M.ret true else b
def mNot (a : M Bool) : M Bool := a.bind fun k => M.ret (!k)
theorem et_and {t u : TT} {a b : M Bool} (ha : Et K W t a) (hb : Et K W u b) : Et K W (tAnd t u) (mAnd a b) := by
  refine J.bind (t2 := fun (c : Bool) σ H Q => if c = true then u σ H Q else Q false H) ha monoT fun k c => ?_
  intro C hK hW al F H σ δ S hp r hr Q hok hex
  have e : c = k := hp.2
  subst e
  cases c with
  | true => exact hb C hK hW al F H σ δ S trivial r hr Q hok hex
  | false =>
    cases hr
    exact hok false δ rfl al F H false (Same.refl _) S rfl
theorem et_or {t u : TT} {a b : M Bool} (ha : Et K W t a) (hb : Et K W u b) : Et K W (tOr t u) (mOr a b) := by
  refine J.bind (t2 := fun (c : Bool) σ H Q => if c = true then Q true H else u σ H Q) ha monoT fun k c => ?_
  intro C hK hW al F H σ δ S hp r hr Q hok hex
  have e : c = k := hp.2
  subst e
  cases c with
  | false => exact hb C hK hW al F H σ δ S trivial r hr Q hok hex
  | true =>
    cases hr
    exact hok true δ rfl al F H true (Same.refl _) S rfl
theorem et_not {t : TT} {a : M Bool} (ha : Et K W t a) : Et K W (tNot t) (mNot a) := by
  refine J.bind (t2 := fun (c : Bool) σ H Q => Q (!c) H) ha monoT fun k c => ?_
  intro C hK hW al F H σ δ S hp r hr Q hok hex
  have e : c = k := hp.2
  subst e
  cases hr
  exact hok _ δ rfl al F H _ (Same.refl _) S rfl
/-! values of and, or, not (truths) -/
def mAndV (a b : M D) : M D := a.bind fun d => match d with
  | .bl true => b
  | .bl false => M.ret (.bl false)
  | _ => fun _ => none
def mOrV (a b : M D) : M D := a.bind fun d => match d with
  | .bl true => M.ret (.bl true)
  | .bl false => b
  | _ => fun _ => none
def mNotV (a : M D) : M D := a.bind fun d => M.lift (match d with
  | .bl b => some (.bl (!b))
  | _ => none)
theorem ev_and {ta tb : TE} {a b : M D} (ha : Ev K W ta a) (hb : Ev K W tb b) : Ev K W (tAndV ta tb) (mAndV a b) := by
  refine J.bind (t2 := fun (x : V) σ H (Q : VK) => ∃ c, x = V.bl c ∧ if c = true then tb σ H Q else Q (.bl false) H) ha monoT fun d v => ?_
  intro C hK hW al F H σ δ S hp r hr Q hok hex
  cases d with
  | bl c =>
    have hv : Rep K F (.bl c) v := hp.2
    refine ⟨c, Rep.bl_iff.mp hv, ?_⟩
    cases c with
    | true => exact hb C hK hW al F H σ δ S trivial r hr Q hok hex
    | false =>
      cases hr
      exact hok _ δ rfl al F H _ (Same.refl _) S (Rep.bl_iff.mpr rfl)
  | _ => cases hr
theorem ev_or {ta tb : TE} {a b : M D} (ha : Ev K W ta a) (hb : Ev K W tb b) : Ev K W (tOrV ta tb) (mOrV a b) := by
  refine J.bind (t2 := fun (x : V) σ H (Q : VK) => ∃ c, x = V.bl c ∧ if c = true then Q (.bl true) H else tb σ H Q) ha monoT fun d v => ?_
  intro C hK hW al F H σ δ S hp r hr Q hok hex
  cases d with
  | bl c =>
    have hv : Rep K F (.bl c) v := hp.2
    refine ⟨c, Rep.bl_iff.mp hv, ?_⟩
    cases c with
    | false => exact hb C hK hW al F H σ δ S trivial r hr Q hok hex
    | true =>
      cases hr
      exact hok _ δ rfl al F H _ (Same.refl _) S (Rep.bl_iff.mpr rfl)
  | _ => cases hr
theorem ev_not {ta : TE} {a : M D} (ha : Ev K W ta a) : Ev K W (tNotV ta) (mNotV a) := by
  refine J.bind (t2 := fun (x : V) (_ : St) H (Q : VK) => ∃ c, x = V.bl c ∧ Q (.bl (!c)) H) ha monoT fun d v => ?_
  intro C hK hW al F H σ δ S hp r hr Q hok hex
  obtain ⟨b, h2, rfl⟩ := lift_some hr
  cases d with
  | bl c =>
    cases h2
    have hv : Rep K F (.bl c) v := hp.2
    exact ⟨c, Rep.bl_iff.mp hv, hok _ δ rfl al F H _ (Same.refl _) S (Rep.bl_iff.mpr rfl)⟩
  | _ => cases h2
def mIfE (c : M Bool) (a b : M D) : M D := c.bind fun k => if k then a else b
/-- a < b < c -/
def mChain (f g : D → D → Option D) (a b c : M Op) : M D := a.bind fun o => b.bind fun q => (mRd o).bind fun d => (mRd q).bind fun e => (M.lift (f d e)).bind fun z => match z with
  | .bl true => c.bind fun p => (mRd q).bind fun e => (mRd p).bind fun y => M.lift (g e y)
  | .bl false => M.ret (.bl false)
  | _ => fun _ => none
theorem ev_chain {r r' : R2} {f g : D → D → Option D} {ta tb tc : TE} {a b c : M Op} (p : Prim2 K r f) (p' : Prim2 K r' g) (ha : Eo K W ta a) (hb : Eo K W tb b) (hc : Eo K W tc c) : Ev K W (tChain r r' ta tb tc) (mChain f g a b c) := by
  refine J.bind (t2 := fun (x : V) σ H Q => tb σ H fun y H2 => r x y H2 fun z H3 => ∃ k, z = .bl k ∧ (if k = true then tc σ H3 fun w' H4 => r' y w' H4 Q else Q (.bl false) H3)) ha monoT fun o v => ?_
  refine J.bind (t2 := fun (y : V) σ H Q => r v y H fun z H3 => ∃ k, z = .bl k ∧ (if k = true then tc σ H3 fun w' H4 => r' y w' H4 Q else Q (.bl false) H3)) (hb.wk fun _ _ _ => trivial) (monoT.and monoO.at) fun q w => ?_
  intro C hK hW al F H σ δ S hp r0 hr Q hok hex
  subst hK
  obtain ⟨d, h1, hr⟩ := rd_bind hr
  obtain ⟨e, h2, hr⟩ := rd_bind hr
  cases h3 : f d e with
  | none => unfold M.bind M.lift at hr; rw [h3] at hr; cases hr
  | some z =>
    rw [M.bind_ok (show M.lift (f d e) δ = some (.ok z δ) by rw [h3]; rfl)] at hr
    refine p F H v w d e z S.fh (S.opd hp.1.2 h1) (S.opd hp.2 h2) h3 _ fun F1 H1 u n ru => ?_
    have S1 := S.new n
    cases z with
    | bl k =>
      refine ⟨k, Rep.bl_iff.mp ru, ?_⟩
      cases k with
      | false =>
        cases hr
        exact hok _ δ rfl al F1 H1 _ n.ff S1 (Rep.bl_iff.mpr rfl)
      | true =>
        have hr : (c.bind fun p => (mRd q).bind fun e => (mRd p).bind fun y => M.lift (g e y)) δ = some r0 := hr
        cases e1 : c δ with
        | none => unfold M.bind at hr; rw [e1] at hr; cases hr
        | some r1 =>
          refine hc C rfl hW al F1 H1 σ δ S1 trivial r1 e1 _ (fun o2 δ2 e2 al2 F2 H2 x s2 S2 rl => ?_) fun x δ2 e2 al2 F2 H2 cls dd s2 S2 xr => ?_
          · subst e2
            rw [M.bind_ok e1] at hr
            obtain ⟨e', h4, hr⟩ := rd_bind hr
            obtain ⟨y, h5, hr⟩ := rd_bind hr
            obtain ⟨z', h6, rfl⟩ := lift_some hr
            have hq : relO C.K F2 σ w q := monoO _ _ _ _ _ (n.ff.trans s2) hp.2
            exact p' F2 H2 w x e' y z' S2.fh (S2.opd hq h4) (S2.opd rl h5) h6 Q fun F' H' u n' ru => hok z' δ2 rfl al2 F' H' u ((n.ff.trans s2).trans n'.ff) (S2.new n') ru
          · subst e2
            rw [M.bind_ex e1] at hr
            cases hr
            exact hex x δ2 rfl al2 F2 H2 cls dd (n.ff.trans s2) S2 xr
    | _ => cases hr

/-! ### comprehensions -/
def lcL (g : Mg) (t : M Bool) (e : M D) (vs : List Nat) : List D → List D → En → Option (R (List D))
  | acc, [], δ => some (.ok acc δ)
  | acc, d :: ds, δ => match g d δ with
    | none => none
    | some δ1 => match t δ1 with
      | some (.ok false δ2) => lcL g t e vs acc ds (wipeE δ2 vs)
      | some (.ok true δ2) => match e δ2 with
        | some (.ok y δ3) => lcL g t e vs (acc ++ [y]) ds (wipeE δ3 vs)
        | _ => none
      | _ => none
def mLc (it : M (List D)) (g : Mg) (t : M Bool) (e : M D) (vs : List Nat) : M D := it.bind fun ds => fun δ => match lcL g t e vs [] ds (wipeE δ vs) with
  | some (.ok acc δ') => some (.ok (.lst acc) δ')
  | _ => none
/-- the target writes to these slots alone -/
def Gw (g : TG) (vs : List Nat) : Prop := ∀ v σ H Q, g v σ H Q → g v σ H fun σ2 H2 => wipe σ2 vs = wipe σ vs ∧ Q σ2 H2
theorem wipe_set {σ : St} {x : Option V} {j : Nat} : ∀ {vs : List Nat}, j ∈ vs → wipe (σ.set j x) vs = wipe σ vs
  | [], h => by simp at h
  | v :: vs, h => by
    unfold wipe
    by_cases q : j = v
    · subst q
      by_cases z : j ∈ vs
      · rw [wipe_set z]
      · have c : ∀ (us : List Nat) (τ : St), j ∉ us → wipe (τ.set j x) us = (wipe τ us).set j x := by
          intro us
          induction us with
          | nil => intro τ _; rfl
          | cons u us ih =>
            intro τ hu
            unfold wipe
            rw [ih τ (fun z => hu (by simp [z])), List.set_comm _ _ (fun z => hu (by simp [z]))]
        rw [c vs σ z, List.set_set]
    · rw [wipe_set (by simpa [q] using h)]
theorem gw_name {j : Nat} {vs : List Nat} (h : j ∈ vs) : Gw (gName j) vs := fun v σ H Q q => ⟨wipe_set h, q⟩
def Gws (g : TGs) (vs : List Nat) : Prop := ∀ us σ H Q, g us σ H Q → g us σ H fun σ2 H2 => wipe σ2 vs = wipe σ vs ∧ Q σ2 H2
theorem gw_nil {vs : List Nat} : Gws gNil vs := fun us σ H Q q => ⟨q.1, rfl, q.2⟩
theorem gw_cons {t : TG} {u : TGs} {vs : List Nat} (mo : ∀ v σ H (P Q : St → Hp → Prop), (∀ a b, P a b → Q a b) → t v σ H P → t v σ H Q) (ha : Gw t vs) (mu : ∀ us σ H (P Q : St → Hp → Prop), (∀ a b, P a b → Q a b) → u us σ H P → u us σ H Q) (hb : Gws u vs) : Gws (gCons t u) vs := fun us σ H Q q => by
  obtain ⟨v, r, e, q⟩ := q
  refine ⟨v, r, e, mo _ _ _ _ _ (fun σ1 H1 z => ?_) (ha v σ H _ q)⟩
  obtain ⟨z1, z2⟩ := z
  refine mu _ _ _ _ _ (fun σ2 H2 y => ?_) (hb r σ1 H1 Q z2)
  exact ⟨y.1.trans z1, y.2⟩
/-- readings are monotone -/
def Gm (t : TG) : Prop := ∀ v σ H (P Q : St → Hp → Prop), (∀ a b, P a b → Q a b) → t v σ H P → t v σ H Q
def Gms (t : TGs) : Prop := ∀ v σ H (P Q : St → Hp → Prop), (∀ a b, P a b → Q a b) → t v σ H P → t v σ H Q
theorem gm_name {i : Nat} : Gm (gName i) := fun v σ H P Q k h => k _ _ h
theorem gm_nil : Gms gNil := fun v σ H P Q k h => ⟨h.1, k _ _ h.2⟩
theorem gm_cons {t : TG} {u : TGs} (ht : Gm t) (hu : Gms u) : Gms (gCons t u) := fun v σ H P Q k h => by
  obtain ⟨a, r, e, h⟩ := h
  exact ⟨a, r, e, ht _ _ _ _ _ (fun σ1 H1 z => hu _ _ _ _ _ k z) h⟩
theorem gm_tup {n : Nat} {u : TGs} (hu : Gms u) : Gm (gTup K n u) := fun v σ H P Q k h => by
  obtain ⟨a, xs, e1, e2, e3, h⟩ := h
  exact ⟨a, xs, e1, e2, e3, hu _ _ _ _ _ k h⟩
theorem gw_tup {n : Nat} {u : TGs} {vs : List Nat} (hu : Gws u vs) : Gw (gTup K n u) vs := fun v σ H Q h => by
  obtain ⟨a, xs, e1, e2, e3, h⟩ := h
  exact ⟨a, xs, e1, e2, e3, hu _ _ _ _ h⟩
theorem wipe_wipe {σ : St} {vs : List Nat} : wipe (wipe σ vs) vs = wipe σ vs := by
  have h : ∀ (us : List Nat) (τ : St), (∀ u ∈ us, u ∈ vs) → wipe (wipe τ us) vs = wipe τ vs := by
    intro us
    induction us with
    | nil => intro τ _; rfl
    | cons u us ih =>
      intro τ hu
      show wipe ((wipe τ us).set u none) vs = wipe τ vs
      rw [wipe_set (hu u (by simp)), ih τ fun w hw => hu w (by simp [hw])]
  exact h vs σ fun _ z => z
theorem en_lc {wi : TI} {g : TG} {tt : TT} {te : TE} {vs : List Nat} {it : M (List D)} {a : Mg} {t : M Bool} {e : M D} {q : Bool} (hi : Ei K W q wi it) (hg : Eg K q g a) (gw : Gw g vs) (gm : Gm g) (ht : Et K W tt t) (he : Ev K W te e) :
    En1 K W (tLc wi g tt te vs) (mLc it a t e vs) := by
  intro C hK hW al F H σ δ S _ r hr Q hok hex
  cases e0 : it δ with
  | none => unfold mLc M.bind at hr; rw [e0] at hr; cases hr
  | some r0 =>
    refine hi C hK hW al F H σ δ S r0 e0 _ (fun ds δ1 e1 al1 F1 H1 I s1 S1 wk => ?_) fun x δ1 e1 al1 F1 H1 cls dd s1 S1 xr => ?_
    · subst e1
      unfold mLc at hr
      rw [M.bind_ok e0] at hr
      cases e2 : lcL a t e vs [] ds (wipeE δ1 vs) with
      | none => simp only [e2] at hr; cases hr
      | some r2 =>
        cases r2 with
        | ex x δx => simp only [e2] at hr; cases hr
        | ok acc δz =>
          simp only [e2] at hr
          cases hr
          subst hK
          intro Dl hD
          -- the invariant: the list at Dl holds what is made so far
          refine ⟨fun i n H2 => n = ds.length - i ∧ i ≤ ds.length ∧ ∃ al2 F2 δ2 as us, Same F1 F2 ∧ StOk C al2 F2 H2 (wipe σ vs) δ2 ∧ F2 Dl = none ∧ (∀ (j : Nat) s d, δ2[j]? = some s → Sl.own s = some d → al2 j ≠ Dl) ∧ H2 Dl = some (.lst us) ∧ as.length ≤ i ∧ Reps C.K F2 as us ∧ (∀ j, j ∈ vs → δ2[j]? = some .un ∨ δ2[j]? = none) ∧ lcL a t e vs as (ds.drop i) δ2 = some (.ok acc δz), ?_, ?_⟩
          · have n1 : C.P Dl = none := S1.ph.free hD
            have n2 : F1 Dl = none := S1.fh.free hD
            have n3 : ∀ (j : Nat) s d, δ1[j]? = some s → Sl.own s = some d → al1 j ≠ Dl := fun j s d q r z => by
              obtain ⟨_, _, _, h4⟩ := S1.ow j s d q r
              obtain ⟨u, hu⟩ := h4.there
              rw [z, hD] at hu
              cases hu
            refine ⟨ds.length, rfl, Nat.zero_le _, al1, F1, wipeE δ1 vs, [], [], Same.refl _, (S1.poke n2 n1 n3).wiped (wipe_length _ _) fun i hi => wipe_get hi, n2, fun j s d q r => ?_, upd_same, Nat.le_refl _, reps_nil, fun j hj => ?_, e2⟩
            · rcases wipeE_get q with z | ⟨z1, z2⟩
              · subst z; cases r
              · exact n3 j s d z2 r
            · cases q : (wipeE δ1 vs)[j]? with
              | none => exact Or.inr rfl
              | some s =>
                rcases wipeE_get q with z | ⟨z1, z2⟩
                · rw [z]; exact Or.inl rfl
                · exact absurd hj z1
          · rintro i n H2 ⟨rfl, hi, al2, F2, δ2, as, us, s2, S2, nF, nO, hDl, hla, hra, hun, h2⟩
            by_cases hl : i < ds.length
            · have hd : ds[i]? = some ds[i] := List.getElem?_eq_getElem hl
              obtain ⟨go, yl⟩ := (wk.2 F2 H2 s2 S2.fh S2.ph i).1 _ hd
              rw [List.drop_eq_getElem_cons hl] at h2
              refine Or.inr ⟨go, fun H3 => ∃ al3 F3 δ3 as3 us3, Same F1 F3 ∧ StOk C al3 F3 H3 (wipe σ vs) δ3 ∧ F3 Dl = none ∧ (∀ (j : Nat) s d, δ3[j]? = some s → Sl.own s = some d → al3 j ≠ Dl) ∧ H3 Dl = some (.lst us3) ∧ as3.length ≤ i + 1 ∧ Reps C.K F3 as3 us3 ∧ (∀ j, j ∈ vs → δ3[j]? = some .un ∨ δ3[j]? = none) ∧ lcL a t e vs as3 (ds.drop (i + 1)) δ3 = some (.ok acc δz), fun H3 q => ⟨ds.length - (i + 1), by omega, rfl, hl, q⟩, fun x H3 y => ?_⟩
              obtain ⟨F3, nw, rx⟩ := yl x H3 y
              -- the context in which Dl is kept
              let C' : Cn := { C with P := upd C.P Dl (.lst us), F0 := F3 }
              have cP : C.P Dl = none := by
                cases q : C.P Dl with
                | none => rfl
                | some o =>
                  exfalso
                  -- Dl was new
                  have := S1.ph.free hD
                  rw [q] at this
                  cases this
              have S3 := S2.new nw
              have hD3 : H3 Dl = some (.lst us) := nw.hh _ _ hDl
              have nF3 : F3 Dl = none := by
                cases q : F3 Dl with
                | none => rfl
                | some o =>
                  rcases nw.nw _ _ q with z | z
                  · rw [nF] at z; cases z
                  · rw [hDl] at z; cases z
              have S3' : StOk C' al2 F3 H3 (wipe σ vs) δ2 := by
                refine ⟨S3.fh, fun b o q => ?_, fun b o q => ?_, Same.refl _, fun b o q => Or.inl q, S3.len, S3.fr, S3.bo, fun j s d q r => ?_, S3.io, S3.inj, S3.sc, S3.b2, fun b o q => (same_upd cP) _ _ (S3.qp b o q)⟩
                · by_cases z : b = Dl
                  · subst z
                    rw [show C'.P b = upd C.P b (.lst us) b from rfl, upd_same] at q
                    cases q
                    exact hD3
                  · rw [show C'.P b = upd C.P Dl (.lst us) b from rfl, upd_ne z] at q
                    exact S3.ph b o q
                · have q' := S3.bp b o q
                  show upd C.P Dl (.lst us) b = some o
                  rw [upd_ne (ne_of_none q' cP)]
                  exact q'
                · obtain ⟨g1, g2, g3, g4⟩ := S3.ow j s d q r
                  refine ⟨g1, g2, ?_, g4⟩
                  show upd C.P Dl (.lst us) (al2 j) = none
                  rw [upd_ne (nO j s d q r)]
                  exact g3
              -- back to C
              have back : ∀ {al4 : Nat → Addr} {F4 H4 : Hp} {σ4 : St} {δ4 : En}, StOk C' al4 F4 H4 σ4 δ4 → StOk C al4 F4 H4 σ4 δ4 ∧ F4 Dl = none ∧ H4 Dl = some (.lst us) ∧ ∀ (j : Nat) s d, δ4[j]? = some s → Sl.own s = some d → al4 j ≠ Dl := fun {al4 F4 H4 σ4 δ4} S4 => by
                have pD : C'.P Dl = some (.lst us) := upd_same
                have no : ∀ (j : Nat) s d, δ4[j]? = some s → Sl.own s = some d → al4 j ≠ Dl := fun j s d q r z => by
                  obtain ⟨_, _, g3, _⟩ := S4.ow j s d q r
                  rw [z, pD] at g3
                  cases g3
                refine ⟨⟨S4.fh, fun b o q => S4.ph b o ?_, S2.bp, S3.f0.trans S4.f0, fun b o q => ?_, S4.len, S4.fr, S4.bo, fun j s d q r => ?_, S4.io, S4.inj, S4.sc, S4.b2, S2.qp⟩, ?_, S4.ph _ _ pD, no⟩
                · show upd C.P Dl (.lst us) b = some o
                  rw [upd_ne (ne_of_none q cP)]
                  exact q
                · rcases S4.fp b o q with z | z
                  · exact S3.fp b o z
                  · refine Or.inr ?_
                    by_cases w : b = Dl
                    · rw [w]; exact cP
                    · have z' : upd C.P Dl (.lst us) b = none := z
                      rw [upd_ne w] at z'
                      exact z'
                · obtain ⟨g1, g2, g3, g4⟩ := S4.ow j s d q r
                  refine ⟨g1, g2, ?_, g4⟩
                  have z' : upd C.P Dl (.lst us) (al4 j) = none := g3
                  rw [upd_ne (no j s d q r)] at z'
                  exact z'
                · cases q : F4 Dl with
                  | none => rfl
                  | some o =>
                    rcases S4.fp _ _ q with z | z
                    · rw [show C'.F0 Dl = F3 Dl from rfl, nF3] at z; cases z
                    · rw [pD] at z; cases z
              cases e3 : a ds[i] δ2 with
              | none => simp only [lcL, e3] at h2; cases h2
              | some δ3 =>
                have G := hg C' rfl al2 F3 H3 (wipe σ vs) δ2 S3' _ x δ3 rx e3 (fun σ4 H4 => ∃ al4 F4, Same F3 F4 ∧ StOk C' al4 F4 H4 σ4 δ3) fun al4 F4 H4 σ4 s4 S4 => ⟨al4, F4, s4, S4⟩
                refine gm _ _ _ _ _ (fun σ4 H4 z => ?_) (gw _ _ _ _ G)
                obtain ⟨wz, al4, F4, s4, S4⟩ := z
                rw [wipe_wipe] at wz
                refine ⟨wz, ?_⟩
                -- slots are forgotten again
                have lw : (wipe σ vs).length = σ4.length := by rw [← wz, wipe_length]
                have gt : ∀ j, j ∉ vs → (wipe σ vs)[j]? = σ4[j]? := fun j hj => by rw [← wz]; exact wipe_get hj
                cases e4 : t δ3 with
                | none => simp only [lcL, e3, e4] at h2; cases h2
                | some r4 =>
                  refine ht C' rfl hW al4 F4 H4 σ4 δ3 S4 trivial r4 e4 _ (fun k δ5 e5 al5 F5 H5 k' s5 S5 rl => ?_) fun x δ5 e5 al5 F5 H5 cls dd s5 S5 xr => ?_
                  · subst e5
                    have ek : k' = k := rl
                    subst ek
                    cases k' with
                    | false =>
                      simp only [lcL, e3, e4] at h2
                      show ∃ _, _
                      obtain ⟨B1, B2, B3, B4⟩ := back S5
                      refine ⟨al5, F5, wipeE δ5 vs, as, us, ((s2.trans nw.ff).trans s4).trans s5, B1.wiped lw gt, B2, fun j s d q r => ?_, B3, by omega, hra.mono ((nw.ff.trans s4).trans s5), fun j hj => ?_, h2⟩
                      · rcases wipeE_get q with z | ⟨z1, z2⟩
                        · subst z; cases r
                        · exact B4 j s d z2 r
                      · cases q : (wipeE δ5 vs)[j]? with
                        | none => exact Or.inr rfl
                        | some s =>
                          rcases wipeE_get q with z | ⟨z1, z2⟩
                          · rw [z]; exact Or.inl rfl
                          · exact absurd hj z1
                    | true =>
                      cases e6 : e δ5 with
                      | none => simp only [lcL, e3, e4, e6] at h2; cases h2
                      | some r6 =>
                        cases r6 with
                        | ex x δx => simp only [lcL, e3, e4, e6] at h2; cases h2
                        | ok y δ7 =>
                          simp only [lcL, e3, e4, e6] at h2
                          show te σ4 H5 _
                          refine he C' rfl hW al5 F5 H5 σ4 δ5 S5 trivial _ e6 _ (fun y' δ8 e8 al8 F8 H8 v s8 S8 rl => ?_) fun x δ8 e8 => by cases e8
                          cases e8
                          obtain ⟨B1, B2, B3, B4⟩ := back S8
                          have sF : Same F2 F8 := ((nw.ff.trans s4).trans s5).trans s8
                          have l1 : us.length = as.length := hra.len
                          refine ⟨us, B3, by rw [l1]; exact LB_lt (by have := wk.1; omega), al8, F8, wipeE δ7 vs, as ++ [y], us ++ [v], s2.trans sF, (B1.poke B2 cP B4).wiped lw gt, B2, fun j s d q r => ?_, upd_same, by rw [List.length_append]; show as.length + 1 ≤ i + 1; omega, Reps.app (hra.mono sF) (reps_cons rl reps_nil), fun j hj => ?_, h2⟩
                          · rcases wipeE_get q with z | ⟨z1, z2⟩
                            · subst z; cases r
                            · exact B4 j s d z2 r
                          · cases q : (wipeE δ7 vs)[j]? with
                            | none => exact Or.inr rfl
                            | some s =>
                              rcases wipeE_get q with z | ⟨z1, z2⟩
                              · rw [z]; exact Or.inl rfl
                              · exact absurd hj z1
                  · subst e5
                    simp only [lcL, e3, e4] at h2
                    cases h2
            · have hdr : ds.drop i = [] := List.drop_eq_nil_of_le (by omega)
              rw [hdr] at h2
              cases h2
              refine Or.inl ⟨(wk.2 F2 H2 s2 S2.fh S2.ph i).2 (by omega), ?_⟩
              have hs : StOk C al2 F2 H2 σ δz := by
                refine ⟨S2.fh, S2.ph, S2.bp, S2.f0, S2.fp, by rw [← S2.len, wipe_length], fun j d q => ?_, fun j d q => ?_, fun j s d q r => ?_, S2.io, S2.inj, fun j ns q => ?_, fun j es q => ?_, S2.qp⟩
                · have hj : j ∉ vs := fun z => by rcases hun j z with w | w <;> rw [w] at q <;> cases q
                  rw [← wipe_get (σ := σ) hj]
                  exact S2.fr j d q
                · have hj : j ∉ vs := fun z => by rcases hun j z with w | w <;> rw [w] at q <;> cases q
                  rw [← wipe_get (σ := σ) hj]
                  exact S2.bo j d q
                · have hj : j ∉ vs := fun z => by
                    rcases hun j z with w | w
                    · rw [w] at q; cases q; cases r
                    · rw [w] at q; cases q
                  rw [← wipe_get (σ := σ) hj]
                  exact S2.ow j s d q r
                · have hj : j ∉ vs := fun z => by rcases hun j z with w | w <;> rw [w] at q <;> cases q
                  rw [← wipe_get (σ := σ) hj]
                  exact S2.sc j ns q
                · have hj : j ∉ vs := fun z => by rcases hun j z with w | w <;> rw [w] at q <;> cases q
                  rw [← wipe_get (σ := σ) hj]
                  exact S2.b2 j es q
              have ll : acc.length ≤ LB := by have := wk.1; omega
              exact hok _ _ rfl al2 F2 H2 Dl (s1.trans s2) hs nF (S1.ph.free hD) nO ⟨us, hDl, ll, hra⟩
    · subst e1
      unfold mLc at hr
      rw [M.bind_ex e0] at hr
      cases hr
      exact hex x δ1 rfl al1 F1 H1 cls dd s1 S1 xr
def mYes : M Bool := M.ret true
theorem et_yes : Et K W tYes mYes := by
  intro C hK hW al F H σ δ S _ r hr Q hok hex
  cases hr
  exact hok true δ rfl al F H true (Same.refl _) S rfl
end
end DL

set_option Elab.async false
set_option linter.all false
set_option maxRecDepth 100000
set_option maxHeartbeats 400000
/-! DLe: the promises of defs, calls, objects, changes of own objects. -/
namespace DL
open PySem L2
inductive PK where
  | fr | bo | io
def PK.sl : PK → D → Sl
  | .fr, d => .fr d
  | .bo, d => .bo d
  | .io, d => .io d
def entry : List PK → List D → En
  | k :: ks, d :: ds => k.sl d :: entry ks ds
  | _, _ => []
/-- what a def promises: of frozen, borrowed, handed-in things ds it computes f ds (its result, and what its slots hold behind it) -/
def SpD (K : Fg) (ks : List PK) (f : List D → Option (R D)) : Sp := fun vs H Q E => ∃ (C : Cn) (al : Nat → Addr) (ds : List D) (r : R D), C.K = K ∧ vs.length = ks.length ∧ ds.length = ks.length ∧ StOk C al C.F0 H (vs.map some) (entry ks ds) ∧ f ds = some r ∧
  (∀ d δ', r = .ok d δ' → ∀ al' F' H' σ' v, Same C.F0 F' → StOk C al' F' H' σ' δ' → Rep K F' d v → Q v H') ∧
  (∀ x δ', r = .ex x δ' → ∀ al' F' H' σ' cls dd, Same C.F0 F' → StOk C al' F' H' σ' δ' → XRep K F' H' x cls dd → E cls dd H')
def startE (n : Nat) (es : En) : En := es ++ List.replicate (n - es.length) .un
theorem entry_len : ∀ {ks : List PK} {ds : List D}, ds.length = ks.length → (entry ks ds).length = ks.length
  | [], [], _ => rfl
  | k :: ks, d :: ds, h => by simp [entry, entry_len (ks := ks) (ds := ds) (by simpa using h)]
  | [], d :: ds, h => by simp at h
  | k :: ks, [], h => by simp at h
theorem StOk.begin {C : Cn} {al : Nat → Addr} {F H : Hp} {N : List Str} {vs : List V} {es : En} (S : StOk C al F H (vs.map some) es) : StOk C al F H (start N vs) (startE N.length es) := by
  have hl : vs.length = es.length := by simpa using S.len
  have gE : ∀ (j : Nat) s, (startE N.length es)[j]? = some s → s = .un ∨ es[j]? = some s := fun j s q => by
    unfold startE at q
    by_cases z : j < es.length
    · rw [List.getElem?_append_left z] at q
      exact Or.inr q
    · rw [List.getElem?_append_right (by omega)] at q
      rw [List.getElem?_replicate] at q
      split at q
      · exact Or.inl (Option.some.inj q).symm
      · cases q
  have gS : ∀ (j : Nat), j < es.length → (start N vs)[j]? = (vs.map some)[j]? := fun j z => by
    unfold L2.start
    rw [List.getElem?_append_left (by rw [List.length_map, hl]; exact z)]
  have lt : ∀ (j : Nat) s, es[j]? = some s → j < es.length := fun j s q => (List.getElem?_eq_some_iff.mp q).1
  refine ⟨S.fh, S.ph, S.bp, S.f0, S.fp, ?_, fun j e q => ?_, fun j e q => ?_, fun j s e q r => ?_, fun j e q => ?_, fun j k s t e f q1 q2 r1 r2 r3 => ?_, fun j ns q => ?_, fun j ds q => ?_, S.qp⟩
  · unfold L2.start startE
    rw [List.length_append, List.length_append, List.length_map, List.length_replicate, List.length_replicate, hl]
  · rcases gE j _ q with z | z
    · cases z
    · rw [gS j (lt j _ z)]; exact S.fr j e z
  · rcases gE j _ q with z | z
    · cases z
    · rw [gS j (lt j _ z)]; exact S.bo j e z
  · rcases gE j _ q with z | z
    · subst z; cases r
    · rw [gS j (lt j _ z)]; exact S.ow j s e z r
  · rcases gE j _ q with z | z
    · cases z
    · exact S.io j e z
  · rcases gE j _ q1 with z | z
    · subst z; cases r1
    · rcases gE k _ q2 with y | y
      · subst y; cases r2
      · exact S.inj j k s t e f z y r1 r2 r3
  · rcases gE j _ q with z | z
    · cases z
    · rw [gS j (lt j _ z)]; exact S.sc j ns z
  · rcases gE j _ q with z | z
    · cases z
    · rw [gS j (lt j _ z)]; exact S.b2 j ds z
abbrev W0 : WX := fun _ _ _ _ => False
/-- no slot holds an error -/
def Short (δ : En) : Prop := ∀ (i : Nat) (ns : List Int), δ[i]? = some (Sl.sc ns) → ns.length ≤ 1000000
theorem short_entry : ∀ (ks : List PK) (ds : List D), Short (entry ks ds)
  | k :: ks, d :: ds => fun i ns h => by
    cases i with
    | zero => cases k <;> simp [entry, PK.sl] at h
    | succ i => exact short_entry ks ds i ns (by simpa [entry] using h)
  | [], ds => fun i ns h => by simp [entry] at h
  | k :: ks, [] => fun i ns h => by simp [entry] at h
theorem short_nil : Short [] := fun i ns h => by simp at h
theorem short_io {e : D} : Short [.io e] := fun i ns h => by
  cases i with
  | zero => simp at h
  | succ i => simp at h
/-- the context of a body with another wish -/
theorem StOk.wish {C : Cn} {al : Nat → Addr} {F H : Hp} {σ : St} {δ : En} (S : StOk C al F H σ δ) (W : WX) (hs : Short δ) : StOk { C with W := W } al F H σ δ :=
  ⟨S.fh, S.ph, S.bp, S.f0, S.fp, S.len, S.fr, S.bo, S.ow, S.io, S.inj, fun i ns q => by
    obtain ⟨a, h1, h2⟩ := S.sc i ns q
    exact ⟨a, h1, Or.inl (h2.resolve_right fun z => absurd z.1 (by have := hs i ns q; omega))⟩, S.b2, S.qp⟩
theorem StOk.unwish {C : Cn} {al : Nat → Addr} {F H : Hp} {σ : St} {δ : En} {W : WX} (S : StOk { C with W := W } al F H σ δ) (hs : Short δ) : StOk C al F H σ δ :=
  ⟨S.fh, S.ph, S.bp, S.f0, S.fp, S.len, S.fr, S.bo, S.ow, S.io, S.inj, fun i ns q => by
    obtain ⟨a, h1, h2⟩ := S.sc i ns q
    exact ⟨a, h1, Or.inl (h2.resolve_right fun z => absurd z.1 (by have := hs i ns q; omega))⟩, S.b2, S.qp⟩

/-! ### calls -/
def frOk : List PK → List Op → Bool
  | [], [] => true
  | .fr :: ks, .val _ :: os => frOk ks os
  | .bo :: ks, _ :: os => frOk ks os
  | _, _ => false
/-- a call without a thing to be changed -/
def mCall (ks : List PK) (f : List D → Option (R D)) (a : M (List Op)) : M D := a.bind fun os => (mRds os).bind fun ds => fun δ => if frOk ks os then match f ds with
  | some (.ok d _) => some (.ok d δ)
  | some (.ex x _) => some (.ex x δ)
  | none => none else none
theorem entry_get : ∀ {ks : List PK} {ds : List D} {i : Nat} {s : Sl}, (entry ks ds)[i]? = some s → ∃ k d, ks[i]? = some k ∧ ds[i]? = some d ∧ s = k.sl d
  | [], ds, i, s, h => by simp [entry] at h
  | k :: ks, [], i, s, h => by simp [entry] at h
  | k :: ks, d :: ds, 0, s, h => ⟨k, d, rfl, rfl, by simpa [entry] using h.symm⟩
  | k :: ks, d :: ds, i + 1, s, h => by
    obtain ⟨k', d', h1, h2, h3⟩ := entry_get (ks := ks) (ds := ds) (i := i) (s := s) (by simpa [entry] using h)
    exact ⟨k', d', by simpa using h1, by simpa using h2, h3⟩
theorem frOk_get : ∀ {ks : List PK} {os : List Op} {i : Nat} {k : PK}, frOk ks os = true → ks[i]? = some k → k = .bo ∨ (k = .fr ∧ ∃ d, os[i]? = some (.val d))
  | [], os, i, k, h, e => by simp at e
  | .fr :: ks, .val d :: os, 0, k, h, e => by
    have : PK.fr = k := by simpa using e
    exact Or.inr ⟨this.symm, d, rfl⟩
  | .bo :: ks, o :: os, 0, k, h, e => by
    have : PK.bo = k := by simpa using e
    exact Or.inl this.symm
  | .fr :: ks, .val d :: os, i + 1, k, h, e => by
    rcases frOk_get (ks := ks) (os := os) (i := i) (k := k) h (by simpa using e) with z | ⟨z, d', z2⟩
    · exact Or.inl z
    · exact Or.inr ⟨z, d', by simpa using z2⟩
  | .bo :: ks, o :: os, i + 1, k, h, e => by
    rcases frOk_get (ks := ks) (os := os) (i := i) (k := k) h (by simpa using e) with z | ⟨z, d', z2⟩
    · exact Or.inl z
    · exact Or.inr ⟨z, d', by simpa using z2⟩
  | .io :: ks, o :: os, i, k, h, e => by simp [frOk] at h
  | .fr :: ks, .slot j :: os, i, k, h, e => by simp [frOk] at h
  | .fr :: ks, .part j l :: os, i, k, h, e => by simp [frOk] at h
  | .fr :: ks, [], i, k, h, e => by simp [frOk] at h
  | .bo :: ks, [], i, k, h, e => by simp [frOk] at h
  | .io :: ks, [], i, k, h, e => by simp [frOk] at h
theorem frOk_len : ∀ {ks : List PK} {os : List Op}, frOk ks os = true → ks.length = os.length
  | [], [], h => rfl
  | .fr :: ks, .val d :: os, h => by simp [frOk_len (ks := ks) (os := os) h]
  | .bo :: ks, o :: os, h => by simp [frOk_len (ks := ks) (os := os) h]
  | .io :: ks, o :: os, h => by simp [frOk] at h
  | .fr :: ks, .slot j :: os, h => by simp [frOk] at h
  | .fr :: ks, .part j l :: os, h => by simp [frOk] at h
  | .fr :: ks, [], h => by simp [frOk] at h
  | .bo :: ks, [], h => by simp [frOk] at h
  | .io :: ks, [], h => by simp [frOk] at h
  | [], o :: os, h => by simp [frOk] at h
theorem paired_get {α β : Type} {Rr : α → β → Prop} : ∀ {as : List α} {bs : List β} {i : Nat} {b : β}, Paired Rr as bs → bs[i]? = some b → ∃ a, as[i]? = some a ∧ Rr a b
  | _, _, i, b, .nil, e => by simp at e
  | _, _, 0, b, .cons r t, e => by simp at e; subst e; exact ⟨_, rfl, r⟩
  | _, _, i + 1, b, .cons r t, e => by
    obtain ⟨a, h1, h2⟩ := paired_get (i := i) t (by simpa using e)
    exact ⟨a, by simpa using h1, h2⟩
theorem rds_len : ∀ {os : List Op} {δ : En} {ds : List D}, rds os δ = some ds → ds.length = os.length
  | [], δ, ds, h => by cases h; rfl
  | o :: os, δ, ds, h => by
    simp only [rds] at h
    cases e1 : rd o δ with
    | none => simp only [e1] at h; cases h
    | some d =>
      cases e2 : rds os δ with
      | none => simp only [e1, e2] at h; cases h
      | some ds' =>
        simp only [e1, e2] at h
        cases h
        simp [rds_len e2]
theorem rds_get : ∀ {os : List Op} {δ : En} {ds : List D} {i : Nat} {o : Op}, rds os δ = some ds → os[i]? = some o → ∃ d, ds[i]? = some d ∧ rd o δ = some d
  | [], δ, ds, i, o, h, e => by simp at e
  | p :: os, δ, ds, i, o, h, e => by
    simp only [rds] at h
    cases e1 : rd p δ with
    | none => simp only [e1] at h; cases h
    | some d =>
      cases e2 : rds os δ with
      | none => simp only [e1, e2] at h; cases h
      | some ds' =>
        simp only [e1, e2] at h
        cases h
        cases i with
        | zero =>
          have : p = o := by simpa using e
          subst this
          exact ⟨d, rfl, e1⟩
        | succ i =>
          obtain ⟨d', h1, h2⟩ := rds_get (i := i) (o := o) e2 (by simpa using e)
          exact ⟨d', by simpa using h1, h2⟩
/-- no error is let out -/
def NoEx (f : List D → Option (R D)) : Prop := ∀ ds x δ, f ds ≠ some (.ex x δ)
section
variable {K : Fg} {W : WX}
theorem ev_call {ks : List PK} {f : List D → Option (R D)} {a : M (List Op)} {ta : TA} {E : XK} (ha : Ea K W ta a) (hW : (∀ cls dd σ H, W cls dd σ H → E cls dd H) ∨ NoEx f) : Ev K W (tCall (SpD K ks f) [] E ta) (mCall ks f a) := by
  refine J.bind (t2 := fun (vs : List V) (_ : St) (H : Hp) (Q : VK) => SpD K ks f (vs ++ []) H Q E) ha monoT fun os vs => ?_
  intro C hK hWC al F H σ δ S hp r hr Q hok hex
  subst hK
  obtain ⟨ds, h1, hr⟩ := rds_bind hr
  by_cases hf : frOk ks os = true
  · simp only [hf, if_true] at hr
    have hrel : relA C.K F σ vs os := hp.2
    have hP : Paired (fun v d => RepR C.K F H v d) vs ds := S.opds hrel h1
    have lk := frOk_len hf
    have lv : vs.length = os.length := hrel.length
    have ld := rds_len h1
    cases e : f ds with
    | none => simp only [e] at hr; cases hr
    | some q =>
      have St1 : StOk { K := C.K, P := H, B := H, F0 := F, bt := fun _ => 0, W := C.W } (fun _ => 0) F H (vs.map some) (entry ks ds) := by
        have ge : ∀ (i : Nat) s, (entry ks ds)[i]? = some s → ∃ v d, (vs.map some)[i]? = some (some v) ∧ ((s = .bo d ∧ RepR C.K F H v d) ∨ (s = .fr d ∧ Rep C.K F d v)) := fun i s q => by
          obtain ⟨k, d, g1, g2, g3⟩ := entry_get q
          obtain ⟨v, g4, g5⟩ := paired_get hP g2
          refine ⟨v, d, by rw [List.getElem?_map, g4]; rfl, ?_⟩
          rcases frOk_get hf g1 with z | ⟨z, d', z2⟩
          · subst z; exact Or.inl ⟨g3, g5⟩
          · subst z
            refine Or.inr ⟨g3, ?_⟩
            obtain ⟨d2, g6, g7⟩ := rds_get h1 z2
            rw [g2] at g6
            cases g6
            cases g7
            obtain ⟨v', g8, g9⟩ := paired_get hrel z2
            rw [g4] at g8
            cases g8
            exact g9
        refine ⟨S.fh, Same.refl _, Same.refl _, Same.refl _, fun b o q => Or.inl q, by rw [List.length_map, entry_len (by omega)]; omega, fun i d q => ?_, fun i d q => ?_, fun i s d q r => ?_, fun i d q => ?_, fun i j s t d e q1 q2 r1 r2 => ?_, fun i ns q => ?_, fun i ns q => ?_, fun _ _ q => by cases q⟩
        · obtain ⟨v, d', g1, g2 | g2⟩ := ge i _ q
          · cases g2.1
          · cases g2.1; exact ⟨v, g1, g2.2⟩
        · obtain ⟨v, d', g1, g2 | g2⟩ := ge i _ q
          · cases g2.1; exact ⟨v, g1, g2.2⟩
          · cases g2.1
        · obtain ⟨v, d', g1, g2 | g2⟩ := ge i _ q
          · rw [g2.1] at r; cases r
          · rw [g2.1] at r; cases r
        · obtain ⟨v, d', g1, g2 | g2⟩ := ge i _ q
          · cases g2.1
          · cases g2.1
        · obtain ⟨v, d', g1, g2 | g2⟩ := ge i _ q1
          · rw [g2.1] at r1; cases r1
          · rw [g2.1] at r1; cases r1
        · obtain ⟨v, d', g1, g2 | g2⟩ := ge i _ q
          · cases g2.1
          · cases g2.1
        · obtain ⟨v, d', g1, g2 | g2⟩ := ge i _ q
          · cases g2.1
          · cases g2.1
      refine ⟨{ K := C.K, P := H, B := H, F0 := F, bt := fun _ => 0, W := C.W }, fun _ => 0, ds, q, rfl, by rw [List.append_nil]; omega, by omega, (by rw [List.append_nil]; exact St1), e, fun d δ' e1 al' F' H' σ' v s' S' rv => ?_, fun x δ' e1 al' F' H' σ' cls dd s' S' xr => ?_⟩
      · subst e1
        simp only [e] at hr
        cases hr
        have nw : New F H F' H' := ⟨s', S'.fh, S'.ph, S'.fp⟩
        exact hok d δ rfl al F' H' v s' (S.new nw) rv
      · subst e1
        simp only [e] at hr
        cases hr
        have nw : New F H F' H' := ⟨s', S'.fh, S'.ph, S'.fp⟩
        rcases hW with hW | hW
        · exact hW _ _ σ _ (hex x δ rfl al F' H' cls dd s' (S.new nw) xr)
        · exact absurd e (hW _ _ _)
  · simp only [hf] at hr
    cases hr
/-- a call whose first argument, the own object of slot i, is changed -/
def apart (i : Nat) : List Op → Bool
  | [] => true
  | .slot j :: os => j != i && apart i os
  | .val _ :: os => apart i os
  | .part j _ :: os => j != i && apart i os
def reown (s : Sl) (d : D) : Sl := match s with
  | .io _ => .io d
  | _ => .ow d
def ioOut (i : Nat) (s : Sl) (δ δ' : En) : Option En := match δ'[(0 : Nat)]? with
  | some (Sl.io e) => some (δ.set i (reown s e))
  | _ => none
def mCallS1 (i : Nat) (ks : List PK) (f : List D → Option (R D)) (a : M (List Op)) : M D := a.bind fun os => (mRds os).bind fun ds => fun δ => match δ[i]? with
  | some s => match s.own with
    | some c => if frOk ks os && apart i os then match f (c :: ds) with
      | some (.ok d δ') => match ioOut i s δ δ' with
        | some δ2 => some (.ok d δ2)
        | none => none
      | some (.ex x δ') => match ioOut i s δ δ' with
        | some δ2 => some (.ex x δ2)
        | none => none
      | none => none else none
    | none => none
  | none => none
def mCallS (i : Nat) (ks : List PK) (f : List D → Option (R D)) (a : M (List Op)) : M D := fun δ => match δ[i]? with
  | some s => match s.own with
    | some _ => mCallS1 i ks f a δ
    | none => none
  | none => none
theorem apart_get : ∀ {i : Nat} {os : List Op} {j k : Nat}, apart i os = true → os[k]? = some (.slot j) → j ≠ i
  | i, [], j, k, h, e => by simp at e
  | i, .slot l :: os, j, 0, h, e => by
    have : l = j := by simpa using e
    subst this
    simp only [apart, Bool.and_eq_true, bne_iff_ne] at h
    exact h.1
  | i, .val d :: os, j, 0, h, e => by simp at e
  | i, .part l m :: os, j, 0, h, e => by simp at e
  | i, .part l m :: os, j, k + 1, h, e => by
    simp only [apart, Bool.and_eq_true] at h
    exact apart_get (os := os) (k := k) h.2 (by simpa using e)
  | i, .slot l :: os, j, k + 1, h, e => by
    simp only [apart, Bool.and_eq_true] at h
    exact apart_get (os := os) (k := k) h.2 (by simpa using e)
  | i, .val d :: os, j, k + 1, h, e => apart_get (os := os) (k := k) h (by simpa using e)
theorem reown_own {s : Sl} {d : D} : (reown s d).own = some d := by cases s <;> rfl
theorem reown_io {s : Sl} {d z : D} (h : reown s d = .io z) : ∃ y, s = .io y := by
  cases s with
  | io y => exact ⟨y, rfl⟩
  | _ => cases h
/-- behind such a call -/
theorem StOk.back {C : Cn} {al : Nat → Addr} {F H F' H' : Hp} {σ : St} {δ : En} {i : Nat} {s : Sl} {c e : D} (S : StOk C al F H σ δ) (hi : δ[i]? = some s) (hs : s.own = some c)
    (ff : Same F F') (fh : Same F' H') (pc : ∀ a o, a ≠ al i → H a = some o → H' a = some o) (fp : ∀ a o, F' a = some o → F a = some o ∨ a = al i ∨ H a = none) (nF : F' (al i) = none) (ro : RepO C.K F' H' (al i) e) :
    StOk C al F' H' σ (δ.set i (reown s e)) := by
  obtain ⟨h1, h2, h3, h4⟩ := S.ow i s c hi hs
  have li : i < δ.length := (List.getElem?_eq_some_iff.mp hi).1
  have key : ∀ (j : Nat) (u : Sl), (δ.set i (reown s e))[j]? = some u → (j = i ∧ u = reown s e) ∨ (j ≠ i ∧ δ[j]? = some u) := fun j u e => by
    by_cases q : j = i
    · subst q
      rw [List.getElem?_set_self li] at e
      exact Or.inl ⟨rfl, (Option.some.inj e).symm⟩
    · rw [List.getElem?_set_ne (Ne.symm q)] at e
      exact Or.inr ⟨q, e⟩
  have ne : ∀ d, reown s e ≠ .fr d ∧ reown s e ≠ .bo d := fun d => ⟨fun z => (by
      have hz := reown_own (s := s) (d := e)
      rw [z] at hz
      cases hz), fun z => (by
      have hz := reown_own (s := s) (d := e)
      rw [z] at hz
      cases hz)⟩
  refine ⟨fh, fun a o q => pc a o (ne_of_none q h3) (S.ph a o q), S.bp, S.f0.trans ff, fun a o q => ?_, by rw [List.length_set]; exact S.len, fun j d q => ?_, fun j d q => ?_, fun j u d q r => ?_, fun j d q => ?_, fun j k u v d f q1 q2 r1 r2 r3 => ?_, fun j ns q => ?_, fun j es q => ?_, S.qp⟩
  · rcases fp a o q with z | z | z
    · exact S.fp a o z
    · rw [z]; exact Or.inr h3
    · exact Or.inr (S.ph.free z)
  · rcases key j _ q with ⟨ej, z⟩ | ⟨n, q⟩
    · exact absurd z.symm (ne d).1
    · obtain ⟨v, g1, g2⟩ := S.fr j d q
      exact ⟨v, g1, g2.mono ff⟩
  · rcases key j _ q with ⟨ej, z⟩ | ⟨n, q⟩
    · exact absurd z.symm (ne d).2
    · obtain ⟨v, g1, g2⟩ := S.bo j d q
      exact ⟨v, g1, g2.mono ff (Same.refl _)⟩
  · rcases key j _ q with ⟨ej, z⟩ | ⟨n, q⟩
    · subst z
      rw [reown_own] at r
      cases r
      rw [ej]
      exact ⟨h1, nF, h3, ro⟩
    · obtain ⟨g1, g2, g3, g4⟩ := S.ow j u d q r
      have na : al j ≠ al i := fun z => n (S.inj j i u s d c q hi r hs z)
      refine ⟨g1, ?_, g3, g4.mono ff fun o z => pc _ o na z⟩
      cases z : F' (al j) with
      | none => rfl
      | some o =>
        rcases fp _ _ z with y | y | y
        · rw [g2] at y; cases y
        · exact absurd y na
        · obtain ⟨o', ho⟩ := g4.there
          rw [ho] at y; cases y
  · rcases key j _ q with ⟨ej, z⟩ | ⟨n, q⟩
    · obtain ⟨y, hy⟩ := reown_io z.symm
      rw [ej]
      exact S.io i y (by rw [hi, hy])
    · exact S.io j d q
  · rcases key j _ q1 with ⟨ej, z⟩ | ⟨n, p1⟩
    · rcases key k _ q2 with ⟨ek, z2⟩ | ⟨n2, p2⟩
      · rw [ej, ek]
      · rw [ej] at r3 ⊢
        exact S.inj i k s v c f hi p2 hs r2 r3
    · rcases key k _ q2 with ⟨ek, z2⟩ | ⟨n2, p2⟩
      · rw [ek] at r3 ⊢
        exact S.inj j i u s d c p1 hi r1 hs r3
      · exact S.inj j k u v d f p1 p2 r1 r2 r3
  · rcases key j _ q with ⟨ej, z⟩ | ⟨n, q⟩
    · have := reown_own (s := s) (d := e)
      rw [← z] at this
      cases this
    · exact S.sc j ns q
  · rcases key j _ q with ⟨ej, z⟩ | ⟨n, q⟩
    · exact absurd z (by cases s <;> (intro w; cases w))
    · obtain ⟨vs, g1, g2, g3⟩ := S.b2 j es q
      exact ⟨vs, g1, ff _ _ g2, g3.mono (Same.refl _) ff⟩
/-- at the entry of such a call -/
theorem StOk.enter {C : Cn} {al : Nat → Addr} {F H : Hp} {σ : St} {δ : En} {i : Nat} {s : Sl} {c : D} {ks : List PK} {os : List Op} {ds : List D} {vs : List V} (S : StOk C al F H σ δ) (hi : δ[i]? = some s) (hs : s.own = some c)
    (hf : frOk ks os = true) (ha : apart i os = true) (hrel : relA C.K F σ vs os) (h1 : rds os δ = some ds) :
    StOk { K := C.K, P := fun a => if a = al i then none else H a, B := fun a => if a = al i then none else H a, F0 := F, bt := fun _ => al i, W := C.W } (fun _ => al i) F H ((V.ref (al i) :: vs).map some) (entry (.io :: ks) (c :: ds)) := by
  obtain ⟨o1, o2, o3, o4⟩ := S.ow i s c hi hs
  have hP : Paired (fun v d => RepR C.K F H v d) vs ds := S.opds hrel h1
  have lk := frOk_len hf
  have lv : vs.length = os.length := hrel.length
  have ld := rds_len h1
  have pH : Same (fun a => if a = al i then none else H a) H := fun a o q => by
    by_cases z : a = al i
    · simp [z] at q
    · simpa [z] using q
  have ge : ∀ (i' : Nat) s, (entry ks ds)[i']? = some s → ∃ v d, (vs.map some)[i']? = some (some v) ∧ ((s = .bo d ∧ RepR C.K F (fun a => if a = al i then none else H a) v d) ∨ (s = .fr d ∧ Rep C.K F d v)) := fun i' s' q => by
    obtain ⟨k, d, g1, g2, g3⟩ := entry_get q
    obtain ⟨v, g4, g5⟩ := paired_get hP g2
    refine ⟨v, d, by rw [List.getElem?_map, g4]; rfl, ?_⟩
    rcases frOk_get hf g1 with z | ⟨z, d', z2⟩
    · subst z
      refine Or.inl ⟨g3, ?_⟩
      -- which operand is it
      have lo : i' < os.length := by have := (List.getElem?_eq_some_iff.mp g2).1; omega
      have ho : os[i']? = some os[i'] := List.getElem?_eq_getElem lo
      obtain ⟨d2, g6, g7⟩ := rds_get h1 ho
      rw [g2] at g6
      cases g6
      obtain ⟨v', g8, g9⟩ := paired_get hrel ho
      rw [g4] at g8
      cases g8
      cases e : os[i'] with
      | val d3 =>
        rw [e] at g7 g9
        cases g7
        exact Or.inl g9
      | part j k =>
        rw [e] at g7 g9
        obtain ⟨p, ws, y1, y2, y3⟩ := g9
        simp only [rd] at g7
        cases e2 : δ[j]? with
        | none => rw [e2] at g7; cases g7
        | some sj =>
          rw [e2] at g7
          cases sj with
          | b2 es =>
            obtain ⟨us, x1, x2, x3⟩ := S.b2 j es e2
            rw [y1] at x1
            cases x1
            rw [y2] at x2
            cases x2
            obtain ⟨b, rfl, rb⟩ := parts_get x3 y3 g7
            refine Or.inr ⟨b, rfl, rb.mono (Same.refl _) fun o q => ?_⟩
            have q' := S.qp _ _ q
            have : b ≠ al i := ne_of_none q' o3
            simp only [this, if_false]
            exact S.ph _ o q'
          | _ => cases g7
      | slot j =>
        rw [e] at ho g7 g9
        have nj : j ≠ i := apart_get ha ho
        simp only [rd] at g7
        cases e2 : δ[j]? with
        | none => rw [e2] at g7; cases g7
        | some sj =>
          rw [e2] at g7
          have g9 : σ[j]? = some (some v) := g9
          cases sj with
          | un => cases g7
          | sc ns => cases g7
          | b2 ds => cases g7
          | fr d3 =>
            cases g7
            obtain ⟨u, y1, y2⟩ := S.fr j d e2
            rw [g9] at y1; cases y1
            exact Or.inl y2
          | bo d3 =>
            cases g7
            obtain ⟨u, y1, y2⟩ := S.bo j d e2
            rw [g9] at y1; cases y1
            refine y2.mono (Same.refl _) fun a o q => ?_
            have q' := S.bp a o q
            have : a ≠ al i := ne_of_none q' o3
            simp only [this, if_false]
            exact S.ph a o q'
          | ow d3 =>
            cases g7
            obtain ⟨y1, y2, y3, y4⟩ := S.ow j _ d e2 rfl
            rw [g9] at y1; cases y1
            refine Or.inr ⟨al j, rfl, y4.mono (Same.refl _) fun o z => ?_⟩
            have : al j ≠ al i := fun w => nj (S.inj j i _ s d c e2 hi rfl hs w)
            simp only [this, if_false]
            exact z
          | io d3 =>
            cases g7
            obtain ⟨y1, y2, y3, y4⟩ := S.ow j _ d e2 rfl
            rw [g9] at y1; cases y1
            refine Or.inr ⟨al j, rfl, y4.mono (Same.refl _) fun o z => ?_⟩
            have : al j ≠ al i := fun w => nj (S.inj j i _ s d c e2 hi rfl hs w)
            simp only [this, if_false]
            exact z
    · subst z
      refine Or.inr ⟨g3, ?_⟩
      obtain ⟨d2, g6, g7⟩ := rds_get h1 z2
      rw [g2] at g6
      cases g6
      cases g7
      obtain ⟨v', g8, g9⟩ := paired_get hrel z2
      rw [g4] at g8
      cases g8
      exact g9
  have g0 : ∀ (j : Nat) s', (entry (.io :: ks) (c :: ds))[j]? = some s' → (j = 0 ∧ s' = .io c) ∨ ∃ v d, ((V.ref (al i) :: vs).map some)[j]? = some (some v) ∧ ((s' = .bo d ∧ RepR C.K F (fun a => if a = al i then none else H a) v d) ∨ (s' = .fr d ∧ Rep C.K F d v)) := fun j s' q => by
    cases j with
    | zero => exact Or.inl ⟨rfl, by simpa [entry, PK.sl] using q.symm⟩
    | succ j =>
      obtain ⟨v, d, y1, y2⟩ := ge j s' (by simpa [entry] using q)
      exact Or.inr ⟨v, d, by simpa using y1, y2⟩
  refine ⟨S.fh, pH, Same.refl _, Same.refl _, fun b o q => Or.inl q, ?_, fun j d q => ?_, fun j d q => ?_, fun j u d q r => ?_, fun j d q => rfl, fun j k u v d f q1 q2 r1 r2 r3 => ?_, fun j ns q => ?_, fun j ns q => ?_, fun _ _ q => by cases q⟩
  · show ((V.ref (al i) :: vs).map some).length = (PK.io.sl c :: entry ks ds).length
    rw [List.length_map, List.length_cons, List.length_cons, entry_len (by omega)]
    omega
  · rcases g0 j _ q with ⟨_, z⟩ | ⟨v, d', y1, y2 | y2⟩
    · cases z
    · cases y2.1
    · cases y2.1; exact ⟨v, y1, y2.2⟩
  · rcases g0 j _ q with ⟨_, z⟩ | ⟨v, d', y1, y2 | y2⟩
    · cases z
    · cases y2.1; exact ⟨v, y1, y2.2⟩
    · cases y2.1
  · rcases g0 j _ q with ⟨z1, z⟩ | ⟨v, d', y1, y2 | y2⟩
    · subst z
      cases r
      subst z1
      exact ⟨rfl, o2, by simp, o4⟩
    · rw [y2.1] at r; cases r
    · rw [y2.1] at r; cases r
  · rcases g0 j _ q1 with ⟨z1, z⟩ | ⟨v', d', y1, y2 | y2⟩
    · rcases g0 k _ q2 with ⟨z3, z4⟩ | ⟨v', d', y1, y2 | y2⟩
      · rw [z1, z3]
      · rw [y2.1] at r2; cases r2
      · rw [y2.1] at r2; cases r2
    · rw [y2.1] at r1; cases r1
    · rw [y2.1] at r1; cases r1
  · rcases g0 j _ q with ⟨_, z⟩ | ⟨v, d', y1, y2 | y2⟩
    · cases z
    · cases y2.1
    · cases y2.1
  · rcases g0 j _ q with ⟨_, z⟩ | ⟨v, d', y1, y2 | y2⟩
    · cases z
    · cases y2.1
    · cases y2.1
theorem io_behind {C : Cn} {al al' : Nat → Addr} {F H F' H' : Hp} {σ σ' : St} {δ δ' : En} {i : Nat} {s : Sl} {c e : D} {W' : WX} (S : StOk C al F H σ δ) (hi : δ[i]? = some s) (hs : s.own = some c)
    (S' : StOk { K := C.K, P := fun a => if a = al i then none else H a, B := fun a => if a = al i then none else H a, F0 := F, bt := fun _ => al i, W := W' } al' F' H' σ' δ') (he : δ'[0]? = some (.io e)) : StOk C al F' H' σ (δ.set i (reown s e)) := by
  obtain ⟨y1, y2, y3, y4⟩ := S'.ow 0 _ e he rfl
  have e0 : al' 0 = al i := S'.io 0 e he
  rw [e0] at y2 y4
  refine S.back hi hs S'.f0 S'.fh (fun a o n q => S'.ph a o ?_) (fun a o q => ?_) y2 y4
  · simp only [n, if_false]
    exact q
  · rcases S'.fp a o q with z | z
    · exact Or.inl z
    · by_cases w : a = al i
      · exact Or.inr (Or.inl w)
      · refine Or.inr (Or.inr ?_)
        have z' : (if a = al i then none else H a) = none := z
        simpa [w] using z'
theorem ev_callS {i : Nat} {ks : List PK} {f : List D → Option (R D)} {a : M (List Op)} {ta : TA} {E : XK} (ha : Ea K W ta a) (hW : (∀ cls dd σ H, W cls dd σ H → E cls dd H) ∨ NoEx f) :
    Ev K W (tCall (SpD K (.io :: ks) f) [] E (tCons (tVar i) ta)) (mCallS i ks f a) := by
  intro C hK hWC al F H σ δ S hp r hr Q hok hex
  subst hK
  unfold mCallS at hr
  cases q0 : δ[i]? with
  | none => simp only [q0] at hr; cases hr
  | some s0 =>
    cases q1 : s0.own with
    | none => simp only [q0, q1] at hr; cases hr
    | some c0 =>
      simp only [q0, q1] at hr
      obtain ⟨hv, _, _, _⟩ := S.ow i s0 c0 q0 q1
      refine ⟨_, hv, ?_⟩
      cases e0 : a δ with
      | none => unfold mCallS1 M.bind at hr; rw [e0] at hr; cases hr
      | some r0 =>
        refine ha C rfl hWC al F H σ δ S trivial r0 e0 _ (fun os δ1 e' al1 F1 H1 vs s1 S1 rl => ?_) fun x δ1 e' al1 F1 H1 cls dd s1 S1 xr => ?_
        · subst e'
          unfold mCallS1 at hr
          rw [M.bind_ok e0] at hr
          obtain ⟨ds, h1, hr⟩ := rds_bind hr
          cases e1 : δ1[i]? with
          | none => simp only [e1] at hr; cases hr
          | some s =>
            cases e2 : s.own with
            | none => simp only [e1, e2] at hr; cases hr
            | some c =>
              by_cases hf : (frOk ks os && apart i os) = true
              · simp only [e1, e2, hf, if_true] at hr
                obtain ⟨hf1, hf2⟩ := Bool.and_eq_true_iff.mp hf
                obtain ⟨o1, o2, o3, o4⟩ := S1.ow i s c e1 e2
                have ea : al i = al1 i := by
                  rw [hv] at o1
                  exact V.ref.inj (Option.some.inj (Option.some.inj o1))
                rw [ea]
                have St1 := S1.enter e1 e2 hf1 hf2 rl h1
                cases e3 : f (c :: ds) with
                | none => simp only [e3] at hr; cases hr
                | some q =>
                  have lk := frOk_len hf1
                  have lv : vs.length = os.length := rl.length
                  have ld := rds_len h1
                  refine ⟨{ K := C.K, P := fun a => if a = al1 i then none else H1 a, B := fun a => if a = al1 i then none else H1 a, F0 := F1, bt := fun _ => al1 i, W := C.W }, fun _ => al1 i, c :: ds, q, rfl, by rw [List.append_nil]; simp; omega, by simp; omega, (by rw [List.append_nil]; exact St1), e3, fun d δ2 e4 al' F' H' σ' v s' S' rv => ?_, fun x δ2 e4 al' F' H' σ' cls dd s' S' xr => ?_⟩
                  · subst e4
                    simp only [e3] at hr
                    unfold ioOut at hr
                    cases e5 : δ2[0]? with
                    | none => simp only [e5] at hr; cases hr
                    | some s0 =>
                      cases s0 with
                      | io e =>
                        simp only [e5] at hr
                        cases hr
                        exact hok d _ rfl al1 F' H' v (s1.trans s') (io_behind S1 e1 e2 S' e5) rv
                      | _ => simp only [e5] at hr; cases hr
                  · subst e4
                    simp only [e3] at hr
                    unfold ioOut at hr
                    cases e5 : δ2[0]? with
                    | none => simp only [e5] at hr; cases hr
                    | some s0 =>
                      cases s0 with
                      | io e =>
                        simp only [e5] at hr
                        cases hr
                        rcases hW with hW | hW
                        · exact hW _ _ σ _ (hex x _ rfl al1 F' H' cls dd (s1.trans s') (io_behind S1 e1 e2 S' e5) xr)
                        · exact absurd e3 (hW _ _ _)
                      | _ => simp only [e5] at hr; cases hr
              · simp only [e1, e2, hf] at hr
                cases hr
        · subst e'
          unfold mCallS1 at hr
          rw [M.bind_ex e0] at hr
          cases hr
          exact hex x δ1 rfl al1 F1 H1 cls dd s1 S1 xr
end
end DL

set_option Elab.async false
set_option linter.all false
set_option maxRecDepth 100000
set_option maxHeartbeats 400000
/-! DLf: the primitives. -/
namespace DL
open PySem L2
section
variable {K : Fg} {F H : Hp} {v w : V}
theorem RepR.non (h : RepR K F H v .non) : v = .non := by
  rcases h with h | ⟨a, _, h⟩
  · exact Rep.non_iff.mp h
  · exact h.elim
theorem RepR.bl {b : Bool} (h : RepR K F H v (.bl b)) : v = .bl b := by
  rcases h with h | ⟨a, _, h⟩
  · exact Rep.bl_iff.mp h
  · exact h.elim
theorem RepR.int {i : Int} (h : RepR K F H v (.int i)) : v = .int i := by
  rcases h with h | ⟨a, _, h⟩
  · exact Rep.int_iff.mp h
  · exact h.elim
theorem RepR.str {x : Str} (h : RepR K F H v (.str x)) : v = .str x := by
  rcases h with h | ⟨a, _, h⟩
  · exact Rep.str_iff.mp h
  · exact h.elim
theorem RepR.tup {ds : List D} (h : RepR K F H v (.tup ds)) : ∃ a vs, v = .ref a ∧ TupR K F a vs ∧ ds.length ≤ LB ∧ Reps K F ds vs := by
  rcases h with h | ⟨a, _, h⟩
  · exact Rep.tup_iff.mp h
  · exact h.elim
theorem RepR.lst {ds : List D} (h : RepR K F H v (.lst ds)) (fh : Same F H) : ∃ a vs, v = .ref a ∧ H a = some (.lst vs) ∧ ds.length ≤ LB ∧ Reps K F ds vs := by
  rcases h with h | ⟨a, e, vs, h1, h2, h3⟩
  · obtain ⟨a, vs, e, h1, h2, h3⟩ := Rep.lst_iff.mp h
    exact ⟨a, vs, e, fh _ _ h1, h2, h3⟩
  · exact ⟨a, vs, e, h1, h2, h3⟩
theorem RepR.ins {C : Addr} {ns : List Str} {ds : List D} (h : RepR K F H v (.ins C ns ds)) (fh : Same F H) : ∃ a dx vs, v = .ref a ∧ H a = some (.ins C dx (ns.zip vs)) ∧ ns.length = ds.length ∧ Reps K F ds vs := by
  rcases h with h | ⟨a, e, dx, vs, h1, h2, h3⟩
  · obtain ⟨a, dx, vs, e, h1, h2, h3⟩ := Rep.ins_iff.mp h
    exact ⟨a, dx, vs, e, fh _ _ h1, h2, h3⟩
  · exact ⟨a, dx, vs, e, h1, h2, h3⟩
theorem RepR.dk {ks : List Key} {ds : List D} (h : RepR K F H v (.dk ks ds)) (fh : Same F H) : ∃ a vs, v = .ref a ∧ Rd H a (.dK (ks.zip vs)) ∧ ks.length = ds.length ∧ ds.length ≤ LB ∧ Reps K F ds vs := by
  rcases h with h | ⟨a, e, vs, h1, h2, h3, h4⟩
  · obtain ⟨a, vs, e, h1, h2, h3, h4⟩ := Rep.dk_iff.mp h
    exact ⟨a, vs, e, same_rd fh h1, h2, h3, h4⟩
  · exact ⟨a, vs, e, Or.inl h1, h2, h3, h4⟩
theorem RepR.fn {f : Addr} (h : RepR K F H v (.fn f)) : v = .ref f := by
  rcases h with h | ⟨a, e, h⟩
  · exact Rep.fn_iff.mp h
  · exact h.elim
theorem RepR.dn {hs : List Int} {ks ds : List D} (h : RepR K F H v (.dn hs ks ds)) (fh : Same F H) : ∃ a o bs vs nks, v = .ref a ∧ H a = some (dnO a o hs bs vs) ∧ keysT ks = some nks ∧ nks.Nodup ∧ hs.length = ks.length ∧ ks.length = ds.length ∧ ds.length ≤ LB ∧ Reps K F ks (bs.map V.ref) ∧ Reps K F ds vs := by
  rcases h with h | ⟨a, e, o, bs, vs, nks, h1, h2, h3, h4, h5, h6, h7, h8⟩
  · obtain ⟨a, o, bs, vs, nks, e, h1, h2⟩ := Rep.dn_iff.mp h
    exact ⟨a, o, bs, vs, nks, e, fh _ _ h1, h2⟩
  · exact ⟨a, o, bs, vs, nks, e, h1, h2, h3, h4, h5, h6, h7, h8⟩
/-- all is data in the heap as it stands -/
theorem RepR.full {d : D} (h : RepR K F H v d) (fh : Same F H) : Rep K H d v := by
  rcases h with h | ⟨a, e, h⟩
  · exact h.mono fh
  · cases d with
    | lst ds => obtain ⟨vs, h1, h2, h3⟩ := h; exact Rep.lst_iff.mpr ⟨a, vs, e, h1, h2, h3.mono fh⟩
    | ins C ns ds => obtain ⟨dx, vs, h1, h2, h3⟩ := h; exact Rep.ins_iff.mpr ⟨a, dx, vs, e, h1, h2, h3.mono fh⟩
    | dk ks ds => obtain ⟨vs, h1, h2, h3, h4⟩ := h; exact Rep.dk_iff.mpr ⟨a, vs, e, Or.inl h1, h2, h3, h4.mono fh⟩
    | dn hs ks ds => obtain ⟨o, bs, vs, nks, h1, h2, h3, h4, h5, h6, h7, h8⟩ := h; exact Rep.dn_iff.mpr ⟨a, o, bs, vs, nks, e, h1, h2, h3, h4, h5, h6, h7.mono fh, h8.mono fh⟩
    | _ => exact h.elim
end

/-! ### numbers -/
section
variable {K : Fg}
def fI (C : Int → Int → Bool) (g : Int → Int → D) : D → D → Option D
  | .int i, .int j => if C i j then some (g i j) else none
  | _, _ => none
theorem prim_I {C : Int → Int → Prop} {Cb : Int → Int → Bool} {gv : Int → Int → V} {gd : Int → Int → D} (hc : ∀ i j, Cb i j = true → C i j) (hg : ∀ i j F, Rep K F (gd i j) (gv i j)) : Prim2 K (rI C gv) (fI Cb gd) := by
  intro F H v w d e z fh hv hw hf Q k
  match d, e, hf with
  | .int i, .int j, hf =>
    have hf : (if Cb i j = true then some (gd i j) else none) = some z := hf
    obtain ⟨h1, rfl⟩ := if_some hf
    exact ⟨i, j, hv.int, hw.int, hc i j h1, k F H _ (New.refl fh) (hg i j F)⟩
def fI0 (g : Int → Int → D) : D → D → Option D
  | .int i, .int j => some (g i j)
  | _, _ => none
theorem prim_I0 {gv : Int → Int → V} {gd : Int → Int → D} (hg : ∀ i j F, Rep K F (gd i j) (gv i j)) : Prim2 K (rI0 gv) (fI0 gd) := by
  intro F H v w d e z fh hv hw hf Q k
  match d, e, hf with
  | .int i, .int j, hf =>
    cases hf
    exact ⟨i, j, hv.int, hw.int, k F H _ (New.refl fh) (hg i j F)⟩
theorem Prim2.or {r r' : R2} {f g : D → D → Option D} (h : Prim2 K r f) (h' : Prim2 K r' g) : Prim2 K (fun x y H Q => r x y H Q ∨ r' x y H Q) (fun d e => (f d e).or (g d e)) := by
  intro F H v w d e z fh hv hw hf Q k
  have hf : (f d e).or (g d e) = some z := hf
  cases q : f d e with
  | none => rw [q] at hf; exact Or.inr (h' F H v w d e z fh hv hw hf Q k)
  | some y =>
    rw [q] at hf
    have hy : y = z := Option.some.inj hf
    subst hy
    exact Or.inl (h F H v w d e y fh hv hw q Q k)
theorem Prim1.or {r r' : V → Hp → VK → Prop} {f g : D → Option D} (h : Prim1 K r f) (h' : Prim1 K r' g) : Prim1 K (fun x H Q => r x H Q ∨ r' x H Q) (fun d => (f d).or (g d)) := by
  intro F H v d z fh hv hf Q k
  have hf : (f d).or (g d) = some z := hf
  cases q : f d with
  | none => rw [q] at hf; exact Or.inr (h' F H v d z fh hv hf Q k)
  | some y =>
    rw [q] at hf
    have hy : y = z := Option.some.inj hf
    subst hy
    exact Or.inl (h F H v d y fh hv q Q k)
theorem PrimA.or {r r' : List V → Hp → VK → Prop} {f g : List D → Option D} (h : PrimA K r f) (h' : PrimA K r' g) : PrimA K (fun x H Q => r x H Q ∨ r' x H Q) (fun d => (f d).or (g d)) := by
  intro F H v d z fh hv hf Q k
  have hf : (f d).or (g d) = some z := hf
  cases q : f d with
  | none => rw [q] at hf; exact Or.inr (h' F H v d z fh hv hf Q k)
  | some y =>
    rw [q] at hf
    have hy : y = z := Option.some.inj hf
    subst hy
    exact Or.inl (h F H v d y fh hv q Q k)
def small64 (i : Int) : Bool := decide (-(2 ^ 64) < i) && decide (i < 2 ^ 64)
def mulOk (i j : Int) : Bool := small64 i || small64 j
theorem prim_mul : Prim2 K (rI CMul fun i j => .int (i * j)) (fI mulOk fun i j => .int (i * j)) := prim_I (fun i j h => by
  unfold mulOk small64 at h
  simp only [Bool.or_eq_true, Bool.and_eq_true, decide_eq_true_eq] at h
  exact h) fun i j F => Rep.int_iff.mpr rfl
def divOk (_ j : Int) : Bool := decide (0 < j) && decide (j < 1073741824)
theorem prim_div : Prim2 K (rI CDiv fun i j => .int (i / j)) (fI divOk fun i j => .int (i / j)) := prim_I (fun i j h => by
  unfold divOk at h
  simp only [Bool.and_eq_true, decide_eq_true_eq] at h
  exact h) fun i j F => Rep.int_iff.mpr rfl
def modOk (_ j : Int) : Bool := decide (0 < j)
theorem prim_mod : Prim2 K (rI (fun _ j => 0 < j) fun i j => .int (i % j)) (fI modOk fun i j => .int (i % j)) := prim_I (fun i j h => by
  unfold modOk at h
  simpa using h) fun i j F => Rep.int_iff.mpr rfl
def powOk (i j : Int) : Bool := decide (0 ≤ j) && (decide (j ≤ 1000000) && decide (i.natAbs < 2 ^ 64))
theorem prim_pow : Prim2 K (rI CPow fun i j => .int (i ^ j.toNat)) (fI powOk fun i j => .int (i ^ j.toNat)) := prim_I (fun i j h => by
  unfold powOk at h
  simp only [Bool.and_eq_true, decide_eq_true_eq] at h
  exact h) fun i j F => Rep.int_iff.mpr rfl
theorem prim_addI : Prim2 K (rI0 fun i j => .int (i + j)) (fI0 fun i j => .int (i + j)) := prim_I0 fun i j F => Rep.int_iff.mpr rfl
theorem prim_ltI : Prim2 K (rI0 fun i j => .bl (decide (i < j))) (fI0 fun i j => .bl (decide (i < j))) := prim_I0 fun i j F => Rep.bl_iff.mpr rfl
theorem prim_leI : Prim2 K (rI0 fun i j => .bl (decide (i ≤ j))) (fI0 fun i j => .bl (decide (i ≤ j))) := prim_I0 fun i j F => Rep.bl_iff.mpr rfl
theorem prim_gtI : Prim2 K (rI0 fun i j => .bl (decide (j < i))) (fI0 fun i j => .bl (decide (j < i))) := prim_I0 fun i j F => Rep.bl_iff.mpr rfl
theorem prim_geI : Prim2 K (rI0 fun i j => .bl (decide (j ≤ i))) (fI0 fun i j => .bl (decide (j ≤ i))) := prim_I0 fun i j F => Rep.bl_iff.mpr rfl

/-! ### + of numbers, texts, lists, tuples -/
def rStrCat : R2 := fun x y H Q => ∃ i j : Str, x = .str i ∧ y = .str j ∧ i.length + j.length ≤ sizeLine ∧ Q (.str (i ++ j)) H
def fStrCat : D → D → Option D
  | .str i, .str j => if i.length + j.length ≤ 1000000 then some (.str (i ++ j)) else none
  | _, _ => none
theorem prim_strCat : Prim2 K rStrCat fStrCat := by
  intro F H v w d e z fh hv hw hf Q k
  match d, e, hf with
  | .str i, .str j, hf =>
    obtain ⟨h1, rfl⟩ := if_some (show (if i.length + j.length ≤ 1000000 then some (D.str (i ++ j)) else none) = some z from hf)
    exact ⟨i, j, hv.str, hw.str, LB_size h1, k F H _ (New.refl fh) (Rep.str_iff.mpr rfl)⟩
def fCatL : D → D → Option D
  | .lst xs, .lst ys => if xs.length + ys.length ≤ 1000000 then some (.lst (xs ++ ys)) else none
  | _, _ => none
theorem prim_catL : Prim2 K rCat fCatL := by
  intro F H v w d e z fh hv hw hf Q k
  match d, e, hf with
  | .lst xs, .lst ys, hf =>
    obtain ⟨h1, rfl⟩ := if_some (show (if xs.length + ys.length ≤ 1000000 then some (D.lst (xs ++ ys)) else none) = some z from hf)
    obtain ⟨a, vs, rfl, g1, g2, g3⟩ := hv.lst fh
    obtain ⟨b, us, rfl, g4, g5, g6⟩ := hw.lst fh
    refine ⟨a, b, vs, us, rfl, rfl, g1, g4, by rw [g3.len, g6.len]; exact LB_size h1, fun p hp => ?_⟩
    have n : New F H (upd F p (.lst (vs ++ us))) (upd H p (.lst (vs ++ us))) := New.lay fh hp
    exact k _ _ _ n (Rep.lst_iff.mpr ⟨p, _, rfl, upd_same, by rw [List.length_append]; exact h1, (g3.app g6).mono n.ff⟩)
/-- t + u, the new tuple's object known -/
def rCatZ (K : Fg) : R2 := fun x y H Q => ∃ a b xs ys, x = .ref a ∧ y = .ref b ∧ SqT K H a xs ∧ SqT K H b ys ∧ xs.length + ys.length ≤ sizeLine ∧
  (xs = [] → Q (.ref b) H) ∧ (xs ≠ [] → ys = [] → Q (.ref a) H) ∧ (xs ≠ [] → ys ≠ [] → ∀ p o, H p = none → Obj.dict o = none → Q (.ref p) (upd H p (.frz o (.tup (xs ++ ys)))))
theorem op_catZ {X : Cx} : OpR X (binaryOp .Add) (rCatZ X.K) := by
  intro pins s σ H x y v u Q I rx ry h
  obtain ⟨a, b, xs, ys, rfl, rfl, ha, hb, hz, q0, q1, q2⟩ := h
  by_cases hx : xs = []
  · exact op_catA pins s σ H _ _ v u Q I rx ry ⟨a, b, xs, ys, rfl, rfl, ha, hb, hz, q0, fun h => absurd hx h, fun h => absurd hx h⟩
  · by_cases hy : ys = []
    · exact op_catA pins s σ H _ _ v u Q I rx ry ⟨a, b, xs, ys, rfl, rfl, ha, hb, hz, fun h => absurd h hx, fun _ h => q1 hx h, fun _ h => absurd hy h⟩
    · cases rx
      cases ry
      obtain ⟨us, r1, p1, _⟩ := I.tuple ha
      obtain ⟨ws, r2, p2, _⟩ := I.tuple hb
      refine HT.cat_tup p1 p2 (fun z => hx (r1.nil_iff.mp z)) (fun z => absurd (r2.nil_iff.mp z) hy) (fun _ => ?_) (by rw [← r1.length, ← r2.length]; exact hz)
      refine ⟨.ref s.heap.objs.size, upd H s.heap.objs.size (.frz { cls := .type "tuple", data := .seq (us ++ ws).toArray } (.tup (xs ++ ys))), I.laid (t' := s.toks) (fun b ob q => Heap.get?_push_of_some _ q) (Nat.le_refl _) ?_, rfl, q2 hx hy _ _ (I.hok.fresh (Nat.le_refl _)) rfl⟩
      exact ⟨Heap.get?_push_size _ rfl, by rw [List.length_append]; exact hz, _, r1.append r2, PyProof.Rows.IsTup.new _ _⟩
def fCatT : D → D → Option D
  | .tup xs, .tup ys => if xs.length + ys.length ≤ 1000000 then some (.tup (xs ++ ys)) else none
  | _, _ => none
theorem prim_catZ : Prim2 K (rCatZ K) fCatT := by
  intro F H v w d e z fh hv hw hf Q k
  match d, e, hf with
  | .tup xs, .tup ys, hf =>
    obtain ⟨h1, rfl⟩ := if_some (show (if xs.length + ys.length ≤ 1000000 then some (D.tup (xs ++ ys)) else none) = some z from hf)
    obtain ⟨a, vs, rfl, g1, g2, g3⟩ := hv.tup
    obtain ⟨b, us, rfl, g4, g5, g6⟩ := hw.tup
    have l1 := g3.len
    have l2 := g6.len
    refine ⟨a, b, vs, us, rfl, rfl, same_t fh g1.sq, same_t fh g4.sq, by rw [l1, l2]; exact LB_size h1, fun e1 => ?_, fun _ e1 => ?_, fun _ _ p o hp ho => ?_⟩
    · have : xs = [] := by
        cases xs with
        | nil => rfl
        | cons x xs => rw [e1] at l1; simp at l1
      subst this
      exact k F H _ (New.refl fh) (Rep.tup_iff.mpr ⟨b, us, rfl, g4, g5, g6⟩)
    · have : ys = [] := by
        cases ys with
        | nil => rfl
        | cons x xs => rw [e1] at l2; simp at l2
      subst this
      refine k F H _ (New.refl fh) ?_
      rw [List.append_nil]
      exact Rep.tup_iff.mpr ⟨a, vs, rfl, g1, g2, g3⟩
    · obtain ⟨n, hr⟩ := newT (K := K) fh hp ho (by rw [List.length_append]; exact h1) (g3.app g6)
      exact k _ _ _ n hr
def rAddA (K : Fg) : R2 := fun x y H Q => rI0 (fun i j => .int (i + j)) x y H Q ∨ (rStrCat x y H Q ∨ (rCat x y H Q ∨ rCatZ K x y H Q))
theorem op_addA {X : Cx} : OpR X (binaryOp .Add) (rAddA X.K) := op_add.or (op_add_str.or (op_cat.or op_catZ))
def addD (d e : D) : Option D := (fI0 (fun i j => .int (i + j)) d e).or ((fStrCat d e).or ((fCatL d e).or (fCatT d e)))
theorem prim_add : Prim2 K (rAddA K) addD := prim_addI.or (prim_strCat.or (prim_catL.or prim_catZ))

/-! ### == of data -/
mutual
def toPy : D → Option PyData
  | .non => some .none
  | .bl b => some (.bool b)
  | .int i => some (.int i)
  | .str x => some (.str x)
  | .tup ds => (toPys ds).map .tuple
  | .lst ds => (toPys ds).map .list
  | .ins _ _ _ => none
  | .dk _ _ => none
  | .dn _ _ _ => none
  | .fn _ => none
def toPys : List D → Option (List PyData)
  | [] => some []
  | d :: ds => match toPy d, toPys ds with
    | some p, some ps => some (p :: ps)
    | _, _ => none
end
mutual
theorem toPy_dp {K : Fg} {H : Hp} : ∀ {d : D} {v : V} {p : PyData}, Rep K H d v → toPy d = some p → Dp K H v p
  | .non, v, p, h, e => by cases e; rw [Rep.non_iff.mp h]; exact .non
  | .bl b, v, p, h, e => by cases e; rw [Rep.bl_iff.mp h]; exact .bl b
  | .int i, v, p, h, e => by cases e; rw [Rep.int_iff.mp h]; exact .int i
  | .str x, v, p, h, e => by cases e; rw [Rep.str_iff.mp h]; exact .str x
  | .tup ds, v, p, h, e => by
    obtain ⟨a, vs, rfl, g1, g2, g3⟩ := Rep.tup_iff.mp h
    simp only [toPy] at e
    cases q : toPys ds with
    | none => rw [q] at e; cases e
    | some ps => rw [q] at e; cases e; exact .tup g1.sq (toPys_dp g3 q)
  | .lst ds, v, p, h, e => by
    obtain ⟨a, vs, rfl, g1, g2, g3⟩ := Rep.lst_iff.mp h
    simp only [toPy] at e
    cases q : toPys ds with
    | none => rw [q] at e; cases e
    | some ps => rw [q] at e; cases e; exact .lst (Or.inl (Or.inl g1)) (toPys_dp g3 q)
  | .ins _ _ _, v, p, h, e => by cases e
  | .dk _ _, v, p, h, e => by cases e
  | .dn _ _ _, v, p, h, e => by cases e
  | .fn _, v, p, h, e => by cases e
theorem toPys_dp {K : Fg} {H : Hp} : ∀ {ds : List D} {vs : List V} {ps : List PyData}, Reps K H ds vs → toPys ds = some ps → DpAll K H vs ps
  | [], vs, ps, h, e => by cases e; rw [h.inv0]; exact .nil
  | d :: ds, vs, ps, h, e => by
    obtain ⟨v, us, rfl, h1, h2⟩ := h.inv
    simp only [toPys] at e
    cases q1 : toPy d with
    | none => simp only [q1] at e; cases e
    | some p =>
      cases q2 : toPys ds with
      | none => simp only [q1, q2] at e; cases e
      | some qs => simp only [q1, q2] at e; cases e; exact .cons (toPy_dp h1 q1) (toPys_dp h2 q2)
end
/-- whether two data are equal, as Python tells it -/
def pyEq (d e : D) : Option Bool := match toPy d, toPy e with
  | some p, some q => if SeqAt.shaped p && SeqAt.shaped q then some (PyData.eqv p q) else none
  | _, _ => none
def eqD (d e : D) : Option D := (pyEq d e).map D.bl
def neD (d e : D) : Option D := (pyEq d e).map fun b => D.bl (!b)
theorem pyEq_some {d e : D} {b : Bool} (h : pyEq d e = some b) : ∃ p q, toPy d = some p ∧ toPy e = some q ∧ SeqAt.shaped p = true ∧ SeqAt.shaped q = true ∧ b = PyData.eqv p q := by
  unfold pyEq at h
  cases e1 : toPy d with
  | none => simp only [e1] at h; cases h
  | some p =>
    cases e2 : toPy e with
    | none => simp only [e1, e2] at h; cases h
    | some q =>
      simp only [e1, e2] at h
      obtain ⟨h1, h2⟩ := if_some h
      obtain ⟨h3, h4⟩ := Bool.and_eq_true_iff.mp h1
      exact ⟨p, q, rfl, rfl, h3, h4, h2.symm⟩
theorem prim_eq : Prim2 K (rEqD K) eqD := by
  intro F H v w d e z fh hv hw hf Q k
  unfold eqD at hf
  cases h : pyEq d e with
  | none => rw [h] at hf; cases hf
  | some b =>
    rw [h] at hf
    cases hf
    obtain ⟨p, q, h1, h2, h3, h4, rfl⟩ := pyEq_some h
    exact ⟨p, q, toPy_dp (hv.full fh) h1, toPy_dp (hw.full fh) h2, h3, h4, k F H _ (New.refl fh) (Rep.bl_iff.mpr rfl)⟩
theorem prim_ne : Prim2 K (rNeD K) neD := by
  intro F H v w d e z fh hv hw hf Q k
  unfold neD at hf
  cases h : pyEq d e with
  | none => rw [h] at hf; cases hf
  | some b =>
    rw [h] at hf
    cases hf
    obtain ⟨p, q, h1, h2, h3, h4, rfl⟩ := pyEq_some h
    exact ⟨p, q, toPy_dp (hv.full fh) h1, toPy_dp (hw.full fh) h2, h3, h4, k F H _ (New.refl fh) (Rep.bl_iff.mpr rfl)⟩
/-- x in a list -/
def inLD (neg : Bool) : D → D → Option D
  | d, .lst es => match toPy d, toPys es with
    | some p, some qs => if SeqAt.shaped p && SeqAt.shaped (.list qs) then some (.bl (xor neg (qs.any fun z => PyData.eqv z p))) else none
    | _, _ => none
  | _, _ => none
theorem inLD_some {neg : Bool} {d : D} {es : List D} {z : D} (h : inLD neg d (.lst es) = some z) : ∃ p qs, toPy d = some p ∧ toPys es = some qs ∧ SeqAt.shaped p = true ∧ SeqAt.shaped (.list qs) = true ∧ z = .bl (xor neg (qs.any fun z => PyData.eqv z p)) := by
  unfold inLD at h
  cases e1 : toPy d with
  | none => simp only [e1] at h; cases h
  | some p =>
    cases e2 : toPys es with
    | none => simp only [e1, e2] at h; cases h
    | some q =>
      simp only [e1, e2] at h
      obtain ⟨h1, h2⟩ := if_some h
      obtain ⟨h3, h4⟩ := Bool.and_eq_true_iff.mp h1
      exact ⟨p, q, rfl, rfl, h3, h4, h2.symm⟩
theorem prim_inL : Prim2 K (rInD K) (inLD false) := by
  intro F H v w d e z fh hv hw hf Q k
  match e, hf with
  | .lst es, hf =>
    obtain ⟨p, qs, h1, h2, h3, h4, rfl⟩ := inLD_some hf
    refine ⟨p, qs, toPy_dp (hv.full fh) h1, toPy_dp (hw.full fh) (by simp only [toPy, h2]; rfl), h3, h4, k F H _ (New.refl fh) (Rep.bl_iff.mpr ?_)⟩
    rw [Bool.false_xor]
end
end DL

set_option Elab.async false
set_option linter.all false
set_option maxRecDepth 100000
set_option maxHeartbeats 400000
/-! DLg: more primitives: len, isinstance, items, slices, list(), tuple(), sorted, dicts, methods. -/
namespace DL
open PySem L2
section
variable {K : Fg}
theorem paired1 {α β : Type} {Rr : α → β → Prop} {as : List α} {b : β} (h : Paired Rr as [b]) : ∃ a, as = [a] ∧ Rr a b := by
  cases h with
  | cons r t => cases t; exact ⟨_, rfl, r⟩
/-- a primitive of one value from one of an argument list -/
def fA1 (f : D → Option D) : List D → Option D
  | [d] => f d
  | _ => none
def fN1 (f : D → Option (List D)) : List D → Option (List D)
  | [d] => f d
  | _ => none
theorem primA1 {r : List V → Hp → VK → Prop} {f : D → Option D} (h : ∀ (F H : Hp) (v : V) (d e : D), Same F H → RepR K F H v d → f d = some e → ∀ Q : VK, (∀ F' H' u, New F H F' H' → Rep K F' e u → Q u H') → r [v] H Q) : PrimA K r (fA1 f) := by
  intro F H vs ds e fh hp hf Q k
  match ds, hp, hf with
  | [d], hp, hf =>
    obtain ⟨v, rfl, hv⟩ := paired1 hp
    exact h F H v d e fh hv hf Q k
theorem primN1 {r : List V → Hp → VK → Prop} {f : D → Option (List D)} (h : ∀ (F H : Hp) (v : V) (d : D) (es : List D), Same F H → RepR K F H v d → f d = some es → ∀ Q : VK, (∀ p H' us, H p = none → Same H H' → H' p = some (.lst us) → es.length ≤ LB → Reps K F es us → Q (.ref p) H') → r [v] H Q) : PrimNA K r (fN1 f) := by
  intro F H vs ds es fh hp hf Q k
  match ds, hp, hf with
  | [d], hp, hf =>
    obtain ⟨v, rfl, hv⟩ := paired1 hp
    exact h F H v d es fh hv hf Q k
/-! ### len -/
def rLen (K : Fg) : List V → Hp → VK → Prop := fun xs H Q => ∃ x n, xs = [x] ∧ LenV K x H n ∧ Q (.int n) H
def lenD : D → Option D
  | .str x => if x.length ≤ 1000000 then some (.int x.length) else none
  | .lst ds => some (.int ds.length)
  | .tup ds => some (.int ds.length)
  | _ => none
theorem prim_len : PrimA K (rLen K) (fA1 lenD) := primA1 fun F H v d e fh hv hf Q k => by
  cases d with
  | str x =>
    obtain ⟨h1, rfl⟩ := if_some (show (if x.length ≤ 1000000 then some (D.int x.length) else none) = some e from hf)
    exact ⟨v, x.length, rfl, by rw [hv.str]; exact ⟨LB_size h1, rfl⟩, k F H _ (New.refl fh) (Rep.int_iff.mpr rfl)⟩
  | lst ds =>
    cases hf
    obtain ⟨a, vs, rfl, g1, g2, g3⟩ := hv.lst fh
    exact ⟨_, ds.length, rfl, Or.inl ⟨vs, Or.inl (Or.inl g1), g3.len.symm⟩, k F H _ (New.refl fh) (Rep.int_iff.mpr rfl)⟩
  | tup ds =>
    cases hf
    obtain ⟨a, vs, rfl, g1, g2, g3⟩ := hv.tup
    exact ⟨_, ds.length, rfl, Or.inr ⟨vs, same_t fh g1.sq, g3.len.symm⟩, k F H _ (New.refl fh) (Rep.int_iff.mpr rfl)⟩
  | _ => cases hf
/-! ### isinstance of a built-in class -/
def tyN : D → Option String
  | .non => some "NoneType"
  | .bl _ => some "bool"
  | .int _ => some "int"
  | .str _ => some "str"
  | .tup _ => some "tuple"
  | .lst _ => some "list"
  | .dk _ _ => some "dict"
  | .ins _ _ _ => none
  | .dn _ _ _ => none
  | .fn _ => none
theorem tyX_of {F H : Hp} {v : V} {d : D} {t : String} (fh : Same F H) (hv : RepR K F H v d) (ht : tyN d = some t) : TyX K H v (.type t) := by
  cases d with
  | non => cases ht; rw [hv.non]; exact .base .non
  | bl b => cases ht; rw [hv.bl]; exact .base (.bl b)
  | int i => cases ht; rw [hv.int]; exact .base (.int i)
  | str x => cases ht; rw [hv.str]; exact .base (.str x)
  | tup ds =>
    cases ht
    obtain ⟨a, vs, rfl, g1, g2, g3⟩ := hv.tup
    rcases g1 with ⟨o, _, h⟩ | ⟨o, its, n, h1, _, h2, _⟩
    · exact .fTuple (fh _ _ h)
    · exact .kTuple h1 h2
  | lst ds =>
    cases ht
    obtain ⟨a, vs, rfl, g1, g2, g3⟩ := hv.lst fh
    exact .base (.lst g1)
  | dk ks ds =>
    cases ht
    obtain ⟨a, vs, rfl, g1, _⟩ := hv.dk fh
    rcases g1 with g1 | ⟨o, g1⟩
    · exact .base (.dK g1)
    · exact .fDict g1
  | ins C ns ds => cases ht
  | dn hs ks ds => cases ht
  | fn f => cases ht
/-- isinstance(x, T) -/
def isB (T : String) (d : D) : Option D := match tyN d with
  | some t => (kitB t T).map D.bl
  | none => none
def tIsi (K : Fg) (T : String) (te : TE) : TE := tCB (rIsi K) (tCons te (tCons (tC (.ty T)) tNil))
theorem prim_isB {T : String} : Prim1 K (fun x H Q => rIsi K [x, .ty T] H Q) (isB T) := by
  intro F H v d e fh hv hf Q k
  unfold isB at hf
  cases ht : tyN d with
  | none => simp only [ht] at hf; cases hf
  | some t =>
    simp only [ht] at hf
    cases hb : kitB t T with
    | none => rw [hb] at hf; cases hf
    | some b =>
      rw [hb] at hf
      cases hf
      exact ⟨v, .ty T, .type t, .type T, b, rfl, .ty T, tyX_of fh hv ht, kit_ty hb, k F H _ (New.refl fh) (Rep.bl_iff.mpr rfl)⟩
theorem ev_isi {W : WX} {T : String} {te : TE} {a : M Op} (h : Eo K W te a) : Ev K W (tIsi K T te) (m1 (isB T) a) := ev_1 (r := fun x H Q => rIsi K [x, .ty T] H Q) prim_isB h
/-! ### items -/
def ixD : D → D → Option D
  | .lst ds, .int i => atI ds i
  | .tup ds, .int i => atI ds i
  | .str x, .int i => if x.length ≤ 1000000 then (atI x.cps.toList i).map fun c => D.str ⟨#[c]⟩ else none
  | _, _ => none
theorem atI_len {α β : Type} {xs : List α} {ys : List β} {i : Int} {x : α} (hl : xs.length = ys.length) (h : atI xs i = some x) : ∃ j : Nat, xs[j]? = some x ∧ ∀ y, ys[j]? = some y → atI ys i = some y := by
  unfold atI at h ⊢
  cases e : ixN xs.length i with
  | none => rw [e] at h; cases h
  | some j =>
    rw [e] at h
    refine ⟨j, h, fun y hy => ?_⟩
    rw [← hl, e]
    exact hy
theorem prim_ix : Prim2 K (rIx K) ixD := by
  intro F H v w d e z fh hv hw hf Q k
  cases e with
  | int i =>
   cases d with
   | lst ds =>
    obtain ⟨a, vs, rfl, g1, g2, g3⟩ := hv.lst fh
    obtain ⟨j, h1, h2⟩ := atI_len g3.len.symm hf
    obtain ⟨u, h3, h4⟩ := g3.get h1
    exact Or.inl ⟨a, vs, i, u, rfl, hw.int, Or.inl (Or.inl g1), h2 u h3, k F H _ (New.refl fh) h4⟩
   | tup ds =>
    obtain ⟨a, vs, rfl, g1, g2, g3⟩ := hv.tup
    obtain ⟨j, h1, h2⟩ := atI_len g3.len.symm hf
    obtain ⟨u, h3, h4⟩ := g3.get h1
    exact Or.inr (Or.inl ⟨a, vs, i, u, rfl, hw.int, same_t fh g1.sq, h2 u h3, k F H _ (New.refl fh) h4⟩)
   | str x =>
    have hf : (if x.length ≤ 1000000 then (atI x.cps.toList i).map fun c => D.str ⟨#[c]⟩ else none) = some z := hf
    by_cases hl : x.length ≤ 1000000
    · rw [if_pos hl] at hf
      cases h1 : atI x.cps.toList i with
      | none => rw [h1] at hf; cases hf
      | some c =>
        rw [h1] at hf
        cases hf
        exact Or.inr (Or.inr ⟨x, i, c, hv.str, hw.int, LB_size hl, h1, k F H _ (New.refl fh) (Rep.str_iff.mpr rfl)⟩)
    · rw [if_neg hl] at hf; cases hf
   | _ => cases hf
  | _ => cases d <;> cases hf
/-! ### slices -/
/-- t[lo:hi], the new tuple's object known -/
def rSlZ (K : Fg) : V → Option Int → Option Int → Hp → VK → Prop := fun x lo hi H Q => ∃ a xs, x = .ref a ∧ SqT K H a xs ∧
  (HT.sIx xs.length 0 lo = 0 ∧ HT.sIx xs.length xs.length hi = xs.length → Q (.ref a) H) ∧ (¬ (HT.sIx xs.length 0 lo = 0 ∧ HT.sIx xs.length xs.length hi = xs.length) → ∀ p o, H p = none → Obj.dict o = none → Q (.ref p) (upd H p (.frz o (.tup (cutV xs lo hi)))))
theorem sl_tupZ {X : Cx} : SlR X (rSlZ X.K) := by
  intro pins s σ H x v vl vu lo hi sl Q I rx hs pl pu h
  obtain ⟨a, xs, rfl, hx, q1, q2⟩ := h
  by_cases hw : HT.sIx xs.length 0 lo = 0 ∧ HT.sIx xs.length xs.length hi = xs.length
  · exact sl_tupA pins s σ H _ v vl vu lo hi sl Q I rx hs pl pu ⟨a, xs, rfl, hx, q1, fun h => absurd hw h⟩
  · cases rx
    obtain ⟨us, r, ht, hz⟩ := I.tuple hx
    have hlen : us.toArray.size = xs.length := by rw [List.size_toArray]; exact r.length.symm
    refine ⟨"tuple", _, PyProof.Rows.slot_tuple_getitem.lookup, ht.typeIs, HT.getItem_tuple_cut ht hs pl pu (by rw [hlen]; exact hw) ?_ (by rw [hlen]; exact hz)⟩
    rw [hlen]
    refine ⟨.ref s.heap.objs.size, upd H s.heap.objs.size (.frz { cls := .type "tuple", data := .seq ((us.toArray.toList.drop (HT.sIx xs.length 0 lo)).take (HT.sIx xs.length xs.length hi - HT.sIx xs.length 0 lo)).toArray } (.tup (cutV xs lo hi))), I.laid (t' := s.toks) (fun b ob q => Heap.get?_push_of_some _ q) (Nat.le_refl _) ⟨Heap.get?_push_size _ rfl, ?_⟩, rfl, q2 hw _ _ (I.hok.fresh (Nat.le_refl _)) rfl⟩
    exact ⟨Nat.le_trans (cutV_length xs lo hi) hz, _, (r.drop (HT.sIx xs.length 0 lo)).take (HT.sIx xs.length xs.length hi - HT.sIx xs.length 0 lo), PyProof.Rows.IsTup.new _ _⟩
def PrimSl (K : Fg) (r : V → Option Int → Option Int → Hp → VK → Prop) (f : D → Option Int → Option Int → Option D) : Prop := ∀ (F H : Hp) (v : V) (d : D) (lo hi : Option Int) (e : D), Same F H → RepR K F H v d → f d lo hi = some e → ∀ Q : VK, (∀ F' H' u, New F H F' H' → Rep K F' e u → Q u H') → r v lo hi H Q
def cutD (xs : List D) (lo hi : Option Int) : List D := (xs.drop (HT.sIx xs.length 0 lo)).take (HT.sIx xs.length xs.length hi - HT.sIx xs.length 0 lo)
theorem cutD_reps {F : Hp} {ds : List D} {vs : List V} {lo hi : Option Int} (h : Reps K F ds vs) : Reps K F (cutD ds lo hi) (cutV vs lo hi) := by
  unfold cutD cutV
  rw [h.len]
  exact (h.drop _).take _
theorem cutD_len {ds : List D} {lo hi : Option Int} : (cutD ds lo hi).length ≤ ds.length := by
  unfold cutD
  rw [List.length_take, List.length_drop]
  omega
def slD : D → Option Int → Option Int → Option D
  | .lst ds, lo, hi => some (.lst (cutD ds lo hi))
  | .tup ds, lo, hi => some (.tup (cutD ds lo hi))
  | .str x, lo, hi => if x.length ≤ 1000000 then some (.str (cutS x lo hi)) else none
  | _, _, _ => none
def rSlAny (K : Fg) : V → Option Int → Option Int → Hp → VK → Prop := fun x lo hi H Q => rSlL K x lo hi H Q ∨ (rSlZ K x lo hi H Q ∨ rSlS x lo hi H Q)
theorem sl_any {X : Cx} : SlR X (rSlAny X.K) := sl_list.or (sl_tupZ.or sl_str)
theorem prim_sl : PrimSl K (rSlAny K) slD := by
  intro F H v d lo hi e fh hv hf Q k
  cases d with
  | lst ds =>
    cases hf
    obtain ⟨a, vs, rfl, g1, g2, g3⟩ := hv.lst fh
    refine Or.inl ⟨a, vs, rfl, Or.inl (Or.inl g1), fun p hp => ?_⟩
    have n : New F H (upd F p (.lst (cutV vs lo hi))) (upd H p (.lst (cutV vs lo hi))) := New.lay fh hp
    exact k _ _ _ n (Rep.lst_iff.mpr ⟨p, _, rfl, upd_same, Nat.le_trans cutD_len g2, (cutD_reps g3).mono n.ff⟩)
  | tup ds =>
    cases hf
    obtain ⟨a, vs, rfl, g1, g2, g3⟩ := hv.tup
    refine Or.inr (Or.inl ⟨a, vs, rfl, same_t fh g1.sq, fun e => ?_, fun _ p o hp ho => ?_⟩)
    · have : cutD ds lo hi = ds := by
        unfold cutD
        rw [← g3.len, e.1, e.2, List.drop_zero, Nat.sub_zero, g3.len, List.take_length]
      refine k F H _ (New.refl fh) ?_
      rw [this]
      exact Rep.tup_iff.mpr ⟨a, vs, rfl, g1, g2, g3⟩
    · obtain ⟨n, hr⟩ := newT (K := K) fh hp ho (Nat.le_trans cutD_len g2) (cutD_reps (lo := lo) (hi := hi) g3)
      exact k _ _ _ n hr
  | str x =>
    obtain ⟨h1, rfl⟩ := if_some (show (if x.length ≤ 1000000 then some (D.str (cutS x lo hi)) else none) = some e from hf)
    exact Or.inr (Or.inr ⟨x, hv.str, LB_size h1, k F H _ (New.refl fh) (Rep.str_iff.mpr rfl)⟩)
  | _ => cases hf
/-- a slice's part -/
def relP : Rl (Option Int) (Option Int) := fun _ _ a b => a = b
abbrev Ep (K : Fg) (W : WX) (t : TO) (m : M (Option Int)) : Prop := J K W tru t relP m
def mpNone : M (Option Int) := M.ret none
def mpSome (m : M D) : M (Option Int) := m.bind fun d => M.lift (match d with
  | .int i => some (some i)
  | _ => none)
theorem ep_none {W : WX} : Ep K W tNoPart mpNone := by
  intro C hK hW al F H σ δ S _ r hr Q hok hex
  cases hr
  exact hok _ δ rfl al F H _ (Same.refl _) S rfl
theorem ep_some {W : WX} {te : TE} {m : M D} (h : Ev K W te m) : Ep K W (tPart te) (mpSome m) := by
  refine J.bind (t2 := fun (x : V) (_ : St) (H : Hp) (Q : Option Int → Hp → Prop) => ∃ i, x = V.int i ∧ Q (some i) H) h monoT fun d v => ?_
  intro C hK hW al F H σ δ S hp r hr Q hok hex
  obtain ⟨b, h2, rfl⟩ := lift_some hr
  cases d with
  | int i =>
    cases h2
    have hv : Rep K F (.int i) v := hp.2
    exact ⟨i, Rep.int_iff.mp hv, hok _ δ rfl al F H _ (Same.refl _) S rfl⟩
  | _ => cases h2
def mSl (f : D → Option Int → Option Int → Option D) (a : M Op) (l u : M (Option Int)) : M D := a.bind fun o => l.bind fun lo => u.bind fun hi => (mRd o).bind fun d => M.lift (f d lo hi)
theorem monoPt : MonoR relP := fun _ _ _ _ _ _ h => h
theorem ev_sl {W : WX} {r : V → Option Int → Option Int → Hp → VK → Prop} {f : D → Option Int → Option Int → Option D} {te : TE} {tl th : TO} {a : M Op} {l u : M (Option Int)} (p : PrimSl K r f) (ha : Eo K W te a) (hl : Ep K W tl l) (hu : Ep K W th u) : Ev K W (tSl r te tl th) (mSl f a l u) := by
  refine J.bind (t2 := fun x σ H Q => tl σ H fun l H2 => th σ H2 fun u H3 => r x l u H3 Q) ha monoT fun o v => ?_
  refine J.bind (t2 := fun l σ H Q => th σ H fun u H3 => r v l u H3 Q) (hl.wk fun _ _ _ => trivial) (monoT.and monoO.at) fun lo lo' => ?_
  refine J.bind (t2 := fun u σ H Q => r v lo' u H Q) (hu.wk fun _ _ _ => trivial) ((monoT.and monoO.at).and monoPt.at) fun hi hi' => ?_
  intro C hK hW al F H σ δ S hp r' hr Q hok hex
  subst hK
  obtain ⟨d, h1, hr⟩ := rd_bind hr
  obtain ⟨z, h3, rfl⟩ := lift_some hr
  have e1 : lo' = lo := hp.1.2
  have e2 : hi' = hi := hp.2
  subst e1 e2
  exact p F H v d lo' hi' z S.fh (S.opd hp.1.1.2 h1) h3 Q fun F' H' u n ru => hok z δ rfl al F' H' u n.ff (S.new n) ru
/-! ### list(), tuple() -/
def rListOf (K : Fg) : List V → Hp → VK → Prop := fun xs H Q => ∃ p ys, xs = [V.ref p] ∧ (SqL K H p ys ∨ SqT K H p ys) ∧ ∀ l, H l = none → Q (.ref l) (upd H l (.lst ys))
def listD : D → Option (List D)
  | .lst ds => some ds
  | .tup ds => some ds
  | _ => none
theorem prim_list : PrimNA K (rListOf K) (fN1 listD) := primN1 fun F H v d es fh hv hf Q k => by
  cases d with
  | lst ds =>
    cases hf
    obtain ⟨a, vs, rfl, g1, g2, g3⟩ := hv.lst fh
    exact ⟨a, vs, rfl, Or.inl (Or.inl (Or.inl g1)), fun l hl => k l _ vs hl (same_upd hl) upd_same g2 g3⟩
  | tup ds =>
    cases hf
    obtain ⟨a, vs, rfl, g1, g2, g3⟩ := hv.tup
    exact ⟨a, vs, rfl, Or.inr (same_t fh g1.sq), fun l hl => k l _ vs hl (same_upd hl) upd_same g2 g3⟩
  | _ => cases hf
/-- tuple(xs): a new tuple, its object known; of a tuple itself -/
def rTupOf (K : Fg) : List V → Hp → VK → Prop := fun xs H Q => ∃ p ys, xs = [V.ref p] ∧ ((SqL K H p ys ∧ ∀ l o, H l = none → Obj.dict o = none → Q (.ref l) (upd H l (.frz o (.tup ys)))) ∨ (SqT K H p ys ∧ Q (.ref p) H))
theorem call_tupleZ {X : Cx} : CallR X (.type "tuple") (rTupOf X.K) := by
  intro pins s σ H xs us Q I r h
  obtain ⟨p, ys, rfl, h⟩ := h
  rcases h with ⟨hq, q⟩ | ⟨hq, q⟩
  · obtain ⟨u, rfl, rx⟩ := vals1 r
    cases rx
    obtain ⟨ws, r', pl, hz⟩ := I.list hq
    have hlen := r'.length
    refine call_tuple_list pl.isList (fun h' kp => ?_) (by simp only [List.size_toArray] <;> omega)
    have I1 : Inv X pins σ H { s with heap := h' } := I.kept (t' := s.toks) kp
    exact ⟨.ref h'.objs.size, upd H h'.objs.size (.frz { cls := .type "tuple", data := .seq ws.toArray } (.tup ys)), I1.laid (t' := s.toks) (fun b o e => Heap.get?_push_of_some _ e) (Nat.le_refl _) ⟨Heap.get?_push_size _ rfl, hz, ws, r', PyProof.Rows.IsTup.new _ _⟩, rfl, q _ _ (I1.hok.fresh (Nat.le_refl _)) rfl⟩
  · exact call_tuple_of pins s σ H _ us Q I r ⟨p, ys, rfl, Or.inr ⟨hq, q⟩⟩
def tupD : D → Option D
  | .lst ds => some (.tup ds)
  | .tup ds => some (.tup ds)
  | _ => none
theorem prim_tup : PrimA K (rTupOf K) (fA1 tupD) := primA1 fun F H v d e fh hv hf Q k => by
  cases d with
  | lst ds =>
    cases hf
    obtain ⟨a, vs, rfl, g1, g2, g3⟩ := hv.lst fh
    refine ⟨a, vs, rfl, Or.inl ⟨Or.inl (Or.inl g1), fun l o hl ho => ?_⟩⟩
    obtain ⟨n, hr⟩ := newT (K := K) fh hl ho g2 g3
    exact k _ _ _ n hr
  | tup ds =>
    cases hf
    obtain ⟨a, vs, rfl, g1, g2, g3⟩ := hv.tup
    exact ⟨a, vs, rfl, Or.inr ⟨same_t fh g1.sq, k F H _ (New.refl fh) (Rep.tup_iff.mpr ⟨a, vs, rfl, g1, g2, g3⟩)⟩⟩
  | _ => cases hf
/-! ### all, any, abs, int, max, min of two numbers -/
def blsOf : List D → Option (List Bool)
  | [] => some []
  | .bl b :: r => (blsOf r).map (b :: ·)
  | _ => none
theorem bls_reps {F : Hp} : ∀ {ds : List D} {bs : List Bool} {vs : List V}, blsOf ds = some bs → Reps K F ds vs → vs = bs.map V.bl
  | [], bs, vs, h, r => by cases h; rw [r.inv0]; rfl
  | .bl b :: ds, bs, vs, h, r => by
    simp only [blsOf] at h
    cases e : blsOf ds with
    | none => rw [e] at h; cases h
    | some cs =>
      rw [e] at h
      cases h
      obtain ⟨v, us, rfl, r1, r2⟩ := r.inv
      rw [Rep.bl_iff.mp r1, bls_reps e r2]
      rfl
def allD : D → Option D
  | .lst ds => (blsOf ds).map fun bs => D.bl (bs.all id)
  | _ => none
theorem prim_all : PrimA K (rAll K) (fA1 allD) := primA1 fun F H v d e fh hv hf Q k => by
  cases d with
  | lst ds =>
    have hf : (blsOf ds).map (fun bs => D.bl (bs.all id)) = some e := hf
    obtain ⟨a, vs, rfl, g1, g2, g3⟩ := hv.lst fh
    cases e1 : blsOf ds with
    | none => rw [e1] at hf; cases hf
    | some bs =>
      rw [e1] at hf
      cases hf
      exact ⟨a, bs, rfl, Or.inl (Or.inl (by rw [← bls_reps e1 g3]; exact g1)), k F H _ (New.refl fh) (Rep.bl_iff.mpr rfl)⟩
  | _ => cases hf
def intD : D → Option D
  | .int i => some (.int i)
  | .bl b => some (.int (if b then 1 else 0))
  | _ => none
theorem prim_int : PrimA K (fun xs H Q => (∃ i, xs = [V.int i] ∧ Q (.int i) H) ∨ ∃ k, xs = [V.bl k] ∧ Q (.int (if k then 1 else 0)) H) (fA1 intD) := primA1 fun F H v d e fh hv hf Q k => by
  cases d with
  | int i =>
    cases hf
    exact Or.inl ⟨i, by rw [hv.int], k F H _ (New.refl fh) (Rep.int_iff.mpr rfl)⟩
  | bl b =>
    cases hf
    exact Or.inr ⟨b, by rw [hv.bl], k F H _ (New.refl fh) (Rep.int_iff.mpr rfl)⟩
  | _ => cases hf
/-! ### a sign in a text -/
def inSignD (neg : Bool) : D → D → Option D
  | .str x, .str z => match x.cps.toList with
    | [c] => some (.bl (xor neg (decide (c ∈ z.cps.toList))))
    | _ => none
  | _, _ => none
def rInSign : R2 := fun x y H Q => ∃ (c : Nat) (z : Str), x = .str ⟨#[c]⟩ ∧ y = .str z ∧ Q (.bl (decide (c ∈ z.cps.toList))) H
theorem str_one {x : Str} {c : Nat} (h : x.cps.toList = [c]) : x = ⟨#[c]⟩ := by
  cases x with
  | mk a =>
    have : a = #[c] := by
      apply Array.ext'
      exact h
    rw [this]
theorem prim_inSign : Prim2 K rInSign (inSignD false) := by
  intro F H v w d e z fh hv hw hf Q k
  cases d with
  | str x =>
    cases e with
    | str y =>
      unfold inSignD at hf
      cases h : x.cps.toList with
      | nil => simp only [h] at hf; cases hf
      | cons c r =>
        cases r with
        | cons c2 r2 => simp only [h] at hf; cases hf
        | nil =>
          simp only [h] at hf
          have hx := str_one h
          subst hx
          cases hf
          refine ⟨c, y, hv.str, hw.str, k F H _ (New.refl fh) (Rep.bl_iff.mpr ?_)⟩
          rw [Bool.false_xor]
    | _ => cases hf
  | _ => cases hf
/-! ### dicts -/
def keyD : D → Option Key
  | .int i => some (Sum.inl i)
  | .str x => some (Sum.inr x)
  | _ => none
end
end DL

set_option Elab.async false
set_option linter.all false
set_option maxRecDepth 100000
set_option maxHeartbeats 400000
/-! DLh: own objects changed; objects made; fields. -/
namespace DL
open PySem L2
section
variable {K : Fg} {W : WX}
/-- a method that changes a list of one's own -/
def PrimM (r : V → List V → Hp → VK → Prop) (K : Fg) (f : List D → List D → Option (List D × D)) : Prop := ∀ (F H : Hp) (a : Addr) (ds : List D) (vs : List V) (as : List D) (us : List V) (nw : List D) (res : D),
  Same F H → H a = some (.lst vs) → ds.length ≤ LB → Reps K F ds vs → Reps K F as us → f ds as = some (nw, res) → ∀ Q : VK, (∀ ws u, nw.length ≤ LB → Reps K F nw ws → Rep K F res u → Q u (upd H a (.lst ws))) → r (.ref a) us H Q
def ownL (δ : En) (i : Nat) : Option (Sl × List D) := match δ[i]? with
  | some s => match s.own with
    | some (.lst ds) => some (s, ds)
    | _ => none
  | none => none
theorem ownL_some {δ : En} {i : Nat} {s : Sl} {ds : List D} (h : ownL δ i = some (s, ds)) : δ[i]? = some s ∧ s.own = some (.lst ds) := by
  unfold ownL at h
  cases e : δ[i]? with
  | none => simp only [e] at h; cases h
  | some s' =>
    cases e2 : s'.own with
    | none => simp only [e, e2] at h; cases h
    | some d =>
      cases d with
      | lst es =>
        simp only [e, e2] at h
        cases h
        exact ⟨rfl, e2⟩
      | _ => simp only [e, e2] at h; cases h
def mMut (f : List D → List D → Option (List D × D)) (i : Nat) (a : M (List D)) : M D := fun δ => match ownL δ i with
  | none => none
  | some _ => (a.bind fun as => fun δ1 => match ownL δ1 i with
    | none => none
    | some (s, ds) => match f ds as with
      | none => none
      | some (nw, res) => some (.ok res (δ1.set i (reown s (.lst nw))))) δ
theorem mut_step {r : V → List V → Hp → VK → Prop} {f : List D → List D → Option (List D × D)} (p : PrimM r K f) {C : Cn} (hK : C.K = K) {al : Nat → Addr} {F H : Hp} {σ : St} {δ : En} {i : Nat} {s : Sl} {ds as nw : List D} {us : List V} {res : D} (S : StOk C al F H σ δ)
    (ho : ownL δ i = some (s, ds)) (ra : Reps K F as us) (hf : f ds as = some (nw, res)) {Q : VK} (hok : ∀ H' u, StOk C al F H' σ (δ.set i (reown s (.lst nw))) → Rep K F res u → Q u H') : r (.ref (al i)) us H Q := by
  subst hK
  obtain ⟨h1, h2⟩ := ownL_some ho
  obtain ⟨o1, o2, o3, vs, o4, o5, o6⟩ := S.ow i s _ h1 h2
  refine p F H (al i) ds vs as us nw res S.fh o4 o5 o6 ra hf Q fun ws u hl rw' ru => hok _ u ?_ ru
  exact S.poke1 h1 h2 (reown_own (s := s) (d := .lst nw)) (fun z hz => reown_io hz) ⟨ws, upd_same, hl, rw'⟩
theorem ev_mut {r : V → List V → Hp → VK → Prop} {f : List D → List D → Option (List D × D)} {i : Nat} {ta : TA} {a : M (List D)} (p : PrimM r K f) (ha : Eds K W ta a) : Ev K W (tBM K "list" r (tVar i) ta) (mMut f i a) := by
  intro C hK hW al F H σ δ S _ q hr Q hok hex
  unfold mMut at hr
  cases e0 : ownL δ i with
  | none => simp only [e0] at hr; cases hr
  | some p0 =>
    obtain ⟨s0, ds0⟩ := p0
    simp only [e0] at hr
    obtain ⟨h1, h2⟩ := ownL_some e0
    obtain ⟨o1, o2, o3, vs, o4, o5, o6⟩ := S.ow i s0 _ h1 h2
    refine ⟨_, o1, Or.inl ⟨rfl, vs, Or.inl (Or.inl o4)⟩, ?_⟩
    cases e1 : a δ with
    | none => unfold M.bind at hr; rw [e1] at hr; cases hr
    | some r1 =>
      refine ha C hK hW al F H σ δ S trivial r1 e1 _ (fun as δ1 e2 al1 F1 H1 us s1 S1 rl => ?_) fun x δ1 e2 al1 F1 H1 cls dd s1 S1 xr => ?_
      · subst e2
        rw [M.bind_ok e1] at hr
        cases e3 : ownL δ1 i with
        | none => simp only [e3] at hr; cases hr
        | some p1 =>
          obtain ⟨s, ds⟩ := p1
          cases e4 : f ds as with
          | none => simp only [e3, e4] at hr; cases hr
          | some q2 =>
            obtain ⟨nw, res⟩ := q2
            simp only [e3, e4] at hr
            cases hr
            obtain ⟨g1, g2⟩ := ownL_some e3
            obtain ⟨y1, _⟩ := S1.ow i s _ g1 g2
            have ea : al i = al1 i := by
              rw [o1] at y1
              exact V.ref.inj (Option.some.inj (Option.some.inj y1))
            rw [ea]
            exact mut_step p hK S1 e3 rl e4 fun H' u S' ru => hok res _ rfl al1 F1 H' u s1 S' ru
      · subst e2
        rw [M.bind_ex e1] at hr
        cases hr
        exact hex x δ1 rfl al1 F1 H1 cls dd s1 S1 xr
def appF : List D → List D → Option (List D × D) := fun ds as => match as with
  | [d] => if ds.length < 1000000 then some (ds ++ [d], .non) else none
  | _ => none
theorem primM_append : PrimM rAppend K appF := by
  intro F H a ds vs as us nw res fh ha hl hr hra hf Q k
  match as, hf with
  | [d], hf =>
    obtain ⟨h1, h2⟩ := if_some (show (if ds.length < 1000000 then some (ds ++ [d], D.non) else none) = some (nw, res) from hf)
    cases h2
    obtain ⟨u, us', rfl, r1, r2⟩ := hra.inv
    cases r2.inv0
    refine ⟨a, vs, u, rfl, rfl, ha, by rw [hr.len]; exact LB_lt (Nat.le_of_lt h1), k _ .non (by rw [List.length_append]; exact h1) (hr.app (reps_cons r1 reps_nil)) (Rep.non_iff.mpr rfl)⟩
/-! ### x[i] = e -/
/-- the slot's value, looked at before the place is reckoned -/
def mHas (i : Nat) (m : Ms) : Ms := fun δ => match ownL δ i with
  | some _ => m δ
  | none => none
theorem es_setI {i : Nat} {te ti : TE} {ix v : M D} (hv : Ev K W te v) (hi : Ev K W ti ix) : Es K W (tAsg te (gSub (tVar i) ti rSetL)) (mS v fun d => mHas i (mS ix fun j => fun δ => match j with
    | .int n => match ownL δ i with
      | some (s, ds) => match ixN ds.length n with
        | some m => some (.nx (δ.set i (reown s (.lst (ds.set m d)))))
        | none => none
      | none => none
    | _ => none)) := by
  refine es_of (u := fun (v : V) Z σ H => gSub (tVar i) ti rSetL v σ H Z.nx) hv fun d v C hK hW al F H σ δ S rl o ho Z hZ => ?_
  unfold mHas at ho
  cases e0 : ownL δ i with
  | none => simp only [e0] at ho; cases ho
  | some p0 =>
    obtain ⟨s0, ds0⟩ := p0
    simp only [e0] at ho
    obtain ⟨h1, h2⟩ := ownL_some e0
    obtain ⟨o1, o2, o3, o4⟩ := S.ow i s0 _ h1 h2
    refine ⟨_, o1, ?_⟩
    cases e : ix δ with
    | none => unfold mS at ho; rw [e] at ho; cases ho
    | some r =>
      refine hi C hK hW al F H σ δ S trivial r e _ (fun j δ1 e1 al1 F1 H1 w s1 S1 rj => ?_) fun x δ1 e1 al1 F1 H1 cls dd s1 S1 xr => ?_
      · subst e1
        unfold mS at ho
        rw [e] at ho
        cases j with
        | int n =>
          cases e2 : ownL δ1 i with
          | none => simp only [e2] at ho; cases ho
          | some p1 =>
            obtain ⟨s, ds⟩ := p1
            cases e3 : ixN ds.length n with
            | none => simp only [e2, e3] at ho; cases ho
            | some m =>
              simp only [e2, e3] at ho
              cases ho
              subst hK
              obtain ⟨g1, g2⟩ := ownL_some e2
              obtain ⟨y1, y2, y3, vs, y4, y5, y6⟩ := S1.ow i s _ g1 g2
              have ea : al i = al1 i := by
                rw [o1] at y1
                exact V.ref.inj (Option.some.inj (Option.some.inj y1))
              have rd : Rep C.K F d v := rl
              refine ⟨al i, vs, n, m, rfl, Rep.int_iff.mp rj, by rw [ea]; exact y4, by rw [y6.len]; exact e3, ?_⟩
              rw [ea]
              refine hZ al1 F1 _ σ s1 ?_
              exact S1.poke1 g1 g2 (reown_own (s := s) (d := .lst (ds.set m d))) (fun z hz => reown_io hz) ⟨vs.set m v, upd_same, by rw [List.length_set]; exact y5, y6.set (rd.mono s1) m⟩
        | _ => cases ho
      · subst e1
        unfold mS at ho
        rw [e] at ho
        cases ho
        subst hK
        rw [← hW] at *
        exact hZ al1 F1 H1 σ cls dd s1 S1 xr
/-! ### fields -/
structure ClsOk (K : Fg) (C : Addr) (f : Str) : Prop where
  cl : Cls K C
  na : NoAttr K C f
def lookF : List Str → List D → Str → Option D
  | n :: ns, d :: ds, f => if n = f then some d else lookF ns ds f
  | _, _, _ => none
theorem lookF_rep {F : Hp} : ∀ {ns : List Str} {ds : List D} {vs : List V} {f : Str} {d : D}, Reps K F ds vs → lookF ns ds f = some d → ∃ v, (ns.zip vs).lookup f = some v ∧ Rep K F d v
  | [], ds, vs, f, d, r, h => by simp [lookF] at h
  | n :: ns, [], vs, f, d, r, h => by simp [lookF] at h
  | n :: ns, x :: ds, vs, f, d, r, h => by
    obtain ⟨v, us, rfl, r1, r2⟩ := r.inv
    by_cases e : n = f
    · simp only [lookF, e, if_true] at h
      cases h
      refine ⟨v, ?_, r1⟩
      rw [List.zip_cons_cons, List.lookup, e]
      simp
    · simp only [lookF, e, if_false] at h
      obtain ⟨u, h1, h2⟩ := lookF_rep r2 h
      refine ⟨u, ?_, h2⟩
      have : (f == n) = false := by simpa using fun z : f = n => e z.symm
      rw [List.zip_cons_cons, List.lookup, this]
      exact h1
/-- e.f, e an instance of one of the classes Cs -/
def fldD (Cs : List Addr) (f : Str) : D → Option D
  | .ins C ns ds => if (Cs.any fun c => c == C) = true then lookF ns ds f else none
  | _ => none
theorem prim_fld {Cs : List Addr} {f : Str} (h : ∀ C ∈ Cs, ClsOk K C f) : Prim1 K (fun x H Q => ∃ a C dx fs v, x = .ref a ∧ H a = some (.ins C dx fs) ∧ Cls K C ∧ NoAttr K C f ∧ fs.lookup f = some v ∧ Q v H) (fldD Cs f) := by
  intro F H v d e fh hv hf Q k
  cases d with
  | ins C ns ds =>
    have hf2 : (if (Cs.any fun c => c == C) = true then lookF ns ds f else none) = some e := hf
    by_cases hc : (Cs.any fun c => c == C) = true
    · rw [if_pos hc] at hf2
      obtain ⟨c, hm, he⟩ := List.any_eq_true.mp hc
      have hcC : c = C := by simpa using he
      subst hcC
      obtain ⟨a, dx, vs, rfl, g1, g2, g3⟩ := hv.ins fh
      obtain ⟨u, h1, h2⟩ := lookF_rep g3 hf2
      exact ⟨a, c, dx, _, u, rfl, g1, (h c hm).cl, (h c hm).na, h1, k F H _ (New.refl fh) h2⟩
    · rw [if_neg hc] at hf2; cases hf2
  | _ => cases hf
theorem ev_fld {Cs : List Addr} {f : Str} {te : TE} {a : M Op} (h : ∀ C ∈ Cs, ClsOk K C f) (ha : Eo K W te a) : Ev K W (tFld K te f) (m1 (fldD Cs f) a) := ev_1 (r := fun x H Q => ∃ a C dx fs v, x = .ref a ∧ H a = some (.ins C dx fs) ∧ Cls K C ∧ NoAttr K C f ∧ fs.lookup f = some v ∧ Q v H) (prim_fld h) ha
/-- self.f = e, f new -/
def ownI (δ : En) (i : Nat) : Option (Sl × Addr × List Str × List D) := match δ[i]? with
  | some s => match s.own with
    | some (.ins C ns ds) => some (s, C, ns, ds)
    | _ => none
  | none => none
def mSetF (C : Addr) (i : Nat) (f : Str) (m : M D) : Ms := mS m fun d => fun δ => match ownI δ i with
  | some (s, C', ns, ds) => if C' = C ∧ ns.length < 100 ∧ f ∉ ns then some (.nx (δ.set i (reown s (.ins C (ns ++ [f]) (ds ++ [d]))))) else none
  | none => none
theorem ownI_some {δ : En} {i : Nat} {s : Sl} {C : Addr} {ns : List Str} {ds : List D} (h : ownI δ i = some (s, C, ns, ds)) : δ[i]? = some s ∧ s.own = some (.ins C ns ds) := by
  unfold ownI at h
  cases e : δ[i]? with
  | none => simp only [e] at h; cases h
  | some s' =>
    cases e2 : s'.own with
    | none => simp only [e, e2] at h; cases h
    | some d =>
      cases d with
      | ins C ns ds =>
        simp only [e, e2] at h
        cases h
        exact ⟨rfl, e2⟩
      | _ => simp only [e, e2] at h; cases h
theorem putF_new {f : Str} {v : V} : ∀ {ns : List Str} {vs : List V}, f ∉ ns → ns.length = vs.length → putF f v (ns.zip vs) = (ns ++ [f]).zip (vs ++ [v])
  | [], [], _, _ => rfl
  | n :: ns, u :: vs, h, hl => by
    have hn : ¬ n = f := fun z => h (by simp [z])
    rw [List.zip_cons_cons]
    show (if n = f then (n, v) :: ns.zip vs else (n, u) :: putF f v (ns.zip vs)) = _
    rw [if_neg hn, putF_new (fun z => h (by simp [z])) (by simpa using hl)]
    rfl
  | [], u :: vs, h, hl => by simp at hl
  | n :: ns, [], h, hl => by simp at hl
theorem es_setF {C : Addr} {i : Nat} {f : Str} {tv : TE} {m : M D} (hC : ClsOk K C f) (hv : Ev K W tv m) : Es K W (sFld K (tVar i) tv f) (mSetF C i f m) := by
  refine es_of (u := fun (y : V) Z σ H => tVar i σ H fun x H2 => ∃ a C dx fs, x = .ref a ∧ H2 a = some (.ins C dx fs) ∧ Cls K C ∧ NoAttr K C f ∧ fs.length < 1000 ∧ Z.nx σ (upd H2 a (.ins C dx (putF f y fs)))) hv fun d v C' hK hW al F H σ δ S rl o ho Z hZ => ?_
  cases e : ownI δ i with
  | none => simp only [e] at ho; cases ho
  | some p =>
    obtain ⟨s, C2, ns, ds⟩ := p
    simp only [e] at ho
    obtain ⟨⟨hc, hl, hn⟩, rfl⟩ := if_some ho
    subst hc
    obtain ⟨h1, h2⟩ := ownI_some e
    subst hK
    obtain ⟨o1, o2, o3, dx, vs, o4, o5, o6⟩ := S.ow i s _ h1 h2
    have lv : vs.length = ns.length := by rw [o6.len, o5]
    refine ⟨_, o1, al i, C2, dx, _, rfl, o4, hC.cl, hC.na, by rw [List.length_zip]; omega, ?_⟩
    rw [putF_new hn lv.symm]
    refine hZ al F _ σ (Same.refl _) ?_
    have rd : Rep C'.K F d v := rl
    exact S.poke1 h1 h2 (reown_own (s := s)) (fun z hz => reown_io hz) ⟨dx, vs ++ [v], upd_same, by rw [List.length_append, List.length_append, o5] <;> rfl, o6.app (reps_cons rd reps_nil)⟩
/-! ### C(..) -/
def mMake (C : Addr) (ks : List PK) (f : List D → Option (R D)) (a : M (List Op)) : M D := a.bind fun os => (mRds os).bind fun ds => fun δ => if frOk ks os then match f (.ins C [] [] :: ds) with
  | some (.ok .non δ') => match δ'[(0 : Nat)]? with
    | some (Sl.io (.ins C' ns es)) => some (.ok (.ins C' ns es) δ)
    | _ => none
  | some (.ex x _) => some (.ex x δ)
  | _ => none else none
theorem en_make {C : Addr} {ks : List PK} {f : List D → Option (R D)} {a : M (List Op)} {ta : TA} {E : XK} (ha : Ea K W ta a) (hW : (∀ cls dd σ H, W cls dd σ H → E cls dd H) ∨ NoEx f) : En1 K W (tMake C (SpD K (.io :: ks) f) [] E ta) (mMake C ks f a) := by
  refine J.bindN (t2 := fun (vs : List V) (_ : St) (H : Hp) (Q : VK) => ∀ x dx, H x = none → H dx = none → dx ≠ x → SpD K (.io :: ks) f (.ref x :: (vs ++ [])) (upd (upd H dx (.own x)) x (.ins C dx [])) (fun v H2 => v = .non ∧ Q (.ref x) H2) E) ha monoT fun os vs => ?_
  intro Cn hK hWC al F H σ δ S hp r hr Q hok hex x dx hx hdx hne
  subst hK
  obtain ⟨ds, h1, hr⟩ := rds_bind hr
  by_cases hf : frOk ks os = true
  · simp only [hf, if_true] at hr
    have hrel : relA Cn.K F σ vs os := hp.2
    have lk := frOk_len hf
    have lv : vs.length = os.length := hrel.length
    have ld := rds_len h1
    -- the heap with the new object, as one more slot
    have n1 : New F H F (upd H dx (.own x)) := New.put S.fh hdx
    have hx2 : (upd H dx (.own x)) x = none := by rw [upd_ne (Ne.symm hne)]; exact hx
    have n2 : New F (upd H dx (.own x)) F (upd (upd H dx (.own x)) x (.ins C dx [])) := New.put n1.fh hx2
    have S2 := (S.new n1).new n2
    have hF : F x = none := S.fh.free hx
    have hPx : Cn.P x = none := S.ph.free hx
    have hO : ∀ (j : Nat) s e, δ[j]? = some s → Sl.own s = some e → al j ≠ x := fun j s e q r z => by
      obtain ⟨_, _, _, h4⟩ := S.ow j s e q r
      obtain ⟨u, hu⟩ := h4.there
      rw [z, hx] at hu
      cases hu
    have S3 : StOk Cn (fun j => if j = δ.length then x else al j) F (upd (upd H dx (.own x)) x (.ins C dx [])) (σ ++ [some (.ref x)]) (δ ++ [.ow (.ins C [] [])]) := by
      have gl : ∀ (j : Nat) s, (δ ++ [Sl.ow (.ins C [] [])])[j]? = some s → (j < δ.length ∧ δ[j]? = some s) ∨ (j = δ.length ∧ s = .ow (.ins C [] [])) := fun j s q => by
        by_cases z : j < δ.length
        · rw [List.getElem?_append_left z] at q
          exact Or.inl ⟨z, q⟩
        · rw [List.getElem?_append_right (by omega)] at q
          have : j - δ.length = 0 := by
            cases w : j - δ.length with
            | zero => rfl
            | succ m => rw [w] at q; simp at q
          rw [this] at q
          exact Or.inr ⟨by omega, by simpa using q.symm⟩
      have sl : ∀ (j : Nat), j < δ.length → (σ ++ [some (V.ref x)])[j]? = σ[j]? := fun j z => List.getElem?_append_left (by rw [S.len]; exact z)
      refine ⟨S2.fh, S2.ph, S2.bp, S2.f0, S2.fp, by simp [S.len], fun j d q => ?_, fun j d q => ?_, fun j s d q r => ?_, fun j d q => ?_, fun j k s t d e q1 q2 r1 r2 r3 => ?_, fun j ns q => ?_, fun j es q => ?_, S2.qp⟩
      · rcases gl j _ q with ⟨z1, z2⟩ | ⟨z1, z2⟩
        · rw [sl j z1]; exact S2.fr j d z2
        · cases z2
      · rcases gl j _ q with ⟨z1, z2⟩ | ⟨z1, z2⟩
        · rw [sl j z1]; exact S2.bo j d z2
        · cases z2
      · rcases gl j _ q with ⟨z1, z2⟩ | ⟨z1, z2⟩
        · rw [sl j z1, if_neg (by omega)]; exact S2.ow j s d z2 r
        · subst z2
          cases r
          rw [if_pos z1, z1]
          refine ⟨?_, hF, hPx, dx, [], upd_same, rfl, reps_nil⟩
          rw [List.getElem?_append_right (by rw [S.len]; exact Nat.le_refl _), S.len]
          simp
      · rcases gl j _ q with ⟨z1, z2⟩ | ⟨z1, z2⟩
        · rw [if_neg (by omega)]; exact S2.io j d z2
        · cases z2
      · rcases gl j _ q1 with ⟨z1, z2⟩ | ⟨z1, z2⟩
        · rcases gl k _ q2 with ⟨y1, y2⟩ | ⟨y1, y2⟩
          · rw [if_neg (by omega), if_neg (by omega)] at r3
            exact S2.inj j k s t d e z2 y2 r1 r2 r3
          · rw [if_neg (by omega), if_pos y1] at r3
            exact absurd r3 (hO j s d z2 r1)
        · rcases gl k _ q2 with ⟨y1, y2⟩ | ⟨y1, y2⟩
          · rw [if_pos z1, if_neg (by omega)] at r3
            exact absurd r3.symm (hO k t e y2 r2)
          · rw [z1, y1]
      · rcases gl j _ q with ⟨z1, z2⟩ | ⟨z1, z2⟩
        · rw [sl j z1]; exact S2.sc j ns z2
        · cases z2
      · rcases gl j _ q with ⟨z1, z2⟩ | ⟨z1, z2⟩
        · rw [sl j z1]; exact S2.b2 j es z2
        · cases z2
    have hi : (δ ++ [Sl.ow (.ins C [] [])])[δ.length]? = some (.ow (.ins C [] [])) := by simp
    have oLt : ∀ o ∈ os, ∀ j, opIx o = some j → j < δ.length := fun o hj j ej => by
      obtain ⟨k, hk⟩ := List.mem_iff_getElem?.mp hj
      obtain ⟨d, _, h3⟩ := rds_get h1 hk
      cases o with
      | val z => cases ej
      | slot i =>
        cases ej
        simp only [rd] at h3
        cases e : δ[j]? with
        | none => rw [e] at h3; cases h3
        | some s => exact (List.getElem?_eq_some_iff.mp e).1
      | part i k =>
        cases ej
        simp only [rd] at h3
        cases e : δ[j]? with
        | none => rw [e] at h3; cases h3
        | some s => exact (List.getElem?_eq_some_iff.mp e).1
    have hap : apart δ.length os = true := by
      have : ∀ os : List Op, (∀ o ∈ os, ∀ j, opIx o = some j → j < δ.length) → apart δ.length os = true := by
        intro os
        induction os with
        | nil => intro _; rfl
        | cons o os ih =>
          intro h
          cases o with
          | val d => exact ih fun o hj => h o (by simp [hj])
          | slot j =>
            simp only [apart, Bool.and_eq_true, bne_iff_ne]
            exact ⟨Nat.ne_of_lt (h (.slot j) (by simp) j rfl), ih fun o hj => h o (by simp [hj])⟩
          | part j k =>
            simp only [apart, Bool.and_eq_true, bne_iff_ne]
            exact ⟨Nat.ne_of_lt (h (.part j k) (by simp) j rfl), ih fun o hj => h o (by simp [hj])⟩
      exact this os oLt
    have hrel2 : relA Cn.K F (σ ++ [some (.ref x)]) vs os := by
      have : ∀ (vs : List V) (os : List Op), (∀ o ∈ os, ∀ j, opIx o = some j → j < δ.length) → relA Cn.K F σ vs os → relA Cn.K F (σ ++ [some (.ref x)]) vs os := by
        intro vs os hlt hr
        induction hr with
        | nil => exact .nil
        | @cons v o vs os r t ih =>
          refine .cons ?_ (ih fun o hj => hlt o (by simp [hj]))
          cases o with
          | val d => exact r
          | slot j =>
            show (σ ++ [some (V.ref x)])[j]? = some (some v)
            rw [List.getElem?_append_left (by rw [S.len]; exact hlt (.slot j) (by simp) j rfl)]
            exact r
          | part j k =>
            obtain ⟨p, ws, r1, r2, r3⟩ := r
            refine ⟨p, ws, ?_, r2, r3⟩
            rw [List.getElem?_append_left (by rw [S.len]; exact hlt (.part j k) (by simp) j rfl)]
            exact r1
      exact this vs os oLt hrel
    have h12 : rds os (δ ++ [.ow (.ins C [] [])]) = some ds := by
      have : ∀ (os : List Op) (ds : List D), (∀ o ∈ os, ∀ j, opIx o = some j → j < δ.length) → rds os δ = some ds → rds os (δ ++ [.ow (.ins C [] [])]) = some ds := by
        intro os
        induction os with
        | nil => intro ds _ h; exact h
        | cons o os ih =>
          intro ds hlt h
          simp only [rds] at h ⊢
          cases e1 : rd o δ with
          | none => simp only [e1] at h; cases h
          | some d =>
            cases e2 : rds os δ with
            | none => simp only [e1, e2] at h; cases h
            | some ds' =>
              simp only [e1, e2] at h
              have e3 : rd o (δ ++ [.ow (.ins C [] [])]) = some d := by
                cases o with
                | val z => exact e1
                | slot j =>
                  simp only [rd] at e1 ⊢
                  rw [List.getElem?_append_left (hlt (.slot j) (by simp) j rfl)]
                  exact e1
                | part j k =>
                  simp only [rd] at e1 ⊢
                  rw [List.getElem?_append_left (hlt (.part j k) (by simp) j rfl)]
                  exact e1
              rw [e3, ih ds' (fun o hj => hlt o (by simp [hj])) e2]
              exact h
      exact this os ds oLt h1
    have St1 := S3.enter (i := δ.length) hi rfl hf hap hrel2 h12
    simp only [if_true] at St1
    cases e3 : f (.ins C [] [] :: ds) with
    | none => simp only [e3] at hr; cases hr
    | some q =>
      refine ⟨{ K := Cn.K, P := fun a => if a = x then none else upd (upd H dx (HO.own x)) x (HO.ins C dx []) a, B := fun a => if a = x then none else upd (upd H dx (HO.own x)) x (HO.ins C dx []) a, F0 := F, bt := fun _ => x, W := Cn.W }, fun _ => x, .ins C [] [] :: ds, q, rfl, by rw [List.append_nil]; simp; omega, by simp; omega, (by rw [List.append_nil]; exact St1), e3, fun d δ2 e4 al' F' H' σ' v s' S' rv => ?_, fun xx δ2 e4 al' F' H' σ' cls dd s' S' xr => ?_⟩
      · subst e4
        simp only [e3] at hr
        cases d with
        | non =>
          simp only at hr
          cases e5 : δ2[(0 : Nat)]? with
          | none => simp only [e5] at hr; cases hr
          | some s0 =>
            cases s0 with
            | io e =>
              cases e with
              | ins C' ns es =>
                simp only [e5] at hr
                cases hr
                refine ⟨Rep.non_iff.mp rv, ?_⟩
                obtain ⟨y1, y2, y3, y4⟩ := S'.ow 0 _ _ e5 rfl
                have e0 : al' 0 = x := S'.io 0 _ e5
                rw [e0] at y2 y3 y4
                have nw : ∀ a o, H a = some o → H' a = some o := fun a o q => by
                  have na : a ≠ x := ne_of_none q hx
                  have nd : a ≠ dx := ne_of_none q hdx
                  refine S'.ph a o ?_
                  simp only [na, if_false]
                  rw [upd_ne na, upd_ne nd]
                  exact q
                have nf : ∀ a o, F' a = some o → F a = some o ∨ H a = none := fun a o q => by
                  rcases S'.fp a o q with z | z
                  · exact Or.inl z
                  · by_cases w : a = x
                    · rw [w]; exact Or.inr hx
                    · have z' : (if a = x then none else (upd (upd H dx (.own x)) x (.ins C dx [])) a) = none := z
                      rw [if_neg w, upd_ne w] at z'
                      by_cases w2 : a = dx
                      · rw [w2]; exact Or.inr hdx
                      · rw [upd_ne w2] at z'; exact Or.inr z'
                exact hok _ δ rfl al F' H' x S'.f0 (S.new ⟨S'.f0, S'.fh, nw, nf⟩) y2 hPx hO y4
              | _ => simp only [e5] at hr; cases hr
            | _ => simp only [e5] at hr; cases hr
        | _ => simp only at hr; cases hr
      · subst e4
        simp only [e3] at hr
        cases hr
        have nw : ∀ a o, H a = some o → H' a = some o := fun a o q => by
          have na : a ≠ x := ne_of_none q hx
          have nd : a ≠ dx := ne_of_none q hdx
          refine S'.ph a o ?_
          simp only [na, if_false]
          rw [upd_ne na, upd_ne nd]
          exact q
        have nf : ∀ a o, F' a = some o → F a = some o ∨ H a = none := fun a o q => by
          rcases S'.fp a o q with z | z
          · exact Or.inl z
          · by_cases w : a = x
            · rw [w]; exact Or.inr hx
            · have z' : (if a = x then none else (upd (upd H dx (.own x)) x (.ins C dx [])) a) = none := z
              rw [if_neg w, upd_ne w] at z'
              by_cases w2 : a = dx
              · rw [w2]; exact Or.inr hdx
              · rw [upd_ne w2] at z'; exact Or.inr z'
        rcases hW with hW | hW
        · exact hW _ _ σ _ (hex xx δ rfl al F' H' cls dd S'.f0 (S.new ⟨S'.f0, S'.fh, nw, nf⟩) xr)
        · exact absurd e3 (hW _ _ _)
  · simp only [hf] at hr
    cases hr
end
end DL

set_option Elab.async false
set_option linter.all false
set_option maxRecDepth 100000
set_option maxHeartbeats 400000
/-! DLi: the judgements over the text: a rule of the hand layer and what it computes, together. -/
namespace DL
open PySem L2
structure XE (X : Cx) (W : WX) (e : Expr) (t : TE) (m : M D) : Prop where
  p : PE X e t
  v : Ev X.K W t m
structure XN (X : Cx) (W : WX) (e : Expr) (t : TE) (m : M D) : Prop where
  p : PE X e t
  v : En1 X.K W t m
structure XO (X : Cx) (W : WX) (e : Expr) (t : TE) (m : M Op) : Prop where
  p : PE X e t
  v : Eo X.K W t m
structure XT (X : Cx) (W : WX) (e : Expr) (t : TT) (m : M Bool) : Prop where
  p : PT X e t
  v : Et X.K W t m
structure XW (X : Cx) (W : WX) (e : Expr) (t : TT) (m : M Bool) : Prop where
  p : PW X e t
  v : Et X.K W t m
structure XA (X : Cx) (W : WX) (es : List Expr) (t : TA) (m : M (List Op)) : Prop where
  p : PA X es t
  v : Ea X.K W t m
structure XD (X : Cx) (W : WX) (es : List Expr) (t : TA) (m : M (List D)) : Prop where
  p : PA X es t
  v : Eds X.K W t m
structure XP (X : Cx) (W : WX) (e : Option Expr) (t : TO) (m : M (Option Int)) : Prop where
  p : PO X e t
  v : Ep X.K W t m
structure XG (X : Cx) (b : Bool) (e : Expr) (t : TG) (m : Mg) (vs : List Nat) : Prop where
  p : PG X e t
  v : Eg X.K b t m
  w : Gw t vs
  n : Gm t
structure XGs (X : Cx) (es : List Expr) (t : TGs) (m : List D → En → Option En) (n : Nat) (vs : List Nat) : Prop where
  p : PGs X es t
  v : Egs X.K t m
  l : GsN m n
  w : Gws t vs
  k : Gms t
structure XI (X : Cx) (W : WX) (b : Bool) (tg e : Expr) (t : TI) (m : M (List D)) : Prop where
  p : PI X tg e t
  v : Ei X.K W b t m
structure XTs (X : Cx) (W : WX) (es : List Expr) (t : TT) (m : M Bool) : Prop where
  p : PTs X es t
  v : Et X.K W t m
structure XS (X : Cx) (W : WX) (s : Stmt) (t : TS) (m : Ms) : Prop where
  p : PS X s t
  v : Es X.K W t m
structure XB (X : Cx) (W : WX) (s : List Stmt) (t : TS) (m : Ms) : Prop where
  p : PSs X s t
  v : Es X.K W t m
section
variable {X : Cx} {W : WX} {a b c e o : Expr} {es : List Expr} {ta tb tc te to : TE} {pos p2 : Pos} {ma mb mc me : M D} {oa ob oc : M Op}
/-! values -/
theorem x_var (i : Nat) {x : Str} (hN : X.N[i]? = some x := by rfl) (hv : Vis X.env.scope x := by first | exact Or.inl rfl | exact Or.inr (Or.inl rfl) | exact Or.inr (Or.inr rfl)) (hd : (x == ("__debug__" : Str)) = false := by decide)
    (hcd : (x == ("__classdict__" : Str)) = false := by decide) : XE X W (.Name x pos) (tVar i) (mVar i) := ⟨pe_var hN hv hd hcd, ev_var⟩
theorem o_var (i : Nat) {x : Str} (hN : X.N[i]? = some x := by rfl) (hv : Vis X.env.scope x := by first | exact Or.inl rfl | exact Or.inr (Or.inl rfl) | exact Or.inr (Or.inr rfl)) (hd : (x == ("__debug__" : Str)) = false := by decide)
    (hcd : (x == ("__classdict__" : Str)) = false := by decide) : XO X W (.Name x pos) (tVar i) (mOv i) := ⟨pe_var hN hv hd hcd, eo_var⟩
theorem o_e (h : XE X W e te me) : XO X W e te (mVal me) := ⟨h.p, eo_val h.v⟩
theorem x_n (h : XN X W e te me) : XE X W e te me := ⟨h.p, Jn.frz h.v⟩
theorem x_int {i : Int} {j : Nat} : XE X W (.Constant (.int i) j pos) (tC (.int i)) (mC (.int i)) := ⟨pe_int, ev_c fun F => Rep.int_iff.mpr rfl⟩
theorem x_bl {i : Bool} {j : Nat} : XE X W (.Constant (.bool i) j pos) (tC (.bl i)) (mC (.bl i)) := ⟨pe_bl, ev_c fun F => Rep.bl_iff.mpr rfl⟩
theorem x_non {j : Nat} : XE X W (.Constant .none j pos) (tC .non) (mC .non) := ⟨pe_non, ev_c fun F => Rep.non_iff.mpr rfl⟩
theorem x_str {x : Str} {j : Nat} : XE X W (.Constant (.str x) j pos) (tC (.str x)) (mC (.str x)) := ⟨pe_str, ev_c fun F => Rep.str_iff.mpr rfl⟩
theorem x_globS {x : Str} {i : Str} {t : Tok} (hm : X.mg x = some (.str i t)) (hg : Gl X x := by rfl) (hd : (x == ("__debug__" : Str)) = false := by decide) : XE X W (.Name x pos) (tC (.str i)) (mC (.str i)) := ⟨pe_glob hg hm ⟨t, rfl⟩ hd, ev_c fun F => Rep.str_iff.mpr rfl⟩
/-! operators -/
theorem x_add {K : Fg} (ha : XO X W a ta oa) (hb : XO X W b tb ob) (hK : X.K = K := by rfl) : XE X W (.BinOp a .Add b pos) (tOp (rAddA K) ta tb) (m2 addD oa ob) := by
  subst hK
  exact ⟨pe_op op_addA ha.p hb.p, ev_2 prim_add ha.v hb.v⟩
theorem x_mul (ha : XO X W a ta oa) (hb : XO X W b tb ob) : XE X W (.BinOp a .Mult b pos) (tOp (rI CMul fun i j => .int (i * j)) ta tb) (m2 (fI mulOk fun i j => .int (i * j)) oa ob) := ⟨pe_op op_mul ha.p hb.p, ev_2 prim_mul ha.v hb.v⟩
theorem x_div (ha : XO X W a ta oa) (hb : XO X W b tb ob) : XE X W (.BinOp a .FloorDiv b pos) (tOp (rI CDiv fun i j => .int (i / j)) ta tb) (m2 (fI divOk fun i j => .int (i / j)) oa ob) := ⟨pe_op op_fdiv ha.p hb.p, ev_2 prim_div ha.v hb.v⟩
theorem x_mod (ha : XO X W a ta oa) (hb : XO X W b tb ob) : XE X W (.BinOp a .Mod b pos) (tOp (rI (fun _ j => 0 < j) fun i j => .int (i % j)) ta tb) (m2 (fI modOk fun i j => .int (i % j)) oa ob) := ⟨pe_op op_mod ha.p hb.p, ev_2 prim_mod ha.v hb.v⟩
theorem x_pow (ha : XO X W a ta oa) (hb : XO X W b tb ob) : XE X W (.BinOp a .Pow b pos) (tOp (rI CPow fun i j => .int (i ^ j.toNat)) ta tb) (m2 (fI powOk fun i j => .int (i ^ j.toNat)) oa ob) := ⟨pe_op op_pow ha.p hb.p, ev_2 prim_pow ha.v hb.v⟩
theorem x_ge (ha : XO X W a ta oa) (hb : XO X W b tb ob) : XE X W (.Compare a [.GtE] [b] pos) (tOp (rI0 fun i j => .bl (decide (j ≤ i))) ta tb) (m2 (fI0 fun i j => .bl (decide (j ≤ i))) oa ob) := ⟨pe_cmpR op_ge ha.p hb.p (nomark _), ev_2 prim_geI ha.v hb.v⟩
theorem x_eq {K : Fg} {k : Nat} (hr : Room k X.A) (ha : XO X W a ta oa) (hb : XO X W b tb ob) (hK : X.K = K := by rfl) : XE X W (.Compare a [.Eq] [b] pos) (tOp (rEqD K) ta tb) (m2 eqD oa ob) := by
  subst hK
  exact ⟨pe_cmpR (op_eqD hr.units) ha.p hb.p (nomark _), ev_2 prim_eq ha.v hb.v⟩
theorem room_in {k : Nat} {A : Around} (r : Room k A) : A.units + 65 < cLine := by have := r.un; omega
theorem x_inL {K : Fg} {k : Nat} (hr : Room k X.A) (ha : XO X W a ta oa) (hb : XO X W b tb ob) (hm : behindInMarks .In b = false := by rfl) (hK : X.K = K := by rfl) : XE X W (.Compare a [.In] [b] pos) (tOp (rInD K) ta tb) (m2 (inLD false) oa ob) := by
  subst hK
  exact ⟨pe_cmpR (op_inD (room_in hr)) ha.p hb.p hm, ev_2 prim_inL ha.v hb.v⟩
theorem x_inS (ha : XO X W a ta oa) (hb : XO X W b tb ob) (hm : behindInMarks .In b = false := by rfl) : XE X W (.Compare a [.In] [b] pos) (tOp rInSign ta tb) (m2 (inSignD false) oa ob) := ⟨pe_cmpR op_in_sign ha.p hb.p hm, ev_2 prim_inSign ha.v hb.v⟩
/-! truths -/
theorem x_and {rest : List Expr} (ha : XE X W a ta ma) (hb : XE X W (.BoolOp .And (b :: rest) pos) tb mb) : XE X W (.BoolOp .And (a :: b :: rest) pos) (tAndV ta tb) (mAndV ma mb) := ⟨pe_and ha.p hb.p, ev_and ha.v hb.v⟩
theorem x_or {rest : List Expr} (ha : XE X W a ta ma) (hb : XE X W (.BoolOp .Or (b :: rest) pos) tb mb) : XE X W (.BoolOp .Or (a :: b :: rest) pos) (tOrV ta tb) (mOrV ma mb) := ⟨pe_or ha.p hb.p, ev_or ha.v hb.v⟩
theorem x_one {op : BoolOp} (ha : XE X W a ta ma) : XE X W (.BoolOp op [a] pos) ta ma := ⟨pe_one ha.p, ha.v⟩
theorem x_not (ha : XE X W a ta ma) : XE X W (.UnaryOp .Not a pos) (tNotV ta) (mNotV ma) := ⟨pe_not ha.p, ev_not ha.v⟩
theorem t_val (ha : XE X W a ta ma) (he : ∀ whole, isTrue a X.env whole = (do let v ← whole; standAt a.pos; holding [v] (truthy v)) := by intro _; rfl) : XT X W a (tB ta) (mTest ma) := ⟨pt_val ha.p he, et_B ha.v⟩
theorem t_not {t : TT} {m : M Bool} (ha : XT X W a t m) : XT X W (.UnaryOp .Not a pos) (tNot t) (mNot m) := ⟨pt_not ha.p, et_not ha.v⟩
theorem t_w {t : TT} {m : M Bool} (h : XW X W a t m) : XT X W a t m := ⟨h.p.pt, h.v⟩
theorem w_and {t u : TT} {m n : M Bool} {rest : List Expr} (ha : XT X W a t m) (hb : XW X W (.BoolOp .And (b :: rest) pos) u n) : XW X W (.BoolOp .And (a :: b :: rest) pos) (tAnd t u) (mAnd m n) := ⟨pw_and ha.p hb.p, et_and ha.v hb.v⟩
theorem w_and1 {t : TT} {m : M Bool} (ha : XT X W a t m) : XW X W (.BoolOp .And [a] pos) t m := ⟨pw_and1 ha.p, ha.v⟩
theorem w_or {t u : TT} {m n : M Bool} {rest : List Expr} (ha : XT X W a t m) (hb : XW X W (.BoolOp .Or (b :: rest) pos) u n) : XW X W (.BoolOp .Or (a :: b :: rest) pos) (tOr t u) (mOr m n) := ⟨pw_or ha.p hb.p, et_or ha.v hb.v⟩
theorem w_or1 {t : TT} {m : M Bool} (ha : XT X W a t m) : XW X W (.BoolOp .Or [a] pos) t m := ⟨pw_or1 ha.p, ha.v⟩
/-! items, slices -/
theorem x_ix {K : Fg} (ha : XO X W a ta oa) (hb : XO X W b tb ob) (hs : PlainIx b := by exact fun _ _ => rfl) (hK : X.K = K := by rfl) : XE X W (.Subscript a b pos) (tOp (rIx K) ta tb) (m2 ixD oa ob) := by
  subst hK
  exact ⟨pe_ix ix_seq ha.p hb.p hs, ev_2 prim_ix ha.v hb.v⟩
theorem p_none : XP X W none tNoPart mpNone := ⟨po_none, ep_none⟩
theorem p_some (h : XE X W e te me) : XP X W (some e) (tPart te) (mpSome me) := ⟨po_some h.p, ep_some h.v⟩
theorem x_sl {K : Fg} {lo hi : Option Expr} {tl th : TO} {l u : M (Option Int)} (ha : XO X W a ta oa) (hl : XP X W lo tl l) (hu : XP X W hi th u) (hK : X.K = K := by rfl) : XE X W (.Subscript a (.Slice lo hi none p2) pos) (tSl (rSlAny K) ta tl th) (mSl slD oa l u) := by
  subst hK
  exact ⟨pe_slice sl_any ha.p hl.p hu.p, ev_sl prim_sl ha.v hl.v hu.v⟩
/-! arguments, displays -/
theorem a_nil : XA X W [] tNil maNil := ⟨pa_nil, ea_nil⟩
theorem a_cons {tr : TA} {m : M (List Op)} (ha : XO X W e te oa) (hr : XA X W es tr m) (hs : starEach (e :: es) X.env = (false, eval e X.env) :: starEach es X.env := by rfl) : XA X W (e :: es) (tCons te tr) (maCons oa m) := ⟨pa_cons ha.p hr.p hs, ea_cons ha.v hr.v⟩
theorem d_nil : XD X W [] tNil mdNil := ⟨pa_nil, ed_nil⟩
theorem d_cons {tr : TA} {m : M (List D)} (ha : XE X W e te me) (hr : XD X W es tr m) (hs : starEach (e :: es) X.env = (false, eval e X.env) :: starEach es X.env := by rfl) : XD X W (e :: es) (tCons te tr) (mdCons me m) := ⟨pa_cons ha.p hr.p hs, ed_cons ha.v hr.v⟩
theorem x_tup {t : TA} {m : M (List D)} {k : Nat} (h : XD X W es t m) : XE X W (.Tuple es k pos) (tTupZ t) (mTup m) := ⟨pe_tupZ h.p, ev_tup h.v⟩
theorem n_lst {t : TA} {m : M (List D)} (h : XD X W es t m) : XN X W (.List es pos) (tLst t) (mLst m) := ⟨pe_lst h.p, en_lst h.v⟩
/-! built-ins -/
theorem x_cb {x : Str} {id : String} {r : List V → Hp → VK → Prop} {f : List D → Option D} {t : TA} {m : M (List Op)} (cr : CallR X (.builtin id) r) (pr : PrimA X.K r f) (hv : bootBuiltins x = some (.builtin id)) (hm : X.mg x = none) (h : XA X W (e :: es) t m) (hg : Gl X x := by rfl) (hn : x ≠ "__name__" := by decide) (hdb : (x == ("__debug__" : Str)) = false := by decide)
    (hs : starEach (e :: es) X.env = (false, eval e X.env) :: starEach es X.env := by rfl) (hpl : (backTo pos (starEach es X.env)).any (·.1) = false := by rfl) : XE X W (.Call (.Name x p2) (e :: es) [] pos) (tCB r t) (mA f m) := ⟨pe_callB cr hg hm hv h.p hn hdb hs hpl, ev_A pr h.v⟩
theorem n_cb {x : Str} {id : String} {r : List V → Hp → VK → Prop} {f : List D → Option (List D)} {t : TA} {m : M (List Op)} (cr : CallR X (.builtin id) r) (pr : PrimNA X.K r f) (hv : bootBuiltins x = some (.builtin id)) (hm : X.mg x = none) (h : XA X W (e :: es) t m) (hg : Gl X x := by rfl) (hn : x ≠ "__name__" := by decide) (hdb : (x == ("__debug__" : Str)) = false := by decide)
    (hs : starEach (e :: es) X.env = (false, eval e X.env) :: starEach es X.env := by rfl) (hpl : (backTo pos (starEach es X.env)).any (·.1) = false := by rfl) : XN X W (.Call (.Name x p2) (e :: es) [] pos) (tCB r t) (mnA f m) := ⟨pe_callB cr hg hm hv h.p hn hdb hs hpl, en_A pr h.v⟩
theorem x_ct {x : Str} {T : String} {r : List V → Hp → VK → Prop} {f : List D → Option D} {t : TA} {m : M (List Op)} (cr : CallR X (.type T) r) (pr : PrimA X.K r f) (hv : bootBuiltins x = some (.type T)) (hm : X.mg x = none) (h : XA X W (e :: es) t m) (hg : Gl X x := by rfl) (hn : x ≠ "__name__" := by decide) (hdb : (x == ("__debug__" : Str)) = false := by decide)
    (hs : starEach (e :: es) X.env = (false, eval e X.env) :: starEach es X.env := by rfl) (hpl : (backTo pos (starEach es X.env)).any (·.1) = false := by rfl) : XE X W (.Call (.Name x p2) (e :: es) [] pos) (tCB r t) (mA f m) := ⟨pe_callTy cr hg hm hv h.p hn hdb hs hpl, ev_A pr h.v⟩
theorem n_ct {x : Str} {T : String} {r : List V → Hp → VK → Prop} {f : List D → Option (List D)} {t : TA} {m : M (List Op)} (cr : CallR X (.type T) r) (pr : PrimNA X.K r f) (hv : bootBuiltins x = some (.type T)) (hm : X.mg x = none) (h : XA X W (e :: es) t m) (hg : Gl X x := by rfl) (hn : x ≠ "__name__" := by decide) (hdb : (x == ("__debug__" : Str)) = false := by decide)
    (hs : starEach (e :: es) X.env = (false, eval e X.env) :: starEach es X.env := by rfl) (hpl : (backTo pos (starEach es X.env)).any (·.1) = false := by rfl) : XN X W (.Call (.Name x p2) (e :: es) [] pos) (tCB r t) (mnA f m) := ⟨pe_callTy cr hg hm hv h.p hn hdb hs hpl, en_A pr h.v⟩
/-- isinstance(x, T), T a built-in class -/
theorem x_isi {K : Fg} {y : Str} {T : String} {p3 p4 : Pos} (hm : X.mg "isinstance" = none) (hmT : X.mg y = none) (hvT : bootBuiltins y = some (.type T)) (ha : XO X W a ta oa) (hg : Gl X "isinstance" := by rfl) (hgT : Gl X y := by rfl) (hnT : y ≠ "__name__" := by decide) (hdT : (y == ("__debug__" : Str)) = false := by decide)
    (hs : starEach [a, .Name y p4] X.env = (false, eval a X.env) :: starEach [.Name y p4] X.env := by rfl) (hs2 : starEach [.Name y p4] X.env = (false, eval (.Name y p4) X.env) :: starEach [] X.env := by rfl) (hpl : (backTo pos (starEach [.Name y p4] X.env)).any (·.1) = false := by rfl) (hK : X.K = K := by rfl) :
    XE X W (.Call (.Name "isinstance" p3) [a, .Name y p4] [] pos) (tIsi K T ta) (m1 (isB T) oa) := by
  subst hK
  exact ⟨pe_callB call_isi hg hm (by decide +kernel) (pa_cons ha.p (pa_cons (pe_bltn (v := .ty T) hgT hmT hvT rfl hnT hdT) pa_nil hs2) hs) (by decide) (by decide) hs hpl, ev_isi ha.v⟩
/-! calls of defs -/
theorem x_call {K : Fg} {x : Str} {f : Addr} {fd : FuncData} {ps : List Str} {k j : Nat} {ks : List PK} {F : List D → Option (R D)} {t : TA} {m : M (List Op)} (hN : NoEx F) (G : FnOk X.prog X.w X.K X.mg X.base CX0 k f fd ps (SpD X.K ks F)) (hr : Room j X.A) (hkj : k ≤ j) (hm : X.mg x = some (.ref f)) (hk : PySem.W.keepIn X.K (.ref f) = true) (hb : Binds X.K fd ps []) (h : XA X W (e :: es) t m) (hg : Gl X x := by rfl)
    (hdb : (x == ("__debug__" : Str)) = false := by decide) (hs : starEach (e :: es) X.env = (false, eval e X.env) :: starEach es X.env := by rfl) (hpl : (backTo pos (starEach es X.env)).any (·.1) = false := by rfl) (hK : X.K = K := by rfl) :
    XE X W (.Call (.Name x p2) (e :: es) [] pos) (tCall (SpD K ks F) [] E0 t) (mCall ks F m) := by
  subst hK
  exact ⟨pe_call G (hr.mono hkj) hg hm hk hb .nil pass0 h.p hdb hs hpl, ev_call h.v (Or.inr hN)⟩
theorem x_callS {K : Fg} {x : Str} {f : Addr} {fd : FuncData} {ps : List Str} {k j i : Nat} {ks : List PK} {F : List D → Option (R D)} {t : TA} {m : M (List Op)} (hN : NoEx F) (G : FnOk X.prog X.w X.K X.mg X.base CX0 k f fd ps (SpD X.K (.io :: ks) F)) (hr : Room j X.A) (hkj : k ≤ j) (hm : X.mg x = some (.ref f)) (hk : PySem.W.keepIn X.K (.ref f) = true) (hb : Binds X.K fd ps []) (hp : PE X e (tVar i)) (h : XA X W es t m) (hg : Gl X x := by rfl)
    (hdb : (x == ("__debug__" : Str)) = false := by decide) (hs : starEach (e :: es) X.env = (false, eval e X.env) :: starEach es X.env := by rfl) (hpl : (backTo pos (starEach es X.env)).any (·.1) = false := by rfl) (hK : X.K = K := by rfl) :
    XE X W (.Call (.Name x p2) (e :: es) [] pos) (tCall (SpD K (.io :: ks) F) [] E0 (tCons (tVar i) t)) (mCallS i ks F m) := by
  subst hK
  exact ⟨pe_call G (hr.mono hkj) hg hm hk hb .nil pass0 (pa_cons hp h.p hs) hdb hs hpl, ev_callS h.v (Or.inr hN)⟩
theorem n_make {K : Fg} {x : Str} {C f : Addr} {fd : FuncData} {ps : List Str} {k j : Nat} {ks : List PK} {F : List D → Option (R D)} {t : TA} {m : M (List Op)} (Mk0 : Mk X.K C f) (hN : NoEx F) (G : FnOk X.prog X.w X.K X.mg X.base CX0 k f fd ps (SpD X.K (.io :: ks) F)) (hr : Room j X.A) (hkj : k + 1 ≤ j) (hm : X.mg x = some (.ref C)) (hb : Binds X.K fd ps []) (h : XA X W (e :: es) t m) (hg : Gl X x := by rfl)
    (hdb : (x == ("__debug__" : Str)) = false := by decide) (hs : starEach (e :: es) X.env = (false, eval e X.env) :: starEach es X.env := by rfl) (hpl : (backTo pos (starEach es X.env)).any (·.1) = false := by rfl) (hK : X.K = K := by rfl) :
    XN X W (.Call (.Name x p2) (e :: es) [] pos) (tMake C (SpD K (.io :: ks) F) [] E0 t) (mMake C ks F m) := by
  subst hK
  exact ⟨pe_make Mk0 G (hr.mono hkj) hg hm hb .nil pass0 h.p hdb hs hpl, en_make h.v (Or.inr hN)⟩
/-! fields, methods of lists of one's own -/
theorem x_fld {K : Fg} {Cs : List Addr} {f : Str} (h : ∀ C ∈ Cs, ClsOk X.K C f) (ha : XO X W a ta oa) (hb : attributeBase a f X.env (eval a X.env) = eval a X.env := by rfl) (hK : X.K = K := by rfl) : XE X W (.Attribute a f pos) (tFld K ta f) (m1 (fldD Cs f) oa) := by
  subst hK
  exact ⟨pe_fld ha.p hb, ev_fld h ha.v⟩
theorem x_app {K : Fg} {i : Nat} {t : TA} {m : M (List D)} {apos : Pos} (ho : PE X o (tVar i)) (h : XD X W [e] t m) (hbase : attributeBase o "append" X.env (eval o X.env) = eval o X.env := by rfl)
    (hfew : ((backTo pos (starEach [e] X.env)).all (fun x => !x.1) && (backToKw pos (keywordEach [] X.env)).all (fun x => x.1.isSome) && decide ([e].length + ([] : List Keyword).length + (if ([] : List Keyword).isEmpty then 0 else 1) < 30)) = true := by rfl)
    (hline : (apos.endLine == pos.line) = true := by rfl) (hs : starEach [e] X.env = (false, eval e X.env) :: starEach [] X.env := by rfl) (hplain : (backTo pos (starEach [] X.env)).any (·.1) = false := by rfl) (hK : X.K = K := by rfl) :
    XE X W (.Call (.Attribute o "append" apos) [e] [] pos) (tBM K "list" rAppend (tVar i) t) (mMut appF i m) := by
  subst hK
  exact ⟨pe_bm PySem.F.plainAttrs_list PySem.F.slot_list_append PySem.F.type_list_append mt_append ho h.p hbase hfew hline hs hplain, ev_mut primM_append h.v⟩
/-! statements -/
variable {st : Stmt} {rest : List Stmt} {t u : TS} {m n : Ms}
theorem b_nil : XB X W [] tNext mNext := ⟨pss_nil, es_next⟩
theorem b_cons (h1 : XS X W st t m) (h2 : XB X W rest u n) : XB X W (st :: rest) (tSeq t u) (mSeq m n) := ⟨pss_cons h1.p h2.p, es_seq h1.v h2.v⟩
theorem b_one (h1 : XS X W st t m) : XB X W [st] t m := ⟨pss_one h1.p, h1.v⟩
theorem s_never : XS X W st tNever mNever := ⟨ps_never, es_never⟩
theorem s_expr (h : XE X W e te me) (hs : swapsWith e none pos.line X.env = pure false := by rfl) : XS X W (.Expr e pos) (tDrop te) (mDrop me) := ⟨ps_expr h.p hs, es_drop h.v⟩
theorem s_ret (h : XE X W e te me) : XS X W (.Return (some e) pos) (tRet te) (mRet me) := ⟨ps_ret h.p, es_ret h.v⟩
theorem s_if {tc : TT} {mc : M Bool} {xs ys : List Stmt} (hc : XT X W c tc mc) (ha : XB X W xs t m) (hb : XB X W ys u n) : XS X W (.If c xs ys pos) (tIfS tc t u) (mIf mc m n) := ⟨ps_if hc.p ha.p hb.p, es_if hc.v ha.v hb.v⟩
theorem s_set (i : Nat) {x : Str} {pos' : Pos} (h : XE X W e te me) (hN : X.N.Nodup) (hi : X.N[i]? = some x := by rfl) (hx : Loc X.env.scope x := by first | exact Or.inl rfl | exact Or.inr rfl) (hs : swapsWith e (some (.Name x pos')) pos.line X.env = pure false := by rfl) (hf : X.fn x = true ∨ X.env.scope.names.lookup x = some .local := by first | exact .inl rfl | exact .inr rfl) :
    XS X W (.Assign [.Name x pos'] e pos) (tAsg te (gName i)) (mAsg (gN i) me) := ⟨ps_set hN hi hx h.p hs hf, es_asg h.v eg_name⟩
theorem s_setO (i : Nat) {x : Str} {pos' : Pos} (h : XN X W e te me) (hN : X.N.Nodup) (hi : X.N[i]? = some x := by rfl) (hx : Loc X.env.scope x := by first | exact Or.inl rfl | exact Or.inr rfl) (hs : swapsWith e (some (.Name x pos')) pos.line X.env = pure false := by rfl) (hf : X.fn x = true ∨ X.env.scope.names.lookup x = some .local := by first | exact .inl rfl | exact .inr rfl) :
    XS X W (.Assign [.Name x pos'] e pos) (tAsg te (gName i)) (mAsgO i me) := ⟨ps_set hN hi hx h.p hs hf, es_asgO h.v⟩
theorem s_asg {tg : Expr} {g : TG} {a : Mg} {vs : List Nat} (h : XE X W e te me) (hg : XG X false tg g a vs) (hs : swapsWithSole [tg] e pos.line X.env = pure false := by rfl) (hw : swappedStores [tg] e X.env = pure none := by rfl) (h1 : (assignEach [tg] X.env).map (·.2) = [assign tg X.env] := by rfl) : XS X W (.Assign [tg] e pos) (tAsg te g) (mAsg a me) := ⟨ps_asg h.p hg.p hs hw h1, es_asg h.v hg.v⟩
theorem g_name (i : Nat) {x : Str} {vs : List Nat} (hN : X.N.Nodup) (hv : i ∈ vs := by decide) (hi : X.N[i]? = some x := by rfl) (hx : Loc X.env.scope x := by first | exact Or.inl rfl | exact Or.inr rfl) (hf : X.fn x = true ∨ X.env.scope.names.lookup x = some .local := by first | exact .inl rfl | exact .inr rfl) : XG X false (.Name x pos) (gName i) (gN i) vs := ⟨pg_name hN hi hx hf, eg_name, gw_name hv, gm_name⟩
theorem gs_nil {vs : List Nat} : XGs X [] gNil gs0 0 vs := ⟨pgs_nil, egs_nil, gsn0, gw_nil, gm_nil⟩
theorem gs_cons {t : TG} {u : TGs} {a : Mg} {b : List D → En → Option En} {n : Nat} {vs : List Nat} (h1 : XG X false e t a vs) (h2 : XGs X es u b n vs) (hs : (assignEach (e :: es) X.env).map (·.2) = assign e X.env :: (assignEach es X.env).map (·.2) := by rfl) : XGs X (e :: es) (gCons t u) (gsC a b) (n + 1) vs := ⟨pgs_cons h1.p h2.p hs, egs_cons h1.v h2.v, gsnC h2.l, gw_cons h1.n h1.w h2.k h2.w, gm_cons h1.n h2.k⟩
theorem g_tup {K : Fg} {q : Bool} {t : TGs} {b : List D → En → Option En} {n k : Nat} {vs : List Nat} (hc : X.calm = true) (h : XGs X es t b n vs) (hn : (assignEach es X.env).length = n := by rfl) (hst : (assignEach es X.env).findIdx? (·.1) = none := by rfl) (hK : X.K = K := by rfl) : XG X q (.Tuple es k pos) (gTup K n t) (gT b) vs := by
  subst hK
  exact ⟨pg_tup hc h.p hn hst, eg_tup h.v h.l, gw_tup h.w, gm_tup h.k⟩
/-! loops -/
variable {tg : Expr}
theorem i_list {K : Fg} (h : XE X W e te me) (hK : X.K = K := by rfl) : XI X W false tg e (iList K te) (mSeqOf me) := by
  subst hK
  exact ⟨pi_list h.p, ei_list h.v⟩
theorem i_tup {K : Fg} (h : XE X W e te me) (hK : X.K = K := by rfl) : XI X W false tg e (iTup K te) (mTupOf me) := by
  subst hK
  exact ⟨pi_tup h.p, ei_tup h.v⟩
theorem i_range1 {t : TA} {m : M (List D)} (hm : X.mg "range" = none) (h : XD X W [a] t m) (hg : Gl X "range" := by rfl) (hs : starEach [a] X.env = [(false, eval a X.env)] := by rfl) : XI X W false tg (.Call (.Name "range" p2) [a] [] pos) (iRng1 t) (mIt rg1 m) := ⟨pi_range1 hg hm h.p hs, ei_range1 h.v⟩
theorem s_for {q : Bool} {wi : TI} {g : TG} {a : Mg} {vs : List Nat} {it : M (List D)} {body : List Stmt} (hp : PassesOwn (model X.prog X.w) X.A X.env X.xe) (hc : X.calm = true) (hi : XI X W q tg e wi it) (hg : XG X q tg g a vs) (hb : XB X W body t m) (hs : ∀ x, foldedSetIterable e X.env x = pure x := by intro _; rfl) : XS X W (.For tg e body [] pos) (tFor wi g t) (mFor it a m) := ⟨ps_for hp hc hi.p hg.p hb.p hs, es_for hi.v hg.v hb.v⟩
theorem s_setI {i : Nat} {ix : Expr} {ti : TE} {mi : M D} {tpos : Pos} (ho : PE X o (tVar i)) (hi : XE X W ix ti mi) (h : XE X W e te me) (ha : ∀ v, assign (.Subscript o ix tpos) X.env v = (do
      let ov ← holding [v] (eval o X.env)
      let iv ← holding [v, ov] (eval ix X.env)
      standAt tpos
      holding [v, ov, iv] (setItem ov iv v)
      release [v, ov, iv] []) := by intro _; rfl) (hs : swapsWithSole [.Subscript o ix tpos] e pos.line X.env = pure false := by rfl) (hw : swappedStores [.Subscript o ix tpos] e X.env = pure none := by rfl) (h1 : (assignEach [.Subscript o ix tpos] X.env).map (·.2) = [assign (.Subscript o ix tpos) X.env] := by rfl) :
    XS X W (.Assign [.Subscript o ix tpos] e pos) (tAsg te (gSub (tVar i) ti rSetL)) (mS me fun d => mHas i (mS mi fun j => fun δ => match j with
      | .int n => match ownL δ i with
        | some (s, ds) => match ixN ds.length n with
          | some m => some (.nx (δ.set i (reown s (.lst (ds.set m d)))))
          | none => none
        | none => none
      | _ => none)) := ⟨ps_asg h.p (pg_sub ho hi.p set_list ha) hs hw h1, es_setI h.v hi.v⟩
theorem s_fld {K : Fg} {C : Addr} {i : Nat} {f : Str} {pos' : Pos} (hC : ClsOk X.K C f) (ho : PE X o (tVar i)) (h : XE X W e te me) (hs : swapsWith e (some (.Attribute o f pos')) pos.line X.env = pure false := by rfl) (hK : X.K = K := by rfl) : XS X W (.Assign [.Attribute o f pos'] e pos) (sFld K (tVar i) te f) (mSetF C i f me) := by
  subst hK
  exact ⟨ps_fld ho h.p hs, es_setF hC h.v⟩
/-! comprehensions -/
theorem ts_nil : XTs X W [] tYes mYes := ⟨pts_nil, et_yes⟩
section
variable {q : Bool} {elt iter : Expr} {ifs : List Expr} {scope : Scope} {own : List (Str × Nat)} {wi : TI} {g : TG} {tt : TT} {it : M (List D)} {ga : Mg} {mt : M Bool}
theorem n_lc (hc : X.calm = true) (hN : X.N.Nodup) (hi : XI X W q tg iter wi it) (ok : BlkOk X.N X.env.scope scope own)
    (hg : ∀ (s : Shared) (H : Hp) (C : Addr) (cl : List (Str × Addr)) (fp : List Addr), XG (X.blk s H scope (PySem.compEnvC scope cl C X.env) fp) q tg g ga (own.map (·.2))) (ht : ∀ (s : Shared) (H : Hp) (C : Addr) (cl : List (Str × Addr)) (fp : List Addr), XTs (X.blk s H scope (PySem.compEnvC scope cl C X.env) fp) W ifs tt mt)
    (he : ∀ (s : Shared) (H : Hp) (C : Addr) (cl : List (Str × Addr)) (fp : List Addr), XE (X.blk s H scope (PySem.compEnvC scope cl C X.env) fp) W elt te me) (hs : ∀ x, foldedSetIterable iter X.env x = pure x := by intro _; rfl) :
    XN X W (.ListComp elt [⟨tg, iter, ifs, 0⟩] scope pos) (tLc wi g tt te (own.map (·.2))) (mLc it ga mt me (own.map (·.2))) :=
  ⟨pe_lc hc hN hi.p ok (fun s H C cl fp => (hg s H C cl fp).p) (fun s H C cl fp => (ht s H C cl fp).p) (fun s H C cl fp => (he s H C cl fp).p) hs,
    en_lc hi.v (hg X.s_0 X.H_0 0 [] []).v (hg X.s_0 X.H_0 0 [] []).w (hg X.s_0 X.H_0 0 [] []).n (ht X.s_0 X.H_0 0 [] []).v (he X.s_0 X.H_0 0 [] []).v⟩
/-- y = [..], y a local -/
theorem s_setLc (i : Nat) {y : Str} {py spos : Pos} (hc : X.calm = true) (hN : X.N.Nodup) (hy : X.N[i]? = some y) (hyl : X.env.scope.names.lookup y = some .local) (hsw : swapsWith (.ListComp elt [⟨tg, iter, ifs, 0⟩] scope pos) (some (.Name y py)) spos.line X.env = pure true) (hi : XI X W q tg iter wi it) (ok : BlkOk X.N X.env.scope scope own)
    (hg : ∀ (s : Shared) (H : Hp) (C : Addr) (cl : List (Str × Addr)) (fp : List Addr), XG (X.blk s H scope (PySem.compEnvC scope cl C X.env) fp) q tg g ga (own.map (·.2))) (ht : ∀ (s : Shared) (H : Hp) (C : Addr) (cl : List (Str × Addr)) (fp : List Addr), XTs (X.blk s H scope (PySem.compEnvC scope cl C X.env) fp) W ifs tt mt)
    (he : ∀ (s : Shared) (H : Hp) (C : Addr) (cl : List (Str × Addr)) (fp : List Addr), XE (X.blk s H scope (PySem.compEnvC scope cl C X.env) fp) W elt te me) (hs : ∀ x, foldedSetIterable iter X.env x = pure x := by intro _; rfl) :
    XS X W (.Assign [.Name y py] (.ListComp elt [⟨tg, iter, ifs, 0⟩] scope pos) spos) (tAsg (tLc wi g tt te (own.map (·.2))) (gName i)) (mAsgO i (mLc it ga mt me (own.map (·.2)))) :=
  ⟨ps_setLc hc hN hy hyl hsw hi.p ok (fun s H C cl fp => (hg s H C cl fp).p) (fun s H C cl fp => (ht s H C cl fp).p) (fun s H C cl fp => (he s H C cl fp).p) hs,
    es_asgO (en_lc hi.v (hg X.s_0 X.H_0 0 [] []).v (hg X.s_0 X.H_0 0 [] []).w (hg X.s_0 X.H_0 0 [] []).n (ht X.s_0 X.H_0 0 [] []).v (he X.s_0 X.H_0 0 [] []).v)⟩
end
end
end DL

set_option Elab.async false
set_option linter.all false
set_option maxRecDepth 100000
set_option maxHeartbeats 400000
/-! DLj: defs as plain functions of their arguments. -/
namespace DL
open PySem L2
theorem StOk.take {C : Cn} {al : Nat → Addr} {F H : Hp} {σ : St} {δ : En} (S : StOk C al F H σ δ) (n : Nat) : StOk C al F H (σ.take n) (δ.take n) := by
  have gE : ∀ (j : Nat) s, (δ.take n)[j]? = some s → j < n ∧ δ[j]? = some s := fun j s q => by
    rw [List.getElem?_take] at q
    by_cases z : j < n
    · rw [if_pos z] at q; exact ⟨z, q⟩
    · rw [if_neg z] at q; cases q
  have gS : ∀ (j : Nat), j < n → (σ.take n)[j]? = σ[j]? := fun j z => by rw [List.getElem?_take, if_pos z]
  refine ⟨S.fh, S.ph, S.bp, S.f0, S.fp, by rw [List.length_take, List.length_take, S.len], fun j e q => ?_, fun j e q => ?_, fun j s e q r => ?_, fun j e q => ?_, fun j k s t e f q1 q2 r1 r2 r3 => ?_, fun j ns q => ?_, fun j ds q => ?_, S.qp⟩
  · obtain ⟨z, q⟩ := gE j _ q; rw [gS j z]; exact S.fr j e q
  · obtain ⟨z, q⟩ := gE j _ q; rw [gS j z]; exact S.bo j e q
  · obtain ⟨z, q⟩ := gE j _ q; rw [gS j z]; exact S.ow j s e q r
  · obtain ⟨z, q⟩ := gE j _ q; exact S.io j e q
  · obtain ⟨z, q1⟩ := gE j _ q1; obtain ⟨z2, q2⟩ := gE k _ q2; exact S.inj j k s t e f q1 q2 r1 r2 r3
  · obtain ⟨z, q⟩ := gE j _ q; rw [gS j z]; exact S.sc j ns q
  · obtain ⟨z, q⟩ := gE j _ q; rw [gS j z]; exact S.b2 j ds q
/-- the promise of a def that changes nothing -/
abbrev pF (g : List D → Option D) : List D → Option (R D) := fun ds => (g ds).map fun d => R.ok d []
abbrev SpP (K : Fg) (ks : List PK) (g : List D → Option D) : Sp := SpD K ks (pF g)
/-- .. that changes its first argument alone -/
abbrev iF (g : List D → Option (D × D)) : List D → Option (R D) := fun ds => (g ds).map fun p => R.ok p.1 [.io p.2]
abbrev SpI (K : Fg) (ks : List PK) (g : List D → Option (D × D)) : Sp := SpD K (.io :: ks) (iF g)
def defG (n : Nat) (ks : List PK) (m : Ms) : List D → Option D := fun ds => match m (startE n (entry ks ds)) with
  | some (.rt d _) => some d
  | some (.nx _) => some .non
  | _ => none
def io0 (δ : En) : Option D := match δ[(0 : Nat)]? with
  | some (Sl.io e) => some e
  | _ => none
def defI (n : Nat) (ks : List PK) (m : Ms) : List D → Option (D × D) := fun ds => match m (startE n (entry (.io :: ks) ds)) with
  | some (.rt d δ) => (io0 δ).map fun e => (d, e)
  | some (.nx δ) => (io0 δ).map fun e => (.non, e)
  | _ => none
section
variable {P : Program} {w : World} {K : Fg} {mg : Str → Option Value} {base : Heap}
theorem fn_g {x qual : Str} {st : Stmt} {f : Addr} {fd : FuncData} {N ps : List Str} {k : Nat} {ks : List PK} {m : Ms} (F : Fun K x qual st f fd) (S : FnScope N ps (defScope st)) (hks : ks.length = ps.length)
    (hb : ∀ (cdv : Value) (A : Around) (outer : List Env) (s : Shared) (H : Hp) (E : XK), Room k (A.deeper (PyProof.Rows.envOfC qual (defScope st) s.heap.objs.size f cdv)) → ∃ t, XB (cxOf CX0 P w K mg base N qual (defScope st) f cdv A outer s H E).nox W0 (defBody st) t m) :
    FnOk P w K mg base CX0 (k + 1) f fd ps (SpP K ks (defG N.length ks m)) := by
  refine F.ok S (fun vs H Q E h => ?_) (fun cdv A outer s H vs Q E hr h => ?_)
  · obtain ⟨C, al, ds, r, _, h1, _⟩ := h
    rw [h1, hks]
  · obtain ⟨t, B⟩ := hb cdv A outer s H E hr
    refine ⟨t, B.p, ?_⟩
    obtain ⟨C, al, ds, r, hK, h1, h2, S0, hf, hok, _⟩ := h
    subst hK
    have S1 := (S0.wish W0 (short_entry _ _)).begin (N := N)
    have hf : (defG N.length ks m ds).map (fun d => R.ok d []) = some r := hf
    unfold defG at hf
    cases e : m (startE N.length (entry ks ds)) with
    | none => rw [e] at hf; cases hf
    | some o =>
      refine B.v { C with W := W0 } rfl rfl al C.F0 H _ _ S1 o e _ ?_
      rw [e] at hf
      cases o with
      | nx δ => cases hf; exact fun al' F' H' σ' s' S' => hok _ _ rfl al' F' H' _ .non s' ((S'.take 0).unwish short_nil) (Rep.non_iff.mpr rfl)
      | rt d δ => cases hf; exact fun al' F' H' σ' v s' S' rv => hok d _ rfl al' F' H' _ v s' ((S'.take 0).unwish short_nil) rv
      | rn d δ => cases hf
      | bk δ => cases hf
      | ct δ => cases hf
      | ex x δ => cases hf
theorem io0_some {δ : En} {e : D} (h : io0 δ = some e) : δ.take 1 = [.io e] := by
  unfold io0 at h
  cases δ with
  | nil => cases h
  | cons s r =>
    cases s with
    | io d => cases h; rfl
    | _ => cases h
theorem fn_i {x qual : Str} {st : Stmt} {f : Addr} {fd : FuncData} {N ps : List Str} {k : Nat} {ks : List PK} {m : Ms} (F : Fun K x qual st f fd) (S : FnScope N ps (defScope st)) (hks : ks.length + 1 = ps.length)
    (hb : ∀ (cdv : Value) (A : Around) (outer : List Env) (s : Shared) (H : Hp) (E : XK), Room k (A.deeper (PyProof.Rows.envOfC qual (defScope st) s.heap.objs.size f cdv)) → ∃ t, XB (cxOf CX0 P w K mg base N qual (defScope st) f cdv A outer s H E).nox W0 (defBody st) t m) :
    FnOk P w K mg base CX0 (k + 1) f fd ps (SpI K ks (defI N.length ks m)) := by
  refine F.ok S (fun vs H Q E h => ?_) (fun cdv A outer s H vs Q E hr h => ?_)
  · obtain ⟨C, al, ds, r, _, h1, _⟩ := h
    rw [h1, ← hks]
    rfl
  · obtain ⟨t, B⟩ := hb cdv A outer s H E hr
    refine ⟨t, B.p, ?_⟩
    obtain ⟨C, al, ds, r, hK, h1, h2, S0, hf, hok, _⟩ := h
    subst hK
    have S1 := (S0.wish W0 (short_entry _ _)).begin (N := N)
    have hf : (defI N.length ks m ds).map (fun p => R.ok p.1 [.io p.2]) = some r := hf
    unfold defI at hf
    cases e : m (startE N.length (entry (.io :: ks) ds)) with
    | none => rw [e] at hf; cases hf
    | some o =>
      refine B.v { C with W := W0 } rfl rfl al C.F0 H _ _ S1 o e _ ?_
      rw [e] at hf
      cases o with
      | nx δ =>
        cases e2 : io0 δ with
        | none => simp only [e2] at hf; cases hf
        | some c =>
          simp only [e2] at hf
          cases hf
          exact fun al' F' H' σ' s' S' => hok _ _ rfl al' F' H' _ .non s' (by have S3 := S'.take 1; rw [io0_some e2] at S3; exact S3.unwish short_io) (Rep.non_iff.mpr rfl)
      | rt d δ =>
        cases e2 : io0 δ with
        | none => simp only [e2] at hf; cases hf
        | some c =>
          simp only [e2] at hf
          cases hf
          exact fun al' F' H' σ' v s' S' rv => hok d _ rfl al' F' H' _ v s' (by have S3 := S'.take 1; rw [io0_some e2] at S3; exact S3.unwish short_io) rv
      | rn d δ => cases hf
      | bk δ => cases hf
      | ct δ => cases hf
      | ex x δ => cases hf
end
/-! calls, said by the plain functions -/
def mCallP (ks : List PK) (g : List D → Option D) (a : M (List Op)) : M D := a.bind fun os => (mRds os).bind fun ds => fun δ => if frOk ks os then (match g ds with
  | some d => some (.ok d δ)
  | none => none) else none
theorem mCallP_eq (ks : List PK) (g : List D → Option D) (a : M (List Op)) : mCall ks (pF g) a = mCallP ks g a := by
  unfold mCall mCallP pF
  congr 1
  funext os
  congr 1
  funext ds δ
  cases g ds <;> rfl
def mCallI (i : Nat) (ks : List PK) (g : List D → Option (D × D)) (a : M (List Op)) : M D := fun δ => match δ[i]? with
  | some s => match s.own with
    | some _ => (a.bind fun os => (mRds os).bind fun ds => fun δ1 => match δ1[i]? with
      | some s1 => match s1.own with
        | some c => if frOk ks os && apart i os then (match g (c :: ds) with
          | some p => some (.ok p.1 (δ1.set i (reown s1 p.2)))
          | none => none) else none
        | none => none
      | none => none) δ
    | none => none
  | none => none
theorem mCallI_eq (i : Nat) (ks : List PK) (g : List D → Option (D × D)) (a : M (List Op)) : mCallS i ks (iF g) a = mCallI i ks g a := by
  unfold mCallS mCallI mCallS1 iF ioOut
  funext δ
  cases δ[i]? with
  | none => rfl
  | some s =>
    cases h0 : s.own with
    | none => simp only [h0]
    | some c0 =>
      simp only [h0]
      congr 1
      congr 1
      funext os
      congr 1
      funext ds δ1
      cases δ1[i]? with
      | none => rfl
      | some s1 =>
        cases h1 : s1.own with
        | none => simp only [h1]
        | some c => simp only [h1]; cases g (c :: ds) <;> rfl
def mMakeP (C : Addr) (ks : List PK) (g : List D → Option (D × D)) (a : M (List Op)) : M D := a.bind fun os => (mRds os).bind fun ds => fun δ => if frOk ks os then (match g (.ins C [] [] :: ds) with
  | some (.non, .ins C' ns es) => some (.ok (.ins C' ns es) δ)
  | _ => none) else none
theorem mMakeP_eq (C : Addr) (ks : List PK) (g : List D → Option (D × D)) (a : M (List Op)) : mMake C ks (iF g) a = mMakeP C ks g a := by
  unfold mMake mMakeP iF
  congr 1
  funext os
  congr 1
  funext ds δ
  cases g (.ins C [] [] :: ds) with
  | none => rfl
  | some p =>
    obtain ⟨d, e⟩ := p
    cases d <;> cases e <;> rfl
theorem noex_pF {g : List D → Option D} : NoEx (pF g) := fun ds x δ h => by
  have h : (g ds).map (fun d => R.ok d []) = some (.ex x δ) := h
  cases e : g ds with
  | none => rw [e] at h; cases h
  | some d => rw [e] at h; cases h
theorem noex_iF {g : List D → Option (D × D)} : NoEx (iF g) := fun ds x δ h => by
  have h : (g ds).map (fun p => R.ok p.1 [.io p.2]) = some (.ex x δ) := h
  cases e : g ds with
  | none => rw [e] at h; cases h
  | some d => rw [e] at h; cases h
section
variable {X : Cx} {W : WX} {e : Expr} {es : List Expr} {pos p2 : Pos}
theorem x_cp {x : Str} {f : Addr} {fd : FuncData} {ps : List Str} {k j : Nat} {ks : List PK} {g : List D → Option D} {t : TA} {m : M (List Op)} (G : FnOk X.prog X.w X.K X.mg X.base CX0 k f fd ps (SpP X.K ks g)) (hr : Room j X.A) (hkj : k ≤ j) (hm : X.mg x = some (.ref f)) (hk : PySem.W.keepIn X.K (.ref f) = true) (hb : Binds X.K fd ps []) (h : XA X W (e :: es) t m) (hg : Gl X x := by rfl)
    (hdb : (x == ("__debug__" : Str)) = false := by decide) (hs : starEach (e :: es) X.env = (false, eval e X.env) :: starEach es X.env := by rfl) (hpl : (backTo pos (starEach es X.env)).any (·.1) = false := by rfl) :
    XE X W (.Call (.Name x p2) (e :: es) [] pos) (tCall (SpP X.K ks g) [] E0 t) (mCallP ks g m) := by
  rw [← mCallP_eq]
  exact x_call noex_pF G hr hkj hm hk hb h hg hdb hs hpl
theorem x_ci {x : Str} {f : Addr} {fd : FuncData} {ps : List Str} {k j i : Nat} {ks : List PK} {g : List D → Option (D × D)} {t : TA} {m : M (List Op)} (G : FnOk X.prog X.w X.K X.mg X.base CX0 k f fd ps (SpI X.K ks g)) (hr : Room j X.A) (hkj : k ≤ j) (hm : X.mg x = some (.ref f)) (hk : PySem.W.keepIn X.K (.ref f) = true) (hb : Binds X.K fd ps []) (hp : PE X e (tVar i)) (h : XA X W es t m) (hg : Gl X x := by rfl)
    (hdb : (x == ("__debug__" : Str)) = false := by decide) (hs : starEach (e :: es) X.env = (false, eval e X.env) :: starEach es X.env := by rfl) (hpl : (backTo pos (starEach es X.env)).any (·.1) = false := by rfl) :
    XE X W (.Call (.Name x p2) (e :: es) [] pos) (tCall (SpI X.K ks g) [] E0 (tCons (tVar i) t)) (mCallI i ks g m) := by
  rw [← mCallI_eq]
  exact x_callS noex_iF G hr hkj hm hk hb hp h hg hdb hs hpl
theorem n_mk {x : Str} {C f : Addr} {fd : FuncData} {ps : List Str} {k j : Nat} {ks : List PK} {g : List D → Option (D × D)} {t : TA} {m : M (List Op)} (Mk0 : Mk X.K C f) (G : FnOk X.prog X.w X.K X.mg X.base CX0 k f fd ps (SpI X.K ks g)) (hr : Room j X.A) (hkj : k + 1 ≤ j) (hm : X.mg x = some (.ref C)) (hb : Binds X.K fd ps []) (h : XA X W (e :: es) t m) (hg : Gl X x := by rfl)
    (hdb : (x == ("__debug__" : Str)) = false := by decide) (hs : starEach (e :: es) X.env = (false, eval e X.env) :: starEach es X.env := by rfl) (hpl : (backTo pos (starEach es X.env)).any (·.1) = false := by rfl) :
    XN X W (.Call (.Name x p2) (e :: es) [] pos) (tMake C (SpI X.K ks g) [] E0 t) (mMakeP C ks g m) := by
  rw [← mMakeP_eq]
  exact n_make Mk0 noex_iF G hr hkj hm hb h hg hdb hs hpl
end
end DL

set_option Elab.async false
set_option linter.all false
set_option maxRecDepth 100000
set_option maxHeartbeats 400000
/-! DLk: sorted, counts. -/
namespace DL
open PySem L2
open PySem.W (EachIs AllAlike Sortable dataLe alike)
open PyProof.Rows (seqObj)
/-! ### sorting data -/
def encD (d : D) : PyData := (toPy d).getD .none
def tupNe : PyData → Bool
  | .tuple (_ :: _) => true
  | _ => false
def notTN : PyData → Bool
  | .none => false
  | .tuple _ => false
  | _ => true
def sortOk (ds : List D) : Bool := decide (ds.length ≤ 1000000) && ((ds.all fun d => (toPy d).isSome && decide ((encD d).depth ≤ 60)) && ((ds.all fun d => ds.all fun e => alike (encD d) (encD e)) && ((ds.all fun d => tupNe (encD d)) || (ds.all fun d => notTN (encD d)))))
def sortD (ds : List D) : List D := ds.mergeSort (dataLe false encD)
structure SortOk (ds : List D) : Prop where
  len : ds.length ≤ LB
  py : ∀ d ∈ ds, toPy d = some (encD d)
  dep : ∀ d ∈ ds, (encD d).depth ≤ 60
  al : ∀ d ∈ ds, ∀ e ∈ ds, alike (encD d) (encD e) = true
  kd : (∀ d ∈ ds, tupNe (encD d) = true) ∨ ∀ d ∈ ds, notTN (encD d) = true
theorem sortOk_iff {ds : List D} : sortOk ds = true ↔ SortOk ds := by
  unfold sortOk
  simp only [Bool.and_eq_true, Bool.or_eq_true, decide_eq_true_eq, List.all_eq_true]
  constructor
  · rintro ⟨h1, h2, h3, h4⟩
    refine ⟨h1, fun d hd => ?_, fun d hd => (h2 d hd).2, h3, h4⟩
    have := (h2 d hd).1
    unfold encD
    cases e : toPy d with
    | none => rw [e] at this; cases this
    | some p => rfl
  · rintro ⟨h1, h2, h3, h4, h5⟩
    exact ⟨h1, fun d hd => ⟨by rw [h2 d hd]; rfl, h3 d hd⟩, h4, h5⟩
theorem SortOk.perm {ds es : List D} (h : SortOk ds) (p : es.Perm ds) : SortOk es :=
  ⟨by rw [p.length_eq]; exact h.len, fun d hd => h.py d (p.mem_iff.mp hd), fun d hd => h.dep d (p.mem_iff.mp hd), fun d hd e he => h.al d (p.mem_iff.mp hd) e (p.mem_iff.mp he),
    h.kd.imp (fun z d hd => z d (p.mem_iff.mp hd)) fun z d hd => z d (p.mem_iff.mp hd)⟩
theorem SortOk.alike {ds : List D} (h : SortOk ds) : AllAlike (ds.map encD) := by
  intro x hx y hy
  obtain ⟨d, hd, rfl⟩ := List.mem_map.mp hx
  obtain ⟨e, he, rfl⟩ := List.mem_map.mp hy
  exact h.al d hd e he
theorem SortOk.sortable {ds : List D} (h : SortOk ds) : Sortable (ds.map encD) := by
  rcases h.kd with k | k
  · refine Or.inl fun x hx => ?_
    obtain ⟨d, hd, rfl⟩ := List.mem_map.mp hx
    have := k d hd
    cases e : encD d with
    | tuple xs =>
      cases xs with
      | nil => rw [e] at this; cases this
      | cons x r => exact ⟨x, r, rfl⟩
    | _ => rw [e] at this; cases this
  · refine Or.inr fun x hx => ?_
    obtain ⟨d, hd, rfl⟩ := List.mem_map.mp hx
    have := k d hd
    constructor
    · intro e; rw [e] at this; cases this
    · intro xs e; rw [e] at this; cases this
mutual
theorem reads_lt {h : Heap} : ∀ {v : Value} {d : PyData} {as : List Addr}, Reads h v d as → ∀ b ∈ as, b < h.objs.size
  | _, _, _, .none, b, m => by cases m
  | _, _, _, .bool _, b, m => by cases m
  | _, _, _, .int _ _, b, m => by cases m
  | _, _, _, .str _ _, b, m => by cases m
  | _, _, _, .list h1 _ _ h4, b, m => by
    rcases List.mem_cons.mp m with e | m
    · rw [e]; exact Heap.lt_size h1
    · exact readsAll_lt h4 b m
  | _, _, _, .tuple h1 _ _ h4, b, m => readsAll_lt h4 b m
  | _, _, _, .dict h1 _ _ h4 h5, b, m => by
    rcases List.mem_append.mp m with m | m
    · rcases List.mem_cons.mp m with e | m
      · rw [e]; exact Heap.lt_size h1
      · exact readsAll_lt h4 b m
    · exact readsAll_lt h5 b m
theorem readsAll_lt {h : Heap} : ∀ {vs : List Value} {ds : List PyData} {as : List Addr}, ReadsAll h vs ds as → ∀ b ∈ as, b < h.objs.size
  | _, _, _, .nil, b, m => by cases m
  | _, _, _, .cons h1 h2, b, m => by
    rcases List.mem_append.mp m with m | m
    · exact reads_lt h1 b m
    · exact readsAll_lt h2 b m
end
/-- a value stands for data -/
def StFor (K : Fg) (F : Hp) (u : Value) (d : D) : Prop := ∃ x : V, RelV x u ∧ Rep K F d x
theorem each_for {K : Fg} {F : Hp} : ∀ {ds : List D} {xs : List V} {us : List Value}, Reps K F ds xs → Vals xs us → EachIs (StFor K F) us ds
  | [], xs, us, r, v => by
    rw [r.inv0] at v
    cases v
    exact .nil
  | d :: ds, xs, us, r, v => by
    obtain ⟨x, ys, rfl, r1, r2⟩ := r.inv
    cases v with
    | cons h t => exact .cons ⟨x, h, r1⟩ (each_for r2 t)
theorem for_each {K : Fg} {F : Hp} : ∀ {ds : List D} {us : List Value}, EachIs (StFor K F) us ds → ∃ xs, Vals xs us ∧ Reps K F ds xs
  | _, _, .nil => ⟨[], .nil, reps_nil⟩
  | _, _, .cons ⟨x, h1, h2⟩ t => by
    obtain ⟨xs, h3, h4⟩ := for_each t
    exact ⟨x :: xs, .cons h1 h3, reps_cons h2 h4⟩
section
variable {X : Cx} {pins : List (Addr × Obj)} {σ : St} {F H : Hp} {s : Shared}
theorem each_mem2 {α β : Type} {R : α → β → Prop} : ∀ {as : List α} {bs : List β}, EachIs R as bs → EachIs (fun a b => R a b ∧ b ∈ bs) as bs
  | _, _, .nil => .nil
  | _, _, .cons h t => .cons ⟨h, List.mem_cons_self⟩ ((each_mem2 t).mono fun _ _ q => ⟨q.1, List.mem_cons_of_mem _ q.2⟩)
theorem StFor.reads {u : Value} {d : D} (I : Inv X pins σ H s) (fh : Same F H) (h : StFor X.K F u d) (e : toPy d = some (encD d)) : ∃ as, Reads s.heap u (encD d) as ∧ ∀ b ∈ as, b < s.heap.objs.size := by
  obtain ⟨x, h1, h2⟩ := h
  obtain ⟨as, r⟩ := Dp.reads I (encD d) x u (toPy_dp (h2.mono fh) e) h1
  exact ⟨as, r, reads_lt r⟩
/-- sorted, whatever is gathered -/
theorem sorted_coll {a : Addr} {C : List D → Prop} {Q : VK} (I : Inv X pins σ H s) (fh : Same F H) (ok : ∀ es, C es → SortOk es) (hu : X.A.units + 65 < cLine)
    (hC : ∀ (R : List Value → Shared → Prop) (E : Value → Shared → Prop), (∀ (s1 : Shared) (us : List Value) (es : List D), (∀ b o, s.heap.get? b = some o → s1.heap.get? b = some o) → s1.gens = s.gens → s1.os = s.os → C es → EachIs (StFor X.K F) us es → R us s1) →
      wpAny (model X.prog X.w) X.A.in1 (collect (.ref a)) R E s)
    (hQ : ∀ (p : Addr) (es : List D) (xs : List V), H p = none → C es → Reps X.K F (sortD es) xs → Q (.ref p) (upd H p (.lst xs))) :
    wpAny (model X.prog X.w) X.A (call (.builtin "sorted") [.ref a]) (EP X pins σ Q) X.xe s := by
  refine Calls.call_function_entry PyProof.Rows.kind_sorted PyProof.Rows.plain_sorted PyProof.Rows.entry_sorted (PyProof.Rows.args_sorted1 _) ?_
  unfold Builtin.«sorted»
  refine wpAny_bind (m := checkCount "sorted" 1 1 _) (wpAny_pure ?_)
  refine wpAny_bind (hC _ _ fun s1 us es k1 g1 o1 pm ev => ?_)
  have ok1 := ok es pm
  have lu : us.length = es.length := ev.length
  have hz : us.length ≤ sizeLine := by rw [lu]; exact LB_size ok1.len
  refine wpAny_bind (wpAny_newList ?_ hz)
  have hoL : (s1.heap.push (seqObj "list" us.toArray 0)).get? s1.heap.objs.size = some (seqObj "list" us.toArray 0) := Heap.get?_push_size _ rfl
  have er : EachIs (fun u d => ∃ as, Reads (s1.heap.push (seqObj "list" us.toArray 0)) u (encD d) as ∧ s1.heap.objs.size ∉ as) us es := (each_mem2 ev).mono fun u d q => by
    obtain ⟨as, r, _⟩ := StFor.reads I fh q.1 (ok1.py d q.2)
    have r1 := PyProof.Rows.Reads.keeps k1 r
    exact ⟨as, PyProof.Rows.Reads.keeps (fun b o e => Heap.get?_push_of_some _ e) r1, fun m => absurd (reads_lt r1 _ m) (Nat.lt_irrefl _)⟩
  refine wpAny_bind (wpAny_holding (PySem.W.list_sort_data (s := { s1 with heap := s1.heap.push (seqObj "list" us.toArray 0) }) hoL ev er ok1.alike ok1.sortable (LB_size ok1.len) (fun d hd => ?_) fun out lo eo => ?_))
  · have := ok1.dep d hd
    show X.A.in1.units + 1 + _ < cLine
    have e1 : X.A.in1.units = X.A.units + 1 := rfl
    omega
  · obtain ⟨xs, v1, v2⟩ := for_each eo
    obtain ⟨c, hc⟩ := PyProof.Rows.sortedHeap_at (vs := us) (out := out.toArray) hoL
    have hlen : xs.length ≤ sizeLine := by rw [v1.length, lo]; exact LB_size ok1.len
    have hn : H s1.heap.objs.size = none := (I.hok.kept k1).fresh (Nat.le_refl _)
    have hg0 : s.heap.get? s1.heap.objs.size = none := by
      cases q : s.heap.get? s1.heap.objs.size with
      | none => rfl
      | some u => exact absurd (Heap.lt_size (k1 _ u q)) (Nat.lt_irrefl _)
    have kk : ∀ b u, s.heap.get? b = some u → (PyProof.Rows.sortedHeap (s1.heap.push (seqObj "list" us.toArray 0)) s1.heap.objs.size us out.toArray).get? b = some u := fun b u e => by
      have q := k1 b u e
      have hlt := Heap.lt_size q
      rw [PyProof.Rows.sortedHeap_old (Nat.ne_of_lt hlt) (by rw [Heap.size_push]; exact Nat.lt_succ_of_lt hlt)]
      exact Heap.get?_push_of_some _ q
    have J := I.call (ch := []) (g' := s1.gens) (d' := s1.drawn) (t' := s1.toks) (Un.laidN kk hg0 hn) (I.hok.laidN (o := .lst xs) kk hn ⟨hlen, out, c, v1, hc⟩) (by rw [g1]; exact I.bare) (fun _ z => nomatch z)
    refine wpAny_pure ⟨_, rfl, .ref s1.heap.objs.size, _, ?_, rfl, hQ _ es xs hn pm v2⟩
    have e : ({ s1 with heap := PyProof.Rows.sortedHeap (s1.heap.push (seqObj "list" us.toArray 0)) s1.heap.objs.size us out.toArray } : Shared) = { s with heap := PyProof.Rows.sortedHeap (s1.heap.push (seqObj "list" us.toArray 0)) s1.heap.objs.size us out.toArray, gens := s1.gens, drawn := s1.drawn, toks := s1.toks } := by
      cases s1
      cases s
      cases o1
      rfl
    exact e ▸ J
/-- sorted(xs), a list or a tuple -/
def rSortQ (K : Fg) : List V → Hp → VK → Prop := fun vs H Q => ∃ (F : Hp) (a : Addr) (ds : List D) (xs : List V), Same F H ∧ vs = [.ref a] ∧ (SqL K H a xs ∨ SqT K H a xs) ∧ Reps K F ds xs ∧ SortOk ds ∧ ∀ p ys, H p = none → Reps K F (sortD ds) ys → Q (.ref p) (upd H p (.lst ys))
theorem cr_sortQ (hu : X.A.units + 65 < cLine) : CallR X (.builtin "sorted") (rSortQ X.K) := by
  intro pins s σ H vs us Q I r h
  obtain ⟨F, a, ds, xs, fh, rfl, hq, rs, ok, q⟩ := h
  rw [Vals.ref1 r]
  refine sorted_coll (C := fun es => es = ds) I fh (fun es e => e ▸ ok) hu (fun R E hR => ?_) fun p es ys hp e rp => ?_
  · rcases hq with hq | hq
    · obtain ⟨its, rv, hl, hz⟩ := I.list hq
      obtain ⟨o, ho, hc, n, hd⟩ := hl.isList
      refine wpAny_collect_seq a (Or.inl rfl) ho hc hd (fun h' k => ?_) (by rw [List.size_toArray, ← rv.length]; exact hz)
      exact hR { s with heap := h' } its ds k rfl rfl rfl (each_for rs rv)
    · obtain ⟨its, rv, hl, hz⟩ := I.tuple hq
      obtain ⟨o, ho, hc, n, hd⟩ := hl
      refine wpAny_collect_seq a (Or.inr rfl) ho hc hd (fun h' k => ?_) (by rw [List.size_toArray, ← rv.length]; exact hz)
      exact hR { s with heap := h' } its ds k rfl rfl rfl (each_for rs rv)
  · subst e
    exact q p ys hp rp
def sortF : D → Option (List D)
  | .lst ds => if sortOk ds then some (sortD ds) else none
  | .tup ds => if sortOk ds then some (sortD ds) else none
  | _ => none
theorem sortD_len (ds : List D) : (sortD ds).length = ds.length := List.length_mergeSort _
theorem prim_sort {K : Fg} : PrimNA K (rSortQ K) (fN1 sortF) := primN1 fun F H v d ds fh hv hf Q k => by
  cases d with
  | lst es =>
    obtain ⟨h1, rfl⟩ := if_some (show (if sortOk es = true then some (sortD es) else none) = some ds from hf)
    obtain ⟨a, vs, rfl, g1, g2, g3⟩ := hv.lst fh
    have ok := sortOk_iff.mp h1
    exact ⟨F, a, es, vs, fh, rfl, Or.inl (Or.inl (Or.inl g1)), g3, ok, fun p ys hp rp => k p _ ys hp (same_upd hp) upd_same (by rw [sortD_len]; exact ok.len) rp⟩
  | tup es =>
    obtain ⟨h1, rfl⟩ := if_some (show (if sortOk es = true then some (sortD es) else none) = some ds from hf)
    obtain ⟨a, vs, rfl, g1, g2, g3⟩ := hv.tup
    have ok := sortOk_iff.mp h1
    exact ⟨F, a, es, vs, fh, rfl, Or.inr (same_t fh g1.sq), g3, ok, fun p ys hp rp => k p _ ys hp (same_upd hp) upd_same (by rw [sortD_len]; exact ok.len) rp⟩
  | _ => cases hf
end
end DL

set_option Elab.async false
set_option linter.all false
set_option maxRecDepth 100000
set_option maxHeartbeats 1000000
/-! DLl: sets of whole numbers or texts: made of a list or a tuple, their length, sorted. -/
namespace DL
open PySem L2
def kOf (e : Int × Value) : Key := match e.2 with
  | .int i _ => Sum.inl i
  | .str x _ => Sum.inr x
  | _ => Sum.inl 0
def GoodK (w : World) (e : Int × Value) : Prop := ∃ k, RelV (kV k) e.2 ∧ e.1 = keyH w k
theorem kOf_rel {k : Key} {v : Value} {h : Int} (r : RelV (kV k) v) : kOf (h, v) = k := by
  cases k with
  | inl i => obtain ⟨t, rfl⟩ := r; rfl
  | inr x => obtain ⟨t, rfl⟩ := r; rfl
theorem GoodK.is {P : Program} {w : World} {e : Int × Value} (g : GoodK w e) (k : Key) : (mixKind P w).is k e.2 = true ↔ kOf e = k := by
  obtain ⟨k0, h1, h2⟩ := g
  have e0 : kOf e = k0 := kOf_rel (h := e.1) h1
  rw [e0]
  have z := kV_is (P := P) (w := w) h1
  exact ⟨fun q => (mixKind P w).inj _ _ _ z q, fun q => q ▸ z⟩
theorem good_elemsK {P : Program} {w : World} {l : List (Int × Value)} (g : ∀ e ∈ l, GoodK w e) : ElemsOf (mixKind P w) l := fun e he => by
  obtain ⟨k, h1, h2⟩ := g e he
  exact ⟨⟨k, kV_is h1, h2⟩, key_scan h1⟩
/-- what a table holds -/
structure TabG (w : World) (ks : List Key) (es : Array (Int × Value)) (t : SetTable) : Prop where
  good : ∀ e ∈ es.toList, GoodK w e
  nd : (es.toList.map kOf).Nodup
  mem : ∀ k, k ∈ es.toList.map kOf ↔ k ∈ ks
  le : es.size ≤ ks.length
  sb : es.size < scanBound
  fits : t.fits es.size = true
  ris : Ris t.place.toList
  led : w.params.followText "set-order" = true ∨ t.led = true
def SetG (w : World) (h : Heap) (a : Addr) (ks : List Key) : Prop := ∃ o es ep t, h.get? a = some o ∧ o.ExactSet ∧ o.data = .set es ep t ∧ TabG w ks es t
theorem SetG.keep {w : World} {h h' : Heap} {a : Addr} {ks : List Key} (R : SetG w h a ks) (k : ∀ o, h.get? a = some o → h'.get? a = some o) : SetG w h' a ks := by
  obtain ⟨o, es, ep, t, ho, r⟩ := R
  exact ⟨o, es, ep, t, k o ho, r⟩
section
variable {P : Program} {w : World} {A : Around} {E : Value → Shared → Prop} {s : Shared} {a : Addr} {ks : List Key}
theorem tailG {g : Bool → Sem Unit} (hg : ∀ (b : Bool) (s1 : Shared) (Q' : Unit → Shared → Prop), Q' () s1 → wpAny (model P w) A (g b) Q' E s1) {o : Obj} {es es1 : Array (Int × Value)} {ep : Nat} {t t2 : SetTable}
    (ho : s.heap.get? a = some o) (hex : o.ExactSet) (hd : o.data = .set es ep t) (T : TabG w ks es1 t2) {b : Bool} {R : Option Bool → Shared → Prop} (hR : ∀ h', Heap.SameBut a s.heap h' → SetG w h' a ks → R (some true) { s with heap := h' }) :
    wpAny (model P w) A (do
        storeSet a es1 t2
        if (!b && t2.tooFull) = true then do
            g (relayAll t2 es1 (SetTable.grown es1.size)).2.2
            storeSet a (relayAll t2 es1 (SetTable.grown es1.size)).1 (relayAll t2 es1 (SetTable.grown es1.size)).2.1
            pure (some true)
          else pure (some true)) R E s := by
  refine wpAny_bind (wpAny_storeSet_of ho hd ?_ (fits_of_scanBound T.sb))
  have o1 := store_at (es' := es1) (t' := t2) ho hd
  have b1 := Heap.SameBut.update s.heap a (Obj.putSet es1 t2)
  split
  · have x1 := relayAll_perm t2 es1 (SetTable.grown es1.size)
    have x2 := relayAll_fits t2 es1 (SetTable.grown es1.size)
    have x3 := relayAll_ris t2 es1 (SetTable.grown es1.size)
    have x4 := relayAll_led t2 es1 (SetTable.grown es1.size)
    generalize relayAll t2 es1 (SetTable.grown es1.size) = Z at x1 x2 x3 x4 ⊢
    obtain ⟨es2, t3, gv⟩ := Z
    dsimp only at x1 x2 x3 x4 ⊢
    have z : es2.size = es1.size := by rw [← Array.length_toList, x1.length_eq, Array.length_toList]
    have T2 : TabG w ks es2 t3 := ⟨fun e he => T.good e (x1.mem_iff.mp he), (x1.map kOf).nodup_iff.mpr T.nd, fun k => (x1.map kOf).mem_iff.trans (T.mem k), by rw [z]; exact T.le, by rw [z]; exact T.sb, x2, x3, T.led.imp id fun q => by rw [x4]; exact q⟩
    refine wpAny_bind (hg _ _ _ ?_)
    refine wpAny_bind (wpAny_storeSet_of o1 rfl ?_ (fits_of_scanBound T2.sb))
    exact wpAny_pure (hR _ (b1.trans (Heap.SameBut.update _ a _)) ⟨_, es2, _, t3, store_at (es' := es2) (t' := t3) o1 rfl, hex, rfl, T2⟩)
  · exact wpAny_pure (hR _ b1 ⟨_, es1, _, t2, o1, hex, rfl, T⟩)
theorem addG {k : Key} {v : Value} {Q : Bool → Shared → Prop} (R : SetG w s.heap a ks) (rv : RelV (kV k) v) (room : ks.length + 1 < scanBound) (hQ : ∀ h' b, Heap.SameBut a s.heap h' → SetG w h' a (ks ++ [k]) → Q b { s with heap := h' }) :
    wpAny (model P w) A (setAddHashed a v ((mixKind P w).hash k)) Q E s := by
  obtain ⟨o, es, ep, t, ho, hex, hd, T⟩ := R
  have is0 : (mixKind P w).is k v = true := kV_is rv
  have sc0 : v.scannable = true := key_scan rv
  have el0 : ElemsOf (mixKind P w) es.toList := good_elemsK T.good
  unfold setAddHashed setAddHashedIn
  refine wpAny_holding (wpAny_bind (wpAny_setState_of ho hd T.fits ?_))
  dsimp only
  rw [byScan_of sc0 T.sb el0]
  simp only [↓reduceIte]
  unfold setAddByScan
  refine wpAny_bind (wpAny_bind (wpAny_rule (wpAny_bind (wpAny_setScan_of is0 ho hd T.fits el0 ?_))))
  cases hfi : List.findIdx? (fun e => (mixKind P w).is k e.2) es.toList with
  | some j =>
    dsimp only
    obtain ⟨hj, pj, _⟩ := List.findIdx?_eq_some_iff_getElem.mp hfi
    have hk : k ∈ ks := (T.mem k).mp (List.mem_map.mpr ⟨es.toList[j], List.getElem_mem hj, ((T.good _ (List.getElem_mem hj)).is k).mp pj⟩)
    refine wpAny_pure (wpAny_pure (hQ s.heap _ (Heap.SameBut.refl a s.heap) ⟨o, es, ep, t, ho, hex, hd, T.good, T.nd, fun i => (T.mem i).trans ?_, by rw [List.length_append]; exact Nat.le_succ_of_le T.le, T.sb, T.fits, T.ris, T.led⟩))
    rw [List.mem_append, List.mem_singleton]
    exact ⟨Or.inl, fun q => q.elim id fun e => e ▸ hk⟩
  | none =>
    dsimp only
    have hnk : k ∉ es.toList.map kOf := fun z => by
      obtain ⟨e, he, q⟩ := List.mem_map.mp z
      have c := List.findIdx?_eq_none_iff.mp hfi e he
      rw [((T.good e he).is k).mpr q] at c
      cases c
    have x1 := layNew_perm t es ((mixKind P w).hash k) v
    have x2 := layNew_fits t es ((mixKind P w).hash k) v
    have x3 := layNew_ris t es ((mixKind P w).hash k) v T.ris
    have x4 := layNew_led t es ((mixKind P w).hash k) v
    generalize layNew t es ((mixKind P w).hash k) v = Z at x1 x2 x3 x4 ⊢
    obtain ⟨es1, t1, wd, gv⟩ := Z
    dsimp only at x1 x2 x3 x4 ⊢
    rw [Array.toList_push] at x1
    have pc : es1.toList.Perm (((mixKind P w).hash k, v) :: es.toList) := x1.trans (List.perm_append_singleton _ _)
    have pk : (es1.toList.map kOf).Perm (k :: es.toList.map kOf) := by
      have q := pc.map kOf
      rw [List.map_cons, kOf_rel rv] at q
      exact q
    have z : es1.size = es.size + 1 := by rw [← Array.length_toList, pc.length_eq, List.length_cons, Array.length_toList]
    have mk : ∀ t2 : SetTable, t2.fits es1.size = true → Ris t2.place.toList → t2.led = t1.led → TabG w (ks ++ [k]) es1 t2 := fun t2 y1 y2 y3 => by
      refine ⟨fun e he => ?_, pk.nodup_iff.mpr (List.nodup_cons.mpr ⟨hnk, T.nd⟩), fun i => ?_, ?_, ?_, y1, y2, T.led.imp id fun q => by rw [y3, x4]; exact q⟩
      · rcases List.mem_cons.mp (pc.mem_iff.mp he) with q | q
        · rw [q]; exact ⟨k, rv, rfl⟩
        · exact T.good e q
      · rw [pk.mem_iff, List.mem_cons, T.mem i, List.mem_append, List.mem_singleton]
        exact Or.comm
      · rw [z, List.length_append]; exact Nat.succ_le_succ T.le
      · rw [z]; exact Nat.lt_of_le_of_lt (Nat.succ_le_succ T.le) room
    have gw : ∀ (b : Bool) (s1 : Shared) (Q' : Unit → Shared → Prop), Q' () s1 → wpAny (model P w) A (match b with | true => rule "set.scan.the-table-gave-way" | false => pure ()) Q' E s1 := fun b s1 Q' q => by
      cases b
      · exact wpAny_pure q
      · exact wpAny_rule q
    refine wpAny_bind (gw _ _ _ ?_)
    split
    · refine wpAny_bind ?_
      rw [hashByValue_scannable 8 sc0]
      refine wpAny_pure (tailG (fun b s1 Q' q => by cases b <;> first | exact wpAny_pure q | exact wpAny_rule q) ho hex hd (mk _ ?_ ?_ ?_) fun h' sb r => by dsimp only; exact wpAny_pure (hQ h' _ sb r))
      · first | (split <;> first | exact x2 | exact SetTable.fits_plain_off x2) | exact x2
      · first | (split <;> exact x3) | exact x3
      · first | (split <;> rfl) | rfl
    · refine wpAny_bind (wpAny_pure ?_)
      simp only [↓reduceIte]
      exact tailG (fun b s1 Q' q => by cases b <;> first | exact wpAny_pure q | exact wpAny_rule q) ho hex hd (mk _ x2 x3 rfl) fun h' sb r => by dsimp only; exact wpAny_pure (hQ h' _ sb r)
/-- set.update's loop -/
theorem loopG {I : Addr} {fp wr : List Addr} {G : Array GenState → Array GenState → Prop} {n : Nat} {Pv : Nat → Value → Prop} {St : Nat → Shared → Prop} {R : Result → Shared → Prop} (W : WalksS P w A.in1 I fp wr G n Pv St) (S : Addr) (hSf : S ∉ fp)
    (hn : n = ks.length) (few : ks.length + 1 < scanBound) (hval : ∀ i v, Pv i v → ∃ k, ks[i]? = some k ∧ RelV (kV k) v) :
    ∀ (m i : Nat) (s : Shared), n - i = m → i ≤ n → St i s → SetG w s.heap S (ks.take i) → (∀ s', Moved (S :: wr) G s s' → SetG w s'.heap S ks → R (.ok (.ret .none)) s') →
      codeAny (model P w) A (.builtin "set.update.loop" ⟨[.ref S, .ref I], []⟩) R s := by
  have hSw : S ∉ wr := fun h => hSf (W.sub _ h)
  have up : ∀ b ∈ wr, b ∈ S :: wr := fun b hb => List.mem_cons_of_mem _ hb
  intro m
  induction m with
  | zero =>
    intro i s em hi st g hR
    have ein : i = n := by omega
    subst ein
    refine codeAny_builtin PyProof.Rows.F.entry_set_update_loop ?_
    rw [Around.under_plainId PyProof.Rows.F.plain_set_update_loop _]
    show wpAny _ A.in1 (pyNext (.ref I) >>= _) _ _ s
    refine wpAny_bind (W.done s _ _ st fun s' mv => ?_)
    show wpAny _ A.in1 (ret Value.none) _ _ s'
    refine wpAny_pure (hR s' (mv.mono up) ?_)
    have g2 := g.keep (h' := s'.heap) fun o e => mv.heap S o hSw e
    rw [hn, List.take_length] at g2
    exact g2
  | succ m ih =>
    intro i s em hi st g hR
    have lt : i < n := by omega
    refine codeAny_builtin PyProof.Rows.F.entry_set_update_loop ?_
    rw [Around.under_plainId PyProof.Rows.F.plain_set_update_loop _]
    show wpAny _ A.in1 (pyNext (.ref I) >>= _) _ _ s
    refine wpAny_bind (W.item i s _ _ lt st fun v s' hP st' mv => ?_)
    obtain ⟨k, hk, rk⟩ := hval i v hP
    have g1 := g.keep (h' := s'.heap) fun o e => mv.heap S o hSw e
    show wpAny _ A.in1 (holding [v] (setAdd S v) >>= _) _ _ s'
    refine wpAny_bind (wpAny_holding ?_)
    unfold setAdd
    refine wpAny_holding (wpAny_bind ((mixKind P w).pyHash (k := k) (kV_is rk) ?_))
    refine addG (s := { s' with toks := s'.toks + 1 }) g1 rk (by rw [List.length_take]; omega) fun h' b sb g2 => ?_
    have e2 : ks.take i ++ [k] = ks.take (i + 1) := by rw [List.take_add_one, hk]; rfl
    rw [e2] at g2
    refine wpAny_pure ⟨plainId_quiet PyProof.Rows.F.plain_set_update_loop _, ih (i + 1) _ (by omega) lt (W.frame _ s' _ _ st' (Nat.le_succ _) fun b hb o e => ?_) g2 fun s2 mv2 g3 => hR s2 (Moved.trans W.gtrans ((mv.mono up).then_heap (Nat.le_succ _) fun b o hb e => ?_) mv2) g3⟩
    · rw [sb.2 b fun q : b = S => hSf (q ▸ hb)]; exact e
    · rw [sb.2 b fun q : b = S => hb (by rw [q]; exact List.mem_cons_self)]; exact e
abbrev freshSet (w : World) : Obj := { cls := .type "set", dict := none, data := .set #[] 0 (.fresh 0 0 (!w.params.followText "set-order")) }
theorem freshG {h : Heap} (ho : h.get? a = some (freshSet w)) : SetG w h a [] := by
  refine ⟨_, #[], 0, _, ho, ⟨rfl, rfl, rfl⟩, rfl, fun e he => by simp at he, by simp, fun k => by simp, Nat.le_refl _, by decide, by rfl, List.Pairwise.nil, ?_⟩
  show _ ∨ (!w.params.followText "set-order") = true
  cases w.params.followText "set-order"
  · exact .inr rfl
  · exact .inl rfl
set_option maxHeartbeats 3200000 in
/-- set(xs), xs a list -/
theorem set_listG {l : Addr} {items : Array Value} {Q : Value → Shared → Prop} (hh : A.handled = none) (hl : s.heap.IsList l items) (hv : ∀ (i : Nat) (v : Value), items[i]? = some v → ∃ k, ks[i]? = some k ∧ RelV (kV k) v) (hz : items.size = ks.length) (few : ks.length + 1 < scanBound)
    (h : ∀ (h' : Heap) (tk : Nat), SetG w h' s.heap.objs.size ks → (∀ b o, s.heap.get? b = some o → h'.get? b = some o) → Q (.ref s.heap.objs.size) { s with heap := h', toks := tk }) : wpAny (model P w) A (call (.type "set") [.ref l]) Q E s := by
  obtain ⟨c, tl, hmro⟩ := PySem.F.called_set.mro
  have hmade := PySem.F.called_set.made
  have hsub := PySem.F.called_set.sub
  refine wpAny_call (codeAny_of_tree ?_)
  show wpAny _ _ (callAny (.type "set") _) _ _ _
  refine wpAny_pure ⟨Code.quiet_builtin _ (by decide +kernel), codeAny_builtin PySem.F.entry_type_call ?_⟩
  rw [Around.under_plain (weight_type_call_type "set" [.ref l] []) rfl]
  have h1 := PySem.F.called_set.notType
  have h2 := PySem.F.called_set.canCreate
  have hct := PySem.F.typeCall_set_1 (.ref l)
  repeat (any_goals (first | assumption | wp_step))
  refine codeAny_mono (code_set_led1 (.ref l) (E := E) (Q₁ := fun ob s1 => ob = .ref s.heap.objs.size ∧ s1 = { s with heap := s.heap.push (freshSet w) }) ⟨rfl, rfl⟩) fun r s1 hr => ?_
  cases r with
  | error e => exact hr
  | ok fl =>
    cases fl with
    | ret ob =>
      obtain ⟨rfl, rfl⟩ := hr
      have hS : (s.heap.push (freshSet w)).get? s.heap.objs.size = some (freshSet w) := Heap.get?_push_size _ rfl
      have hT : Shared.TypeIs { s with heap := s.heap.push (freshSet w) } (.ref s.heap.objs.size) "set" := ⟨_, hS, rfl⟩
      have hli := PySem.F.called_set.init.lookup
      have hbi := PySem.F.called_set.init.bind (.ref s.heap.objs.size)
      repeat (any_goals (first | assumption | wp_step))
      refine codeAny_mono (codeAny_call_builtin (R := wants (fun r s2 => r = .none ∧ ∃ h' tk, s2 = { s with heap := h', toks := tk } ∧ SetG w h' s.heap.objs.size ks ∧ ∀ b o, s.heap.get? b = some o → h'.get? b = some o) E) PySem.F.called_set.init.plain PySem.F.entry_set_init (check_set_init_1 hT ?_)) fun r2 s2 hr2 => ?_
      · obtain ⟨⟨oc, od, oda, osl⟩, hol, hcl, nl, hdl⟩ := hl
        simp only at hcl hdl
        subst hcl
        subst hdl
        have hol' : (s.heap.push (freshSet w)).get? l = some { cls := .type "list", dict := od, data := .seq items nl, slots := osl } := Heap.get?_push_of_some _ hol
        have hsls := PySem.F.sub_list_set
        have hslf := PySem.F.sub_list_frozenset
        have hne : (Value.type "list" == Value.type "dict") = false := by decide
        have hl1 : (s.heap.push (freshSet w)).IsList l items := ⟨_, hol', rfl, nl, rfl⟩
        unfold Builtin.«set.__init__» noKeywords Builtin.Frozenset.updateFrom
        generalize hPI : pyIter = PI
        wp_walk
        subst hPI
        refine wpAny_pyIter_list hl1 (wpAny_bind (wpAny_runValue ?_))
        have hlS : l < s.heap.objs.size := Heap.lt_size hol
        have hh3 : A.in1.in1.in1.handled = none := by simp [hh]
        have hneI : l ≠ (s.heap.push (freshSet w)).objs.size := by rw [Heap.size_push]; exact Nat.ne_of_lt (Nat.lt_succ_of_lt hlS)
        have hSf : s.heap.objs.size ∉ [(s.heap.push (freshSet w)).objs.size, l] := by
          rw [Heap.size_push]
          simp only [List.mem_cons, List.mem_singleton, List.not_mem_nil, or_false, not_or]
          exact ⟨Nat.ne_of_lt (Nat.lt_succ_self _), Nat.ne_of_gt hlS⟩
        refine loopG ((Walks.list hh3 _ l hneI items).toS) s.heap.objs.size hSf hz few hv (items.size - 0) 0 _ (by omega) (Nat.zero_le _) ⟨⟨_, Heap.get?_push_size _ rfl, rfl, rfl⟩, (hl1.push _)⟩ ?_ ?_
        · rw [List.take_zero]
          exact freshG (Heap.get?_push_of_some _ hS)
        · intro s' hm g'
          obtain ⟨h', g2, d', tk', os'⟩ := s'
          have eg : g2 = s.gens := hm.gens
          have ed : d' = s.drawn := hm.drawn
          have eo : os' = s.os := hm.os
          subst eg
          subst ed
          subst eo
          show wpAny _ _ _ _ _ _
          refine wpAny_pure ?_
          show wpAny _ _ (ret Value.none) _ _ _
          refine wpAny_pure ⟨rfl, h', tk', rfl, g', fun b o e => ?_⟩
          have hb := Heap.lt_size e
          have n1 : b ≠ s.heap.objs.size := Nat.ne_of_lt hb
          have n2 : b ≠ (s.heap.push (freshSet w)).objs.size := by rw [Heap.size_push]; exact Nat.ne_of_lt (Nat.lt_succ_of_lt hb)
          exact hm.heap b o (by simp only [List.mem_cons, List.mem_singleton, List.not_mem_nil, or_false, not_or]; exact ⟨n1, n2⟩) (Heap.get?_push_of_some _ (Heap.get?_push_of_some _ e))
      · cases r2 with
        | error e => exact hr2
        | ok f2 =>
          cases f2 with
          | ret r =>
            obtain ⟨rfl, h', tk, rfl, g', k'⟩ := hr2
            repeat (any_goals (first | assumption | wp_step))
            exact h _ _ g' k'
          | _ => exact hr2.elim
    | _ => exact hr.elim
set_option maxHeartbeats 3200000 in
/-- set(xs), xs a tuple -/
theorem set_tupleG {l : Addr} {items : Array Value} {Q : Value → Shared → Prop} (hh : A.handled = none) (hl : s.heap.IsTuple l items) (hv : ∀ (i : Nat) (v : Value), items[i]? = some v → ∃ k, ks[i]? = some k ∧ RelV (kV k) v) (hz : items.size = ks.length) (few : ks.length + 1 < scanBound)
    (h : ∀ (h' : Heap) (tk : Nat), SetG w h' s.heap.objs.size ks → (∀ b o, s.heap.get? b = some o → h'.get? b = some o) → Q (.ref s.heap.objs.size) { s with heap := h', toks := tk }) : wpAny (model P w) A (call (.type "set") [.ref l]) Q E s := by
  obtain ⟨c, tl, hmro⟩ := PySem.F.called_set.mro
  have hmade := PySem.F.called_set.made
  have hsub := PySem.F.called_set.sub
  refine wpAny_call (codeAny_of_tree ?_)
  show wpAny _ _ (callAny (.type "set") _) _ _ _
  refine wpAny_pure ⟨Code.quiet_builtin _ (by decide +kernel), codeAny_builtin PySem.F.entry_type_call ?_⟩
  rw [Around.under_plain (weight_type_call_type "set" [.ref l] []) rfl]
  have h1 := PySem.F.called_set.notType
  have h2 := PySem.F.called_set.canCreate
  have hct := PySem.F.typeCall_set_1 (.ref l)
  repeat (any_goals (first | assumption | wp_step))
  refine codeAny_mono (code_set_led1 (.ref l) (E := E) (Q₁ := fun ob s1 => ob = .ref s.heap.objs.size ∧ s1 = { s with heap := s.heap.push (freshSet w) }) ⟨rfl, rfl⟩) fun r s1 hr => ?_
  cases r with
  | error e => exact hr
  | ok fl =>
    cases fl with
    | ret ob =>
      obtain ⟨rfl, rfl⟩ := hr
      have hS : (s.heap.push (freshSet w)).get? s.heap.objs.size = some (freshSet w) := Heap.get?_push_size _ rfl
      have hT : Shared.TypeIs { s with heap := s.heap.push (freshSet w) } (.ref s.heap.objs.size) "set" := ⟨_, hS, rfl⟩
      have hli := PySem.F.called_set.init.lookup
      have hbi := PySem.F.called_set.init.bind (.ref s.heap.objs.size)
      repeat (any_goals (first | assumption | wp_step))
      refine codeAny_mono (codeAny_call_builtin (R := wants (fun r s2 => r = .none ∧ ∃ h' tk, s2 = { s with heap := h', toks := tk } ∧ SetG w h' s.heap.objs.size ks ∧ ∀ b o, s.heap.get? b = some o → h'.get? b = some o) E) PySem.F.called_set.init.plain PySem.F.entry_set_init (check_set_init_1 hT ?_)) fun r2 s2 hr2 => ?_
      · obtain ⟨⟨oc, od, oda, osl⟩, hol, hcl, nl, hdl⟩ := hl
        simp only at hcl hdl
        subst hcl
        subst hdl
        have hol' : (s.heap.push (freshSet w)).get? l = some { cls := .type "tuple", dict := od, data := .seq items nl, slots := osl } := Heap.get?_push_of_some _ hol
        have hsls := PySem.F.sub_tuple_set
        have hslf := PySem.F.sub_tuple_frozenset
        have hne : (Value.type "tuple" == Value.type "dict") = false := by decide
        have hl1 : (s.heap.push (freshSet w)).IsTuple l items := ⟨_, hol', rfl, nl, rfl⟩
        unfold Builtin.«set.__init__» noKeywords Builtin.Frozenset.updateFrom
        generalize hPI : pyIter = PI
        wp_walk
        subst hPI
        refine wpAny_pyIter_tuple hl1 (wpAny_bind (wpAny_runValue ?_))
        have hlS : l < s.heap.objs.size := Heap.lt_size hol
        have hh3 : A.in1.in1.in1.handled = none := by simp [hh]
        have hneI : l ≠ (s.heap.push (freshSet w)).objs.size := by rw [Heap.size_push]; exact Nat.ne_of_lt (Nat.lt_succ_of_lt hlS)
        have hSf : s.heap.objs.size ∉ [(s.heap.push (freshSet w)).objs.size, l] := by
          rw [Heap.size_push]
          simp only [List.mem_cons, List.mem_singleton, List.not_mem_nil, or_false, not_or]
          exact ⟨Nat.ne_of_lt (Nat.lt_succ_self _), Nat.ne_of_gt hlS⟩
        refine loopG ((Walks.tuple hh3 _ l hneI items).toS) s.heap.objs.size hSf hz few hv (items.size - 0) 0 _ (by omega) (Nat.zero_le _) ⟨⟨_, Heap.get?_push_size _ rfl, rfl, rfl⟩, (hl1.push _)⟩ ?_ ?_
        · rw [List.take_zero]
          exact freshG (Heap.get?_push_of_some _ hS)
        · intro s' hm g'
          obtain ⟨h', g2, d', tk', os'⟩ := s'
          have eg : g2 = s.gens := hm.gens
          have ed : d' = s.drawn := hm.drawn
          have eo : os' = s.os := hm.os
          subst eg
          subst ed
          subst eo
          show wpAny _ _ _ _ _ _
          refine wpAny_pure ?_
          show wpAny _ _ (ret Value.none) _ _ _
          refine wpAny_pure ⟨rfl, h', tk', rfl, g', fun b o e => ?_⟩
          have hb := Heap.lt_size e
          have n1 : b ≠ s.heap.objs.size := Nat.ne_of_lt hb
          have n2 : b ≠ (s.heap.push (freshSet w)).objs.size := by rw [Heap.size_push]; exact Nat.ne_of_lt (Nat.lt_succ_of_lt hb)
          exact hm.heap b o (by simp only [List.mem_cons, List.mem_singleton, List.not_mem_nil, or_false, not_or]; exact ⟨n1, n2⟩) (Heap.get?_push_of_some _ (Heap.get?_push_of_some _ e))
      · cases r2 with
        | error e => exact hr2
        | ok f2 =>
          cases f2 with
          | ret r =>
            obtain ⟨rfl, h', tk, rfl, g', k'⟩ := hr2
            repeat (any_goals (first | assumption | wp_step))
            exact h _ _ g' k'
          | _ => exact hr2.elim
    | _ => exact hr.elim
end
end DL

set_option Elab.async false
set_option linter.all false
set_option maxRecDepth 100000
set_option maxHeartbeats 400000
/-! DLm: len(set(xs)), sorted(set(xs)); counts; comparisons of data. -/
namespace DL
open PySem L2
open PySem.W (EachIs AllAlike Sortable dataLe alike)
open PyProof.Rows (seqObj)
/-- each key once -/
def inK (k : Key) (ks : List Key) : Bool := ks.any fun q => decide (q = k)
theorem inK_iff {k : Key} {ks : List Key} : inK k ks = true ↔ k ∈ ks := by
  unfold inK
  rw [List.any_eq_true]
  exact ⟨fun ⟨q, h, e⟩ => of_decide_eq_true e ▸ h, fun h => ⟨k, h, decide_eq_true rfl⟩⟩
def dd : List Key → List Key
  | [] => []
  | k :: r => if inK k r then dd r else k :: dd r
theorem mem_dd {k : Key} : ∀ {ks : List Key}, k ∈ dd ks ↔ k ∈ ks
  | [] => Iff.rfl
  | q :: r => by
    unfold dd
    by_cases e : inK q r = true
    · rw [if_pos e, mem_dd, List.mem_cons]
      exact ⟨Or.inr, fun z => z.elim (fun z => z ▸ inK_iff.mp e) id⟩
    · rw [if_neg e, List.mem_cons, List.mem_cons, mem_dd]
theorem nodup_dd : ∀ (ks : List Key), (dd ks).Nodup
  | [] => List.nodup_nil
  | q :: r => by
    unfold dd
    by_cases e : inK q r = true
    · rw [if_pos e]; exact nodup_dd r
    · rw [if_neg e]; exact List.nodup_cons.mpr ⟨fun z => e (inK_iff.mpr (mem_dd.mp z)), nodup_dd r⟩
theorem TabG.perm {w : World} {ks : List Key} {es : Array (Int × Value)} {t : SetTable} (T : TabG w ks es t) : (es.toList.map kOf).Perm (dd ks) :=
  (List.perm_ext_iff_of_nodup T.nd (nodup_dd ks)).mpr fun k => (T.mem k).trans mem_dd.symm
theorem TabG.size {w : World} {ks : List Key} {es : Array (Int × Value)} {t : SetTable} (T : TabG w ks es t) : es.size = (dd ks).length := by
  have := T.perm.length_eq
  rw [List.length_map, Array.length_toList] at this
  exact this
def SetGO (w : World) (a : Addr) (ks : List Key) : HO := .ext fun h => SetG w h a ks
theorem setGO_new {w : World} {P : Program} {H : Hp} {h : Heap} {a : Addr} {ks : List Key} (R : SetG w h a ks) : ObjOk P w H h a (SetGO w a ks) := by
  have ⟨o, _, _, _, ho, _⟩ := R
  exact ⟨R, ⟨o, ho⟩, fun h1 h2 p k => SetG.keep p k⟩
def kD : Key → D
  | Sum.inl i => .int i
  | Sum.inr x => .str x
theorem kD_inj {K : Fg} {F : Hp} {k : Key} {v : V} (h : Rep K F (kD k) v) : v = kV k := by
  cases k with
  | inl i => exact Rep.int_iff.mp h
  | inr x => exact Rep.str_iff.mp h
theorem kDs_inj {K : Fg} {F : Hp} : ∀ {ks : List Key} {vs : List V}, Reps K F (ks.map kD) vs → vs = ks.map kV
  | [], vs, h => h.inv0
  | k :: r, vs, h => by
    obtain ⟨v, us, rfl, h1, h2⟩ := Reps.inv h
    rw [kD_inj h1, kDs_inj h2]
    rfl
section
variable {X : Cx}
def rSetG (K : Fg) (w : World) : List V → Hp → VK → Prop := fun vs H Q => ∃ (a : Addr) (ks : List Key), vs = [.ref a] ∧ (SqL K H a (ks.map kV) ∨ SqT K H a (ks.map kV)) ∧ ks.length ≤ 4000 ∧ ∀ p, H p = none → Q (.ref p) (upd H p (SetGO w p ks))
theorem keys_at {ks : List Key} {its : List Value} (rv : Vals (ks.map kV) its) : (∀ (i : Nat) (v : Value), its.toArray[i]? = some v → ∃ k, ks[i]? = some k ∧ RelV (kV k) v) ∧ its.toArray.size = ks.length := by
  have l := rv.length
  rw [List.length_map] at l
  refine ⟨fun i v e => ?_, by rw [List.size_toArray, l]⟩
  have e' : its[i]? = some v := by simpa using e
  have hi : i < ks.length := by rw [l]; exact (List.getElem?_eq_some_iff.mp e').1
  obtain ⟨u, h1, h2⟩ := rv.get (i := i) (x := kV ks[i]) (by rw [List.getElem?_map, List.getElem?_eq_getElem hi]; rfl)
  rw [e'] at h1
  cases h1
  exact ⟨ks[i], List.getElem?_eq_getElem hi, h2⟩
theorem cr_setG (hc : X.calm = true) : CallR X (.type "set") (rSetG X.K X.w) := by
  intro pins s σ H vs us Q I r h
  obtain ⟨a, ks, rfl, hq, few, q⟩ := h
  rw [Vals.ref1 r]
  have fw : ks.length + 1 < scanBound := by have : scanBound = 4096 := rfl; omega
  have fin : ∀ (h' : Heap) (tk : Nat), SetG X.w h' s.heap.objs.size ks → (∀ b o, s.heap.get? b = some o → h'.get? b = some o) → EP X pins σ Q (.ref s.heap.objs.size) { s with heap := h', toks := tk } := fun h' tk g k =>
    ⟨.ref _, upd H s.heap.objs.size (SetGO X.w s.heap.objs.size ks), I.laid (t' := tk) k (Nat.le_refl _) (setGO_new g), rfl, q _ (I.hok.fresh (Nat.le_refl _))⟩
  rcases hq with hq | hq
  · obtain ⟨its, rv, hl, hz⟩ := I.list hq
    obtain ⟨k1, k2⟩ := keys_at rv
    exact set_listG (I.ok.hd hc) hl.isList k1 k2 fw fin
  · obtain ⟨its, rv, hl, hz⟩ := I.tuple hq
    obtain ⟨k1, k2⟩ := keys_at rv
    exact set_tupleG (I.ok.hd hc) hl k1 k2 fw fin
def rLenG (w : World) : List V → Hp → VK → Prop := fun vs H Q => ∃ (a : Addr) (ks : List Key), vs = [.ref a] ∧ H a = some (SetGO w a ks) ∧ Q (.int ((dd ks).length : Nat)) H
theorem cr_lenG : CallR X (.builtin "len") (rLenG X.w) := by
  intro pins s σ H vs us Q I r h
  obtain ⟨a, ks, rfl, ha, q⟩ := h
  rw [Vals.ref1 r]
  obtain ⟨o, es, ep, t, ho, hex, hd, T⟩ := (I.hok a _ ha).1
  refine call_len_set ho hex hd T.fits (by have := T.sb; have : scanBound = 4096 := rfl; omega) ⟨.int ((dd ks).length : Nat), H, I.tok _, ⟨_, by rw [T.size]⟩, q⟩
/-! the order of keys is one of equals alone -/
/-! what the mirrors say -/
def keysD : List D → Option (List Key)
  | [] => some []
  | d :: r => match keyD d, keysD r with
    | some k, some ks => some (k :: ks)
    | _, _ => none
theorem keysD_map : ∀ {ds : List D} {ks : List Key}, keysD ds = some ks → ds = ks.map kD
  | [], ks, h => by cases h; rfl
  | d :: r, ks, h => by
    simp only [keysD] at h
    cases e1 : keyD d with
    | none => simp only [e1] at h; cases h
    | some k =>
      cases e2 : keysD r with
      | none => simp only [e1, e2] at h; cases h
      | some qs =>
        simp only [e1, e2] at h
        cases h
        rw [keysD_map e2]
        cases d with
        | int i => cases e1; rfl
        | str x => cases e1; rfl
        | _ => cases e1
def seqD : D → Option (List D)
  | .lst ds => some ds
  | .tup ds => some ds
  | _ => none
def setKeys (d : D) : Option (List Key) := match seqD d with
  | some ds => match keysD ds with
    | some ks => if ks.length ≤ 4000 then some ks else none
    | none => none
  | none => none
def lenSetD (d : D) : Option D := (setKeys d).map fun ks => .int ((dd ks).length : Nat)
theorem setKeys_some {K : Fg} {F H : Hp} {v : V} {d : D} {ks : List Key} (fh : Same F H) (hv : RepR K F H v d) (h : setKeys d = some ks) : ∃ a, v = .ref a ∧ (SqL K H a (ks.map kV) ∨ SqT K H a (ks.map kV)) ∧ ks.length ≤ 4000 := by
  unfold setKeys at h
  cases d with
  | lst ds =>
    simp only [seqD] at h
    cases e : keysD ds with
    | none => simp only [e] at h; cases h
    | some qs =>
      simp only [e] at h
      obtain ⟨h1, rfl⟩ := if_some h
      obtain ⟨a, vs, rfl, g1, g2, g3⟩ := hv.lst fh
      rw [keysD_map e] at g3
      rw [kDs_inj g3] at g1
      exact ⟨a, rfl, Or.inl (Or.inl (Or.inl g1)), h1⟩
  | tup ds =>
    simp only [seqD] at h
    cases e : keysD ds with
    | none => simp only [e] at h; cases h
    | some qs =>
      simp only [e] at h
      obtain ⟨h1, rfl⟩ := if_some h
      obtain ⟨a, vs, rfl, g1, g2, g3⟩ := hv.tup
      rw [keysD_map e] at g3
      rw [kDs_inj g3] at g1
      exact ⟨a, rfl, Or.inr (same_t fh g1.sq), h1⟩
  | _ => cases h
def rLenSet (K : Fg) (w : World) : List V → Hp → VK → Prop := fun vs H Q => rSetG K w vs H fun v H1 => rLenG w [v] H1 Q
theorem prim_lenSet {K : Fg} {w : World} : PrimA K (rLenSet K w) (fA1 lenSetD) := primA1 fun F H v d e fh hv hf Q k => by
  unfold lenSetD at hf
  cases e1 : setKeys d with
  | none => rw [e1] at hf; cases hf
  | some ks =>
    rw [e1] at hf
    cases hf
    obtain ⟨a, rfl, g1, g2⟩ := setKeys_some fh hv e1
    exact ⟨a, ks, rfl, g1, g2, fun p hp => ⟨p, ks, rfl, upd_same, k F _ _ ⟨Same.refl _, fh.trans (same_upd hp), same_upd hp, fun _ _ q => Or.inl q⟩ (Rep.int_iff.mpr rfl)⟩⟩
/-- len(set(a)), sorted(set(a)) -/
theorem x_lenSet {K : Fg} {W : WX} {a : Expr} {ta : TE} {oa : M Op} {p1 p2 p3 pos : Pos} (hc : X.calm = true) (hm1 : X.mg "len" = none) (hm2 : X.mg "set" = none) (ha : XO X W a ta oa) (hg1 : Gl X "len" := by rfl) (hg2 : Gl X "set" := by rfl)
    (hs : starEach [a] X.env = (false, eval a X.env) :: starEach [] X.env := by rfl) (hK : X.K = K := by rfl) :
    XE X W (.Call (.Name "len" p1) [.Call (.Name "set" p2) [a] [] p3] [] pos) (tCB (rLenG X.w) (tCons (tCB (rSetG K X.w) (tCons ta tNil)) tNil)) (mA (fA1 lenSetD) (maCons oa maNil)) := by
  subst hK
  exact ⟨pe_callB cr_lenG hg1 hm1 boot_len (pa_cons (pe_callTy (cr_setG hc) hg2 hm2 PyProof.Rows.boot_set (pa_cons ha.p pa_nil hs) (by decide) (by decide) hs rfl) pa_nil rfl) (by decide) (by decide) rfl rfl, (show Ev X.K W (tCB (rLenSet X.K X.w) (tCons ta tNil)) _ from ev_A prim_lenSet (ea_cons ha.v ea_nil))⟩
end
end DL

set_option Elab.async false
set_option linter.all false
set_option maxRecDepth 100000
set_option maxHeartbeats 400000
/-! DLn: more that is walked (texts, enumerate), count, turned about, unpacked. -/
namespace DL
open PySem L2
open PySem.W (EachIs AllAlike Sortable dataLe alike)
/-! ### for c in text -/
def signsD (x : Str) : List D := x.cps.toList.map fun c => .str ⟨#[c]⟩
def mTxtOf (m : M D) : M (List D) := m.bind fun d => M.lift (match d with
  | .str x => if x.cps.size ≤ 1000000 then some (signsD x) else none
  | _ => none)
section
variable {K : Fg} {W : WX}
/-- from one frozen value -/
theorem ei_1 {te : TE} {m : M D} {u : V → Hp → (It → Hp → Prop) → Prop} {f : D → Option (List D)} {b : Bool} (h : Ev K W te m)
    (hu : ∀ (C : Cn) (F H : Hp) (d : D) (v : V) (ds : List D), C.K = K → Same F H → Rep K F d v → f d = some ds → ∀ R : It → Hp → Prop, (∀ I, Walks C b F I ds → R I H) → u v H R) :
    Ei K W b (fun σ H R => te σ H fun v H1 => u v H1 R) (m.bind fun d => M.lift (f d)) := by
  intro C hK hW al F H σ δ S r hr R hok hex
  cases e : m δ with
  | none => unfold M.bind at hr; rw [e] at hr; cases hr
  | some r1 =>
    refine h C hK hW al F H σ δ S trivial r1 e _ (fun d δ1 e1 al1 F1 H1 v s1 S1 rl => ?_) fun x δ1 e1 al1 F1 H1 cls dd s1 S1 xr => ?_
    · subst e1
      rw [M.bind_ok e] at hr
      obtain ⟨ds, h2, rfl⟩ := lift_some hr
      exact hu C F1 H1 d v ds hK S1.fh rl h2 R fun I w => hok ds δ1 rfl al1 F1 H1 I s1 S1 w
    · subst e1
      rw [M.bind_ex e] at hr
      cases hr
      exact hex x δ1 rfl al1 F1 H1 cls dd s1 S1 xr
theorem ei_str {te : TE} {m : M D} (h : Ev K W te m) : Ei K W false (iStr te) (mTxtOf m) := by
  refine ei_1 (u := fun v H R => ∃ x, v = .str x ∧ R (Its x) H) h fun C F H d v ds hK fh rv hf R hR => ?_
  cases d with
  | str x =>
    obtain ⟨h1, rfl⟩ := if_some hf
    refine ⟨x, Rep.str_iff.mp rv, hR _ ⟨by unfold signsD; rw [List.length_map, Array.length_toList]; exact h1, fun F2 H2 f1 f2 _ i => ⟨fun d hd => ?_, fun hl => ?_⟩⟩⟩
    · unfold signsD at hd
      rw [List.getElem?_map, Array.getElem?_toList] at hd
      cases e : x.cps[i]? with
      | none => rw [e] at hd; cases hd
      | some c =>
        rw [e] at hd
        cases hd
        refine ⟨(Array.getElem?_eq_some_iff.mp e).1, fun y H' q => ?_⟩
        obtain ⟨rfl, c', e', rfl⟩ := q
        rw [e] at e'
        cases e'
        exact ⟨F2, New.refl f2, (Rep.str_iff (K := C.K) (F := F2)).mpr rfl⟩
    · unfold signsD at hl
      rw [List.length_map, Array.length_toList] at hl
      exact hl
  | _ => cases hf
theorem i_str {X : Cx} {tg e : Expr} {te : TE} {me : M D} (h : XE X W e te me) : XI X W false tg e (iStr te) (mTxtOf me) := ⟨pi_str h.p, ei_str h.v⟩
end
/-! ### enumerate -/
section
variable {prog : Program} {w : World} {A : Around} {E : Value → Shared → Prop} {s : Shared}
end
def enumD (ds : List D) : List D := ds.zipIdx.map fun p => .tup [.int (p.2 : Nat), p.1]
def enumF : List D → Option (List D)
  | [.lst ds] => some (enumD ds)
  | [.tup ds] => some (enumD ds)
  | _ => none
section
variable {K : Fg} {W : WX}
end
end DL

set_option Elab.async false
set_option linter.all false
set_option maxRecDepth 100000
set_option maxHeartbeats 400000
/-! DLo: x.count(y), x[::-1], a, b = list, the script cut. -/
namespace DL
open PySem L2
mutual
theorem toPy_plain : ∀ {d : D} {p : PyData}, toPy d = some p → p.plain = true
  | .non, p, e => by cases e; rfl
  | .bl b, p, e => by cases e; rfl
  | .int i, p, e => by cases e; rfl
  | .str x, p, e => by cases e; rfl
  | .tup ds, p, e => by
    simp only [toPy] at e
    cases q : toPys ds with
    | none => rw [q] at e; cases e
    | some ps => rw [q] at e; cases e; simpa only [PyData.plain] using toPys_plain q
  | .lst ds, p, e => by
    simp only [toPy] at e
    cases q : toPys ds with
    | none => rw [q] at e; cases e
    | some ps => rw [q] at e; cases e; simpa only [PyData.plain] using toPys_plain q
  | .ins _ _ _, p, e => by cases e
  | .dk _ _, p, e => by cases e
  | .dn _ _ _, p, e => by cases e
  | .fn _, p, e => by cases e
theorem toPys_plain : ∀ {ds : List D} {ps : List PyData}, toPys ds = some ps → PyData.plainAll ps = true
  | [], ps, e => by cases e; rfl
  | d :: ds, ps, e => by
    simp only [toPys] at e
    cases q1 : toPy d with
    | none => simp only [q1] at e; cases e
    | some p =>
      cases q2 : toPys ds with
      | none => simp only [q1, q2] at e; cases e
      | some qs => simp only [q1, q2] at e; cases e; simp only [PyData.plainAll, toPy_plain q1, toPys_plain q2, Bool.and_self]
end
/-! ### count -/
section
variable {X : Cx} {o e : Expr} {to : TE} {t : TA} {apos cpos : Pos}
def kindD : D → Option Bool
  | .lst _ => some false
  | .tup _ => some true
  | _ => none
def cntD (d e : D) : Option D := match seqD d, toPy e with
  | some ds, some p => match toPys ds with
    | some ps => if p.depth ≤ 60 then some (.int ((ps.countP fun z => PyData.eqv z p : Nat) : Int)) else none
    | none => none
  | _, _ => none
def mCount (a b : M Op) : M D := a.bind fun o => (mRd o).bind fun d0 => match kindD d0 with
  | none => fun _ => none
  | some k => b.bind fun q => (mRd o).bind fun d => (mRd q).bind fun e => M.lift (if kindD d = some k then cntD d e else none)
end
/-! ### x[::-1] of a list -/
def revLD : D → Option (List D)
  | .lst ds => some ds.reverse
  | _ => none
section
variable {K : Fg} {W : WX} {X : Cx}
theorem primN_rev : PrimN1 K (fun x H Q => ∃ a xs, x = .ref a ∧ SqL K H a xs ∧ ∀ p, H p = none → Q (.ref p) (upd H p (.lst xs.reverse))) revLD := by
  intro F H v d ds fh hv hf Q k
  cases d with
  | lst es =>
    cases hf
    obtain ⟨a, vs, rfl, g1, g2, g3⟩ := hv.lst fh
    exact ⟨a, vs, rfl, Or.inl (Or.inl g1), fun p hp => k p _ _ hp (same_upd hp) upd_same (by rw [List.length_reverse]; exact g2) g3.rev⟩
  | _ => cases hf
theorem n_rev {K : Fg} {a : Expr} {ta : TE} {oa : M Op} {k : Nat} {p1 p2 p3 pos : Pos} (ha : XO X W a ta oa) (hK : X.K = K := by rfl) : XN X W (.Subscript a (.Slice none none (some (.UnaryOp .USub (.Constant (.int 1) k p1) p2)) p3) pos) (tRevL K ta) (mn1 revLD oa) := by
  subst hK
  exact ⟨pe_revL ha.p, en_1 (ta := ta) (r := fun x H Q => ∃ a xs, x = .ref a ∧ SqL X.K H a xs ∧ ∀ p, H p = none → Q (.ref p) (upd H p (.lst xs.reverse))) primN_rev ha.v⟩
/-! ### a, b = list -/
def gTL (m : List D → En → Option En) : Mg := fun d δ => match d with
  | .lst ds => m ds δ
  | _ => none
theorem eg_unl {u : TGs} {b : List D → En → Option En} {n : Nat} (hb : Egs K u b) (h : GsN b n) : Eg K false (gUnl K n u) (gTL b) := fun C hK al F H σ δ S d v δ' hr e Q k => by
  cases d with
  | lst ds =>
    obtain ⟨a, vs, rfl, h1, h2, h3⟩ := Rep.lst_iff.mp hr
    have e' : b ds δ = some δ' := e
    exact ⟨a, vs, rfl, Or.inl (Or.inl (S.fh _ _ h1)), by rw [h3.len]; exact h ds δ δ' e', hb C hK al F H σ δ S ds vs δ' h3 e' Q k⟩
  | _ => cases e
theorem s_unl {K : Fg} {e : Expr} {es : List Expr} {te : TE} {me : M D} {t : TGs} {b : List D → En → Option En} {n k : Nat} {vs : List Nat} {tpos pos : Pos} (hc : X.calm = true) (he : XE X W e te me) (h : XGs X es t b n vs) (hn : (assignEach es X.env).length = n := by rfl) (hst : (assignEach es X.env).findIdx? (·.1) = none := by rfl)
    (hs : swapsWithSole [.Tuple es k tpos] e pos.line X.env = pure false := by rfl) (hw : swappedStores [.Tuple es k tpos] e X.env = pure none := by rfl) (h1 : (assignEach [.Tuple es k tpos] X.env).map (·.2) = [assign (.Tuple es k tpos) X.env] := by rfl) (hK : X.K = K := by rfl) :
    XS X W (.Assign [.Tuple es k tpos] e pos) (tAsg te (gUnl K n t)) (mAsg (gTL b) me) := by
  subst hK
  exact ⟨ps_asg he.p (pg_unl hc h.p hn hst) hs hw h1, es_asg he.v (eg_unl h.v h.l)⟩
/-! ### the script, cut -/
def mScSl (i : Nat) (lo hi : Option Int) : M D := fun δ => match δ[i]? with
  | some (.sc ns) => if ns.length ≤ 1000000 then some (.ok (.lst (cutD (ns.map D.int) lo hi)) δ) else none
  | _ => none
/-- a bound told by the text -/
def CP (t : TO) (o : Option Int) : Prop := ∀ (σ : St) (H : Hp) (Q : Option Int → Hp → Prop), Q o H → t σ H Q
theorem cp_none : CP tNoPart none := fun σ H Q h => h
theorem cp_int {i : Int} : CP (tPart (tC (.int i))) (some i) := fun σ H Q h => ⟨i, rfl, h⟩
theorem ints_reps {F : Hp} : ∀ (ns : List Int), Reps K F (ns.map D.int) (ns.map V.int)
  | [] => reps_nil
  | n :: r => reps_cons (Rep.int_iff.mpr rfl) (ints_reps r)
theorem sql_up {F F' : Hp} (e : Same F F') {a : Addr} {xs : List V} (h : SqL K F a xs) : SqL K F' a xs := by
  rcases h with h | h
  · exact Or.inl (same_rd e h)
  · exact Or.inr h
theorem ev_scSl {i : Nat} {tl th : TO} {lo hi : Option Int} (hl : CP tl lo) (hu : CP th hi) : Ev K W (tSl (rSlAny K) (tVar i) tl th) (mScSl i lo hi) := by
  intro C hK hW al F H σ δ S hp r hr Q hok hex
  unfold mScSl at hr
  cases e : δ[i]? with
  | none => simp only [e] at hr; cases hr
  | some s =>
    cases s with
    | sc ns =>
      simp only [e] at hr
      by_cases hn : ns.length ≤ 1000000
      · rw [if_pos hn] at hr
        cases hr
        subst hK
        obtain ⟨a, h1, h2⟩ := S.sc i ns e
        replace h2 := (h2.resolve_right fun z => absurd z.1 (by omega)).2
        refine ⟨.ref a, h1, hl _ _ _ (hu _ _ _ (Or.inl ⟨a, ns.map V.int, rfl, sql_up (S.bp.trans S.ph) h2, fun p hp => ?_⟩))⟩
        have n : New F H (upd F p (.lst (cutV (ns.map V.int) lo hi))) (upd H p (.lst (cutV (ns.map V.int) lo hi))) := New.lay S.fh hp
        exact hok _ δ rfl al _ _ _ n.ff (S.new n) (Rep.lst_iff.mpr ⟨p, _, rfl, upd_same, Nat.le_trans cutD_len (by rw [List.length_map]; exact hn), (cutD_reps (ints_reps ns)).mono n.ff⟩)
      · rw [if_neg hn] at hr; cases hr
    | _ => simp only [e] at hr; cases hr
theorem x_scSl {K : Fg} {i : Nat} {a : Expr} {lo hi : Option Expr} {tl th : TO} {ol oh : Option Int} {p2 pos : Pos} (ha : PE X a (tVar i)) (pl : PO X lo tl) (ph : PO X hi th) (hl : CP tl ol) (hu : CP th oh) (hK : X.K = K := by rfl) : XE X W (.Subscript a (.Slice lo hi none p2) pos) (tSl (rSlAny K) (tVar i) tl th) (mScSl i ol oh) := by
  subst hK
  exact ⟨pe_slice sl_any ha pl ph, ev_scSl hl hu⟩
end
end DL

set_option Elab.async false
set_option linter.all false
set_option maxRecDepth 100000
set_option maxHeartbeats 400000
/-! DLp: defs of the top by what they promise; the law's own end. -/
namespace DL
open PySem L2
/-- a def of the top as it was written -/
structure DefK (K : Fg) (x : Str) (st : Stmt) : Prop where
  ex : ∃ f fd, PySem.W.nsIn K mainGlobals x = some (some (.ref f)) ∧ Fun K x x st f fd ∧ PySem.W.keepIn K (.ref f) = true ∧ ∃ kV dc pm an cd ct, fd = PySem.W.fnOf x x (defArgs st) (defBody st) (defScope st) .none kV dc pm an cd ct
theorem defK_mk {K : Fg} {x : Str} {st : Stmt} {f : Addr} {od an : Option Addr} {sl : Array (Option Value)} {oc kV dc pm cd ct : Value} (a : PySem.W.nsIn K mainGlobals x = some (some (.ref f)))
    (l : K.lookup f = some ⟨oc, od, .func (PySem.W.fnOf x x (defArgs st) (defBody st) (defScope st) .none kV dc pm an cd ct), sl⟩) (c : PySem.W.codeIn K cd x = true) (k : PySem.W.keepIn K (.ref f) = true) : DefK K x st := ⟨f, _, a, fun_mk l c k, k, _, _, _, _, _, _, rfl⟩
theorem globS_mk {K : Fg} {x : Str} {v : Value} {i : Str} {t : Tok} (y : PySem.W.nsIn K mainGlobals x = some (some v)) (z : v = .str i t) : ∃ v : Value, PySem.W.nsIn K mainGlobals x = some (some v) ∧ ∃ t, v = .str i t := ⟨v, y, t, z⟩
/-- a method of a class -/
structure MetK (K : Fg) (C : Addr) (x qual : Str) (st : Stmt) (f : Addr) : Prop where
  ex : ∃ fd, PySem.W.findIn K (.ref C) x = some (some (.ref f)) ∧ PySem.W.isFn K (.ref f) = true ∧ Fun K x qual st f fd ∧ PySem.W.keepIn K (.ref f) = true
theorem metK_mk {K : Fg} {C : Addr} {x qual : Str} {st : Stmt} {f : Addr} {od an : Option Addr} {sl : Array (Option Value)} {oc kV dc pm cd ct : Value} (a : PySem.W.findIn K (.ref C) x = some (some (.ref f))) (i : PySem.W.isFn K (.ref f) = true)
    (l : K.lookup f = some ⟨oc, od, .func (PySem.W.fnOf x qual (defArgs st) (defBody st) (defScope st) .none kV dc pm an cd ct), sl⟩) (c : PySem.W.codeIn K cd qual = true) (k : PySem.W.keepIn K (.ref f) = true) : MetK K C x qual st f := ⟨_, a, i, fun_mk l c k, k⟩
/-- a class that makes objects -/
structure ClsK (K : Fg) (x : Str) (C : Addr) : Prop where
  a : PySem.W.nsIn K mainGlobals x = some (some (.ref C))
  pg : PySem.W.plainGet K C Str.empty = true
  hd : PySem.W.hasDictIn K C = true
  po : PySem.W.plainOver K C = true
  sa : PySem.W.findIn K (.ref C) "__setattr__" = some (some (.builtin "object.__setattr__"))
  mks : PySem.W.makesIn K C = true
  kc : PySem.W.keepIn K (.ref C) = true
theorem ClsK.cls {K : Fg} {x : Str} {C : Addr} (c : ClsK K x C) : Cls K C := ⟨c.pg, c.hd, c.po, c.sa⟩
section
variable (P : Program) (w : World) (K : Fg) (mg : Str → Option Value) (base : Heap)
structure CallP (x : Str) (k : Nat) (ps : List Str) (ks : List PK) (g : List D → Option D) : Prop where
  ex : ∃ f fd, mg x = some (.ref f) ∧ PySem.W.keepIn K (.ref f) = true ∧ Binds K fd ps [] ∧ FnOk P w K mg base CX0 k f fd ps (SpP K ks g)
structure CallI (x : Str) (k : Nat) (ps : List Str) (ks : List PK) (g : List D → Option (D × D)) : Prop where
  ex : ∃ f fd, mg x = some (.ref f) ∧ PySem.W.keepIn K (.ref f) = true ∧ Binds K fd ps [] ∧ FnOk P w K mg base CX0 k f fd ps (SpI K ks g)
structure MakeI (x : Str) (C : Addr) (k : Nat) (ps : List Str) (ks : List PK) (g : List D → Option (D × D)) : Prop where
  ex : ∃ f fd, mg x = some (.ref C) ∧ Mk K C f ∧ Binds K fd ps [] ∧ FnOk P w K mg base CX0 k f fd ps (SpI K ks g)
end
section
variable {X : Cx} {W : WX} {e : Expr} {es : List Expr} {pos p2 : Pos}
theorem x_cq {K : Fg} {x : Str} {ps : List Str} {k j : Nat} {ks : List PK} {g : List D → Option D} {t : TA} {m : M (List Op)} (c : CallP X.prog X.w X.K X.mg X.base x k ps ks g) (hr : Room j X.A) (h : XA X W (e :: es) t m) (hkj : k ≤ j := by decide) (hg : Gl X x := by rfl)
    (hdb : (x == ("__debug__" : Str)) = false := by decide) (hs : starEach (e :: es) X.env = (false, eval e X.env) :: starEach es X.env := by rfl) (hpl : (backTo pos (starEach es X.env)).any (·.1) = false := by rfl) (hK : X.K = K := by rfl) :
    XE X W (.Call (.Name x p2) (e :: es) [] pos) (tCall (SpP K ks g) [] E0 t) (mCallP ks g m) := by
  subst hK
  obtain ⟨f, fd, h1, h2, h3, h4⟩ := c.ex
  exact x_cp h4 hr hkj h1 h2 h3 h hg hdb hs hpl
theorem x_cqi {K : Fg} {x : Str} {ps : List Str} {k j i : Nat} {ks : List PK} {g : List D → Option (D × D)} {t : TA} {m : M (List Op)} (c : CallI X.prog X.w X.K X.mg X.base x k ps ks g) (hr : Room j X.A) (hp : XE X W e (tVar i) (mVar i)) (h : XA X W es t m) (hkj : k ≤ j := by decide) (hg : Gl X x := by rfl)
    (hdb : (x == ("__debug__" : Str)) = false := by decide) (hs : starEach (e :: es) X.env = (false, eval e X.env) :: starEach es X.env := by rfl) (hpl : (backTo pos (starEach es X.env)).any (·.1) = false := by rfl) (hK : X.K = K := by rfl) :
    XE X W (.Call (.Name x p2) (e :: es) [] pos) (tCall (SpI K ks g) [] E0 (tCons (tVar i) t)) (mCallI i ks g m) := by
  subst hK
  obtain ⟨f, fd, h1, h2, h3, h4⟩ := c.ex
  exact x_ci h4 hr hkj h1 h2 h3 hp.p h hg hdb hs hpl
theorem n_mkq {K : Fg} {x : Str} {C : Addr} {ps : List Str} {k j : Nat} {ks : List PK} {g : List D → Option (D × D)} {t : TA} {m : M (List Op)} (c : MakeI X.prog X.w X.K X.mg X.base x C k ps ks g) (hr : Room j X.A) (h : XA X W (e :: es) t m) (hkj : k + 1 ≤ j := by decide) (hg : Gl X x := by rfl)
    (hdb : (x == ("__debug__" : Str)) = false := by decide) (hs : starEach (e :: es) X.env = (false, eval e X.env) :: starEach es X.env := by rfl) (hpl : (backTo pos (starEach es X.env)).any (·.1) = false := by rfl) (hK : X.K = K := by rfl) :
    XN X W (.Call (.Name x p2) (e :: es) [] pos) (tMake C (SpI K ks g) [] E0 t) (mMakeP C ks g m) := by
  subst hK
  obtain ⟨f, fd, h1, h2, h3, h4⟩ := c.ex
  exact n_mk h2 h4 hr hkj h1 h3 h hg hdb hs hpl
end
section
variable {P : Program} {w : World} {K : Fg} {mg : Str → Option Value} {base h : Heap}
theorem callP_of {x : Str} {st : Stmt} {k : Nat} {ps : List Str} {ks : List PK} {g : List D → Option D} (d : DefK K x st) (X : K.In h) (G : h.Ns mainGlobals mg) (hb : ∀ {f : Addr} {fd : FuncData}, Fun K x x st f fd → Binds K fd ps [])
    (hf : ∀ {f : Addr} {fd : FuncData}, Fun K x x st f fd → FnOk P w K mg base CX0 k f fd ps (SpP K ks g)) : CallP P w K mg base x k ps ks g := by
  obtain ⟨f, fd, h1, h2, h3, _⟩ := d.ex
  exact ⟨f, fd, PySem.W.mg_of X G h1, h3, hb h2, hf h2⟩
theorem callI_of {x : Str} {st : Stmt} {k : Nat} {ps : List Str} {ks : List PK} {g : List D → Option (D × D)} (d : DefK K x st) (X : K.In h) (G : h.Ns mainGlobals mg) (hb : ∀ {f : Addr} {fd : FuncData}, Fun K x x st f fd → Binds K fd ps [])
    (hf : ∀ {f : Addr} {fd : FuncData}, Fun K x x st f fd → FnOk P w K mg base CX0 k f fd ps (SpI K ks g)) : CallI P w K mg base x k ps ks g := by
  obtain ⟨f, fd, h1, h2, h3, _⟩ := d.ex
  exact ⟨f, fd, PySem.W.mg_of X G h1, h3, hb h2, hf h2⟩
theorem makeI_of {x qual : Str} {C f : Addr} {st : Stmt} {k : Nat} {ps : List Str} {ks : List PK} {g : List D → Option (D × D)} (c : ClsK K x C) (d : MetK K C "__init__" qual st f) (X : K.In h) (G : h.Ns mainGlobals mg) (hb : ∀ {f : Addr} {fd : FuncData}, Fun K "__init__" qual st f fd → Binds K fd ps [])
    (hf : ∀ {f : Addr} {fd : FuncData}, Fun K "__init__" qual st f fd → FnOk P w K mg base CX0 k f fd ps (SpI K ks g)) : MakeI P w K mg base x C k ps ks g := by
  obtain ⟨fd, h1, h2, h3, h4⟩ := d.ex
  exact ⟨f, fd, PySem.W.mg_of X G c.a, ⟨c.mks, h1, h2, c.kc⟩, hb h3, hf h3⟩
/-! ### the law -/
def spLawD (K : Fg) : Sp := fun vs H Q _ => ∃ (a : Addr) (ns : List Int), vs = [.ref a] ∧ SqL K H a (ns.map V.int) ∧ ns.length ≤ 63 ∧ ∀ H', Q (.bl true) H'
def lawOk (m : Ms) (n : Nat) : Prop := ∀ ns : List Int, ns.length ≤ 63 → ∃ δ, m (startE n [Sl.sc ns]) = some (.rt (.bl true) δ)
theorem law_fn {x qual y : Str} {st : Stmt} {f : Addr} {fd : FuncData} {N : List Str} {k : Nat} {m : Ms} (F : Fun K x qual st f fd) (S : FnScope N [y] (defScope st)) (hm : lawOk m N.length)
    (hb : ∀ (cdv : Value) (A : Around) (outer : List Env) (s : Shared) (H : Hp) (E : XK), Room k (A.deeper (PyProof.Rows.envOfC qual (defScope st) s.heap.objs.size f cdv)) → ∃ t, XB (cxOf CX0 P w K mg base N qual (defScope st) f cdv A outer s H E).nox W0 (defBody st) t m) :
    FnOk P w K mg base CX0 (k + 1) f fd [y] (spLawD K) := by
  refine F.ok S (fun vs H Q E h => ?_) (fun cdv A outer s H vs Q E hr h => ?_)
  · obtain ⟨a, ns, rfl, _⟩ := h
    rfl
  · obtain ⟨t, B⟩ := hb cdv A outer s H E hr
    refine ⟨t, B.p, ?_⟩
    obtain ⟨a, ns, rfl, hS, hl, q⟩ := h
    obtain ⟨δ, e⟩ := hm ns hl
    have S0 : StOk { K := K, P := H, B := H, F0 := fun _ => none, bt := fun _ => 0, W := W0 } (fun _ => 0) (fun _ => none) H ([V.ref a].map some) [Sl.sc ns] := by
      have one : ∀ (i : Nat) (s : Sl), [Sl.sc ns][i]? = some s → i = 0 ∧ s = .sc ns := fun i s z => by
        cases i with
        | zero => exact ⟨rfl, (Option.some.inj z).symm⟩
        | succ i => simp at z
      refine ⟨fun _ _ z => (by cases z), Same.refl _, Same.refl _, fun _ _ z => (by cases z), fun _ _ z => (by cases z), rfl, fun i d z => ?_, fun i d z => ?_, fun i s d z r => ?_, fun i d z => ?_, fun i j s t d e z1 z2 r1 r2 _ => ?_, fun i ms z => ?_, fun i ms z => ?_, fun _ _ z => by cases z⟩
      · cases (one i _ z).2
      · cases (one i _ z).2
      · rw [(one i _ z).2] at r; cases r
      · cases (one i _ z).2
      · rw [(one i _ z1).2] at r1; cases r1
      · obtain ⟨rfl, e⟩ := one i _ z
        cases e
        exact ⟨a, rfl, Or.inl ⟨by omega, hS⟩⟩
      · cases (one i _ z).2
    refine B.v _ rfl rfl _ _ H _ _ (S0.begin (N := N)) _ e _ ?_
    exact fun al' F' H' σ' v s' S' rv => by rw [Rep.bl_iff.mp rv]; exact q H'
end
end DL

set_option Elab.async false
set_option linter.all false
set_option maxRecDepth 100000
set_option maxHeartbeats 400000
/-! DLq: tests by comparison; the built-ins that are called most. -/
namespace DL
open PySem L2
section
variable {X : Cx} {W : WX} {a b c : Expr} {ta tb tc : TE} {pos p2 : Pos} {oa ob oc : M Op}
theorem t_lt (ha : XO X W a ta oa) (hb : XO X W b tb ob) : XT X W (.Compare a [.Lt] [b] pos) (tTest (tOp (rI0 fun i j => .bl (decide (i < j))) ta tb)) (mTest (m2 (fI0 fun i j => .bl (decide (i < j))) oa ob)) := ⟨pt_cmpR op_lt ha.p hb.p (nomark _), et_test (ev_2 prim_ltI ha.v hb.v)⟩
theorem t_gt (ha : XO X W a ta oa) (hb : XO X W b tb ob) : XT X W (.Compare a [.Gt] [b] pos) (tTest (tOp (rI0 fun i j => .bl (decide (j < i))) ta tb)) (mTest (m2 (fI0 fun i j => .bl (decide (j < i))) oa ob)) := ⟨pt_cmpR op_gt ha.p hb.p (nomark _), et_test (ev_2 prim_gtI ha.v hb.v)⟩
theorem t_eq {K : Fg} {k : Nat} (hr : Room k X.A) (ha : XO X W a ta oa) (hb : XO X W b tb ob) (hK : X.K = K := by rfl) : XT X W (.Compare a [.Eq] [b] pos) (tTest (tOp (rEqD K) ta tb)) (mTest (m2 eqD oa ob)) := by
  subst hK
  exact ⟨pt_cmpR (op_eqD hr.units) ha.p hb.p (nomark _), et_test (ev_2 prim_eq ha.v hb.v)⟩
theorem t_ne {K : Fg} {k : Nat} (hr : Room k X.A) (ha : XO X W a ta oa) (hb : XO X W b tb ob) (hK : X.K = K := by rfl) : XT X W (.Compare a [.NotEq] [b] pos) (tTest (tOp (rNeD K) ta tb)) (mTest (m2 neD oa ob)) := by
  subst hK
  exact ⟨pt_cmpR (op_neD hr.units) ha.p hb.p (nomark _), et_test (ev_2 prim_ne ha.v hb.v)⟩
theorem t_leLe (ha : XO X W a ta oa) (hb : XO X W b tb ob) (hc : XO X W c tc oc) (hm : lastMarks [.LtE, .LtE] [b, c] = false := by with_unfolding_all rfl) : XT X W (.Compare a [.LtE, .LtE] [b, c] pos) (tTest (tChain (rI0 fun i j => .bl (decide (i ≤ j))) (rI0 fun i j => .bl (decide (i ≤ j))) ta tb tc)) (mTest (mChain (fI0 fun i j => .bl (decide (i ≤ j))) (fI0 fun i j => .bl (decide (i ≤ j))) oa ob oc)) :=
  ⟨pt_chain op_le op_le ha.p hb.p hc.p hm, et_test (ev_chain prim_leI prim_leI ha.v hb.v hc.v)⟩
theorem x_len {K : Fg} (hm : X.mg "len" = none) (ha : XO X W a ta oa) (hg : Gl X "len" := by rfl) (hs : starEach [a] X.env = (false, eval a X.env) :: starEach [] X.env := by rfl) (hK : X.K = K := by rfl) : XE X W (.Call (.Name "len" p2) [a] [] pos) (tCB (rLen K) (tCons ta tNil)) (mA (fA1 lenD) (maCons oa maNil)) := by
  subst hK
  exact x_cb call_len prim_len boot_len hm (a_cons ha a_nil hs) hg (by decide) (by decide) hs rfl
theorem x_all {K : Fg} (hc : X.calm = true) (hm : X.mg "all" = none) (ha : XO X W a ta oa) (hg : Gl X "all" := by rfl) (hs : starEach [a] X.env = (false, eval a X.env) :: starEach [] X.env := by rfl) (hK : X.K = K := by rfl) : XE X W (.Call (.Name "all" p2) [a] [] pos) (tCB (rAll K) (tCons ta tNil)) (mA (fA1 allD) (maCons oa maNil)) := by
  subst hK
  exact x_cb (cr_all hc) prim_all (by decide +kernel) hm (a_cons ha a_nil hs) hg (by decide) (by decide) hs rfl
theorem n_list {K : Fg} (hm : X.mg "list" = none) (ha : XO X W a ta oa) (hg : Gl X "list" := by rfl) (hs : starEach [a] X.env = (false, eval a X.env) :: starEach [] X.env := by rfl) (hK : X.K = K := by rfl) : XN X W (.Call (.Name "list" p2) [a] [] pos) (tCB (rListOf K) (tCons ta tNil)) (mnA (fN1 listD) (maCons oa maNil)) := by
  subst hK
  exact n_ct call_list_of prim_list (by decide +kernel) hm (a_cons ha a_nil hs) hg (by decide) (by decide) hs rfl
theorem x_tuple {K : Fg} (hm : X.mg "tuple" = none) (ha : XO X W a ta oa) (hg : Gl X "tuple" := by rfl) (hs : starEach [a] X.env = (false, eval a X.env) :: starEach [] X.env := by rfl) (hK : X.K = K := by rfl) : XE X W (.Call (.Name "tuple" p2) [a] [] pos) (tCB (rTupOf K) (tCons ta tNil)) (mA (fA1 tupD) (maCons oa maNil)) := by
  subst hK
  exact x_ct call_tupleZ prim_tup (by decide +kernel) hm (a_cons ha a_nil hs) hg (by decide) (by decide) hs rfl
theorem n_sorted {K : Fg} {k : Nat} (hr : Room k X.A) (hm : X.mg "sorted" = none) (ha : XO X W a ta oa) (hg : Gl X "sorted" := by rfl) (hs : starEach [a] X.env = (false, eval a X.env) :: starEach [] X.env := by rfl) (hK : X.K = K := by rfl) : XN X W (.Call (.Name "sorted" p2) [a] [] pos) (tCB (rSortQ K) (tCons ta tNil)) (mnA (fN1 sortF) (maCons oa maNil)) := by
  subst hK
  exact n_cb (cr_sortQ (room_in hr)) prim_sort (by decide +kernel) hm (a_cons ha a_nil hs) hg (by decide) (by decide) hs rfl
/-- x[i] = e, x a list of one's own -/
def mPutI (i : Nat) (mi me : M D) : Ms := mS me fun d => mHas i (mS mi fun j => fun δ => match j with
      | .int n => match ownL δ i with
        | some (s, ds) => match ixN ds.length n with
          | some m => some (.nx (δ.set i (reown s (.lst (ds.set m d)))))
          | none => none
        | none => none
      | _ => none)
theorem s_putI {o e : Expr} {te : TE} {me : M D} {i : Nat} {ix : Expr} {ti : TE} {mi : M D} {tpos : Pos} (ho : PE X o (tVar i)) (hi : XE X W ix ti mi) (h : XE X W e te me) (ha : ∀ v, assign (.Subscript o ix tpos) X.env v = (do
      let ov ← holding [v] (eval o X.env)
      let iv ← holding [v, ov] (eval ix X.env)
      standAt tpos
      holding [v, ov, iv] (setItem ov iv v)
      release [v, ov, iv] []) := by intro _; rfl) (hs : swapsWithSole [.Subscript o ix tpos] e pos.line X.env = pure false := by rfl) (hw : swappedStores [.Subscript o ix tpos] e X.env = pure none := by rfl) (h1 : (assignEach [.Subscript o ix tpos] X.env).map (·.2) = [assign (.Subscript o ix tpos) X.env] := by rfl) :
    XS X W (.Assign [.Subscript o ix tpos] e pos) (tAsg te (gSub (tVar i) ti rSetL)) (mPutI i mi me) := s_setI ho hi h ha hs hw h1
end
end DL

set_option Elab.async false
set_option linter.all false
set_option maxRecDepth 100000
set_option maxHeartbeats 400000
/-! DLr: defs that hand back a new object, the caller's own from then on. -/
namespace DL
open PySem L2
theorem StOk.callee {C : Cn} {al : Nat → Addr} {F H : Hp} {σ : St} {δ : En} {ks : List PK} {os : List Op} {vs : List V} {ds : List D} (S : StOk C al F H σ δ) (hrel : relA C.K F σ vs os) (h1 : rds os δ = some ds) (hf : frOk ks os = true) :
    vs.length = ks.length ∧ ds.length = ks.length ∧ StOk { K := C.K, P := H, B := H, F0 := F, bt := fun _ => 0, W := C.W } (fun _ => 0) F H (vs.map some) (entry ks ds) := by
  have hP : Paired (fun v d => RepR C.K F H v d) vs ds := S.opds hrel h1
  have lk := frOk_len hf
  have lv : vs.length = os.length := hrel.length
  have ld := rds_len h1
  refine ⟨by omega, by omega, ?_⟩
  have ge : ∀ (i : Nat) s, (entry ks ds)[i]? = some s → ∃ v d, (vs.map some)[i]? = some (some v) ∧ ((s = .bo d ∧ RepR C.K F H v d) ∨ (s = .fr d ∧ Rep C.K F d v)) := fun i s q => by
    obtain ⟨k, d, g1, g2, g3⟩ := entry_get q
    obtain ⟨v, g4, g5⟩ := paired_get hP g2
    refine ⟨v, d, by rw [List.getElem?_map, g4]; rfl, ?_⟩
    rcases frOk_get hf g1 with z | ⟨z, d', z2⟩
    · subst z; exact Or.inl ⟨g3, g5⟩
    · subst z
      refine Or.inr ⟨g3, ?_⟩
      obtain ⟨d2, g6, g7⟩ := rds_get h1 z2
      rw [g2] at g6
      cases g6
      cases g7
      obtain ⟨v', g8, g9⟩ := paired_get hrel z2
      rw [g4] at g8
      cases g8
      exact g9
  refine ⟨S.fh, Same.refl _, Same.refl _, Same.refl _, fun b o q => Or.inl q, by rw [List.length_map, entry_len (by omega)]; omega, fun i d q => ?_, fun i d q => ?_, fun i s d q r => ?_, fun i d q => ?_, fun i j s t d e q1 q2 r1 r2 => ?_, fun i ns q => ?_, fun i ns q => ?_, fun _ _ q => by cases q⟩
  · obtain ⟨v, d', g1, g2 | g2⟩ := ge i _ q
    · cases g2.1
    · cases g2.1; exact ⟨v, g1, g2.2⟩
  · obtain ⟨v, d', g1, g2 | g2⟩ := ge i _ q
    · cases g2.1; exact ⟨v, g1, g2.2⟩
    · cases g2.1
  · obtain ⟨v, d', g1, g2 | g2⟩ := ge i _ q
    · rw [g2.1] at r; cases r
    · rw [g2.1] at r; cases r
  · obtain ⟨v, d', g1, g2 | g2⟩ := ge i _ q
    · cases g2.1
    · cases g2.1
  · obtain ⟨v, d', g1, g2 | g2⟩ := ge i _ q1
    · rw [g2.1] at r1; cases r1
    · rw [g2.1] at r1; cases r1
  · obtain ⟨v, d', g1, g2 | g2⟩ := ge i _ q
    · cases g2.1
    · cases g2.1
  · obtain ⟨v, d', g1, g2 | g2⟩ := ge i _ q
    · cases g2.1
    · cases g2.1
/-- a new object comes back -/
def SpN (K : Fg) (ks : List PK) (g : List D → Option D) : Sp := fun vs H Q _ => ∃ (C : Cn) (al : Nat → Addr) (ds : List D) (d : D), C.K = K ∧ vs.length = ks.length ∧ ds.length = ks.length ∧ StOk C al C.F0 H (vs.map some) (entry ks ds) ∧ g ds = some d ∧
  ∀ al' F' H' σ' δ' p, Same C.F0 F' → StOk C al' F' H' σ' δ' → F' p = none → C.P p = none → RepO K F' H' p d → Q (.ref p) H'
def defN (n : Nat) (ks : List PK) (m : Ms) : List D → Option D := fun ds => match m (startE n (entry ks ds)) with
  | some (.rn d _) => some d
  | _ => none
section
variable {P : Program} {w : World} {K : Fg} {mg : Str → Option Value} {base : Heap}
theorem fn_n {x qual : Str} {st : Stmt} {f : Addr} {fd : FuncData} {N ps : List Str} {k : Nat} {ks : List PK} {m : Ms} (F : Fun K x qual st f fd) (S : FnScope N ps (defScope st)) (hks : ks.length = ps.length)
    (hb : ∀ (cdv : Value) (A : Around) (outer : List Env) (s : Shared) (H : Hp) (E : XK), Room k (A.deeper (PyProof.Rows.envOfC qual (defScope st) s.heap.objs.size f cdv)) → ∃ t, XB (cxOf CX0 P w K mg base N qual (defScope st) f cdv A outer s H E).nox W0 (defBody st) t m) :
    FnOk P w K mg base CX0 (k + 1) f fd ps (SpN K ks (defN N.length ks m)) := by
  refine F.ok S (fun vs H Q E h => ?_) (fun cdv A outer s H vs Q E hr h => ?_)
  · obtain ⟨C, al, ds, d, _, h1, _⟩ := h
    rw [h1, hks]
  · obtain ⟨t, B⟩ := hb cdv A outer s H E hr
    refine ⟨t, B.p, ?_⟩
    obtain ⟨C, al, ds, d, hK, h1, h2, S0, hf, hok⟩ := h
    subst hK
    have S1 := (S0.wish W0 (short_entry _ _)).begin (N := N)
    unfold defN at hf
    cases e : m (startE N.length (entry ks ds)) with
    | none => rw [e] at hf; cases hf
    | some o =>
      rw [e] at hf
      refine B.v { C with W := W0 } rfl rfl al C.F0 H _ _ S1 o e _ ?_
      cases o with
      | rn z δ => cases hf; exact fun al' F' H' σ' p s' S' n1 n2 n3 => hok al' F' H' _ _ p s' ((S'.take 0).unwish short_nil) n1 n2 n3
      | _ => cases hf
end
def mCallN (ks : List PK) (g : List D → Option D) (a : M (List Op)) : M D := a.bind fun os => (mRds os).bind fun ds => fun δ => if frOk ks os then (match g ds with
  | some d => some (.ok d δ)
  | none => none) else none
theorem en_callN {K : Fg} {W : WX} {ks : List PK} {g : List D → Option D} {a : M (List Op)} {ta : TA} {E : XK} (ha : Ea K W ta a) : En1 K W (tCall (SpN K ks g) [] E ta) (mCallN ks g a) := by
  refine J.bindN (t2 := fun (vs : List V) (_ : St) (H : Hp) (Q : VK) => SpN K ks g (vs ++ []) H Q E) ha monoT fun os vs => ?_
  intro C hK hWC al F H σ δ S hp r hr Q hok hex
  subst hK
  obtain ⟨ds, h1, hr⟩ := rds_bind hr
  by_cases hf : frOk ks os = true
  · simp only [hf, if_true] at hr
    obtain ⟨l1, l2, St1⟩ := S.callee hp.2 h1 hf
    cases e : g ds with
    | none => simp only [e] at hr; cases hr
    | some d =>
      simp only [e] at hr
      cases hr
      refine ⟨{ K := C.K, P := H, B := H, F0 := F, bt := fun _ => 0, W := C.W }, fun _ => 0, ds, d, rfl, by rw [List.append_nil]; exact l1, l2, (by rw [List.append_nil]; exact St1), e, fun al' F' H' σ' δ' p s' S' n1 n2 n3 => ?_⟩
      have nw : New F H F' H' := ⟨s', S'.fh, S'.ph, S'.fp⟩
      have n2 : H p = none := n2
      refine hok d δ rfl al F' H' p s' (S.new nw) n1 (S.ph.free n2) (fun j s e q r z => ?_) n3
      obtain ⟨_, _, _, h4⟩ := S.ow j s e q r
      obtain ⟨u, hu⟩ := h4.there
      rw [z, n2] at hu
      cases hu
  · simp only [hf] at hr
    cases hr
structure CallN (P : Program) (w : World) (K : Fg) (mg : Str → Option Value) (base : Heap) (x : Str) (k : Nat) (ps : List Str) (ks : List PK) (g : List D → Option D) : Prop where
  ex : ∃ f fd, mg x = some (.ref f) ∧ PySem.W.keepIn K (.ref f) = true ∧ Binds K fd ps [] ∧ FnOk P w K mg base CX0 k f fd ps (SpN K ks g)
theorem callN_of {P : Program} {w : World} {K : Fg} {mg : Str → Option Value} {base h : Heap} {x : Str} {st : Stmt} {k : Nat} {ps : List Str} {ks : List PK} {g : List D → Option D} (d : DefK K x st) (X : K.In h) (G : h.Ns mainGlobals mg) (hb : ∀ {f : Addr} {fd : FuncData}, Fun K x x st f fd → Binds K fd ps [])
    (hf : ∀ {f : Addr} {fd : FuncData}, Fun K x x st f fd → FnOk P w K mg base CX0 k f fd ps (SpN K ks g)) : CallN P w K mg base x k ps ks g := by
  obtain ⟨f, fd, h1, h2, h3, _⟩ := d.ex
  exact ⟨f, fd, PySem.W.mg_of X G h1, h3, hb h2, hf h2⟩
section
variable {X : Cx} {W : WX} {e : Expr} {es : List Expr} {pos p2 : Pos}
theorem n_cn {K : Fg} {x : Str} {ps : List Str} {k j : Nat} {ks : List PK} {g : List D → Option D} {t : TA} {m : M (List Op)} (c : CallN X.prog X.w X.K X.mg X.base x k ps ks g) (hr : Room j X.A) (h : XA X W (e :: es) t m) (hkj : k ≤ j := by decide) (hg : Gl X x := by rfl)
    (hdb : (x == ("__debug__" : Str)) = false := by decide) (hs : starEach (e :: es) X.env = (false, eval e X.env) :: starEach es X.env := by rfl) (hpl : (backTo pos (starEach es X.env)).any (·.1) = false := by rfl) (hK : X.K = K := by rfl) :
    XN X W (.Call (.Name x p2) (e :: es) [] pos) (tCall (SpN K ks g) [] E0 t) (mCallN ks g m) := by
  subst hK
  obtain ⟨f, fd, h1, h2, h3, h4⟩ := c.ex
  exact ⟨pe_call h4 (hr.mono hkj) hg h1 h2 h3 .nil pass0 h.p hdb hs hpl, en_callN h.v⟩
theorem s_retW {te : TE} {me : M D} (h : XN X W e te me) : XS X W (.Return (some e) pos) (tRet te) (mRetW me) := ⟨ps_ret h.p, es_retW h.v⟩
end
end DL

set_option Elab.async false
set_option linter.all false
set_option maxRecDepth 100000
set_option maxHeartbeats 400000
/-! DLs: a list of a slot walked, whether it is frozen, borrowed or one's own. -/
namespace DL
open PySem L2
def mSeqB (i : Nat) : M (List D) := fun δ => match δ[i]? with
  | some (.bo (.lst ds)) => some (.ok ds δ)
  | some (.bo _) => none
  | _ => mSeqOf (mVar i) δ
section
variable {K : Fg} {W : WX}
theorem ei_listB {i : Nat} : Ei K W false (iList K (tVar i)) (mSeqB i) := by
  intro C hK hW al F H σ δ S r hr R hok hex
  by_cases hb : ∃ d, δ[i]? = some (.bo d)
  · obtain ⟨d, hb⟩ := hb
    unfold mSeqB at hr
    cases d with
    | lst ds =>
      simp only [hb] at hr
      cases hr
      subst hK
      obtain ⟨v, h1, h2⟩ := S.bo i _ hb
      have bh : Same C.B H := S.bp.trans S.ph
      rcases h2 with h2 | ⟨a, rfl, vs, g1, g2, g3⟩
      · obtain ⟨a, vs, rfl, g1, g2, g3⟩ := Rep.lst_iff.mp h2
        refine ⟨_, h1, a, rfl, ⟨vs, Or.inl (Or.inl (S.fh _ _ g1))⟩, hok ds δ rfl al F H _ (Same.refl _) S ⟨g2, fun F2 H2 f1 f2 _ i => ⟨fun d hd => ?_, fun hl => ?_⟩⟩⟩
        · obtain ⟨u, hu, ru⟩ := g3.get hd
          have ha : H2 a = some (.lst vs) := f2 _ _ (f1 _ _ g1)
          refine ⟨⟨vs, u, Or.inl (Or.inl ha), hu⟩, fun x H' y => ?_⟩
          obtain ⟨rfl, y⟩ := y
          have q := y vs (Or.inl (Or.inl ha))
          rw [hu] at q
          cases q
          exact ⟨F2, New.refl f2, ru.mono f1⟩
        · exact ⟨vs, Or.inl (Or.inl (f2 _ _ (f1 _ _ g1))), by rw [g3.len]; exact hl⟩
      · refine ⟨_, h1, a, rfl, ⟨vs, Or.inl (Or.inl (bh _ _ g1))⟩, hok ds δ rfl al F H _ (Same.refl _) S ⟨g2, fun F2 H2 f1 f2 hp i => ⟨fun d hd => ?_, fun hl => ?_⟩⟩⟩
        · obtain ⟨u, hu, ru⟩ := g3.get hd
          have ha : H2 a = some (.lst vs) := hp _ _ (S.bp _ _ g1)
          refine ⟨⟨vs, u, Or.inl (Or.inl ha), hu⟩, fun x H' y => ?_⟩
          obtain ⟨rfl, y⟩ := y
          have q := y vs (Or.inl (Or.inl ha))
          rw [hu] at q
          cases q
          exact ⟨F2, New.refl f2, ru.mono f1⟩
        · exact ⟨vs, Or.inl (Or.inl (hp _ _ (S.bp _ _ g1))), by rw [g3.len]; exact hl⟩
    | _ => simp only [hb] at hr; cases hr
  · have e : mSeqB i δ = mSeqOf (mVar i) δ := by
      unfold mSeqB
      cases h : δ[i]? with
      | none => rfl
      | some s =>
        cases s with
        | bo d => exact absurd ⟨d, h⟩ hb
        | _ => rfl
    rw [e] at hr
    exact ei_list (K := K) ev_var C hK hW al F H σ δ S r hr R hok hex
theorem i_listB {K : Fg} {X : Cx} {tg e : Expr} {i : Nat} {me : M D} (h : XE X W e (tVar i) me) (hK : X.K = K := by rfl) : XI X W false tg e (iList K (tVar i)) (mSeqB i) := by
  subst hK
  exact ⟨pi_list h.p, ei_listB⟩
end
end DL

set_option Elab.async false
set_option linter.all false
set_option maxRecDepth 100000
set_option maxHeartbeats 400000
/-! DLt: max, min of two, int, list times n, pop(i), remove(x), reverse(). -/
namespace DL
open PySem L2
section
variable {X : Cx} {W : WX} {a b : Expr} {ta tb : TE} {oa ob : M Op} {p2 pos : Pos}
theorem x_int1 (hm : X.mg "int" = none) (ha : XO X W a ta oa) (hg : Gl X "int" := by rfl) (hs : starEach [a] X.env = (false, eval a X.env) :: starEach [] X.env := by rfl) :
    XE X W (.Call (.Name "int" p2) [a] [] pos) (tCB (fun xs H Q => (∃ i, xs = [V.int i] ∧ Q (.int i) H) ∨ ∃ k, xs = [V.bl k] ∧ Q (.int (if k then 1 else 0)) H) (tCons ta tNil)) (mA (fA1 intD) (maCons oa maNil)) :=
  x_ct call_int1 prim_int (by decide +kernel) hm (a_cons ha a_nil hs) hg (by decide) (by decide) hs rfl
end
/-! ### range with a step -/
section
variable {K : Fg} {W : WX}
end
/-! ### list times n -/
def repF : D → D → Option (List D)
  | .lst ds, .int k => if -1000000 ≤ k ∧ k ≤ 1000000 ∧ ds.length * k.toNat ≤ 1000000 then some (List.replicate k.toNat ds).flatten else none
  | _, _ => none
theorem reps_rep {K : Fg} {F : Hp} {ds : List D} {vs : List V} (h : Reps K F ds vs) : ∀ n : Nat, Reps K F (List.replicate n ds).flatten (List.replicate n vs).flatten
  | 0 => reps_nil
  | n + 1 => by
    rw [List.replicate_succ, List.replicate_succ, List.flatten_cons, List.flatten_cons]
    exact h.app (reps_rep h n)
theorem primN_rep {K : Fg} : PrimN2 K rRep repF := by
  intro F H v w d e ds fh hv hw hf Q k
  cases d with
  | lst es =>
    cases e with
    | int n =>
      obtain ⟨h1, h2⟩ := if_some (show (if -1000000 ≤ n ∧ n ≤ 1000000 ∧ es.length * n.toNat ≤ 1000000 then some (List.replicate n.toNat es).flatten else none) = some ds from hf)
      subst h2
      obtain ⟨a, vs, rfl, g1, g2, g3⟩ := hv.lst fh
      have hl : (List.replicate n.toNat es).flatten.length ≤ LB := by
        rw [List.length_flatten, List.map_replicate, List.sum_replicate_nat]
        have := h1.2.2
        unfold LB
        rw [Nat.mul_comm]
        exact this
      refine ⟨a, n, vs, rfl, hw.int, g1, by omega, by omega, by rw [g3.len]; exact LB_size h1.2.2, fun p hp => k p _ _ hp (same_upd hp) upd_same hl (reps_rep g3 n.toNat)⟩
    | _ => cases hf
  | _ => cases e <;> cases hf
section
variable {X : Cx} {W : WX} {a b : Expr} {ta tb : TE} {oa ob : M Op} {pos : Pos}
theorem n_rep (ha : XO X W a ta oa) (hb : XO X W b tb ob) : XN X W (.BinOp a .Mult b pos) (tOp rRep ta tb) (mn2 repF oa ob) := ⟨pe_op op_rep ha.p hb.p, en_2 primN_rep ha.v hb.v⟩
end
/-! ### texts compared -/
section
variable {X : Cx} {W : WX} {a b : Expr} {ta tb : TE} {oa ob : M Op} {pos : Pos}
end
/-! ### remove -/
section
variable {X : Cx} {W : WX} {o e : Expr} {apos pos : Pos}
end
end DL

set_option Elab.async false
set_option linter.all false
set_option maxRecDepth 100000
set_option maxHeartbeats 1000000
/-! DLu: list(zip(xs, ys)), sorted. -/
namespace DL
open PySem PySem.W PySem.Calls PyProof.Rows
abbrev IsZf (h : Heap) (z TI TO : Addr) (f0 f1 : Value) : Prop := h.get? z = some { cls := .type "zip", dict := none, data := .fields #[f0, f1, .bool false, .ref TI, .ref TO], slots := #[] }
section
variable {prog : Program} {w : World} {A : Around} {E : Value → Shared → Prop} {s : Shared}
theorem owned_out {z TI TO T : Addr} {b1 : Bool} {oT : Obj} {Q : Bool → Shared → Prop} (hz : IsZf s.heap z TI TO (rawInt T) (.bool b1)) (hT : s.heap.get? T = some oT)
    (hQ : ∀ h', IsZf h' z TI TO (rawInt T) (.bool true) → Heap.SameBut z s.heap h' → Q false { s with heap := h' }) : wpAny (model prog w) A (Builtin.SmallTypes.ownedTupleIsFree (.ref z)) Q E s := by
  unfold Builtin.SmallTypes.ownedTupleIsFree
  refine wpAny_bind (wpAny_field hz rfl (x := rawInt T) rfl ?_)
  show wpAny _ _ (loadIfAlive ((T : Int).toNat) >>= _) _ _ _
  rw [Int.toNat_natCast]
  refine wpAny_bind (kdx_alive hT ?_)
  simp only [Option.isNone_some, Bool.false_eq_true, if_false]
  refine wpAny_bind (wpAny_field hz rfl (x := .bool b1) rfl ?_)
  cases b1 with
  | true =>
    rw [if_neg (show ¬ ((Value.bool true != Value.bool true) = true) from Bool.false_ne_true)]
    exact wpAny_pure (hQ _ hz (Heap.SameBut.refl _ _))
  | false =>
    rw [if_pos (show (Value.bool false != Value.bool true) = true from rfl)]
    refine wpAny_bind (wpAny_setField_rec hz (by simp) fun h₃ he₃ hs₃ => ?_)
    exact wpAny_pure (hQ h₃ he₃ hs₃)
theorem zip_next_out {z TI TO i1 i2 l1 l2 T : Addr} {k1 k2 : Nat} {b1 : Bool} {oT : Obj} {xs ys : Array Value} {x y : Value} {Q : Value → Shared → Prop} (D : ZipApart z TI TO i1 i2 l1 l2)
    (hz : IsZf s.heap z TI TO (rawInt T) (.bool b1)) (hT : s.heap.get? T = some oT) (hTI : IsPair s.heap TI (.ref i1) (.ref i2))
    (h1 : s.heap.IsListIter i1 l1 k1) (h2 : s.heap.IsListIter i2 l2 k2) (hl1 : s.heap.IsList l1 xs) (hl2 : s.heap.IsList l2 ys) (hx : xs[k1]? = some x) (hy : ys[k2]? = some y)
    (hQ : ∀ h', IsZf h' z TI TO (rawInt T) (.bool true) → h'.IsListIter i1 l1 (k1 + 1) → h'.IsListIter i2 l2 (k2 + 1) → IsPair h' s.heap.objs.size x y → h'.objs.size = s.heap.objs.size + 1 →
      (∀ c o, c ≠ z → c ≠ i1 → c ≠ i2 → s.heap.get? c = some o → h'.get? c = some o) → Q (.ref s.heap.objs.size) { s with heap := h' }) :
    wpAny (model prog w) A (Builtin.«zip.__next__» ⟨[.ref z], []⟩) (fun fin s' => ∃ v, fin = .done (.ret v) ∧ Q v s') E s := by
  show wpAny _ _ (field (.ref z) 2 >>= _) _ _ _
  refine wpAny_bind (wpAny_field hz rfl (x := .bool false) rfl ?_)
  show wpAny _ _ (field (.ref z) 3 >>= _) _ _ _
  refine wpAny_bind (wpAny_field hz rfl (x := .ref TI) rfl ?_)
  refine wpAny_bind (wpAny_seqItems hTI rfl ?_)
  show wpAny _ _ (Builtin.SmallTypes.ownedTupleIsFree (.ref z) >>= _) _ _ _
  refine wpAny_bind (owned_out hz hT fun h₁ hz₁ hs₁ => ?_)
  simp only [Bool.false_eq_true, if_false]
  refine wpAny_bind ?_
  rw [← Array.forIn_toList]
  simp only [List.forIn_cons, List.forIn_nil]
  refine wpAny_bind (wpAny_bind (wpAny_holding ?_))
  show wpAny _ _ (Builtin.SmallTypes.nextOf (.ref i1) >>= _) _ _ _
  refine wpAny_bind (wpAny_nextOf_list_item (h1.extBut hs₁.extBut D.i1z) (hl1.extBut hs₁.extBut D.l1z) hx fun h₂ h1₂ hs₂ => wpAny_pure ?_)
  refine wpAny_pure ?_
  refine wpAny_bind (wpAny_bind (wpAny_holding ?_))
  show wpAny _ _ (Builtin.SmallTypes.nextOf (.ref i2) >>= _) _ _ _
  refine wpAny_bind (wpAny_nextOf_list_item ((h2.extBut hs₁.extBut D.i2z).extBut hs₂.extBut D.i12.symm)
    ((hl2.extBut hs₁.extBut D.l2z).extBut hs₂.extBut D.l2i1) hy fun h₄ h2₄ hs₄ => wpAny_pure ?_)
  refine wpAny_pure (wpAny_pure ?_)
  refine wpAny_bind (wpAny_newTuple (hsz := by show 2 ≤ sizeLine; decide) ?_)
  have hsz : h₄.objs.size = s.heap.objs.size := by rw [hs₄.1, hs₂.1, hs₁.1]
  have hz₄ : IsZf h₄ z TI TO (rawInt T) (.bool true) := hs₄.extBut _ _ D.i2z.symm (hs₂.extBut _ _ D.i1z.symm hz₁)
  have h1₄ : h₄.IsListIter i1 l1 (k1 + 1) := h1₂.extBut hs₄.extBut D.i12
  have hk : ∀ c o, c ≠ z → c ≠ i1 → c ≠ i2 → s.heap.get? c = some o → h₄.get? c = some o := fun c o c1 c3 c4 e => hs₄.extBut _ _ c4 (hs₂.extBut _ _ c3 (hs₁.extBut _ _ c1 e))
  refine wpAny_pure ⟨_, rfl, ?_⟩
  show Q (.ref h₄.objs.size) _
  have hT₅ : IsPair (h₄.push { cls := .type "tuple", data := .seq #[x, y] }) h₄.objs.size x y := Heap.get?_push_size _ rfl
  have hz5 : (h₄.push { cls := .type "tuple", data := .seq #[x, y] }).objs.size = h₄.objs.size + 1 := Heap.size_push ..
  rw [hsz] at hT₅ hz5 ⊢
  exact hQ _ (Heap.get?_push_of_some _ hz₄) (h1₄.at fun o e => Heap.get?_push_of_some _ e) (h2₄.at fun o e => Heap.get?_push_of_some _ e) hT₅ hz5 fun c o c1 c3 c4 e => Heap.get?_push_of_some _ (hk c o c1 c3 c4 e)
theorem zip_end_out {z TI TO i1 i2 l1 l2 T : Addr} {k1 k2 : Nat} {b1 : Bool} {oT : Obj} {xs ys : Array Value} {Q : Fin → Shared → Prop} (hh : A.handled = none) (D : ZipApart z TI TO i1 i2 l1 l2)
    (hz : IsZf s.heap z TI TO (rawInt T) (.bool b1)) (hT : s.heap.get? T = some oT) (hTI : IsPair s.heap TI (.ref i1) (.ref i2))
    (h1 : s.heap.IsListIter i1 l1 k1) (h2 : s.heap.IsListIter i2 l2 k2) (hl1 : s.heap.IsList l1 xs) (hl2 : s.heap.IsList l2 ys) (hend : xs[k1]? = none ∨ ys[k2]? = none)
    (hE : ∀ h' e, (∀ c o, c ≠ z → c ≠ i1 → c ≠ i2 → s.heap.get? c = some o → h'.get? c = some o) → (∃ o, h'.get? e = some o ∧ o.cls = .type "StopIteration") → E (.ref e) { s with heap := h' }) :
    wpAny (model prog w) A (Builtin.«zip.__next__» ⟨[.ref z], []⟩) Q E s := by
  show wpAny _ _ (field (.ref z) 2 >>= _) _ _ _
  refine wpAny_bind (wpAny_field hz rfl (x := .bool false) rfl ?_)
  show wpAny _ _ (field (.ref z) 3 >>= _) _ _ _
  refine wpAny_bind (wpAny_field hz rfl (x := .ref TI) rfl ?_)
  refine wpAny_bind (wpAny_seqItems hTI rfl ?_)
  show wpAny _ _ (Builtin.SmallTypes.ownedTupleIsFree (.ref z) >>= _) _ _ _
  refine wpAny_bind (owned_out hz hT fun h₁ hz₁ hs₁ => ?_)
  simp only [Bool.false_eq_true, if_false]
  refine wpAny_bind ?_
  rw [← Array.forIn_toList]
  simp only [List.forIn_cons, List.forIn_nil]
  refine wpAny_bind (wpAny_bind (wpAny_holding ?_))
  show wpAny _ _ (Builtin.SmallTypes.nextOf (.ref i1) >>= _) _ _ _
  cases hx : xs[k1]? with
  | none => exact wpAny_bind (wpAny_nextOf_list_end hh (h1.extBut hs₁.extBut D.i1z) (hl1.extBut hs₁.extBut D.l1z) hx fun h₂ e hs₂ he => hE h₂ e (fun c o c1 c3 _ x => hs₂ _ _ c3 (hs₁.extBut _ _ c1 x)) he)
  | some x =>
    have hy : ys[k2]? = none := by rcases hend with h | h; rw [hx] at h; cases h; exact h
    refine wpAny_bind (wpAny_nextOf_list_item (h1.extBut hs₁.extBut D.i1z) (hl1.extBut hs₁.extBut D.l1z) hx fun h₂ h1₂ hs₂ => wpAny_pure ?_)
    refine wpAny_pure ?_
    refine wpAny_bind (wpAny_bind (wpAny_holding ?_))
    show wpAny _ _ (Builtin.SmallTypes.nextOf (.ref i2) >>= _) _ _ _
    exact wpAny_bind (wpAny_nextOf_list_end hh ((h2.extBut hs₁.extBut D.i2z).extBut hs₂.extBut D.i12.symm) ((hl2.extBut hs₁.extBut D.l2z).extBut hs₂.extBut D.l2i1) hy fun h₄ e hs₄ he =>
      hE h₄ e (fun c o c1 c3 c4 x => hs₄ _ _ c4 (hs₂.extBut _ _ c3 (hs₁.extBut _ _ c1 x))) he)
/-- a zip of two lists, k of its pairs handed out and kept -/
structure ZSt (h : Heap) (z TI TO i1 i2 l1 l2 S : Addr) (k : Nat) : Prop where
  pti : IsPair h TI (.ref i1) (.ref i2)
  p1 : h.IsListIter i1 l1 k
  p2 : h.IsListIter i2 l2 k
  pz : (IsZf h z TI TO .none (.bool false) ∧ ∃ a b, IsPair h TO a b) ∨ ∃ (T : Addr) (b1 : Bool) (oT : Obj), IsZf h z TI TO (rawInt T) (.bool b1) ∧ h.get? T = some oT ∧ T ≠ z ∧ T ≠ i1 ∧ T ≠ i2 ∧ T ≠ S
theorem ZSt.item {z TI TO i1 i2 l1 l2 S : Addr} {k : Nat} {xs ys : Array Value} {x y : Value} {Q : Option Value → Shared → Prop} (D : ZipApart z TI TO i1 i2 l1 l2) (Z : ZSt s.heap z TI TO i1 i2 l1 l2 S k) (hS : S < s.heap.objs.size)
    (hl1 : s.heap.IsList l1 xs) (hl2 : s.heap.IsList l2 ys) (hx : xs[k]? = some x) (hy : ys[k]? = some y)
    (hQ : ∀ h', ZSt h' z TI TO i1 i2 l1 l2 S (k + 1) → IsPair h' s.heap.objs.size x y → h'.objs.size = s.heap.objs.size + 1 →
      (∀ c o, c ≠ z → c ≠ TO → c ≠ i1 → c ≠ i2 → s.heap.get? c = some o → h'.get? c = some o) → Q (some (.ref s.heap.objs.size)) { s with heap := h' }) :
    wpAny (model prog w) A (pyNext (.ref z)) Q E s := by
  have l1s : i1 < s.heap.objs.size := by obtain ⟨_, e, _⟩ := Z.p1; exact Heap.lt_size e
  have l2s : i2 < s.heap.objs.size := by obtain ⟨_, e, _⟩ := Z.p2; exact Heap.lt_size e
  rcases Z.pz with ⟨hz, a, b, hTO⟩ | ⟨T, b1, oT, hz, hT, n1, n2, n3, n4⟩
  · have lz := Heap.lt_size hz
    refine wpAny_pyNext_zip_item D hz Z.pti hTO Z.p1 Z.p2 hl1 hl2 hx hy fun h' a1 a2 a3 a4 a5 a6 a7 => ?_
    exact hQ h' ⟨a7 _ _ D.TIz D.TITO D.TIi1 D.TIi2 Z.pti, a3, a4, Or.inr ⟨_, false, _, a1, a5, Nat.ne_of_gt lz, Nat.ne_of_gt l1s, Nat.ne_of_gt l2s, Nat.ne_of_gt hS⟩⟩ a5 a6 a7
  · have hty : s.TypeIs (.ref z) "zip" := ⟨_, hz, rfl⟩
    unfold pyNext
    refine wpAny_bind (wpAny_attempt (wpAny_callSpecial?_slot (name := Str.ofString "__next__") hty F.slot_zip_next
      (wpAny_call_entry F.slot_zip_next hty F.entry_zip_next
        (zip_next_out D hz hT Z.pti Z.p1 Z.p2 hl1 hl2 hx hy fun h' a1 a3 a4 a5 a6 a7 => wpAny_pure ?_) (F.args_zip_next_1 _))))
    exact hQ h' ⟨a7 _ _ D.TIz D.TIi1 D.TIi2 Z.pti, a3, a4, Or.inr ⟨T, true, oT, a1, a7 _ _ n1 n2 n3 hT, n1, n2, n3, n4⟩⟩ a5 a6 fun c o c1 _ c3 c4 e => a7 c o c1 c3 c4 e
theorem ZSt.done {z TI TO i1 i2 l1 l2 S : Addr} {k : Nat} {xs ys : Array Value} {Q : Option Value → Shared → Prop} (hh : A.handled = none) (D : ZipApart z TI TO i1 i2 l1 l2) (Z : ZSt s.heap z TI TO i1 i2 l1 l2 S k)
    (hl1 : s.heap.IsList l1 xs) (hl2 : s.heap.IsList l2 ys) (hend : xs[k]? = none ∨ ys[k]? = none)
    (hQ : ∀ h', (∀ c o, c ≠ z → c ≠ TO → c ≠ i1 → c ≠ i2 → s.heap.get? c = some o → h'.get? c = some o) → Q none { s with heap := h' }) : wpAny (model prog w) A (pyNext (.ref z)) Q E s := by
  rcases Z.pz with ⟨hz, a, b, hTO⟩ | ⟨T, b1, oT, hz, hT, n1, n2, n3, n4⟩
  · exact wpAny_pyNext_zip_end hh D hz Z.pti hTO Z.p1 Z.p2 hl1 hl2 hend hQ
  · have hty : s.TypeIs (.ref z) "zip" := ⟨_, hz, rfl⟩
    unfold pyNext
    refine wpAny_bind (wpAny_attempt (wpAny_callSpecial?_slot (name := Str.ofString "__next__") hty F.slot_zip_next
      (wpAny_call_entry F.slot_zip_next hty F.entry_zip_next (zip_end_out hh D hz hT Z.pti Z.p1 Z.p2 hl1 hl2 hend fun h' e hk he => ?_) (F.args_zip_next_1 _))))
    obtain ⟨o, ho, hc⟩ := he
    refine wpAny_bind (wpAny_isInstance (T := "StopIteration") (b := true) ⟨o, ho, hc⟩ isSubtype_stop ?_)
    exact wpAny_pure (hQ _ fun c o c1 _ c3 c4 e => hk c o c1 c3 c4 e)
theorem ZSt.keep {h h' : Heap} {z TI TO i1 i2 l1 l2 S : Addr} {k : Nat} (Z : ZSt h z TI TO i1 i2 l1 l2 S k) (up : ∀ b o, b ≠ S → h.get? b = some o → h'.get? b = some o) (nz : z ≠ S) (nTI : TI ≠ S) (nTO : TO ≠ S) (n1 : i1 ≠ S) (n2 : i2 ≠ S) : ZSt h' z TI TO i1 i2 l1 l2 S k :=
  ⟨up _ _ nTI Z.pti, Z.p1.at fun o e => up _ o n1 e, Z.p2.at fun o e => up _ o n2 e, Z.pz.imp (fun ⟨a, b, c, d⟩ => ⟨up _ _ nz a, b, c, up _ _ nTO d⟩) fun ⟨T, b1, oT, hz, hT, a1, a2, a3, a4⟩ => ⟨T, b1, oT, up _ _ nz hz, up _ _ a4 hT, a1, a2, a3, a4⟩⟩
end
structure ZG (xs ys : Array Value) (lo : Addr) (h : Heap) (as : List Addr) : Prop where
  rise : as.Pairwise (· < ·)
  above : ∀ a ∈ as, lo < a
  pairs : ∀ (j : Nat) (a : Addr), as[j]? = some a → ∃ x y, xs[j]? = some x ∧ ys[j]? = some y ∧ IsPair h a x y
theorem ZG.there {xs ys : Array Value} {lo : Addr} {h : Heap} {as : List Addr} (g : ZG xs ys lo h as) {a : Addr} (ha : a ∈ as) : a < h.objs.size := by
  obtain ⟨j, hj⟩ := List.mem_iff_getElem?.mp ha
  obtain ⟨_, _, _, _, e⟩ := g.pairs j a hj
  exact Heap.lt_size e
section
variable {prog : Program} {w : World} {A : Around} {s : Shared} {R : Result → Shared → Prop} {xs ys : Array Value}
end
end DL

set_option Elab.async false
set_option linter.all false
set_option maxRecDepth 100000
set_option maxHeartbeats 1000000
/-! DLv: list(zip(xs, ys)) as a rule over data. -/
namespace DL
open PySem L2
section
variable {X : Cx} {pins : List (Addr × Obj)} {σ : St} {H H' : Hp} {s : Shared} {h' : Heap}
end
section
variable {X : Cx} {e1 e2 : Expr} {t : TA} {p p1 pos1 pos : Pos}
end
section
variable {K : Fg} {W : WX}
end
end DL

set_option Elab.async false
set_option linter.all false
set_option maxRecDepth 100000
set_option maxHeartbeats 400000
/-! DLw: enumerate of a list of a slot, whether it is frozen, borrowed or one's own. -/
namespace DL
open PySem L2
def mEnumB (i : Nat) : M (List D) := fun δ => match δ[i]? with
  | some (.bo (.lst ds)) => some (.ok (enumD ds) δ)
  | some (.bo _) => none
  | _ => mIt enumF (mdCons (mVar i) mdNil) δ
section
variable {K : Fg} {W : WX}
end
end DL

set_option Elab.async false
set_option linter.all false
set_option maxRecDepth 100000
set_option maxHeartbeats 400000
/-! DLx: a, b = x, y; // by great numbers. -/
namespace DL
open PySem L2
section
variable {X : Cx} {W : WX} {a b : Expr} {ta tb : TE} {oa ob : M Op} {pos : Pos}
end
def mPar (i j : Nat) (m : M (List D)) : Ms := mS m fun ds => match ds with
  | [a, b] => fun δ => some (.nx ((δ.set i (.fr a)).set j (.fr b)))
  | _ => fun _ => none
section
variable {K : Fg} {W : WX}
end
end DL

set_option Elab.async false
set_option linter.all false
set_option maxRecDepth 100000
set_option maxHeartbeats 400000
/-! DLy: continue; a text in a tuple of texts; max, min of a list of ints. -/
namespace DL
open PySem L2
section
variable {X : Cx} {W : WX} {pos : Pos}
end
section
variable {X : Cx} {W : WX} {a b : Expr} {ta tb : TE} {oa ob : M Op} {pos : Pos}
end
/-! ### max, min of a list -/
def intsOf : List D → Option (List Int)
  | [] => some []
  | .int i :: ds => (intsOf ds).map (i :: ·)
  | _ => none
theorem intsOf_map : ∀ {ds : List D} {xs : List Int}, intsOf ds = some xs → ds = xs.map D.int
  | [], xs, h => by cases h; rfl
  | d :: ds, xs, h => by
    cases d with
    | int x =>
      simp only [intsOf] at h
      cases e : intsOf ds with
      | none => rw [e] at h; cases h
      | some ys =>
        rw [e] at h
        cases h
        rw [intsOf_map e, List.map_cons]
    | _ => cases h
theorem reps_ints {K : Fg} {F : Hp} : ∀ {xs : List Int} {vs : List V}, Reps K F (xs.map D.int) vs → vs = xs.map V.int
  | [], vs, h => h.inv0
  | x :: xs, vs, h => by
    obtain ⟨v, us, rfl, h1, h2⟩ := Reps.inv h
    rw [Rep.int_iff.mp h1, reps_ints h2, List.map_cons]
section
variable {X : Cx} {W : WX} {a : Expr} {ta : TE} {oa : M Op} {p2 pos : Pos}
end
end DL

set_option Elab.async false
set_option linter.all false
set_option maxRecDepth 100000
set_option maxHeartbeats 400000
/-! DLz: data compared by order; list(range(..)). -/
namespace DL
open PySem L2
open PySem.W (alike)
/-! ### data compared -/
section
variable {X : Cx}
variable {W : WX} {a b : Expr} {ta tb : TE} {oa ob : M Op} {p2 pos : Pos}
end
/-! ### list(range(..)) -/
section
variable {X : Cx} {W : WX} {a b : Expr} {ta tb : TE} {oa ob : M Op} {p2 p3 pos pos2 : Pos}
end
end DL

set_option Elab.async false
set_option linter.all false
set_option maxRecDepth 100000
set_option maxHeartbeats 400000
/-! DLzb: min, max of two data. -/
namespace DL
open PySem L2
open PySem.W (alike)
section
variable {prog : Program} {w : World} {A : Around} {E : Value → Shared → Prop} {s : Shared} {a b : Value} {p q : PyData} {as bs : List Addr} {Q : Value → Shared → Prop}
end
/-! ### min, max of two tuples -/
section
variable {X : Cx}
variable {W : WX} {a b : Expr} {ta tb : TE} {oa ob : M Op} {p2 pos : Pos}
end
end DL

set_option Elab.async false
set_option linter.all false
set_option maxRecDepth 100000
set_option maxHeartbeats 400000
/-! DLzc: == by a class's own def. -/
namespace DL
open PySem L2
def eqI (C : Addr) (g : List D → Option D) : D → D → Option D
  | .ins C1 ns ds, .ins C2 ms es => if C1 = C ∧ C2 = C then (match g [.ins C1 ns ds, .ins C2 ms es] with
    | some (.bl b) => some (.bl b)
    | _ => none) else none
  | _, _ => none
theorem eqI_some {C : Addr} {g : List D → Option D} {d e z : D} (h : eqI C g d e = some z) : ∃ ns ds ms es b, d = .ins C ns ds ∧ e = .ins C ms es ∧ g [d, e] = some (.bl b) ∧ z = .bl b := by
  cases d with
  | ins C1 ns ds =>
    cases e with
    | ins C2 ms es =>
      simp only [eqI] at h
      by_cases hc : C1 = C ∧ C2 = C
      rotate_left
      · rw [if_neg hc] at h; cases h
      rw [if_pos hc] at h
      obtain ⟨rfl, rfl⟩ := hc
      have h2 := h
      split at h2
      · rename_i b q
        cases h2
        exact ⟨ns, ds, ms, es, b, rfl, rfl, q, rfl⟩
      · cases h2
    | _ => cases h
  | _ => cases e <;> cases h
def rOwn (C : Addr) (S : Sp) : R2 := fun x y H Q => ∃ a b dx dy fs gs, x = .ref a ∧ y = .ref b ∧ H a = some (.ins C dx fs) ∧ H b = some (.ins C dy gs) ∧ S [x, y] H (fun v H' => (∃ c, v = .bl c) ∧ Q v H') E0
theorem prim_own {K : Fg} {C : Addr} {g : List D → Option D} : Prim2 K (rOwn C (SpP K [.bo, .bo] g)) (eqI C g) := by
  intro F H v w d e z fh hv hw hf Q k
  obtain ⟨ns, ds, ms, es, b, rfl, rfl, hg, rfl⟩ := eqI_some hf
  obtain ⟨a, dx, vs, e1, h1, _⟩ := Rep.ins_iff.mp (hv.full fh)
  obtain ⟨a', dy, ws, e2, h2, _⟩ := Rep.ins_iff.mp (hw.full fh)
  refine ⟨a, a', dx, dy, _, _, e1, e2, h1, h2, ?_⟩
  have ge : ∀ (i : Nat) s, ([Sl.bo (.ins C ns ds), Sl.bo (.ins C ms es)] : En)[i]? = some s → ∃ u d', ([some v, some w] : St)[i]? = some (some u) ∧ s = .bo d' ∧ RepR K F H u d' := fun i s q => by
    match i, q with
    | 0, q => cases q; exact ⟨v, _, rfl, rfl, hv⟩
    | 1, q => cases q; exact ⟨w, _, rfl, rfl, hw⟩
    | i + 2, q => cases q
  have St1 : StOk { K := K, P := H, B := H, F0 := F, bt := fun _ => 0, W := fun _ _ _ _ => False } (fun _ => 0) F H [some v, some w] [.bo (.ins C ns ds), .bo (.ins C ms es)] := by
    refine ⟨fh, Same.refl _, Same.refl _, Same.refl _, fun b o q => Or.inl q, rfl, fun i d q => ?_, fun i d q => ?_, fun i s d q r => ?_, fun i d q => ?_, fun i j s t d e q1 q2 r1 r2 => ?_, fun i ns q => ?_, fun i ns q => ?_, fun _ _ q => by cases q⟩
    · obtain ⟨u, d', g1, g2, g3⟩ := ge i _ q; cases g2
    · obtain ⟨u, d', g1, g2, g3⟩ := ge i _ q; cases g2; exact ⟨u, g1, g3⟩
    · obtain ⟨u, d', g1, g2, g3⟩ := ge i _ q; rw [g2] at r; cases r
    · obtain ⟨u, d', g1, g2, g3⟩ := ge i _ q; cases g2
    · obtain ⟨u, d', g1, g2, g3⟩ := ge i _ q1; rw [g2] at r1; cases r1
    · obtain ⟨u, d', g1, g2, g3⟩ := ge i _ q; cases g2
    · obtain ⟨u, d', g1, g2, g3⟩ := ge i _ q; cases g2
  refine ⟨_, _, [.ins C ns ds, .ins C ms es], .ok (.bl b) [], rfl, rfl, rfl, St1, by show (g _).map _ = _; rw [hg]; rfl, fun d δ' e3 al' F' H' σ' u s' S' ru => ?_, fun x δ' e3 => by cases e3⟩
  cases e3
  exact ⟨⟨b, Rep.bl_iff.mp ru⟩, k F' H' u ⟨s', S'.fh, S'.ph, S'.fp⟩ ru⟩
section
variable {X : Cx} {n m : Nat} {C f : Addr} {fd : FuncData} {ps : List Str} {S : Sp}
theorem op_own (F : FnOk X.prog X.w X.K X.mg X.base CX0 n f fd ps S) (hr : Room n X.A) (hs : PySem.W.findIn X.K (.ref C) "__eq__" = some (some (.ref f))) (hf : PySem.W.isFn X.K (.ref f) = true) (hb : Binds X.K fd ps []) : OpR X (compareOp .Eq) (rOwn C S) := by
  intro pins s σ H x y u v Q I rx ry h
  obtain ⟨a, b, dx, dy, fs, gs, rfl, rfl, ha, hb', hsp⟩ := h
  cases rx
  cases ry
  obtain ⟨mA, J, _⟩ := ins_get I.hok ha
  obtain ⟨mB, J', _⟩ := ins_get I.hok hb'
  obtain ⟨od, J, _⟩ := J.look
  obtain ⟨od', J', _⟩ := J'.look
  obtain ⟨m, hF⟩ := I.fr
  show wpAny (model X.prog X.w) X.A (richCompare .Eq (.ref a) (.ref b)) (EP X pins σ Q) X.xe s
  refine PySem.W.cmp_K (op := .Eq) (tb := .ref C) hr.units0 hF I.ok.mod.kin J J'.type (by simp [PySem.W.notFirst]) hs hf ?_
  have hl := F.len _ _ _ _ hsp
  have r2 : Vals [V.ref a, V.ref b] [Value.ref a, Value.ref b] := .cons rfl (.cons rfl .nil)
  refine wpAny_call (codeAny_mono (F.run X.A X.stack s H ⟨[.ref a, .ref b], []⟩ [.ref a, .ref b] [.ref a, .ref b] _ E0 hr I.env0 (by
    have := hb s [.ref a, .ref b] I.kIn (by simpa using hl)
    simpa using this) r2 hsp) fun r s' hq => ?_)
  cases r with
  | error e => exact pass0 pins σ H s e s' I hq
  | ok fl =>
    cases fl with
    | ret w =>
      obtain ⟨z, H', I', rz, ⟨c, ez⟩, ex⟩ := I.after hq
      subst ez
      cases rz
      exact ⟨.bl c, H', I', rfl, ex⟩
    | next => exact False.elim hq
    | brk => exact False.elim hq
    | cont => exact False.elim hq
end
/-- what is known of a class's own == -/
structure EqO (P : Program) (w : World) (K : Fg) (mg : Str → Option Value) (base : Heap) (C : Addr) (k : Nat) (g : List D → Option D) : Prop where
  ex : ∃ f fd ps, PySem.W.findIn K (.ref C) "__eq__" = some (some (.ref f)) ∧ PySem.W.isFn K (.ref f) = true ∧ Binds K fd ps [] ∧ FnOk P w K mg base CX0 k f fd ps (SpP K [.bo, .bo] g)
section
variable {X : Cx} {W : WX} {a b : Expr} {ta tb : TE} {oa ob : M Op} {pos : Pos}
theorem t_eqO {K : Fg} {k j : Nat} {C : Addr} {g : List D → Option D} (h : EqO X.prog X.w X.K X.mg X.base C k g) (hr : Room j X.A) (ha : XO X W a ta oa) (hb : XO X W b tb ob) (hkj : k ≤ j := by decide) (hK : X.K = K := by rfl) : XT X W (.Compare a [.Eq] [b] pos) (tTest (tOp (rOwn C (SpP K [.bo, .bo] g)) ta tb)) (mTest (m2 (eqI C g) oa ob)) := by
  subst hK
  obtain ⟨f, fd, ps, h1, h2, h3, h4⟩ := h.ex
  exact ⟨pt_cmpR (op_own h4 (hr.mono hkj) h1 h2 h3) ha.p hb.p (nomark _), et_test (ev_2 prim_own ha.v hb.v)⟩
end
end DL

set_option Elab.async false
set_option linter.all false
set_option maxRecDepth 100000
set_option maxHeartbeats 400000
/-! DLzd: l.index(x) of data. -/
namespace DL
open PySem L2
section
variable {X : Cx} {o e : Expr} {apos cpos : Pos}
end
end DL

set_option Elab.async false
set_option linter.all false
set_option maxRecDepth 100000
set_option maxHeartbeats 400000
/-! DLze: isinstance of an own class; a class's own ==, as the top has written it. -/
namespace DL
open PySem L2
def isC (C : Addr) : D → Option D
  | .ins C1 _ _ => if C1 = C then some (.bl true) else none
  | .int _ => some (.bl false)
  | .str _ => some (.bl false)
  | .tup _ => some (.bl false)
  | _ => none
/-- an own class, as isinstance asks for it -/
structure InsK (K : Fg) (C : Addr) : Prop where
  i : C8.InsC K C
  ty : PySem.W.typeIn K (.ref C) = some (.type "type")
theorem clsIn_some {K : Fg} {C : Addr} (h : PySem.W.mroIn K C (.type "object") = some true) : (PySem.W.clsIn K C).isSome = true := by
  unfold PySem.W.mroIn at h
  cases e : PySem.W.clsIn K C with
  | none => rw [e] at h; cases h
  | some d => rfl
theorem kit_plain {K : Fg} {C : Addr} (c : InsK K C) : PySem.W.kitOne K (.type "int") (.ref C) = some false ∧ PySem.W.kitOne K (.type "str") (.ref C) = some false ∧ PySem.W.kitOne K (.type "tuple") (.ref C) = some false := by
  have h1 := clsIn_some c.i.hm
  have key : ∀ T : String, (∃ l : List Value, PySem.fastBuiltinMro T = some l ∧ ∀ v ∈ l, ∃ U : String, v = .type U) → PySem.W.kitOne K (.type T) (.ref C) = some false := by
    rintro T ⟨l, e, h⟩
    have nm : ¬ Value.ref C ∈ l := fun z => by
      obtain ⟨U, w⟩ := h _ z
      cases w
    have ne : (Value.type T == Value.ref C) = false := rfl
    unfold PySem.W.kitOne PySem.W.kitCls PySem.W.subIn
    simp only [ne, h1, c.ty, e]
    simp [nm]
  refine ⟨key _ ⟨[.type "int", .type "object"], rfl, ?_⟩, key _ ⟨[.type "str", .type "object"], rfl, ?_⟩, key _ ⟨[.type "tuple", .type "object"], rfl, ?_⟩⟩ <;>
  · intro v hv
    simp only [List.mem_cons, List.not_mem_nil, or_false] at hv
    rcases hv with rfl | rfl <;> exact ⟨_, rfl⟩
def rIsC (K : Fg) (C : Addr) : List V → Hp → VK → Prop := fun xs H Q => (∃ a dx fs, xs = [.ref a, .ref C] ∧ H a = some (.ins C dx fs) ∧ Q (.bl true) H) ∨ rIsi K xs H Q
theorem call_isCK {X : Cx} {C : Addr} (c : InsK X.K C) : CallR X (.builtin "isinstance") (rIsC X.K C) := by
  intro pins s σ H xs us Q I r h
  rcases h with h | h
  · exact C8.call_isC c.i pins s σ H xs us Q I r h
  · exact call_isi pins s σ H xs us Q I r h
theorem prim_isC {K : Fg} {C : Addr} (c : InsK K C) : Prim1 K (fun x H Q => rIsC K C [x, .ref C] H Q) (isC C) := by
  intro F H v d e fh hv hf Q k
  have go : ∀ T : String, TyX K H v (.type T) → PySem.W.kitOne K (.type T) (.ref C) = some false → e = .bl false → rIsC K C [v, .ref C] H Q := fun T ty kt he =>
    Or.inr ⟨v, .ref C, .type T, .ref C, false, rfl, .own C, ty, kt, k F H _ (New.refl fh) (by rw [he]; exact Rep.bl_iff.mpr rfl)⟩
  obtain ⟨q1, q2, q3⟩ := kit_plain c
  cases d with
  | ins C1 ns ds =>
    obtain ⟨h1, h2⟩ := if_some (show (if C1 = C then some (D.bl true) else none) = some e from hf)
    subst h1 h2
    obtain ⟨a, dx, vs, e1, g1, _⟩ := Rep.ins_iff.mp (hv.full fh)
    exact Or.inl ⟨a, dx, _, by rw [e1], g1, k F H _ (New.refl fh) (Rep.bl_iff.mpr rfl)⟩
  | int i =>
    refine go "int" ?_ q1 (Option.some.inj hf).symm
    rw [Rep.int_iff.mp (hv.full fh)]
    exact .base (.int i)
  | str x =>
    refine go "str" ?_ q2 (Option.some.inj hf).symm
    rw [Rep.str_iff.mp (hv.full fh)]
    exact .base (.str x)
  | tup es =>
    refine go "tuple" ?_ q3 (Option.some.inj hf).symm
    obtain ⟨a, us, e2, h2, _⟩ := Rep.tup_iff.mp (hv.full fh)
    rw [e2]
    rcases h2 with ⟨o, _, h2⟩ | ⟨o, its, n, h1, _, h2, _⟩
    · exact .fTuple h2
    · exact .kTuple h1 h2
  | _ => cases hf
section
variable {X : Cx} {W : WX} {a : Expr} {ta : TE} {oa : M Op} {pos : Pos}
theorem x_isC {K : Fg} {y : Str} {C : Addr} {p3 p4 : Pos} (c : InsK X.K C) (hm : X.mg "isinstance" = none) (hmT : X.mg y = some (.ref C)) (ha : XO X W a ta oa) (hg : Gl X "isinstance" := by rfl) (hgT : Gl X y := by rfl) (hdT : (y == ("__debug__" : Str)) = false := by decide)
    (hs : starEach [a, .Name y p4] X.env = (false, eval a X.env) :: starEach [.Name y p4] X.env := by rfl) (hs2 : starEach [.Name y p4] X.env = (false, eval (.Name y p4) X.env) :: starEach [] X.env := by rfl) (hpl : (backTo pos (starEach [.Name y p4] X.env)).any (·.1) = false := by rfl) (hK : X.K = K := by rfl) :
    XE X W (.Call (.Name "isinstance" p3) [a, .Name y p4] [] pos) (tCB (rIsC K C) (tCons ta (tCons (tC (.ref C)) tNil))) (m1 (isC C) oa) := by
  subst hK
  exact ⟨pe_callB (call_isCK c) hg hm (by decide +kernel) (pa_cons ha.p (pa_cons (pe_glob hgT hmT rfl hdT) pa_nil hs2) hs) (by decide) (by decide) hs hpl, ev_1 (r := fun x H Q => rIsC X.K C [x, .ref C] H Q) (prim_isC c) ha.v⟩
end
section
variable {P : Program} {w : World} {K : Fg} {mg : Str → Option Value} {base h : Heap}
theorem eqO_of {qual : Str} {C f : Addr} {st : Stmt} {k : Nat} {ps : List Str} {g : List D → Option D} (d : MetK K C "__eq__" qual st f) (hb : ∀ {f : Addr} {fd : FuncData}, Fun K "__eq__" qual st f fd → Binds K fd ps [])
    (hf : ∀ {f : Addr} {fd : FuncData}, Fun K "__eq__" qual st f fd → FnOk P w K mg base CX0 k f fd ps (SpP K [.bo, .bo] g)) : EqO P w K mg base C k g := by
  obtain ⟨fd, h1, h2, h3, h4⟩ := d.ex
  exact ⟨f, fd, ps, h1, h2, hb h3, hf h3⟩
end
end DL

set_option Elab.async false
set_option linter.all false
set_option maxRecDepth 100000
set_option maxHeartbeats 1000000
/-! DLzf: zip(text, list), the text of ASCII signs: one step, the end, the making. -/
namespace DL
open PySem PySem.W PySem.Calls PyProof.Rows
section
variable {prog : Program} {w : World} {A : Around} {E : Value → Shared → Prop} {s : Shared}
end
end DL

set_option Elab.async false
set_option linter.all false
set_option maxRecDepth 100000
set_option maxHeartbeats 1000000
/-! DLzg: for a, b in zip(text, list). -/
namespace DL
open PySem
section
open PySem.W PySem.Calls PyProof.Rows
variable {prog : Program} {w : World} {A : Around} {E : Value → Shared → Prop} {s : Shared}
end
open L2
section
variable {K : Fg} {W : WX}
end
end DL

set_option Elab.async false
set_option linter.all false
set_option maxRecDepth 100000
set_option maxHeartbeats 400000
/-! DLzh: an own object lent while an expression runs. -/
namespace DL
open PySem L2
section
variable {K : Fg} {W : WX}
end
section
variable {X : Cx} {W : WX} {te : TE} {pos : Pos} {me : M D} {tg : Expr} {q : Bool} {elt iter : Expr} {ifs : List Expr} {scope : Scope} {own : List (Str × Nat)} {wi : TI} {g : TG} {tt : TT} {it : M (List D)} {ga : Mg} {mt : M Bool}
end
end DL

set_option Elab.async false
set_option linter.all false
set_option maxRecDepth 100000
set_option maxHeartbeats 400000
/-! DLzi: min, max of a tuple or a list of two tuples. -/
namespace DL
open PySem L2
open PySem.W (alike)
section
variable {prog : Program} {w : World} {A : Around} {E : Value → Shared → Prop} {s : Shared} {a b : Value} {p q : PyData} {as bs : List Addr} {Q : Value → Shared → Prop} {l : Addr}
end
section
variable {X : Cx}
variable {W : WX} {a : Expr} {ta : TE} {oa : M Op} {p2 pos : Pos}
end
end DL

set_option Elab.async false
set_option linter.all false
set_option maxRecDepth 100000
set_option maxHeartbeats 400000
/-! DLzj: != by a class's own ==; an item of a list or of a dict. -/
namespace DL
open PySem L2
section
variable {prog : Program} {w : World} {A : Around} {E : Value → Shared → Prop} {s : Shared} {K : PySem.W.Frag} {x C L f : Addr} {h₀ : Heap} {m : Str → Option Value} {ox : Obj} {od : Option Obj} {b tb : Value}
theorem ifBound_bi {M : Model} {name : Str} {id T : String} {args : List Value} {Q : Option Value → Shared → Prop} (X : K.In s.heap) (I : PySem.W.InstAt s.heap x ox C od) (hs : PySem.W.findIn K (.ref C) name = some (some (.builtin id))) (S : Slot T name id)
    (h : wpAny M A (call (.builtin id) (.ref x :: args)) (fun v => Q (some v)) E s) : wpAny M A (callSpecialIfBound? (.ref x) name args) Q E s := by
  simp only [callSpecialIfBound?, bindSpecialIfBound?]
  refine wpAny_holding (wpAny_bind (wpAny_bind (wpAny_bind (I.type.here ((PySem.W.looks_findIn X hs).here ?_)))))
  simp only [S.bind]
  refine wpAny_bind (wpAny_askSetting (wpAny_ite ?_))
  have fin : wpAny M A (call (.builtin id) ([.ref x] ++ args) >>= fun v => pure (some v)) Q E s := wpAny_bind (wpAny_mono h (fun v s' h' => wpAny_pure h') fun _ _ h' => h')
  split
  · exact wpAny_bind (wpAny_pure (wpAny_pure fin))
  · exact wpAny_tryCatch (wpAny_bind (wpAny_pure (wpAny_pure fin)))
theorem check_bi {M : Model} {id owner n : String} {rest : List Value} {Q : Unit → Shared → Prop} (hk : builtinKind id = some .slot) (hs : splitId id = some (owner, n)) (ha : argsOk id ⟨.ref x :: rest, []⟩) (X : K.In s.heap) (I : PySem.W.InstAt s.heap x ox C od)
    (hm : PySem.W.mroIn K C (.type owner) = some true) (hq : Q () s) : wpAny M A (checkBuiltinCall id ⟨.ref x :: rest, []⟩) Q E s := by
  simp only [checkBuiltinCall, hk, hs]
  refine wpAny_bind ?_
  unfold isInstance
  refine wpAny_bind (I.type.here ((PySem.W.looks_mroIn X hm).here ?_))
  simp only [Bool.not_true, Bool.false_eq_true, if_false]
  cases hsig : Manifest.signature? id with
  | none => exact wpAny_pure hq
  | some sig =>
    simp only [argsOk, hsig] at ha
    have h2 : Bind.checkArgs id sig ⟨.ref x :: rest, []⟩ = pure () := ha
    show wpAny M A (Bind.checkArgs id sig ⟨.ref x :: rest, []⟩) Q E _
    rw [h2]; exact wpAny_pure hq
theorem ne_entry (hu : A.units < cLine) (X : K.In s.heap) (I : PySem.W.InstAt s.heap x ox C od) (hs : PySem.W.findIn K (.ref C) "__eq__" = some (some (.ref f))) (hf : PySem.W.isFn K (.ref f) = true) {Q : Fin → Shared → Prop}
    (hcall : wpAny (model prog w) A (call (.ref f) [.ref x, b]) (fun v s' => ∃ c, v = .bool c ∧ Q (.done (.ret (.bool (!c)))) s') E s) : wpAny (model prog w) A (Builtin.«object.__ne__» ⟨[.ref x, b], []⟩) Q E s := by
  unfold Builtin.«object.__ne__»
  repeat (first
    | with_reducible refine wpAny_cRoomFor hu ?_
    | (refine wpAny_bind (m := callSpecialIfBound? (.ref x) (Str.ofString "__eq__") [b])
        (PySem.W.ifBound_K X I hs hf (wpAny_mono hcall (fun r s' hr => by
          obtain ⟨c, rfl, hq⟩ := hr
          repeat (first | exact hq | exact wpAny_pure hq | exact wpAny_truthy_bool hq | (refine wpAny_bind (m := truthy (.bool _)) (wpAny_truthy_bool ?_)) | wp_step)) fun _ _ e => e)))
    | wp_step)
theorem cmpNe_K {Q : Value → Shared → Prop} (hu : A.units + 1 < cLine) (X : K.In s.heap) (I : PySem.W.InstAt s.heap x ox C od) (hb : PySem.W.Looks (model prog w) s.heap (typeOf b) tb) (hn : PySem.W.notFirst K C tb = true)
    (hne : PySem.W.findIn K (.ref C) "__ne__" = some (some (.builtin "object.__ne__"))) (hob : PySem.W.mroIn K C (.type "object") = some true) (hs : PySem.W.findIn K (.ref C) "__eq__" = some (some (.ref f))) (hf : PySem.W.isFn K (.ref f) = true)
    (h : wpAny (model prog w) A.in1 (call (.ref f) [.ref x, b]) (fun v s' => ∃ c, v = .bool c ∧ Q (.bool (!c)) s') E s) : wpAny (model prog w) A (richCompare .NotEq (.ref x) b) Q E s := by
  have one : wpAny (model prog w) A (tryCompare (.ref x) (cmpInfo .NotEq).2.1 b) (fun r s' => ∃ v, r = some v ∧ Q v s') E s := by
    rw [cmpInfo_NotEq]
    simp only [tryCompare]
    refine wpAny_bind (ifBound_bi X I hne F.cmp_object.ne (wpAny_call (codeAny_call_builtin F.cmp_object.ne.plain F.cmpEntry_ne (check_bi F.cmpKind_ne F.cmpSplit_ne (F.cmpArgs_ne _ _) X I hob
      (ne_entry (A := A.in1) hu X I hs hf (wpAny_mono h (fun v s' hv => ?_) fun _ _ e => e))))))
    obtain ⟨c, rfl, hq⟩ := hv
    first | exact ⟨c, rfl, wpAny_pure ⟨_, rfl, hq⟩⟩ | exact ⟨c, rfl, wpAny_pure (wpAny_pure ⟨_, rfl, hq⟩)⟩ | exact ⟨c, rfl, _, rfl, hq⟩
  unfold richCompare
  simp only [oneThing_ref]
  refine wpAny_holding (wpAny_bind (wpAny_cRoomFor (Nat.lt_of_succ_lt hu) ?_))
  refine wpAny_bind (I.type.here (wpAny_bind (hb.here ?_)))
  split
  · rename_i q
    have e : PySem.W.subIn K tb (.ref C) = some false := by
      rcases Bool.or_eq_true_iff.mp hn with e | e
      · rw [beq_iff_eq.mp e] at q; simp at q
      · exact beq_iff_eq.mp e
    refine wpAny_bind ((PySem.W.looks_subIn X e).here ?_)
    simp only [Bool.false_eq_true, if_false]
    refine wpAny_bind (wpAny_mono one (fun r s' z => ?_) fun _ _ e => e)
    obtain ⟨v, rfl, hq⟩ := z
    exact wpAny_pure hq
  · refine wpAny_bind (wpAny_pure ?_)
    simp only [Bool.false_eq_true, if_false]
    refine wpAny_bind (wpAny_mono one (fun r s' z => ?_) fun _ _ e => e)
    obtain ⟨v, rfl, hq⟩ := z
    exact wpAny_pure hq
end
/-! the rule -/
def neI (C : Addr) (g : List D → Option D) : D → D → Option D := fun d e => match eqI C g d e with
  | some (.bl b) => some (.bl (!b))
  | _ => none
theorem neI_some {C : Addr} {g : List D → Option D} {d e z : D} (h : neI C g d e = some z) : ∃ b, eqI C g d e = some (.bl b) ∧ z = .bl (!b) := by
  unfold neI at h
  split at h
  · rename_i b q
    cases h
    exact ⟨b, q, rfl⟩
  · cases h
def rOwnNe (C : Addr) (S : Sp) : R2 := fun x y H Q => rOwn C S x y H fun v H' => ∀ b, v = .bl b → Q (.bl (!b)) H'
theorem prim_ownNe {K : Fg} {C : Addr} {g : List D → Option D} : Prim2 K (rOwnNe C (SpP K [.bo, .bo] g)) (neI C g) := by
  intro F H v w d e z fh hv hw hf Q k
  obtain ⟨b, h1, rfl⟩ := neI_some hf
  refine prim_own F H v w d e _ fh hv hw h1 _ fun F' H' u n ru b' eb => ?_
  have : u = .bl b := Rep.bl_iff.mp ru
  rw [this] at eb
  cases eb
  exact k F' H' _ n (Rep.bl_iff.mpr rfl)
section
variable {X : Cx} {n m : Nat} {C f : Addr} {fd : FuncData} {ps : List Str} {S : Sp}
theorem op_ownNe (F : FnOk X.prog X.w X.K X.mg X.base CX0 n f fd ps S) (hr : Room (n + 1) X.A) (hne : PySem.W.findIn X.K (.ref C) "__ne__" = some (some (.builtin "object.__ne__"))) (hob : PySem.W.mroIn X.K C (.type "object") = some true) (hs : PySem.W.findIn X.K (.ref C) "__eq__" = some (some (.ref f))) (hf : PySem.W.isFn X.K (.ref f) = true) (hb : Binds X.K fd ps []) : OpR X (compareOp .NotEq) (rOwnNe C S) := by
  intro pins s σ H x y u v Q I rx ry h
  obtain ⟨a, b, dx, dy, fs, gs, rfl, rfl, ha, hb', hsp⟩ := h
  cases rx
  cases ry
  obtain ⟨mA, J, _⟩ := ins_get I.hok ha
  obtain ⟨mB, J', _⟩ := ins_get I.hok hb'
  obtain ⟨od, J, _⟩ := J.look
  obtain ⟨od', J', _⟩ := J'.look
  show wpAny (model X.prog X.w) X.A (richCompare .NotEq (.ref a) (.ref b)) (EP X pins σ Q) X.xe s
  refine cmpNe_K (tb := .ref C) (by have := hr.un; omega) I.kIn J J'.type (by simp [PySem.W.notFirst]) hne hob hs hf ?_
  have hl := F.len _ _ _ _ hsp
  have r2 : Vals [V.ref a, V.ref b] [Value.ref a, Value.ref b] := .cons rfl (.cons rfl .nil)
  refine wpAny_call (codeAny_mono (F.run X.A.in1 X.stack s H ⟨[.ref a, .ref b], []⟩ [.ref a, .ref b] [.ref a, .ref b] _ E0 hr.in1 I.env0.in1 (by
    have := hb s [.ref a, .ref b] I.kIn (by simpa using hl)
    simpa using this) r2 hsp) fun r s' hq => ?_)
  cases r with
  | error e => exact pass0 pins σ H s e s' I hq
  | ok fl =>
    cases fl with
    | ret w =>
      obtain ⟨z, H', I', rz, ⟨c, ez⟩, ex⟩ := I.after hq
      subst ez
      cases rz
      exact ⟨c, rfl, .bl (!c), H', I', rfl, ex c rfl⟩
    | next => exact False.elim hq
    | brk => exact False.elim hq
    | cont => exact False.elim hq
end
/-- what is known of a class's != -/
structure NeO (P : Program) (w : World) (K : Fg) (mg : Str → Option Value) (base : Heap) (C : Addr) (k : Nat) (g : List D → Option D) : Prop where
  eq : EqO P w K mg base C k g
  ne : PySem.W.findIn K (.ref C) "__ne__" = some (some (.builtin "object.__ne__"))
  ob : PySem.W.mroIn K C (.type "object") = some true
section
variable {X : Cx} {W : WX} {a b : Expr} {ta tb : TE} {oa ob : M Op} {pos : Pos}
theorem t_neO {K : Fg} {k j : Nat} {C : Addr} {g : List D → Option D} (h : NeO X.prog X.w X.K X.mg X.base C k g) (hr : Room j X.A) (ha : XO X W a ta oa) (hb : XO X W b tb ob) (hkj : k + 1 ≤ j := by decide) (hK : X.K = K := by rfl) : XT X W (.Compare a [.NotEq] [b] pos) (tTest (tOp (rOwnNe C (SpP K [.bo, .bo] g)) ta tb)) (mTest (m2 (neI C g) oa ob)) := by
  subst hK
  obtain ⟨f, fd, ps, h1, h2, h3, h4⟩ := h.eq.ex
  exact ⟨pt_cmpR (op_ownNe h4 (hr.mono hkj) h.ne h.ob h1 h2 h3) ha.p hb.p (nomark _), et_test (ev_2 prim_ownNe ha.v hb.v)⟩
end
/-! an item of a list, a tuple, a text or a dict -/
section
variable {X : Cx} {W : WX} {a b : Expr} {ta tb : TE} {oa ob : M Op} {pos : Pos}
end
end DL

set_option Elab.async false
set_option linter.all false
set_option maxRecDepth 100000
set_option maxHeartbeats 400000
/-! DLzk: defs by another name; a truth that is one. -/
namespace DL
open PySem L2
/-- a def of the top, y, by another name, x -/
structure DefA (K : Fg) (x y : Str) (st : Stmt) : Prop where
  ex : ∃ f fd, PySem.W.nsIn K mainGlobals x = some (some (.ref f)) ∧ Fun K y y st f fd ∧ PySem.W.keepIn K (.ref f) = true
section
variable {P : Program} {w : World} {K : Fg} {mg : Str → Option Value} {base h : Heap}
end
/-! a is True, a is False -/
section
variable {X : Cx} {W : WX} {a b : Expr} {ta tb : TE} {oa ob : M Op} {pos : Pos}
end
end DL

set_option Elab.async false
set_option linter.all false
set_option maxRecDepth 100000
set_option maxHeartbeats 400000
/-! DLzl: for a, b in zip(x, y), both lists or both tuples. -/
namespace DL
open PySem L2 RZ
section
variable {K : Fg} {W : WX}
end
end DL

set_option Elab.async false
set_option linter.all false
set_option maxRecDepth 100000
set_option maxHeartbeats 400000
/-! DLzm: a number or a text not in a tuple of texts; a list so many times. -/
namespace DL
open PySem L2
section
variable {X : Cx} {W : WX} {a b : Expr} {ta tb : TE} {oa ob : M Op} {pos : Pos}
end
end DL

set_option Elab.async false
set_option linter.all false
set_option maxRecDepth 100000
set_option maxHeartbeats 400000
/-! MAa: plain laws about what mirrors compute: loops, comprehensions. -/
namespace DL
open PySem L2
/-- a comprehension without a test, its element of the item alone -/
theorem lcL_map {α : Type} (enc f : α → D) (g : Mg) (e : M D) (vs : List Nat) (ω : En) : ∀ (as : List α) (acc : List D), (∀ a ∈ as, ∃ δ1 δ2, g (enc a) ω = some δ1 ∧ e δ1 = some (.ok (f a) δ2) ∧ wipeE δ2 vs = ω) →
    lcL g mYes e vs acc (as.map enc) ω = some (.ok (acc ++ as.map f) ω)
  | [], acc, _ => by rw [List.map_nil, List.map_nil, List.append_nil]; rfl
  | a :: as, acc, h => by
    obtain ⟨δ1, δ2, h1, h2, h3⟩ := h a List.mem_cons_self
    rw [List.map_cons]
    simp only [lcL, h1, mYes, M.ret, h2, h3]
    have := lcL_map enc f g e vs ω as (acc ++ [f a]) fun a' m => h a' (List.mem_cons_of_mem _ m)
    refine this.trans ?_
    rw [List.map_cons, List.append_assoc]
    rfl
theorem mLc_map {α : Type} {as : List α} {enc f : α → D} {it : M (List D)} {g : Mg} {e : M D} {vs : List Nat} {δ δ0 ω : En} (hit : it δ = some (.ok (as.map enc) δ0)) (hw : wipeE δ0 vs = ω)
    (h : ∀ a ∈ as, ∃ δ1 δ2, g (enc a) ω = some δ1 ∧ e δ1 = some (.ok (f a) δ2) ∧ wipeE δ2 vs = ω) : mLc it g mYes e vs δ = some (.ok (.lst (as.map f)) ω) := by
  unfold mLc M.bind
  simp only [hit, hw, lcL_map enc f g e vs ω as [] h, List.nil_append]
theorem blsOf_map {α : Type} (f : α → Bool) : ∀ as : List α, blsOf (as.map fun a => D.bl (f a)) = some (as.map f)
  | [] => rfl
  | a :: as => by simp [blsOf, blsOf_map f as]
theorem allD_map {α : Type} (f : α → Bool) (as : List α) : allD (.lst (as.map fun a => D.bl (f a))) = some (.bl (as.all f)) := by
  simp only [allD, blsOf_map, Option.map_some]
  congr 2
  induction as with
  | nil => rfl
  | cons a as ih => simp [ih]
end DL

set_option Elab.async false
set_option linter.all false
set_option maxRecDepth 100000
set_option maxHeartbeats 400000
/-! MAb: plain data (no truths, no objects): equality, membership, counts, sorting said by data alone. -/
namespace DL
open PySem L2
noncomputable instance : DecidableEq D := fun a b => Classical.propDecidable (a = b)
/-- data without truths, objects and dicts, of a depth -/
def Pl : Nat → D → Prop
  | _, .non => True
  | _, .int _ => True
  | _, .str x => PyData.strOk x = true
  | 0, _ => False
  | n + 1, .tup ds => ∀ d ∈ ds, Pl n d
  | n + 1, .lst ds => ∀ d ∈ ds, Pl n d
  | _ + 1, _ => False
theorem Pl.non {n : Nat} : Pl n .non := by cases n <;> simp [Pl]
theorem Pl.int {n : Nat} {i : Int} : Pl n (.int i) := by cases n <;> simp [Pl]
theorem Pl.str {n : Nat} {x : Str} (h : PyData.strOk x = true) : Pl n (.str x) := by cases n <;> simp [Pl, h]
theorem Pl.str_iff {n : Nat} {x : Str} : Pl n (.str x) ↔ PyData.strOk x = true := by cases n <;> simp [Pl]
theorem Pl.tup {n : Nat} {ds : List D} (h : ∀ d ∈ ds, Pl n d) : Pl (n + 1) (.tup ds) := by simpa [Pl] using h
theorem Pl.lst {n : Nat} {ds : List D} (h : ∀ d ∈ ds, Pl n d) : Pl (n + 1) (.lst ds) := by simpa [Pl] using h
theorem Pl.tup_iff {n : Nat} {ds : List D} : Pl (n + 1) (.tup ds) ↔ ∀ d ∈ ds, Pl n d := by simp [Pl]
theorem Pl.lst_iff {n : Nat} {ds : List D} : Pl (n + 1) (.lst ds) ↔ ∀ d ∈ ds, Pl n d := by simp [Pl]
theorem Pl.up : ∀ {n : Nat} {d : D}, Pl n d → Pl (n + 1) d
  | 0, d, h => by cases d <;> simp [Pl] at h ⊢; exact h
  | n + 1, d, h => by
    cases d <;> simp [Pl] at h ⊢
    · exact h
    · exact fun d hd => (h d hd).up
    · exact fun d hd => (h d hd).up
theorem Pl.mono {n m : Nat} {d : D} (h : Pl n d) (l : n ≤ m) : Pl m d := by
  induction l with
  | refl => exact h
  | step _ ih => exact ih.up
theorem toPys_enc : ∀ {ds : List D}, (∀ d ∈ ds, toPy d = some (encD d)) → toPys ds = some (ds.map encD)
  | [], _ => rfl
  | d :: ds, h => by
    have h1 := h d List.mem_cons_self
    have h2 := toPys_enc (ds := ds) fun e he => h e (List.mem_cons_of_mem _ he)
    simp only [toPys, h1, h2, List.map_cons]
theorem canLayAll {ps : List PyData} : (∀ p ∈ ps, p.canLay0 = true) → PyData.canLayAll0 ps = true := by
  induction ps with
  | nil => intro; simp [PyData.canLayAll0]
  | cons p ps ih => intro h; simp [PyData.canLayAll0, h p List.mem_cons_self, ih fun q hq => h q (List.mem_cons_of_mem _ hq)]
theorem depthAll_le {ps : List PyData} {n : Nat} : (∀ p ∈ ps, p.depth ≤ n) → PyData.depthAll ps ≤ n := by
  induction ps with
  | nil => intro; simp [PyData.depthAll]
  | cons p ps ih => intro h; rw [PyData.depthAll]; exact Nat.max_le.mpr ⟨h p List.mem_cons_self, ih fun q hq => h q (List.mem_cons_of_mem _ hq)⟩
theorem Pl.enc : ∀ {n : Nat} {d : D}, Pl n d → toPy d = some (encD d) ∧ (encD d).canLay0 = true ∧ (encD d).depth ≤ n
  | n, .non, _ => ⟨rfl, by simp [encD, toPy, PyData.canLay0], by simp [encD, toPy, PyData.depth]⟩
  | n, .int i, _ => ⟨rfl, by simp [encD, toPy, PyData.canLay0], by simp [encD, toPy, PyData.depth]⟩
  | n, .str x, h => ⟨rfl, by simp [encD, toPy, PyData.canLay0, Pl.str_iff.mp h], by simp [encD, toPy, PyData.depth]⟩
  | n + 1, .tup ds, h => by
    have h := Pl.tup_iff.mp h
    have e := toPys_enc fun d hd => (h d hd).enc.1
    have e1 : encD (.tup ds) = .tuple (ds.map encD) := by simp [encD, toPy, e]
    refine ⟨by rw [e1]; simp [toPy, e], ?_, ?_⟩
    · rw [e1]; simp only [PyData.canLay0]; exact canLayAll fun p hp => by obtain ⟨d, hd, rfl⟩ := List.mem_map.mp hp; exact (h d hd).enc.2.1
    · rw [e1]; simp only [PyData.depth]; exact Nat.succ_le_succ (depthAll_le fun p hp => by obtain ⟨d, hd, rfl⟩ := List.mem_map.mp hp; exact (h d hd).enc.2.2)
  | n + 1, .lst ds, h => by
    have h := Pl.lst_iff.mp h
    have e := toPys_enc fun d hd => (h d hd).enc.1
    have e1 : encD (.lst ds) = .list (ds.map encD) := by simp [encD, toPy, e]
    refine ⟨by rw [e1]; simp [toPy, e], ?_, ?_⟩
    · rw [e1]; simp only [PyData.canLay0]; exact canLayAll fun p hp => by obtain ⟨d, hd, rfl⟩ := List.mem_map.mp hp; exact (h d hd).enc.2.1
    · rw [e1]; simp only [PyData.depth]; exact Nat.succ_le_succ (depthAll_le fun p hp => by obtain ⟨d, hd, rfl⟩ := List.mem_map.mp hp; exact (h d hd).enc.2.2)
  | 0, .bl _, h => by simp [Pl] at h
  | n + 1, .bl _, h => by simp [Pl] at h
  | 0, .ins _ _ _, h => by simp [Pl] at h
  | n + 1, .ins _ _ _, h => by simp [Pl] at h
  | 0, .dk _ _, h => by simp [Pl] at h
  | n + 1, .dk _ _, h => by simp [Pl] at h
  | 0, .dn _ _ _, h => by simp [Pl] at h
  | n + 1, .dn _ _ _, h => by simp [Pl] at h
  | 0, .fn _, h => by simp [Pl] at h
  | n + 1, .fn _, h => by simp [Pl] at h
  | 0, .tup _, h => by simp [Pl] at h
  | 0, .lst _, h => by simp [Pl] at h
theorem encD_tup {n : Nat} {ds : List D} (h : ∀ d ∈ ds, Pl n d) : encD (.tup ds) = .tuple (ds.map encD) := by
  simp [encD, toPy, toPys_enc fun d hd => (h d hd).enc.1]
theorem encD_lst {n : Nat} {ds : List D} (h : ∀ d ∈ ds, Pl n d) : encD (.lst ds) = .list (ds.map encD) := by
  simp [encD, toPy, toPys_enc fun d hd => (h d hd).enc.1]
theorem eqvAll_iff : ∀ {ds es : List D}, (∀ d ∈ ds, ∀ e ∈ es, (PyData.eqv (encD d) (encD e) = true ↔ d = e)) → (PyData.eqvAll (ds.map encD) (es.map encD) = true ↔ ds = es)
  | [], [], _ => by simp [PyData.eqvAll]
  | [], e :: es, _ => by simp [PyData.eqvAll]
  | d :: ds, [], _ => by simp [PyData.eqvAll]
  | d :: ds, e :: es, h => by
    have h1 := h d List.mem_cons_self e List.mem_cons_self
    have h2 := eqvAll_iff (ds := ds) (es := es) fun x hx y hy => h x (List.mem_cons_of_mem _ hx) y (List.mem_cons_of_mem _ hy)
    simp [PyData.eqvAll, h1, h2]
theorem Pl.eqv : ∀ {n : Nat} {d e : D}, Pl n d → Pl n e → (PyData.eqv (encD d) (encD e) = true ↔ d = e)
  | 0, d, e, hd, he => by
    cases d <;> simp [Pl] at hd <;> cases e <;> simp [Pl] at he <;> simp [encD, toPy, PyData.eqv]
  | n + 1, d, e, hd, he => by
    cases d <;> simp [Pl] at hd <;> cases e <;> simp [Pl] at he <;> (try rw [encD_tup hd]) <;> (try rw [encD_lst hd]) <;> (try rw [encD_tup he]) <;> (try rw [encD_lst he]) <;> (try simp [encD, toPy, PyData.eqv])
    · exact eqvAll_iff fun x hx y hy => Pl.eqv (hd x hx) (he y hy)
    · exact eqvAll_iff fun x hx y hy => Pl.eqv (hd x hx) (he y hy)
theorem Pl.shaped {n : Nat} {d : D} (h : Pl n d) (hn : n ≤ 64) : SeqAt.shaped (encD d) = true := by
  have := h.enc
  simp only [SeqAt.shaped, this.2.1, Bool.true_and, decide_eq_true_eq]
  omega
theorem eqvB {n : Nat} {d e : D} (hd : Pl n d) (he : Pl n e) : PyData.eqv (encD d) (encD e) = decide (d = e) := by
  rw [Bool.eq_iff_iff, hd.eqv he, decide_eq_true_iff]
theorem pyEq_pl {n : Nat} {d e : D} (hn : n ≤ 64) (hd : Pl n d) (he : Pl n e) : pyEq d e = some (decide (d = e)) := by
  simp only [pyEq, hd.enc.1, he.enc.1, hd.shaped hn, he.shaped hn, Bool.and_self, if_true, eqvB hd he]
theorem eqD_pl (n : Nat) {d e : D} (hd : Pl n d) (he : Pl n e) (hn : n ≤ 64 := by decide) : eqD d e = some (.bl (decide (d = e))) := by
  simp only [eqD, pyEq_pl hn hd he, Option.map_some]
theorem neD_pl (n : Nat) {d e : D} (hd : Pl n d) (he : Pl n e) (hn : n ≤ 64 := by decide) : neD d e = some (.bl (!decide (d = e))) := by
  simp only [neD, pyEq_pl hn hd he, Option.map_some]
theorem any_eqv {n : Nat} {d : D} {es : List D} (hd : Pl n d) (he : ∀ e ∈ es, Pl n e) : ((es.map encD).any fun z => PyData.eqv z (encD d)) = decide (d ∈ es) := by
  rw [Bool.eq_iff_iff, List.any_map, List.any_eq_true, decide_eq_true_iff]
  constructor
  · rintro ⟨e, h1, h2⟩
    have := ((he e h1).eqv hd).mp h2
    exact this ▸ h1
  · intro h
    exact ⟨d, h, (hd.eqv hd).mpr rfl⟩
theorem inLD_pl (n : Nat) (neg : Bool) {d : D} {es : List D} (hd : Pl n d) (he : ∀ e ∈ es, Pl n e) (hn : n ≤ 60 := by decide) : inLD neg d (.lst es) = some (.bl (xor neg (decide (d ∈ es)))) := by
  have h1 := toPys_enc fun e h => (he e h).enc.1
  have h2 : SeqAt.shaped (.list (es.map encD)) = true := by
    have := (Pl.lst he).shaped (by omega)
    rwa [encD_lst he] at this
  simp only [inLD, hd.enc.1, h1, hd.shaped (by omega), h2, Bool.and_self, if_true, any_eqv hd he]
end DL

set_option Elab.async false
set_option linter.all false
set_option maxRecDepth 100000
set_option maxHeartbeats 400000
/-! ME: mirrors evaluated step by step: each word applied to an environment, by words over what its first part came to. `simp_arith only [..]` runs a mirror. -/
namespace DL
open PySem L2
section
variable {α β : Type}
def bK (f : α → M β) : Option (R α) → Option (R β)
  | some (.ok a δ) => f a δ
  | some (.ex x δ) => some (.ex x δ)
  | none => none
theorem bind_e (m : M α) (f : α → M β) (δ : En) : M.bind m f δ = bK f (m δ) := by unfold M.bind bK; rcases m δ with _ | (_ | _) <;> rfl
def liftK (o : Option α) (δ : En) : Option (R α) := match o with
  | some a => some (.ok a δ)
  | none => none
theorem lift_e (o : Option α) (δ : En) : M.lift o δ = liftK o δ := (rfl)
theorem liftK_s (a : α) (δ : En) : liftK (some a) δ = some (.ok a δ) := (rfl)
def sK (k : α → Ms) : Option (R α) → Option Ou
  | some (.ok a δ) => k a δ
  | some (.ex x δ) => some (.ex x δ)
  | none => none
theorem mS_e (m : M α) (k : α → Ms) (δ : En) : mS m k δ = sK k (m δ) := by unfold mS sK; rcases m δ with _ | (_ | _) <;> rfl
end
theorem mC_e (d : D) (δ : En) : mC d δ = some (.ok d δ) := (rfl)
def varK (i : Nat) (δ : En) : Option Sl → Option (R D)
  | some (.fr d) => some (.ok d δ)
  | some (.ow d) => some (.ok d (δ.set i (.fr d)))
  | _ => none
theorem mVar_e (i : Nat) (δ : En) : mVar i δ = varK i δ δ[i]? := (rfl)
def ovK (i : Nat) (δ : En) : Option Sl → Option (R Op)
  | some (.fr _) => some (.ok (.slot i) δ)
  | some (.bo _) => some (.ok (.slot i) δ)
  | some (.ow _) => some (.ok (.slot i) δ)
  | some (.io _) => some (.ok (.slot i) δ)
  | _ => none
theorem mOv_e (i : Nat) (δ : En) : mOv i δ = ovK i δ δ[i]? := by unfold mOv ovK; rcases δ[i]? with _ | s <;> first | rfl | (cases s <;> rfl)
def valK : Option (R D) → Option (R Op)
  | some (.ok d δ) => some (.ok (.val d) δ)
  | some (.ex x δ) => some (.ex x δ)
  | none => none
theorem mVal_e (m : M D) (δ : En) : mVal m δ = valK (m δ) := by unfold mVal M.bind valK M.ret; rcases m δ with _ | (_ | _) <;> rfl
def datK : Option Sl → Option D
  | some (.fr d) => some d
  | some (.bo d) => some d
  | some (.ow d) => some d
  | some (.io d) => some d
  | _ => none
theorem rd_v (d : D) (δ : En) : rd (.val d) δ = some d := (rfl)
theorem rd_s (i : Nat) (δ : En) : rd (.slot i) δ = datK δ[i]? := by show (match δ[i]? with | some s => s.dat | none => none) = _; unfold datK; rcases δ[i]? with _ | s <;> first | rfl | (cases s <;> rfl)
theorem mRd_e (o : Op) (δ : En) : mRd o δ = liftK (rd o δ) δ := by unfold mRd liftK; cases rd o δ <;> rfl
def m1L (f : D → Option D) (δ : En) : Option D → Option (R D)
  | some d => liftK (f d) δ
  | none => none
def m1K (f : D → Option D) : Option (R Op) → Option (R D)
  | some (.ok o δ) => m1L f δ (rd o δ)
  | some (.ex x δ) => some (.ex x δ)
  | none => none
theorem m1_e (f : D → Option D) (a : M Op) (δ : En) : m1 f a δ = m1K f (a δ) := by
  unfold m1 m1K
  rw [bind_e]
  rcases a δ with _ | (⟨o, δ'⟩ | _) <;> first | rfl | skip
  simp only [bK, bind_e, mRd]
  unfold m1L
  cases rd o δ' <;> rfl
theorem m1K_o (f : D → Option D) (o : Op) (δ : En) : m1K f (some (.ok o δ)) = m1L f δ (rd o δ) := (rfl)
theorem m1L_s (f : D → Option D) (d : D) (δ : En) : m1L f δ (some d) = liftK (f d) δ := (rfl)
def m2K (f : D → D → Option D) (b : M Op) : Option (R Op) → Option (R D) := bK fun o => b.bind fun q => (mRd o).bind fun d => (mRd q).bind fun e => M.lift (f d e)
def m2L (f : D → D → Option D) (o : Op) : Option (R Op) → Option (R D) := bK fun q => (mRd o).bind fun d => (mRd q).bind fun e => M.lift (f d e)
def m2N (f : D → D → Option D) (δ : En) : Option D → Option D → Option (R D)
  | some d, some e => liftK (f d e) δ
  | _, _ => none
theorem m2_e (f : D → D → Option D) (a b : M Op) (δ : En) : m2 f a b δ = m2K f b (a δ) := by unfold m2 m2K; rw [bind_e]
theorem m2K_o (f : D → D → Option D) (b : M Op) (o : Op) (δ : En) : m2K f b (some (.ok o δ)) = m2L f o (b δ) := by unfold m2K m2L; simp only [bK, bind_e]
theorem m2L_o (f : D → D → Option D) (o q : Op) (δ : En) : m2L f o (some (.ok q δ)) = m2N f δ (rd o δ) (rd q δ) := by
  unfold m2L m2N
  simp only [bK, bind_e, mRd_e, lift_e]
  cases h1 : rd o δ <;> cases h2 : rd q δ <;> simp only [h1, h2, bK, liftK, bind_e, mRd_e, lift_e]
theorem m2N_s (f : D → D → Option D) (d e : D) (δ : En) : m2N f δ (some d) (some e) = liftK (f d e) δ := (rfl)
def lstM : Option (List D) → Option D := Option.map D.lst
theorem lstM_s (ds : List D) : lstM (some ds) = some (.lst ds) := (rfl)
theorem mn1_e (f : D → Option (List D)) (a : M Op) (δ : En) : mn1 f a δ = m1K (fun d => lstM (f d)) (a δ) := m1_e (fun d => lstM (f d)) a δ
theorem mn2_e (f : D → D → Option (List D)) (a b : M Op) (δ : En) : mn2 f a b δ = m2K (fun d e => lstM (f d e)) b (a δ) := m2_e (fun d e => lstM (f d e)) a b δ
/-! arguments -/
theorem maNil_e (δ : En) : maNil δ = some (.ok [] δ) := (rfl)
def acK (b : M (List Op)) : Option (R Op) → Option (R (List Op)) := bK fun o => b.bind fun os => M.ret (o :: os)
def acL (o : Op) : Option (R (List Op)) → Option (R (List Op))
  | some (.ok os δ) => some (.ok (o :: os) δ)
  | some (.ex x δ) => some (.ex x δ)
  | none => none
theorem maCons_e (a : M Op) (b : M (List Op)) (δ : En) : maCons a b δ = acK b (a δ) := by unfold maCons acK; rw [bind_e]
theorem acK_o (b : M (List Op)) (o : Op) (δ : En) : acK b (some (.ok o δ)) = acL o (b δ) := by unfold acK acL; simp only [bK, M.bind, M.ret]; rcases b δ with _ | (_ | _) <;> rfl
theorem mdNil_e (δ : En) : mdNil δ = some (.ok [] δ) := (rfl)
def dcK (b : M (List D)) : Option (R D) → Option (R (List D)) := bK fun o => b.bind fun os => M.ret (o :: os)
def dcL (o : D) : Option (R (List D)) → Option (R (List D))
  | some (.ok os δ) => some (.ok (o :: os) δ)
  | some (.ex x δ) => some (.ex x δ)
  | none => none
theorem mdCons_e (a : M D) (b : M (List D)) (δ : En) : mdCons a b δ = dcK b (a δ) := by unfold mdCons dcK; rw [bind_e]
theorem dcK_o (b : M (List D)) (o : D) (δ : En) : dcK b (some (.ok o δ)) = dcL o (b δ) := by unfold dcK dcL; simp only [bK, M.bind, M.ret]; rcases b δ with _ | (_ | _) <;> rfl
def consO : Option D → Option (List D) → Option (List D)
  | some d, some ds => some (d :: ds)
  | _, _ => none
theorem rds_n (δ : En) : rds [] δ = some [] := (rfl)
theorem rds_c (o : Op) (os : List Op) (δ : En) : rds (o :: os) δ = consO (rd o δ) (rds os δ) := (rfl)
theorem consO_s (d : D) (ds : List D) : consO (some d) (some ds) = some (d :: ds) := (rfl)
def aK (f : List D → Option D) : Option (R (List Op)) → Option (R D) := bK fun os => (mRds os).bind fun ds => M.lift (f ds)
def aL (f : List D → Option D) (δ : En) : Option (List D) → Option (R D)
  | some ds => liftK (f ds) δ
  | none => none
theorem mA_e (f : List D → Option D) (a : M (List Op)) (δ : En) : mA f a δ = aK f (a δ) := by unfold mA aK; rw [bind_e]
theorem mnA_e (f : List D → Option (List D)) (a : M (List Op)) (δ : En) : mnA f a δ = aK (fun ds => lstM (f ds)) (a δ) := mA_e (fun ds => lstM (f ds)) a δ
theorem aK_o (f : List D → Option D) (os : List Op) (δ : En) : aK f (some (.ok os δ)) = aL f δ (rds os δ) := by unfold aK aL; simp only [bK, M.bind, mRds]; cases rds os δ <;> rfl
theorem aL_s (f : List D → Option D) (ds : List D) (δ : En) : aL f δ (some ds) = liftK (f ds) δ := (rfl)
theorem fA1_e (f : D → Option D) (d : D) : fA1 f [d] = f d := (rfl)
theorem fN1_e (f : D → Option (List D)) (d : D) : fN1 f [d] = f d := (rfl)
def tupK : Option (R (List D)) → Option (R D)
  | some (.ok ds δ) => if ds.length ≤ LB then some (.ok (.tup ds) δ) else none
  | some (.ex x δ) => some (.ex x δ)
  | none => none
theorem mTup_e (a : M (List D)) (δ : En) : mTup a δ = tupK (a δ) := by unfold mTup M.bind tupK M.lift; rcases a δ with _ | (⟨ds, _⟩ | _) <;> first | rfl | (by_cases h : ds.length ≤ LB <;> simp [h])
def lstK : Option (R (List D)) → Option (R D)
  | some (.ok ds δ) => if ds.length ≤ LB then some (.ok (.lst ds) δ) else none
  | some (.ex x δ) => some (.ex x δ)
  | none => none
theorem mLst_e (a : M (List D)) (δ : En) : mLst a δ = lstK (a δ) := by unfold mLst M.bind lstK M.lift; rcases a δ with _ | (⟨ds, _⟩ | _) <;> first | rfl | (by_cases h : ds.length ≤ LB <;> simp [h])
/-! tests -/
def testK : Option (R D) → Option (R Bool)
  | some (.ok (.bl b) δ) => some (.ok b δ)
  | some (.ex x δ) => some (.ex x δ)
  | _ => none
theorem mTest_e (m : M D) (δ : En) : mTest m δ = testK (m δ) := by unfold mTest M.bind testK M.lift; rcases m δ with _ | (⟨d, _⟩ | _) <;> first | rfl | (cases d <;> rfl)
def notK : Option (R Bool) → Option (R Bool)
  | some (.ok b δ) => some (.ok (!b) δ)
  | some (.ex x δ) => some (.ex x δ)
  | none => none
theorem mNot_e (m : M Bool) (δ : En) : mNot m δ = notK (m δ) := by unfold mNot M.bind notK M.ret; rcases m δ with _ | (_ | _) <;> rfl
def andK (b : M Bool) : Option (R Bool) → Option (R Bool)
  | some (.ok true δ) => b δ
  | some (.ok false δ) => some (.ok false δ)
  | some (.ex x δ) => some (.ex x δ)
  | none => none
theorem mAnd_e (a b : M Bool) (δ : En) : mAnd a b δ = andK b (a δ) := by unfold mAnd M.bind andK M.ret; rcases a δ with _ | (⟨k, _⟩ | _) <;> first | rfl | (cases k <;> rfl)
def orK (b : M Bool) : Option (R Bool) → Option (R Bool)
  | some (.ok false δ) => b δ
  | some (.ok true δ) => some (.ok true δ)
  | some (.ex x δ) => some (.ex x δ)
  | none => none
theorem mOr_e (a b : M Bool) (δ : En) : mOr a b δ = orK b (a δ) := by unfold mOr M.bind orK M.ret; rcases a δ with _ | (⟨k, _⟩ | _) <;> first | rfl | (cases k <;> rfl)
def andvK (b : M D) : Option (R D) → Option (R D)
  | some (.ok (.bl true) δ) => b δ
  | some (.ok (.bl false) δ) => some (.ok (.bl false) δ)
  | some (.ex x δ) => some (.ex x δ)
  | _ => none
theorem mAndV_e (a b : M D) (δ : En) : mAndV a b δ = andvK b (a δ) := by
  unfold mAndV M.bind andvK M.ret
  rcases a δ with _ | (⟨k, _⟩ | _) <;> first | rfl | (cases k <;> first | rfl | skip)
  rename_i b' ; cases b' <;> rfl
def orvK (b : M D) : Option (R D) → Option (R D)
  | some (.ok (.bl false) δ) => b δ
  | some (.ok (.bl true) δ) => some (.ok (.bl true) δ)
  | some (.ex x δ) => some (.ex x δ)
  | _ => none
theorem mOrV_e (a b : M D) (δ : En) : mOrV a b δ = orvK b (a δ) := by
  unfold mOrV M.bind orvK M.ret
  rcases a δ with _ | (⟨k, _⟩ | _) <;> first | rfl | (cases k <;> first | rfl | skip)
  rename_i b' ; cases b' <;> rfl
def notvK : Option (R D) → Option (R D)
  | some (.ok (.bl b) δ) => some (.ok (.bl (!b)) δ)
  | some (.ex x δ) => some (.ex x δ)
  | _ => none
theorem mNotV_e (a : M D) (δ : En) : mNotV a δ = notvK (a δ) := by unfold mNotV M.bind notvK M.lift; rcases a δ with _ | (⟨d, _⟩ | _) <;> first | rfl | (cases d <;> rfl)
def ifeK (a b : M D) : Option (R Bool) → Option (R D)
  | some (.ok true δ) => a δ
  | some (.ok false δ) => b δ
  | some (.ex x δ) => some (.ex x δ)
  | none => none
theorem mIfE_e (c : M Bool) (a b : M D) (δ : En) : mIfE c a b δ = ifeK a b (c δ) := by unfold mIfE M.bind ifeK; rcases c δ with _ | (⟨k, _⟩ | _) <;> first | rfl | (cases k <;> rfl)
def chN (g : D → D → Option D) (q : Op) (c : M Op) (δ : En) : Option D → Option (R D)
  | some (.bl true) => m2K (fun e y => g e y) c (some (.ok q δ))
  | some (.bl false) => some (.ok (.bl false) δ)
  | _ => none
def chM (f g : D → D → Option D) (q : Op) (c : M Op) (δ : En) : Option D → Option D → Option (R D)
  | some d, some e => chN g q c δ (f d e)
  | _, _ => none
def chL (f g : D → D → Option D) (o : Op) (c : M Op) : Option (R Op) → Option (R D)
  | some (.ok q δ) => chM f g q c δ (rd o δ) (rd q δ)
  | some (.ex x δ) => some (.ex x δ)
  | none => none
def chK (f g : D → D → Option D) (b c : M Op) : Option (R Op) → Option (R D)
  | some (.ok o δ) => chL f g o c (b δ)
  | some (.ex x δ) => some (.ex x δ)
  | none => none
theorem mChain_e (f g : D → D → Option D) (a b c : M Op) (δ : En) : mChain f g a b c δ = chK f g b c (a δ) := by
  unfold mChain chK
  rw [bind_e]
  rcases a δ with _ | (⟨o, δ1⟩ | _) <;> first | rfl | skip
  simp only [bK, bind_e]
  unfold chL
  rcases b δ1 with _ | (⟨q, δ2⟩ | _) <;> first | rfl | skip
  simp only [bK, mRd]
  unfold chM
  cases rd o δ2 with
  | none => rfl
  | some d =>
    simp only [bK, bind_e, mRd]
    cases rd q δ2 with
    | none => rfl
    | some e =>
      simp only [bK, bind_e, lift_e]
      cases f d e with
      | none => rfl
      | some z =>
        simp only [liftK, bK]
        cases z <;> first | rfl | skip
        rename_i k
        cases k <;> first | rfl | skip
        try simp only [chN, m2K, bK, bind_e]
/-! statements -/
theorem mNext_e (δ : En) : mNext δ = some (.nx δ) := (rfl)
def seqK (b : Ms) : Option Ou → Option Ou
  | some (.nx δ) => b δ
  | some (.rt d δ) => some (.rt d δ)
  | some (.rn d δ) => some (.rn d δ)
  | some (.bk δ) => some (.bk δ)
  | some (.ct δ) => some (.ct δ)
  | some (.ex x δ) => some (.ex x δ)
  | none => none
theorem mSeq_e (a b : Ms) (δ : En) : mSeq a b δ = seqK b (a δ) := by unfold mSeq seqK; rcases a δ with _ | o <;> first | rfl | (cases o <;> rfl)
def ifK (a b : Ms) : Option (R Bool) → Option Ou
  | some (.ok true δ) => a δ
  | some (.ok false δ) => b δ
  | some (.ex x δ) => some (.ex x δ)
  | none => none
theorem mIf_e (c : M Bool) (a b : Ms) (δ : En) : mIf c a b δ = ifK a b (c δ) := by unfold mIf mS ifK; rcases c δ with _ | (⟨k, _⟩ | _) <;> first | rfl | (cases k <;> rfl)
def retK : Option (R D) → Option Ou
  | some (.ok d δ) => some (.rt d δ)
  | some (.ex x δ) => some (.ex x δ)
  | none => none
theorem mRet_e (m : M D) (δ : En) : mRet m δ = retK (m δ) := by unfold mRet mS retK; rcases m δ with _ | (_ | _) <;> rfl
def retwK : Option (R D) → Option Ou
  | some (.ok d δ) => some (.rn d δ)
  | some (.ex x δ) => some (.ex x δ)
  | none => none
theorem mRetW_e (m : M D) (δ : En) : mRetW m δ = retwK (m δ) := by unfold mRetW mS retwK; rcases m δ with _ | (_ | _) <;> rfl
def retoK (δ : En) : Option Sl → Option Ou
  | some (.ow d) => some (.rn d δ)
  | _ => none
theorem mRetO_e (i : Nat) (δ : En) : mRetO i δ = retoK δ δ[i]? := (rfl)
def dropK : Option (R D) → Option Ou
  | some (.ok _ δ) => some (.nx δ)
  | some (.ex x δ) => some (.ex x δ)
  | none => none
theorem mDrop_e (m : M D) (δ : En) : mDrop m δ = dropK (m δ) := by unfold mDrop mS dropK; rcases m δ with _ | (_ | _) <;> rfl
def nxK : Option En → Option Ou
  | some δ => some (.nx δ)
  | none => none
def asgK (g : Mg) : Option (R D) → Option Ou
  | some (.ok d δ) => nxK (g d δ)
  | some (.ex x δ) => some (.ex x δ)
  | none => none
theorem mAsg_e (g : Mg) (m : M D) (δ : En) : mAsg g m δ = asgK g (m δ) := by unfold mAsg mS asgK nxK; rcases m δ with _ | (⟨d, δ'⟩ | _) <;> first | rfl | (simp only []; cases g d δ' <;> rfl)
def asgoK (i : Nat) : Option (R D) → Option Ou
  | some (.ok d δ) => some (.nx (δ.set i (.ow d)))
  | some (.ex x δ) => some (.ex x δ)
  | none => none
theorem mAsgO_e (i : Nat) (m : M D) (δ : En) : mAsgO i m δ = asgoK i (m δ) := by unfold mAsgO mS asgoK; rcases m δ with _ | (_ | _) <;> rfl
def parK (i j : Nat) : Option (R (List D)) → Option Ou
  | some (.ok [a, b] δ) => some (.nx ((δ.set i (.fr a)).set j (.fr b)))
  | some (.ex x δ) => some (.ex x δ)
  | _ => none
theorem mPar_e (i j : Nat) (m : M (List D)) (δ : En) : mPar i j m δ = parK i j (m δ) := by
  unfold mPar mS parK
  rcases m δ with _ | (⟨ds, δ'⟩ | _) <;> first | rfl | skip
  match ds with
  | [] => rfl
  | [_] => rfl
  | [_, _] => rfl
  | _ :: _ :: _ :: _ => rfl
theorem gN_e (i : Nat) (d : D) (δ : En) : gN i d δ = some (δ.set i (.fr d)) := (rfl)
theorem gs0_e (δ : En) : gs0 [] δ = some δ := (rfl)
def gscK (b : List D → En → Option En) (r : List D) : Option En → Option En
  | some δ => b r δ
  | none => none
theorem gsC_e (a : Mg) (b : List D → En → Option En) (d : D) (r : List D) (δ : En) : gsC a b (d :: r) δ = gscK b r (a d δ) := by show (match a d δ with | some δ' => b r δ' | none => none) = _; unfold gscK; cases a d δ <;> rfl
theorem gT_e (m : List D → En → Option En) (ds : List D) (δ : En) : gT m (.tup ds) δ = m ds δ := (rfl)
theorem gTL_e (m : List D → En → Option En) (ds : List D) (δ : En) : gTL m (.lst ds) δ = m ds δ := (rfl)
def itK (f : List D → Option (List D)) : Option (R (List D)) → Option (R (List D))
  | some (.ok as δ) => liftK (f as) δ
  | some (.ex x δ) => some (.ex x δ)
  | none => none
theorem mIt_e (f : List D → Option (List D)) (m : M (List D)) (δ : En) : mIt f m δ = itK f (m δ) := by unfold mIt M.bind itK; rcases m δ with _ | (_ | _) <;> rfl
def sqK : Option (R D) → Option (R (List D))
  | some (.ok (.lst ds) δ) => some (.ok ds δ)
  | some (.ex x δ) => some (.ex x δ)
  | _ => none
theorem mSeqOf_e (m : M D) (δ : En) : mSeqOf m δ = sqK (m δ) := by unfold mSeqOf M.bind sqK M.lift; rcases m δ with _ | (⟨d, _⟩ | _) <;> first | rfl | (cases d <;> rfl)
def tqK : Option (R D) → Option (R (List D))
  | some (.ok (.tup ds) δ) => some (.ok ds δ)
  | some (.ex x δ) => some (.ex x δ)
  | _ => none
theorem mTupOf_e (m : M D) (δ : En) : mTupOf m δ = tqK (m δ) := by unfold mTupOf M.bind tqK M.lift; rcases m δ with _ | (⟨d, _⟩ | _) <;> first | rfl | (cases d <;> rfl)
def sbK (i : Nat) (δ : En) : Option Sl → Option (R (List D))
  | some (.bo (.lst ds)) => some (.ok ds δ)
  | some (.fr (.lst ds)) => some (.ok ds δ)
  | some (.ow (.lst ds)) => some (.ok ds (δ.set i (.fr (.lst ds))))
  | _ => none
theorem mSeqB_e (i : Nat) (δ : En) : mSeqB i δ = sbK i δ δ[i]? := by
  unfold mSeqB sbK
  cases h : δ[i]? with
  | none => simp only [mSeqOf_e, mVar_e, h, varK, sqK]
  | some s => cases s with
    | bo d => cases d <;> rfl
    | fr d => simp only [mSeqOf_e, mVar_e, h, varK]; cases d <;> rfl
    | ow d => simp only [mSeqOf_e, mVar_e, h, varK]; cases d <;> rfl
    | _ => simp only [mSeqOf_e, mVar_e, h, varK, sqK]
def enK (i : Nat) (δ : En) : Option Sl → Option (R (List D))
  | some (.bo (.lst ds)) => some (.ok (enumD ds) δ)
  | some (.fr (.lst ds)) => some (.ok (enumD ds) δ)
  | some (.fr (.tup ds)) => some (.ok (enumD ds) δ)
  | some (.ow (.lst ds)) => some (.ok (enumD ds) (δ.set i (.fr (.lst ds))))
  | some (.ow (.tup ds)) => some (.ok (enumD ds) (δ.set i (.fr (.tup ds))))
  | _ => none
theorem mEnumB_e (i : Nat) (δ : En) : mEnumB i δ = enK i δ δ[i]? := by
  unfold mEnumB enK
  cases h : δ[i]? with
  | none => simp only [mIt_e, mdCons_e, mVar_e, h, varK, dcK, bK, itK]
  | some s => cases s with
    | bo d => cases d <;> rfl
    | fr d => simp only [mIt_e, mdCons_e, mVar_e, h, varK, dcK_o, mdNil_e, dcL, itK]; cases d <;> rfl
    | ow d => simp only [mIt_e, mdCons_e, mVar_e, h, varK, dcK_o, mdNil_e, dcL, itK]; cases d <;> rfl
    | _ => simp only [mIt_e, mdCons_e, mVar_e, h, varK, dcK, bK, itK]
def forK (g : Mg) (b : Ms) : Option (R (List D)) → Option Ou
  | some (.ok ds δ) => forL g b ds δ
  | some (.ex x δ) => some (.ex x δ)
  | none => none
theorem mFor_e (it : M (List D)) (g : Mg) (b : Ms) (δ : En) : mFor it g b δ = forK g b (it δ) := by unfold mFor mS forK; rcases it δ with _ | (_ | _) <;> rfl
def flL (g : Mg) (b : Ms) (ds : List D) : Option Ou → Option Ou
  | some (.nx δ) => forL g b ds δ
  | some (.ct δ) => forL g b ds δ
  | some (.bk δ) => some (.nx δ)
  | some (.rt d δ) => some (.rt d δ)
  | some (.rn d δ) => some (.rn d δ)
  | some (.ex x δ) => some (.ex x δ)
  | none => none
def flK (g : Mg) (b : Ms) (ds : List D) : Option En → Option Ou
  | some δ => flL g b ds (b δ)
  | none => none
theorem forL_n (g : Mg) (b : Ms) (δ : En) : forL g b [] δ = some (.nx δ) := (rfl)
theorem forL_c (g : Mg) (b : Ms) (d : D) (ds : List D) (δ : En) : forL g b (d :: ds) δ = flK g b ds (g d δ) := by
  unfold forL flK flL
  rcases g d δ with _ | δ1
  · rfl
  · simp only []
    rcases b δ1 with _ | o <;> first | rfl | (cases o <;> rfl)
/-! calls -/
def cpL (ks : List PK) (g : List D → Option D) (os : List Op) (δ : En) : Option (List D) → Option (R D)
  | some ds => if frOk ks os then liftK (g ds) δ else none
  | none => none
def cpK (ks : List PK) (g : List D → Option D) : Option (R (List Op)) → Option (R D)
  | some (.ok os δ) => cpL ks g os δ (rds os δ)
  | some (.ex x δ) => some (.ex x δ)
  | none => none
theorem mCallP_e (ks : List PK) (g : List D → Option D) (a : M (List Op)) (δ : En) : mCallP ks g a δ = cpK ks g (a δ) := by
  unfold mCallP cpK
  rw [bind_e]
  rcases a δ with _ | (⟨os, δ1⟩ | _) <;> first | rfl | skip
  simp only [bK, bind_e, mRds]
  cases rds os δ1 <;> first | rfl | skip
  simp only [bK, cpL]
  rename_i ds
  cases g ds <;> rfl
theorem mCallN_e (ks : List PK) (g : List D → Option D) (a : M (List Op)) (δ : En) : mCallN ks g a δ = cpK ks g (a δ) := mCallP_e ks g a δ
def ownO (δ : En) (i : Nat) : Option (Sl × D) := match δ[i]? with
  | some (.ow d) => some (.ow d, d)
  | some (.io d) => some (.io d, d)
  | _ => none
def ownK : Option Sl → Option (Sl × D)
  | some (.ow d) => some (.ow d, d)
  | some (.io d) => some (.io d, d)
  | _ => none
theorem ownO_e (δ : En) (i : Nat) : ownO δ i = ownK δ[i]? := (rfl)
def ciM (i : Nat) (δ : En) (s : Sl) : Option (D × D) → Option (R D)
  | some p => some (.ok p.1 (δ.set i (reown s p.2)))
  | none => none
def ciL (i : Nat) (ks : List PK) (g : List D → Option (D × D)) (os : List Op) (δ : En) : Option (Sl × D) → Option (List D) → Option (R D)
  | some (s, c), some ds => if frOk ks os && apart i os then ciM i δ s (g (c :: ds)) else none
  | _, _ => none
def ciK (i : Nat) (ks : List PK) (g : List D → Option (D × D)) : Option (R (List Op)) → Option (R D)
  | some (.ok os δ) => ciL i ks g os δ (ownO δ i) (rds os δ)
  | some (.ex x δ) => some (.ex x δ)
  | none => none
def ciH (i : Nat) (ks : List PK) (g : List D → Option (D × D)) (a : M (List Op)) (δ : En) : Option (Sl × D) → Option (R D)
  | some _ => ciK i ks g (a δ)
  | none => none
theorem mCallI_e (i : Nat) (ks : List PK) (g : List D → Option (D × D)) (a : M (List Op)) (δ : En) : mCallI i ks g a δ = ciH i ks g a δ (ownO δ i) := by
  have key : (a.bind fun os => (mRds os).bind fun ds => fun δ1 => match δ1[i]? with
      | some s1 => match s1.own with
        | some c => if frOk ks os && apart i os then (match g (c :: ds) with
          | some p => some (.ok p.1 (δ1.set i (reown s1 p.2)))
          | none => none) else none
        | none => none
      | none => none) δ = ciK i ks g (a δ) := by
    unfold ciK
    rw [bind_e]
    rcases a δ with _ | (⟨os, δ1⟩ | _) <;> first | rfl | skip
    simp only [bK, bind_e, mRds]
    unfold ownO
    cases rds os δ1 with
    | none => simp only [bK]; rcases δ1[i]? with _ | s <;> first | rfl | (cases s <;> rfl)
    | some ds =>
      simp only [bK]
      rcases δ1[i]? with _ | s
      · rfl
      · cases s with
        | ow d => simp only [Sl.own, ciL]; cases g (d :: ds) <;> rfl
        | io d => simp only [Sl.own, ciL]; cases g (d :: ds) <;> rfl
        | _ => rfl
  unfold mCallI ciH ownO
  rcases δ[i]? with _ | s
  · rfl
  · cases s <;> first | rfl | exact key
def mkN (δ : En) : Option (D × D) → Option (R D)
  | some (.non, .ins C ns es) => some (.ok (.ins C ns es) δ)
  | _ => none
def mkL (C : Addr) (ks : List PK) (g : List D → Option (D × D)) (os : List Op) (δ : En) : Option (List D) → Option (R D)
  | some ds => if frOk ks os then mkN δ (g (.ins C [] [] :: ds)) else none
  | none => none
def mkK (C : Addr) (ks : List PK) (g : List D → Option (D × D)) : Option (R (List Op)) → Option (R D)
  | some (.ok os δ) => mkL C ks g os δ (rds os δ)
  | some (.ex x δ) => some (.ex x δ)
  | none => none
theorem mMakeP_e (C : Addr) (ks : List PK) (g : List D → Option (D × D)) (a : M (List Op)) (δ : En) : mMakeP C ks g a δ = mkK C ks g (a δ) := by
  unfold mMakeP mkK
  rw [bind_e]
  rcases a δ with _ | (⟨os, δ1⟩ | _) <;> first | rfl | skip
  simp only [bK, bind_e, mRds]
  cases rds os δ1 <;> first | rfl | skip
/-! own lists changed -/
def olK : Option Sl → Option (Sl × List D)
  | some (.ow (.lst ds)) => some (.ow (.lst ds), ds)
  | some (.io (.lst ds)) => some (.io (.lst ds), ds)
  | _ => none
theorem ownL_e (δ : En) (i : Nat) : ownL δ i = olK δ[i]? := by
  unfold ownL olK
  rcases δ[i]? with _ | s
  · rfl
  · cases s with
    | ow d => cases d <;> rfl
    | io d => cases d <;> rfl
    | _ => rfl
def muN (i : Nat) (δ : En) (s : Sl) : Option (List D × D) → Option (R D)
  | some (nw, res) => some (.ok res (δ.set i (reown s (.lst nw))))
  | none => none
def muL (f : List D → List D → Option (List D × D)) (i : Nat) (as : List D) (δ : En) : Option (Sl × List D) → Option (R D)
  | some (s, ds) => muN i δ s (f ds as)
  | none => none
def muK (f : List D → List D → Option (List D × D)) (i : Nat) : Option (R (List D)) → Option (R D)
  | some (.ok as δ) => muL f i as δ (ownL δ i)
  | some (.ex x δ) => some (.ex x δ)
  | none => none
def muH (f : List D → List D → Option (List D × D)) (i : Nat) (a : M (List D)) (δ : En) : Option (Sl × List D) → Option (R D)
  | some _ => muK f i (a δ)
  | none => none
theorem mMut_e (f : List D → List D → Option (List D × D)) (i : Nat) (a : M (List D)) (δ : En) : mMut f i a δ = muH f i a δ (ownL δ i) := by
  unfold mMut muH
  cases ownL δ i with
  | none => rfl
  | some p =>
    simp only [bind_e]
    unfold muK
    rcases a δ with _ | (⟨as, δ1⟩ | _) <;> first | rfl | skip
    simp only [bK]
    unfold muL
    rcases ownL δ1 i with _ | ⟨s, ds⟩
    · rfl
    · simp only []
      unfold muN
      rcases f ds as with _ | ⟨nw, res⟩ <;> rfl
theorem appF_e (ds : List D) (d : D) : appF ds [d] = if ds.length < 1000000 then some (ds ++ [d], .non) else none := (rfl)
def puN (i : Nat) (d : D) (δ : En) (s : Sl) (ds : List D) : Option Nat → Option Ou
  | some m => some (.nx (δ.set i (reown s (.lst (ds.set m d)))))
  | none => none
def puM (i : Nat) (d : D) (n : Int) (δ : En) : Option (Sl × List D) → Option Ou
  | some (s, ds) => puN i d δ s ds (ixN ds.length n)
  | none => none
def puL (i : Nat) (d : D) : Option (R D) → Option Ou
  | some (.ok (.int n) δ) => puM i d n δ (ownL δ i)
  | some (.ex x δ) => some (.ex x δ)
  | _ => none
def puH (i : Nat) (d : D) (mi : M D) (δ : En) : Option (Sl × List D) → Option Ou
  | some _ => puL i d (mi δ)
  | none => none
def puK (i : Nat) (mi : M D) : Option (R D) → Option Ou
  | some (.ok d δ) => puH i d mi δ (ownL δ i)
  | some (.ex x δ) => some (.ex x δ)
  | none => none
theorem mPutI_e (i : Nat) (mi me : M D) (δ : En) : mPutI i mi me δ = puK i mi (me δ) := by
  unfold mPutI puK
  rw [mS_e]
  rcases me δ with _ | (⟨d, δ1⟩ | _) <;> first | rfl | skip
  simp only [sK, mHas]
  unfold puH
  cases ownL δ1 i with
  | none => rfl
  | some p =>
    simp only [mS_e]
    unfold puL
    rcases mi δ1 with _ | (⟨j, δ2⟩ | _) <;> first | rfl | skip
    simp only [sK]
    cases j <;> rfl
/-! fields -/
def oiK : Option Sl → Option (Sl × Addr × List Str × List D)
  | some (.ow (.ins C ns ds)) => some (.ow (.ins C ns ds), C, ns, ds)
  | some (.io (.ins C ns ds)) => some (.io (.ins C ns ds), C, ns, ds)
  | _ => none
theorem ownI_e (δ : En) (i : Nat) : ownI δ i = oiK δ[i]? := by
  unfold ownI oiK
  rcases δ[i]? with _ | s
  · rfl
  · cases s with
    | ow d => cases d <;> rfl
    | io d => cases d <;> rfl
    | _ => rfl
def sfL (C : Addr) (i : Nat) (f : Str) (d : D) (δ : En) : Option (Sl × Addr × List Str × List D) → Option Ou
  | some (s, C', ns, ds) => if C' = C ∧ ns.length < 100 ∧ f ∉ ns then some (.nx (δ.set i (reown s (.ins C (ns ++ [f]) (ds ++ [d]))))) else none
  | none => none
def sfK (C : Addr) (i : Nat) (f : Str) : Option (R D) → Option Ou
  | some (.ok d δ) => sfL C i f d δ (ownI δ i)
  | some (.ex x δ) => some (.ex x δ)
  | none => none
theorem mSetF_e (C : Addr) (i : Nat) (f : Str) (m : M D) (δ : En) : mSetF C i f m δ = sfK C i f (m δ) := by
  unfold mSetF sfK
  rw [mS_e]
  rcases m δ with _ | (⟨d, δ1⟩ | _) <;> first | rfl | skip
/-! slices, counts -/
theorem mpNone_e (δ : En) : mpNone δ = some (.ok none δ) := (rfl)
def psK : Option (R D) → Option (R (Option Int))
  | some (.ok (.int i) δ) => some (.ok (some i) δ)
  | some (.ex x δ) => some (.ex x δ)
  | _ => none
theorem mpSome_e (m : M D) (δ : En) : mpSome m δ = psK (m δ) := by unfold mpSome M.bind psK M.lift; rcases m δ with _ | (⟨d, _⟩ | _) <;> first | rfl | (cases d <;> rfl)
def slN (f : D → Option Int → Option Int → Option D) (lo hi : Option Int) (δ : En) : Option D → Option (R D)
  | some d => liftK (f d lo hi) δ
  | none => none
def slM (f : D → Option Int → Option Int → Option D) (o : Op) (lo : Option Int) : Option (R (Option Int)) → Option (R D)
  | some (.ok hi δ) => slN f lo hi δ (rd o δ)
  | some (.ex x δ) => some (.ex x δ)
  | none => none
def slL (f : D → Option Int → Option Int → Option D) (o : Op) (u : M (Option Int)) : Option (R (Option Int)) → Option (R D)
  | some (.ok lo δ) => slM f o lo (u δ)
  | some (.ex x δ) => some (.ex x δ)
  | none => none
def slK (f : D → Option Int → Option Int → Option D) (l u : M (Option Int)) : Option (R Op) → Option (R D)
  | some (.ok o δ) => slL f o u (l δ)
  | some (.ex x δ) => some (.ex x δ)
  | none => none
theorem mSl_e (f : D → Option Int → Option Int → Option D) (a : M Op) (l u : M (Option Int)) (δ : En) : mSl f a l u δ = slK f l u (a δ) := by
  unfold mSl slK
  rw [bind_e]
  rcases a δ with _ | (⟨o, δ1⟩ | _) <;> first | rfl | skip
  simp only [bK, bind_e]
  unfold slL
  rcases l δ1 with _ | (⟨lo, δ2⟩ | _) <;> first | rfl | skip
  simp only [bK, bind_e]
  unfold slM
  rcases u δ2 with _ | (⟨hi, δ3⟩ | _) <;> first | rfl | skip
  simp only [bK, bind_e, mRd]
  unfold slN
  cases rd o δ3 <;> rfl
def cnM (k : Bool) (δ : En) : Option D → Option D → Option (R D)
  | some d, some e => liftK (if kindD d = some k then cntD d e else none) δ
  | _, _ => none
def cnL (o : Op) (k : Bool) : Option (R Op) → Option (R D)
  | some (.ok q δ) => cnM k δ (rd o δ) (rd q δ)
  | some (.ex x δ) => some (.ex x δ)
  | none => none
def cnJ (b : M Op) (o : Op) (δ : En) : Option Bool → Option (R D)
  | some k => cnL o k (b δ)
  | none => none
def cnI (b : M Op) (o : Op) (δ : En) : Option D → Option (R D)
  | some d => cnJ b o δ (kindD d)
  | none => none
def cnK (b : M Op) : Option (R Op) → Option (R D)
  | some (.ok o δ) => cnI b o δ (rd o δ)
  | some (.ex x δ) => some (.ex x δ)
  | none => none
theorem mCount_e (a b : M Op) (δ : En) : mCount a b δ = cnK b (a δ) := by
  unfold mCount cnK
  rw [bind_e]
  rcases a δ with _ | (⟨o, δ1⟩ | _) <;> first | rfl | skip
  simp only [bK, bind_e, mRd]
  unfold cnI
  cases rd o δ1 with
  | none => rfl
  | some d0 =>
    simp only [bK]
    unfold cnJ
    cases kindD d0 with
    | none => rfl
    | some k =>
      simp only [bind_e]
      unfold cnL
      rcases b δ1 with _ | (⟨q, δ2⟩ | _) <;> first | rfl | skip
      simp only [bK, bind_e, mRd]
      unfold cnM
      cases rd o δ2 with
      | none => rfl
      | some d =>
        simp only [bK, bind_e, mRd]
        cases rd q δ2 <;> rfl
def gD : Option Ou → Option D
  | some (.rt d _) => some d
  | some (.nx _) => some .non
  | _ => none
theorem defG_e (n : Nat) (ks : List PK) (m : Ms) (ds : List D) : defG n ks m ds = gD (m (startE n (entry ks ds))) := by unfold defG gD; rcases m (startE n (entry ks ds)) with _ | o <;> first | rfl | (cases o <;> rfl)
def io0K (d : D) : Option Sl → Option (D × D)
  | some (.io e) => some (d, e)
  | _ => none
def gI : Option Ou → Option (D × D)
  | some (.rt d δ) => io0K d δ[(0 : Nat)]?
  | some (.nx δ) => io0K .non δ[(0 : Nat)]?
  | _ => none
theorem io0_map (δ : En) (d : D) : ((io0 δ).map fun e => (d, e)) = io0K d δ[(0 : Nat)]? := by
  unfold io0 io0K
  rcases δ[(0 : Nat)]? with _ | s <;> first | rfl | (cases s <;> rfl)
theorem defI_e (n : Nat) (ks : List PK) (m : Ms) (ds : List D) : defI n ks m ds = gI (m (startE n (entry (.io :: ks) ds))) := by
  unfold defI gI
  rcases m (startE n (entry (.io :: ks) ds)) with _ | o <;> first | rfl | skip
  cases o <;> first | rfl | exact io0_map _ _
def gNw : Option Ou → Option D
  | some (.rn d _) => some d
  | _ => none
theorem defN_e (n : Nat) (ks : List PK) (m : Ms) (ds : List D) : defN n ks m ds = gNw (m (startE n (entry ks ds))) := by unfold defN gNw; rcases m (startE n (entry ks ds)) with _ | o <;> first | rfl | (cases o <;> rfl)
end DL

set_option Elab.async false
set_option linter.all false
set_option maxRecDepth 100000
/-! MF: printed by mk_ev.py: an equation for each way of the words over outcomes. -/
namespace DL
open PySem L2
theorem varK_1 {i} {δ} {d} : varK i δ (some (.fr d)) = some (.ok d δ) := (rfl)
theorem varK_2 {i} {δ} {d} : varK i δ (some (.ow d)) = some (.ok d (δ.set i (.fr d))) := (rfl)
theorem ovK_1 {i} {δ} {u0} : ovK i δ (some (.fr u0)) = some (.ok (.slot i) δ) := (rfl)
theorem ovK_2 {i} {δ} {u0} : ovK i δ (some (.bo u0)) = some (.ok (.slot i) δ) := (rfl)
theorem ovK_3 {i} {δ} {u0} : ovK i δ (some (.ow u0)) = some (.ok (.slot i) δ) := (rfl)
theorem ovK_4 {i} {δ} {u0} : ovK i δ (some (.io u0)) = some (.ok (.slot i) δ) := (rfl)
theorem valK_1 {d} {δ} : valK  (some (.ok d δ)) = some (.ok (.val d) δ) := (rfl)
theorem valK_2 {x} {δ} : valK  (some (.ex x δ)) = some (.ex x δ) := (rfl)
theorem valK_3  : valK  (none) = none := (rfl)
theorem datK_1 {d} : datK  (some (.fr d)) = some d := (rfl)
theorem datK_2 {d} : datK  (some (.bo d)) = some d := (rfl)
theorem datK_3 {d} : datK  (some (.ow d)) = some d := (rfl)
theorem datK_4 {d} : datK  (some (.io d)) = some d := (rfl)
theorem m1L_1 {f} {δ} {d} : m1L f δ (some d) = liftK (f d) δ := (rfl)
theorem m1L_2 {f} {δ} : m1L f δ (none) = none := (rfl)
theorem m1K_1 {f} {o} {δ} : m1K f (some (.ok o δ)) = m1L f δ (rd o δ) := (rfl)
theorem m1K_2 {f} {x} {δ} : m1K f (some (.ex x δ)) = some (.ex x δ) := (rfl)
theorem m1K_3 {f} : m1K f (none) = none := (rfl)
theorem m2N_1 {f} {δ} {d} {e} : m2N f δ (some d) (some e) = liftK (f d e) δ := (rfl)
theorem acL_1 {o} {os} {δ} : acL o (some (.ok os δ)) = some (.ok (o :: os) δ) := (rfl)
theorem acL_2 {o} {x} {δ} : acL o (some (.ex x δ)) = some (.ex x δ) := (rfl)
theorem acL_3 {o} : acL o (none) = none := (rfl)
theorem dcL_1 {o} {os} {δ} : dcL o (some (.ok os δ)) = some (.ok (o :: os) δ) := (rfl)
theorem dcL_2 {o} {x} {δ} : dcL o (some (.ex x δ)) = some (.ex x δ) := (rfl)
theorem dcL_3 {o} : dcL o (none) = none := (rfl)
theorem consO_1 {d} {ds} : consO  (some d) (some ds) = some (d :: ds) := (rfl)
theorem aL_1 {f} {δ} {ds} : aL f δ (some ds) = liftK (f ds) δ := (rfl)
theorem aL_2 {f} {δ} : aL f δ (none) = none := (rfl)
theorem tupK_1 {ds} {δ} : tupK  (some (.ok ds δ)) = if ds.length ≤ LB then some (.ok (.tup ds) δ) else none := (rfl)
theorem tupK_2 {x} {δ} : tupK  (some (.ex x δ)) = some (.ex x δ) := (rfl)
theorem tupK_3  : tupK  (none) = none := (rfl)
theorem lstK_1 {ds} {δ} : lstK  (some (.ok ds δ)) = if ds.length ≤ LB then some (.ok (.lst ds) δ) else none := (rfl)
theorem lstK_2 {x} {δ} : lstK  (some (.ex x δ)) = some (.ex x δ) := (rfl)
theorem lstK_3  : lstK  (none) = none := (rfl)
theorem testK_1 {b} {δ} : testK  (some (.ok (.bl b) δ)) = some (.ok b δ) := (rfl)
theorem testK_2 {x} {δ} : testK  (some (.ex x δ)) = some (.ex x δ) := (rfl)
theorem notK_1 {b} {δ} : notK  (some (.ok b δ)) = some (.ok (!b) δ) := (rfl)
theorem notK_2 {x} {δ} : notK  (some (.ex x δ)) = some (.ex x δ) := (rfl)
theorem notK_3  : notK  (none) = none := (rfl)
theorem andK_1 {b} {δ} : andK b (some (.ok true δ)) = b δ := (rfl)
theorem andK_2 {b} {δ} : andK b (some (.ok false δ)) = some (.ok false δ) := (rfl)
theorem andK_3 {b} {x} {δ} : andK b (some (.ex x δ)) = some (.ex x δ) := (rfl)
theorem andK_4 {b} : andK b (none) = none := (rfl)
theorem orK_1 {b} {δ} : orK b (some (.ok false δ)) = b δ := (rfl)
theorem orK_2 {b} {δ} : orK b (some (.ok true δ)) = some (.ok true δ) := (rfl)
theorem orK_3 {b} {x} {δ} : orK b (some (.ex x δ)) = some (.ex x δ) := (rfl)
theorem orK_4 {b} : orK b (none) = none := (rfl)
theorem andvK_1 {b} {δ} : andvK b (some (.ok (.bl true) δ)) = b δ := (rfl)
theorem andvK_2 {b} {δ} : andvK b (some (.ok (.bl false) δ)) = some (.ok (.bl false) δ) := (rfl)
theorem andvK_3 {b} {x} {δ} : andvK b (some (.ex x δ)) = some (.ex x δ) := (rfl)
theorem orvK_1 {b} {δ} : orvK b (some (.ok (.bl false) δ)) = b δ := (rfl)
theorem orvK_2 {b} {δ} : orvK b (some (.ok (.bl true) δ)) = some (.ok (.bl true) δ) := (rfl)
theorem orvK_3 {b} {x} {δ} : orvK b (some (.ex x δ)) = some (.ex x δ) := (rfl)
theorem notvK_1 {b} {δ} : notvK  (some (.ok (.bl b) δ)) = some (.ok (.bl (!b)) δ) := (rfl)
theorem notvK_2 {x} {δ} : notvK  (some (.ex x δ)) = some (.ex x δ) := (rfl)
theorem ifeK_1 {a} {b} {δ} : ifeK a b (some (.ok true δ)) = a δ := (rfl)
theorem ifeK_2 {a} {b} {δ} : ifeK a b (some (.ok false δ)) = b δ := (rfl)
theorem ifeK_3 {a} {b} {x} {δ} : ifeK a b (some (.ex x δ)) = some (.ex x δ) := (rfl)
theorem ifeK_4 {a} {b} : ifeK a b (none) = none := (rfl)
theorem chN_1 {g} {q} {c} {δ} : chN g q c δ (some (.bl true)) = m2K (fun e y => g e y) c (some (.ok q δ)) := (rfl)
theorem chN_2 {g} {q} {c} {δ} : chN g q c δ (some (.bl false)) = some (.ok (.bl false) δ) := (rfl)
theorem chM_1 {f} {g} {q} {c} {δ} {d} {e} : chM f g q c δ (some d) (some e) = chN g q c δ (f d e) := (rfl)
theorem chL_1 {f} {g} {o} {c} {q} {δ} : chL f g o c (some (.ok q δ)) = chM f g q c δ (rd o δ) (rd q δ) := (rfl)
theorem chL_2 {f} {g} {o} {c} {x} {δ} : chL f g o c (some (.ex x δ)) = some (.ex x δ) := (rfl)
theorem chL_3 {f} {g} {o} {c} : chL f g o c (none) = none := (rfl)
theorem chK_1 {f} {g} {b} {c} {o} {δ} : chK f g b c (some (.ok o δ)) = chL f g o c (b δ) := (rfl)
theorem chK_2 {f} {g} {b} {c} {x} {δ} : chK f g b c (some (.ex x δ)) = some (.ex x δ) := (rfl)
theorem chK_3 {f} {g} {b} {c} : chK f g b c (none) = none := (rfl)
theorem seqK_1 {b} {δ} : seqK b (some (.nx δ)) = b δ := (rfl)
theorem seqK_2 {b} {d} {δ} : seqK b (some (.rt d δ)) = some (.rt d δ) := (rfl)
theorem seqK_3 {b} {d} {δ} : seqK b (some (.rn d δ)) = some (.rn d δ) := (rfl)
theorem seqK_4 {b} {δ} : seqK b (some (.bk δ)) = some (.bk δ) := (rfl)
theorem seqK_5 {b} {δ} : seqK b (some (.ct δ)) = some (.ct δ) := (rfl)
theorem seqK_6 {b} {x} {δ} : seqK b (some (.ex x δ)) = some (.ex x δ) := (rfl)
theorem seqK_7 {b} : seqK b (none) = none := (rfl)
theorem ifK_1 {a} {b} {δ} : ifK a b (some (.ok true δ)) = a δ := (rfl)
theorem ifK_2 {a} {b} {δ} : ifK a b (some (.ok false δ)) = b δ := (rfl)
theorem ifK_3 {a} {b} {x} {δ} : ifK a b (some (.ex x δ)) = some (.ex x δ) := (rfl)
theorem ifK_4 {a} {b} : ifK a b (none) = none := (rfl)
theorem retK_1 {d} {δ} : retK  (some (.ok d δ)) = some (.rt d δ) := (rfl)
theorem retK_2 {x} {δ} : retK  (some (.ex x δ)) = some (.ex x δ) := (rfl)
theorem retK_3  : retK  (none) = none := (rfl)
theorem retwK_1 {d} {δ} : retwK  (some (.ok d δ)) = some (.rn d δ) := (rfl)
theorem retwK_2 {x} {δ} : retwK  (some (.ex x δ)) = some (.ex x δ) := (rfl)
theorem retwK_3  : retwK  (none) = none := (rfl)
theorem retoK_1 {δ} {d} : retoK δ (some (.ow d)) = some (.rn d δ) := (rfl)
theorem dropK_1 {u0} {δ} : dropK  (some (.ok u0 δ)) = some (.nx δ) := (rfl)
theorem dropK_2 {x} {δ} : dropK  (some (.ex x δ)) = some (.ex x δ) := (rfl)
theorem dropK_3  : dropK  (none) = none := (rfl)
theorem nxK_1 {δ} : nxK  (some δ) = some (.nx δ) := (rfl)
theorem nxK_2  : nxK  (none) = none := (rfl)
theorem asgK_1 {g} {d} {δ} : asgK g (some (.ok d δ)) = nxK (g d δ) := (rfl)
theorem asgK_2 {g} {x} {δ} : asgK g (some (.ex x δ)) = some (.ex x δ) := (rfl)
theorem asgK_3 {g} : asgK g (none) = none := (rfl)
theorem asgoK_1 {i} {d} {δ} : asgoK i (some (.ok d δ)) = some (.nx (δ.set i (.ow d))) := (rfl)
theorem asgoK_2 {i} {x} {δ} : asgoK i (some (.ex x δ)) = some (.ex x δ) := (rfl)
theorem asgoK_3 {i} : asgoK i (none) = none := (rfl)
theorem parK_1 {i} {j} {a} {b} {δ} : parK i j (some (.ok [a, b] δ)) = some (.nx ((δ.set i (.fr a)).set j (.fr b))) := (rfl)
theorem parK_2 {i} {j} {x} {δ} : parK i j (some (.ex x δ)) = some (.ex x δ) := (rfl)
theorem gscK_1 {b} {r} {δ} : gscK b r (some δ) = b r δ := (rfl)
theorem gscK_2 {b} {r} : gscK b r (none) = none := (rfl)
theorem itK_1 {f} {as} {δ} : itK f (some (.ok as δ)) = liftK (f as) δ := (rfl)
theorem itK_2 {f} {x} {δ} : itK f (some (.ex x δ)) = some (.ex x δ) := (rfl)
theorem itK_3 {f} : itK f (none) = none := (rfl)
theorem sqK_1 {ds} {δ} : sqK  (some (.ok (.lst ds) δ)) = some (.ok ds δ) := (rfl)
theorem sqK_2 {x} {δ} : sqK  (some (.ex x δ)) = some (.ex x δ) := (rfl)
theorem tqK_1 {ds} {δ} : tqK  (some (.ok (.tup ds) δ)) = some (.ok ds δ) := (rfl)
theorem tqK_2 {x} {δ} : tqK  (some (.ex x δ)) = some (.ex x δ) := (rfl)
theorem sbK_1 {i} {δ} {ds} : sbK i δ (some (.bo (.lst ds))) = some (.ok ds δ) := (rfl)
theorem sbK_2 {i} {δ} {ds} : sbK i δ (some (.fr (.lst ds))) = some (.ok ds δ) := (rfl)
theorem sbK_3 {i} {δ} {ds} : sbK i δ (some (.ow (.lst ds))) = some (.ok ds (δ.set i (.fr (.lst ds)))) := (rfl)
theorem enK_1 {i} {δ} {ds} : enK i δ (some (.bo (.lst ds))) = some (.ok (enumD ds) δ) := (rfl)
theorem enK_2 {i} {δ} {ds} : enK i δ (some (.fr (.lst ds))) = some (.ok (enumD ds) δ) := (rfl)
theorem enK_3 {i} {δ} {ds} : enK i δ (some (.fr (.tup ds))) = some (.ok (enumD ds) δ) := (rfl)
theorem enK_4 {i} {δ} {ds} : enK i δ (some (.ow (.lst ds))) = some (.ok (enumD ds) (δ.set i (.fr (.lst ds)))) := (rfl)
theorem enK_5 {i} {δ} {ds} : enK i δ (some (.ow (.tup ds))) = some (.ok (enumD ds) (δ.set i (.fr (.tup ds)))) := (rfl)
theorem forK_1 {g} {b} {ds} {δ} : forK g b (some (.ok ds δ)) = forL g b ds δ := (rfl)
theorem forK_2 {g} {b} {x} {δ} : forK g b (some (.ex x δ)) = some (.ex x δ) := (rfl)
theorem forK_3 {g} {b} : forK g b (none) = none := (rfl)
theorem flL_1 {g} {b} {ds} {δ} : flL g b ds (some (.nx δ)) = forL g b ds δ := (rfl)
theorem flL_2 {g} {b} {ds} {δ} : flL g b ds (some (.ct δ)) = forL g b ds δ := (rfl)
theorem flL_3 {g} {b} {ds} {δ} : flL g b ds (some (.bk δ)) = some (.nx δ) := (rfl)
theorem flL_4 {g} {b} {ds} {d} {δ} : flL g b ds (some (.rt d δ)) = some (.rt d δ) := (rfl)
theorem flL_5 {g} {b} {ds} {d} {δ} : flL g b ds (some (.rn d δ)) = some (.rn d δ) := (rfl)
theorem flL_6 {g} {b} {ds} {x} {δ} : flL g b ds (some (.ex x δ)) = some (.ex x δ) := (rfl)
theorem flL_7 {g} {b} {ds} : flL g b ds (none) = none := (rfl)
theorem flK_1 {g} {b} {ds} {δ} : flK g b ds (some δ) = flL g b ds (b δ) := (rfl)
theorem flK_2 {g} {b} {ds} : flK g b ds (none) = none := (rfl)
theorem cpL_1 {ks} {g} {os} {δ} {ds} : cpL ks g os δ (some ds) = if frOk ks os then liftK (g ds) δ else none := (rfl)
theorem cpL_2 {ks} {g} {os} {δ} : cpL ks g os δ (none) = none := (rfl)
theorem cpK_1 {ks} {g} {os} {δ} : cpK ks g (some (.ok os δ)) = cpL ks g os δ (rds os δ) := (rfl)
theorem cpK_2 {ks} {g} {x} {δ} : cpK ks g (some (.ex x δ)) = some (.ex x δ) := (rfl)
theorem cpK_3 {ks} {g} : cpK ks g (none) = none := (rfl)
theorem ownK_1 {d} : ownK  (some (.ow d)) = some (.ow d, d) := (rfl)
theorem ownK_2 {d} : ownK  (some (.io d)) = some (.io d, d) := (rfl)
theorem ciM_1 {i} {δ} {s} {p} : ciM i δ s (some p) = some (.ok p.1 (δ.set i (reown s p.2))) := (rfl)
theorem ciM_2 {i} {δ} {s} : ciM i δ s (none) = none := (rfl)
theorem ciL_1 {i} {ks} {g} {os} {δ} {s} {c} {ds} : ciL i ks g os δ (some (s, c)) (some ds) = if frOk ks os && apart i os then ciM i δ s (g (c :: ds)) else none := (rfl)
theorem ciK_1 {i} {ks} {g} {os} {δ} : ciK i ks g (some (.ok os δ)) = ciL i ks g os δ (ownO δ i) (rds os δ) := (rfl)
theorem ciK_2 {i} {ks} {g} {x} {δ} : ciK i ks g (some (.ex x δ)) = some (.ex x δ) := (rfl)
theorem ciK_3 {i} {ks} {g} : ciK i ks g (none) = none := (rfl)
theorem ciH_1 {i} {ks} {g} {a} {δ} {u0} : ciH i ks g a δ (some u0) = ciK i ks g (a δ) := (rfl)
theorem ciH_2 {i} {ks} {g} {a} {δ} : ciH i ks g a δ (none) = none := (rfl)
theorem mkN_1 {δ} {C} {ns} {es} : mkN δ (some (.non, .ins C ns es)) = some (.ok (.ins C ns es) δ) := (rfl)
theorem mkL_1 {C} {ks} {g} {os} {δ} {ds} : mkL C ks g os δ (some ds) = if frOk ks os then mkN δ (g (.ins C [] [] :: ds)) else none := (rfl)
theorem mkL_2 {C} {ks} {g} {os} {δ} : mkL C ks g os δ (none) = none := (rfl)
theorem mkK_1 {C} {ks} {g} {os} {δ} : mkK C ks g (some (.ok os δ)) = mkL C ks g os δ (rds os δ) := (rfl)
theorem mkK_2 {C} {ks} {g} {x} {δ} : mkK C ks g (some (.ex x δ)) = some (.ex x δ) := (rfl)
theorem mkK_3 {C} {ks} {g} : mkK C ks g (none) = none := (rfl)
theorem olK_1 {ds} : olK  (some (.ow (.lst ds))) = some (.ow (.lst ds), ds) := (rfl)
theorem olK_2 {ds} : olK  (some (.io (.lst ds))) = some (.io (.lst ds), ds) := (rfl)
theorem muN_1 {i} {δ} {s} {nw} {res} : muN i δ s (some (nw, res)) = some (.ok res (δ.set i (reown s (.lst nw)))) := (rfl)
theorem muN_2 {i} {δ} {s} : muN i δ s (none) = none := (rfl)
theorem muL_1 {f} {i} {as} {δ} {s} {ds} : muL f i as δ (some (s, ds)) = muN i δ s (f ds as) := (rfl)
theorem muL_2 {f} {i} {as} {δ} : muL f i as δ (none) = none := (rfl)
theorem muK_1 {f} {i} {as} {δ} : muK f i (some (.ok as δ)) = muL f i as δ (ownL δ i) := (rfl)
theorem muK_2 {f} {i} {x} {δ} : muK f i (some (.ex x δ)) = some (.ex x δ) := (rfl)
theorem muK_3 {f} {i} : muK f i (none) = none := (rfl)
theorem muH_1 {f} {i} {a} {δ} {u0} : muH f i a δ (some u0) = muK f i (a δ) := (rfl)
theorem muH_2 {f} {i} {a} {δ} : muH f i a δ (none) = none := (rfl)
theorem puN_1 {i} {d} {δ} {s} {ds} {m} : puN i d δ s ds (some m) = some (.nx (δ.set i (reown s (.lst (ds.set m d))))) := (rfl)
theorem puN_2 {i} {d} {δ} {s} {ds} : puN i d δ s ds (none) = none := (rfl)
theorem puM_1 {i} {d} {n} {δ} {s} {ds} : puM i d n δ (some (s, ds)) = puN i d δ s ds (ixN ds.length n) := (rfl)
theorem puM_2 {i} {d} {n} {δ} : puM i d n δ (none) = none := (rfl)
theorem puL_1 {i} {d} {n} {δ} : puL i d (some (.ok (.int n) δ)) = puM i d n δ (ownL δ i) := (rfl)
theorem puL_2 {i} {d} {x} {δ} : puL i d (some (.ex x δ)) = some (.ex x δ) := (rfl)
theorem puH_1 {i} {d} {mi} {δ} {u0} : puH i d mi δ (some u0) = puL i d (mi δ) := (rfl)
theorem puH_2 {i} {d} {mi} {δ} : puH i d mi δ (none) = none := (rfl)
theorem puK_1 {i} {mi} {d} {δ} : puK i mi (some (.ok d δ)) = puH i d mi δ (ownL δ i) := (rfl)
theorem puK_2 {i} {mi} {x} {δ} : puK i mi (some (.ex x δ)) = some (.ex x δ) := (rfl)
theorem puK_3 {i} {mi} : puK i mi (none) = none := (rfl)
theorem oiK_1 {C} {ns} {ds} : oiK  (some (.ow (.ins C ns ds))) = some (.ow (.ins C ns ds), C, ns, ds) := (rfl)
theorem oiK_2 {C} {ns} {ds} : oiK  (some (.io (.ins C ns ds))) = some (.io (.ins C ns ds), C, ns, ds) := (rfl)
theorem sfL_1 {C} {i} {f} {d} {δ} {s} {C'} {ns} {ds} : sfL C i f d δ (some (s, C', ns, ds)) = if C' = C ∧ ns.length < 100 ∧ f ∉ ns then some (.nx (δ.set i (reown s (.ins C (ns ++ [f]) (ds ++ [d]))))) else none := (rfl)
theorem sfL_2 {C} {i} {f} {d} {δ} : sfL C i f d δ (none) = none := (rfl)
theorem sfK_1 {C} {i} {f} {d} {δ} : sfK C i f (some (.ok d δ)) = sfL C i f d δ (ownI δ i) := (rfl)
theorem sfK_2 {C} {i} {f} {x} {δ} : sfK C i f (some (.ex x δ)) = some (.ex x δ) := (rfl)
theorem sfK_3 {C} {i} {f} : sfK C i f (none) = none := (rfl)
theorem psK_1 {i} {δ} : psK  (some (.ok (.int i) δ)) = some (.ok (some i) δ) := (rfl)
theorem psK_2 {x} {δ} : psK  (some (.ex x δ)) = some (.ex x δ) := (rfl)
theorem slN_1 {f} {lo} {hi} {δ} {d} : slN f lo hi δ (some d) = liftK (f d lo hi) δ := (rfl)
theorem slN_2 {f} {lo} {hi} {δ} : slN f lo hi δ (none) = none := (rfl)
theorem slM_1 {f} {o} {lo} {hi} {δ} : slM f o lo (some (.ok hi δ)) = slN f lo hi δ (rd o δ) := (rfl)
theorem slM_2 {f} {o} {lo} {x} {δ} : slM f o lo (some (.ex x δ)) = some (.ex x δ) := (rfl)
theorem slM_3 {f} {o} {lo} : slM f o lo (none) = none := (rfl)
theorem slL_1 {f} {o} {u} {lo} {δ} : slL f o u (some (.ok lo δ)) = slM f o lo (u δ) := (rfl)
theorem slL_2 {f} {o} {u} {x} {δ} : slL f o u (some (.ex x δ)) = some (.ex x δ) := (rfl)
theorem slL_3 {f} {o} {u} : slL f o u (none) = none := (rfl)
theorem slK_1 {f} {l} {u} {o} {δ} : slK f l u (some (.ok o δ)) = slL f o u (l δ) := (rfl)
theorem slK_2 {f} {l} {u} {x} {δ} : slK f l u (some (.ex x δ)) = some (.ex x δ) := (rfl)
theorem slK_3 {f} {l} {u} : slK f l u (none) = none := (rfl)
theorem cnM_1 {k} {δ} {d} {e} : cnM k δ (some d) (some e) = liftK (if kindD d = some k then cntD d e else none) δ := (rfl)
theorem cnL_1 {o} {k} {q} {δ} : cnL o k (some (.ok q δ)) = cnM k δ (rd o δ) (rd q δ) := (rfl)
theorem cnL_2 {o} {k} {x} {δ} : cnL o k (some (.ex x δ)) = some (.ex x δ) := (rfl)
theorem cnL_3 {o} {k} : cnL o k (none) = none := (rfl)
theorem cnJ_1 {b} {o} {δ} {k} : cnJ b o δ (some k) = cnL o k (b δ) := (rfl)
theorem cnJ_2 {b} {o} {δ} : cnJ b o δ (none) = none := (rfl)
theorem cnI_1 {b} {o} {δ} {d} : cnI b o δ (some d) = cnJ b o δ (kindD d) := (rfl)
theorem cnI_2 {b} {o} {δ} : cnI b o δ (none) = none := (rfl)
theorem cnK_1 {b} {o} {δ} : cnK b (some (.ok o δ)) = cnI b o δ (rd o δ) := (rfl)
theorem cnK_2 {b} {x} {δ} : cnK b (some (.ex x δ)) = some (.ex x δ) := (rfl)
theorem cnK_3 {b} : cnK b (none) = none := (rfl)
theorem gD_1 {d} {u0} : gD  (some (.rt d u0)) = some d := (rfl)
theorem gD_2 {u0} : gD  (some (.nx u0)) = some .non := (rfl)
theorem io0K_1 {d} {e} : io0K d (some (.io e)) = some (d, e) := (rfl)
theorem gI_1 {d} {δ} : gI  (some (.rt d δ)) = io0K d δ[(0 : Nat)]? := (rfl)
theorem gI_2 {δ} : gI  (some (.nx δ)) = io0K .non δ[(0 : Nat)]? := (rfl)
theorem gNw_1 {d} {u0} : gNw  (some (.rn d u0)) = some d := (rfl)
theorem isB_str_non  : isB "str" .non = some (.bl false) := (rfl)
theorem isB_str_bl {z : Bool} : isB "str" (.bl z) = some (.bl false) := (rfl)
theorem isB_str_int {z : Int} : isB "str" (.int z) = some (.bl false) := (rfl)
theorem isB_str_str {z : Str} : isB "str" (.str z) = some (.bl true) := (rfl)
theorem isB_str_tup {z : List D} : isB "str" (.tup z) = some (.bl false) := (rfl)
theorem isB_str_lst {z : List D} : isB "str" (.lst z) = some (.bl false) := (rfl)
theorem isB_str_dk {z : List Key} {y : List D} : isB "str" (.dk z y) = some (.bl false) := (rfl)
theorem isB_list_non  : isB "list" .non = some (.bl false) := (rfl)
theorem isB_list_bl {z : Bool} : isB "list" (.bl z) = some (.bl false) := (rfl)
theorem isB_list_int {z : Int} : isB "list" (.int z) = some (.bl false) := (rfl)
theorem isB_list_str {z : Str} : isB "list" (.str z) = some (.bl false) := (rfl)
theorem isB_list_tup {z : List D} : isB "list" (.tup z) = some (.bl false) := (rfl)
theorem isB_list_lst {z : List D} : isB "list" (.lst z) = some (.bl true) := (rfl)
theorem isB_list_dk {z : List Key} {y : List D} : isB "list" (.dk z y) = some (.bl false) := (rfl)
theorem isB_tuple_non  : isB "tuple" .non = some (.bl false) := (rfl)
theorem isB_tuple_bl {z : Bool} : isB "tuple" (.bl z) = some (.bl false) := (rfl)
theorem isB_tuple_int {z : Int} : isB "tuple" (.int z) = some (.bl false) := (rfl)
theorem isB_tuple_str {z : Str} : isB "tuple" (.str z) = some (.bl false) := (rfl)
theorem isB_tuple_tup {z : List D} : isB "tuple" (.tup z) = some (.bl true) := (rfl)
theorem isB_tuple_lst {z : List D} : isB "tuple" (.lst z) = some (.bl false) := (rfl)
theorem isB_tuple_dk {z : List Key} {y : List D} : isB "tuple" (.dk z y) = some (.bl false) := (rfl)
theorem isB_int_non  : isB "int" .non = some (.bl false) := (rfl)
theorem isB_int_bl {z : Bool} : isB "int" (.bl z) = some (.bl true) := (rfl)
theorem isB_int_int {z : Int} : isB "int" (.int z) = some (.bl true) := (rfl)
theorem isB_int_str {z : Str} : isB "int" (.str z) = some (.bl false) := (rfl)
theorem isB_int_tup {z : List D} : isB "int" (.tup z) = some (.bl false) := (rfl)
theorem isB_int_lst {z : List D} : isB "int" (.lst z) = some (.bl false) := (rfl)
theorem isB_int_dk {z : List Key} {y : List D} : isB "int" (.dk z y) = some (.bl false) := (rfl)
theorem isB_bool_non  : isB "bool" .non = some (.bl false) := (rfl)
theorem isB_bool_bl {z : Bool} : isB "bool" (.bl z) = some (.bl true) := (rfl)
theorem isB_bool_int {z : Int} : isB "bool" (.int z) = some (.bl false) := (rfl)
theorem isB_bool_str {z : Str} : isB "bool" (.str z) = some (.bl false) := (rfl)
theorem isB_bool_tup {z : List D} : isB "bool" (.tup z) = some (.bl false) := (rfl)
theorem isB_bool_lst {z : List D} : isB "bool" (.lst z) = some (.bl false) := (rfl)
theorem isB_bool_dk {z : List Key} {y : List D} : isB "bool" (.dk z y) = some (.bl false) := (rfl)
theorem isB_dict_non  : isB "dict" .non = some (.bl false) := (rfl)
theorem isB_dict_bl {z : Bool} : isB "dict" (.bl z) = some (.bl false) := (rfl)
theorem isB_dict_int {z : Int} : isB "dict" (.int z) = some (.bl false) := (rfl)
theorem isB_dict_str {z : Str} : isB "dict" (.str z) = some (.bl false) := (rfl)
theorem isB_dict_tup {z : List D} : isB "dict" (.tup z) = some (.bl false) := (rfl)
theorem isB_dict_lst {z : List D} : isB "dict" (.lst z) = some (.bl false) := (rfl)
theorem isB_dict_dk {z : List Key} {y : List D} : isB "dict" (.dk z y) = some (.bl true) := (rfl)
theorem bK_1 {α β : Type} {f : α → M β} {a : α} {δ : En} : bK f (some (.ok a δ)) = f a δ := (rfl)
theorem sK_1 {α : Type} {f : α → Ms} {a : α} {δ : En} : sK f (some (.ok a δ)) = f a δ := (rfl)
theorem fI0_ii {g : Int → Int → D} {i j : Int} : fI0 g (.int i) (.int j) = some (g i j) := (rfl)
theorem fI_ii {C : Int → Int → Bool} {g : Int → Int → D} {i j : Int} : fI C g (.int i) (.int j) = if C i j then some (g i j) else none := (rfl)
theorem addD_ii {i j : Int} : addD (.int i) (.int j) = some (.int (i + j)) := (rfl)
theorem lenD_lst {ds : List D} : lenD (.lst ds) = some (.int ds.length) := (rfl)
theorem lenD_tup {ds : List D} : lenD (.tup ds) = some (.int ds.length) := (rfl)
theorem tupD_lst {ds : List D} : tupD (.lst ds) = some (.tup ds) := (rfl)
theorem tupD_tup {ds : List D} : tupD (.tup ds) = some (.tup ds) := (rfl)
theorem listD_lst {ds : List D} : listD (.lst ds) = some ds := (rfl)
theorem listD_tup {ds : List D} : listD (.tup ds) = some ds := (rfl)
theorem kindD_lst {ds : List D} : DL.kindD (.lst ds) = some false := (rfl)
theorem kindD_tup {ds : List D} : DL.kindD (.tup ds) = some true := (rfl)
theorem revLD_lst {ds : List D} : revLD (.lst ds) = some ds.reverse := (rfl)
theorem rown_ow {d e : D} : reown (.ow d) e = .ow e := (rfl)
theorem rown_io {d e : D} : reown (.io d) e = .io e := (rfl)
theorem sl_fr {d : D} : PK.sl .fr d = .fr d := (rfl)
theorem sl_bo {d : D} : PK.sl .bo d = .bo d := (rfl)
theorem sl_io {d : D} : PK.sl .io d = .io d := (rfl)
theorem entry_n {ds : List D} : entry [] ds = [] := (rfl)
theorem entry_c {k : PK} {ks : List PK} {d : D} {ds : List D} : entry (k :: ks) (d :: ds) = k.sl d :: entry ks ds := (rfl)
theorem frOk_n : frOk [] [] = true := (rfl)
theorem frOk_f {ks : List PK} {d : D} {os : List Op} : frOk (.fr :: ks) (.val d :: os) = frOk ks os := (rfl)
theorem frOk_b {ks : List PK} {o : Op} {os : List Op} : frOk (.bo :: ks) (o :: os) = frOk ks os := by cases o <;> rfl
theorem apart_n {i : Nat} : apart i [] = true := (rfl)
theorem apart_v {i : Nat} {d : D} {os : List Op} : apart i (.val d :: os) = apart i os := (rfl)
theorem apart_s {i j : Nat} {os : List Op} : apart i (.slot j :: os) = (j != i && apart i os) := (rfl)
end DL

open PySem L2 DL in
local macro_rules
  | `(tactic| simp_arith only [$as,*]) => `(tactic| simp only [lift_e, liftK_s, mC_e, mVar_e, mOv_e, mVal_e, rd_v, rd_s, m1_e, m1K_o, m1L_s, m2_e, m2K_o, m2L_o, m2N_s, lstM_s, mn1_e, mn2_e, maNil_e, maCons_e, acK_o, mdNil_e, mdCons_e, dcK_o, rds_n, rds_c, consO_s, mA_e, mnA_e, aK_o, aL_s, fA1_e, fN1_e, mTup_e, mLst_e, mTest_e, mNot_e, mAnd_e, mOr_e, mAndV_e, mOrV_e, mNotV_e, mIfE_e, mChain_e, mNext_e, mSeq_e, mIf_e, mRet_e, mRetW_e, mRetO_e, mDrop_e, mAsg_e, mAsgO_e, mPar_e, gN_e, gs0_e, gsC_e, gT_e, gTL_e, mIt_e, mSeqOf_e, mTupOf_e, mSeqB_e, mEnumB_e, mFor_e, forL_n, forL_c, mCallP_e, mCallN_e, ownO_e, mCallI_e, mMakeP_e, ownL_e, mMut_e, appF_e, mPutI_e, ownI_e, mSetF_e, mpNone_e, mpSome_e, mSl_e, mCount_e, defG_e, defI_e, defN_e, varK_1, varK_2, ovK_1, ovK_2, ovK_3, ovK_4, valK_1, valK_2, valK_3, datK_1, datK_2, datK_3, datK_4, m1L_1, m1L_2, m1K_1, m1K_2, m1K_3, m2N_1, acL_1, acL_2, acL_3, dcL_1, dcL_2, dcL_3, consO_1, aL_1, aL_2, tupK_1, tupK_2, tupK_3, lstK_1, lstK_2, lstK_3, testK_1, testK_2, notK_1, notK_2, notK_3, andK_1, andK_2, andK_3, andK_4, orK_1, orK_2, orK_3, orK_4, andvK_1, andvK_2, andvK_3, orvK_1, orvK_2, orvK_3, notvK_1, notvK_2, ifeK_1, ifeK_2, ifeK_3, ifeK_4, chN_1, chN_2, chM_1, chL_1, chL_2, chL_3, chK_1, chK_2, chK_3, seqK_1, seqK_2, seqK_3, seqK_4, seqK_5, seqK_6, seqK_7, ifK_1, ifK_2, ifK_3, ifK_4, retK_1, retK_2, retK_3, retwK_1, retwK_2, retwK_3, retoK_1, dropK_1, dropK_2, dropK_3, nxK_1, nxK_2, asgK_1, asgK_2, asgK_3, asgoK_1, asgoK_2, asgoK_3, parK_1, parK_2, gscK_1, gscK_2, itK_1, itK_2, itK_3, sqK_1, sqK_2, tqK_1, tqK_2, sbK_1, sbK_2, sbK_3, enK_1, enK_2, enK_3, enK_4, enK_5, forK_1, forK_2, forK_3, flL_1, flL_2, flL_3, flL_4, flL_5, flL_6, flL_7, flK_1, flK_2, cpL_1, cpL_2, cpK_1, cpK_2, cpK_3, ownK_1, ownK_2, ciM_1, ciM_2, ciL_1, ciK_1, ciK_2, ciK_3, ciH_1, ciH_2, mkN_1, mkL_1, mkL_2, mkK_1, mkK_2, mkK_3, olK_1, olK_2, muN_1, muN_2, muL_1, muL_2, muK_1, muK_2, muK_3, muH_1, muH_2, puN_1, puN_2, puM_1, puM_2, puL_1, puL_2, puH_1, puH_2, puK_1, puK_2, puK_3, oiK_1, oiK_2, sfL_1, sfL_2, sfK_1, sfK_2, sfK_3, psK_1, psK_2, slN_1, slN_2, slM_1, slM_2, slM_3, slL_1, slL_2, slL_3, slK_1, slK_2, slK_3, cnM_1, cnL_1, cnL_2, cnL_3, cnJ_1, cnJ_2, cnI_1, cnI_2, cnK_1, cnK_2, cnK_3, gD_1, gD_2, io0K_1, gI_1, gI_2, gNw_1, isB_str_non, isB_str_bl, isB_str_int, isB_str_str, isB_str_tup, isB_str_lst, isB_str_dk, isB_list_non, isB_list_bl, isB_list_int, isB_list_str, isB_list_tup, isB_list_lst, isB_list_dk, isB_tuple_non, isB_tuple_bl, isB_tuple_int, isB_tuple_str, isB_tuple_tup, isB_tuple_lst, isB_tuple_dk, isB_int_non, isB_int_bl, isB_int_int, isB_int_str, isB_int_tup, isB_int_lst, isB_int_dk, isB_bool_non, isB_bool_bl, isB_bool_int, isB_bool_str, isB_bool_tup, isB_bool_lst, isB_bool_dk, isB_dict_non, isB_dict_bl, isB_dict_int, isB_dict_str, isB_dict_tup, isB_dict_lst, isB_dict_dk, bK_1, sK_1, fI0_ii, fI_ii, addD_ii, lenD_lst, lenD_tup, tupD_lst, tupD_tup, listD_lst, listD_tup, kindD_lst, kindD_tup, revLD_lst, rown_ow, rown_io, sl_fr, sl_bo, sl_io, entry_n, entry_c, frOk_n, frOk_f, frOk_b, apart_n, apart_v, apart_s, startE, List.length_cons, List.length_nil, List.replicate, List.cons_append, List.nil_append, Nat.reduceAdd, Nat.reduceSub, Nat.zero_add, List.getElem?_cons_zero, List.getElem?_cons_succ, List.set_cons_zero, List.set_cons_succ, if_true, if_false, reduceIte, decide_true, decide_false, Bool.not_true, Bool.not_false, Bool.and_self, Bool.true_and, Bool.and_true, Bool.false_eq_true, LB, Nat.reduceLeDiff, Nat.reduceLT, Nat.reduceBNe, Nat.reduceBEq, $as,*])
set_option Elab.async false
set_option linter.all false
set_option maxRecDepth 100000
set_option maxHeartbeats 400000
/-! MAc: loops by an invariant over how far they are. -/
namespace DL
open PySem L2
theorem forL_from {α : Type} (enc : α → D) (g : Mg) (b : Ms) (Inv : Nat → En → Prop) : ∀ (as pre : List α) (δ : En), Inv pre.length δ →
    (∀ (i : Nat) (a : α) δ, (pre ++ as)[i]? = some a → Inv i δ → ∃ δ1 δ2, g (enc a) δ = some δ1 ∧ b δ1 = some (.nx δ2) ∧ Inv (i + 1) δ2) → ∃ δ', forL g b (as.map enc) δ = some (.nx δ') ∧ Inv (pre ++ as).length δ'
  | [], pre, δ, h, _ => ⟨δ, rfl, by rw [List.append_nil]; exact h⟩
  | a :: as, pre, δ, h, hs => by
    have e : pre ++ a :: as = (pre ++ [a]) ++ as := by simp
    obtain ⟨δ1, δ2, h1, h2, h3⟩ := hs pre.length a δ (by simp) h
    obtain ⟨δ', h4, h5⟩ := forL_from enc g b Inv as (pre ++ [a]) δ2 (by simpa using h3) (by rw [← e]; exact hs)
    refine ⟨δ', ?_, by rw [e]; exact h5⟩
    rw [List.map_cons]
    simp only [forL, h1, h2]
    exact h4
/-- a loop over as, by what holds behind i turns -/
theorem forL_ix {α : Type} {enc : α → D} {g : Mg} {b : Ms} {as : List α} (Inv : Nat → En → Prop) {δ : En} (h0 : Inv 0 δ)
    (hs : ∀ (i : Nat) (a : α) δ, as[i]? = some a → Inv i δ → ∃ δ1 δ2, g (enc a) δ = some δ1 ∧ b δ1 = some (.nx δ2) ∧ Inv (i + 1) δ2) : ∃ δ', forL g b (as.map enc) δ = some (.nx δ') ∧ Inv as.length δ' :=
  forL_from enc g b Inv as [] δ h0 hs
theorem lcL_from {α : Type} (enc : α → D) (g : Mg) (t : M Bool) (e : M D) (vs : List Nat) (Inv : Nat → List D → En → Prop) : ∀ (as pre : List α) (acc : List D) (δ : En), Inv pre.length acc δ →
    (∀ (i : Nat) (a : α) acc δ, (pre ++ as)[i]? = some a → Inv i acc δ → ∃ δ1 b δ2, g (enc a) δ = some δ1 ∧ t δ1 = some (.ok b δ2) ∧ (b = false → Inv (i + 1) acc (wipeE δ2 vs)) ∧ (b = true → ∃ y δ3, e δ2 = some (.ok y δ3) ∧ Inv (i + 1) (acc ++ [y]) (wipeE δ3 vs))) →
    ∃ out δ', lcL g t e vs acc (as.map enc) δ = some (.ok out δ') ∧ Inv (pre ++ as).length out δ'
  | [], pre, acc, δ, h, _ => ⟨acc, δ, rfl, by rw [List.append_nil]; exact h⟩
  | a :: as, pre, acc, δ, h, hs => by
    have e' : pre ++ a :: as = (pre ++ [a]) ++ as := by simp
    obtain ⟨δ1, b, δ2, h1, h2, h3, h4⟩ := hs pre.length a acc δ (by simp) h
    cases b with
    | false =>
      obtain ⟨out, δ', h5, h6⟩ := lcL_from enc g t e vs Inv as (pre ++ [a]) acc _ (by simpa using h3 rfl) (by rw [← e']; exact hs)
      refine ⟨out, δ', ?_, by rw [e']; exact h6⟩
      rw [List.map_cons]
      simp only [lcL, h1, h2]
      exact h5
    | true =>
      obtain ⟨y, δ3, h7, h8⟩ := h4 rfl
      obtain ⟨out, δ', h5, h6⟩ := lcL_from enc g t e vs Inv as (pre ++ [a]) (acc ++ [y]) _ (by simpa using h8) (by rw [← e']; exact hs)
      refine ⟨out, δ', ?_, by rw [e']; exact h6⟩
      rw [List.map_cons]
      simp only [lcL, h1, h2, h7]
      exact h5
/-- a comprehension over as, with a test or none, by what holds behind i turns -/
theorem mLc_ix {α : Type} {as : List α} {enc : α → D} {it : M (List D)} {g : Mg} {t : M Bool} {e : M D} {vs : List Nat} {δ δ0 : En} (Inv : Nat → List D → En → Prop) (hit : it δ = some (.ok (as.map enc) δ0)) (h0 : Inv 0 [] (wipeE δ0 vs))
    (hs : ∀ (i : Nat) (a : α) acc δ, as[i]? = some a → Inv i acc δ → ∃ δ1 b δ2, g (enc a) δ = some δ1 ∧ t δ1 = some (.ok b δ2) ∧ (b = false → Inv (i + 1) acc (wipeE δ2 vs)) ∧ (b = true → ∃ y δ3, e δ2 = some (.ok y δ3) ∧ Inv (i + 1) (acc ++ [y]) (wipeE δ3 vs))) :
    ∃ out δ', mLc it g t e vs δ = some (.ok (.lst out) δ') ∧ Inv as.length out δ' := by
  obtain ⟨out, δ', h1, h2⟩ := lcL_from enc g t e vs Inv as [] [] _ h0 hs
  refine ⟨out, δ', ?_, h2⟩
  unfold mLc M.bind
  simp only [hit, h1]
theorem mulOk_r {i j : Int} (h : -1000000 ≤ j ∧ j ≤ 1000000) : mulOk i j = true := by
  unfold mulOk small64
  simp only [Bool.or_eq_true, Bool.and_eq_true, decide_eq_true_eq]
  right
  omega
end DL

set_option Elab.async false
set_option linter.all false
set_option maxRecDepth 100000
set_option maxHeartbeats 400000
/-! MAd: sorting data: what sortD gives. -/
namespace DL
open PySem L2
open PySem.W (dataLe dataLt alike keyToks)
abbrev dLe : D → D → Bool := dataLe false encD
theorem dLe_eq (a b : D) : dLe a b = !dataLt (encD b) (encD a) := rfl
theorem lt_irr (p : PyData) : dataLt p p = false := PyProof.Rows.lex_irrefl _
theorem lt_tr {p q r : PyData} (h1 : dataLt p q = true) (h2 : dataLt q r = true) : dataLt p r = true := PyProof.Rows.lex_trans _ _ _ h1 h2
theorem lt_tot {p q : PyData} (h1 : dataLt p q = false) (h2 : dataLt q p = false) : keyToks p = keyToks q := PyProof.Rows.lex_total _ _ h1 h2
theorem dLe_total (a b : D) : (dLe a b || dLe b a) = true := by
  rw [dLe_eq, dLe_eq]
  cases h1 : dataLt (encD b) (encD a) with
  | false => rfl
  | true =>
    cases h2 : dataLt (encD a) (encD b) with
    | false => rfl
    | true =>
      have := lt_tr h1 h2
      rw [lt_irr] at this
      cases this
theorem dLe_trans (a b c : D) (h1 : dLe a b = true) (h2 : dLe b c = true) : dLe a c = true := by
  rw [dLe_eq, Bool.not_eq_true'] at *
  cases h3 : dataLt (encD c) (encD a) with
  | false => rfl
  | true =>
    cases h4 : dataLt (encD a) (encD b) with
    | true =>
      have := lt_tr h3 h4
      rw [h2] at this
      cases this
    | false =>
      have e := lt_tot h4 h1
      have : dataLt (encD c) (encD b) = true := by
        unfold dataLt at h3 ⊢
        rw [← e]
        exact h3
      rw [h2] at this
      cases this
theorem sortD_perm (ds : List D) : (sortD ds).Perm ds := List.mergeSort_perm ds _
theorem sortD_sorted (ds : List D) : (sortD ds).Pairwise fun a b => dLe a b = true := List.pairwise_mergeSort dLe_trans dLe_total ds
theorem sortD_of {ds : List D} (h : ds.Pairwise fun a b => dLe a b = true) : sortD ds = ds := List.mergeSort_of_pairwise h
theorem sortD_idem (ds : List D) : sortD (sortD ds) = sortD ds := sortD_of (sortD_sorted ds)
theorem perm_map {α : Type} {f : α → D} {ds : List D} {as : List α} (p : ds.Perm (as.map f)) : ∃ bs : List α, ds = bs.map f ∧ bs.Perm as := by
  generalize hl : as.map f = l at p
  induction p generalizing as with
  | nil => exact ⟨[], rfl, by have : as = [] := by simpa using hl
                              rw [this]⟩
  | cons x p ih =>
    cases as with
    | nil => cases hl
    | cons a as =>
      rw [List.map_cons] at hl
      cases hl
      obtain ⟨bs, rfl, q⟩ := ih rfl
      exact ⟨a :: bs, rfl, q.cons a⟩
  | swap x y l =>
    cases as with
    | nil => cases hl
    | cons a as =>
      cases as with
      | nil => cases hl
      | cons b as =>
        rw [List.map_cons, List.map_cons] at hl
        cases hl
        exact ⟨b :: a :: as, rfl, List.Perm.swap a b as⟩
  | trans p1 p2 ih1 ih2 =>
    obtain ⟨bs, rfl, q⟩ := ih2 hl
    obtain ⟨bs', rfl, q'⟩ := ih1 rfl
    exact ⟨bs', rfl, q'.trans q⟩
end DL

set_option linter.all false
/-! PGa: plain arithmetic: factorials, products, ways to change about. -/
namespace PG
def fac : Nat → Nat
  | 0 => 1
  | n + 1 => fac n * (n + 1)
/-- the product -/
def pr : List Nat → Nat
  | [] => 1
  | n :: ns => n * pr ns
section
variable {α : Type} [DecidableEq α]
/-- the ways, one by one: each behind those that are like it -/
def rk : List α → List α → Nat
  | _, [] => 1
  | pre, x :: xs => (1 + pre.count x) * rk (pre ++ [x]) xs
def ways (ns xs : List α) : Nat := pr (ns.map fun n => fac (xs.count n))
/-- the ways of corners and of ends: each corner behind those like it, then its ends -/
def ch {β : Type} [DecidableEq β] (own : α → List β) : List α → List α → Nat
  | _, [] => 1
  | pre, x :: xs => (1 + pre.count x) * rk [] (own x) * ch own (pre ++ [x]) xs
end
end PG

set_option linter.all false
/-! PGb: plain: in how many ways ends fall into pairs. -/
namespace PG
section
variable {α : Type} [DecidableEq α]
end
end PG

set_option linter.all false
/-! PGc: plain: ways when one is taken away; sums over kinds. -/
namespace PG
section
variable {α : Type} [DecidableEq α]
end
end PG

set_option linter.all false
/-! PGd: plain Lean: how many unlike ones a list has; marks tied together; rings. -/
namespace PG
section
variable {α : Type} [DecidableEq α]
def dp : List α → List α
  | [] => []
  | x :: r => if x ∈ r then dp r else x :: dp r
theorem mem_dp {x : α} : ∀ {m : List α}, x ∈ dp m ↔ x ∈ m
  | [] => Iff.rfl
  | y :: r => by
    unfold dp
    by_cases h : y ∈ r
    · rw [if_pos h, mem_dp, List.mem_cons]
      exact ⟨Or.inr, fun z => z.elim (fun e => e ▸ h) id⟩
    · rw [if_neg h, List.mem_cons, List.mem_cons, mem_dp]
theorem nodup_dp : ∀ (m : List α), (dp m).Nodup
  | [] => List.nodup_nil
  | y :: r => by
    unfold dp
    by_cases h : y ∈ r
    · rw [if_pos h]; exact nodup_dp r
    · rw [if_neg h]; exact List.nodup_cons.mpr ⟨fun z => h (mem_dp.mp z), nodup_dp r⟩
theorem len_le_of {xs ys : List α} (h : xs.Nodup) (s : ∀ x ∈ xs, x ∈ ys) : xs.length ≤ ys.length := by
  induction xs generalizing ys with
  | nil => exact Nat.zero_le _
  | cons a xs ih =>
    have ha : a ∈ ys := s a List.mem_cons_self
    have hn := List.nodup_cons.mp h
    have := ih hn.2 (ys := ys.erase a) fun x hx => (List.mem_erase_of_ne fun e => hn.1 (by rw [← e]; exact hx)).mpr (s x (List.mem_cons_of_mem _ hx))
    rw [List.length_erase_of_mem ha] at this
    have := List.length_pos_of_mem ha
    rw [List.length_cons]
    omega
/-- how many unlike ones there are -/
def nd (m : List α) : Nat := (dp m).length
theorem nd_of {u m : List α} (h : u.Nodup) (hm : ∀ x, x ∈ u ↔ x ∈ m) : nd m = u.length :=
  Nat.le_antisymm (len_le_of (nodup_dp m) fun x hx => (hm x).mpr (mem_dp.mp hx)) (len_le_of h fun x hx => mem_dp.mpr ((hm x).mp hx))
end
/-- marks x and y tied: the higher one is called as the lower -/
def tie (m : List Int) (x y : Int) : List Int := m.map fun z => if z = max x y then min x y else z
theorem tie_len (m : List Int) (x y : Int) : (tie m x y).length = m.length := List.length_map ..
end PG

set_option linter.all false
/-! PGe: plain Lean: marks tied join by join; how many joins tie what is tied already; two drawings beside one another. -/
namespace PG
def runM : List (Nat × Nat) → List Int → List Int
  | [], m => m
  | p :: ps, m => runM ps (tie m (m.getD p.1 0) (m.getD p.2 0))
theorem getD_mem {m : List Int} {a : Nat} (h : a < m.length) : m.getD a 0 ∈ m := by
  rw [List.getD_eq_getElem?_getD, List.getElem?_eq_getElem h]
  exact List.getElem_mem h
end PG

set_option linter.all false
/-! PGf: plain Lean: marks and the groups that hang together; a search from place to place. -/
namespace PG
/-- marks: of each place the least one with which it hangs together -/
structure MarkOk (n : Nat) (m : List Int) : Prop where
  len : m.length = n
  lo : ∀ p, p < n → 0 ≤ m.getD p 0 ∧ m.getD p 0 ≤ (p : Int)
  fx : ∀ p, p < n → m.getD (m.getD p 0).toNat 0 = m.getD p 0
theorem getD_map {m : List Int} {f : Int → Int} {p : Nat} (h : p < m.length) : (m.map f).getD p 0 = f (m.getD p 0) := by
  rw [List.getD_eq_getElem?_getD, List.getD_eq_getElem?_getD, List.getElem?_map, List.getElem?_eq_getElem h]
  rfl
theorem tie_getD {m : List Int} {x y : Int} {p : Nat} (h : p < m.length) : (tie m x y).getD p 0 = if m.getD p 0 = max x y then min x y else m.getD p 0 := getD_map h
theorem mx_mn (x y : Int) : (max x y = x ∧ min x y = y) ∨ (max x y = y ∧ min x y = x) := by omega
theorem MarkOk.tie {n : Nat} {m : List Int} (h : MarkOk n m) {a b : Nat} (ha : a < n) (hb : b < n) : MarkOk n (tie m (m.getD a 0) (m.getD b 0)) := by
  have la := h.lo a ha
  have lb := h.lo b hb
  have fa := h.fx a ha
  have fb := h.fx b hb
  obtain ⟨x, hx⟩ : ∃ x, x = m.getD a 0 := ⟨_, rfl⟩
  obtain ⟨y, hy⟩ : ∃ y, y = m.getD b 0 := ⟨_, rfl⟩
  rw [← hx] at la fa ⊢
  rw [← hy] at lb fb ⊢
  have fmn : m.getD (min x y).toNat 0 = min x y := by rcases mx_mn x y with ⟨_, e⟩ | ⟨_, e⟩ <;> rw [e] <;> assumption
  refine ⟨by rw [tie_len]; exact h.len, fun p hp => ?_, fun p hp => ?_⟩
  · rw [tie_getD (by rw [h.len]; exact hp)]
    have := h.lo p hp
    split <;> omega
  · have lp := h.lo p hp
    have ep : (PG.tie m x y).getD p 0 = if m.getD p 0 = max x y then min x y else m.getD p 0 := tie_getD (by rw [h.len]; exact hp)
    by_cases e : m.getD p 0 = max x y
    · rw [if_pos e] at ep
      rw [ep, tie_getD (by rw [h.len]; omega), fmn]
      split <;> rfl
    · rw [if_neg e] at ep
      rw [ep, tie_getD (by rw [h.len]; omega), h.fx p hp, if_neg e]
theorem MarkOk.run {n : Nat} : ∀ {ps : List (Nat × Nat)} {m : List Int}, MarkOk n m → (∀ p ∈ ps, p.1 < n ∧ p.2 < n) → MarkOk n (runM ps m)
  | [], m, h, _ => h
  | p :: ps, m, h, hp => by
    unfold runM
    have h1 := hp p List.mem_cons_self
    exact MarkOk.run (h.tie h1.1 h1.2) fun q hq => hp q (List.mem_cons_of_mem _ hq)
/-- the least places of the groups -/
def heads (n : Nat) (m : List Int) : List Nat := (List.range n).filter fun p => decide (m.getD p 0 = (p : Int))
theorem mem_heads {n : Nat} {m : List Int} {p : Nat} : p ∈ heads n m ↔ p < n ∧ m.getD p 0 = (p : Int) := by
  unfold heads; rw [List.mem_filter, List.mem_range, decide_eq_true_eq]
theorem MarkOk.mem {n : Nat} {m : List Int} (h : MarkOk n m) (z : Int) : z ∈ m ↔ 0 ≤ z ∧ z.toNat ∈ heads n m := by
  constructor
  · intro hz
    obtain ⟨i, hi, e⟩ := List.mem_iff_getElem.mp hz
    have hi' : i < n := by rw [← h.len]; exact hi
    have e' : m.getD i 0 = z := by rw [List.getD_eq_getElem?_getD, List.getElem?_eq_getElem hi]; exact e
    have l := h.lo i hi'
    have f := h.fx i hi'
    rw [e'] at l f
    exact ⟨l.1, mem_heads.mpr ⟨by omega, by rw [f]; omega⟩⟩
  · rintro ⟨h0, hz⟩
    obtain ⟨h1, h2⟩ := mem_heads.mp hz
    have : z = m.getD z.toNat 0 := by rw [h2]; omega
    rw [this]
    exact getD_mem (by rw [h.len]; exact h1)
theorem MarkOk.nd {n : Nat} {m : List Int} (h : MarkOk n m) : nd m = (heads n m).length := by
  have e : (heads n m).length = ((heads n m).map fun p : Nat => (p : Int)).length := (List.length_map ..).symm
  rw [e]
  refine nd_of ?_ fun z => ?_
  · refine List.Pairwise.map _ ?_ ((List.nodup_range (n := n)).filter _)
    intro a b h z
    exact h (by omega)
  · rw [h.mem z, List.mem_map]
    constructor
    · rintro ⟨p, hp, rfl⟩
      exact ⟨by omega, by rw [Int.toNat_natCast]; exact hp⟩
    · rintro ⟨h0, hp⟩
      exact ⟨z.toNat, hp, by omega⟩
structure RowOk (n : Nat) (S : Nat → Prop) (row : List Nat) : Prop where
  nd : row.Nodup
  lt : ∀ x ∈ row, x < n
  s : ∀ x ∈ row, S x
theorem RowOk.len {n : Nat} {S : Nat → Prop} {row : List Nat} (h : RowOk n S row) : row.length ≤ n := by
  have := len_le_of h.nd (ys := List.range n) fun x hx => List.mem_range.mpr (h.lt x hx)
  rwa [List.length_range] at this
end PG

set_option Elab.async false
set_option linter.all false
set_option maxRecDepth 100000
set_option maxHeartbeats 400000
/-! PMa: printed by gen.py: what the defs on stocks, and the laws' drawing helpers, compute. -/
namespace G
open PySem L2 DL
structure Cs where
  stock : Addr
  drawing : Addr
  weights : Addr
  desk : Addr
  x : Nat → Addr
  w : World
abbrev N_is_name : List Str := ["thing", "letter"]
def E_is_name_0 (c : Cs) : M D := m2 (inSignD false) (mOv 1) (mVal (mC (.str "abcdefghijklmnopqrstuvwxyz")))
def L_is_name_0 (c : Cs) : M D := mLc (mTxtOf (mVar 0)) (gN 1) mYes (E_is_name_0 c) [1]
def m_is_name (c : Cs) : Ms := mSeq (mIf (mOr (mNot (mTest (m1 (isB "str") (mOv 0)))) (mNot (mTest (mChain (fI0 fun i j => .bl (decide (i ≤ j))) (fI0 fun i j => .bl (decide (i ≤ j))) (mVal (mC (.int 1))) (mVal (mA (fA1 lenD) (maCons (mOv 0) maNil))) (mVal (mC (.int 8))))))) (mRet (mC (.bl false))) (mNext)) (mRet (mA (fA1 allD) (maCons (mVal (L_is_name_0 c)) maNil)))
def g_is_name (c : Cs) : List D → Option D := defG 2 [.fr] (m_is_name c)
abbrev N_is_sort_row : List Str := ["thing"]
def m_is_sort_row (c : Cs) : Ms := mRet (mAndV (m1 (isB "tuple") (mOv 0)) (mAndV (m2 eqD (mVal (mA (fA1 lenD) (maCons (mOv 0) maNil))) (mVal (mC (.int 2)))) (mAndV (mCallP [.fr] (g_is_name c) (maCons (mVal (m2 ixD (mOv 0) (mVal (mC (.int 0))))) maNil)) (mCallP [.fr] (g_is_name c) (maCons (mVal (m2 ixD (mOv 0) (mVal (mC (.int 1))))) maNil)))))
def g_is_sort_row (c : Cs) : List D → Option D := defG 1 [.fr] (m_is_sort_row c)
abbrev N_are_sorts : List Str := ["thing", "row", "sort", "partner"]
def E_are_sorts_0 (c : Cs) : M D := mCallP [.fr] (g_is_sort_row c) (maCons (mVal (mVar 1)) maNil)
def L_are_sorts_0 (c : Cs) : M D := mLc (mSeqB 0) (gN 1) mYes (E_are_sorts_0 c) [1]
def E_are_sorts_1 (c : Cs) : M D := mVar 2
def L_are_sorts_1 (c : Cs) : M D := mLc (mSeqB 0) (gT (gsC (gN 2) (gsC (gN 3) gs0))) mYes (E_are_sorts_1 c) [2, 3]
def E_are_sorts_2 (c : Cs) : M D := m2 (inLD false) (mVal (mTup (mdCons (mVar 3) (mdCons (mVar 2) mdNil)))) (mOv 0)
def L_are_sorts_2 (c : Cs) : M D := mLc (mSeqB 0) (gT (gsC (gN 2) (gsC (gN 3) gs0))) mYes (E_are_sorts_2 c) [2, 3]
def m_are_sorts (c : Cs) : Ms := mSeq (mIf (mOr (mNot (mTest (m1 (isB "list") (mOv 0)))) (mOr (mNot (mTest (mChain (fI0 fun i j => .bl (decide (i ≤ j))) (fI0 fun i j => .bl (decide (i ≤ j))) (mVal (mC (.int 1))) (mVal (mA (fA1 lenD) (maCons (mOv 0) maNil))) (mVal (mC (.int 3)))))) (mNot (mTest (mA (fA1 allD) (maCons (mVal (L_are_sorts_0 c)) maNil)))))) (mRet (mC (.bl false))) (mNext)) (mSeq (mIf (mTest (m2 (fI0 fun i j => .bl (decide (i < j))) (mVal (mA (fA1 lenSetD) (maCons (mVal (L_are_sorts_1 c)) maNil))) (mVal (mA (fA1 lenD) (maCons (mOv 0) maNil))))) (mRet (mC (.bl false))) (mNext)) (mRet (mA (fA1 allD) (maCons (mVal (L_are_sorts_2 c)) maNil))))
def g_are_sorts (c : Cs) : List D → Option D := defG 4 [.bo] (m_are_sorts c)
abbrev N_is_kind_row : List Str := ["thing", "sorts", "ends", "sort"]
def E_is_kind_row_0 (c : Cs) : M D := mCallP [.fr] (g_is_name c) (maCons (mVal (mVar 3)) maNil)
def L_is_kind_row_0 (c : Cs) : M D := mLc (mTupOf (mVar 2)) (gN 3) mYes (E_is_kind_row_0 c) [3]
def E_is_kind_row_1 (c : Cs) : M D := m2 (inLD false) (mOv 3) (mOv 1)
def L_is_kind_row_1 (c : Cs) : M D := mLc (mTupOf (mVar 2)) (gN 3) mYes (E_is_kind_row_1 c) [3]
def m_is_kind_row (c : Cs) : Ms := mSeq (mIf (mOr (mNot (mTest (m1 (isB "tuple") (mOv 0)))) (mOr (mTest (m2 neD (mVal (mA (fA1 lenD) (maCons (mOv 0) maNil))) (mVal (mC (.int 2))))) (mNot (mTest (mCallP [.fr] (g_is_name c) (maCons (mVal (m2 ixD (mOv 0) (mVal (mC (.int 0))))) maNil)))))) (mRet (mC (.bl false))) (mNext)) (mSeq (mAsg (gN 2) (m2 ixD (mOv 0) (mVal (mC (.int 1))))) (mSeq (mIf (mOr (mNot (mTest (m1 (isB "tuple") (mOv 2)))) (mOr (mNot (mTest (mChain (fI0 fun i j => .bl (decide (i ≤ j))) (fI0 fun i j => .bl (decide (i ≤ j))) (mVal (mC (.int 1))) (mVal (mA (fA1 lenD) (maCons (mOv 2) maNil))) (mVal (mC (.int 5)))))) (mNot (mTest (mA (fA1 allD) (maCons (mVal (L_is_kind_row_0 c)) maNil)))))) (mRet (mC (.bl false))) (mNext)) (mRet (mAndV (mA (fA1 allD) (maCons (mVal (L_is_kind_row_1 c)) maNil)) (m2 eqD (mVal (mnA (fN1 listD) (maCons (mOv 2) maNil))) (mVal (mnA (fN1 sortF) (maCons (mOv 2) maNil))))))))
def g_is_kind_row (c : Cs) : List D → Option D := defG 4 [.fr, .fr] (m_is_kind_row c)
abbrev N_are_kinds : List Str := ["thing", "sorts", "row", "name", "ends"]
def E_are_kinds_0 (c : Cs) : M D := mCallP [.fr, .fr] (g_is_kind_row c) (maCons (mVal (mVar 2)) (maCons (mVal (mVar 1)) maNil))
def L_are_kinds_0 (c : Cs) : M D := mLc (mSeqB 0) (gN 2) mYes (E_are_kinds_0 c) [2]
def E_are_kinds_1 (c : Cs) : M D := mVar 3
def L_are_kinds_1 (c : Cs) : M D := mLc (mSeqB 0) (gT (gsC (gN 3) (gsC (gN 4) gs0))) mYes (E_are_kinds_1 c) [3, 4]
def m_are_kinds (c : Cs) : Ms := mSeq (mIf (mOr (mNot (mTest (m1 (isB "list") (mOv 0)))) (mNot (mTest (mChain (fI0 fun i j => .bl (decide (i ≤ j))) (fI0 fun i j => .bl (decide (i ≤ j))) (mVal (mC (.int 1))) (mVal (mA (fA1 lenD) (maCons (mOv 0) maNil))) (mVal (mC (.int 4))))))) (mRet (mC (.bl false))) (mNext)) (mSeq (mIf (mNot (mTest (mA (fA1 allD) (maCons (mVal (L_are_kinds_0 c)) maNil)))) (mRet (mC (.bl false))) (mNext)) (mRet (m2 eqD (mVal (mA (fA1 lenSetD) (maCons (mVal (L_are_kinds_1 c)) maNil))) (mVal (mA (fA1 lenD) (maCons (mOv 0) maNil))))))
def g_are_kinds (c : Cs) : List D → Option D := defG 5 [.bo, .fr] (m_are_kinds c)
abbrev N_Stock___init__ : List Str := ["self", "sorts", "kinds", "sort", "partner"]
def E_Stock___init___0 (c : Cs) : M D := mVar 3
def L_Stock___init___0 (c : Cs) : M D := mLc (mSeqB 1) (gT (gsC (gN 3) (gsC (gN 4) gs0))) mYes (E_Stock___init___0 c) [3, 4]
def m_Stock___init__ (c : Cs) : Ms := mSeq (mIf (mNot (mTest (mCallP [.bo] (g_are_sorts c) (maCons (mOv 1) maNil)))) (mNever) (mNext)) (mSeq (mIf (mNot (mTest (mCallP [.bo, .fr] (g_are_kinds c) (maCons (mOv 2) (maCons (mVal (L_Stock___init___0 c)) maNil))))) (mNever) (mNext)) (mSeq (mSetF c.stock 0 "sorts" (mnA (fN1 listD) (maCons (mOv 1) maNil))) (mSetF c.stock 0 "kinds" (mnA (fN1 listD) (maCons (mOv 2) maNil)))))
def g_Stock___init__ (c : Cs) : List D → Option (D × D) := defI 5 [.bo, .bo] (m_Stock___init__ c)
def m__law_pick (c : Cs) : Ms := mSeq (mIf (mTest (m2 (fI0 fun i j => .bl (decide (j ≤ i))) (mVal (m2 ixD (mOv 0) (mVal (mC (.int 0))))) (mVal (m2 (fI powOk fun i j => .int (i ^ j.toNat)) (mVal (mC (.int 10))) (mVal (mC (.int 15))))))) (mSeq (mAsg (gN 2) (m2 (fI modOk fun i j => .int (i % j)) (mVal (m2 ixD (mOv 0) (mVal (mC (.int 0))))) (mOv 1))) (mSeq (mPutI 0 (mC (.int 0)) (m2 (fI divOk fun i j => .int (i / j)) (mVal (m2 ixD (mOv 0) (mVal (mC (.int 0))))) (mOv 1))) (mRet (mVar 2)))) (mNext)) (mSeq (mPutI 0 (mC (.int 2)) (m2 addD (mVal (m2 ixD (mOv 0) (mVal (mC (.int 2))))) (mVal (mC (.int 1))))) (mSeq (mAsg (gN 3) (m2 (fI modOk fun i j => .int (i % j)) (mVal (m2 addD (mVal (m2 addD (mVal (m2 (fI mulOk fun i j => .int (i * j)) (mVal (m2 ixD (mOv 0) (mVal (mC (.int 1))))) (mVal (mC (.int 48271))))) (mVal (m2 (fI mulOk fun i j => .int (i * j)) (mVal (mC (.int 7919))) (mVal (m2 ixD (mOv 0) (mVal (mC (.int 2))))))))) (mVal (mC (.int 12345))))) (mVal (mC (.int 2147483647))))) (mSeq (mAsg (gN 3) (m2 (fI modOk fun i j => .int (i % j)) (mVal (m2 (fI mulOk fun i j => .int (i * j)) (mOv 3) (mVal (m2 addD (mVal (m2 (fI divOk fun i j => .int (i / j)) (mOv 3) (mVal (mC (.int 997))))) (mVal (mC (.int 69069))))))) (mVal (mC (.int 2147483629))))) (mSeq (mPutI 0 (mC (.int 1)) (mVar 3)) (mRet (m2 (fI modOk fun i j => .int (i % j)) (mVal (m2 (fI divOk fun i j => .int (i / j)) (mOv 3) (mVal (mC (.int 11))))) (mOv 1)))))))
def g__law_pick (c : Cs) : List D → Option (D × D) := defI 4 [.fr] (m__law_pick c)
end G

set_option Elab.async false
set_option linter.all false
set_option maxRecDepth 100000
set_option maxHeartbeats 400000
/-! PMb: printed by gen.py: what the defs on ends and counts, and the laws' grounds, compute. -/
namespace G
open PySem L2 DL
end G

set_option Elab.async false
set_option linter.all false
set_option maxRecDepth 100000
set_option maxHeartbeats 400000
/-! PMc: printed by gen.py: fractions, sums, and the laws' own reckonings. -/
namespace G
open PySem L2 DL
end G

set_option Elab.async false
set_option linter.all false
set_option maxRecDepth 100000
set_option maxHeartbeats 400000
/-! PMd: printed by gen.py: drawings, and the laws' drawn ones. -/
namespace G
open PySem L2 DL
abbrev N_Stock___eq__ : List Str := ["self", "thing"]
def m_Stock___eq__ (c : Cs) : Ms := mRet (mAndV (m1 (isC c.stock) (mOv 1)) (mAndV (m2 eqD (mVal (m1 (fldD [c.stock] "sorts") (mOv 0))) (mVal (m1 (fldD [c.stock] "sorts") (mOv 1)))) (m2 eqD (mVal (m1 (fldD [c.stock] "kinds") (mOv 0))) (mVal (m1 (fldD [c.stock] "kinds") (mOv 1))))))
def g_Stock___eq__ (c : Cs) : List D → Option D := defG 2 [.bo, .bo] (m_Stock___eq__ c)
end G

set_option Elab.async false
set_option linter.all false
set_option maxRecDepth 100000
set_option maxHeartbeats 4000000
/-! PMe: printed by gen.py: parts, and the first family of the laws' helpers. -/
namespace GA
open PySem L2 DL G
abbrev N__law_source_of : List Str := ["_law_cell"]
def m__law_source_of (c : Cs) : Ms := mRetW (mLst (mdCons (m2 (fI mulOk fun i j => .int (i * j)) (mOv 0) (mVal (mA (fA1 intD) (maCons (mVal (m2 (fI0 fun i j => .bl (decide (j ≤ i))) (mOv 0) (mVal (m2 (fI powOk fun i j => .int (i ^ j.toNat)) (mVal (mC (.int 10))) (mVal (mC (.int 18))))))) maNil)))) (mdCons (m2 (fI modOk fun i j => .int (i % j)) (mOv 0) (mVal (mC (.int 2147483647)))) (mdCons (mC (.int 0)) mdNil))))
def g__law_source_of (c : Cs) : List D → Option D := defN 1 [.fr] (m__law_source_of c)
abbrev N__law_next : List Str := ["_law_source", "_law_many", "_law_found", "_law_prime", "_law_figure"]
def m__law_next (c : Cs) : Ms := mSeq (mIf (mTest (m2 (fI0 fun i j => .bl (decide (j < i))) (mVal (m2 ixD (mOv 0) (mVal (mC (.int 0))))) (mVal (mC (.int 0))))) (mSeq (mAsg (gN 2) (m2 (fI modOk fun i j => .int (i % j)) (mVal (m2 ixD (mOv 0) (mVal (mC (.int 0))))) (mOv 1))) (mSeq (mPutI 0 (mC (.int 0)) (m2 (fI divOk fun i j => .int (i / j)) (mVal (m2 ixD (mOv 0) (mVal (mC (.int 0))))) (mOv 1))) (mRet (mVar 2)))) (mNext)) (mSeq (mPutI 0 (mC (.int 2)) (m2 addD (mVal (m2 ixD (mOv 0) (mVal (mC (.int 2))))) (mVal (mC (.int 1))))) (mSeq (mAsg (gN 3) (m2 ixD (mVal (mLst (mdCons (mC (.int 2147483647)) (mdCons (mC (.int 2147483629)) (mdCons (mC (.int 2147483587)) (mdCons (mC (.int 2147483579)) (mdCons (mC (.int 2147483563)) (mdCons (mC (.int 2147483549)) (mdCons (mC (.int 2147483543)) mdNil))))))))) (mVal (m2 (fI modOk fun i j => .int (i % j)) (mVal (m2 ixD (mOv 0) (mVal (mC (.int 2))))) (mVal (mC (.int 7))))))) (mSeq (mAsg (gN 4) (m2 (fI modOk fun i j => .int (i % j)) (mVal (m2 (fI powOk fun i j => .int (i ^ j.toNat)) (mVal (m2 addD (mVal (m2 addD (mVal (m2 ixD (mOv 0) (mVal (mC (.int 1))))) (mVal (m2 (fI mulOk fun i j => .int (i * j)) (mVal (mC (.int 7919))) (mVal (m2 ixD (mOv 0) (mVal (mC (.int 2))))))))) (mVal (mC (.int 1))))) (mVal (mC (.int 5))))) (mOv 3))) (mSeq (mAsg (gN 4) (m2 (fI modOk fun i j => .int (i % j)) (mVal (m2 (fI mulOk fun i j => .int (i * j)) (mVal (m2 addD (mOv 4) (mVal (m2 ixD (mOv 0) (mVal (mC (.int 2))))))) (mVal (m2 addD (mVal (m2 (fI divOk fun i j => .int (i / j)) (mOv 4) (mVal (mC (.int 1009))))) (mVal (mC (.int 69621))))))) (mOv 3))) (mRet (m2 (fI modOk fun i j => .int (i % j)) (mVal (m2 (fI divOk fun i j => .int (i / j)) (mOv 4) (mVal (mC (.int 7))))) (mOv 1)))))))
def g__law_next (c : Cs) : List D → Option (D × D) := defI 5 [.fr] (m__law_next c)
abbrev N__law_one : List Str := ["_law_source", "_law_some"]
def m__law_one (c : Cs) : Ms := mRet (m2 ixD (mOv 1) (mVal (mCallI 0 [.fr] (g__law_next c) (maCons (mVal (mA (fA1 lenD) (maCons (mOv 1) maNil))) maNil))))
def g__law_one (c : Cs) : List D → Option (D × D) := defI 2 [.fr] (m__law_one c)
abbrev N__law_names : List Str := ["_law_source", "_law_many", "_law_some", "_law_at", "_law_found", "_law_last", "_law_word", "_law_k"]
def B__law_names_0 (c : Cs) : Ms := mAsg (gN 6) (m2 addD (mOv 6) (mVal (m2 ixD (mVal (mC (.str "abcdefghijklmnopqrstuvwxyz"))) (mVal (mCallI 0 [.fr] (g__law_next c) (maCons (mVal (mC (.int 26))) maNil))))))
def B__law_names_1 (c : Cs) : Ms := mSeq (mAsg (gN 6) (mC (.str ""))) (mSeq (mFor (mIt rg1 (mdCons (mCallI 0 [.fr] (g__law_one c) (maCons (mVal (mLst (mdCons (mC (.int 0)) (mdCons (mC (.int 1)) (mdCons (mCallI 0 [.fr] (g__law_next c) (maCons (mVal (mC (.int 8))) maNil)) mdNil))))) maNil)) mdNil)) (gN 7) (B__law_names_0 c)) (mDrop (mMut appF 4 (mdCons (m2 addD (mOv 6) (mOv 5)) mdNil))))
def m__law_names (c : Cs) : Ms := mSeq (mAsgO 2 (mLst (mdCons (mC (.str "a")) (mdCons (mC (.str "ab")) (mdCons (mC (.str "leg")) (mdCons (mC (.str "b")) (mdCons (mC (.str "sort")) (mdCons (mC (.str "abc")) (mdCons (mC (.str "join")) (mdCons (mC (.str "zzzzzzzz")) (mdCons (mC (.str "ba")) (mdCons (mC (.str "kind")) mdNil)))))))))))) (mSeq (mAsg (gN 3) (mCallI 0 [.fr] (g__law_next c) (maCons (mVal (mC (.int 10))) maNil))) (mSeq (mIf (mTest (m2 eqD (mVal (mCallI 0 [.fr] (g__law_next c) (maCons (mVal (mC (.int 2))) maNil))) (mVal (mC (.int 0))))) (mRet (mSl slD (mVal (m2 addD (mVal (mSl slD (mOv 2) (mpSome (mVar 3)) mpNone)) (mVal (mSl slD (mOv 2) mpNone (mpSome (mVar 3)))))) mpNone (mpSome (mVar 1)))) (mNext)) (mSeq (mAsgO 4 (mLst mdNil)) (mSeq (mFor (mTxtOf (mSl slD (mVal (mC (.str "mkxqwt"))) mpNone (mpSome (mVar 1)))) (gN 5) (B__law_names_1 c)) (mRet (mVar 4))))))
def g__law_names (c : Cs) : List D → Option (D × D) := defI 8 [.fr] (m__law_names c)
def E__law_stock_0 (c : Cs) : M D := m2 ixD (mVal (mCallI 0 [.fr] (g__law_one c) (maCons (mVal (mVar 7)) maNil))) (mVal (mC (.int 0)))
def L__law_stock_0 (c : Cs) : M D := mLc (mIt rg1 (mdCons (mCallI 0 [.fr] (g__law_one c) (maCons (mVal (mLst (mdCons (m2 addD (mVal (mC (.int 1))) (mVal (mCallI 0 [.fr] (g__law_next c) (maCons (mVal (mVar 1)) maNil)))) (mdCons (mVar 1) (mdCons (mC (.int 3)) mdNil))))) maNil)) mdNil)) (gN 11) mYes (E__law_stock_0 c) [11]
def B__law_stock_0 (c : Cs) : Ms := mSeq (mAsgO 10 (L__law_stock_0 c)) (mDrop (mMut appF 8 (mdCons (mTup (mdCons (mVar 9) (mdCons (mA (fA1 tupD) (maCons (mVal (mnA (fN1 sortF) (maCons (mOv 10) maNil))) maNil)) mdNil))) mdNil)))
end GA

set_option Elab.async false
set_option linter.all false
set_option maxRecDepth 100000
set_option maxHeartbeats 4000000
/-! PMf: printed by gen.py: parts, drawings compared. -/
namespace GA
open PySem L2 DL G
end GA

set_option Elab.async false
set_option linter.all false
set_option maxRecDepth 100000
set_option maxHeartbeats 4000000
/-! PMg: printed by gen.py: cutting. -/
namespace GA
open PySem L2 DL G
end GA

set_option Elab.async false
set_option linter.all false
set_option maxRecDepth 100000
set_option maxHeartbeats 4000000
/-! PMh: printed by gen.py: joining legs. -/
namespace GA
open PySem L2 DL G
end GA

set_option Elab.async false
set_option linter.all false
set_option maxRecDepth 100000
set_option maxHeartbeats 400000
/-! MBa: what the drawing helpers of the laws (state, pick, words) give. -/
namespace G
open PySem L2 DL
/-- the state that is drawn from -/
def rs (a b k : Int) : D := .lst [.int a, .int b, .int k]
section
theorem pick_spec (c : Cs) (a b k n : Int) (h0 : 0 < n) (h1 : n < 1073741824) : ∃ r a' b' k', g__law_pick c [rs a b k, .int n] = some (.int r, rs a' b' k') ∧ 0 ≤ r ∧ r < n := by
  unfold rs
  by_cases h : 1000000000000000 ≤ a
  · refine ⟨a % n, a / n, b, k, ?_, Int.emod_nonneg _ (by omega), Int.emod_lt_of_pos _ h0⟩
    simp [defI, startE, entry, PK.sl, mSeq, mIf, mTest, m2, M.bind, mVal, mOv, mC, M.ret, Sl.dat, mRd, rd, M.lift, ixD, atI, fI, fI0, powOk, modOk, divOk, mulOk, DL.small64, mS, mAsg, gN, mPutI, mHas, ownL, Sl.own, ixN, reown, mRet, mVar, mNext, io0, addD, g__law_pick, m__law_pick, h, h0, h1]
  · let x := (b * 48271 + 7919 * (k + 1) + 12345) % 2147483647
    have hx0 : 0 ≤ x := Int.emod_nonneg _ (by decide)
    have hx1 : x < 2147483647 := Int.emod_lt_of_pos _ (by decide)
    let y := x * (x / 997 + 69069) % 2147483629
    refine ⟨y / 11 % n, a, y, k + 1, ?_, Int.emod_nonneg _ (by omega), Int.emod_lt_of_pos _ h0⟩
    have e1 : (b * 48271 + 7919 * (k + 1) + 12345) % 2147483647 = x := rfl
    have e2 : x * (x / 997 + 69069) % 2147483629 = y := rfl
    have s1 : -18446744073709551616 < x ∧ x < 18446744073709551616 := by omega
    simp [defI, startE, entry, PK.sl, mSeq, mIf, mTest, m2, M.bind, mVal, mOv, mC, M.ret, Sl.dat, mRd, rd, M.lift, ixD, atI, fI, fI0, powOk, modOk, divOk, mulOk, DL.small64, mS, mAsg, gN, mPutI, mHas, ownL, Sl.own, ixN, reown, mRet, mVar, mNext, io0, addD, g__law_pick, m__law_pick, h, h0, h1, e1, e2, s1]
end
/-- small letters alone -/
def Low (x : Str) : Prop := ∀ c ∈ x.cps.toList, 97 ≤ c ∧ c ≤ 122
def NameOk (x : Str) : Prop := 1 ≤ x.cps.size ∧ x.cps.size ≤ 8 ∧ Low x
/-- a name that ends in the sign -/
def Wd (x : Str) (c : Nat) : Prop := NameOk x ∧ x.cps.toList.getLast? = some c
theorem str_len (x : Str) : x.length = x.cps.size := rfl
theorem app_cps (x y : Str) : (x ++ y).cps.toList = x.cps.toList ++ y.cps.toList := by
  show (x.cps ++ y.cps).toList = _
  rw [Array.toList_append]
theorem app_size (x y : Str) : (x ++ y).cps.size = x.cps.size + y.cps.size := by
  show (x.cps ++ y.cps).size = _
  rw [Array.size_append]
theorem Low.app {x y : Str} (h : Low x) (g : Low y) : Low (x ++ y) := fun c hc => by
  rw [app_cps, List.mem_append] at hc
  exact hc.elim (h c) (g c)
def abc : Str := "abcdefghijklmnopqrstuvwxyz"
theorem abc_list : abc.cps.toList = (List.range 26).map (· + 97) := by decide +kernel
theorem abc_at {r : Int} (h0 : 0 ≤ r) (h1 : r < 26) : ixD (.str abc) (.int r) = some (.str ⟨#[r.toNat + 97]⟩) := by
  have hl : abc.cps.toList.length = 26 := by decide +kernel
  have e : atI abc.cps.toList r = some (r.toNat + 97) := by
    unfold atI ixN
    rw [hl, abc_list]
    have : r.toNat < 26 := by omega
    simp [h0, h1, this]
    try omega
  have hs : abc.length ≤ 1000000 := by decide +kernel
  simp only [ixD, hs, if_true, e, Option.map_some]
theorem low1 {c : Nat} (h : 97 ≤ c ∧ c ≤ 122) : Low ⟨#[c]⟩ := fun d hd => by
  have : d = c := by simpa using hd
  rw [this]; exact h
section
/-- one more letter -/
def letterB (c : Cs) : Ms := mAsg (gN 4) (m2 addD (mOv 4) (mVal (m2 ixD (mVal (mC (.str "abcdefghijklmnopqrstuvwxyz"))) (mVal (mCallI 0 [.fr] (g__law_pick c) (maCons (mVal (mC (.int 26))) maNil))))))
theorem letter_step (c : Cs) (a b k m : Int) (f2 f3 f5 : Sl) (w : Str) (hw : w.cps.size ≤ 100) (hl : Low w) (y : D) : ∃ δ1, gN 5 y [.io (rs a b k), .fr (.int m), f2, f3, .fr (.str w), f5] = some δ1 ∧ ∃ a' b' k' w', letterB c δ1 = some (.nx [.io (rs a' b' k'), .fr (.int m), f2, f3, .fr (.str w'), .fr y]) ∧ Low w' ∧ w'.cps.size = w.cps.size + 1 := by
  obtain ⟨r, a', b', k', hp, h0, h1⟩ := pick_spec c a b k 26 (by decide) (by decide)
  refine ⟨_, rfl, a', b', k', w ++ ⟨#[r.toNat + 97]⟩, ?_, hl.app (low1 (by omega)), app_size _ _⟩
  have e : ixD (.str "abcdefghijklmnopqrstuvwxyz") (.int r) = some (.str ⟨#[r.toNat + 97]⟩) := abc_at h0 h1
  have hz : w.length + 1 ≤ 1000000 := by rw [str_len]; omega
  have ea : addD (.str w) (.str ⟨#[r.toNat + 97]⟩) = some (.str (w ++ ⟨#[r.toNat + 97]⟩)) := by
    have hz' : w.length + (⟨#[r.toNat + 97]⟩ : Str).length ≤ 1000000 := hz
    simp [defI, startE, entry, PK.sl, mSeq, mIf, mTest, m2, M.bind, mVal, mOv, mC, M.ret, Sl.dat, mRd, rd, M.lift, fI, fI0, mS, mAsg, gN, mHas, ownL, Sl.own, reown, mRet, mVar, mNext, io0, mCallI, maCons, maNil, mRds, rds, frOk, apart, addD, fI0, fStrCat, hz']
  unfold letterB
  simp [defI, startE, entry, PK.sl, mSeq, mIf, mTest, m2, M.bind, mVal, mOv, mC, M.ret, Sl.dat, mRd, rd, M.lift, fI, fI0, mS, mAsg, gN, mHas, ownL, Sl.own, reown, mRet, mVar, mNext, io0, mCallI, maCons, maNil, mRds, rds, frOk, apart, hp, e, ea]
/-- letters one by one -/
theorem letters (c : Cs) (m : Int) (f2 f3 : Sl) : ∀ (n : Nat) (ds : List D), ds.length = n → ∀ (a b k : Int) (w : Str) (f5 : Sl), w.cps.size + n ≤ 100 → Low w →
    ∃ a' b' k' w' f5', forL (gN 5) (letterB c) ds [.io (rs a b k), .fr (.int m), f2, f3, .fr (.str w), f5] = some (.nx [.io (rs a' b' k'), .fr (.int m), f2, f3, .fr (.str w'), f5']) ∧ Low w' ∧ w'.cps.size = w.cps.size + n
  | 0, ds, hd, a, b, k, w, f5, hw, hl => by
    cases ds with
    | nil => exact ⟨a, b, k, w, f5, rfl, hl, rfl⟩
    | cons d ds => simp [defI, startE, entry, PK.sl, mSeq, mIf, mTest, m2, M.bind, mVal, mOv, mC, M.ret, Sl.dat, mRd, rd, M.lift, fI, fI0, mS, mAsg, gN, mHas, ownL, Sl.own, reown, mRet, mVar, mNext, io0, mCallI, maCons, maNil, mRds, rds, frOk, apart] at hd
  | n + 1, ds, hd, a, b, k, w, f5, hw, hl => by
    cases ds with
    | nil => simp [defI, startE, entry, PK.sl, mSeq, mIf, mTest, m2, M.bind, mVal, mOv, mC, M.ret, Sl.dat, mRd, rd, M.lift, fI, fI0, mS, mAsg, gN, mHas, ownL, Sl.own, reown, mRet, mVar, mNext, io0, mCallI, maCons, maNil, mRds, rds, frOk, apart] at hd
    | cons d ds =>
      obtain ⟨δ1, h1, a1, b1, k1, w1, h2, h3, h4⟩ := letter_step c a b k m f2 f3 f5 w (by omega) hl d
      obtain ⟨a', b', k', w', f5', h5, h6, h7⟩ := letters c m f2 f3 n ds (by simpa using hd) a1 b1 k1 w1 (.fr d) (by omega) h3
      refine ⟨a', b', k', w', f5', ?_, h6, by omega⟩
      simp only [forL, h1, h2]
      exact h5
/-- words: each ends in its own sign -/
def WdAll (ws : List Str) (ss : List Nat) : Prop := ws.length = ss.length ∧ ∀ (i : Nat) (x : Str) (s : Nat), ws[i]? = some x → ss[i]? = some s → Wd x s
theorem WdAll.snoc {ws : List Str} {ss : List Nat} {x : Str} {s : Nat} (h : WdAll ws ss) (g : Wd x s) : WdAll (ws ++ [x]) (ss ++ [s]) := by
  refine ⟨by rw [List.length_append, List.length_append, h.1]; rfl, fun i y t hy ht => ?_⟩
  by_cases c : i < ws.length
  · rw [List.getElem?_append_left c] at hy
    rw [List.getElem?_append_left (by rw [← h.1]; exact c)] at ht
    exact h.2 i y t hy ht
  · rw [List.getElem?_append_right (by omega)] at hy
    rw [List.getElem?_append_right (by rw [← h.1]; omega)] at ht
    rw [h.1] at hy
    cases e : i - ss.length with
    | zero => rw [e] at hy ht; cases hy; cases ht; exact g
    | succ j => rw [e] at hy; simp [defI, startE, entry, PK.sl, mSeq, mIf, mTest, m2, M.bind, mVal, mOv, mC, M.ret, Sl.dat, mRd, rd, M.lift, fI, fI0, mS, mAsg, gN, mHas, ownL, Sl.own, reown, mRet, mVar, mNext, io0, mCallI, maCons, maNil, mRds, rds, frOk, apart, mdCons, mdNil, mLst, mIt, mFor, mDrop, mMut, appF] at hy
def sgn : List Nat := [115, 111, 114, 116, 101, 110, 100]
end
end G

set_option Elab.async false
set_option linter.all false
set_option maxRecDepth 100000
set_option maxHeartbeats 400000
/-! MBb: the rows of a stock as the laws draw them. -/
namespace G
open PySem L2 DL
def sortsD (rows : List (Str × Str)) : D := .lst (rows.map fun p => .tup [.str p.1, .str p.2])
def kindD (p : Str × List Str) : D := .tup [.str p.1, .tup (p.2.map .str)]
def kindsD (ks : List (Str × List Str)) : D := .lst (ks.map kindD)
def strLe (x y : Str) : Bool := decide (x.cps.toList ≤ y.cps.toList)
/-- texts sorted -/
def sortS (xs : List Str) : List Str := xs.mergeSort strLe
theorem strs_alike (xs : List Str) : SortOk (xs.map D.str) ↔ xs.length ≤ 1000000 := by
  constructor
  · intro h; have := h.len; rw [List.length_map] at this; exact this
  · intro h
    refine ⟨by rw [List.length_map]; exact h, fun d hd => ?_, fun d hd => ?_, fun d hd e he => ?_, Or.inr fun d hd => ?_⟩
    · obtain ⟨x, _, rfl⟩ := List.mem_map.mp hd; rfl
    · obtain ⟨x, _, rfl⟩ := List.mem_map.mp hd
      show (PyData.str x).depth ≤ 60
      simp [PyData.depth]
    · obtain ⟨x, _, rfl⟩ := List.mem_map.mp hd
      obtain ⟨y, _, rfl⟩ := List.mem_map.mp he
      show PySem.W.alike (.str x) (.str y) = true
      simp [PySem.W.alike]
    · obtain ⟨x, _, rfl⟩ := List.mem_map.mp hd; rfl
theorem sortD_strs (xs : List Str) : sortD (xs.map D.str) = (sortS xs).map D.str := by
  unfold sortD sortS
  rw [PySem.W.sort_maps (r := strLe) (s := PySem.W.dataLe false encD) D.str]
  intro a _ b _
  show strLe a b = !PySem.W.dataLt (.str b) (.str a)
  rw [PySem.W.dataLt_str, PySem.W.not_lt_str]
  rfl
theorem sortF_lst (xs : List Str) (h : xs.length ≤ 1000000) : sortF (.lst (xs.map D.str)) = some ((sortS xs).map D.str) := by
  simp only [sortF, sortOk_iff.mpr ((strs_alike xs).mpr h), if_true, sortD_strs]
theorem sortF_tup (xs : List Str) (h : xs.length ≤ 1000000) : sortF (.tup (xs.map D.str)) = some ((sortS xs).map D.str) := by
  simp only [sortF, sortOk_iff.mpr ((strs_alike xs).mpr h), if_true, sortD_strs]
section
theorem atI_nat {α : Type} {xs : List α} {r : Int} (h0 : 0 ≤ r) (h1 : r < xs.length) : ∃ h : r.toNat < xs.length, atI xs r = some xs[r.toNat] := by
  have h : r.toNat < xs.length := by omega
  refine ⟨h, ?_⟩
  unfold atI ixN
  simp [defI, startE, entry, PK.sl, mSeq, mIf, mTest, m2, M.bind, mVal, mOv, mC, M.ret, Sl.dat, mRd, rd, M.lift, fI, fI0, mS, mAsg, gN, mHas, ownL, Sl.own, reown, mRet, mVar, mNext, io0, mCallI, maCons, maNil, mRds, rds, frOk, apart, mdCons, mdNil, mLst, mIt, mFor, mDrop, mMut, appF, mA, fA1, lenD, wipeE, h0, h1, h]
/-- kinds of drawn ends under drawn names -/
def KindsOk (sorts : List (Str × Str)) (m : Nat) (ks : List (Str × List Str)) : Prop := ∀ p ∈ ks, ∃ xs : List Str, p.2 = sortS xs ∧ (∀ y ∈ xs, y ∈ sorts.map fun q => q.1) ∧ 1 ≤ xs.length ∧ xs.length ≤ m
end
end G

set_option Elab.async false
set_option linter.all false
set_option maxRecDepth 100000
set_option maxHeartbeats 1000000
/-! MBc: a stock's rows drawn. -/
namespace G
open PySem L2 DL
structure SortsOk (sorts : List (Str × Str)) : Prop where
  lo : 1 ≤ sorts.length
  hi : sorts.length ≤ 3
  nm : ∀ p ∈ sorts, NameOk p.1 ∧ NameOk p.2
  nd : (sorts.map fun p => p.1).Nodup
  mu : ∀ p ∈ sorts, (p.2, p.1) ∈ sorts
theorem wd_ne {x y : Str} {s t : Nat} (h : Wd x s) (g : Wd y t) (ne : s ≠ t) : x ≠ y := fun e => by
  subst e
  have := h.2.symm.trans g.2
  exact ne (Option.some.inj this)
section
end
end G

set_option Elab.async false
set_option linter.all false
set_option maxRecDepth 100000
set_option maxHeartbeats 1000000
/-! MCa: a stock that is in order is made. -/
namespace G
open PySem L2 DL
theorem NameOk.ok {x : Str} (h : NameOk x) : PyData.strOk x = true := by
  unfold PyData.strOk
  rw [Array.all_eq_true']
  intro c hc
  have := h.2.2 c (Array.mem_toList_iff.mpr hc)
  exact decide_eq_true (by omega)
theorem NameOk.pl {x : Str} (h : NameOk x) {n : Nat} : Pl n (.str x) := Pl.str h.ok
def inAbc (z : Nat) : Bool := decide (z ∈ abc.cps.toList)
theorem L_is_name (c : Cs) (x : Str) (s : Sl) (hx : x.length ≤ 100) : L_is_name_0 c [.fr (.str x), s] = some (.ok (.lst (x.cps.toList.map fun z => .bl (inAbc z))) [.fr (.str x), .un]) := by
  have hs : x.length ≤ 1000000 := by omega
  refine mLc_map (as := x.cps.toList) (enc := fun z => .str ⟨#[z]⟩) (δ0 := [.fr (.str x), s]) ?_ rfl fun z _ => ⟨[.fr (.str x), .fr (.str ⟨#[z]⟩)], [.fr (.str x), .fr (.str ⟨#[z]⟩)], rfl, ?_, rfl⟩
  · have hs' : x.cps.size ≤ 1000000 := hs
    simp [defI, defG, defN, startE, entry, PK.sl, mSeq, mIf, mTest, m1, m2, mn1, mn2, M.bind, mVal, mOv, mC, M.ret, Sl.dat, mRd, rd, M.lift, fI, fI0, mS, mAsg, gN, gT, gsC, gs0, mHas, ownL, Sl.own, reown, mRet, mVar, mNext, io0, mCallI, mCallP, mCallN, mMakeP, maCons, maNil, mRds, rds, frOk, apart, mdCons, mdNil, mLst, mTup, mIt, mFor, mDrop, mMut, appF, mA, mnA, fA1, fN1, lenD, tupD, wipeE, mAsgO, mSeqOf, mSeqB, mTupOf, mTxtOf, gTL, mNot, mOr, mAnd, mAndV, mOrV, mNotV, mChain, isB, tyN, mRetW, mRetO, -List.map_map, -Int.natCast_add, -List.map_append, -List.map_cons, -List.map_nil, -List.map_const, -List.map_const_fun, signsD, hs']
  · simp [E_is_name_0, defI, defG, defN, startE, entry, PK.sl, mSeq, mIf, mTest, m1, m2, mn1, mn2, M.bind, mVal, mOv, mC, M.ret, Sl.dat, mRd, rd, M.lift, fI, fI0, mS, mAsg, gN, gT, gsC, gs0, mHas, ownL, Sl.own, reown, mRet, mVar, mNext, io0, mCallI, mCallP, mCallN, mMakeP, maCons, maNil, mRds, rds, frOk, apart, mdCons, mdNil, mLst, mTup, mIt, mFor, mDrop, mMut, appF, mA, mnA, fA1, fN1, lenD, tupD, wipeE, mAsgO, mSeqOf, mSeqB, mTupOf, mTxtOf, gTL, mNot, mOr, mAnd, mAndV, mOrV, mNotV, mChain, isB, tyN, mRetW, mRetO, -List.map_map, -Int.natCast_add, -List.map_append, -List.map_cons, -List.map_nil, -List.map_const, -List.map_const_fun, inSignD, inAbc, abc]
theorem is_name_ok (c : Cs) {x : Str} (h : NameOk x) : g_is_name c [.str x] = some (.bl true) := by
  have h8 : x.length ≤ 8 := h.2.1
  have h1 : 1 ≤ x.length := h.1
  have hL := L_is_name c x .un (by omega)
  have hA : (x.cps.toList.all inAbc) = true := by
    rw [List.all_eq_true]
    intro z hz
    have := h.2.2 z hz
    unfold inAbc
    rw [abc_list]
    exact decide_eq_true (List.mem_map.mpr ⟨z - 97, List.mem_range.mpr (by omega), by omega⟩)
  have hAll : allD (.lst (x.cps.toList.map fun z => .bl (inAbc z))) = some (.bl true) := by rw [allD_map, hA]
  have hs : x.length ≤ 1000000 := by omega
  have i8 : (x.length : Int) ≤ 8 := by omega
  have i1 : (1 : Int) ≤ (x.length : Int) := by omega
  simp [g_is_name, m_is_name, defI, defG, defN, startE, entry, PK.sl, mSeq, mIf, mTest, m1, m2, mn1, mn2, M.bind, mVal, mOv, mC, M.ret, Sl.dat, mRd, rd, M.lift, fI, fI0, mS, mAsg, gN, gT, gsC, gs0, mHas, ownL, Sl.own, reown, mRet, mVar, mNext, io0, mCallI, mCallP, mCallN, mMakeP, maCons, maNil, mRds, rds, frOk, apart, mdCons, mdNil, mLst, mTup, mIt, mFor, mDrop, mMut, appF, mA, mnA, fA1, fN1, lenD, tupD, wipeE, mAsgO, mSeqOf, mSeqB, mTupOf, mTxtOf, gTL, mNot, mOr, mAnd, mAndV, mOrV, mNotV, mChain, isB, tyN, mRetW, mRetO, -List.map_map, -Int.natCast_add, -List.map_append, -List.map_cons, -List.map_nil, -List.map_const, -List.map_const_fun, kitB, hL, hs, i1, i8, hAll]
theorem eqD_int (i j : Int) : eqD (.int i) (.int j) = some (.bl (decide (i = j))) := by
  rw [eqD_pl 0 Pl.int Pl.int]; simp
theorem neD_int (i j : Int) : neD (.int i) (.int j) = some (.bl (!decide (i = j))) := by
  rw [neD_pl 0 Pl.int Pl.int]; simp
theorem is_sort_row_ok (c : Cs) {x y : Str} (hx : NameOk x) (hy : NameOk y) : g_is_sort_row c [.tup [.str x, .str y]] = some (.bl true) := by
  simp [g_is_sort_row, m_is_sort_row, defI, defG, defN, startE, entry, PK.sl, mSeq, mIf, mTest, m1, m2, mn1, mn2, M.bind, mVal, mOv, mC, M.ret, Sl.dat, mRd, rd, M.lift, fI, fI0, mS, mAsg, gN, gT, gsC, gs0, mHas, ownL, Sl.own, reown, mRet, mVar, mNext, io0, mCallI, mCallP, mCallN, mMakeP, maCons, maNil, mRds, rds, frOk, apart, mdCons, mdNil, mLst, mTup, mIt, mFor, mDrop, mMut, appF, mA, mnA, fA1, fN1, lenD, tupD, wipeE, mAsgO, mSeqOf, mSeqB, mTupOf, mTxtOf, gTL, mNot, mOr, mAnd, mAndV, mOrV, mNotV, mChain, isB, tyN, mRetW, mRetO, -List.map_map, -Int.natCast_add, -List.map_append, -List.map_cons, -List.map_nil, -List.map_const, -List.map_const_fun, kitB, eqD_int, ixD, atI, ixN, is_name_ok c hx, is_name_ok c hy]
theorem keysD_strs : ∀ xs : List Str, keysD (xs.map .str) = some (xs.map Sum.inr)
  | [] => rfl
  | x :: xs => by simp [keysD, keyD, keysD_strs xs]
theorem dd_nodup : ∀ {ks : List Key}, ks.Nodup → dd ks = ks
  | [], _ => rfl
  | k :: ks, h => by
    have h' := List.nodup_cons.mp h
    have e : inK k ks = false := Bool.eq_false_iff.mpr fun z => h'.1 (inK_iff.mp z)
    simp [dd, e, dd_nodup h'.2]
theorem inr_nodup {xs : List Str} (h : xs.Nodup) : (xs.map (Sum.inr : Str → Key)).Nodup := by
  refine List.Pairwise.map _ (fun a b hab e => hab (Sum.inr.inj e)) h
theorem setKeys_strs (xs : List Str) (h : xs.length ≤ 4000) : setKeys (.lst (xs.map .str)) = some (xs.map Sum.inr) := by
  simp [setKeys, seqD, keysD_strs, h]
theorem lenSet_strs {xs : List Str} (h : xs.length ≤ 4000) (nd : xs.Nodup) : lenSetD (.lst (xs.map .str)) = some (.int xs.length) := by
  simp [lenSetD, setKeys_strs xs h, dd_nodup (inr_nodup nd)]
section
variable (c : Cs) {sorts : List (Str × Str)} (hS : SortsOk sorts)
include hS
theorem sorts_pl : ∀ e ∈ sorts.map (fun p => D.tup [.str p.1, .str p.2]), Pl 1 e := fun e he => by
  obtain ⟨p, hp, rfl⟩ := List.mem_map.mp he
  refine Pl.tup fun d hd => ?_
  simp at hd
  rcases hd with rfl | rfl
  · exact (hS.nm p hp).1.pl
  · exact (hS.nm p hp).2.pl
theorem L_are_sorts0 (f1 f2 f3 : Sl) : L_are_sorts_0 c [.bo (sortsD sorts), f1, f2, f3] = some (.ok (.lst (sorts.map fun _ => .bl true)) [.bo (sortsD sorts), .un, f2, f3]) := by
  refine mLc_map (as := sorts) (enc := fun p => .tup [.str p.1, .str p.2]) (δ0 := [.bo (sortsD sorts), f1, f2, f3]) rfl rfl fun p hp => ⟨[.bo (sortsD sorts), .fr (.tup [.str p.1, .str p.2]), f2, f3], [.bo (sortsD sorts), .fr (.tup [.str p.1, .str p.2]), f2, f3], rfl, ?_, rfl⟩
  simp [E_are_sorts_0, defI, defG, defN, startE, entry, PK.sl, mSeq, mIf, mTest, m1, m2, mn1, mn2, M.bind, mVal, mOv, mC, M.ret, Sl.dat, mRd, rd, M.lift, fI, fI0, mS, mAsg, gN, gT, gsC, gs0, mHas, ownL, Sl.own, reown, mRet, mVar, mNext, io0, mCallI, mCallP, mCallN, mMakeP, maCons, maNil, mRds, rds, frOk, apart, mdCons, mdNil, mLst, mTup, mIt, mFor, mDrop, mMut, appF, mA, mnA, fA1, fN1, lenD, tupD, wipeE, mAsgO, mSeqOf, mSeqB, mTupOf, mTxtOf, gTL, mNot, mOr, mAnd, mAndV, mOrV, mNotV, mChain, isB, tyN, mRetW, mRetO, -List.map_map, -Int.natCast_add, -List.map_append, -List.map_cons, -List.map_nil, -List.map_const, -List.map_const_fun, is_sort_row_ok c (hS.nm p hp).1 (hS.nm p hp).2]
theorem L_are_sorts1 (f1 f2 f3 : Sl) : L_are_sorts_1 c [.bo (sortsD sorts), f1, f2, f3] = some (.ok (.lst ((sorts.map fun p => p.1).map .str)) [.bo (sortsD sorts), f1, .un, .un]) := by
  rw [List.map_map]
  refine mLc_map (as := sorts) (enc := fun p => .tup [.str p.1, .str p.2]) (δ0 := [.bo (sortsD sorts), f1, f2, f3]) rfl rfl fun p hp => ⟨[.bo (sortsD sorts), f1, .fr (.str p.1), .fr (.str p.2)], [.bo (sortsD sorts), f1, .fr (.str p.1), .fr (.str p.2)], rfl, ?_, rfl⟩
  simp [E_are_sorts_1, defI, defG, defN, startE, entry, PK.sl, mSeq, mIf, mTest, m1, m2, mn1, mn2, M.bind, mVal, mOv, mC, M.ret, Sl.dat, mRd, rd, M.lift, fI, fI0, mS, mAsg, gN, gT, gsC, gs0, mHas, ownL, Sl.own, reown, mRet, mVar, mNext, io0, mCallI, mCallP, mCallN, mMakeP, maCons, maNil, mRds, rds, frOk, apart, mdCons, mdNil, mLst, mTup, mIt, mFor, mDrop, mMut, appF, mA, mnA, fA1, fN1, lenD, tupD, wipeE, mAsgO, mSeqOf, mSeqB, mTupOf, mTxtOf, gTL, mNot, mOr, mAnd, mAndV, mOrV, mNotV, mChain, isB, tyN, mRetW, mRetO, -List.map_map, -Int.natCast_add, -List.map_append, -List.map_cons, -List.map_nil, -List.map_const, -List.map_const_fun]
theorem L_are_sorts2 (f1 f2 f3 : Sl) : L_are_sorts_2 c [.bo (sortsD sorts), f1, f2, f3] = some (.ok (.lst (sorts.map fun _ => .bl true)) [.bo (sortsD sorts), f1, .un, .un]) := by
  refine mLc_map (as := sorts) (enc := fun p => .tup [.str p.1, .str p.2]) (δ0 := [.bo (sortsD sorts), f1, f2, f3]) rfl rfl fun p hp => ⟨[.bo (sortsD sorts), f1, .fr (.str p.1), .fr (.str p.2)], [.bo (sortsD sorts), f1, .fr (.str p.1), .fr (.str p.2)], rfl, ?_, rfl⟩
  have h1 : inLD false (.tup [.str p.2, .str p.1]) (sortsD sorts) = some (.bl true) := by
    unfold sortsD
    rw [inLD_pl 1 false (Pl.tup fun d hd => ?_) (sorts_pl hS)]
    · have : D.tup [.str p.2, .str p.1] ∈ sorts.map (fun p => D.tup [.str p.1, .str p.2]) := List.mem_map.mpr ⟨_, hS.mu p hp, rfl⟩
      simp only [this, decide_true, Bool.false_xor]
    · simp at hd
      rcases hd with rfl | rfl
      · exact (hS.nm p hp).2.pl
      · exact (hS.nm p hp).1.pl
  have l2 : (2 : Nat) ≤ LB := by decide
  simp [E_are_sorts_2, defI, defG, defN, startE, entry, PK.sl, mSeq, mIf, mTest, m1, m2, mn1, mn2, M.bind, mVal, mOv, mC, M.ret, Sl.dat, mRd, rd, M.lift, fI, fI0, mS, mAsg, gN, gT, gsC, gs0, mHas, ownL, Sl.own, reown, mRet, mVar, mNext, io0, mCallI, mCallP, mCallN, mMakeP, maCons, maNil, mRds, rds, frOk, apart, mdCons, mdNil, mLst, mTup, mIt, mFor, mDrop, mMut, appF, mA, mnA, fA1, fN1, lenD, tupD, wipeE, mAsgO, mSeqOf, mSeqB, mTupOf, mTxtOf, gTL, mNot, mOr, mAnd, mAndV, mOrV, mNotV, mChain, isB, tyN, mRetW, mRetO, -List.map_map, -Int.natCast_add, -List.map_append, -List.map_cons, -List.map_nil, -List.map_const, -List.map_const_fun, h1, l2]
theorem are_sorts_ok : g_are_sorts c [sortsD sorts] = some (.bl true) := by
  have h1 := L_are_sorts0 c hS .un .un .un
  have h2 := L_are_sorts1 c hS .un .un .un
  have h3 := L_are_sorts2 c hS .un .un .un
  have a1 : allD (.lst (sorts.map fun _ => .bl true)) = some (.bl true) := by rw [allD_map]; simp
  have ls : lenSetD (.lst ((sorts.map fun p => p.1).map .str)) = some (.int sorts.length) := by
    have := lenSet_strs (xs := sorts.map fun p => p.1) (by rw [List.length_map]; have := hS.hi; omega) hS.nd
    rw [List.length_map] at this
    exact this
  have ln : lenD (sortsD sorts) = some (.int sorts.length) := by simp [sortsD, lenD]
  have i1 : (1 : Int) ≤ (sorts.length : Int) := by have := hS.lo; omega
  have i3 : (sorts.length : Int) ≤ 3 := by have := hS.hi; omega
  have il : isB "list" (sortsD sorts) = some (.bl true) := rfl
  simp_arith only [g_are_sorts, m_are_sorts, il, ln, i1, i3, h1, a1, h2, ls, h3, Int.lt_irrefl]
end
end G

set_option Elab.async false
set_option linter.all false
set_option maxRecDepth 100000
set_option maxHeartbeats 1000000
/-! MCb: kinds in order; a stock made. -/
namespace G
open PySem L2 DL
theorem strLe_trans (a b c : Str) (h1 : strLe a b = true) (h2 : strLe b c = true) : strLe a c = true := by
  unfold strLe at *
  simp only [decide_eq_true_eq] at *
  exact List.le_trans h1 h2
theorem strLe_total (a b : Str) : (strLe a b || strLe b a) = true := by
  unfold strLe
  simp only [Bool.or_eq_true, decide_eq_true_eq]
  exact List.le_total _ _
theorem strLe_anti {a b : Str} (h1 : strLe a b = true) (h2 : strLe b a = true) : a = b := by
  unfold strLe at *
  simp only [decide_eq_true_eq] at *
  exact PySem.W.str_of_cps (List.le_antisymm h1 h2)
theorem sortS_sorted (xs : List Str) : (sortS xs).Pairwise fun a b => strLe a b = true := List.pairwise_mergeSort strLe_trans strLe_total xs
theorem sortS_perm (xs : List Str) : (sortS xs).Perm xs := List.mergeSort_perm xs strLe
theorem sortS_of {xs : List Str} (h : xs.Pairwise fun a b => strLe a b = true) : sortS xs = xs := List.mergeSort_of_pairwise h
theorem sortS_idem (xs : List Str) : sortS (sortS xs) = sortS xs := sortS_of (sortS_sorted xs)
theorem sortS_eq {xs ys : List Str} (p : xs.Perm ys) : sortS xs = sortS ys :=
  List.Perm.eq_of_pairwise (fun a b _ _ h1 h2 => strLe_anti h1 h2) (sortS_sorted xs) (sortS_sorted ys) ((sortS_perm xs).trans (p.trans (sortS_perm ys).symm))
theorem sortS_len (xs : List Str) : (sortS xs).length = xs.length := (sortS_perm xs).length_eq
theorem sortS_mem {x : Str} {xs : List Str} : x ∈ sortS xs ↔ x ∈ xs := (sortS_perm xs).mem_iff
/-- a kind's ends, told: sorted, one to five of the sorts -/
structure EndsOk (sorts : List (Str × Str)) (es : List Str) : Prop where
  so : sortS es = es
  mem : ∀ y ∈ es, y ∈ sorts.map fun q => q.1
  lo : 1 ≤ es.length
  hi : es.length ≤ 5
theorem KindsOk.ends {sorts : List (Str × Str)} {m : Nat} {ks : List (Str × List Str)} (h : KindsOk sorts m ks) (hm : m ≤ 5) {p : Str × List Str} (hp : p ∈ ks) : EndsOk sorts p.2 := by
  obtain ⟨xs, e, h1, h2, h3⟩ := h p hp
  rw [e]
  exact ⟨sortS_idem xs, fun y hy => h1 y (sortS_mem.mp hy), by rw [sortS_len]; exact h2, by rw [sortS_len]; omega⟩
section
variable (c : Cs) {sorts : List (Str × Str)} (hS : SortsOk sorts)
include hS
theorem sort_name {y : Str} (h : y ∈ sorts.map fun q => q.1) : NameOk y := by
  obtain ⟨p, hp, rfl⟩ := List.mem_map.mp h
  exact (hS.nm p hp).1
theorem strs_pl {xs : List Str} (h : ∀ y ∈ xs, NameOk y) : ∀ d ∈ xs.map D.str, Pl 0 d := fun d hd => by
  obtain ⟨x, hx, rfl⟩ := List.mem_map.mp hd
  exact (h x hx).pl
/-- the sorts' names -/
def snD (sorts : List (Str × Str)) : D := .lst ((sorts.map fun q => q.1).map .str)
theorem L_kind0 {es : List Str} (he : EndsOk sorts es) (f0 f1 f3 : Sl) : L_is_kind_row_0 c [f0, f1, .fr (.tup (es.map .str)), f3] = some (.ok (.lst (es.map fun _ => .bl true)) [f0, f1, .fr (.tup (es.map .str)), .un]) := by
  refine mLc_map (as := es) (enc := .str) (δ0 := [f0, f1, .fr (.tup (es.map .str)), f3]) (by simp_arith only []) rfl fun y hy => ⟨[f0, f1, .fr (.tup (es.map .str)), .fr (.str y)], [f0, f1, .fr (.tup (es.map .str)), .fr (.str y)], rfl, ?_, rfl⟩
  simp_arith only [E_is_kind_row_0, is_name_ok c (sort_name hS (he.mem y hy))]
theorem L_kind1 {es : List Str} (he : EndsOk sorts es) (f0 f3 : Sl) : L_is_kind_row_1 c [f0, .fr (snD sorts), .fr (.tup (es.map .str)), f3] = some (.ok (.lst (es.map fun _ => .bl true)) [f0, .fr (snD sorts), .fr (.tup (es.map .str)), .un]) := by
  refine mLc_map (as := es) (enc := .str) (δ0 := [f0, .fr (snD sorts), .fr (.tup (es.map .str)), f3]) (by simp_arith only []) rfl fun y hy => ⟨[f0, .fr (snD sorts), .fr (.tup (es.map .str)), .fr (.str y)], [f0, .fr (snD sorts), .fr (.tup (es.map .str)), .fr (.str y)], rfl, ?_, rfl⟩
  have h1 : inLD false (.str y) (snD sorts) = some (.bl true) := by
    unfold snD
    rw [inLD_pl 0 false (sort_name hS (he.mem y hy)).pl (strs_pl hS fun z hz => sort_name hS hz)]
    have : D.str y ∈ (sorts.map fun q => q.1).map D.str := List.mem_map.mpr ⟨y, he.mem y hy, rfl⟩
    simp only [this, decide_true, Bool.false_xor]
  simp_arith only [E_is_kind_row_1, h1]
theorem is_kind_row_ok {n : Str} {es : List Str} (hn : NameOk n) (he : EndsOk sorts es) : g_is_kind_row c [kindD (n, es), snD sorts] = some (.bl true) := by
  have h1 := L_kind0 c hS he (.fr (kindD (n, es))) (.fr (snD sorts)) .un
  have h2 := L_kind1 c hS he (.fr (kindD (n, es))) .un
  have a1 : allD (.lst (es.map fun _ => .bl true)) = some (.bl true) := by rw [allD_map]; simp
  have i1 : (1 : Int) ≤ (es.length : Int) := by have := he.lo; omega
  have i5 : (es.length : Int) ≤ 5 := by have := he.hi; omega
  have l2 : ixD (kindD (n, es)) (.int 0) = some (.str n) := rfl
  have l3 : ixD (kindD (n, es)) (.int 1) = some (.tup (es.map .str)) := rfl
  have l4 : isB "tuple" (kindD (n, es)) = some (.bl true) := rfl
  have l5 : lenD (kindD (n, es)) = some (.int 2) := rfl
  have ls : sortF (.tup (es.map .str)) = some (es.map .str) := by rw [sortF_tup es (by have := he.hi; omega), he.so]
  have le : eqD (.lst (es.map .str)) (.lst (es.map .str)) = some (.bl true) := by
    have := Pl.lst (strs_pl hS fun z hz => sort_name hS (he.mem z hz))
    rw [eqD_pl 1 this this]; simp only [decide_true]
  simp_arith only [g_is_kind_row, m_is_kind_row, l2, l3, l4, l5, neD_int, is_name_ok c hn, List.length_map, i1, i5, h1, a1, h2, ls, le]
end
end G

set_option Elab.async false
set_option linter.all false
set_option maxRecDepth 100000
set_option maxHeartbeats 1000000
/-! MCc: a stock made; its kinds looked up; corners in order. -/
namespace G
open PySem L2 DL
/-- a stock's values -/
structure StockOk (sorts : List (Str × Str)) (ks : List (Str × List Str)) : Prop where
  so : SortsOk sorts
  lo : 1 ≤ ks.length
  hi : ks.length ≤ 4
  nm : ∀ p ∈ ks, NameOk p.1
  nd : (ks.map fun p => p.1).Nodup
  en : ∀ p ∈ ks, EndsOk sorts p.2
def stockD (c : Cs) (sorts : List (Str × Str)) (ks : List (Str × List Str)) : D := .ins c.stock ["sorts", "kinds"] [sortsD sorts, kindsD ks]
section
variable (c : Cs) {sorts : List (Str × Str)} {ks : List (Str × List Str)} (hS : StockOk sorts ks)
include hS
theorem L_kinds0 (f2 f3 f4 : Sl) : L_are_kinds_0 c [.bo (kindsD ks), .fr (snD sorts), f2, f3, f4] = some (.ok (.lst (ks.map fun _ => .bl true)) [.bo (kindsD ks), .fr (snD sorts), .un, f3, f4]) := by
  refine mLc_map (as := ks) (enc := kindD) (δ0 := [.bo (kindsD ks), .fr (snD sorts), f2, f3, f4]) rfl rfl fun p hp => ⟨[.bo (kindsD ks), .fr (snD sorts), .fr (kindD p), f3, f4], [.bo (kindsD ks), .fr (snD sorts), .fr (kindD p), f3, f4], rfl, ?_, rfl⟩
  simp_arith only [E_are_kinds_0, is_kind_row_ok c hS.so (hS.nm p hp) (hS.en p hp)]
theorem L_kinds1 (f1 f2 f3 f4 : Sl) : L_are_kinds_1 c [.bo (kindsD ks), f1, f2, f3, f4] = some (.ok (.lst ((ks.map fun p => p.1).map .str)) [.bo (kindsD ks), f1, f2, .un, .un]) := by
  rw [List.map_map]
  refine mLc_map (as := ks) (enc := kindD) (δ0 := [.bo (kindsD ks), f1, f2, f3, f4]) rfl rfl fun p hp => ⟨[.bo (kindsD ks), f1, f2, .fr (.str p.1), .fr (.tup (p.2.map .str))], [.bo (kindsD ks), f1, f2, .fr (.str p.1), .fr (.tup (p.2.map .str))], rfl, ?_, rfl⟩
  simp_arith only [E_are_kinds_1, Function.comp]
theorem are_kinds_ok : g_are_kinds c [kindsD ks, snD sorts] = some (.bl true) := by
  have h1 := L_kinds0 c hS .un .un .un
  have h2 := L_kinds1 c hS (.fr (snD sorts)) .un .un .un
  have a1 : allD (.lst (ks.map fun _ => .bl true)) = some (.bl true) := by rw [allD_map]; simp
  have ls : lenSetD (.lst ((ks.map fun p => p.1).map .str)) = some (.int ks.length) := by
    have := lenSet_strs (xs := ks.map fun p => p.1) (by rw [List.length_map]; have := hS.hi; omega) hS.nd
    rw [List.length_map] at this
    exact this
  have ln : lenD (kindsD ks) = some (.int ks.length) := by simp [kindsD, lenD]
  have i1 : (1 : Int) ≤ (ks.length : Int) := by have := hS.lo; omega
  have i4 : (ks.length : Int) ≤ 4 := by have := hS.hi; omega
  have il : isB "list" (kindsD ks) = some (.bl true) := rfl
  simp_arith only [g_are_kinds, m_are_kinds, il, ln, i1, i4, h1, a1, h2, ls, eqD_int]
theorem L_init (f0 f2 f3 f4 : Sl) : L_Stock___init___0 c [f0, .bo (sortsD sorts), f2, f3, f4] = some (.ok (snD sorts) [f0, .bo (sortsD sorts), f2, .un, .un]) := by
  unfold snD
  rw [List.map_map]
  refine mLc_map (as := sorts) (enc := fun p => .tup [.str p.1, .str p.2]) (δ0 := [f0, .bo (sortsD sorts), f2, f3, f4]) rfl rfl fun p hp => ⟨[f0, .bo (sortsD sorts), f2, .fr (.str p.1), .fr (.str p.2)], [f0, .bo (sortsD sorts), f2, .fr (.str p.1), .fr (.str p.2)], rfl, ?_, rfl⟩
  simp_arith only [E_Stock___init___0, Function.comp]
theorem stock_made : g_Stock___init__ c [.ins c.stock [] [], sortsD sorts, kindsD ks] = some (.non, stockD c sorts ks) := by
  have h1 := are_sorts_ok c hS.so
  have h2 := are_kinds_ok c hS
  have h3 := L_init c hS (.io (.ins c.stock [] [])) (.bo (kindsD ks)) .un .un
  have l1 : listD (sortsD sorts) = some (sorts.map fun p => .tup [.str p.1, .str p.2]) := rfl
  have l2 : listD (kindsD ks) = some (ks.map kindD) := rfl
  have e1 : (("sorts" : Str) ∈ ([] : List Str)) = False := by simp
  have e2 : (("kinds" : Str) ∈ (["sorts"] : List Str)) = False := by simp; decide
  simp_arith only [g_Stock___init__, m_Stock___init__, h1, h2, h3, l1, l2, e1, e2, not_false_eq_true, and_true, true_and]
  rfl
end
/-! dicts of pairs -/
def lk {α : Type} : List (Str × α) → Str → Option α
  | [], _ => none
  | p :: ps, n => if p.1 = n then some p.2 else lk ps n
theorem lk_self : ∀ {ps : List (Str × α)} {p : Str × α}, (ps.map fun p => p.1).Nodup → p ∈ ps → lk (ps.map fun p => (p.1, p)) p.1 = some p
  | q :: ps, p, nd, h => by
    have nd' := List.nodup_cons.mp nd
    simp only [List.map_cons, lk]
    by_cases e : q.1 = p.1
    · rw [if_pos e]
      rcases List.mem_cons.mp h with h | h
      · rw [h]
      · exact absurd (List.mem_map.mpr ⟨p, h, e.symm⟩) nd'.1
    · rw [if_neg e]
      exact lk_self nd'.2 ((List.mem_cons.mp h).resolve_left fun z => e (by rw [z]))
section
variable (c : Cs) {sorts : List (Str × Str)} {ks : List (Str × List Str)} (hS : StockOk sorts ks)
include hS
theorem kinds_of : fldD [c.stock] "kinds" (stockD c sorts ks) = some (kindsD ks) := by
  have h : ¬ (("sorts" : Str) = "kinds") := by decide
  simp only [fldD, stockD, lookF, List.any_cons, beq_self_eq_true, Bool.true_or, if_true, h, if_false]
/-- corners: up to six kinds' names -/
structure CornersOk (ks : List (Str × List Str)) (cs : List Str) : Prop where
  hi : cs.length ≤ 6
  mem : ∀ n ∈ cs, n ∈ ks.map fun p => p.1
end
end G

set_option Elab.async false
set_option linter.all false
set_option maxRecDepth 100000
set_option maxHeartbeats 1000000
/-! MGa: factorial, group. -/
namespace G
open PySem L2 DL PG
/-- a kind's ends -/
def ownOf (ks : List (Str × List Str)) (n : Str) : List Str := ((lk (ks.map fun p => (p.1, p)) n).map fun p => p.2).getD []
theorem own_self {ks : List (Str × List Str)} (nd : (ks.map fun p => p.1).Nodup) {p : Str × List Str} (hp : p ∈ ks) : ownOf ks p.1 = p.2 := by
  unfold ownOf
  rw [lk_self nd hp]
  rfl
section
variable (c : Cs) {sorts : List (Str × Str)} {ks : List (Str × List Str)} (hS : StockOk sorts ks)
include hS
end
end G

set_option Elab.async false
set_option linter.all false
set_option maxRecDepth 100000
set_option maxHeartbeats 1000000
/-! MGb: what the laws' helpers draw: the state, corners; lists cut, numbered. -/
namespace G
open PySem L2 DL PG
theorem cut_to {xs : List D} {i : Nat} : cutD xs none (some (i : Int)) = xs.take i := by
  unfold cutD
  rw [HT.sIx_none, HT.sIx_nat, List.drop_zero, Nat.sub_zero]
  by_cases h : i ≤ xs.length
  · rw [Nat.min_eq_left h]
  · rw [Nat.min_eq_right (by omega), List.take_length, List.take_of_length_le (by omega)]
theorem slD_to (xs : List Str) (i : Nat) : slD (.lst (xs.map .str)) none (some (i : Int)) = some (.lst ((xs.take i).map .str)) := by
  simp only [slD, cut_to, List.map_take]
/-- the cells that are gone through -/
theorem cells_cut (ns : List Int) (k : Nat) (h : ns.length ≤ 63) (tl : List Int) (htl : tl.length ≤ 10) : addD (.lst (cutD (ns.map D.int) none (some (k : Int)))) (.lst (tl.map .int)) = some (.lst ((ns.take k ++ tl).map .int)) := by
  rw [cut_to]
  have hl : (List.take k (ns.map D.int)).length + (tl.map D.int).length ≤ 1000000 := by
    rw [List.length_take, List.length_map, List.length_map]; omega
  simp only [addD, fI0, fStrCat, fCatL, fCatT, Option.or, hl, if_true, List.map_append, List.map_take]
end G

set_option Elab.async false
set_option linter.all false
set_option maxRecDepth 100000
set_option maxHeartbeats 1000000
/-! MDa: legs in order; all ends there. -/
namespace G
open PySem L2 DL PG
abbrev pairD (p : Str × Str) : D := .tup [.str p.1, .str p.2]
/-- legs as a drawing has them -/
structure LegsOk (sorts legs : List (Str × Str)) : Prop where
  hi : legs.length ≤ 6
  nm : ∀ p ∈ legs, NameOk p.1 ∧ p.2 ∈ sorts.map fun q => q.1
  nd : (legs.map fun p => p.1).Nodup
  so : sortD (legs.map pairD) = legs.map pairD
theorem pair_pl {p : Str × Str} (h1 : NameOk p.1) (h2 : NameOk p.2) : Pl 1 (pairD p) := Pl.tup fun d hd => by
  simp at hd
  rcases hd with rfl | rfl
  · exact h1.pl
  · exact h2.pl
theorem pairs_pl {ps : List (Str × Str)} (h : ∀ p ∈ ps, NameOk p.1 ∧ NameOk p.2) : ∀ d ∈ ps.map pairD, Pl 1 d := fun d hd => by
  obtain ⟨p, hp, rfl⟩ := List.mem_map.mp hd
  exact pair_pl (h p hp).1 (h p hp).2
theorem pairs_sortOk (ps : List (Str × Str)) (h : ps.length ≤ 1000) : SortOk (ps.map pairD) := by
  refine ⟨by rw [List.length_map]; unfold LB; omega, fun d hd => ?_, fun d hd => ?_, fun d hd e he => ?_, Or.inl fun d hd => ?_⟩
  · obtain ⟨x, _, rfl⟩ := List.mem_map.mp hd; rfl
  · obtain ⟨x, _, rfl⟩ := List.mem_map.mp hd
    show (PyData.tuple [.str x.1, .str x.2]).depth ≤ 60
    simp [PyData.depth, PyData.depthAll]
  · obtain ⟨x, _, rfl⟩ := List.mem_map.mp hd
    obtain ⟨y, _, rfl⟩ := List.mem_map.mp he
    show PySem.W.alike (.tuple [.str x.1, .str x.2]) (.tuple [.str y.1, .str y.2]) = true
    simp [PySem.W.alike, PySem.W.alikeAll]
  · obtain ⟨x, _, rfl⟩ := List.mem_map.mp hd; rfl
theorem sortF_pairs (ps : List (Str × Str)) (h : ps.length ≤ 1000) : sortF (.lst (ps.map pairD)) = some (sortD (ps.map pairD)) := by
  simp only [sortF, sortOk_iff.mpr (pairs_sortOk ps h), if_true]
section
variable (c : Cs) {sorts : List (Str × Str)} {ks : List (Str × List Str)} (hS : StockOk sorts ks)
include hS
theorem sorts_of : fldD [c.stock] "sorts" (stockD c sorts ks) = some (sortsD sorts) := by
  simp only [fldD, stockD, lookF, List.any_cons, beq_self_eq_true, Bool.true_or, if_true]
theorem LegsOk.two {legs : List (Str × Str)} (hL : LegsOk sorts legs) : ∀ p ∈ legs, NameOk p.1 ∧ NameOk p.2 := fun p hp => ⟨(hL.nm p hp).1, sort_name hS.so (hL.nm p hp).2⟩
end
/-- an end: its place, its sort -/
abbrev endD (p : Nat × Str) : D := .tup [.int (p.1 : Nat), .str p.2]
/-- the ends of corners, from a place on -/
def cornerEnds (ks : List (Str × List Str)) (cs : List (Str × Nat)) : List (Nat × Str) := cs.flatMap fun q => (ownOf ks q.1).map fun s => (q.2, s)
def endsP (ks : List (Str × List Str)) (cs : List Str) (legs : List (Str × Str)) : List (Nat × Str) := cornerEnds ks cs.zipIdx ++ legs.zipIdx.map fun q => (cs.length + q.2, q.1.2)
/-- their sorts -/
def endSorts (ks : List (Str × List Str)) (cs : List Str) (legs : List (Str × Str)) : List Str := cs.flatMap (ownOf ks) ++ legs.map fun p => p.2
theorem ends_sorts (ks : List (Str × List Str)) (cs : List Str) (legs : List (Str × Str)) : (endsP ks cs legs).map (fun p => p.2) = endSorts ks cs legs := by
  unfold endsP endSorts
  rw [List.map_append]
  congr 1
  · unfold cornerEnds
    rw [List.map_flatMap]
    have : (fun q : Str × Nat => ((ownOf ks q.1).map fun s => (q.2, s)).map fun p : Nat × Str => p.2) = fun q => ownOf ks q.1 := by
      funext q
      rw [List.map_map]
      exact List.map_id _
    rw [this]
    have h2 : cs.zipIdx.flatMap (fun q => ownOf ks q.1) = (cs.zipIdx.map Prod.fst).flatMap (ownOf ks) := by rw [List.flatMap_map]
    rw [h2, List.zipIdx_map_fst]
  · rw [List.map_map]
    have h2 : ((fun p : Nat × Str => p.2) ∘ fun q : (Str × Str) × Nat => (cs.length + q.2, q.1.2)) = (fun p : Str × Str => p.2) ∘ Prod.fst := rfl
    rw [h2, ← List.map_map, List.zipIdx_map_fst]
theorem ends_len_bound {sorts : List (Str × Str)} {ks : List (Str × List Str)} (hS : StockOk sorts ks) : ∀ {cs : List Str}, (∀ n ∈ cs, n ∈ ks.map fun p => p.1) → (cs.flatMap (ownOf ks)).length ≤ 5 * cs.length
  | [], _ => Nat.zero_le _
  | n :: cs, h => by
    obtain ⟨p, hp, e⟩ := List.mem_map.mp (h n List.mem_cons_self)
    have h1 : (ownOf ks n).length ≤ 5 := by rw [← e, own_self hS.nd hp]; exact (hS.en p hp).hi
    have h2 := ends_len_bound hS (cs := cs) fun m hm => h m (List.mem_cons_of_mem _ hm)
    rw [List.flatMap_cons, List.length_append, List.length_cons]
    omega
section
variable (c : Cs) {sorts : List (Str × Str)} {ks : List (Str × List Str)} (hS : StockOk sorts ks)
include hS
end
end G

set_option Elab.async false
set_option linter.all false
set_option maxRecDepth 100000
set_option maxHeartbeats 1000000
/-! MDb: count told. -/
namespace G
open PySem L2 DL PG
theorem mulOk_l {i j : Int} (h : 0 ≤ i ∧ i < 18446744073709551616) : mulOk i j = true := by
  unfold mulOk DL.small64
  simp only [Bool.or_eq_true, Bool.and_eq_true, decide_eq_true_eq]
  left
  omega
section
variable (c : Cs) {sorts : List (Str × Str)} {ks : List (Str × List Str)} (hS : StockOk sorts ks)
include hS
theorem ends_len {cs : List Str} {legs : List (Str × Str)} (hC : CornersOk ks cs) (hL : LegsOk sorts legs) : (endSorts ks cs legs).length ≤ 36 := by
  unfold endSorts
  have := ends_len_bound hS hC.mem
  have h1 := hC.hi
  have h2 := hL.hi
  rw [List.length_append, List.length_map]
  omega
end
end G

set_option Elab.async false
set_option linter.all false
set_option maxRecDepth 100000
set_option maxHeartbeats 1000000
/-! MDc: the laws' own helpers: ends, wanted ends, grounds. -/
namespace G
open PySem L2 DL PG
theorem addD_lst {xs ys : List D} (h : xs.length + ys.length ≤ 1000000) : addD (.lst xs) (.lst ys) = some (.lst (xs ++ ys)) := by
  simp only [addD, fI0, fStrCat, fCatL, fCatT, Option.or, h, if_true]
section
variable (c : Cs) {sorts : List (Str × Str)} {ks : List (Str × List Str)} (hS : StockOk sorts ks)
include hS
/-- the sorts that are lacking -/
def wantL (sorts : List (Str × Str)) (ss : List Str) : List Str := sorts.flatMap fun q => if q.1 = q.2 then List.replicate (ss.count q.1 % 2) q.1 else List.replicate (ss.count q.1 - ss.count q.2) q.2
end
end G

set_option Elab.async false
set_option linter.all false
set_option maxRecDepth 100000
set_option maxHeartbeats 1000000
/-! MDd: grounds: corners and legs as the laws draw them. -/
namespace G
open PySem L2 DL PG
section
variable (c : Cs) {sorts : List (Str × Str)} {ks : List (Str × List Str)} (hS : StockOk sorts ks)
include hS
end
/-- what the grounds are: corners, legs; all told, there are no more ends than may be; the legs are those drawn and those that lack -/
structure Grounds (sorts : List (Str × Str)) (ks : List (Str × List Str)) (most far : Nat) (cs : List Str) (legs : List (Str × Str)) : Prop where
  co : CornersOk ks cs
  le : LegsOk sorts legs
  cm : cs.length ≤ most
  fa : (endSorts ks cs legs).length ≤ far
  lz : ∀ p ∈ legs, ∃ s ∈ sgn, p.1.cps.toList.getLast? = some s
  ba : ∃ extra : List Str, (∀ x ∈ extra, x ∈ sorts.map fun p => p.1) ∧ ((legs.map fun p => p.2).Perm (extra ++ wantL sorts (extra ++ cs.flatMap (ownOf ks))))
theorem Grounds.nz {sorts : List (Str × Str)} {ks : List (Str × List Str)} {most far : Nat} {cs : List Str} {legs : List (Str × Str)} (h : Grounds sorts ks most far cs legs) : ∀ p ∈ legs, p.1 ≠ "zz" := fun p hp e => by
  obtain ⟨s, hs, hl⟩ := h.lz p hp
  rw [e] at hl
  have : s = 122 := (Option.some.inj hl).symm
  rw [this] at hs
  exact absurd hs (by decide)
section
variable (c : Cs) {sorts : List (Str × Str)} {ks : List (Str × List Str)} (hS : StockOk sorts ks)
include hS
end
end G

set_option Elab.async false
set_option linter.all false
set_option maxRecDepth 100000
set_option maxHeartbeats 1000000
/-! MDe: lists of texts: the first taken, one removed; legs cut, one more. -/
namespace G
open PySem L2 DL PG
theorem LegsOk.sorted {sorts legs : List (Str × Str)} (h : LegsOk sorts legs) : (legs.map pairD).Pairwise fun a b => dLe a b = true := by
  have := sortD_sorted (legs.map pairD)
  rwa [h.so] at this
def zz : Str := "zz"
theorem zz_name : NameOk zz := by
  refine ⟨by decide, by decide, fun c hc => ?_⟩
  have : ∀ c ∈ zz.cps.toList, 97 ≤ c ∧ c ≤ 122 := by decide
  exact this c hc
theorem LegsOk.more {sorts legs : List (Str × Str)} (h : LegsOk sorts legs) (hl : legs.length < 6) (nz : ∀ p ∈ legs, p.1 ≠ zz) {x : Str} (hx : x ∈ sorts.map fun q => q.1) : ∃ legs', sortF (.lst ((legs ++ [((zz : Str), x)]).map pairD)) = some (legs'.map pairD) ∧ LegsOk sorts legs' := by
  obtain ⟨legs', e, p⟩ := perm_map (sortD_perm ((legs ++ [((zz : Str), x)]).map pairD))
  refine ⟨legs', by rw [sortF_pairs _ (by rw [List.length_append]; simp; omega), e], ⟨by rw [p.length_eq, List.length_append]; simp; omega, fun q hq => ?_, ?_, ?_⟩⟩
  · rcases List.mem_append.mp (p.mem_iff.mp hq) with hq | hq
    · exact h.nm q hq
    · rw [List.mem_singleton.mp hq]; exact ⟨zz_name, hx⟩
  · refine (p.map fun q => q.1).nodup_iff.mpr ?_
    rw [List.map_append, List.nodup_append]
    refine ⟨h.nd, by simp, fun a ha b hb e => ?_⟩
    obtain ⟨q, hq, rfl⟩ := List.mem_map.mp ha
    have : b = zz := by simpa using hb
    exact nz q hq (e.trans this)
  · rw [← e]; exact sortD_idem _
end G

set_option Elab.async false
set_option linter.all false
set_option maxRecDepth 100000
set_option maxHeartbeats 2000000
/-! MHa: the laws' own reckonings: changes, ways. -/
namespace G
open PySem L2 DL PG
section
variable (c : Cs) {sorts : List (Str × Str)} {ks : List (Str × List Str)} (hS : StockOk sorts ks)
include hS
/-- what the law itself reckons -/
def chN (ks : List (Str × List Str)) (cs : List Str) : Nat := rk [] cs * pr (cs.map fun n => rk [] (ownOf ks n))
theorem CornersOk.perm {cs ds : List Str} (hC : CornersOk ks cs) (p : ds.Perm cs) : CornersOk ks ds := ⟨by rw [p.length_eq]; exact hC.hi, fun n hn => hC.mem n (p.mem_iff.mp hn)⟩
end
section
variable (c : Cs) {sorts : List (Str × Str)} {ks : List (Str × List Str)} (hS : StockOk sorts ks)
include hS
end
end G

set_option Elab.async false
set_option linter.all false
set_option maxRecDepth 100000
set_option maxHeartbeats 1000000
/-! MHb: fractions in lowest terms; sum_all told. -/
namespace G
open PySem L2 DL PG
section
variable (c : Cs) {sorts : List (Str × Str)} {ks : List (Str × List Str)} (hS : StockOk sorts ks)
include hS
end
end G

set_option Elab.async false
set_option linter.all false
set_option maxRecDepth 100000
set_option maxHeartbeats 1000000
/-! MHc: legs put together; counts with an end taken away; fractions added. -/
namespace G
open PySem L2 DL PG
theorem LegsOk.sub {sorts legs legs' : List (Str × Str)} (h : LegsOk sorts legs) (s : legs'.Sublist legs) : LegsOk sorts legs' :=
  ⟨Nat.le_trans s.length_le h.hi, fun p hp => h.nm p (s.subset hp), List.Nodup.sublist (s.map _) h.nd, sortD_of (List.Pairwise.sublist (s.map _) h.sorted)⟩
theorem LegsOk.app {sorts legs qs : List (Str × Str)} (h : LegsOk sorts legs) (hl : legs.length + qs.length ≤ 6) (hn : ∀ q ∈ qs, NameOk q.1 ∧ q.2 ∈ sorts.map fun r => r.1) (nd : (qs.map fun q => q.1).Nodup) (dj : ∀ p ∈ legs, ∀ q ∈ qs, p.1 ≠ q.1) :
    ∃ legs', sortF (.lst ((legs ++ qs).map pairD)) = some (legs'.map pairD) ∧ LegsOk sorts legs' ∧ legs'.Perm (legs ++ qs) := by
  obtain ⟨legs', e, p⟩ := perm_map (sortD_perm ((legs ++ qs).map pairD))
  refine ⟨legs', by rw [sortF_pairs _ (by rw [List.length_append]; omega), e], ⟨by rw [p.length_eq, List.length_append]; omega, fun q hq => ?_, ?_, ?_⟩, p⟩
  · rcases List.mem_append.mp (p.mem_iff.mp hq) with hq | hq
    · exact h.nm q hq
    · exact hn q hq
  · refine (p.map fun q => q.1).nodup_iff.mpr ?_
    rw [List.map_append, List.nodup_append]
    refine ⟨h.nd, nd, fun a ha b hb e => ?_⟩
    obtain ⟨q, hq, rfl⟩ := List.mem_map.mp ha
    obtain ⟨r, hr, rfl⟩ := List.mem_map.mp hb
    exact dj q hq r hr e
  · rw [← e]; exact sortD_idem _
section
variable {sorts : List (Str × Str)} {ks : List (Str × List Str)} (hS : StockOk sorts ks)
include hS
end
end G

set_option Elab.async false
set_option linter.all false
set_option maxRecDepth 100000
set_option maxHeartbeats 400000
/-! MIa: sets of marks. -/
namespace G
open PySem L2 DL
end G

set_option Elab.async false
set_option linter.all false
set_option maxRecDepth 100000
set_option maxHeartbeats 400000
/-! MIb: marks tied join by join. -/
namespace G
open PySem L2 DL
/-- a join: place, sort, far place, its sort -/
abbrev Jo := Nat × Str × Nat × Str
def joD (j : Jo) : D := .tup [.int (j.1 : Nat), .str j.2.1, .int (j.2.2.1 : Nat), .str j.2.2.2]
end G

set_option Elab.async false
set_option linter.all false
set_option maxRecDepth 100000
set_option maxHeartbeats 400000
/-! MIc: rings told. -/
namespace G
open PySem L2 DL
end G

set_option Elab.async false
set_option linter.all false
set_option maxRecDepth 100000
set_option maxHeartbeats 1000000
/-! MJa: ends that can all be joined; a pairing by draws. -/
namespace G
open PySem L2 DL PG
/-- each sort is there as often as its partner; one that is its own an even number of times -/
def Bal (sorts : List (Str × Str)) (ss : List Str) : Prop := ∀ q ∈ sorts, (q.1 = q.2 → ss.count q.1 % 2 = 0) ∧ ss.count q.1 = ss.count q.2
section
variable (c : Cs) {sorts : List (Str × Str)} {ks : List (Str × List Str)} (hS : StockOk sorts ks)
include hS
end
end G

set_option Elab.async false
set_option linter.all false
set_option maxRecDepth 100000
set_option maxHeartbeats 1000000
/-! MJb: a pairing drawn; its joins. -/
namespace G
open PySem L2 DL PG
theorem Bal.perm {sorts : List (Str × Str)} {ss ts : List Str} (h : Bal sorts ss) (p : ss.Perm ts) : Bal sorts ts := fun q hq => by
  rw [← p.count_eq, ← p.count_eq]; exact h q hq
section
variable (c : Cs) {sorts : List (Str × Str)} {ks : List (Str × List Str)} (hS : StockOk sorts ks)
include hS
end
/-- ends in order -/
theorem toks_end (p : Nat × Str) : PySem.W.keyToks (encD (endD p)) = [.inl 1, .inl (p.1 : Nat), .inl 1, .inr p.2.cps.toList, .inl 0] := rfl
theorem lt_first {a b : Int} {r t : List (Int ⊕ List Nat)} (h : a < b) : PyProof.Rows.lexLt PyProof.Rows.itemOrd (.inl 1 :: .inl a :: r) (.inl 1 :: .inl b :: t) = true := by
  rw [PyProof.Rows.lex_self, PyProof.Rows.lex_diff (O := PyProof.Rows.itemOrd) (fun z => by have := Sum.inl.inj z; omega)]
  exact decide_eq_true h
theorem le_first {a b : Int} {r t : List (Int ⊕ List Nat)} (h : PyProof.Rows.lexLt PyProof.Rows.itemOrd (.inl 1 :: .inl a :: r) (.inl 1 :: .inl b :: t) = false) : b ≤ a := by
  by_cases z : a < b
  · rw [lt_first z] at h; cases h
  · omega
theorem end_le {p q : Nat × Str} (h : dLe (endD p) (endD q) = true) : p.1 ≤ q.1 := by
  rw [dLe_eq] at h
  have h' : PySem.W.dataLt (encD (endD q)) (encD (endD p)) = false := by simpa using h
  unfold PySem.W.dataLt at h'
  rw [toks_end, toks_end] at h'
  have := le_first h'
  omega
def joE (j : Jo) : List (Nat × Str) := [(j.1, j.2.1), (j.2.2.1, j.2.2.2)]
/-- joins as a drawing has them -/
structure JoinsOk (sorts : List (Str × Str)) (ends : List (Nat × Str)) (js : List Jo) : Prop where
  le : ∀ j ∈ js, dLe (endD (j.1, j.2.1)) (endD (j.2.2.1, j.2.2.2)) = true
  pt : ∀ j ∈ js, (j.2.1, j.2.2.2) ∈ sorts
  so : sortD (js.map joD) = js.map joD
  pm : (js.flatMap joE).Perm ends
end G

set_option Elab.async false
set_option linter.all false
set_option maxRecDepth 100000
set_option maxHeartbeats 1000000
/-! MJc: a drawing made. -/
namespace G
open PySem L2 DL PG
theorem ends_place {ks : List (Str × List Str)} {cs : List Str} {legs : List (Str × Str)} {p : Nat × Str} (h : p ∈ endsP ks cs legs) : p.1 < cs.length + legs.length := by
  unfold endsP at h
  rcases List.mem_append.mp h with h | h
  · unfold cornerEnds at h
    obtain ⟨q, hq, h⟩ := List.mem_flatMap.mp h
    obtain ⟨s, _, rfl⟩ := List.mem_map.mp h
    have := List.snd_lt_of_mem_zipIdx hq
    show q.2 < _
    omega
  · obtain ⟨q, hq, rfl⟩ := List.mem_map.mp h
    have := List.snd_lt_of_mem_zipIdx hq
    show cs.length + q.2 < _
    omega
theorem JoinsOk.mem1 {sorts : List (Str × Str)} {ends : List (Nat × Str)} {js : List Jo} (h : JoinsOk sorts ends js) {j : Jo} (hj : j ∈ js) : (j.1, j.2.1) ∈ ends := h.pm.mem_iff.mp (List.mem_flatMap.mpr ⟨j, hj, by simp [joE]⟩)
theorem JoinsOk.mem2 {sorts : List (Str × Str)} {ends : List (Nat × Str)} {js : List Jo} (h : JoinsOk sorts ends js) {j : Jo} (hj : j ∈ js) : (j.2.2.1, j.2.2.2) ∈ ends := h.pm.mem_iff.mp (List.mem_flatMap.mpr ⟨j, hj, by simp [joE]⟩)
theorem joE_len : ∀ js : List Jo, (js.flatMap joE).length = 2 * js.length
  | [] => rfl
  | j :: js => by rw [List.flatMap_cons, List.length_append, joE_len js, List.length_cons]; simp [joE]; omega
theorem JoinsOk.len {sorts : List (Str × Str)} {ends : List (Nat × Str)} {js : List Jo} (h : JoinsOk sorts ends js) : 2 * js.length = ends.length := by rw [← joE_len, h.pm.length_eq]
section
variable (c : Cs) {sorts : List (Str × Str)} {ks : List (Str × List Str)} (hS : StockOk sorts ks)
include hS
theorem jo_pl {js : List Jo} (h : ∀ j ∈ js, (j.2.1, j.2.2.2) ∈ sorts) : ∀ d ∈ js.map joD, Pl 1 d := fun d hd => by
  obtain ⟨j, hj, rfl⟩ := List.mem_map.mp hd
  refine Pl.tup fun e z => ?_
  simp at z
  rcases z with rfl | rfl | rfl | rfl
  · exact Pl.int
  · exact (hS.so.nm _ (h j hj)).1.pl
  · exact Pl.int
  · exact (hS.so.nm _ (h j hj)).2.pl
theorem endsP_len {cs : List Str} {legs : List (Str × Str)} (hC : CornersOk ks cs) (hL : LegsOk sorts legs) : (endsP ks cs legs).length ≤ 36 := by
  have := ends_len hS hC hL
  rw [← ends_sorts, List.length_map] at this
  exact this
end
end G

set_option Elab.async false
set_option linter.all false
set_option maxRecDepth 100000
set_option maxHeartbeats 1000000
/-! MJd: a drawing drawn. -/
namespace G
open PySem L2 DL PG
section
variable (c : Cs) {sorts : List (Str × Str)} {ks : List (Str × List Str)} (hS : StockOk sorts ks)
include hS
end
end G

set_option Elab.async false
set_option linter.all false
set_option maxRecDepth 100000
set_option maxHeartbeats 1000000
/-! MJe: joins moved; a leg's place among legs. -/
namespace G
open PySem L2 DL PG
section
variable (c : Cs) {sorts : List (Str × Str)} {ks : List (Str × List Str)} (hS : StockOk sorts ks)
include hS
theorem stock_pl : Pl 2 (sortsD sorts) ∧ Pl 3 (kindsD ks) := by
  refine ⟨Pl.lst (pairs_pl hS.so.nm), Pl.lst fun d hd => ?_⟩
  obtain ⟨p, hp, rfl⟩ := List.mem_map.mp hd
  refine Pl.tup fun e z => ?_
  simp at z
  rcases z with rfl | rfl
  · exact (hS.nm p hp).pl
  · exact Pl.tup (strs_pl hS.so fun y hy => sort_name hS.so ((hS.en p hp).mem y hy))
theorem stock_eq : g_Stock___eq__ c [stockD c sorts ks, stockD c sorts ks] = some (.bl true) := by
  have h1 := sorts_of c hS
  have h2 := kinds_of c hS
  have p := stock_pl hS
  have q1 : eqD (sortsD sorts) (sortsD sorts) = some (.bl true) := by rw [eqD_pl 2 p.1 p.1]; simp
  have q2 : eqD (kindsD ks) (kindsD ks) = some (.bl true) := by rw [eqD_pl 3 p.2 p.2]; simp
  have i1 : isC c.stock (stockD c sorts ks) = some (.bl true) := by simp [isC, stockD]
  simp_arith only [g_Stock___eq__, m_Stock___eq__, h1, h2, q1, q2, i1]
end
end G

set_option Elab.async false
set_option linter.all false
set_option maxRecDepth 100000
set_option maxHeartbeats 1000000
/-! MJf: two drawings beside one another. -/
namespace G
open PySem L2 DL PG
section
variable (c : Cs) {sorts : List (Str × Str)} {ks : List (Str × List Str)} (hS : StockOk sorts ks)
include hS
end
end G

set_option Elab.async false
set_option linter.all false
set_option maxRecDepth 100000
set_option maxHeartbeats 1000000
/-! MJg: inner joins of two drawings beside one another; their rings. -/
namespace G
open PySem L2 DL PG
section
variable {sorts : List (Str × Str)} {ks : List (Str × List Str)}
theorem JoinsOk.up {ends : List (Nat × Str)} {js : List Jo} (h : JoinsOk sorts ends js) {j : Jo} (hj : j ∈ js) : j.1 ≤ j.2.2.1 := end_le (h.le j hj)
end
end G

set_option Elab.async false
set_option linter.all false
set_option maxRecDepth 100000
set_option maxHeartbeats 1000000
/-! NAa: the draws of the first family: next, one, names. -/
namespace GA
open PySem L2 DL G PG
/-- a source that was drawn from at most m times -/
def Sr (m : Nat) (R : D) : Prop := ∃ a b k : Int, R = rs a b k ∧ 0 ≤ b ∧ b < 2147483647 ∧ 0 ≤ k ∧ k ≤ (m : Int)
theorem Sr.mono {m n : Nat} {R : D} (h : Sr m R) (l : m ≤ n) : Sr n R := by
  obtain ⟨a, b, k, e, h1, h2, h3, h4⟩ := h
  exact ⟨a, b, k, e, h1, h2, h3, by omega⟩
theorem source_ok (c : Cs) (i : Int) : ∃ R, g__law_source_of c [.int i] = some R ∧ Sr 0 R := by
  have h1 : powOk 10 18 = true := by decide +kernel
  have h2 : modOk i 2147483647 = true := by simp [modOk]
  have e : (10 : Int) ^ (18 : Int).toNat = 1000000000000000000 := by decide +kernel
  by_cases h : (1000000000000000000 : Int) ≤ i
  · have hm : mulOk i 1 = true := mulOk_r (by decide)
    have h' : ((1000000000000000000 : Int) ≤ i) = True := by simp [h]
    refine ⟨rs (i * 1) (i % 2147483647) 0, ?_, _, _, _, rfl, Int.emod_nonneg _ (by decide), Int.emod_lt_of_pos _ (by decide), by decide, by decide⟩
    have i1 : intD (.bl true) = some (.int 1) := rfl
    simp_arith only [g__law_source_of, m__law_source_of, h1, e, h', i1, hm, h2, rs]
  · have hm : mulOk i 0 = true := mulOk_r (by decide)
    have h' : ((1000000000000000000 : Int) ≤ i) = False := by simp [h]
    refine ⟨rs (i * 0) (i % 2147483647) 0, ?_, _, _, _, rfl, Int.emod_nonneg _ (by decide), Int.emod_lt_of_pos _ (by decide), by decide, by decide⟩
    have i1 : intD (.bl false) = some (.int 0) := rfl
    simp_arith only [g__law_source_of, m__law_source_of, h1, e, h', i1, hm, h2, rs]
theorem prime_at (j : Int) : ∃ p : Int, ixD (.lst [.int 2147483647, .int 2147483629, .int 2147483587, .int 2147483579, .int 2147483563, .int 2147483549, .int 2147483543]) (.int (j % 7)) = some (.int p) ∧ 2147483000 < p ∧ p ≤ 2147483647 := by
  have h0 := Int.emod_nonneg j (show (7 : Int) ≠ 0 by decide)
  have h1 := Int.emod_lt_of_pos j (show (0 : Int) < 7 by decide)
  generalize j % 7 = r at h0 h1
  have : r = 0 ∨ r = 1 ∨ r = 2 ∨ r = 3 ∨ r = 4 ∨ r = 5 ∨ r = 6 := by omega
  rcases this with rfl | rfl | rfl | rfl | rfl | rfl | rfl <;> exact ⟨_, rfl, by decide, by decide⟩
theorem next_spec (c : Cs) {m : Nat} {R : D} (hR : Sr m R) (hm : m ≤ 1000000) (n : Int) (h0 : 0 < n) (h1 : n < 1000000) : ∃ (r : Int) (R' : D), g__law_next c [R, .int n] = some (.int r, R') ∧ 0 ≤ r ∧ r < n ∧ Sr (m + 1) R' := by
  obtain ⟨a, b, k, rfl, b0, b1, k0, k1⟩ := hR
  have i0 : ∀ a b k : Int, ixD (.lst [.int a, .int b, .int k]) (.int 0) = some (.int a) := fun _ _ _ => rfl
  have i1 : ∀ a b k : Int, ixD (.lst [.int a, .int b, .int k]) (.int 1) = some (.int b) := fun _ _ _ => rfl
  have i2 : ∀ a b k : Int, ixD (.lst [.int a, .int b, .int k]) (.int 2) = some (.int k) := fun _ _ _ => rfl
  have n0 : ixN 3 0 = some 0 := rfl
  have n2 : ixN 3 2 = some 2 := rfl
  have hmn : modOk a n = true := by simp [modOk, h0]
  have hdn : divOk a n = true := by simp [divOk, h0]; omega
  by_cases h : 0 < a
  · refine ⟨a % n, rs (a / n) b k, ?_, Int.emod_nonneg _ (by omega), Int.emod_lt_of_pos _ h0, _, _, _, rfl, b0, b1, k0, by omega⟩
    have h' : (0 < a) = True := by simp [h]
    unfold rs
    simp_arith only [g__law_next, m__law_next, i0, h', hmn, hdn, n0]
  · obtain ⟨p, hp, p0, p1⟩ := prime_at (k + 1)
    have h' : (0 < a) = False := by simp [h]
    obtain ⟨x, hx⟩ : ∃ x, x = (b + 7919 * (k + 1) + 1) ^ (5 : Int).toNat % p := ⟨_, rfl⟩
    have x0 : 0 ≤ x := by rw [hx]; exact Int.emod_nonneg _ (by omega)
    have x1 : x < p := by rw [hx]; exact Int.emod_lt_of_pos _ (by omega)
    obtain ⟨y, hy⟩ : ∃ y, y = (x + (k + 1)) * (x / 1009 + 69621) % p := ⟨_, rfl⟩
    have y0 : 0 ≤ y := by rw [hy]; exact Int.emod_nonneg _ (by omega)
    refine ⟨y / 7 % n, rs a b (k + 1), ?_, Int.emod_nonneg _ (by omega), Int.emod_lt_of_pos _ h0, _, _, _, rfl, b0, b1, by omega, by omega⟩
    have m7 : modOk (k + 1) 7 = true := by simp [modOk]
    have mm : mulOk 7919 (k + 1) = true := mulOk_l (by decide)
    have pw : powOk (b + 7919 * (k + 1) + 1) 5 = true := by
      unfold powOk
      simp only [Bool.and_eq_true, decide_eq_true_eq]
      omega
    have mp : ∀ z, modOk z p = true := fun z => by simp [modOk]; omega
    have d9 : divOk x 1009 = true := by simp [divOk]
    have mx : mulOk (x + (k + 1)) (x / 1009 + 69621) = true := mulOk_l (by omega)
    have d7 : divOk y 7 = true := by simp [divOk]
    have mn : modOk (y / 7) n = true := by simp [modOk, h0]
    unfold rs
    simp_arith only [g__law_next, m__law_next, i0, i1, i2, h', n2, m7, mm, pw, hp, mp, ← hx, ← hy, d9, mx, d7, mn]
end GA

set_option Elab.async false
set_option linter.all false
set_option maxRecDepth 100000
set_option maxHeartbeats 1000000
/-! NAb: one of some; names. -/
namespace GA
open PySem L2 DL G PG
theorem one_spec (c : Cs) {m : Nat} {R : D} (hR : Sr m R) (hm : m ≤ 1000000) {ds : List D} (h0 : 0 < ds.length) (h1 : ds.length < 1000000) : ∃ (i : Nat) (h : i < ds.length) (R' : D), g__law_one c [R, .lst ds] = some (ds[i], R') ∧ Sr (m + 1) R' := by
  obtain ⟨r, R', hp, r0, r1, hS⟩ := next_spec c hR hm (ds.length : Nat) (by omega) (by omega)
  obtain ⟨h2, h3⟩ := atI_nat (xs := ds) r0 r1
  refine ⟨r.toNat, h2, R', ?_, hS⟩
  have e1 : lenD (.lst ds) = some (.int (ds.length : Nat)) := rfl
  have e2 : ixD (.lst ds) (.int r) = some ds[r.toNat] := h3
  simp_arith only [g__law_one, m__law_one, e1, hp, e2]
theorem letterA (c : Cs) {m : Nat} {R : D} (hR : Sr m R) (hm : m ≤ 1000000) (w : Str) (hw : w.cps.size ≤ 100) (hl : Low w) (f1 f2 f3 f4 f5 f7 : Sl) :
    ∃ R' w', B__law_names_0 c [.io R, f1, f2, f3, f4, f5, .fr (.str w), f7] = some (.nx [.io R', f1, f2, f3, f4, f5, .fr (.str w'), f7]) ∧ Low w' ∧ w'.cps.size = w.cps.size + 1 ∧ Sr (m + 1) R' := by
  obtain ⟨r, R', hp, h0, h1, hS⟩ := next_spec c hR hm 26 (by decide) (by decide)
  refine ⟨R', w ++ ⟨#[r.toNat + 97]⟩, ?_, hl.app (low1 (by omega)), app_size _ _, hS⟩
  have e : ixD (.str "abcdefghijklmnopqrstuvwxyz") (.int r) = some (.str ⟨#[r.toNat + 97]⟩) := abc_at h0 h1
  have hz : w.length + 1 ≤ 1000000 := by rw [str_len]; omega
  have ea : addD (.str w) (.str ⟨#[r.toNat + 97]⟩) = some (.str (w ++ ⟨#[r.toNat + 97]⟩)) := by
    have hz' : w.length + (⟨#[r.toNat + 97]⟩ : Str).length ≤ 1000000 := hz
    simp [addD, fI0, fStrCat, hz']
  simp_arith only [B__law_names_0, hp, e, ea]
theorem lettersA (c : Cs) (f1 f2 f3 f4 f5 : Sl) : ∀ (ds : List D) (m : Nat) (R : D) (w : Str) (f7 : Sl), Sr m R → m + ds.length ≤ 1000000 → w.cps.size + ds.length ≤ 100 → Low w →
    ∃ R' w' f7', forL (gN 7) (B__law_names_0 c) ds [.io R, f1, f2, f3, f4, f5, .fr (.str w), f7] = some (.nx [.io R', f1, f2, f3, f4, f5, .fr (.str w'), f7']) ∧ Low w' ∧ w'.cps.size = w.cps.size + ds.length ∧ Sr (m + ds.length) R'
  | [], m, R, w, f7, hS, _, _, hl => ⟨R, w, f7, rfl, hl, rfl, hS⟩
  | d :: ds, m, R, w, f7, hS, hm, hw, hl => by
    rw [List.length_cons] at hm hw
    obtain ⟨R1, w1, h1, h2, h3, hS1⟩ := letterA c hS (by omega) w (by omega) hl f1 f2 f3 f4 f5 (.fr d)
    obtain ⟨R', w', f7', h4, h5, h6, hS'⟩ := lettersA c f1 f2 f3 f4 f5 ds (m + 1) R1 w1 (.fr d) hS1 (by omega) (by omega) h2
    refine ⟨R', w', f7', ?_, h5, by rw [List.length_cons]; omega, hS'.mono (by rw [List.length_cons]; omega)⟩
    have hg : gN 7 d [.io R, f1, f2, f3, f4, f5, .fr (.str w), f7] = some [.io R, f1, f2, f3, f4, f5, .fr (.str w), .fr d] := rfl
    simp only [forL, hg, h1]
    exact h4
theorem wordA (c : Cs) {m : Nat} {R : D} (hR : Sr m R) (hm : m ≤ 100000) (ws : List Str) (hws : ws.length < 100) (s : Nat) (hs : 97 ≤ s ∧ s ≤ 122) (f1 f2 f3 f6 f7 : Sl) :
    ∃ R' x f6' f7', B__law_names_1 c [.io R, f1, f2, f3, .ow (.lst (ws.map .str)), .fr (.str ⟨#[s]⟩), f6, f7] = some (.nx [.io R', f1, f2, f3, .ow (.lst ((ws ++ [x]).map .str)), .fr (.str ⟨#[s]⟩), f6', f7']) ∧ Wd x s ∧ Sr (m + 10) R' := by
  obtain ⟨r, R1, hp, r0, r1, hS1⟩ := next_spec c hR (by omega) 8 (by decide) (by decide)
  obtain ⟨i, hi, R2, ho, hS2⟩ := one_spec c hS1 (by omega) (ds := [.int 0, .int 1, .int r]) (by simp) (by simp)
  obtain ⟨n, hn, hn7⟩ : ∃ n : Nat, [D.int 0, .int 1, .int r][i] = .int (n : Nat) ∧ n ≤ 7 := by
    simp only [List.length_cons, List.length_nil] at hi
    have : i = 0 ∨ i = 1 ∨ i = 2 := by omega
    rcases this with rfl | rfl | rfl
    · exact ⟨0, rfl, by decide⟩
    · exact ⟨1, rfl, by decide⟩
    · exact ⟨r.toNat, by show D.int r = _; congr 1; omega, by omega⟩
  rw [hn] at ho
  have hr : rg1 [.int (n : Nat)] = some (rangeD 0 n) := by
    have : -1000000 ≤ (n : Int) ∧ (n : Int) ≤ 1000000 := by omega
    simp only [rg1, this, and_self, if_true, Int.toNat_natCast]
  have hrl : (rangeD 0 n).length = n := rangeD_len
  obtain ⟨R', w', f7', h5, h6, h7, hS'⟩ := lettersA c f1 f2 f3 (.ow (.lst (ws.map .str))) (.fr (.str ⟨#[s]⟩)) (rangeD 0 n) (m + 1 + 1) R2 "" f7 hS2 (by rw [hrl]; omega) (by rw [hrl]; show 0 + n ≤ 100; omega) (fun c hc => by cases hc)
  rw [hrl] at h7 hS'
  have z : w'.cps.size = n := by rw [h7]; exact Nat.zero_add _
  have ea : addD (.str w') (.str ⟨#[s]⟩) = some (.str (w' ++ ⟨#[s]⟩)) := by
    have hz' : w'.length + (⟨#[s]⟩ : Str).length ≤ 1000000 := by show w'.cps.size + 1 ≤ 1000000; omega
    simp [addD, fI0, fStrCat, hz']
  refine ⟨R', w' ++ ⟨#[s]⟩, .fr (.str w'), f7', ?_, ⟨⟨by rw [app_size, z]; exact Nat.le_add_left _ _, by rw [app_size, z]; show n + 1 ≤ 8; omega, h6.app (low1 hs)⟩, ?_⟩, hS'.mono (by omega)⟩
  · have hws' : (ws.map D.str).length < 1000000 := by rw [List.length_map]; omega
    have em : (ws ++ [w' ++ ⟨#[s]⟩]).map D.str = ws.map D.str ++ [.str (w' ++ ⟨#[s]⟩)] := by rw [List.map_append]; rfl
    rw [em]
    simp_arith only [B__law_names_1, hp, ho, hr, h5, ea, hws']
  · rw [app_cps]
    show (w'.cps.toList ++ [s]).getLast? = some s
    simp
theorem wordsA (c : Cs) (f1 f2 f3 : Sl) : ∀ (ss : List Nat) (m : Nat) (R : D) (ws : List Str) (pre : List Nat) (f5 f6 f7 : Sl), Sr m R → m + 10 * ss.length ≤ 100000 → (∀ s ∈ ss, 97 ≤ s ∧ s ≤ 122) → ws.length + ss.length ≤ 50 → WdAll ws pre →
    ∃ R' ws' f5' f6' f7', forL (gN 5) (B__law_names_1 c) (ss.map fun s => D.str ⟨#[s]⟩) [.io R, f1, f2, f3, .ow (.lst (ws.map .str)), f5, f6, f7] = some (.nx [.io R', f1, f2, f3, .ow (.lst (ws'.map .str)), f5', f6', f7']) ∧ WdAll ws' (pre ++ ss) ∧ Sr (m + 10 * ss.length) R'
  | [], m, R, ws, pre, f5, f6, f7, hS, _, _, _, h => ⟨R, ws, f5, f6, f7, rfl, by rw [List.append_nil]; exact h, hS⟩
  | s :: ss, m, R, ws, pre, f5, f6, f7, hS, hm, hs, hl, h => by
    rw [List.length_cons] at hl hm
    obtain ⟨R1, x, f61, f71, h1, h2, hS1⟩ := wordA c hS (by omega) ws (by omega) s (hs s List.mem_cons_self) f1 f2 f3 f6 f7
    obtain ⟨R', ws', f5', f6', f7', h3, h4, hS'⟩ := wordsA c f1 f2 f3 ss (m + 10) R1 (ws ++ [x]) (pre ++ [s]) (.fr (.str ⟨#[s]⟩)) f61 f71 hS1 (by omega) (fun t ht => hs t (List.mem_cons_of_mem _ ht)) (by rw [List.length_append]; simp only [List.length_cons, List.length_nil]; omega) (h.snoc h2)
    refine ⟨R', ws', f5', f6', f7', ?_, by rw [List.append_assoc] at h4; exact h4, hS'.mono (by rw [List.length_cons]; omega)⟩
    rw [List.map_cons]
    have hg : gN 5 (.str ⟨#[s]⟩) [.io R, f1, f2, f3, .ow (.lst (ws.map .str)), f5, f6, f7] = some [.io R, f1, f2, f3, .ow (.lst (ws.map .str)), .fr (.str ⟨#[s]⟩), f6, f7] := rfl
    simp only [forL, hg, h1]
    exact h3
def sg2 : List Nat := [109, 107, 120, 113, 119, 116]
def nm10 : List Str := ["a", "ab", "leg", "b", "sort", "abc", "join", "zzzzzzzz", "ba", "kind"]
theorem nm10_ok : nm10.Nodup ∧ ∀ x ∈ nm10, NameOk x := by
  have : nm10.Nodup ∧ ∀ x ∈ nm10, (1 ≤ x.cps.size ∧ x.cps.size ≤ 8 ∧ ∀ c ∈ x.cps.toList, 97 ≤ c ∧ c ≤ 122) := by decide +kernel
  exact ⟨this.1, fun x hx => this.2 x hx⟩
theorem cut_fromN {xs : List D} {i : Nat} : cutD xs (some (i : Int)) none = xs.drop i := by
  unfold cutD
  have e : HT.sIx xs.length 0 (some (i : Int)) = min i xs.length := HT.sIx_nat xs.length 0 i
  rw [HT.sIx_none, e]
  by_cases h : i ≤ xs.length
  · rw [Nat.min_eq_left h, List.take_of_length_le (by rw [List.length_drop]; omega)]
  · rw [Nat.min_eq_right (by omega), List.drop_length, List.drop_eq_nil_of_le (by omega)]
    simp
theorem words_nd2 {ws : List Str} {m : Nat} (h : WdAll ws (sg2.take m)) : ws.Nodup ∧ ∀ x ∈ ws, NameOk x := by
  have hl := h.1
  constructor
  · refine List.pairwise_iff_getElem.mpr fun i j hi hj hij e => ?_
    have s1 := List.getElem?_eq_getElem (l := sg2.take m) (i := i) (by omega)
    have s2 := List.getElem?_eq_getElem (l := sg2.take m) (i := j) (by omega)
    have w1 := h.2 i _ _ (List.getElem?_eq_getElem hi) s1
    have w2 := h.2 j _ _ (List.getElem?_eq_getElem hj) s2
    have nd : (sg2.take m).Nodup := List.Nodup.sublist (List.take_sublist m sg2) (by decide)
    exact wd_ne w1 w2 (List.pairwise_iff_getElem.mp nd i j (by omega) (by omega) hij) e
  · intro x hx
    obtain ⟨i, hi, e⟩ := List.mem_iff_getElem.mp hx
    have s1 := List.getElem?_eq_getElem (l := sg2.take m) (i := i) (by omega)
    exact (h.2 i x _ (by rw [List.getElem?_eq_getElem hi, e]) s1).1
def NmOf (x : Str) : Prop := x ∈ nm10 ∨ ∃ s ∈ sg2, x.cps.toList.getLast? = some s
theorem words_of {ws : List Str} {m : Nat} (h : WdAll ws (sg2.take m)) : ∀ x ∈ ws, NmOf x := by
  have hl := h.1
  intro x hx
  obtain ⟨i, hi, e⟩ := List.mem_iff_getElem.mp hx
  have hi' : i < (sg2.take m).length := by omega
  have s1 := List.getElem?_eq_getElem (l := sg2.take m) (i := i) hi'
  exact Or.inr ⟨_, List.mem_of_mem_take (List.getElem_mem hi'), (h.2 i x _ (by rw [List.getElem?_eq_getElem hi, e]) s1).2⟩
theorem names_specN (c : Cs) {m : Nat} {R : D} (hR : Sr m R) (hm : m ≤ 10000) (n : Nat) (hn : n ≤ 6) : ∃ (ws : List Str) (R' : D), g__law_names c [R, .int (n : Nat)] = some (.lst (ws.map .str), R') ∧ ws.length = n ∧ ws.Nodup ∧ (∀ x ∈ ws, NameOk x) ∧ Sr (m + 100) R' ∧ (∀ x ∈ ws, NmOf x) := by
  obtain ⟨r, R1, hp1, r0, r1, hS1⟩ := next_spec c hR (by omega) 10 (by decide) (by decide)
  obtain ⟨q, R2, hp2, q0, q1, hS2⟩ := next_spec c hS1 (by omega) 2 (by decide) (by decide)
  obtain ⟨i, rfl⟩ : ∃ i : Nat, r = (i : Nat) := ⟨r.toNat, by omega⟩
  by_cases h : q = 0
  · subst h
    have e0 : eqD (.int 0) (.int 0) = some (.bl true) := by rw [eqD_int]; rfl
    have hd : slD (.lst (nm10.map .str)) (some (i : Int)) none = some (.lst ((nm10.drop i).map .str)) := by simp only [slD, cut_fromN, List.map_drop]
    have ht := slD_to nm10 i
    have ha : addD (.lst ((nm10.drop i).map .str)) (.lst ((nm10.take i).map .str)) = some (.lst ((nm10.drop i ++ nm10.take i).map .str)) := by
      rw [addD_lst (by rw [List.length_map, List.length_map, List.length_drop, List.length_take]; have : nm10.length = 10 := rfl; omega), List.map_append]
    have hs := slD_to (nm10.drop i ++ nm10.take i) n
    have pm : (nm10.drop i ++ nm10.take i).Perm nm10 := List.perm_append_comm.trans (by rw [List.take_append_drop])
    refine ⟨(nm10.drop i ++ nm10.take i).take n, R2, ?_, ?_, List.Nodup.sublist (List.take_sublist _ _) (pm.nodup_iff.mpr nm10_ok.1), fun x hx => nm10_ok.2 x (pm.mem_iff.mp (List.mem_of_mem_take hx)), hS2.mono (by omega), fun x hx => Or.inl (pm.mem_iff.mp (List.mem_of_mem_take hx))⟩
    · have hd' : slD (.lst [.str "a", .str "ab", .str "leg", .str "b", .str "sort", .str "abc", .str "join", .str "zzzzzzzz", .str "ba", .str "kind"]) (some (i : Int)) none = some (.lst ((nm10.drop i).map .str)) := hd
      have ht' : slD (.lst [.str "a", .str "ab", .str "leg", .str "b", .str "sort", .str "abc", .str "join", .str "zzzzzzzz", .str "ba", .str "kind"]) none (some (i : Int)) = some (.lst ((nm10.take i).map .str)) := ht
      simp_arith only [g__law_names, m__law_names, hp1, hp2, e0, hd', ht', ha, hs]
    · rw [List.length_take, pm.length_eq]
      have : nm10.length = 10 := rfl
      omega
  · have e0 : eqD (.int q) (.int 0) = some (.bl false) := by rw [eqD_int, decide_eq_false h]
    have hsg : ∀ s ∈ sg2.take n, 97 ≤ s ∧ s ≤ 122 := fun s hs => by
      have h : ∀ s ∈ sg2, 97 ≤ s ∧ s ≤ 122 := by decide
      exact h s (List.mem_of_mem_take hs)
    have hl6 : (sg2.take n).length = n := by rw [List.length_take]; have : sg2.length = 6 := rfl; omega
    obtain ⟨R', ws', f5', f6', f7', h3, h4, hS'⟩ := wordsA c (.fr (.int (n : Nat))) (.ow (.lst (nm10.map .str))) (.fr (.int (i : Nat))) (sg2.take n) (m + 1 + 1) R2 [] [] .un .un .un hS2 (by rw [hl6]; omega) hsg (by rw [hl6]; simp; omega) ⟨rfl, fun i x s h => by simp at h⟩
    have nd := words_nd2 h4
    refine ⟨ws', R', ?_, by rw [h4.1]; exact hl6, nd.1, nd.2, hS'.mono (by rw [hl6]; omega), words_of h4⟩
    have hsl : slD (.str "mkxqwt") none (some (n : Int)) = some (.str ⟨(sg2.take n).toArray⟩) := by
      have : n = 0 ∨ n = 1 ∨ n = 2 ∨ n = 3 ∨ n = 4 ∨ n = 5 ∨ n = 6 := by omega
      rcases this with rfl | rfl | rfl | rfl | rfl | rfl | rfl <;> rfl
    have h3' : forL (gN 5) (B__law_names_1 c) (signsD ⟨(sg2.take n).toArray⟩) [.io R2, .fr (.int (n : Nat)), .ow (.lst [.str "a", .str "ab", .str "leg", .str "b", .str "sort", .str "abc", .str "join", .str "zzzzzzzz", .str "ba", .str "kind"]), .fr (.int (i : Nat)), .ow (.lst []), .un, .un, .un] = _ := h3
    have hx : ∀ m : M D, ∀ δ δ1 : En, m δ = some (.ok (.str ⟨(sg2.take n).toArray⟩) δ1) → mTxtOf m δ = some (.ok (signsD ⟨(sg2.take n).toArray⟩) δ1) := fun m δ δ1 h => by
      have : min n sg2.length ≤ 1000000 := by have : sg2.length = 6 := rfl; omega
      simp [mTxtOf, M.bind, M.lift, h, this]
    have hx' := hx (mSl slD (mVal (mC (.str "mkxqwt"))) mpNone (mpSome (mVar 1))) [.io R2, .fr (.int (n : Nat)), .ow (.lst [.str "a", .str "ab", .str "leg", .str "b", .str "sort", .str "abc", .str "join", .str "zzzzzzzz", .str "ba", .str "kind"]), .fr (.int (i : Nat)), .ow (.lst []), .un, .un, .un] [.io R2, .fr (.int (n : Nat)), .ow (.lst [.str "a", .str "ab", .str "leg", .str "b", .str "sort", .str "abc", .str "join", .str "zzzzzzzz", .str "ba", .str "kind"]), .fr (.int (i : Nat)), .ow (.lst []), .un, .un, .un] (by simp_arith only [hsl])
    simp_arith only [g__law_names, m__law_names, hp1, hp2, e0, hx', h3']
end GA

set_option Elab.async false
set_option linter.all false
set_option maxRecDepth 100000
set_option maxHeartbeats 1000000
/-! NAc: a stock drawn. -/
namespace GA
open PySem L2 DL G PG
def FO (s : Sl) (d : D) : Prop := s = .fr d ∨ s = .ow d
theorem endA (c : Cs) {m : Nat} {R : D} (hR : Sr m R) (hm : m ≤ 100000) {sorts : List (Str × Str)} (hs : 1 ≤ sorts.length ∧ sorts.length ≤ 3) {s7 : Sl} (h7 : FO s7 (sortsD sorts)) (f1 f2 f3 f4 f5 f6 f8 f9 f10 f11 : Sl) :
    ∃ R' x, E__law_stock_0 c [.io R, f1, f2, f3, f4, f5, f6, s7, f8, f9, f10, f11] = some (.ok (.str x) [.io R', f1, f2, f3, f4, f5, f6, .fr (sortsD sorts), f8, f9, f10, f11]) ∧ x ∈ sorts.map (fun p => p.1) ∧ Sr (m + 1) R' := by
  obtain ⟨i, hi, R', ho, hS⟩ := one_spec c hR (by omega) (ds := sorts.map fun p => D.tup [.str p.1, .str p.2]) (by rw [List.length_map]; omega) (by rw [List.length_map]; omega)
  rw [List.getElem_map] at ho
  have hi' : i < sorts.length := by simpa using hi
  refine ⟨R', (sorts[i]).1, ?_, List.mem_map.mpr ⟨_, List.getElem_mem hi', rfl⟩, hS⟩
  have e2 : ∀ p : Str × Str, ixD (.tup [.str p.1, .str p.2]) (.int 0) = some (.str p.1) := fun _ => rfl
  have ho' : g__law_one c [R, sortsD sorts] = some (.tup [.str (sorts[i]).1, .str (sorts[i]).2], R') := ho
  rcases h7 with rfl | rfl <;> simp_arith only [E__law_stock_0, ho', e2]
theorem endsA (c : Cs) {m : Nat} {R : D} (hR : Sr m R) (hm : m ≤ 10000) (mo : Nat) (hmo : 1 ≤ mo ∧ mo ≤ 5) {sorts : List (Str × Str)} (hs : 1 ≤ sorts.length ∧ sorts.length ≤ 3) {s7 : Sl} (h7 : FO s7 (sortsD sorts)) (f2 f3 f4 f5 f6 f8 f9 f10 f11 : Sl) :
    ∃ (R' : D) (xs : List Str) (s7' : Sl), L__law_stock_0 c [.io R, .fr (.int (mo : Nat)), f2, f3, f4, f5, f6, s7, f8, f9, f10, f11] = some (.ok (.lst (xs.map .str)) [.io R', .fr (.int (mo : Nat)), f2, f3, f4, f5, f6, s7', f8, f9, f10, .un]) ∧ FO s7' (sortsD sorts) ∧ (∀ x ∈ xs, x ∈ sorts.map fun p => p.1) ∧ 1 ≤ xs.length ∧ xs.length ≤ 5 ∧ Sr (m + 10) R' := by
  obtain ⟨r, R1, hp, r0, r1, hS1⟩ := next_spec c hR (by omega) (mo : Nat) (by omega) (by omega)
  obtain ⟨i, hi, R2, ho, hS2⟩ := one_spec c hS1 (by omega) (ds := [.int (1 + r), .int (mo : Nat), .int 3]) (by simp) (by simp)
  obtain ⟨n, hn, n1, n5⟩ : ∃ n : Nat, [D.int (1 + r), .int (mo : Nat), .int 3][i] = .int (n : Nat) ∧ 1 ≤ n ∧ n ≤ 5 := by
    simp only [List.length_cons, List.length_nil] at hi
    have : i = 0 ∨ i = 1 ∨ i = 2 := by omega
    rcases this with rfl | rfl | rfl
    · exact ⟨(1 + r).toNat, by show D.int (1 + r) = _; congr 1; omega, by omega, by omega⟩
    · exact ⟨mo, rfl, hmo.1, hmo.2⟩
    · exact ⟨3, rfl, by decide, by decide⟩
  rw [hn] at ho
  have ea : addD (.int 1) (.int r) = some (.int (1 + r)) := rfl
  have hrg : rg1 [.int (n : Nat)] = some ((List.range n).map fun i => D.int (0 + (i : Nat))) := by
    have : -1000000 ≤ (n : Int) ∧ (n : Int) ≤ 1000000 := by omega
    simp only [rg1, this, and_self, if_true, rangeD, Int.toNat_natCast]
  obtain ⟨out, δ', g1, ⟨R', xs, s7', rfl, hl, g2, hS', h7', rfl⟩⟩ := mLc_ix (as := List.range n) (enc := fun i => D.int (0 + (i : Nat))) (g := gN 11) (t := mYes) (e := E__law_stock_0 c) (vs := [11])
    (it := mIt rg1 (mdCons (mCallI 0 [.fr] (g__law_one c) (maCons (mVal (mLst (mdCons (m2 addD (mVal (mC (.int 1))) (mVal (mCallI 0 [.fr] (g__law_next c) (maCons (mVal (mVar 1)) maNil)))) (mdCons (mVar 1) (mdCons (mC (.int 3)) mdNil))))) maNil)) mdNil))
    (δ := [.io R, .fr (.int (mo : Nat)), f2, f3, f4, f5, f6, s7, f8, f9, f10, f11]) (δ0 := [.io R2, .fr (.int (mo : Nat)), f2, f3, f4, f5, f6, s7, f8, f9, f10, f11])
    (fun i acc δ => ∃ (R' : D) (xs : List Str) (s7' : Sl), acc = xs.map D.str ∧ xs.length = i ∧ (∀ x ∈ xs, x ∈ sorts.map fun p => p.1) ∧ Sr (m + 2 + i) R' ∧ FO s7' (sortsD sorts) ∧ δ = [.io R', .fr (.int (mo : Nat)), f2, f3, f4, f5, f6, s7', f8, f9, f10, .un])
    (by simp_arith only [hp, ea, ho, hrg]) ⟨R2, [], s7, rfl, rfl, (fun x hx => by cases hx), hS2, h7, rfl⟩ (by
      rintro i a acc δ ha ⟨R', xs, s7', rfl, hl, hx, hS, h7', rfl⟩
      have hi : i < n := by have := (List.getElem?_eq_some_iff.mp ha).1; simpa using this
      obtain ⟨R3, x, e1, e2, hS3⟩ := endA c hS (by omega) hs h7' (.fr (.int (mo : Nat))) f2 f3 f4 f5 f6 f8 f9 f10 (.fr (.int (0 + (a : Nat))))
      refine ⟨_, true, _, rfl, rfl, (fun z => by cases z), fun _ => ⟨.str x, _, e1, R3, xs ++ [x], .fr (sortsD sorts), by rw [List.map_append]; rfl, by rw [List.length_append, hl]; rfl, fun y hy => ?_, hS3, Or.inl rfl, rfl⟩⟩
      rcases List.mem_append.mp hy with hy | hy
      · exact hx y hy
      · rw [List.mem_singleton.mp hy]; exact e2)
  rw [List.length_range] at hl hS'
  exact ⟨R', xs, s7', g1, h7', g2, by omega, by omega, hS'.mono (by omega)⟩
theorem kindA (c : Cs) {m : Nat} {R : D} (hR : Sr m R) (hm : m ≤ 10000) (mo : Nat) (hmo : 1 ≤ mo ∧ mo ≤ 5) {sorts : List (Str × Str)} (hs : 1 ≤ sorts.length ∧ sorts.length ≤ 3) {s7 : Sl} (h7 : FO s7 (sortsD sorts)) (ks : List (Str × List Str)) (hks : ks.length < 100) (x : Str) (f2 f3 f4 f5 f6 f10 f11 : Sl) :
    ∃ (R' : D) (xs : List Str) (s7' s10 s11 : Sl), B__law_stock_0 c [.io R, .fr (.int (mo : Nat)), f2, f3, f4, f5, f6, s7, .ow (kindsD ks), .fr (.str x), f10, f11] = some (.nx [.io R', .fr (.int (mo : Nat)), f2, f3, f4, f5, f6, s7', .ow (kindsD (ks ++ [(x, sortS xs)])), .fr (.str x), s10, s11]) ∧ FO s7' (sortsD sorts) ∧ (∀ x ∈ xs, x ∈ sorts.map fun p => p.1) ∧ 1 ≤ xs.length ∧ xs.length ≤ 5 ∧ Sr (m + 10) R' := by
  obtain ⟨R', xs, s7', h1, h2, h3, h4, h5, hS⟩ := endsA c hR hm mo hmo hs h7 f2 f3 f4 f5 f6 (.ow (kindsD ks)) (.fr (.str x)) f10 f11
  refine ⟨R', xs, s7', .ow (.lst (xs.map .str)), .un, ?_, h2, h3, h4, h5, hS⟩
  have hso := sortF_lst xs (by omega)
  have hk : (ks.map G.kindD).length < 1000000 := by rw [List.length_map]; omega
  have ek : kindsD (ks ++ [(x, sortS xs)]) = .lst (ks.map G.kindD ++ [.tup [.str x, .tup ((sortS xs).map .str)]]) := by unfold kindsD; rw [List.map_append]; rfl
  rw [ek]
  have hkd : kindsD ks = .lst (ks.map G.kindD) := rfl
  rw [hkd] at h1 ⊢
  simp_arith only [B__law_stock_0, h1, hso, hk]
theorem kindsA (c : Cs) (mo : Nat) (hmo : 1 ≤ mo ∧ mo ≤ 5) {sorts : List (Str × Str)} (hs : 1 ≤ sorts.length ∧ sorts.length ≤ 3) (f2 f3 f4 f5 f6 : Sl) : ∀ (ws : List Str) (m : Nat) (R : D) (ks : List (Str × List Str)) (s7 f9 f10 f11 : Sl), Sr m R → m + 10 * ws.length ≤ 10000 → FO s7 (sortsD sorts) → ks.length + ws.length ≤ 50 → KindsOk sorts 5 ks →
    ∃ R' ks' s7' s9 s10 s11, forL (gN 9) (B__law_stock_0 c) (ws.map .str) [.io R, .fr (.int (mo : Nat)), f2, f3, f4, f5, f6, s7, .ow (kindsD ks), f9, f10, f11] = some (.nx [.io R', .fr (.int (mo : Nat)), f2, f3, f4, f5, f6, s7', .ow (kindsD ks'), s9, s10, s11]) ∧ FO s7' (sortsD sorts) ∧ KindsOk sorts 5 ks' ∧ ks'.map (fun p => p.1) = ks.map (fun p => p.1) ++ ws ∧ Sr (m + 10 * ws.length) R'
  | [], m, R, ks, s7, f9, f10, f11, hS, _, h7, _, h => ⟨R, ks, s7, f9, f10, f11, rfl, h7, h, by rw [List.append_nil], hS⟩
  | x :: ws, m, R, ks, s7, f9, f10, f11, hS, hm, h7, hl, h => by
    rw [List.length_cons] at hl hm
    obtain ⟨R1, xs, s71, s10, s11, h1, h71, h2, h3, h4, hS1⟩ := kindA c hS (by omega) mo hmo hs h7 ks (by omega) x f2 f3 f4 f5 f6 f10 f11
    obtain ⟨R', ks', s7', t9, t10, t11, g1, g7, g2, g3, gS⟩ := kindsA c mo hmo hs f2 f3 f4 f5 f6 ws (m + 10) R1 (ks ++ [(x, sortS xs)]) s71 (.fr (.str x)) s10 s11 hS1 (by omega) h71 (by rw [List.length_append]; simp only [List.length_cons, List.length_nil]; omega) (fun p hp => by
      rcases List.mem_append.mp hp with hp | hp
      · exact h p hp
      · rw [List.mem_singleton.mp hp]; exact ⟨xs, rfl, h2, h3, h4⟩)
    refine ⟨R', ks', s7', t9, t10, t11, ?_, g7, g2, by rw [g3, List.map_append, List.append_assoc]; rfl, gS.mono (by rw [List.length_cons]; omega)⟩
    rw [List.map_cons]
    have hg : gN 9 (.str x) [.io R, .fr (.int (mo : Nat)), f2, f3, f4, f5, f6, s7, .ow (kindsD ks), f9, f10, f11] = some [.io R, .fr (.int (mo : Nat)), f2, f3, f4, f5, f6, s7, .ow (kindsD ks), .fr (.str x), f10, f11] := rfl
    simp only [forL, hg, h1]
    exact g1
theorem SortsOk.rev {sorts : List (Str × Str)} (h : SortsOk sorts) : SortsOk sorts.reverse := by
  refine ⟨by rw [List.length_reverse]; exact h.lo, by rw [List.length_reverse]; exact h.hi, fun p hp => h.nm p (List.mem_reverse.mp hp), ?_, fun p hp => List.mem_reverse.mpr (h.mu p (List.mem_reverse.mp hp))⟩
  rw [List.map_reverse]
  exact (List.reverse_perm _).nodup_iff.mpr h.nd
theorem names3 {ws : List Str} (h : ws.length = 3) : ∃ x y z, ws = [x, y, z] := by
  match ws, h with
  | [x, y, z], _ => exact ⟨x, y, z, rfl⟩
end GA

set_option Elab.async false
set_option linter.all false
set_option maxRecDepth 100000
set_option maxHeartbeats 1000000
/-! NAd: ends there, sorts that lack, things mixed. -/
namespace GA
open PySem L2 DL G PG
section
variable (c : Cs) {sorts : List (Str × Str)} {ks : List (Str × List Str)} (hS : StockOk sorts ks)
include hS
end
end GA

set_option Elab.async false
set_option linter.all false
set_option maxRecDepth 100000
set_option maxHeartbeats 1000000
/-! NAe: ends joined by draws. -/
namespace GA
open PySem L2 DL G PG
end GA

set_option Elab.async false
set_option linter.all false
set_option maxRecDepth 100000
set_option maxHeartbeats 1000000
/-! NAf: joins of ends, by draws. -/
namespace GA
open PySem L2 DL G PG
section
variable (c : Cs) {sorts : List (Str × Str)} {ks : List (Str × List Str)} (hS : StockOk sorts ks)
include hS
end
end GA

set_option Elab.async false
set_option linter.all false
set_option maxRecDepth 100000
set_option maxHeartbeats 1000000
/-! NAg: a drawing drawn. -/
namespace GA
open PySem L2 DL G PG
structure Drawn (sorts : List (Str × Str)) (ks : List (Str × List Str)) (most : Nat) (cs : List Str) (legs : List (Str × Str)) (js : List Jo) : Prop where
  co : CornersOk ks cs
  le : LegsOk sorts legs
  jo : JoinsOk sorts (endsP ks cs legs) js
  cm : cs.length ≤ most
section
variable (c : Cs) {sorts : List (Str × Str)} {ks : List (Str × List Str)} (hS : StockOk sorts ks)
include hS
end
end GA

set_option Elab.async false
set_option linter.all false
set_option maxRecDepth 100000
set_option maxHeartbeats 1000000
/-! NBa: the groups that hang together, as the laws gather them; marks. -/
namespace GA
open PySem L2 DL G PG
end GA

set_option Elab.async false
set_option linter.all false
set_option maxRecDepth 100000
set_option maxHeartbeats 1000000
/-! NBb: all groups; marks of a drawing's places. -/
namespace GA
open PySem L2 DL G PG
/-- what is left when some groups are gathered -/
structure LeftOk (n : Nat) (m : List Int) (left : List Nat) : Prop where
  asc : left.Pairwise (· < ·)
  lt : ∀ p ∈ left, p < n
  cl : ∀ p, p < n → (p ∈ left ↔ (m.getD p 0).toNat ∈ left)
theorem LeftOk.head {n : Nat} {m : List Int} (hm : MarkOk n m) {x : Nat} {rest : List Nat} (h : LeftOk n m (x :: rest)) : m.getD x 0 = (x : Int) := by
  have hx := h.lt x List.mem_cons_self
  have l := hm.lo x hx
  have := (h.cl x hx).mp List.mem_cons_self
  rcases List.mem_cons.mp this with e | e
  · omega
  · have := (List.pairwise_cons.mp h.asc).1 _ e
    omega
theorem LeftOk.next {n : Nat} {m : List Int} (hm : MarkOk n m) {x : Nat} {rest : List Nat} (h : LeftOk n m (x :: rest)) : LeftOk n m ((x :: rest).filter fun p => decide (m.getD p 0 ≠ (x : Int))) := by
  refine ⟨List.Pairwise.filter _ h.asc, fun p hp => h.lt p (List.mem_filter.mp hp).1, fun p hp => ?_⟩
  have l := hm.lo p hp
  have f := hm.fx p hp
  rw [List.mem_filter, List.mem_filter, h.cl p hp, decide_eq_true_eq, decide_eq_true_eq, f]
theorem LeftOk.heads {n : Nat} {m : List Int} (hm : MarkOk n m) {x : Nat} {rest : List Nat} (h : LeftOk n m (x :: rest)) : ((x :: rest).filter fun p => decide (m.getD p 0 = (p : Int))) = x :: (((x :: rest).filter fun p => decide (m.getD p 0 ≠ (x : Int))).filter fun p => decide (m.getD p 0 = (p : Int))) := by
  have hx := h.head hm
  rw [List.filter_cons_of_pos (by simpa using hx)]
  congr 1
  rw [List.filter_cons_of_neg (by simp only [hx]; simp), List.filter_filter]
  refine List.filter_congr fun p hp => ?_
  have := (List.pairwise_cons.mp h.asc).1 p hp
  by_cases e : m.getD p 0 = (p : Int)
  · have : m.getD p 0 ≠ (x : Int) := by omega
    rw [decide_eq_true e, decide_eq_true this]
    rfl
  · rw [decide_eq_false e]
    rfl
end GA

set_option Elab.async false
set_option linter.all false
set_option maxRecDepth 100000
set_option maxHeartbeats 1000000
/-! NBc: cuts, as the program and the laws tell them. -/
namespace GA
open PySem L2 DL G PG
theorem sl_to (xs : List D) (i : Nat) : slD (.lst xs) none (some (i : Int)) = some (.lst (xs.take i)) := by
  have : HT.sIx xs.length xs.length (some (i : Int)) = min i xs.length := HT.sIx_nat xs.length xs.length i
  simp only [slD, cutD, this, HT.sIx_none, List.drop_zero, Nat.sub_zero]
  by_cases h : i ≤ xs.length
  · rw [Nat.min_eq_left h]
  · rw [Nat.min_eq_right (by omega), List.take_length, List.take_of_length_le (by omega)]
theorem sl_from (xs : List D) (i : Nat) : slD (.lst xs) (some (i : Int)) none = some (.lst (xs.drop i)) := by simp only [slD, cut_fromN]
section
variable (c : Cs) (st : D) (cs : List D) (legs : List (Str × Str)) {js : List Jo} (hp : ∀ j ∈ js, Pl 1 (joD j)) (hl : js.length ≤ 500) (hn : cs.length + legs.length ≤ 40) (hb : ∀ j ∈ js, j.1 < cs.length + legs.length ∧ j.2.2.1 < cs.length + legs.length)
include hp hl hn hb
end
theorem Drawn.lt {sorts : List (Str × Str)} {ks : List (Str × List Str)} {most : Nat} {cs : List Str} {legs : List (Str × Str)} {js : List Jo} (hD : Drawn sorts ks most cs legs js) : ∀ j ∈ js, j.1 < cs.length + legs.length ∧ j.2.2.1 < cs.length + legs.length := fun j hj => ⟨ends_place (hD.jo.mem1 hj), ends_place (hD.jo.mem2 hj)⟩
theorem Drawn.pl {sorts : List (Str × Str)} {ks : List (Str × List Str)} (hS : StockOk sorts ks) {most : Nat} {cs : List Str} {legs : List (Str × Str)} {js : List Jo} (hD : Drawn sorts ks most cs legs js) : ∀ j ∈ js, Pl 1 (joD j) := fun j hj => jo_pl hS hD.jo.pt _ (List.mem_map.mpr ⟨j, hj, rfl⟩)
theorem Drawn.len {sorts : List (Str × Str)} {ks : List (Str × List Str)} (hS : StockOk sorts ks) {most : Nat} {cs : List Str} {legs : List (Str × Str)} {js : List Jo} (hD : Drawn sorts ks most cs legs js) : js.length ≤ 18 := by
  have := hD.jo.len
  have := endsP_len hS hD.co hD.le
  omega
end GA

set_option Elab.async false
set_option linter.all false
set_option maxRecDepth 100000
set_option maxHeartbeats 1000000
/-! NCa: joins moved; ends by places; what a part has. -/
namespace GA
open PySem L2 DL G PG
end GA

set_option Elab.async false
set_option linter.all false
set_option maxRecDepth 100000
set_option maxHeartbeats 1000000
/-! NCb: a part made. -/
namespace GA
open PySem L2 DL G PG
def kI (p : Nat) : Key := Sum.inl ((p : Nat) : Int)
/-- a row of places whose joins lie within it -/
structure RowIn (N : Nat) (js : List Jo) (row : List Nat) : Prop where
  asc : row.Pairwise (· < ·)
  lt : ∀ p ∈ row, p < N
  cl : ∀ j ∈ js, j.1 ∈ row ↔ j.2.2.1 ∈ row
section
variable (c : Cs) {sorts : List (Str × Str)} {ks : List (Str × List Str)} (hS : StockOk sorts ks)
include hS
end
end GA

set_option Elab.async false
set_option linter.all false
set_option maxRecDepth 100000
set_option maxHeartbeats 1000000
/-! NCc: all parts, as the program and the laws tell them; drawings compared. -/
namespace GA
open PySem L2 DL G PG
section
variable (c : Cs) {sorts : List (Str × Str)} {ks : List (Str × List Str)} (hS : StockOk sorts ks) {most : Nat} {cs : List Str} {legs : List (Str × Str)} {js : List Jo} (hD : Drawn sorts ks most cs legs js)
include hS hD
end
end GA

set_option Elab.async false
set_option linter.all false
set_option maxRecDepth 100000
set_option maxHeartbeats 1000000
/-! NDa: a drawing with other legs; joins by names. -/
namespace GA
open PySem L2 DL G PG
/-- a place: a corner's number, or a leg's name -/
abbrev NP := Nat ⊕ Str
abbrev NEnd := NP × Str
abbrev NRow := NEnd × NEnd
structure EndOk (names : List Str) (e : NEnd) : Prop where
  nm : NameOk e.2
  pl : ∀ x, e.1 = .inr x → x ∈ names
end GA

set_option Elab.async false
set_option linter.all false
set_option maxRecDepth 100000
set_option maxHeartbeats 1000000
/-! NDb: an inner join cut. -/
namespace GA
open PySem L2 DL G PG
/-- what is cut: the join, the names -/
structure CutOk (cs : List Str) (legs : List (Str × Str)) (js : List Jo) (j : Jo) (a b : Str) : Prop where
  mem : j ∈ js
  inn : j.2.2.1 < cs.length
  na : NameOk a
  nb : NameOk b
  ne : a ≠ b
  fa : a ∉ legs.map fun p => p.1
  fb : b ∉ legs.map fun p => p.1
  hl : legs.length ≤ 4
def comeL (j : Jo) (a b : Str) : List (Str × Str) := [(a, j.2.2.2), (b, j.2.1)]
section
variable (c : Cs) {sorts : List (Str × Str)} {ks : List (Str × List Str)} (hS : StockOk sorts ks) {most : Nat} {cs : List Str} {legs : List (Str × Str)} {js : List Jo} (hD : Drawn sorts ks most cs legs js) {j : Jo} {a b : Str} (hC : CutOk cs legs js j a b)
include hS hD hC
end
end GA

set_option Elab.async false
set_option linter.all false
set_option maxRecDepth 100000
set_option maxHeartbeats 1000000
/-! NDc: the cut as the law lays it out. -/
namespace GA
open PySem L2 DL G PG
section
variable (c : Cs) {sorts : List (Str × Str)} {ks : List (Str × List Str)} (hS : StockOk sorts ks) {most : Nat} {cs : List Str} {legs : List (Str × Str)} {js : List Jo} (hD : Drawn sorts ks most cs legs js) {j : Jo} {a b : Str} (hC : CutOk cs legs js j a b)
include hS hD
include hC
end
end GA

set_option Elab.async false
set_option linter.all false
set_option maxRecDepth 100000
set_option maxHeartbeats 1000000
/-! NDd: names that no leg has. -/
namespace GA
open PySem L2 DL G PG
end GA

set_option Elab.async false
set_option linter.all false
set_option maxRecDepth 100000
set_option maxHeartbeats 1000000
/-! NEa: how many groups there are: by the joins that are there, with one taken away, with a leg at each of its ends. -/
namespace GA
open PySem L2 DL G PG
section
variable {sorts : List (Str × Str)} {ks : List (Str × List Str)} (hS : StockOk sorts ks) {most : Nat} {cs : List Str} {legs : List (Str × Str)} {js : List Jo} (hD : Drawn sorts ks most cs legs js) {j : Jo} {a b : Str} (hC : CutOk cs legs js j a b) {LS : List (Str × Str)} (hL : LegsOk sorts LS) (hp : LS.Perm (legs ++ comeL j a b))
include hS hD hC hL hp
end
end GA

set_option Elab.async false
set_option linter.all false
set_option maxRecDepth 100000
set_option maxHeartbeats 1000000
/-! NEb: two legs joined. -/
namespace GA
open PySem L2 DL G PG
structure FarOk (rs : List NRow) (x : Str) (e : NEnd) : Prop where
  a : ∀ r ∈ rs, r.1.1 = .inr x → r.2 = e
  b : ∀ r ∈ rs, r.2.1 = .inr x → r.1 = e
/-- whether a place is none of two names -/
def keep (x y : Str) : NP → Bool
  | .inl _ => true
  | .inr z => !decide (z ∈ [x, y])
end GA

set_option Elab.async false
set_option linter.all false
set_option maxRecDepth 100000
set_option maxHeartbeats 1000000
/-! NEc: the cut one sewn again. -/
namespace GA
open PySem L2 DL G PG
section
variable {sorts : List (Str × Str)} {ks : List (Str × List Str)} (hS : StockOk sorts ks) {most : Nat} {cs : List Str} {legs : List (Str × Str)} {js : List Jo} (hD : Drawn sorts ks most cs legs js) {j : Jo} {a b : Str} (hC : CutOk cs legs js j a b) {LS : List (Str × Str)} (hL : LegsOk sorts LS) (hp : LS.Perm (legs ++ comeL j a b))
include hS hD hC hL hp
end
end GA

set_option Elab.async false
set_option linter.all false
set_option maxRecDepth 100000
set_option maxHeartbeats 400000
/-! DLzn: errors of own classes without fields: raised, let out of a def, caught, asked for their class. -/
namespace DL
open PySem L2
/-! ### raise -/
/-- what K says of an own class of errors without fields -/
structure ExK (K : Fg) (C : Addr) : Prop where
  q : PySem.W.excIn K C [.type "ValueError", .type "Exception", .type "BaseException", .type "object"] "ValueError.__new__" = true
  kC : PySem.W.keepIn K (.ref C) = true
  h1 : PySem.W.subIn K (.ref C) (.type "BaseException") = some true
  h2 : PySem.W.typeIn K (.ref C) = some (.type "type")
/-! ### defs that may raise -/
abbrev WD (E : XK) : WX := fun cls d _ H => E cls d H
section
variable {P : Program} {w : World} {K : Fg} {mg : Str → Option Value} {base : Heap}
end
/-! ### their calls -/
structure CallX (P : Program) (w : World) (K : Fg) (mg : Str → Option Value) (base : Heap) (x : Str) (k : Nat) (ps : List Str) (ks : List PK) (g : List D → Option (R D)) : Prop where
  ex : ∃ f fd, mg x = some (.ref f) ∧ PySem.W.keepIn K (.ref f) = true ∧ Binds K fd ps [] ∧ FnOk P w K mg base (L2.CX P w) k f fd ps (SpD K ks g)
section
variable {X : Cx} {W : WX} {e : Expr} {es : List Expr} {pos p2 : Pos}
end
/-! ### {} -/
theorem x_dk0 {X : Cx} {W : WX} {pos : Pos} : XE X W (.Dict [] [] pos) tDNewK (mC (.dk [] [])) := ⟨pe_dnewK, by
  intro C hK hW al F H σ δ S _ r hr Q hok hex
  cases hr
  intro p hp
  have n : New F H (upd F p (.dK [])) (upd H p (.dK [])) := New.lay S.fh hp
  exact hok _ δ rfl al _ _ _ n.ff (S.new n) (Rep.dk_iff.mpr ⟨p, [], rfl, Or.inl upd_same, rfl, by decide, by simp [Reps]⟩)⟩
/-! ### a caught error's class -/
theorem xMark_ex : ∃ l : List Int, 1000000 < l.length := ⟨List.replicate 1000001 0, by rw [List.length_replicate]; decide⟩
noncomputable def xMark : List Int := xMark_ex.choose
theorem xMark_len : 1000000 < xMark.length := xMark_ex.choose_spec
def mIsE (i : Nat) (b : Bool) : M D := fun δ => match δ[i]? with
  | some (.sc ns) => if 1000000 < ns.length then some (.ok (.bl b) δ) else none
  | _ => none
theorem wa_wf {a b dd : Addr} {fld : Str} {y : V} (h : WA a = WF b dd fld y) : False := by
  have h2 := congrFun (congrFun (congrFun (congrFun h (.ref a)) none) []) (fun _ => none)
  have h4 : WF b dd fld y (Value.ref a) none [] fun _ => none := by
    rw [← h2]
    exact rfl
  cases h4.2.1
/-- isinstance(e, (c1, ..)) of the error that a suite holds -/
def rIsET (K : Fg) (D a : Addr) : List V → Hp → VK → Prop := fun xs H Q => ∃ (tp : Addr) (cs : List V) (us : List Value) (b : Bool), xs = [.ref a, .ref tp] ∧ H tp = some (.tup cs) ∧ Paired ClsV cs us ∧ PySem.W.kitAny K (.ref D) us = some b ∧ Q (.bl b) H
def tCls : List Addr → TA
  | [] => tNil
  | C :: r => tCons (tC (.ref C)) (tCls r)
theorem tCls_q : ∀ {Cs : List Addr} {σ : St} {H : Hp} {Q : List V → Hp → Prop}, Q (Cs.map V.ref) H → tCls Cs σ H Q
  | [], _, _, _, h => h
  | C :: r, σ, H, Q, h => by
    show tCls r σ H fun xs H2 => Q (.ref C :: xs) H2
    exact tCls_q h
theorem clsv_all : ∀ (Cs : List Addr), Paired ClsV (Cs.map V.ref) (Cs.map Value.ref)
  | [] => .nil
  | C :: r => .cons (.own C) (clsv_all r)
section
variable {X : Cx} {a D0 : Addr} {oe : Obj} {pn : List (Addr × Obj)} {i : Nat} {b : Bool} {e y : Str} {C : Addr} {p3 p4 p5 pos : Pos} {m0 : M D}
theorem pa_cls0 : PA X [] (tCls []) := pa_nil
theorem pa_cls {es : List Expr} {Cs : List Addr} (hmT : X.mg y = some (.ref C)) (h : PA X es (tCls Cs)) (hgT : Gl X y := by rfl) (hdT : (y == ("__debug__" : Str)) = false := by decide) (hs : starEach (.Name y p5 :: es) X.env = (false, eval (.Name y p5) X.env) :: starEach es X.env := by rfl) : PA X (.Name y p5 :: es) (tCls (C :: Cs)) :=
  pa_cons (pe_glob hgT hmT rfl hdT) h hs
end
theorem kit_in {K : Fg} {cx : Nat → Addr} {tg : Nat} : ∀ (js : List Nat), (∀ j ∈ js, PySem.W.kitOne K (.ref (cx tg)) (.ref (cx j)) = some (decide (tg = j))) → PySem.W.kitAny K (.ref (cx tg)) ((js.map cx).map Value.ref) = some (decide (tg ∈ js))
  | [], _ => by simp [kitAny_nil]
  | j :: js, h => by
    have ih := kit_in js fun k hk => h k (List.mem_cons_of_mem _ hk)
    refine kitAny_cons (h j List.mem_cons_self) (fun hb => ?_) fun hb => ?_
    · rw [ih]
      have : tg ≠ j := of_decide_eq_false hb
      congr 1
      simp [this]
    · have : tg = j := of_decide_eq_true hb
      simp [this]
/-! ### try -/
def shortB (δ : En) : Bool := δ.all fun s => match s with
  | .sc ns => decide (ns.length ≤ 1000000)
  | _ => true
theorem short_of {δ : En} (h : shortB δ = true) : Short δ := fun i ns q => by
  have := List.all_eq_true.mp h (.sc ns) (List.mem_of_getElem? q)
  simpa using this
def ouE : Ou → En
  | .nx δ => δ
  | .rt _ δ => δ
  | .rn _ δ => δ
  | .bk δ => δ
  | .ct δ => δ
  | .ex _ δ => δ
/-- behind the suite its name is gone -/
def ouSet (i : Nat) : Ou → Option Ou
  | .nx δ => some (.nx (wipeE δ [i]))
  | .rt d δ => some (.rt d (wipeE δ [i]))
  | .rn d δ => some (.rn d (wipeE δ [i]))
  | .bk δ => some (.bk (wipeE δ [i]))
  | .ct δ => some (.ct (wipeE δ [i]))
  | .ex _ _ => none
theorem StOk.hold {C : Cn} {al : Nat → Addr} {F H : Hp} {σ : St} {δ : En} (S : StOk C al F H σ δ) (hs : Short δ) (i : Nat) (a : Addr) : StOk { C with W := WA a } al F H (σ.set i (some (.ref a))) (δ.set i (.sc xMark)) := by
  have key : ∀ (j : Nat) s, (δ.set i (Sl.sc xMark))[j]? = some s → (j = i ∧ s = Sl.sc xMark ∧ i < δ.length) ∨ (j ≠ i ∧ δ[j]? = some s) := fun j s q => by
    by_cases z : j = i
    · subst z
      rw [List.getElem?_set_self'] at q
      cases e : δ[j]? with
      | none => rw [e] at q; cases q
      | some u =>
        rw [e] at q
        cases q
        exact Or.inl ⟨rfl, rfl, (List.getElem?_eq_some_iff.mp e).1⟩
    · rw [List.getElem?_set_ne (Ne.symm z)] at q
      exact Or.inr ⟨z, q⟩
  have sg : ∀ j, j ≠ i → (σ.set i (some (V.ref a)))[j]? = σ[j]? := fun j z => List.getElem?_set_ne (Ne.symm z)
  refine ⟨S.fh, S.ph, S.bp, S.f0, S.fp, by rw [List.length_set, List.length_set]; exact S.len, fun j e q => ?_, fun j e q => ?_, fun j s e q r => ?_, fun j e q => ?_, fun j k s t e f q1 q2 r1 r2 r3 => ?_, fun j ns q => ?_, fun j ds q => ?_, S.qp⟩
  · rcases key j _ q with ⟨_, z, _⟩ | ⟨n, q⟩
    · cases z
    · rw [sg j n]; exact S.fr j e q
  · rcases key j _ q with ⟨_, z, _⟩ | ⟨n, q⟩
    · cases z
    · rw [sg j n]; exact S.bo j e q
  · rcases key j _ q with ⟨_, z, _⟩ | ⟨n, q⟩
    · rw [z] at r; cases r
    · rw [sg j n]; exact S.ow j s e q r
  · rcases key j _ q with ⟨_, z, _⟩ | ⟨n, q⟩
    · cases z
    · exact S.io j e q
  · rcases key j _ q1 with ⟨_, z, _⟩ | ⟨n, q1⟩
    · rw [z] at r1; cases r1
    · rcases key k _ q2 with ⟨_, z, _⟩ | ⟨n2, q2⟩
      · rw [z] at r2; cases r2
      · exact S.inj j k s t e f q1 q2 r1 r2 r3
  · rcases key j _ q with ⟨rfl, z, l⟩ | ⟨n, q⟩
    · cases z
      exact ⟨a, List.getElem?_set_self (by rw [S.len]; exact l), Or.inr ⟨xMark_len, Or.inl rfl⟩⟩
    · rw [sg j n]
      obtain ⟨a', h1, h2⟩ := S.sc j ns q
      exact ⟨a', h1, Or.inl (h2.resolve_right fun z => absurd z.1 (by have := hs j ns q; omega))⟩
  · rcases key j _ q with ⟨_, z, _⟩ | ⟨n, q⟩
    · cases z
    · rw [sg j n]; exact S.b2 j ds q
theorem wiped1 {C : Cn} {al : Nat → Addr} {F H : Hp} {σ : St} {δ : En} (S : StOk C al F H σ δ) (i : Nat) : StOk C al F H (σ.set i none) (wipeE δ [i]) :=
  S.wiped (by rw [List.length_set]) fun j hj => List.getElem?_set_ne fun z => hj (by rw [z]; exact List.mem_cons_self)
theorem wiped0 {C : Cn} {al : Nat → Addr} {F H : Hp} {σ : St} {δ : En} (S : StOk C al F H σ δ) (i : Nat) : StOk C al F H σ (wipeE δ [i]) := S.wiped rfl fun j hj => rfl
section
variable {X : Cx} {W : WX} {st : Stmt} {rest : List Stmt} {m n : Ms}
theorem be_try (h1 : ∃ t, XS X W st t m) (h2 : ∃ u, XB X W rest u n) : ∃ u, XB X W (st :: rest) u (mSeq m n) := let ⟨_, h1⟩ := h1; let ⟨_, h2⟩ := h2; ⟨_, b_cons h1 h2⟩
end
end DL

set_option Elab.async false
set_option linter.all false
set_option maxRecDepth 100000
set_option maxHeartbeats 4000000
/-! PMi: printed by gen.py: joining legs, with what is refused. -/
namespace GA
open PySem L2 DL G
end GA

set_option Elab.async false
set_option linter.all false
set_option maxRecDepth 100000
set_option maxHeartbeats 400000
/-! DLzo: several except clauses, with and without a name. -/
namespace DL
open PySem L2
/-- a clause: its class, the slot of its name, its suite's reading -/
abbrev Cl := Value × Option Nat × (Addr → Value → Option Addr → TS)
def clE (i : Option Nat) (D : Ends) : Ends := match i with
  | none => D
  | some i => { nx := fun σ' H' => D.nx (σ'.set i none) H', rt := D.rt, bk := fun σ' H' => D.bk (σ'.set i none) H', ct := fun σ' H' => D.ct (σ'.set i none) H' }
def clS (i : Option Nat) (σ : St) (a : Addr) : St := match i with
  | none => σ
  | some i => σ.set i (some (.ref a))
def wCl (K : Fg) (Wout : WX) (D : Ends) : List Cl → WX
  | [] => Wout
  | (c, i, ts) :: r => fun cls d σ H => ∃ b, PySem.W.exmOne K cls c = some b ∧ (b = true → ∀ a, H a = none → ts a cls d (clE i D) (clS i σ a) H) ∧ (b = false → wCl K Wout D r cls d σ H)
inductive Cls' (X : Cx) : List ExceptHandler → List Cl → Prop
  | nil : Cls' X [] []
  | cons {x : Str} {c : Value} {ts : Addr → Value → Option Addr → TS} {b₀ : Stmt} {suite : List Stmt} {np pos' : Pos} {n : Option Str} {i : Option Nat} {hds : List ExceptHandler} {l : List Cl} (hc : Names X x c)
      (hi : (n = none ∧ i = none) ∨ ∃ y j, n = some y ∧ i = some j ∧ X.N[j]? = some y ∧ X.env.kindOf y = some .local)
      (hsu : ∀ (a : Addr) (oe : Obj) (cls : Value) (d : Option Addr) (pn : List (Addr × Obj)), Zc cls d oe → (∃ vs, oe.data = .fields vs) → PSs (X.suite a ((a, oe) :: pn)) (b₀ :: suite) (ts a cls d)) (r : Cls' X hds l) :
      Cls' X (.ExceptHandler (some (.Name x np)) n (b₀ :: suite) pos' :: hds) ((c, i, ts) :: l)
section
variable {X : Cx} {body : List Stmt} {h₀ : ExceptHandler} {hds : List ExceptHandler} {l : List Cl} {pos : Pos} {tb : WX → TS} {Wout : WX}
theorem ps_tryCl (hs : X.stack = X.env :: X.outer) (hf : X.env.frame = some X.env.locals) (hN : X.N.Nodup) (tk : Takes X Wout)
    (hb : ∀ (W : WX) (pn : List (Addr × Obj)) (xe : Value → Shared → Prop), Takes (X.tr pn xe) W → PassesOwn (model X.prog X.w) X.A X.env xe → PSs (X.tr pn xe) body (tb W))
    (hh : Cls' X (h₀ :: hds) l) : PS X (.Try body (h₀ :: hds) [] [] pos) (fun D σ H => tb (wCl X.K Wout D l) D σ H) := by
  refine ⟨fun pins s σ H D I h => ?_⟩
  have ok := I.ok
  have hfr : X.A.frames = some (X.env :: X.outer) := by rw [ok.frames, hs]
  refine wpAny_Try_except ?_
  refine wpAny_mono ((hb (wCl X.K Wout D l) (X.pn ++ pins) (fun e s₁ => wpAny (model X.prog X.w) X.A (noteFrame e X.env) (fun _ s₂ => wpAny (model X.prog X.w) X.A (setFlight e none) (fun _ s₃ =>
    wpAny (model X.prog X.w) X.A (handleBy e X.env (h₀ :: hds)) (SP X pins D) X.xe s₃) X.xe s₂) X.xe s₁) (fun u s' xx => ?_) PassesOwn.looking).run [] s σ H D (I.toTry _) h) (fun f s1 hsp => ?_) (fun e s1 he => he)
  · obtain ⟨a, B, sI, pins', σ', H', cls, d, rfl, J', nb, up, sky, na, os, ag, w⟩ := xx
    have J : Inv X pins σ' H' sI := J'.ofTry ok
    have sky' : Sky B (X.env :: X.outer) a (Zc cls d) X.env.locals s'.heap := by rw [← hs]; exact sky
    show wpAny (model X.prog X.w) X.A (noteFrame (.ref a) X.env) _ _ _
    refine Sky.land Zc.steady hfr hf sky' fun h3 fl3 up3 => ?_
    have J3 : Inv X pins σ' H' { s' with heap := h3 } := J.landed nb fl3.1 (up.trans up3) os ag
    obtain ⟨oe3, vs3, he3, hz3, hd3⟩ := fl3.there
    have nfr : a ∉ frs (X.env :: X.outer) := fun hm => by
      obtain ⟨_, o', e', hnf⟩ := fl3.2.2.1.mem hm
      rw [he3] at e'; cases e'
      exact hnf _ hd3
    have nL : a ≠ X.env.locals := fun z => nfr (List.mem_filterMap.mpr ⟨X.env, List.mem_cons_self, by rw [hf, z]⟩)
    have nF : a ∉ X.fs := fun hm => by
      obtain ⟨e, he, q⟩ := List.mem_filterMap.mp hm
      exact nfr (List.mem_filterMap.mpr ⟨e, List.mem_cons_of_mem _ he, q⟩)
    have S3 := J3.suite he3 hd3 na nL nF
    have go : ∀ {hds' : List ExceptHandler} {l' : List Cl}, Cls' X hds' l' → wCl X.K Wout D l' cls d σ' H' → wpAny (model X.prog X.w) X.A (handleBy (.ref a) X.env hds') (SP X pins D) X.xe { s' with heap := h3 } := by
      intro hds' l' hk
      induction hk with
      | nil =>
        intro w
        refine wpAny_handleBy_nil ?_
        obtain ⟨k1, k2, k3, oe, vs, T, oT, ts', he, hz, hd, h1, hr⟩ := id fl3
        unfold PySem.passOn
        refine wpAny_bind (wpAny_field he hd h1 ?_)
        rw [if_neg (show ¬ ((Value.ref T == Value.none) = true) from by simp)]
        have fin : wpAny (model X.prog X.w) X.A (setFlight (.ref a) X.env.frame) (fun _ s4 => wpAny (model X.prog X.w) X.A (throw (.ref a) : Sem Flow) (SP X pins D) X.xe s4) X.xe { s' with heap := h3 } := by
          rw [hf]
          refine HandSPX.setFlight_upZ fl3 fun h4 hh4 up4 => wpAny_throw (tk _ _ ?_)
          exact ⟨a, B, sI, pins, σ', H', cls, d, rfl, J, nb, (up.trans up3).trans up4, .inr (.inr (by rw [hs]; exact hh4)), na, os, ag, w⟩
        first
          | exact wpAny_bind (wpAny_pure (wpAny_bind fin))
          | exact wpAny_bind fin
      | @cons x c ts b₀ suite np pos' n i hds2 l2 hc hi hsu r ih =>
        intro w
        obtain ⟨b, hb1, hyes, hno⟩ := w
        refine wpAny_handleBy_cons (codeAny_handlers_test ?_) (by intro q; cases q)
        have LT : PySem.W.Looks (model X.prog X.w) h3 (typeOf (.ref a)) cls := fun A Q E s k q => wpAny_typeOf_ref (k _ _ he3) (by rw [hz3.1]; exact q)
        have LM := PySem.W.exm_one (M := model X.prog X.w) (J3.kIn) LT hb1
        have test : ∀ {Q : Value → Shared → Prop} {E : Value → Shared → Prop}, Q c { s' with heap := h3 } → wpAny (model X.prog X.w) (X.A.mark (some (.ref a))) (eval (.Name x np) X.env) Q E { s' with heap := h3 } := fun {Q E} q => by
          obtain ⟨hg, hdbg, hm | ⟨hm, hv, hnn⟩⟩ := hc
          · exact ld_glob (X := X.suite a ((a, oe3) :: (X.pn ++ pins))) S3 hg hm q hdbg
          · exact ld_blt (X := X.suite a ((a, oe3) :: (X.pn ++ pins))) S3 hg hm hv q hnn hdbg
        refine test (LM.here ?_)
        cases b with
        | false =>
          show wpAny _ X.A (handleBy (.ref a) X.env hds2) _ _ _
          exact ih (hno rfl)
        | true =>
          rcases hi with ⟨rfl, rfl⟩ | ⟨y, j, rfl, rfl, hj, hln⟩
          · refine codeAny_handlers_suite ?_
            refine HandSPX.lands_againZ fl3 fun h4 fl4 up4 => ?_
            have J4 : Inv X pins σ' H' { s' with heap := h4 } := J.landed nb fl4.1 ((up.trans up3).trans up4) os ag
            obtain ⟨oe4, vs4, he4, hz4, hd4⟩ := fl4.there
            have S4 := J4.suite he4 hd4 na nL nF
            refine wpAny_mono ((hsu a oe4 cls d (X.pn ++ pins) hz4 ⟨_, hd4⟩).run [] _ _ H' _ S4 (hyes rfl a na)) (fun f s6 hsp => ?_) (fun _ _ z => False.elim z)
            cases f with
            | ret u =>
              obtain ⟨v6, σ6, H6, S6, r6, q6⟩ := hsp
              exact ⟨_, _, _, S6.unsuite ok, r6, q6⟩
            | next => obtain ⟨σ6, H6, S6, q6⟩ := hsp; exact ⟨_, _, S6.unsuite ok, q6⟩
            | brk => obtain ⟨σ6, H6, S6, q6⟩ := hsp; exact ⟨_, _, S6.unsuite ok, q6⟩
            | cont => obtain ⟨σ6, H6, S6, q6⟩ := hsp; exact ⟨_, _, S6.unsuite ok, q6⟩
          · refine codeAny_handlers_suite_as ?_
            refine HandSPX.lands_againZ fl3 fun h4 fl4 up4 => ?_
            have J4 : Inv X pins σ' H' { s' with heap := h4 } := J.landed nb fl4.1 ((up.trans up3).trans up4) os ag
            obtain ⟨oe4, vs4, he4, hz4, hd4⟩ := fl4.there
            have S4 := J4.suite he4 hd4 na nL nF
            refine store_ok (X := X.suite a ((a, oe4) :: (X.pn ++ pins))) (v := .ref a) S4 hN hj (.inl hln) rfl (fun s5 S5 => ?_) (.inr hln)
            refine wpAny_mono ((hsu a oe4 cls d (X.pn ++ pins) hz4 ⟨_, hd4⟩).run [] s5 _ H' _ S5 (hyes rfl a na)) (fun f s6 hsp => ?_) (fun _ _ z => False.elim z)
            have end_ : ∀ {σ6 : St} {H6 : Hp} {Q : Shared → Prop}, Inv (X.suite a ((a, oe4) :: (X.pn ++ pins))) [] σ6 H6 s6 → (∀ s7, Inv X pins (σ6.set j none) H6 s7 → Q s7) →
                wpAny (model X.prog X.w) X.A (do bindName X.env y .none; unbindBehindTheSuite X.env y pos') (fun _ s7 => Q s7) X.xe s6 := fun {σ6 H6 Q} S6 hq => gone_ok (S6.unsuite ok) hN hj hln hq
            cases f with
            | ret u =>
              obtain ⟨v6, σ6, H6, S6, r6, q6⟩ := hsp
              exact end_ S6 fun s7 J7 => ⟨_, _, _, J7, r6, q6⟩
            | next => obtain ⟨σ6, H6, S6, q6⟩ := hsp; exact end_ S6 fun s7 J7 => ⟨_, _, J7, q6⟩
            | brk => obtain ⟨σ6, H6, S6, q6⟩ := hsp; exact end_ S6 fun s7 J7 => ⟨_, _, J7, q6⟩
            | cont => obtain ⟨σ6, H6, S6, q6⟩ := hsp; exact end_ S6 fun s7 J7 => ⟨_, _, J7, q6⟩
    exact go hh w
  · cases f with
    | next =>
      obtain ⟨σ', H', J', q⟩ := hsp
      exact wpAny_execs_nil ⟨σ', H', J'.ofTry ok, q⟩
    | brk => obtain ⟨σ', H', J', q⟩ := hsp; exact ⟨σ', H', J'.ofTry ok, q⟩
    | cont => obtain ⟨σ', H', J', q⟩ := hsp; exact ⟨σ', H', J'.ofTry ok, q⟩
    | ret u =>
      obtain ⟨v, σ', H', J', r, q⟩ := hsp
      exact ⟨v, σ', H', J'.ofTry ok, r, q⟩
end
/-! ### what it computes -/
/-- a clause: which errors it takes, its name's slot, its suite -/
abbrev ClM := List Nat × Option Nat × (Nat → Ms)
noncomputable def clD (i : Option Nat) (δ : En) : En := match i with
  | none => δ
  | some i => δ.set i (.sc xMark)
def ouNo : Ou → Option Ou
  | .ex _ _ => none
  | o => some o
def ouSetO (i : Option Nat) (o : Ou) : Option Ou := match i with
  | none => ouNo o
  | some i => ouSet i o
noncomputable def mCls (δ : En) (tg : Nat) : List ClM → Option Ou
  | [] => none
  | (ts, i, ms) :: r => if tg ∈ ts then (match ms tg (clD i δ) with
    | none => none
    | some o => match ouSetO i o with
      | none => none
      | some o' => if shortB (ouE o') = true then some o' else none) else mCls δ tg r
theorem StOk.clD {C : Cn} {al : Nat → Addr} {F H : Hp} {σ : St} {δ : En} (S : StOk C al F H σ δ) (hs : Short δ) (i : Option Nat) (a : Addr) : StOk { C with W := WA a } al F H (clS i σ a) (clD i δ) := by
  cases i with
  | none => exact S.wish (WA a) hs
  | some i => exact S.hold hs i a
theorem endOk_cl {C : Cn} {F : Hp} {Z : Ends} {i : Option Nat} {a : Addr} {o o' : Ou} (hZ : EndOk C F Z o') (h : ouSetO i o = some o') (hs : shortB (ouE o') = true) : EndOk { C with W := WA a } F (clE i Z) o := by
  have hs := short_of hs
  cases i with
  | none =>
    cases o with
    | ex _ _ => cases h
    | nx δ => cases h; exact fun al2 F2 H2 σ2 s2 S2 => hZ al2 F2 H2 _ s2 (S2.unwish hs)
    | bk δ => cases h; exact fun al2 F2 H2 σ2 s2 S2 => hZ al2 F2 H2 _ s2 (S2.unwish hs)
    | ct δ => cases h; exact fun al2 F2 H2 σ2 s2 S2 => hZ al2 F2 H2 _ s2 (S2.unwish hs)
    | rt d δ => cases h; exact fun al2 F2 H2 σ2 v s2 S2 rv => hZ al2 F2 H2 _ v s2 (S2.unwish hs) rv
    | rn d δ => cases h; exact fun al2 F2 H2 σ2 p s2 S2 => hZ al2 F2 H2 _ p s2 (S2.unwish hs)
  | some i =>
    cases o with
    | ex _ _ => cases h
    | nx δ => cases h; exact fun al2 F2 H2 σ2 s2 S2 => hZ al2 F2 H2 _ s2 ((wiped1 S2 i).unwish hs)
    | bk δ => cases h; exact fun al2 F2 H2 σ2 s2 S2 => hZ al2 F2 H2 _ s2 ((wiped1 S2 i).unwish hs)
    | ct δ => cases h; exact fun al2 F2 H2 σ2 s2 S2 => hZ al2 F2 H2 _ s2 ((wiped1 S2 i).unwish hs)
    | rt d δ => cases h; exact fun al2 F2 H2 σ2 v s2 S2 rv => hZ al2 F2 H2 _ v s2 ((wiped0 S2 i).unwish hs) rv
    | rn d δ => cases h; exact fun al2 F2 H2 σ2 p s2 S2 => hZ al2 F2 H2 _ p s2 ((wiped0 S2 i).unwish hs)
inductive XCl (X : Cx) (R : List Nat) (cx : Nat → Addr) : List ExceptHandler → List ClM → Prop
  | nil : XCl X R cx [] []
  | cons {x : Str} {c : Value} {ts : List Nat} {b₀ : Stmt} {suite : List Stmt} {np pos' : Pos} {n : Option Str} {i : Option Nat} {ms : Nat → Ms} {hds : List ExceptHandler} {cl : List ClM} (hc : Names X x c)
      (hi : (n = none ∧ i = none) ∨ ∃ y j, n = some y ∧ i = some j ∧ X.N[j]? = some y ∧ X.env.kindOf y = some .local) (hx : ∀ tg ∈ R, PySem.W.exmOne X.K (.ref (cx tg)) c = some (decide (tg ∈ ts)))
      (hsu : ∀ tg ∈ R, tg ∈ ts → ∀ (a : Addr) (oe : Obj) (pn : List (Addr × Obj)), Zc (.ref (cx tg)) none oe → (∃ vs, oe.data = .fields vs) → ∃ t, XB (X.suite a ((a, oe) :: pn)) (WA a) (b₀ :: suite) t (ms tg)) (r : XCl X R cx hds cl) :
      XCl X R cx (.ExceptHandler (some (.Name x np)) n (b₀ :: suite) pos' :: hds) ((ts, i, ms) :: cl)
theorem XCl.read {X : Cx} {R : List Nat} {cx : Nat → Addr} {hds : List ExceptHandler} {cl : List ClM} (h : XCl X R cx hds cl) : ∃ l, Cls' X hds l ∧ ∀ (C : Cn), C.K = X.K → ∀ (al : Nat → Addr) (F H : Hp) (σ : St) (δ : En) (Z : Ends) (tg : Nat), StOk C al F H σ δ → Short δ → tg ∈ R → ∀ o, mCls δ tg cl = some o → EndOk C F Z o → wCl X.K W0 Z l (.ref (cx tg)) none σ H := by
  induction h with
  | nil => exact ⟨[], .nil, fun C hK al F H σ δ Z tg S hs hR o ho => by cases ho⟩
  | @cons x c ts b₀ suite np pos' n i ms hds cl hc hi hx hsu r ih =>
    obtain ⟨l, hl, ih⟩ := ih
    refine ⟨(c, i, fun a cls d Z σ H => ∃ tg, cls = .ref (cx tg) ∧ d = none ∧ tg ∈ R ∧ tg ∈ ts ∧ ∀ (h : tg ∈ R) (h2 : tg ∈ ts) oe pn (hz : Zc (.ref (cx tg)) none oe) (hf : ∃ vs, oe.data = .fields vs), (hsu tg h h2 a oe pn hz hf).choose Z σ H) :: l, .cons hc hi (fun a oe cls d pn hz hf => ?_) hl, fun C hK al F H σ δ Z tg S hs hR o ho hZ => ?_⟩
    · refine ⟨fun pins s σ H D I h => ?_⟩
      obtain ⟨tg, rfl, rfl, hR, hT, h⟩ := h
      exact (hsu tg hR hT a oe pn hz hf).choose_spec.p.run pins s σ H D I (h hR hT oe pn hz hf)
    · refine ⟨_, hx tg hR, fun hb a ha => ?_, fun hb => ?_⟩
      · have hT : tg ∈ ts := of_decide_eq_true hb
        refine ⟨tg, rfl, rfl, hR, hT, fun h h2 oe pn hz hf => ?_⟩
        unfold mCls at ho
        rw [if_pos hT] at ho
        cases e2 : ms tg (DL.clD i δ) with
        | none => rw [e2] at ho; cases ho
        | some o2 =>
          rw [e2] at ho
          refine (hsu tg h h2 a oe pn hz hf).choose_spec.v { C with W := WA a } hK rfl al F H _ _ (S.clD hs i a) o2 e2 _ ?_
          cases e3 : ouSetO i o2 with
          | none => simp only [e3] at ho; cases ho
          | some o3 =>
            simp only [e3] at ho
            obtain ⟨h3, h4⟩ := if_some ho
            subst h4
            exact endOk_cl hZ e3 h3
      · have hT : tg ∉ ts := of_decide_eq_false hb
        unfold mCls at ho
        rw [if_neg hT] at ho
        exact ih C hK al F H σ δ Z tg S hs hR o ho hZ
end DL

set_option Elab.async false
set_option linter.all false
set_option maxRecDepth 100000
set_option maxHeartbeats 400000
/-! DLzp: a tuple times a number from 2 on, the new tuple's object known. -/
namespace DL
open PySem PySem.Spec PyProof.Rows L2
def rRepZ (K : Fg) : R2 := fun x y H Q => ∃ l k xs, x = .ref l ∧ y = .int k ∧ SqT K H l xs ∧ xs ≠ [] ∧ 2 ≤ k ∧ k ≤ 1000 ∧ xs.length ≤ 1000 ∧ ∀ p o, H p = none → Obj.dict o = none → Q (.ref p) (upd H p (.frz o (.tup (List.replicate k.toNat xs).flatten)))
theorem op_repZ {X : Cx} : OpR X (binaryOp .Mult) (rRepZ X.K) := by
  intro pins s σ H x y v u Q I rx ry h
  obtain ⟨l, k, xs, rfl, rfl, hT, hne, h1, h2, hz, q⟩ := h
  cases rx
  obtain ⟨t, rfl⟩ := ry
  obtain ⟨its, r, ⟨⟨cls, dd, data, sl⟩, ho, hc, n, hd⟩, hs⟩ := I.tuple hT
  simp only at hc hd
  subst hc hd
  have hle : its.length = xs.length := r.length.symm
  have hi : its.toArray.isEmpty = false := by
    cases its with
    | nil => exact absurd (List.eq_nil_of_length_eq_zero hle.symm) hne
    | cons a b => rfl
  have hsz0 : its.toArray.size = xs.length := by rw [List.size_toArray, hle]
  have hm : ((its.toArray.size : Nat) : Int) * k ≤ 1000000 := by
    rw [hsz0]
    have a1 : ((xs.length : Nat) : Int) * k ≤ 1000 * k := Int.mul_le_mul_of_nonneg_right (by omega) (by omega)
    omega
  have a0 : k.toNat * xs.length ≤ 1000 * 1000 := Nat.mul_le_mul (by omega) hz
  have flen : (List.replicate k.toNat its).flatten.length ≤ sizeLine := by
    rw [PyProof.Rows.lm_len_rep_flat, hle, sizeLine_eq]
    omega
  have c0 : (decide (k < -(2 ^ 63)) || decide (k ≥ 2 ^ 63)) = false := by
    rw [decide_eq_false (by omega), decide_eq_false (by omega)] <;> rfl
  have c1 : (its.toArray.isEmpty || k == 1) = false := by
    rw [hi, Bool.false_or]
    exact beq_eq_false_iff_ne.mpr (by omega)
  have c2 : (decide (k ≤ 0) || its.toArray.isEmpty) = false := by
    rw [hi, Bool.or_false]
    exact decide_eq_false (by omega)
  have c4 : Builtin.Tuple.tupleTooMany (((its.toArray.size : Nat) : Int) * k) = false := by
    unfold Builtin.Tuple.tupleTooMany
    rw [sizeLine_eq]
    exact decide_eq_false (by omega)
  refine wpAny_binaryOp_repeat_ref (T := "tuple") (U := "int") (by decide) ⟨_, ho, rfl⟩ (fun s' => typeIs_int s' k t) noFill_tuple_mul F.fills_int_mul F.slot_int_rmul repeat_tuple F.slot_int_index.lookup
    (call_meets F.slot_int_rmul (typeIs_int s k t) F.entry_int_rmul (F.args_int_rmul_2 _ _) (int_rmul_tuple k t l its.toArray n dd sl)
      ⟨ho, rfl, ⟨_, ho, rfl⟩, call_meets F.slot_tuple_mul ⟨_, ho, rfl⟩ F.entry_tuple_mul (F.args_tuple_mul_2 _ _) (tuple_mulW l its.toArray n dd sl k t c0 c1 c2 (by omega) c4 (by rw [size_rep, List.size_toArray]; exact flen)) ⟨ho, ?_⟩⟩)
  rw [size_rep]
  refine ⟨.ref s.heap.objs.size, upd H s.heap.objs.size (.frz { cls := .type "tuple", data := .seq (List.replicate k.toNat its).flatten.toArray } (.tup (List.replicate k.toNat xs).flatten)), I.laid (t' := s.toks) (fun b ob q => Heap.get?_push_of_some _ q) (Nat.le_refl _) ?_, rfl, q _ _ (I.hok.fresh (Nat.le_refl _)) rfl⟩
  exact ⟨Heap.get?_push_size _ rfl, by rw [PyProof.Rows.lm_len_rep_flat, sizeLine_eq]; omega, _, r.rep k.toNat, PyProof.Rows.IsTup.new _ _⟩
def repTD : D → D → Option D
  | .tup ds, .int k => if ds ≠ [] ∧ ds.length ≤ 1000 ∧ 2 ≤ k ∧ k ≤ 1000 then some (.tup (List.replicate k.toNat ds).flatten) else none
  | _, _ => none
theorem reps_flat {K : Fg} {F : Hp} {ds : List D} {vs : List V} (h : Reps K F ds vs) : ∀ n : Nat, Reps K F (List.replicate n ds).flatten (List.replicate n vs).flatten
  | 0 => reps_nil
  | n + 1 => by
    rw [List.replicate_succ, List.replicate_succ, List.flatten_cons, List.flatten_cons]
    exact h.app (reps_flat h n)
theorem prim_repT {K : Fg} : Prim2 K (rRepZ K) repTD := by
  intro F H v w d e z fh hv hw hf Q k
  match d, e, hf with
  | .tup xs, .int i, hf =>
    obtain ⟨⟨h1, h2, h3, h4⟩, rfl⟩ := if_some (show (if xs ≠ [] ∧ xs.length ≤ 1000 ∧ 2 ≤ i ∧ i ≤ 1000 then some (D.tup (List.replicate i.toNat xs).flatten) else none) = some z from hf)
    obtain ⟨a, vs, rfl, g1, g2, g3⟩ := hv.tup
    have l1 := g3.len
    have wi := hw.int
    subst wi
    refine ⟨a, i, vs, rfl, rfl, same_t fh g1.sq, fun e1 => ?_, h3, h4, by rw [l1]; exact h2, fun p o hp ho => ?_⟩
    · rw [e1] at l1
      exact h1 (List.eq_nil_of_length_eq_zero l1.symm)
    · have a0 : i.toNat * xs.length ≤ 1000 * 1000 := Nat.mul_le_mul (by omega) h2
      obtain ⟨n, hr⟩ := newT (K := K) fh hp ho (by rw [PyProof.Rows.lm_len_rep_flat]; exact Nat.le_trans a0 (by decide)) (reps_flat g3 i.toNat)
      exact k _ _ _ n hr
end DL

set_option Elab.async false
set_option linter.all false
set_option maxRecDepth 100000
set_option maxHeartbeats 4000000
/-! PMj: printed by gen.py: the stock of up to four kinds; beside, with what is refused. -/
namespace GA
open PySem L2 DL G
def E__law_stockB_0 (c : Cs) : M D := m2 ixD (mVal (mCallI 0 [.fr] (g__law_one c) (maCons (mVal (mVar 7)) maNil))) (mVal (mC (.int 0)))
def L__law_stockB_0 (c : Cs) : M D := mLc (mIt rg1 (mdCons (mCallI 0 [.fr] (g__law_one c) (maCons (mVal (mLst (mdCons (m2 addD (mVal (mC (.int 1))) (mVal (mCallI 0 [.fr] (g__law_next c) (maCons (mVal (mVar 1)) maNil)))) (mdCons (mVar 1) (mdCons (mC (.int 3)) mdNil))))) maNil)) mdNil)) (gN 11) mYes (E__law_stockB_0 c) [11]
def B__law_stockB_0 (c : Cs) : Ms := mSeq (mAsgO 10 (L__law_stockB_0 c)) (mDrop (mMut appF 8 (mdCons (mTup (mdCons (mVar 9) (mdCons (mA (fA1 tupD) (maCons (mVal (mnA (fN1 sortF) (maCons (mOv 10) maNil))) maNil)) mdNil))) mdNil)))
def m__law_stockB (c : Cs) : Ms := mSeq (mAsg (gN 2) (mCallI 0 [.fr] (g__law_names c) (maCons (mVal (mC (.int 3))) maNil))) (mSeq (mAsg (gN 3) (mCallI 0 [.fr] (g__law_next c) (maCons (mVal (mC (.int 5))) maNil))) (mSeq (mAsg (gTL (gsC (gN 4) (gsC (gN 5) (gsC (gN 6) gs0)))) (mVar 2)) (mSeq (mAsgO 7 (mLst (mdCons (mLst (mdCons (mTup (mdCons (mVar 4) (mdCons (mVar 4) mdNil))) mdNil)) (mdCons (mLst (mdCons (mTup (mdCons (mVar 4) (mdCons (mVar 5) mdNil))) (mdCons (mTup (mdCons (mVar 5) (mdCons (mVar 4) mdNil))) mdNil))) (mdCons (mLst (mdCons (mTup (mdCons (mVar 4) (mdCons (mVar 4) mdNil))) (mdCons (mTup (mdCons (mVar 5) (mdCons (mVar 6) mdNil))) (mdCons (mTup (mdCons (mVar 6) (mdCons (mVar 5) mdNil))) mdNil)))) (mdCons (mLst (mdCons (mTup (mdCons (mVar 4) (mdCons (mVar 4) mdNil))) (mdCons (mTup (mdCons (mVar 5) (mdCons (mVar 5) mdNil))) mdNil))) mdNil)))))) (mSeq (mAsg (gN 7) (m2 ixD (mVal (m2 addD (mOv 7) (mVal (mSl slD (mOv 7) mpNone (mpSome (mC (.int 1))))))) (mOv 3))) (mSeq (mIf (mTest (m2 eqD (mVal (mCallI 0 [.fr] (g__law_next c) (maCons (mVal (mC (.int 2))) maNil))) (mVal (mC (.int 0))))) (mAsgO 7 (mn1 revLD (mOv 7))) (mNext)) (mSeq (mAsgO 8 (mLst mdNil)) (mSeq (mFor (mSeqOf (mCallI 0 [.fr] (g__law_names c) (maCons (mVal (m2 addD (mVal (mC (.int 1))) (mVal (mCallI 0 [.fr] (g__law_next c) (maCons (mVal (mC (.int 4))) maNil))))) maNil))) (gN 9) (B__law_stockB_0 c)) (mRet (mTup (mdCons (mVar 7) (mdCons (mVar 8) mdNil)))))))))))
def g__law_stockB (c : Cs) : List D → Option (D × D) := defI 12 [.fr] (m__law_stockB c)
end GA

set_option Elab.async false
set_option linter.all false
set_option maxRecDepth 100000
set_option maxHeartbeats 400000
/-! DLzq: t.index(i) of a tuple of ints; a tuple times a number from 1 on. -/
namespace DL
open PySem PySem.Spec PyProof.Rows L2
/-! ### t.index(i) -/
section
variable {X : Cx} {o e : Expr} {to : TE} {t : TA} {apos cpos : Pos}
end
/-! ### a tuple times one: itself -/
theorem tuple_mul1 (l : Addr) (items : Array Value) (n : Nat) (dd : Option Addr) (sl : Array (Option Value)) (u : Tok) :
    Meets (Builtin.«tuple.__mul__» ⟨[.ref l, .int 1 u], []⟩) (fun _ R s => s.heap.get? l = some { cls := .type "tuple", dict := dd, data := .seq items n, slots := sl } ∧ R (.ok (.ret (.ref l))) s) :=
  .of_wp fun prog w A R s h => by
    obtain ⟨hp, g, d, tk, os⟩ := s
    obtain ⟨hl, h⟩ := h
    have f1 := AutoSeq1.idx_int
    have c0 : (decide ((1 : Int) < -(2 ^ 63)) || decide ((1 : Int) ≥ 2 ^ 63)) = false := by decide
    have c1 : (items.isEmpty || (1 : Int) == 1) = true := by simp
    wp_walk using wpAny_loadPart' hl
    repeat (first
      | (refine wpAny_ite_false (decide_eq_false (by rw [c0]; exact Bool.false_ne_true)) ?_; wp_walk using wpAny_loadPart' hl)
      | (refine wpAny_ite_true (decide_eq_true c1) ?_; wp_walk using wpAny_loadPart' hl)
      | (refine wpAny_ite_true c1 ?_; wp_walk using wpAny_loadPart' hl))
    exact ⟨_, rfl, h⟩
def rRep1 (K : Fg) : R2 := fun x y H Q => ∃ l xs, x = .ref l ∧ y = .int 1 ∧ SqT K H l xs ∧ Q (.ref l) H
theorem op_rep1 {X : Cx} : OpR X (binaryOp .Mult) (rRep1 X.K) := by
  intro pins s σ H x y v u Q I rx ry h
  obtain ⟨l, xs, rfl, rfl, hT, q⟩ := h
  cases rx
  obtain ⟨t, rfl⟩ := ry
  obtain ⟨its, r, ⟨⟨cls, dd, data, sl⟩, ho, hc, n, hd⟩, hs⟩ := I.tuple hT
  simp only at hc hd
  subst hc hd
  refine wpAny_binaryOp_repeat_ref (T := "tuple") (U := "int") (by decide) ⟨_, ho, rfl⟩ (fun s' => typeIs_int s' 1 t) noFill_tuple_mul F.fills_int_mul F.slot_int_rmul repeat_tuple F.slot_int_index.lookup
    (call_meets F.slot_int_rmul (typeIs_int s 1 t) F.entry_int_rmul (F.args_int_rmul_2 _ _) (int_rmul_tuple 1 t l its.toArray n dd sl)
      ⟨ho, rfl, ⟨_, ho, rfl⟩, call_meets F.slot_tuple_mul ⟨_, ho, rfl⟩ F.entry_tuple_mul (F.args_tuple_mul_2 _ _) (tuple_mul1 l its.toArray n dd sl t) ⟨ho, ?_⟩⟩)
  exact ⟨.ref l, H, I, rfl, q⟩
def rRepY (K : Fg) : R2 := fun x y H Q => rRepZ K x y H Q ∨ rRep1 K x y H Q
theorem op_repY {X : Cx} : OpR X (binaryOp .Mult) (rRepY X.K) := by
  intro pins s σ H x y v u Q I rx ry h
  rcases h with h | h
  · exact op_repZ pins s σ H x y v u Q I rx ry h
  · exact op_rep1 pins s σ H x y v u Q I rx ry h
def repYD (d e : D) : Option D := match d, e with
  | .tup ds, .int k => if k = 1 then some (.tup ds) else repTD (.tup ds) (.int k)
  | _, _ => none
theorem prim_repY {K : Fg} : Prim2 K (rRepY K) repYD := by
  intro F H v w d e z fh hv hw hf Q k
  cases d with
  | tup ds =>
    cases e with
    | int i =>
      unfold repYD at hf
      by_cases q : i = 1
      · subst q
        simp only [if_true] at hf
        cases hf
        obtain ⟨a, vs, rfl, g1, g2, g3⟩ := hv.tup
        have wi := hw.int
        subst wi
        refine Or.inr ⟨a, vs, rfl, rfl, same_t fh g1.sq, ?_⟩
        exact k F H _ (New.refl fh) (Rep.tup_iff.mpr ⟨a, vs, rfl, g1, g2, g3⟩)
      · simp only [if_neg q] at hf
        exact Or.inl (prim_repT F H v w _ _ z fh hv hw hf Q k)
    | _ => cases hf
  | _ => cases hf
theorem x_repY {K : Fg} {X : Cx} {W : WX} {a b : Expr} {ta tb : TE} {oa ob : M Op} {pos : Pos} (ha : XO X W a ta oa) (hb : XO X W b tb ob) (hK : X.K = K := by rfl) : XE X W (.BinOp a .Mult b pos) (tOp (rRepY K) ta tb) (m2 repYD oa ob) := by
  subst hK
  exact ⟨pe_op op_repY ha.p hb.p, ev_2 prim_repY ha.v hb.v⟩
end DL

set_option Elab.async false
set_option linter.all false
set_option maxRecDepth 100000
set_option maxHeartbeats 400000
/-! DLzr: a def that raises, called where it doesn't. -/
namespace DL
open PySem L2
section
variable {X : Cx} {W : WX} {e : Expr} {es : List Expr} {pos p2 : Pos}
end
/-! ### l + m as a new list of one's own -/
def catF (d e : D) : Option (List D) := match d, e with
  | .lst xs, .lst ys => if xs.length + ys.length ≤ 1000000 then some (xs ++ ys) else none
  | _, _ => none
theorem primN_cat {K : Fg} : PrimN2 K rCat catF := by
  intro F H v w d e ds fh hv hw hf Q k
  cases d with
  | lst xs =>
    cases e with
    | lst ys =>
      obtain ⟨h1, h2⟩ := if_some (show (if xs.length + ys.length ≤ 1000000 then some (xs ++ ys) else none) = some ds from hf)
      subst h2
      obtain ⟨a, vs, rfl, g1, g2, g3⟩ := hv.lst fh
      obtain ⟨b, us, rfl, g4, g5, g6⟩ := hw.lst fh
      exact ⟨a, b, vs, us, rfl, rfl, g1, g4, by rw [g3.len, g6.len]; exact LB_size h1, fun p hp => k p _ _ hp (same_upd hp) upd_same (by rw [List.length_append]; exact h1) (g3.app g6)⟩
    | _ => cases hf
  | _ => cases hf
section
variable {X : Cx} {W : WX} {a b : Expr} {ta tb : TE} {oa ob : M Op} {pos : Pos}
theorem n_cat {K : Fg} (ha : XO X W a ta oa) (hb : XO X W b tb ob) (hK : X.K = K := by rfl) : XN X W (.BinOp a .Add b pos) (tOp rCat ta tb) (mn2 catF oa ob) := by
  subst hK
  exact ⟨pe_op op_cat ha.p hb.p, en_2 primN_cat ha.v hb.v⟩
end
end DL

set_option Elab.async false
set_option linter.all false
set_option maxRecDepth 100000
set_option maxHeartbeats 400000
/-! DLzs: min of a list of data. -/
namespace DL
open PySem PySem.Spec PyProof.Rows L2
open PySem.W (alike dataLt)
structure MinOk (ds : List D) : Prop where
  ne : ds ≠ []
  py : ∀ d ∈ ds, toPy d = some (encD d)
  nn : ∀ d ∈ ds, encD d ≠ .none
  dep : PyData.depthAll (ds.map encD) ≤ 60
  al : ∀ d ∈ ds, ∀ e ∈ ds, alike (encD d) (encD e) = true
section
variable {X : Cx} {W : WX} {a : Expr} {ta : TE} {oa : M Op} {p2 pos : Pos}
end
/-! ### a number in, not in a tuple of numbers -/
theorem inV_ints (x : Int) : ∀ xs : List Int, inV (.int x) (xs.map V.int) = decide (x ∈ xs)
  | [] => rfl
  | y :: xs => by
    have ih := inV_ints x xs
    unfold inV at ih ⊢
    rw [List.map_cons, List.any_cons, ih]
    have e : eqV (.int y) (.int x) = decide (y = x) := by
      show (y == x) = decide (y = x)
      rw [Bool.eq_iff_iff]
      simp
    rw [e, Bool.eq_iff_iff, Bool.or_eq_true, decide_eq_true_iff, decide_eq_true_iff, decide_eq_true_iff, List.mem_cons]
    exact ⟨fun h => h.imp Eq.symm id, fun h => h.imp Eq.symm id⟩
theorem flat_intsV (xs : List Int) : (xs.map V.int).all flatV = true := by
  rw [List.all_map]
  exact List.all_eq_true.mpr fun _ _ => rfl
def inID (neg : Bool) : D → D → Option D
  | .int i, .tup ds => (intsOf ds).map fun ns => .bl (if neg then !decide (i ∈ ns) else decide (i ∈ ns))
  | _, _ => none
theorem prim_inI {K : Fg} {neg : Bool} : Prim2 K (rIn K neg) (inID neg) := by
  intro F H v w d e z fh hv hw hf Q k
  cases d with
  | int i =>
    cases e with
    | tup ds =>
      have hf : (intsOf ds).map (fun ns => D.bl (if neg then !decide (i ∈ ns) else decide (i ∈ ns))) = some z := hf
      cases e1 : intsOf ds with
      | none => rw [e1] at hf; cases hf
      | some xs =>
        rw [e1] at hf
        cases hf
        have := intsOf_map e1
        subst this
        obtain ⟨a, vs, rfl, g1, g2, g3⟩ := hw.tup
        have hvs := reps_ints g3
        subst hvs
        refine ⟨a, xs.map V.int, rfl, Or.inr (same_t fh g1.sq), by rw [hv.int]; rfl, flat_intsV xs, ?_⟩
        rw [hv.int]
        refine k F H _ (New.refl fh) (Rep.bl_iff.mpr ?_)
        rw [inV_ints]
    | _ => cases hf
  | _ => cases e <;> cases hf
section
variable {X : Cx} {W : WX} {a b : Expr} {ta tb : TE} {oa ob : M Op} {pos : Pos}
end
/-! ### x is None, as a test -/
end DL

set_option Elab.async false
set_option linter.all false
set_option maxRecDepth 100000
set_option maxHeartbeats 400000
/-! DLzt: rules that ask for units alone (within an except suite); str(i). -/
namespace DL
open PySem L2
section
variable {X : Cx} {W : WX} {a b o e : Expr} {ta tb : TE} {oa ob : M Op} {pos p2 apos cpos : Pos}
end
/-! ### str(i) -/
section
variable {X : Cx} {W : WX} {a : Expr} {ta : TE} {oa : M Op} {p2 pos : Pos}
end
end DL

set_option Elab.async false
set_option linter.all false
set_option maxRecDepth 100000
set_option maxHeartbeats 400000
/-! DLzu: a list of new lists of one's own: handed on by parts, compared, its parts changed in a loop. -/
namespace DL
open PySem L2
/-! ### objects that are kept from being changed -/
def gP (P H : Hp) (bs : List Addr) : Hp := fun a => if a ∈ bs then H a else P a
theorem gP_in {P H : Hp} {bs : List Addr} {a : Addr} (h : a ∈ bs) : gP P H bs a = H a := if_pos h
theorem gP_out {P H : Hp} {bs : List Addr} {a : Addr} (h : a ∉ bs) : gP P H bs a = P a := if_neg h
/-- neither frozen, nor kept, nor an own slot's -/
def Free (C : Cn) (al : Nat → Addr) (F : Hp) (δ : En) (b : Addr) : Prop := F b = none ∧ C.P b = none ∧ ∀ (j : Nat) s e, δ[j]? = some s → Sl.own s = some e → al j ≠ b
section
variable {C : Cn} {al al' : Nat → Addr} {F H F' H' : Hp} {σ σ' : St} {δ δ' : En} {bs : List Addr}
theorem same_gP (hP : ∀ b ∈ bs, C.P b = none) : Same C.P (gP C.P H bs) := fun a o q => by
  rw [gP_out fun z => ?_]
  · exact q
  · rw [hP a z] at q; cases q
theorem StOk.grow (S : StOk C al F H σ δ) (hb : ∀ b ∈ bs, Free C al F δ b) : StOk { C with P := gP C.P H bs } al F H σ δ := by
  have sp : Same C.P (gP C.P H bs) := same_gP fun b z => (hb b z).2.1
  refine ⟨S.fh, fun a o q => ?_, S.bp.trans sp, S.f0, fun a o q => ?_, S.len, S.fr, S.bo, fun j s e q r => ?_, S.io, S.inj, S.sc, S.b2, S.qp.trans sp⟩
  · by_cases z : a ∈ bs
    · exact (gP_in z).symm.trans q
    · exact S.ph a o ((gP_out z).symm.trans q)
  · have z : a ∉ bs := fun z => by rw [(hb a z).1] at q; cases q
    rcases S.fp a o q with g | g
    · exact Or.inl g
    · exact Or.inr ((gP_out z).trans g)
  · obtain ⟨h1, h2, h3, h4⟩ := S.ow j s e q r
    refine ⟨h1, h2, ?_, h4⟩
    exact (gP_out fun z => (hb _ z).2.2 j s e q r rfl).trans h3
/-- back from there -/
theorem StOk.shrink (S : StOk C al F H σ δ) (hb : ∀ b ∈ bs, Free C al F δ b) (ho : ∀ b ∈ bs, ∃ o, H b = some o) {C' : Cn} (hK : C'.K = C.K) (hP : C'.P = gP C.P H bs) (hB : C'.B = C.B) (h0 : C'.F0 = C.F0) (hW : C'.W = C.W) (S' : StOk C' al' F' H' σ' δ')
    (hio : ∀ (j : Nat) d, δ'[j]? = some (Sl.io d) → C'.bt j = C.bt j) (h2 : ∀ (j : Nat) ds, δ'[j]? = some (Sl.b2 ds) → C'.Q = C.Q ∧ C'.bt j = C.bt j) (hQ : ∀ dd fs, C'.Q dd = some (HO.xd fs) → C.Q dd = some (HO.xd fs)) :
    StOk C al' F' H' σ' δ' ∧ ∀ b ∈ bs, Free C al' F' δ' b ∧ H' b = H b := by
  have nob : ∀ b ∈ bs, ∀ (j : Nat) s e, δ'[j]? = some s → Sl.own s = some e → al' j ≠ b := fun b z j s e q r w => by
    obtain ⟨_, _, g3, _⟩ := S'.ow j s e q r
    obtain ⟨o, hh⟩ := ho b z
    rw [hP, w, gP_in z, hh] at g3
    cases g3
  refine ⟨⟨S'.fh, fun a o q => ?_, S.bp, h0 ▸ S'.f0, fun a o q => ?_, S'.len, fun i d q => hK ▸ S'.fr i d q, fun i d q => hB ▸ hK ▸ S'.bo i d q, fun j s e q r => ?_, fun j d q => (S'.io j d q).trans (hio j d q), S'.inj, fun i ns q => ?_, fun j ds q => ?_, S.qp⟩, fun b z => ⟨⟨?_, (hb b z).2.1, nob b z⟩, ?_⟩⟩
  · have z : a ∉ bs := fun z => by rw [(hb a z).2.1] at q; cases q
    exact S'.ph a o (by rw [hP, gP_out z]; exact q)
  · rcases S'.fp a o q with g | g
    · exact Or.inl (h0 ▸ g)
    · refine Or.inr ?_
      by_cases z : a ∈ bs
      · exact (hb a z).2.1
      · rw [hP, gP_out z] at g; exact g
  · obtain ⟨g1, g2, g3, g4⟩ := S'.ow j s e q r
    refine ⟨g1, g2, ?_, hK ▸ g4⟩
    rw [hP, gP_out fun z => nob _ z j s e q r rfl] at g3
    exact g3
  · obtain ⟨a, g1, g2⟩ := S'.sc i ns q
    refine ⟨a, g1, ?_⟩
    rcases g2 with ⟨g2, g3⟩ | ⟨g2, g3⟩
    · exact Or.inl ⟨g2, hB ▸ hK ▸ g3⟩
    · refine Or.inr ⟨g2, ?_⟩
      rcases g3 with g3 | ⟨dd, fld, y, g3, g4⟩
      · exact Or.inl (hW ▸ g3)
      · exact Or.inr ⟨dd, fld, y, hW ▸ g3, hQ _ _ g4⟩
  · obtain ⟨e1, e2⟩ := h2 j ds q
    have := S'.b2 j ds q
    rw [e1, e2, hK] at this
    exact this
  · cases w : F' b with
    | none => rfl
    | some o =>
      rcases S'.fp b o w with g | g
      · have := S.f0 b o (h0 ▸ g)
        rw [(hb b z).1] at this
        cases this
      · obtain ⟨u, hu⟩ := ho b z
        rw [hP, gP_in z, hu] at g
        cases g
  · obtain ⟨u, hu⟩ := ho b z
    rw [hu]
    exact S'.ph b u (by rw [hP, gP_in z]; exact hu)
end
/-! ### the parts are made -/

/-- new objects of one's own, one after another -/
def JL (K : Fg) (W : WX) (t : TA) (m : M (List D)) : Prop :=
  ∀ (C : Cn), C.K = K → C.W = W → ∀ (al : Nat → Addr) (F H : Hp) (σ : St) (δ : En), StOk C al F H σ δ → ∀ r, m δ = some r → ∀ Q : List V → Hp → Prop,
    (∀ ds δ', r = .ok ds δ' → ∀ al' F' H' (bs : List Addr), Same F F' → StOk C al' F' H' σ δ' → bs.Nodup → (∀ b ∈ bs, Free C al' F' δ' b) → (∀ b ∈ bs, ∃ o, H' b = some o) → Parts K H' F' (bs.map V.ref) ds → ds.length ≤ LB → Q (bs.map V.ref) H') →
    (∀ x δ', r = .ex x δ' → ∀ al' F' H' cls dd, Same F F' → StOk C al' F' H' σ δ' → XRep K F' H' x cls dd → W cls dd σ H') → t σ H Q
def mlNil : M (List D) := M.ret []
def mlCons (a : M D) (b : M (List D)) : M (List D) := a.bind fun d => b.bind fun ds => M.lift (if ds.length + 1 ≤ LB then some (d :: ds) else none)
section
variable {K : Fg} {W : WX}
theorem jl_nil : JL K W tNil mlNil := by
  intro C hK hW al F H σ δ S r hr Q hok hex
  cases hr
  exact hok [] δ rfl al F H [] (Same.refl _) S (by simp) (by simp) (by simp) .nil (by decide)
theorem jl_cons {te : TE} {tr : TA} {a : M D} {b : M (List D)} (ha : En1 K W te a) (hb : JL K W tr b) : JL K W (tCons te tr) (mlCons a b) := by
  intro C hK hW al F H σ δ S r hr Q hok hex
  subst hK
  cases e : a δ with
  | none => unfold mlCons M.bind at hr; rw [e] at hr; cases hr
  | some r1 =>
    refine ha C rfl hW al F H σ δ S trivial r1 e _ (fun d δ1 e1 al1 F1 H1 p s1 S1 n1 n2 n3 n4 => ?_) fun x δ1 e1 al1 F1 H1 cls dd s1 S1 xr => ?_
    · subst e1
      unfold mlCons at hr
      rw [M.bind_ok e] at hr
      have fp : ∀ b ∈ [p], Free C al1 F1 δ1 b := fun b z => by rw [List.mem_singleton.mp z]; exact ⟨n1, n2, n3⟩
      have op : ∀ b ∈ [p], ∃ o, H1 b = some o := fun b z => by rw [List.mem_singleton.mp z]; exact n4.there
      have S2 := S1.grow fp
      cases e2 : b δ1 with
      | none => unfold M.bind at hr; rw [e2] at hr; cases hr
      | some r2 =>
        refine hb { C with P := gP C.P H1 [p] } rfl hW al1 F1 H1 σ δ1 S2 r2 e2 _ (fun ds δ2 e3 al2 F2 H2 bs s2 S3 g1 g2 g3 g4 g5 => ?_) fun x δ2 e3 al2 F2 H2 cls dd s2 S3 xr => ?_
        · subst e3
          rw [M.bind_ok e2] at hr
          obtain ⟨es, h2, rfl⟩ := lift_some hr
          obtain ⟨hl, rfl⟩ := if_some h2
          obtain ⟨S4, k⟩ := S1.shrink (C' := { C with P := gP C.P H1 [p] }) fp op rfl rfl rfl rfl rfl S3 (fun _ _ _ => rfl) (fun _ _ _ => ⟨rfl, rfl⟩) fun _ _ q => q
          obtain ⟨k1, k2⟩ := k p (by simp)
          have np : p ∉ bs := fun z => by
            have := (g2 p z).2.1
            rw [show ({ C with P := gP C.P H1 [p] } : Cn).P p = H1 p from gP_in (by simp)] at this
            obtain ⟨o, ho⟩ := n4.there
            rw [this] at ho; cases ho
          refine hok _ δ2 rfl al2 F2 H2 (p :: bs) (s1.trans s2) S4 (List.nodup_cons.mpr ⟨np, g1⟩) (fun b z => ?_) (fun b z => ?_) ?_ hl
          · rcases List.mem_cons.mp z with z | z
            · rw [z]; exact k1
            · obtain ⟨y1, y2, y3⟩ := g2 b z
              refine ⟨y1, ?_, y3⟩
              have nb : b ∉ [p] := fun w => np (by rw [← List.mem_singleton.mp w]; exact z)
              exact (gP_out nb).symm.trans y2
          · rcases List.mem_cons.mp z with z | z
            · rw [z, k2]; exact n4.there
            · exact g3 b z
          · exact .cons ⟨p, rfl, n4.mono s2 fun o q => by rw [k2]; exact q⟩ g4
        · subst e3
          rw [M.bind_ex e2] at hr
          cases hr
          obtain ⟨S4, _⟩ := S1.shrink (C' := { C with P := gP C.P H1 [p] }) fp op rfl rfl rfl rfl rfl S3 (fun _ _ _ => rfl) (fun _ _ _ => ⟨rfl, rfl⟩) fun _ _ q => q
          exact hex x δ2 rfl al2 F2 H2 cls dd (s1.trans s2) S4 xr
    · subst e1
      unfold mlCons at hr
      rw [M.bind_ex e] at hr
      cases hr
      exact hex x δ1 rfl al1 F1 H1 cls dd s1 S1 xr
end
/-! ### the block -/
def noB2 (δ : En) : Bool := δ.all fun s => match s with
  | .b2 _ => false
  | _ => true
theorem noB2_get {δ : En} (h : noB2 δ = true) {j : Nat} {ds : List D} (q : δ[j]? = some (Sl.b2 ds)) : False := by
  have := List.all_eq_true.mp h (.b2 ds) (List.mem_of_getElem? q)
  cases this
/-- an outcome without the parts -/
def ouB (i : Nat) (o : Ou) : Option Ou := if noB2 (wipeE (ouE o) [i]) = true then some (match o with
  | .nx δ => .nx (wipeE δ [i])
  | .rt d δ => .rt d (wipeE δ [i])
  | .rn d δ => .rn d (wipeE δ [i])
  | .bk δ => .bk (wipeE δ [i])
  | .ct δ => .ct (wipeE δ [i])
  | .ex x δ => .ex x (wipeE δ [i])) else none
section
variable {K : Fg} {W : WX}
theorem parts_keep {P P' F F' : Hp} : ∀ {bs : List Addr} {es : List D}, (∀ b ∈ bs, ∀ o, P b = some o → P' b = some o) → Same F F' → Parts K P F (bs.map V.ref) es → Parts K P' F' (bs.map V.ref) es
  | [], es, _, _, h => by cases h; exact .nil
  | b :: bs, _, k, e, .cons r t => by
    obtain ⟨b', h1, h2⟩ := r
    cases h1
    exact .cons ⟨b, rfl, h2.mono e fun o q => k b List.mem_cons_self o q⟩ (parts_keep (fun b' z => k b' (List.mem_cons_of_mem _ z)) e t)
theorem repO_noxd {F H : Hp} {a : Addr} {d : D} (h : RepO K F H a d) {fs : List (Str × V)} : H a ≠ some (.xd fs) := fun q => by
  cases d with
  | lst ds => obtain ⟨vs, h1, _⟩ := h; rw [h1] at q; cases q
  | ins C ns ds => obtain ⟨dx, vs, h1, _⟩ := h; rw [h1] at q; cases q
  | dk ks ds => obtain ⟨vs, h1, _⟩ := h; rw [h1] at q; cases q
  | dn hs ks ds => obtain ⟨o, bs, vs, nks, h1, _⟩ := h; rw [h1] at q; have z : HO.ext _ = HO.xd fs := Option.some.inj q; cases z
  | _ => exact h.elim
theorem parts_noxd {F H : Hp} : ∀ {bs : List Addr} {es : List D}, Parts K H F (bs.map V.ref) es → ∀ b ∈ bs, ∀ fs, H b ≠ some (HO.xd fs)
  | [], _, _, b, z, _ => by cases z
  | a :: bs, _, .cons r t, b, z, fs => by
    obtain ⟨b', h1, h2⟩ := r
    cases h1
    rcases List.mem_cons.mp z with z | z
    · rw [z]; exact repO_noxd h2
    · exact parts_noxd t b z fs
end
end DL

set_option Elab.async false
set_option linter.all false
set_option maxRecDepth 100000
set_option maxHeartbeats 400000
/-! DLzv: a list of new lists: the rules over the text. -/
namespace DL
open PySem L2
/-! ### an item of it as an operand -/
def mPart (i k : Nat) : M Op := fun δ => match δ[i]? with
  | some (.b2 ds) => if k < ds.length then some (.ok (.part i k) δ) else none
  | _ => none
section
variable {K : Fg} {W : WX}
theorem eo_part {i k : Nat} : Eo K W (tOp (rIx K) (tVar i) (tC (.int (k : Nat)))) (mPart i k) := by
  intro C hK hW al F H σ δ S _ r hr Q hok hex
  subst hK
  unfold mPart at hr
  cases e : δ[i]? with
  | none => simp only [e] at hr; cases hr
  | some s =>
    cases s with
    | b2 ds =>
      simp only [e] at hr
      obtain ⟨hk, rfl⟩ := if_some hr
      obtain ⟨vs, h1, h2, h3⟩ := S.b2 i ds e
      have hl : k < vs.length := by rw [Paired.length h3]; exact hk
      have hg : vs[k]? = some vs[k] := List.getElem?_eq_getElem hl
      exact ⟨_, h1, Or.inl ⟨_, vs, k, vs[k], rfl, rfl, Or.inl (Or.inl (S.fh _ _ h2)), atI_nat hg, hok _ δ rfl al F H _ (Same.refl _) S ⟨_, vs, h1, h2, hg⟩⟩⟩
    | _ => simp only [e] at hr; cases hr
/-! ### compared -/
def mB2 (i : Nat) : M D := fun δ => match δ[i]? with
  | some (.b2 ds) => if ds.length ≤ LB then some (.ok (.lst ds) δ) else none
  | _ => none
def mB (i : Nat) (f : D → D → Option D) (ob : M Op) : M D := fun δ => match δ[i]? with
  | some (.b2 _) => (ob.bind fun q => (mB2 i).bind fun d => (mRd q).bind fun e => M.lift (f d e)) δ
  | _ => none
theorem parts_bs {P F : Hp} : ∀ {vs : List V} {ds : List D}, Parts K P F vs ds → ∃ bs : List Addr, vs = bs.map V.ref
  | _, _, .nil => ⟨[], rfl⟩
  | _, _, .cons ⟨b, h, _⟩ t => by
    obtain ⟨bs, rfl⟩ := parts_bs t
    subst h
    exact ⟨b :: bs, rfl⟩
theorem repO_rep {F G P : Hp} {b : Addr} {d : D} (h : RepO K F P b d) (e : Same F G) (k : ∀ o, P b = some o → G b = some o) : Rep K G d (.ref b) := by
  cases d with
  | lst ds =>
    obtain ⟨vs, h1, h2, h3⟩ := h
    exact Rep.lst_iff.mpr ⟨b, vs, rfl, k _ h1, h2, Reps.mono e h3⟩
  | ins C ns ds =>
    obtain ⟨dx, vs, h1, h2, h3⟩ := h
    exact Rep.ins_iff.mpr ⟨b, dx, vs, rfl, k _ h1, h2, Reps.mono e h3⟩
  | dk ks ds =>
    obtain ⟨vs, h1, h2, h3, h4⟩ := h
    exact Rep.dk_iff.mpr ⟨b, vs, rfl, Or.inl (k _ h1), h2, h3, Reps.mono e h4⟩
  | dn hs ks ds =>
    obtain ⟨o, bs, vs, nks, h1, h2, h3, h4, h5, h6, h7, h8⟩ := h
    exact Rep.dn_iff.mpr ⟨b, o, bs, vs, nks, rfl, k _ h1, h2, h3, h4, h5, h6, Reps.mono e h7, Reps.mono e h8⟩
  | _ => exact h.elim
theorem parts_reps {F G P : Hp} (e : Same F G) : ∀ {bs : List Addr} {ds : List D}, (∀ b ∈ bs, ∀ o, P b = some o → G b = some o) → Parts K P F (bs.map V.ref) ds → Reps K G ds (bs.map V.ref)
  | [], ds, _, h => by cases h; exact reps_nil
  | b :: bs, _, k, .cons ⟨b', h1, h2⟩ t => by
    cases h1
    exact reps_cons (repO_rep h2 e (k b List.mem_cons_self)) (parts_reps e (fun c z => k c (List.mem_cons_of_mem _ z)) t)
theorem ev_cmpB {r : R2} {f : D → D → Option D} {i : Nat} {tb : TE} {ob : M Op} (pr : Prim2 K r f) (hf : ∀ d e z, f d e = some z → ∃ b, z = .bl b) (hb : Eo K W tb ob) : Ev K W (tOp r (tVar i) tb) (mB i f ob) := by
  intro C hK hW al F H σ δ S _ r0 hr Q hok hex
  subst hK
  unfold mB at hr
  cases e0 : δ[i]? with
  | none => simp only [e0] at hr; cases hr
  | some s =>
    cases s with
    | b2 ds0 =>
      simp only [e0] at hr
      obtain ⟨vs0, h1, _, _⟩ := S.b2 i ds0 e0
      refine ⟨_, h1, ?_⟩
      cases e : ob δ with
      | none => unfold M.bind at hr; rw [e] at hr; cases hr
      | some r1 =>
        refine hb C rfl hW al F H σ δ S trivial r1 e _ (fun q δ1 e1 al1 F1 H1 w s1 S1 rl => ?_) fun x δ1 e1 al1 F1 H1 cls dd s1 S1 xr => ?_
        · subst e1
          rw [M.bind_ok e] at hr
          unfold M.bind mB2 at hr
          cases e2 : δ1[i]? with
          | none => simp only [e2] at hr; cases hr
          | some sl =>
            cases sl with
            | b2 ds =>
              simp only [e2] at hr
              by_cases hl : ds.length ≤ LB
              · simp only [hl, if_true] at hr
                obtain ⟨d2, h3, hr⟩ := rd_bind hr
                obtain ⟨z, h4, rfl⟩ := lift_some hr
                obtain ⟨b, rfl⟩ := hf _ _ _ h4
                obtain ⟨vs, g1, g2, g3⟩ := S1.b2 i ds e2
                obtain ⟨bs, rfl⟩ := parts_bs g3
                have sm : Same F1 (gP F1 H1 bs) := fun a o y => by
                  by_cases w : a ∈ bs
                  · rw [gP_in w]; exact S1.fh a o y
                  · rw [gP_out w]; exact y
                have sh : Same (gP F1 H1 bs) H1 := fun a o y => by
                  by_cases w : a ∈ bs
                  · rw [gP_in w] at y; exact y
                  · rw [gP_out w] at y; exact S1.fh a o y
                have rp : Rep C.K (gP F1 H1 bs) (.lst ds) (.ref (C.bt i)) := Rep.lst_iff.mpr ⟨_, _, rfl, sm _ _ g2, hl, parts_reps sm (fun b w o y => by rw [gP_in w]; exact S1.ph _ _ (S1.qp _ _ y)) g3⟩
                exact pr (gP F1 H1 bs) H1 _ w (.lst ds) d2 _ sh (Or.inl rp) ((S1.opd rl h3).mono sm (Same.refl _)) h4 Q fun F' H' u n ru =>
                  hok _ δ1 rfl al1 F1 H' u s1 (S1.new ⟨Same.refl _, S1.fh.trans n.hh, n.hh, fun _ _ y => Or.inl y⟩) (Rep.bl_iff.mpr (Rep.bl_iff.mp ru))
              · simp only [hl, if_false] at hr; cases hr
            | _ => simp only [e2] at hr; cases hr
        · subst e1
          rw [M.bind_ex e] at hr
          cases hr
          exact hex x δ1 rfl al1 F1 H1 cls dd s1 S1 xr
    | _ => simp only [e0] at hr; cases hr
theorem neD_bl : ∀ d e z, neD d e = some z → ∃ b, z = .bl b := fun d e z h => by
  unfold neD at h
  cases w : pyEq d e with
  | none => rw [w] at h; cases h
  | some b => rw [w] at h; exact ⟨!b, (Option.some.inj h).symm⟩
end
/-! ### the text -/
structure XL (X : Cx) (W : WX) (es : List Expr) (t : TA) (m : M (List D)) : Prop where
  p : PA X es t
  v : JL X.K W t m
/-- the first statements of a block -/
structure XPr (X : Cx) (W : WX) (s : List Stmt) (t : TS) (m : Ms) : Prop where
  p : ∀ (rest : List Stmt) (u : TS), PSs X rest u → PSs X (s ++ rest) (tSeq t u)
  v : Es X.K W t m
section
variable {X : Cx} {W : WX} {a b e : Expr} {es : List Expr} {te ta tb : TE} {pos p2 p3 pos' : Pos} {me ma : M D} {ob : M Op} {st : Stmt} {ss : List Stmt} {t u : TS} {m n : Ms}
theorem l_nil : XL X W [] tNil mlNil := ⟨pa_nil, jl_nil⟩
theorem l_cons {tr : TA} {ms : M (List D)} (ha : XN X W e te me) (hr : XL X W es tr ms) (hs : starEach (e :: es) X.env = (false, eval e X.env) :: starEach es X.env := by rfl) : XL X W (e :: es) (tCons te tr) (mlCons me ms) := ⟨pa_cons ha.p hr.p hs, jl_cons ha.v hr.v⟩
theorem k_one (h1 : XS X W st t m) : XPr X W [st] t m := ⟨fun rest w hr => pss_cons h1.p hr, h1.v⟩
theorem k_cons (h1 : XS X W st t m) (h2 : XPr X W ss u n) : XPr X W (st :: ss) (tSeq t u) (mSeq m n) := ⟨fun rest w hr => (show PSs X (st :: (ss ++ rest)) (tSeq t (tSeq u w)) from pss_cons h1.p (h2.p rest w hr)), es_seq h1.v h2.v⟩
theorem o_part {K : Fg} {i : Nat} (k : Nat) {j : Nat} (ha : XE X W a (tVar i) ma) (hs : PlainIx (.Constant (.int (k : Nat)) j p3) := by exact fun _ _ => rfl) (hK : X.K = K := by rfl) : XO X W (.Subscript a (.Constant (.int (k : Nat)) j p3) pos) (tOp (rIx K) (tVar i) (tC (.int (k : Nat)))) (mPart i k) := by
  subst hK
  exact ⟨pe_ix ix_seq ha.p pe_int hs, eo_part⟩
theorem t_neB {K : Fg} {k i : Nat} (hr : Room k X.A) (ha : XE X W a (tVar i) ma) (hb : XO X W b tb ob) (hK : X.K = K := by rfl) : XT X W (.Compare a [.NotEq] [b] pos) (tTest (tOp (rNeD K) (tVar i) tb)) (mTest (mB i neD ob)) := by
  subst hK
  exact ⟨pt_cmpR (op_neD hr.units) ha.p hb.p (nomark _), et_test (ev_cmpB prim_ne neD_bl hb.v)⟩
end
end DL

set_option Elab.async false
set_option linter.all false
set_option maxRecDepth 100000
set_option maxHeartbeats 400000
/-! DLzw: == by a class's own def, of an instance and plain data. -/
namespace DL
open PySem L2
def plainP : D → Bool
  | .int _ => true
  | .str _ => true
  | .tup _ => true
  | _ => false
def eqP (C : Addr) (g : List D → Option D) (d e : D) : Option D := match d with
  | .ins C1 ns ds => if C1 = C ∧ plainP e = true then (match g [.ins C1 ns ds, e] with
    | some (.bl b) => some (.bl b)
    | _ => none) else none
  | _ => none
theorem eqP_some {C : Addr} {g : List D → Option D} {d e z : D} (h : eqP C g d e = some z) : ∃ ns ds b, d = .ins C ns ds ∧ plainP e = true ∧ g [d, e] = some (.bl b) ∧ z = .bl b := by
  cases d with
  | ins C1 ns ds =>
    simp only [eqP] at h
    by_cases hc : C1 = C ∧ plainP e = true
    rotate_left
    · rw [if_neg hc] at h; cases h
    rw [if_pos hc] at h
    obtain ⟨rfl, hp⟩ := hc
    have h2 := h
    split at h2
    · rename_i b q
      cases h2
      exact ⟨ns, ds, b, rfl, hp, q, rfl⟩
    · cases h2
  | _ => cases h
def TyP (K : Fg) (y : V) (H : Hp) : Prop := match y with
  | .int _ => True
  | .str _ => True
  | .ref p => ∃ xs, SqT K H p xs
  | _ => False
def rOwnP (K : Fg) (C : Addr) (S : Sp) : R2 := fun x y H Q => ∃ a dx fs, x = .ref a ∧ H a = some (.ins C dx fs) ∧ TyP K y H ∧ S [x, y] H (fun v H' => (∃ c, v = .bl c) ∧ Q v H') E0
theorem prim_ownP {K : Fg} {C : Addr} {g : List D → Option D} : Prim2 K (rOwnP K C (SpP K [.bo, .bo] g)) (eqP C g) := by
  intro F H v w d e z fh hv hw hf Q k
  obtain ⟨ns, ds, b, rfl, hp, hg, rfl⟩ := eqP_some hf
  obtain ⟨a, dx, vs, e1, h1, _⟩ := Rep.ins_iff.mp (hv.full fh)
  have ty : TyP K w H := by
    cases e with
    | int i => rw [hw.int]; exact trivial
    | str x => rw [Rep.str_iff.mp (hw.full fh)]; exact trivial
    | tup es =>
      obtain ⟨a', us, e2, h2, _⟩ := Rep.tup_iff.mp (hw.full fh)
      rw [e2]
      exact ⟨us, h2.sq⟩
    | _ => cases hp
  refine ⟨a, dx, _, e1, h1, ty, ?_⟩
  have ge : ∀ (i : Nat) s, ([Sl.bo (.ins C ns ds), Sl.bo e] : En)[i]? = some s → ∃ u d', ([some v, some w] : St)[i]? = some (some u) ∧ s = .bo d' ∧ RepR K F H u d' := fun i s q => by
    match i, q with
    | 0, q => cases q; exact ⟨v, _, rfl, rfl, hv⟩
    | 1, q => cases q; exact ⟨w, _, rfl, rfl, hw⟩
    | i + 2, q => cases q
  have St1 : StOk { K := K, P := H, B := H, F0 := F, bt := fun _ => 0, W := fun _ _ _ _ => False } (fun _ => 0) F H [some v, some w] [.bo (.ins C ns ds), .bo e] := by
    refine ⟨fh, Same.refl _, Same.refl _, Same.refl _, fun b o q => Or.inl q, rfl, fun i d q => ?_, fun i d q => ?_, fun i s d q r => ?_, fun i d q => ?_, fun i j s t d e q1 q2 r1 r2 => ?_, fun i ns q => ?_, fun i ns q => ?_, fun _ _ q => by cases q⟩
    · obtain ⟨u, d', g1, g2, g3⟩ := ge i _ q; cases g2
    · obtain ⟨u, d', g1, g2, g3⟩ := ge i _ q; cases g2; exact ⟨u, g1, g3⟩
    · obtain ⟨u, d', g1, g2, g3⟩ := ge i _ q; rw [g2] at r; cases r
    · obtain ⟨u, d', g1, g2, g3⟩ := ge i _ q; cases g2
    · obtain ⟨u, d', g1, g2, g3⟩ := ge i _ q1; rw [g2] at r1; cases r1
    · obtain ⟨u, d', g1, g2, g3⟩ := ge i _ q; cases g2
    · obtain ⟨u, d', g1, g2, g3⟩ := ge i _ q; cases g2
  refine ⟨_, _, [.ins C ns ds, e], .ok (.bl b) [], rfl, rfl, rfl, St1, by show (g _).map _ = _; rw [hg]; rfl, fun d δ' e3 al' F' H' σ' u s' S' ru => ?_, fun x δ' e3 => by cases e3⟩
  cases e3
  exact ⟨⟨b, Rep.bl_iff.mp ru⟩, k F' H' u ⟨s', S'.fh, S'.ph, S'.fp⟩ ru⟩
theorem notFirst_ty {K : Fg} {C : Addr} : PySem.W.notFirst K C (.type "int") = true ∧ PySem.W.notFirst K C (.type "str") = true ∧ PySem.W.notFirst K C (.type "tuple") = true := by
  have key : ∀ T : String, (∃ l : List Value, fastBuiltinMro T = some l ∧ ∀ v ∈ l, ∃ U : String, v = .type U) → PySem.W.notFirst K C (.type T) = true := by
    rintro T ⟨l, e, h⟩
    unfold PySem.W.notFirst PySem.W.subIn
    simp only [e]
    have : l.contains (Value.ref C) = false := by
      cases z : l.contains (Value.ref C) with
      | false => rfl
      | true =>
        rw [List.contains_iff_mem] at z
        obtain ⟨U, w⟩ := h _ z
        cases w
    have nm : ¬ Value.ref C ∈ l := fun z => by
      obtain ⟨U, w⟩ := h _ z
      cases w
    simp [nm]
  refine ⟨key _ ⟨[.type "int", .type "object"], rfl, ?_⟩, key _ ⟨[.type "str", .type "object"], rfl, ?_⟩, key _ ⟨[.type "tuple", .type "object"], rfl, ?_⟩⟩ <;>
  · intro v hv
    simp only [List.mem_cons, List.not_mem_nil, or_false] at hv
    rcases hv with rfl | rfl <;> exact ⟨_, rfl⟩
section
variable {X : Cx} {n m : Nat} {C f : Addr} {fd : FuncData} {ps : List Str} {S : Sp}
theorem op_ownP (F : FnOk X.prog X.w X.K X.mg X.base CX0 n f fd ps S) (hr : Room n X.A) (hs : PySem.W.findIn X.K (.ref C) "__eq__" = some (some (.ref f))) (hf : PySem.W.isFn X.K (.ref f) = true) (hb : Binds X.K fd ps []) : OpR X (compareOp .Eq) (rOwnP X.K C S) := by
  intro pins s σ H x y u v Q I rx ry h
  obtain ⟨a, dx, fs, rfl, ha, hy, hsp⟩ := h
  cases rx
  obtain ⟨mA, J, _⟩ := ins_get I.hok ha
  obtain ⟨od, J, _⟩ := J.look
  obtain ⟨m, hF⟩ := I.fr
  have hl := F.len _ _ _ _ hsp
  have r2 : Vals [V.ref a, y] [Value.ref a, v] := .cons rfl (.cons ry .nil)
  have go : wpAny (model X.prog X.w) X.A (call (.ref f) [.ref a, v]) (PySem.W.CmpBack (EP X pins σ Q)) X.xe s := by
    refine wpAny_call (codeAny_mono (F.run X.A X.stack s H ⟨[.ref a, v], []⟩ [.ref a, v] [.ref a, y] _ E0 hr I.env0 (by
      have := hb s [.ref a, v] I.kIn (by simpa using hl)
      simpa using this) r2 hsp) fun r s' hq => ?_)
    cases r with
    | error e => exact pass0 pins σ H s e s' I hq
    | ok fl =>
      cases fl with
      | ret w =>
        obtain ⟨z, H', I', rz, ⟨c, ez⟩, ex⟩ := I.after hq
        subst ez
        cases rz
        exact ⟨.bl c, H', I', rfl, ex⟩
      | next => exact False.elim hq
      | brk => exact False.elim hq
      | cont => exact False.elim hq
  show wpAny (model X.prog X.w) X.A (richCompare .Eq (.ref a) v) (EP X pins σ Q) X.xe s
  cases y with
  | int i =>
    obtain ⟨t, rfl⟩ := ry
    exact PySem.W.cmp_K (op := .Eq) (tb := .type "int") hr.units0 hF I.ok.mod.kin J (PySem.W.Looks.of_pure (by kernel_rfl)) notFirst_ty.1 hs hf go
  | str z =>
    obtain ⟨t, rfl⟩ := ry
    exact PySem.W.cmp_K (op := .Eq) (tb := .type "str") hr.units0 hF I.ok.mod.kin J (PySem.W.Looks.of_pure rfl) notFirst_ty.2.1 hs hf go
  | ref p =>
    cases ry
    obtain ⟨xs, hx⟩ := hy
    obtain ⟨o, ho, hc⟩ : ∃ o, s.heap.get? p = some o ∧ o.cls = .type "tuple" := by
      rcases hx with hx | ⟨o, its, n, h1, h2, _⟩
      · obtain ⟨_, its, rv, o, h1, h2, _⟩ := (show ObjOk X.prog X.w H s.heap p (.tup xs) from hx.ok I.hok)
        exact ⟨o, h1, h2⟩
      · exact ⟨o, I.kIn _ _ h1, h2⟩
    exact PySem.W.cmp_K (op := .Eq) (tb := .type "tuple") hr.units0 hF I.ok.mod.kin J (fun A Q E s k q => wpAny_typeOf_ref (k _ _ ho) (by rw [hc]; exact q)) notFirst_ty.2.2 hs hf go
  | _ => exact hy.elim
end
section
variable {X : Cx} {W : WX} {a b : Expr} {ta tb : TE} {oa ob : M Op} {pos : Pos}
theorem x_eqP {K : Fg} {k j : Nat} {C : Addr} {g : List D → Option D} (h : EqO X.prog X.w X.K X.mg X.base C k g) (hr : Room j X.A) (ha : XO X W a ta oa) (hb : XO X W b tb ob) (hkj : k ≤ j := by decide) (hK : X.K = K := by rfl) : XE X W (.Compare a [.Eq] [b] pos) (tOp (rOwnP K C (SpP K [.bo, .bo] g)) ta tb) (m2 (eqP C g) oa ob) := by
  subst hK
  obtain ⟨f, fd, ps, h1, h2, h3, h4⟩ := h.ex
  exact ⟨pe_cmpR (op_ownP h4 (hr.mono hkj) h1 h2 h3) ha.p hb.p (nomark _), ev_2 prim_ownP ha.v hb.v⟩
end
end DL

set_option Elab.async false
set_option linter.all false
set_option maxRecDepth 100000
set_option maxHeartbeats 400000
/-! DLzx: errors of own classes with a field: made, raised. -/
namespace DL
open PySem L2
/-- what K says of the class whose __init__ is called by name -/
structure EeK (K : Fg) (C : Addr) : Prop where
  hg : PySem.W.specialIn K (.ref C) "__getattribute__" = some (some (.builtin "type.__getattribute__"))
  hm : PySem.W.typeIn K (.ref C) = some (.type "type")
  hr : PySem.W.readsIn K C (.type "type") = true
  he : PySem.W.findCls K (.ref C) (.type "type") "__init__" = some (.val (.builtin "ValueError.__init__"))
section
variable {X : Cx} {o e : Expr} {es : List Expr} {to te : TE} {ta : TA} {f x : Str} {p p' p1 p2 pos : Pos} {C : Addr}
theorem pe_eeinit {pl : Sem Bool} (k : EeK X.K C) (hg : Gl X x) (hm : X.mg x = some (.ref C)) (ha : PA X (e :: es) ta) (hdb : (x == ("__debug__" : Str)) = false := by decide)
    (hc : eval (.Call (.Attribute (.Name x p1) "__init__" p2) (e :: es) [] pos) X.env = (do
      let ov ← eval (.Name x p1) X.env
      standAt p2.atName
      let (f, first) ← holding [ov] (getMethod ov "__init__" pl)
      callWith pos f first (backTo pos (starEach (e :: es) X.env)) (backToKw pos (keywordEach [] X.env))) := by rfl)
    (he : starEach (e :: es) X.env = (false, eval e X.env) :: starEach es X.env := by rfl) (hpl : (backTo pos (starEach es X.env)).any (·.1) = false := by rfl) :
    PE X (.Call (.Attribute (.Name x p1) "__init__" p2) (e :: es) [] pos) (tVeI X.K ta) := by
  refine ⟨fun pins s σ H Q I h => ?_⟩
  refine PySem.W.methodCall_KW (ld_glob I hg hm ?_ hdb) hc
  obtain ⟨m, fr⟩ := I.fr
  refine PySem.W.method_of_cls fr I.ok.mod.kin k.hg (PySem.W.cls_val fr I.ok.mod.kin k.hm k.hr k.he (by decide +kernel) ?_)
  show wpAny _ _ (callWith pos (Value.builtin "ValueError.__init__") [] (backTo pos (starEach (e :: es) X.env)) []) _ _ _
  refine PyProof.Rows.callWith_method1 (thn (ha.run pos pins _ σ H _ (I.tok _) h) fun us s1 ⟨vs, H1, I1, r1, a, C, ws, ev, hl, T, ea, q⟩ => ?_) he hpl
  subst ev
  cases r1 with
  | @cons _ u0 _ ur ra rw' =>
    obtain rfl : u0 = Value.ref a := ra
    have hlen : ur.length ≤ sizeLine := by
      rw [← Paired.length rw', sizeLine_eq]
      omega
    exact oinit_ok T I1 ea hlen fun s' J => ⟨.non, H1, J, rfl, q⟩
end
/-- what such a class's own __init__ promises: EndError.__init__(self, ".."); self.f = x -/
def SpE (K : Fg) (f : Str) : Sp := fun vs H Q _ => ∃ (a C : Addr) (y : V), vs = [.ref a, y] ∧ OexC K C ∧ PySem.W.findIn K (.ref C) f = some none ∧ H a = some (exo a C none) ∧
  ∀ dx, H dx = none → dx ≠ a → Q .non (upd (upd H dx (exd dx [(f, y)])) a (exo a C (some dx)))
section
variable {P : Program} {w : World} {K : Fg} {mg : Str → Option Value} {base : Heap}
theorem fn_e {qual : Str} {st : Stmt} {f : Addr} {fd : FuncData} {N ps : List Str} {fld m : Str} (F : Fun K "__init__" qual st f fd) (S : FnScope N ps (defScope st)) (hps : ps.length = 2)
    (hb : ∀ (cdv : Value) (A : Around) (outer : List Env) (s : Shared) (H : Hp) (E : XK), PSs (cxOf CX0 P w K mg base N qual (defScope st) f cdv A outer s H E).nox (defBody st) (tSeq (tDrop (tVeI K (tCons (tVar 0) (tCons (tC (.str m)) tNil)))) (tOst K fld (tVar 0) (tVar 1)))) :
    FnOk P w K mg base CX0 1 f fd ps (SpE K fld) := by
  refine F.ok S (fun vs H Q E h => ?_) (fun cdv A outer s H vs Q E hr h => ?_)
  · obtain ⟨a, C, y, rfl, _⟩ := h
    rw [hps]; rfl
  · refine ⟨_, hb cdv A outer s H E, ?_⟩
    obtain ⟨a, C, y, rfl, T, hn, ha, q⟩ := h
    have g0 : (start N [V.ref a, y])[0]? = some (some (.ref a)) := rfl
    have g1 : (start N [V.ref a, y])[1]? = some (some y) := rfl
    refine ⟨.ref a, g0, a, C, [.str m], rfl, (show 1 ≤ 1000 from by decide), T, ha, ?_⟩
    refine ⟨y, g1, .ref a, g0, a, C, rfl, T, hn, Or.inl ⟨ha, fun dx h1 h2 => ?_⟩⟩
    exact q dx h1 h2
end
/-! ### raised -/
def mRaiseF (C : Addr) (fld : Str) (tg : Nat) (m : M D) : Ms := mS m fun d δ => some (.ex ⟨C, [fld], [d], tg⟩ δ)
theorem made_heap {H1 : Hp} {a dx C : Addr} {fld : Str} {y : V} (ha : H1 a = none) (ne : dx ≠ a) : upd (del (upd (upd (upd H1 a (exo a C none)) dx (exd dx [(fld, y)])) a (exo a C (some dx))) a) dx (.xd [(fld, y)]) = upd H1 dx (.xd [(fld, y)]) := by
  funext b
  by_cases h : b = dx
  · rw [h, upd_same, upd_same]
  · rw [upd_ne h, upd_ne h]
    by_cases h2 : b = a
    · rw [h2, del_same, ha]
    · rw [del_ne h2, upd_ne h2, upd_ne h, upd_ne h2]
theorem es_raiseF {K : Fg} {W : WX} {C : Addr} {fld : Str} {tg : Nat} {te : TE} {m : M D} (T : OexC K C) (hn : PySem.W.findIn K (.ref C) fld = some none) (hm : Ev K W te m) :
    Es K W (fun _ σ H => tMkO C (SpE K fld) [] (tCons te tNil) σ H fun cls d H' => W cls d σ H') (mRaiseF C fld tg m) := by
  have g : Es K W (fun Z σ H => te σ H fun v H1 => (fun (v : V) (_ : Ends) (σ : St) (H1 : Hp) => ([v] : List V).length ≤ 1000 ∧ ∀ a, H1 a = none → SpE K fld (.ref a :: ([v] ++ [])) (upd H1 a (exo a C none))
      (fun u H2 => u = .non ∧ ∃ (d : Addr) (fs : List (Str × V)), H2 a = some (exo a C (some d)) ∧ H2 d = some (exd d fs) ∧ H1 d = none ∧ W (.ref C) (some d) σ (upd (del H2 a) d (.xd fs))) (fun _ _ _ => False)) v Z σ H1) (mRaiseF C fld tg m) := by
    refine es_of hm fun d v Cn hK hW al F H σ δ S rl o ho Z hZ => ?_
    cases ho
    subst hK
    refine ⟨(show 1 ≤ 1000 from by decide), fun a ha => ⟨a, C, v, rfl, T, hn, upd_same, fun dx h1 h2 => ?_⟩⟩
    have hx : H dx = none := by rw [upd_ne h2] at h1; exact h1
    refine ⟨rfl, dx, [(fld, v)], upd_same, by rw [upd_ne h2]; exact upd_same, hx, ?_⟩
    rw [made_heap ha h2]
    have n : New F H F (upd H dx (.xd [(fld, v)])) := New.put S.fh hx
    have rd : Rep Cn.K F d v := rl
    rw [← hW]
    exact hZ al F _ σ (.ref C) (some dx) (Same.refl _) (S.new n) ⟨rfl, Or.inr ⟨dx, [v], rfl, upd_same, by simp, rfl, reps_cons rd reps_nil, S.fh.free hx⟩⟩
  exact g
/-- what is known of such a class -/
structure ExF (P : Program) (w : World) (K : Fg) (mg : Str → Option Value) (base : Heap) (C : Addr) (fld : Str) : Prop where
  T : OexC K C
  hn : PySem.W.findIn K (.ref C) fld = some none
  ex : ∃ f fd ps, PySem.W.findIn K (.ref C) "__init__" = some (some (.ref f)) ∧ PySem.W.typeIn K (.ref f) = some (.type "function") ∧ Binds K fd ps [] ∧ FnOk P w K mg base CX0 1 f fd ps (SpE K fld)
section
variable {X : Cx} {W : WX} {e : Expr} {te : TE} {m : M D} {x fld : Str} {C : Addr} {tg : Nat} {p pos pos' : Pos}
theorem s_raiseF (c : ExF X.prog X.w X.K X.mg X.base C fld) {k : Nat} (hr : Room k X.A) (hk : 2 ≤ k) (gC : X.mg x = some (.ref C)) (tk : Takes X W) (he : XE X W e te m) (hc : X.calm = true := by rfl) (hg : Gl X x := by rfl) (hdb : (x == ("__debug__" : Str)) = false := by decide)
    (hs : starEach [e] X.env = (false, eval e X.env) :: starEach [] X.env := by rfl) (hpl : (backTo pos' (starEach [] X.env)).any (·.1) = false := by rfl) :
    XS X W (.Raise (some (.Call (.Name x p) [e] [] pos')) none pos) (fun _ σ H => tMkO C (SpE X.K fld) [] (tCons te tNil) σ H fun cls d H' => W cls d σ H') (mRaiseF C fld tg m) := by
  obtain ⟨f, fd, ps, h1, h2, h3, h4⟩ := c.ex
  exact ⟨ps_raise hc tk (pmk_oex c.T h1 h2 h4 (hr.mono hk) h3 .nil pass0 hg gC (pa_cons he.p pa_nil hs) hdb hs hpl), es_raiseF c.T c.hn he.v⟩
end
end DL

set_option Elab.async false
set_option linter.all false
set_option maxRecDepth 100000
set_option maxHeartbeats 400000
/-! DLzy: classes whose __init__ may raise. -/
namespace DL
open PySem L2
def tMakeS (C : Addr) (sp : Sp) (W : WX) (t : TA) : TE := fun σ H Q => t σ H fun vs H1 => ∀ x dx, H1 x = none → H1 dx = none → dx ≠ x → sp (.ref x :: (vs ++ [])) (upd (upd H1 dx (.own x)) x (.ins C dx [])) (fun v H2 => v = .non ∧ Q (.ref x) H2) (WE W σ)
section
variable {K : Fg} {W : WX}
theorem en_makeS {C : Addr} {ks : List PK} {f : List D → Option (R D)} {a : M (List Op)} {ta : TA} (ha : Ea K W ta a) : En1 K W (tMakeS C (SpD K (.io :: ks) f) W ta) (mMake C ks f a) := by
  refine J.bindN (t2 := fun (vs : List V) (σ : St) (H : Hp) (Q : VK) => ∀ x dx, H x = none → H dx = none → dx ≠ x → SpD K (.io :: ks) f (.ref x :: (vs ++ [])) (upd (upd H dx (.own x)) x (.ins C dx [])) (fun v H2 => v = .non ∧ Q (.ref x) H2) (WE W σ)) ha monoT fun os vs => ?_
  intro Cn hK hWC al F H σ δ S hp r hr Q hok hex x dx hx hdx hne
  subst hK
  obtain ⟨ds, h1, hr⟩ := rds_bind hr
  by_cases hf : frOk ks os = true
  · simp only [hf, if_true] at hr
    have hrel : relA Cn.K F σ vs os := hp.2
    have lk := frOk_len hf
    have lv : vs.length = os.length := hrel.length
    have ld := rds_len h1
    -- the heap with the new object, as one more slot
    have n1 : New F H F (upd H dx (.own x)) := New.put S.fh hdx
    have hx2 : (upd H dx (.own x)) x = none := by rw [upd_ne (Ne.symm hne)]; exact hx
    have n2 : New F (upd H dx (.own x)) F (upd (upd H dx (.own x)) x (.ins C dx [])) := New.put n1.fh hx2
    have S2 := (S.new n1).new n2
    have hF : F x = none := S.fh.free hx
    have hPx : Cn.P x = none := S.ph.free hx
    have hO : ∀ (j : Nat) s e, δ[j]? = some s → Sl.own s = some e → al j ≠ x := fun j s e q r z => by
      obtain ⟨_, _, _, h4⟩ := S.ow j s e q r
      obtain ⟨u, hu⟩ := h4.there
      rw [z, hx] at hu
      cases hu
    have S3 : StOk Cn (fun j => if j = δ.length then x else al j) F (upd (upd H dx (.own x)) x (.ins C dx [])) (σ ++ [some (.ref x)]) (δ ++ [.ow (.ins C [] [])]) := by
      have gl : ∀ (j : Nat) s, (δ ++ [Sl.ow (.ins C [] [])])[j]? = some s → (j < δ.length ∧ δ[j]? = some s) ∨ (j = δ.length ∧ s = .ow (.ins C [] [])) := fun j s q => by
        by_cases z : j < δ.length
        · rw [List.getElem?_append_left z] at q
          exact Or.inl ⟨z, q⟩
        · rw [List.getElem?_append_right (by omega)] at q
          have : j - δ.length = 0 := by
            cases w : j - δ.length with
            | zero => rfl
            | succ m => rw [w] at q; simp at q
          rw [this] at q
          exact Or.inr ⟨by omega, by simpa using q.symm⟩
      have sl : ∀ (j : Nat), j < δ.length → (σ ++ [some (V.ref x)])[j]? = σ[j]? := fun j z => List.getElem?_append_left (by rw [S.len]; exact z)
      refine ⟨S2.fh, S2.ph, S2.bp, S2.f0, S2.fp, by simp [S.len], fun j d q => ?_, fun j d q => ?_, fun j s d q r => ?_, fun j d q => ?_, fun j k s t d e q1 q2 r1 r2 r3 => ?_, fun j ns q => ?_, fun j es q => ?_, S2.qp⟩
      · rcases gl j _ q with ⟨z1, z2⟩ | ⟨z1, z2⟩
        · rw [sl j z1]; exact S2.fr j d z2
        · cases z2
      · rcases gl j _ q with ⟨z1, z2⟩ | ⟨z1, z2⟩
        · rw [sl j z1]; exact S2.bo j d z2
        · cases z2
      · rcases gl j _ q with ⟨z1, z2⟩ | ⟨z1, z2⟩
        · rw [sl j z1, if_neg (by omega)]; exact S2.ow j s d z2 r
        · subst z2
          cases r
          rw [if_pos z1, z1]
          refine ⟨?_, hF, hPx, dx, [], upd_same, rfl, reps_nil⟩
          rw [List.getElem?_append_right (by rw [S.len]; exact Nat.le_refl _), S.len]
          simp
      · rcases gl j _ q with ⟨z1, z2⟩ | ⟨z1, z2⟩
        · rw [if_neg (by omega)]; exact S2.io j d z2
        · cases z2
      · rcases gl j _ q1 with ⟨z1, z2⟩ | ⟨z1, z2⟩
        · rcases gl k _ q2 with ⟨y1, y2⟩ | ⟨y1, y2⟩
          · rw [if_neg (by omega), if_neg (by omega)] at r3
            exact S2.inj j k s t d e z2 y2 r1 r2 r3
          · rw [if_neg (by omega), if_pos y1] at r3
            exact absurd r3 (hO j s d z2 r1)
        · rcases gl k _ q2 with ⟨y1, y2⟩ | ⟨y1, y2⟩
          · rw [if_pos z1, if_neg (by omega)] at r3
            exact absurd r3.symm (hO k t e y2 r2)
          · rw [z1, y1]
      · rcases gl j _ q with ⟨z1, z2⟩ | ⟨z1, z2⟩
        · rw [sl j z1]; exact S2.sc j ns z2
        · cases z2
      · rcases gl j _ q with ⟨z1, z2⟩ | ⟨z1, z2⟩
        · rw [sl j z1]; exact S2.b2 j es z2
        · cases z2
    have hi : (δ ++ [Sl.ow (.ins C [] [])])[δ.length]? = some (.ow (.ins C [] [])) := by simp
    have oLt : ∀ o ∈ os, ∀ j, opIx o = some j → j < δ.length := fun o hj j ej => by
      obtain ⟨k, hk⟩ := List.mem_iff_getElem?.mp hj
      obtain ⟨d, _, h3⟩ := rds_get h1 hk
      cases o with
      | val z => cases ej
      | slot i =>
        cases ej
        simp only [rd] at h3
        cases e : δ[j]? with
        | none => rw [e] at h3; cases h3
        | some s => exact (List.getElem?_eq_some_iff.mp e).1
      | part i k =>
        cases ej
        simp only [rd] at h3
        cases e : δ[j]? with
        | none => rw [e] at h3; cases h3
        | some s => exact (List.getElem?_eq_some_iff.mp e).1
    have hap : apart δ.length os = true := by
      have : ∀ os : List Op, (∀ o ∈ os, ∀ j, opIx o = some j → j < δ.length) → apart δ.length os = true := by
        intro os
        induction os with
        | nil => intro _; rfl
        | cons o os ih =>
          intro h
          cases o with
          | val d => exact ih fun o hj => h o (by simp [hj])
          | slot j =>
            simp only [apart, Bool.and_eq_true, bne_iff_ne]
            exact ⟨Nat.ne_of_lt (h (.slot j) (by simp) j rfl), ih fun o hj => h o (by simp [hj])⟩
          | part j k =>
            simp only [apart, Bool.and_eq_true, bne_iff_ne]
            exact ⟨Nat.ne_of_lt (h (.part j k) (by simp) j rfl), ih fun o hj => h o (by simp [hj])⟩
      exact this os oLt
    have hrel2 : relA Cn.K F (σ ++ [some (.ref x)]) vs os := by
      have : ∀ (vs : List V) (os : List Op), (∀ o ∈ os, ∀ j, opIx o = some j → j < δ.length) → relA Cn.K F σ vs os → relA Cn.K F (σ ++ [some (.ref x)]) vs os := by
        intro vs os hlt hr
        induction hr with
        | nil => exact .nil
        | @cons v o vs os r t ih =>
          refine .cons ?_ (ih fun o hj => hlt o (by simp [hj]))
          cases o with
          | val d => exact r
          | slot j =>
            show (σ ++ [some (V.ref x)])[j]? = some (some v)
            rw [List.getElem?_append_left (by rw [S.len]; exact hlt (.slot j) (by simp) j rfl)]
            exact r
          | part j k =>
            obtain ⟨p, ws, r1, r2, r3⟩ := r
            refine ⟨p, ws, ?_, r2, r3⟩
            rw [List.getElem?_append_left (by rw [S.len]; exact hlt (.part j k) (by simp) j rfl)]
            exact r1
      exact this vs os oLt hrel
    have h12 : rds os (δ ++ [.ow (.ins C [] [])]) = some ds := by
      have : ∀ (os : List Op) (ds : List D), (∀ o ∈ os, ∀ j, opIx o = some j → j < δ.length) → rds os δ = some ds → rds os (δ ++ [.ow (.ins C [] [])]) = some ds := by
        intro os
        induction os with
        | nil => intro ds _ h; exact h
        | cons o os ih =>
          intro ds hlt h
          simp only [rds] at h ⊢
          cases e1 : rd o δ with
          | none => simp only [e1] at h; cases h
          | some d =>
            cases e2 : rds os δ with
            | none => simp only [e1, e2] at h; cases h
            | some ds' =>
              simp only [e1, e2] at h
              have e3 : rd o (δ ++ [.ow (.ins C [] [])]) = some d := by
                cases o with
                | val z => exact e1
                | slot j =>
                  simp only [rd] at e1 ⊢
                  rw [List.getElem?_append_left (hlt (.slot j) (by simp) j rfl)]
                  exact e1
                | part j k =>
                  simp only [rd] at e1 ⊢
                  rw [List.getElem?_append_left (hlt (.part j k) (by simp) j rfl)]
                  exact e1
              rw [e3, ih ds' (fun o hj => hlt o (by simp [hj])) e2]
              exact h
      exact this os ds oLt h1
    have St1 := S3.enter (i := δ.length) hi rfl hf hap hrel2 h12
    simp only [if_true] at St1
    cases e3 : f (.ins C [] [] :: ds) with
    | none => simp only [e3] at hr; cases hr
    | some q =>
      refine ⟨{ K := Cn.K, P := fun a => if a = x then none else upd (upd H dx (HO.own x)) x (HO.ins C dx []) a, B := fun a => if a = x then none else upd (upd H dx (HO.own x)) x (HO.ins C dx []) a, F0 := F, bt := fun _ => x, W := Cn.W }, fun _ => x, .ins C [] [] :: ds, q, rfl, by rw [List.append_nil]; simp; omega, by simp; omega, (by rw [List.append_nil]; exact St1), e3, fun d δ2 e4 al' F' H' σ' v s' S' rv => ?_, fun xx δ2 e4 al' F' H' σ' cls dd s' S' xr => ?_⟩
      · subst e4
        simp only [e3] at hr
        cases d with
        | non =>
          simp only at hr
          cases e5 : δ2[(0 : Nat)]? with
          | none => simp only [e5] at hr; cases hr
          | some s0 =>
            cases s0 with
            | io e =>
              cases e with
              | ins C' ns es =>
                simp only [e5] at hr
                cases hr
                refine ⟨Rep.non_iff.mp rv, ?_⟩
                obtain ⟨y1, y2, y3, y4⟩ := S'.ow 0 _ _ e5 rfl
                have e0 : al' 0 = x := S'.io 0 _ e5
                rw [e0] at y2 y3 y4
                have nw : ∀ a o, H a = some o → H' a = some o := fun a o q => by
                  have na : a ≠ x := ne_of_none q hx
                  have nd : a ≠ dx := ne_of_none q hdx
                  refine S'.ph a o ?_
                  simp only [na, if_false]
                  rw [upd_ne na, upd_ne nd]
                  exact q
                have nf : ∀ a o, F' a = some o → F a = some o ∨ H a = none := fun a o q => by
                  rcases S'.fp a o q with z | z
                  · exact Or.inl z
                  · by_cases w : a = x
                    · rw [w]; exact Or.inr hx
                    · have z' : (if a = x then none else (upd (upd H dx (.own x)) x (.ins C dx [])) a) = none := z
                      rw [if_neg w, upd_ne w] at z'
                      by_cases w2 : a = dx
                      · rw [w2]; exact Or.inr hdx
                      · rw [upd_ne w2] at z'; exact Or.inr z'
                exact hok _ δ rfl al F' H' x S'.f0 (S.new ⟨S'.f0, S'.fh, nw, nf⟩) y2 hPx hO y4
              | _ => simp only [e5] at hr; cases hr
            | _ => simp only [e5] at hr; cases hr
        | _ => simp only at hr; cases hr
      · subst e4
        simp only [e3] at hr
        cases hr
        have nw : ∀ a o, H a = some o → H' a = some o := fun a o q => by
          have na : a ≠ x := ne_of_none q hx
          have nd : a ≠ dx := ne_of_none q hdx
          refine S'.ph a o ?_
          simp only [na, if_false]
          rw [upd_ne na, upd_ne nd]
          exact q
        have nf : ∀ a o, F' a = some o → F a = some o ∨ H a = none := fun a o q => by
          rcases S'.fp a o q with z | z
          · exact Or.inl z
          · by_cases w : a = x
            · rw [w]; exact Or.inr hx
            · have z' : (if a = x then none else (upd (upd H dx (.own x)) x (.ins C dx [])) a) = none := z
              rw [if_neg w, upd_ne w] at z'
              by_cases w2 : a = dx
              · rw [w2]; exact Or.inr hdx
              · rw [upd_ne w2] at z'; exact Or.inr z'
        exact hex xx δ rfl al F' H' cls dd S'.f0 (S.new ⟨S'.f0, S'.fh, nw, nf⟩) xr
  · simp only [hf] at hr
    cases hr
end
/-- an __init__ that changes self, and may raise -/
def defIX (n : Nat) (ks : List PK) (m : Ms) : List D → Option (R D) := fun ds => match m (startE n (entry (.io :: ks) ds)) with
  | some (.nx δ) => (io0 δ).map fun e => R.ok .non [.io e]
  | some (.ex x _) => some (.ex x [])
  | _ => none
section
variable {P : Program} {w : World} {K : Fg} {mg : Str → Option Value} {base : Heap}
theorem fn_ix {x qual : Str} {st : Stmt} {f : Addr} {fd : FuncData} {N ps : List Str} {k : Nat} {ks : List PK} {m : Ms} (F : Fun K x qual st f fd) (S : FnScope N ps (defScope st)) (hks : ks.length + 1 = ps.length)
    (hb : ∀ (cdv : Value) (A : Around) (outer : List Env) (s : Shared) (H : Hp) (E : XK), Room k (A.deeper (PyProof.Rows.envOfC qual (defScope st) s.heap.objs.size f cdv)) → Takes (cxOf (L2.CX P w) P w K mg base N qual (defScope st) f cdv A outer s H E) (WD E) →
      ∃ t, XB (cxOf (L2.CX P w) P w K mg base N qual (defScope st) f cdv A outer s H E) (WD E) (defBody st) t m) :
    FnOk P w K mg base (L2.CX P w) (k + 1) f fd ps (SpD K (.io :: ks) (defIX N.length ks m)) := by
  refine F.okX S (fun vs H Q E h => ?_) (fun cdv A outer s H vs Q E hr h => ?_)
  · obtain ⟨C, al, ds, r, _, h1, _⟩ := h
    rw [h1, ← hks]
    rfl
  · obtain ⟨t, B⟩ := hb cdv A outer s H E hr (takes_of rfl rfl rfl rfl)
    refine ⟨t, B.p, ?_⟩
    obtain ⟨C, al, ds, r, hK, h1, h2, S0, hf, hok, hex⟩ := h
    subst hK
    have S1 := (S0.wish (WD E) (short_entry _ _)).begin (N := N)
    unfold defIX at hf
    cases e : m (startE N.length (entry (.io :: ks) ds)) with
    | none => rw [e] at hf; cases hf
    | some o =>
      refine B.v { C with W := WD E } rfl rfl al C.F0 H _ _ S1 o e _ ?_
      rw [e] at hf
      cases o with
      | nx δ =>
        cases e2 : io0 δ with
        | none => simp only [e2] at hf; cases hf
        | some c =>
          simp only [e2] at hf
          cases hf
          exact fun al' F' H' σ' s' S' => hok _ _ rfl al' F' H' _ .non s' (by have S3 := S'.take 1; rw [io0_some e2] at S3; exact S3.unwish short_io) (Rep.non_iff.mpr rfl)
      | rt d δ => cases hf
      | rn d δ => cases hf
      | bk δ => cases hf
      | ct δ => cases hf
      | ex x δ => cases hf; exact fun al' F' H' σ' cls dd s' S' xr => hex x _ rfl al' F' H' _ cls dd s' ((S'.take 0).unwish short_nil) xr
end
structure MakeX (P : Program) (w : World) (K : Fg) (mg : Str → Option Value) (base : Heap) (x : Str) (C : Addr) (k : Nat) (ps : List Str) (ks : List PK) (g : List D → Option (R D)) : Prop where
  ex : ∃ f fd, mg x = some (.ref C) ∧ Mk K C f ∧ Binds K fd ps [] ∧ FnOk P w K mg base (L2.CX P w) k f fd ps (SpD K (.io :: ks) g)
section
variable {X : Cx} {W : WX} {e : Expr} {es : List Expr} {pos p2 : Pos}
/-- an instance is made, errors told by the frame's slots -/
theorem run_makeS {CX : CXT} {C f : Addr} {k : Nat} {fd : FuncData} {ps : List Str} {sp : Sp} {E : XK} {pins : List (Addr × Obj)} {σ : St} {H : Hp} {s : Shared} {Q : VK} {us : List Value} {vs : List V} (M : Mk X.K C f) (F : FnOk X.prog X.w X.K X.mg X.base CX k f fd ps sp) (hr : Room (k + 1) X.A) (hb : Binds X.K fd ps [])
    (hx : PassesAt CX X σ E) (I : Inv X pins σ H s) (r : Vals vs us)
    (h : ∀ x dx, H x = none → H dx = none → dx ≠ x → sp (.ref x :: (vs ++ [])) (upd (upd H dx (.own x)) x (.ins C dx [])) (fun v H2 => v = .non ∧ Q (.ref x) H2) E) :
    wpAny (model X.prog X.w) X.A (call (.ref C) us) (L2.EP X pins σ Q) X.xe s := by
  have hq := h (s.heap.objs.size + 1) s.heap.objs.size (I.hok.fresh (Nat.le_succ _)) (I.hok.fresh (Nat.le_refl _)) (Nat.ne_of_lt (Nat.lt_succ_self _))
  have I2 := Inv.made (C := C) I
  have r2 : Vals (V.ref (s.heap.objs.size + 1) :: (vs ++ [])) (Value.ref (s.heap.objs.size + 1) :: (us ++ [])) := .cons rfl (r.append .nil)
  have hl : (Value.ref (s.heap.objs.size + 1) :: us ++ []).length = ps.length := by
    have e := r2.length
    rw [F.len _ _ _ _ hq] at e
    exact e.symm
  refine wpAny_call (make_map (f := f) I.kIn M.makes M.init (beq_iff_eq.mp M.fn) (codeAny_mono (F.run _ X.stack _ _ ⟨Value.ref (s.heap.objs.size + 1) :: us, []⟩ (Value.ref (s.heap.objs.size + 1) :: (us ++ [])) _ _ E (hr.make C us [])
    (I2.env0.make C us []) (by have z := hb _ (Value.ref (s.heap.objs.size + 1) :: us) I2.kIn hl; rw [List.cons_append] at z; exact z) r2 hq) fun r s' hq' => ?_))
  cases r with
  | error e => exact hx pins _ _ e s' I2 hq'
  | ok fl =>
    cases fl with
    | ret u =>
      obtain ⟨v, H', I3, rv, ev, q3⟩ := I2.after hq'
      subst ev
      exact ⟨rv, ⟨V.ref (s.heap.objs.size + 1), H', I3, rfl, q3⟩⟩
    | next => exact False.elim hq'
    | brk => exact False.elim hq'
    | cont => exact False.elim hq'
theorem pe_makeS {CX : CXT} {x : Str} {C f : Addr} {k : Nat} {fd : FuncData} {ps : List Str} {sp : Sp} {t : TA} {p : Pos} (M : Mk X.K C f) (F : FnOk X.prog X.w X.K X.mg X.base CX k f fd ps sp) (hr : Room (k + 1) X.A) (hg : Gl X x) (hm : X.mg x = some (.ref C)) (hb : Binds X.K fd ps []) (hx : ∀ σ, PassesAt CX X σ (WE W σ))
    (ha : PA X (e :: es) t) (hdb : (x == ("__debug__" : Str)) = false := by decide) (he : starEach (e :: es) X.env = (false, eval e X.env) :: starEach es X.env := by rfl) (hpl : (backTo pos (starEach es X.env)).any (·.1) = false := by rfl) :
    PE X (.Call (.Name x p) (e :: es) [] pos) (tMakeS C sp W t) := by
  refine ⟨fun pins s σ H Q I h => ?_⟩
  refine wpAny_Call_Name_kw (ld_glob I hg hm ?_ hdb)
  refine PySem.W.callWith_K (h₀ := X.base) I.ok.mod.kin M.kp (thn (ha.run pos pins s σ H _ I h) fun us s1 ⟨vs, H1, I1, r, q⟩ => ⟨I1.kIn, ?_⟩) he hpl
  exact run_makeS M F hr hb (hx σ) I1 r q
theorem n_mkx {K : Fg} {x : Str} {C : Addr} {ps : List Str} {k j : Nat} {ks : List PK} {g : List D → Option (R D)} {t : TA} {m : M (List Op)} (c : MakeX X.prog X.w X.K X.mg X.base x C k ps ks g) (hr : Room j X.A) (tk : Takes X W) (h : XA X W (e :: es) t m) (hkj : k + 1 ≤ j := by decide) (hg : Gl X x := by rfl)
    (hdb : (x == ("__debug__" : Str)) = false := by decide) (hs : starEach (e :: es) X.env = (false, eval e X.env) :: starEach es X.env := by rfl) (hpl : (backTo pos (starEach es X.env)).any (·.1) = false := by rfl) (hK : X.K = K := by rfl) :
    XN X W (.Call (.Name x p2) (e :: es) [] pos) (tMakeS C (SpD K (.io :: ks) g) W t) (mMake C ks g m) := by
  subst hK
  obtain ⟨f, fd, h1, h2, h3, h4⟩ := c.ex
  exact ⟨pe_makeS h2 h4 (hr.mono hkj) hg h1 h3 (fun σ => passAt tk σ) h.p hdb hs hpl, en_makeS h.v⟩
end
section
variable {P : Program} {w : World} {K : Fg} {mg : Str → Option Value} {base h : Heap}
theorem makeX_of {x qual : Str} {C f : Addr} {st : Stmt} {k : Nat} {ps : List Str} {ks : List PK} {g : List D → Option (R D)} (c : ClsK K x C) (d : MetK K C "__init__" qual st f) (X : K.In h) (G : h.Ns mainGlobals mg) (hb : ∀ {f : Addr} {fd : FuncData}, Fun K "__init__" qual st f fd → Binds K fd ps [])
    (hf : ∀ {f : Addr} {fd : FuncData}, Fun K "__init__" qual st f fd → FnOk P w K mg base (L2.CX P w) k f fd ps (SpD K (.io :: ks) g)) : MakeX P w K mg base x C k ps ks g := by
  obtain ⟨fd, h1, h2, h3, h4⟩ := d.ex
  exact ⟨f, fd, PySem.W.mg_of X G c.a, ⟨c.mks, h1, h2, c.kc⟩, hb h3, hf h3⟩
end
end DL

set_option Elab.async false
set_option linter.all false
set_option maxRecDepth 100000
set_option maxHeartbeats 400000
/-! DLzz: in a suite that holds an error with a field: its field, its class. -/
namespace DL
open PySem L2
theorem wf_inj {a b dd d2 : Addr} {f g : Str} {y z : V} (h : WF a dd f y = WF b d2 g z) : a = b ∧ dd = d2 ∧ f = g ∧ y = z := by
  have h2 := congrFun (congrFun (congrFun (congrFun h (.ref a)) (some dd)) []) (fun _ => some (HO.xd [(f, y)]))
  have h4 : WF b d2 g z (Value.ref a) (some dd) [] fun _ => some (HO.xd [(f, y)]) := by
    rw [← h2]
    exact ⟨rfl, rfl, rfl, rfl⟩
  obtain ⟨e1, e2, _, e4⟩ := h4
  have e5 := congrFun e4 0
  have e6 := HO.xd.inj (Option.some.inj e5)
  simp only [List.cons.injEq, Prod.mk.injEq, and_true] at e6
  exact ⟨Value.ref.inj e1, Option.some.inj e2, e6.1, e6.2⟩
theorem heldF {C : Cn} {al : Nat → Addr} {F H : Hp} {σ : St} {δ : En} {i : Nat} {a dd : Addr} {fld : Str} {y : V} {ns : List Int} (S : StOk C al F H σ δ) (hW : C.W = WF a dd fld y) (h : δ[i]? = some (.sc ns)) (hl : 1000000 < ns.length) :
    σ[i]? = some (some (.ref a)) ∧ H dd = some (.xd [(fld, y)]) := by
  obtain ⟨a', h1, h2⟩ := S.sc i ns h
  rcases (h2.resolve_left fun z => absurd z.1 (by omega)).2 with h3 | ⟨d2, f2, y2, h3, h4⟩
  · rw [hW] at h3
    exact (wa_wf h3.symm).elim
  · rw [hW] at h3
    obtain ⟨rfl, rfl, rfl, rfl⟩ := wf_inj h3
    exact ⟨h1, S.ph _ _ (S.qp _ _ h4)⟩
/-- e.f -/
def mFldE (i : Nat) (d : D) : M D := fun δ => match δ[i]? with
  | some (.sc ns) => if 1000000 < ns.length then some (.ok d δ) else none
  | _ => none
theorem mIsE_some {i : Nat} {b : Bool} {δ : En} {r : R D} (h : mIsE i b δ = some r) : ∃ ns, δ[i]? = some (.sc ns) ∧ 1000000 < ns.length ∧ r = .ok (.bl b) δ := by
  unfold mIsE at h
  cases e : δ[i]? with
  | none => simp only [e] at h; cases h
  | some s =>
    cases s with
    | sc ns =>
      simp only [e] at h
      obtain ⟨hl, rfl⟩ := if_some h
      exact ⟨ns, rfl, hl, rfl⟩
    | _ => simp only [e] at h; cases h
theorem mFldE_some {i : Nat} {d : D} {δ : En} {r : R D} (h : mFldE i d δ = some r) : ∃ ns, δ[i]? = some (.sc ns) ∧ 1000000 < ns.length ∧ r = .ok d δ := by
  unfold mFldE at h
  cases e : δ[i]? with
  | none => simp only [e] at h; cases h
  | some s =>
    cases s with
    | sc ns =>
      simp only [e] at h
      obtain ⟨hl, rfl⟩ := if_some h
      exact ⟨ns, rfl, hl, rfl⟩
    | _ => simp only [e] at h; cases h
/-! ### its class -/
section
variable {X : Cx} {a D0 dd : Addr} {oe : Obj} {pn : List (Addr × Obj)}
theorem inst_xd {pins : List (Addr × Obj)} {σ : St} {H : Hp} {s : Shared} {fs : List (Str × V)} (I : Inv (X.suite a ((a, oe) :: pn)) pins σ H s) (hz : Zc (.ref D0) (some dd) oe) (hf : ∃ vs, oe.data = .fields vs) (ea : H dd = some (.xd fs)) : ∃ od, PySem.W.InstAt s.heap a oe D0 (some od) := by
  obtain ⟨ha, _⟩ := I.pin (a, oe) (List.mem_append_left _ List.mem_cons_self)
  obtain ⟨vs, hd⟩ := hf
  have hx : ObjOk X.prog X.w H s.heap dd (.xd fs) := I.hok dd _ ea
  obtain ⟨mA, hns, hr⟩ := hx
  obtain ⟨od, ho, hl⟩ := lookIn_ns hns
  exact ⟨od, ha, hz.1, by unfold PySem.W.notCls; rw [hd] <;> rfl, by rw [hz.2]; exact ho⟩
def rIsF (K : Fg) (D a dd : Addr) : List V → Hp → VK → Prop := fun xs H Q => (∃ fs, H dd = some (.xd fs)) ∧ rIsE K D a xs H Q
def rIsFT (K : Fg) (D a dd : Addr) : List V → Hp → VK → Prop := fun xs H Q => (∃ fs, H dd = some (.xd fs)) ∧ rIsET K D a xs H Q
theorem exc_cls {K : Fg} {D : Addr} (C : ExcC K D) : (PySem.W.clsIn K D).isSome = true := by
  obtain ⟨cd, hc, _⟩ := PySem.W.any_some C.hd
  rw [hc]; rfl
theorem call_isF (C : ExcC X.K D0) (hz : Zc (.ref D0) (some dd) oe) (hf : ∃ vs, oe.data = .fields vs) : CallR (X.suite a ((a, oe) :: pn)) (.builtin "isinstance") (rIsF X.K D0 a dd) := by
  intro pins s σ H xs us Q I r h
  obtain ⟨⟨fs, ea⟩, c, cv, b, rfl, hcv, e, q⟩ := h
  obtain ⟨u1, u2, rfl, r1, r2⟩ := vals2 r
  cases (show u1 = Value.ref a from r1)
  have ec := hcv _ r2
  subst ec
  obtain ⟨od, J⟩ := inst_xd I hz hf ea
  exact PySem.W.kia_one (PySem.W.kitx_exc (exc_cls C) C.hg C.hk C.hs C.ha C.hn C.ht C.hm) I.kIn J e (fun z => nomatch z) fun tk => ⟨.bl b, H, I.kept (t' := tk) fun _ _ z => z, rfl, q⟩
theorem call_isFT (C : ExcC X.K D0) (hz : Zc (.ref D0) (some dd) oe) (hf : ∃ vs, oe.data = .fields vs) : CallR (X.suite a ((a, oe) :: pn)) (.builtin "isinstance") (rIsFT X.K D0 a dd) := by
  intro pins s σ H xs us Q I r h
  obtain ⟨⟨fs, ea⟩, tp, cs, ws, b, rfl, hT, k, e, q⟩ := h
  obtain ⟨u1, u2, rfl, r1, r2⟩ := vals2 r
  cases (show u1 = Value.ref a from r1)
  cases (show u2 = Value.ref tp from r2)
  obtain ⟨od, J⟩ := inst_xd I hz hf ea
  obtain ⟨_, its, rv, o, h1, h2, n, h3⟩ := (show ObjOk X.prog X.w H s.heap tp (.tup cs) from I.hok tp _ hT)
  have e3 := ClsV.all k rv
  subst e3
  obtain ⟨oc, od', dt, sl⟩ := o
  simp only at h2 h3
  subst h2 h3
  exact PySem.W.kia_tup (PySem.W.kitx_exc (exc_cls C) C.hg C.hk C.hs C.ha C.hn C.ht C.hm) I.kIn J h1 e (fun z => nomatch z) fun tk => ⟨.bl b, H, I.tok tk, rfl, q⟩
end
section
variable {K : Fg} {i : Nat} {a dd D0 : Addr} {fld : Str} {y : V} {b : Bool}
theorem ev_isF {c : V} {cv : Value} (hcv : ∀ u, RelV c u → u = cv) (hk : PySem.W.kitOne K (.ref D0) cv = some b) : Ev K (WF a dd fld y) (tCB (rIsF K D0 a dd) (tCons (tVar i) (tCons (tC c) tNil))) (mIsE i b) := by
  intro C hK hW al F H σ δ S _ r hr Q hok hex
  obtain ⟨ns, h1, h2, rfl⟩ := mIsE_some hr
  obtain ⟨g1, g2⟩ := heldF S hW h1 h2
  exact ⟨.ref a, g1, ⟨_, g2⟩, c, cv, b, rfl, hcv, hk, hok _ δ rfl al F H _ (Same.refl _) S (Rep.bl_iff.mpr rfl)⟩
theorem ev_isFT {Cs : List Addr} (hl : Cs.length ≤ 100) (hk : PySem.W.kitAny K (.ref D0) (Cs.map Value.ref) = some b) : Ev K (WF a dd fld y) (tCB (rIsFT K D0 a dd) (tCons (tVar i) (tCons (tTup (tCls Cs)) tNil))) (mIsE i b) := by
  intro C hK hW al F H σ δ S _ r hr Q hok hex
  obtain ⟨ns, h1, h2, rfl⟩ := mIsE_some hr
  obtain ⟨g1, g2⟩ := heldF S hW h1 h2
  refine ⟨.ref a, g1, ?_⟩
  refine tCls_q (Q := fun xs H1 => xs.length ≤ sizeLine ∧ ∀ p, H1 p = none → _) ⟨by rw [List.length_map, sizeLine_eq]; omega, fun p hp => ?_⟩
  have n : New F H F (upd H p (.tup (Cs.map V.ref))) := New.put S.fh hp
  exact ⟨⟨_, by rw [upd_ne (ne_of_none g2 hp)]; exact g2⟩, p, Cs.map V.ref, Cs.map Value.ref, b, rfl, upd_same, clsv_all Cs, hk, hok _ δ rfl al F _ _ (Same.refl _) (S.new n) (Rep.bl_iff.mpr rfl)⟩
theorem ev_fldE {d : D} (hd : ∀ F, Rep K F d y) : Ev K (WF a dd fld y) (tXf a (.ref D0) (some dd) D0 fld (tVar i)) (mFldE i d) := by
  intro C hK hW al F H σ δ S _ r hr Q hok hex
  obtain ⟨ns, h1, h2, rfl⟩ := mFldE_some hr
  obtain ⟨g1, g2⟩ := heldF S hW h1 h2
  exact ⟨.ref a, g1, rfl, rfl, dd, _, y, rfl, g2, by simp [List.lookup], hok _ δ rfl al F H _ (Same.refl _) S (hd F)⟩
end
section
variable {X : Cx} {a D0 dd : Addr} {oe : Obj} {pn : List (Addr × Obj)} {i : Nat} {b : Bool} {e yy fld : Str} {y : V} {C : Addr} {p3 p4 p5 pos : Pos} {m0 : M D}
theorem x_fldE {d : D} (T : XfC X.K D0) (hno : PySem.W.findIn X.K (.ref D0) fld = some none) (hd : ∀ F, Rep X.K F d y) (hz : Zc (.ref D0) (some dd) oe) (hf : ∃ vs, oe.data = .fields vs) (he : XE (X.suite a ((a, oe) :: pn)) (WF a dd fld y) (.Name e p4) (tVar i) m0)
    (hb : attributeBase (.Name e p4) fld X.env (eval (.Name e p4) X.env) = eval (.Name e p4) X.env := by rfl) : XE (X.suite a ((a, oe) :: pn)) (WF a dd fld y) (.Attribute (.Name e p4) fld pos) (tXf a (.ref D0) (some dd) D0 fld (tVar i)) (mFldE i d) :=
  ⟨pe_xf T hno hz hf he.p hb, ev_fldE hd⟩
theorem x_isFc (c : ExcC X.K D0) (hz : Zc (.ref D0) (some dd) oe) (hf : ∃ vs, oe.data = .fields vs) (hk : PySem.W.kitOne X.K (.ref D0) (.ref C) = some b) (hm : X.mg "isinstance" = none) (hmT : X.mg yy = some (.ref C)) (he : XE (X.suite a ((a, oe) :: pn)) (WF a dd fld y) (.Name e p4) (tVar i) m0)
    (hg : Gl X "isinstance" := by rfl) (hgT : Gl X yy := by rfl) (hdT : (yy == ("__debug__" : Str)) = false := by decide) : XE (X.suite a ((a, oe) :: pn)) (WF a dd fld y) (.Call (.Name "isinstance" p3) [.Name e p4, .Name yy p5] [] pos) (tCB (rIsF X.K D0 a dd) (tCons (tVar i) (tCons (tC (.ref C)) tNil))) (mIsE i b) :=
  ⟨pe_callB (call_isF c hz hf) hg hm (by decide +kernel) (pa_cons he.p (pa_cons (pe_glob hgT hmT rfl hdT) pa_nil rfl) rfl) (by decide) (by decide) rfl rfl, ev_isF (fun u h => h) hk⟩
theorem x_isFt {es : List Expr} {Cs : List Addr} {x1 : Nat} (c : ExcC X.K D0) (hz : Zc (.ref D0) (some dd) oe) (hf : ∃ vs, oe.data = .fields vs) (hl : Cs.length ≤ 100) (hk : PySem.W.kitAny X.K (.ref D0) (Cs.map Value.ref) = some b) (hm : X.mg "isinstance" = none) (ht : PA (X.suite a ((a, oe) :: pn)) es (tCls Cs)) (he : XE (X.suite a ((a, oe) :: pn)) (WF a dd fld y) (.Name e p4) (tVar i) m0)
    (hg : Gl X "isinstance" := by rfl) : XE (X.suite a ((a, oe) :: pn)) (WF a dd fld y) (.Call (.Name "isinstance" p3) [.Name e p4, .Tuple es x1 p5] [] pos) (tCB (rIsFT X.K D0 a dd) (tCons (tVar i) (tCons (tTup (tCls Cs)) tNil))) (mIsE i b) :=
  ⟨pe_callB (call_isFT c hz hf) hg hm (by decide +kernel) (pa_cons he.p (pa_cons (pe_tup ht) pa_nil rfl) rfl) (by decide) (by decide) rfl rfl, ev_isFT hl hk⟩
end
end DL

set_option Elab.async false
set_option linter.all false
set_option maxRecDepth 100000
set_option maxHeartbeats 400000
/-! DLzzA: try with clauses, the errors having one plain field. -/
namespace DL
open PySem L2
/-- plain values -/
def plV : D → Option V
  | .str x => some (.str x)
  | .int i => some (.int i)
  | .bl b => some (.bl b)
  | .non => some .non
  | _ => none
theorem plV_rep {K : Fg} {d : D} {y : V} (h : plV d = some y) : ∀ F, Rep K F d y := fun F => by
  cases d with
  | str x => cases h; exact Rep.str_iff.mpr rfl
  | int i => cases h; exact Rep.int_iff.mpr rfl
  | bl b => cases h; exact Rep.bl_iff.mpr rfl
  | non => cases h; exact Rep.non_iff.mpr rfl
  | _ => cases h
theorem rep_plV {K : Fg} {F : Hp} {d : D} {y z : V} (h : plV d = some y) (r : Rep K F d z) : z = y := by
  cases d with
  | str x => cases h; exact Rep.str_iff.mp r
  | int i => cases h; exact Rep.int_iff.mp r
  | bl b => cases h; exact Rep.bl_iff.mp r
  | non => cases h; exact Rep.non_iff.mp r
  | _ => cases h
/-- the context of the suite -/
def CF (C : Cn) (a dd : Addr) (fld : Str) (y : V) : Cn := { C with W := WF a dd fld y, P := fun b => if b = dd then some (.xd [(fld, y)]) else C.P b, Q := fun b => if b = dd then some (.xd [(fld, y)]) else C.Q b }
section
variable {C : Cn} {al : Nat → Addr} {F H : Hp} {σ : St} {δ : En} {a dd : Addr} {fld : Str} {y : V}
theorem same_at {P H : Hp} {dd : Addr} {o : HO} (h : Same P H) (e : H dd = some o) : Same P (fun b => if b = dd then some o else P b) := fun b u q => by
  by_cases z : b = dd
  · subst z
    have := h _ _ q
    rw [e] at this
    rw [← this]
    exact if_pos rfl
  · exact (if_neg z).trans q
/-- into the suite -/
theorem StOk.inF (S : StOk C al F H σ δ) (hs : Short δ) (e : H dd = some (.xd [(fld, y)])) (hF : F dd = none) : StOk (CF C a dd fld y) al F H σ δ := by
  have sP : Same C.P (CF C a dd fld y).P := same_at S.ph e
  have sQ : Same C.Q (CF C a dd fld y).Q := same_at (S.qp.trans S.ph) e
  refine ⟨S.fh, fun b u q => ?_, S.bp.trans sP, S.f0, fun b u q => ?_, S.len, S.fr, S.bo, fun j s d q r => ?_, S.io, S.inj, fun j ns q => ?_, fun j ds q => ?_, fun b u q => ?_⟩
  · have q : (if b = dd then some (HO.xd [(fld, y)]) else C.P b) = some u := q
    by_cases z : b = dd
    · rw [if_pos z] at q; rw [z, e]; exact q
    · rw [if_neg z] at q; exact S.ph b u q
  · have z : b ≠ dd := fun z => by rw [z, hF] at q; cases q
    rcases S.fp b u q with g | g
    · exact Or.inl g
    · exact Or.inr ((if_neg z).trans g)
  · obtain ⟨g1, g2, g3, g4⟩ := S.ow j s d q r
    have z : al j ≠ dd := fun z => repO_noxd g4 (by rw [z]; exact e)
    exact ⟨g1, g2, (if_neg z).trans g3, g4⟩
  · obtain ⟨b, h1, h2⟩ := S.sc j ns q
    exact ⟨b, h1, Or.inl (h2.resolve_right fun z => absurd z.1 (by have := hs j ns q; omega))⟩
  · obtain ⟨vs, h1, h2, h3⟩ := S.b2 j ds q
    exact ⟨vs, h1, h2, h3.mono sQ (Same.refl _)⟩
  · have q : (if b = dd then some (HO.xd [(fld, y)]) else C.Q b) = some u := q
    by_cases z : b = dd
    · rw [if_pos z] at q; exact (if_pos z).trans q
    · rw [if_neg z] at q; exact (if_neg z).trans (S.qp _ _ q)
/-- the suite's name -/
theorem StOk.holdF (S : StOk C al F H σ δ) (hs : Short δ) (i : Nat) (e : H dd = some (.xd [(fld, y)])) (hF : F dd = none) : StOk (CF C a dd fld y) al F H (σ.set i (some (.ref a))) (δ.set i (.sc xMark)) := by
  have T := S.inF (a := a) hs e hF
  have key : ∀ (j : Nat) s, (δ.set i (Sl.sc xMark))[j]? = some s → (j = i ∧ s = Sl.sc xMark ∧ i < δ.length) ∨ (j ≠ i ∧ δ[j]? = some s) := fun j s q => by
    by_cases z : j = i
    · subst z
      rw [List.getElem?_set_self'] at q
      cases e : δ[j]? with
      | none => rw [e] at q; cases q
      | some u =>
        rw [e] at q
        cases q
        exact Or.inl ⟨rfl, rfl, (List.getElem?_eq_some_iff.mp e).1⟩
    · rw [List.getElem?_set_ne (Ne.symm z)] at q
      exact Or.inr ⟨z, q⟩
  have sg : ∀ j, j ≠ i → (σ.set i (some (V.ref a)))[j]? = σ[j]? := fun j z => List.getElem?_set_ne (Ne.symm z)
  refine ⟨T.fh, T.ph, T.bp, T.f0, T.fp, by rw [List.length_set, List.length_set]; exact T.len, fun j e q => ?_, fun j e q => ?_, fun j s e q r => ?_, fun j e q => ?_, fun j k s t e f q1 q2 r1 r2 r3 => ?_, fun j ns q => ?_, fun j ds q => ?_, T.qp⟩
  · rcases key j _ q with ⟨_, z, _⟩ | ⟨n, q⟩
    · cases z
    · rw [sg j n]; exact T.fr j e q
  · rcases key j _ q with ⟨_, z, _⟩ | ⟨n, q⟩
    · cases z
    · rw [sg j n]; exact T.bo j e q
  · rcases key j _ q with ⟨_, z, _⟩ | ⟨n, q⟩
    · rw [z] at r; cases r
    · rw [sg j n]; exact T.ow j s e q r
  · rcases key j _ q with ⟨_, z, _⟩ | ⟨n, q⟩
    · cases z
    · exact T.io j e q
  · rcases key j _ q1 with ⟨_, z, _⟩ | ⟨n, q1⟩
    · rw [z] at r1; cases r1
    · rcases key k _ q2 with ⟨_, z, _⟩ | ⟨n2, q2⟩
      · rw [z] at r2; cases r2
      · exact T.inj j k s t e f q1 q2 r1 r2 r3
  · rcases key j _ q with ⟨rfl, z, l⟩ | ⟨n, q⟩
    · cases z
      exact ⟨a, List.getElem?_set_self (by rw [S.len]; exact l), Or.inr ⟨xMark_len, Or.inr ⟨dd, fld, y, rfl, if_pos rfl⟩⟩⟩
    · rw [sg j n]
      exact T.sc j ns q
  · rcases key j _ q with ⟨_, z, _⟩ | ⟨n, q⟩
    · cases z
    · rw [sg j n]; exact T.b2 j ds q
/-- out of the suite -/
theorem StOk.outF {al' : Nat → Addr} {F' H' : Hp} {σ' : St} {δ' : En} (S : StOk C al F H σ δ) (e : H dd = some (.xd [(fld, y)])) (S' : StOk (CF C a dd fld y) al' F' H' σ' δ') (hs : Short δ') (hn : noB2 δ' = true) : StOk C al' F' H' σ' δ' := by
  have sP : Same C.P (CF C a dd fld y).P := same_at S.ph e
  refine ⟨S'.fh, sP.trans S'.ph, S.bp, S'.f0, fun b u q => ?_, S'.len, S'.fr, S'.bo, fun j s d q r => ?_, S'.io, S'.inj, fun j ns q => ?_, fun j ds q => (noB2_get hn q).elim, S.qp⟩
  · rcases S'.fp b u q with g | g
    · exact Or.inl g
    · have g : (if b = dd then some (HO.xd [(fld, y)]) else C.P b) = none := g
      by_cases z : b = dd
      · rw [if_pos z] at g; cases g
      · rw [if_neg z] at g; exact Or.inr g
  · obtain ⟨g1, g2, g3, g4⟩ := S'.ow j s d q r
    have g3 : (if al' j = dd then some (HO.xd [(fld, y)]) else C.P (al' j)) = none := g3
    by_cases z : al' j = dd
    · rw [if_pos z] at g3; cases g3
    · rw [if_neg z] at g3; exact ⟨g1, g2, g3, g4⟩
  · obtain ⟨b, h1, h2⟩ := S'.sc j ns q
    exact ⟨b, h1, Or.inl (h2.resolve_right fun z => absurd z.1 (by have := hs j ns q; omega))⟩
end
end DL

set_option Elab.async false
set_option linter.all false
set_option maxRecDepth 100000
set_option maxHeartbeats 400000
/-! DLzzB: try with clauses, the errors having one plain field: the rule. -/
namespace DL
open PySem L2
abbrev ClF := List Nat × Option Nat × (Nat → D → Ms)
noncomputable def mClsF (δ : En) (tg : Nat) (d : D) : List ClF → Option Ou
  | [] => none
  | (ts, i, ms) :: r => if tg ∈ ts then (match ms tg d (clD i δ) with
    | none => none
    | some o => match ouSetO i o with
      | none => none
      | some o' => if shortB (ouE o') = true ∧ noB2 (ouE o') = true then some o' else none) else mClsF δ tg d r
noncomputable def mTryF (R : List Nat) (cx : Nat → Addr) (fld : Str) (cl : List ClF) (mb : Ms) : Ms := fun δ => if shortB δ = true then (match mb δ with
  | none => none
  | some (.ex x δ') => if shortB δ' = true ∧ x.tg ∈ R ∧ x.C = cx x.tg ∧ x.ns = [fld] then (match x.ds with
    | [d] => if (plV d).isSome = true then mClsF δ' x.tg d cl else none
    | _ => none) else none
  | some o => if shortB (ouE o) = true then some o else none) else none
section
variable {C : Cn} {al : Nat → Addr} {F H : Hp} {σ : St} {δ : En} {a dd : Addr} {fld : Str} {y : V}
theorem StOk.clF (S : StOk C al F H σ δ) (hs : Short δ) (i : Option Nat) (e : H dd = some (.xd [(fld, y)])) (hF : F dd = none) : StOk (CF C a dd fld y) al F H (clS i σ a) (DL.clD i δ) := by
  cases i with
  | none => exact S.inF hs e hF
  | some i => exact S.holdF hs i e hF
theorem endOk_clF {Z : Ends} {i : Option Nat} {o o' : Ou} (S : StOk C al F H σ δ) (e : H dd = some (.xd [(fld, y)])) (hZ : EndOk C F Z o') (h : ouSetO i o = some o') (hs : shortB (ouE o') = true) (hn : noB2 (ouE o') = true) : EndOk (CF C a dd fld y) F (clE i Z) o := by
  have hs := short_of hs
  have pn : ∀ p, (CF C a dd fld y).P p = none → C.P p = none := fun p g => by
    have g : (if p = dd then some (HO.xd [(fld, y)]) else C.P p) = none := g
    by_cases z : p = dd
    · rw [if_pos z] at g; cases g
    · rw [if_neg z] at g; exact g
  cases i with
  | none =>
    cases o with
    | ex _ _ => cases h
    | nx δ => cases h; exact fun al2 F2 H2 σ2 s2 S2 => hZ al2 F2 H2 _ s2 (S.outF e S2 hs hn)
    | bk δ => cases h; exact fun al2 F2 H2 σ2 s2 S2 => hZ al2 F2 H2 _ s2 (S.outF e S2 hs hn)
    | ct δ => cases h; exact fun al2 F2 H2 σ2 s2 S2 => hZ al2 F2 H2 _ s2 (S.outF e S2 hs hn)
    | rt d δ => cases h; exact fun al2 F2 H2 σ2 v s2 S2 rv => hZ al2 F2 H2 _ v s2 (S.outF e S2 hs hn) rv
    | rn d δ => cases h; exact fun al2 F2 H2 σ2 p s2 S2 n1 n2 ro => hZ al2 F2 H2 _ p s2 (S.outF e S2 hs hn) n1 (pn p n2) ro
  | some i =>
    cases o with
    | ex _ _ => cases h
    | nx δ => cases h; exact fun al2 F2 H2 σ2 s2 S2 => hZ al2 F2 H2 _ s2 (S.outF e (wiped1 S2 i) hs hn)
    | bk δ => cases h; exact fun al2 F2 H2 σ2 s2 S2 => hZ al2 F2 H2 _ s2 (S.outF e (wiped1 S2 i) hs hn)
    | ct δ => cases h; exact fun al2 F2 H2 σ2 s2 S2 => hZ al2 F2 H2 _ s2 (S.outF e (wiped1 S2 i) hs hn)
    | rt d δ => cases h; exact fun al2 F2 H2 σ2 v s2 S2 rv => hZ al2 F2 H2 _ v s2 (S.outF e (wiped0 S2 i) hs hn) rv
    | rn d δ => cases h; exact fun al2 F2 H2 σ2 p s2 S2 n1 n2 ro => hZ al2 F2 H2 _ p s2 (S.outF e (wiped0 S2 i) hs hn) n1 (pn p n2) ro
end
inductive XClF (X : Cx) (R : List Nat) (cx : Nat → Addr) (fld : Str) : List ExceptHandler → List ClF → Prop
  | nil : XClF X R cx fld [] []
  | cons {x : Str} {c : Value} {ts : List Nat} {b₀ : Stmt} {suite : List Stmt} {np pos' : Pos} {n : Option Str} {i : Option Nat} {ms : Nat → D → Ms} {hds : List ExceptHandler} {cl : List ClF} (hc : Names X x c)
      (hi : (n = none ∧ i = none) ∨ ∃ y j, n = some y ∧ i = some j ∧ X.N[j]? = some y ∧ X.env.kindOf y = some .local) (hx : ∀ tg ∈ R, PySem.W.exmOne X.K (.ref (cx tg)) c = some (decide (tg ∈ ts)))
      (hsu : ∀ tg ∈ R, tg ∈ ts → ∀ (d : D) (y : V), plV d = some y → ∀ (a dd : Addr) (oe : Obj) (pn : List (Addr × Obj)), Zc (.ref (cx tg)) (some dd) oe → (∃ vs, oe.data = .fields vs) → ∃ t, XB (X.suite a ((a, oe) :: pn)) (WF a dd fld y) (b₀ :: suite) t (ms tg d)) (r : XClF X R cx fld hds cl) :
      XClF X R cx fld (.ExceptHandler (some (.Name x np)) n (b₀ :: suite) pos' :: hds) ((ts, i, ms) :: cl)
theorem XClF.read {X : Cx} {R : List Nat} {cx : Nat → Addr} {fld : Str} {hds : List ExceptHandler} {cl : List ClF} (h : XClF X R cx fld hds cl) : ∃ l, Cls' X hds l ∧ ∀ (C : Cn), C.K = X.K → ∀ (al : Nat → Addr) (F H : Hp) (σ : St) (δ : En) (Z : Ends) (tg : Nat) (d : D) (y : V) (dd : Addr), StOk C al F H σ δ → Short δ → tg ∈ R → plV d = some y → H dd = some (.xd [(fld, y)]) → F dd = none →
    ∀ o, mClsF δ tg d cl = some o → EndOk C F Z o → wCl X.K W0 Z l (.ref (cx tg)) (some dd) σ H := by
  induction h with
  | nil => exact ⟨[], .nil, fun C hK al F H σ δ Z tg d y dd S hs hR hp e hF o ho => by cases ho⟩
  | @cons x c ts b₀ suite np pos' n i ms hds cl hc hi hx hsu r ih =>
    obtain ⟨l, hl, ih⟩ := ih
    refine ⟨(c, i, fun a cls d' Z σ H => ∃ (tg : Nat) (dd : Addr) (d : D) (y : V), cls = .ref (cx tg) ∧ d' = some dd ∧ tg ∈ R ∧ tg ∈ ts ∧ plV d = some y ∧ ∀ (h : tg ∈ R) (h2 : tg ∈ ts) (hp : plV d = some y) oe pn (hz : Zc (.ref (cx tg)) (some dd) oe) (hf : ∃ vs, oe.data = .fields vs), (hsu tg h h2 d y hp a dd oe pn hz hf).choose Z σ H) :: l, .cons hc hi (fun a oe cls d pn hz hf => ?_) hl, fun C hK al F H σ δ Z tg d y dd S hs hR hp e hF o ho hZ => ?_⟩
    · refine ⟨fun pins s σ H D I h => ?_⟩
      obtain ⟨tg, dd, d, y, rfl, rfl, hR, hT, hp, h⟩ := h
      exact (hsu tg hR hT d y hp a dd oe pn hz hf).choose_spec.p.run pins s σ H D I (h hR hT hp oe pn hz hf)
    · refine ⟨_, hx tg hR, fun hb a ha => ?_, fun hb => ?_⟩
      · have hT : tg ∈ ts := of_decide_eq_true hb
        refine ⟨tg, dd, d, y, rfl, rfl, hR, hT, hp, fun h h2 hp oe pn hz hf => ?_⟩
        unfold mClsF at ho
        rw [if_pos hT] at ho
        cases e2 : ms tg d (DL.clD i δ) with
        | none => rw [e2] at ho; cases ho
        | some o2 =>
          rw [e2] at ho
          refine (hsu tg h h2 d y hp a dd oe pn hz hf).choose_spec.v (CF C a dd fld y) hK rfl al F H _ _ (S.clF hs i e hF) o2 e2 _ ?_
          cases e3 : ouSetO i o2 with
          | none => simp only [e3] at ho; cases ho
          | some o3 =>
            simp only [e3] at ho
            obtain ⟨⟨h3, h5⟩, h4⟩ := if_some ho
            subst h4
            exact endOk_clF S e hZ e3 h3 h5
      · have hT : tg ∉ ts := of_decide_eq_false hb
        unfold mClsF at ho
        rw [if_neg hT] at ho
        exact ih C hK al F H σ δ Z tg d y dd S hs hR hp e hF o ho hZ
theorem s_tryF {X : Cx} {R : List Nat} {cx : Nat → Addr} {fld : Str} {body : List Stmt} {h₀ : ExceptHandler} {hds : List ExceptHandler} {cl : List ClF} {pos : Pos} {mb : Ms} (hN : X.N.Nodup)
    (hb : ∀ (W : WX) (pn : List (Addr × Obj)) (xe : Value → Shared → Prop), Takes (X.tr pn xe) W → ∃ t, XB (X.tr pn xe) W body t mb) (hh : XClF X R cx fld (h₀ :: hds) cl)
    (hs : X.stack = X.env :: X.outer := by rfl) (hf : X.env.frame = some X.env.locals := by rfl) :
    ∃ t, XS X W0 (.Try body (h₀ :: hds) [] [] pos) t (mTryF R cx fld cl mb) := by
  obtain ⟨l, hl, rd⟩ := hh.read
  refine ⟨_, ps_tryCl (Wout := W0) (tb := fun W Z σ H => ∀ pn xe (tk : Takes (X.tr pn xe) W), (hb W pn xe tk).choose Z σ H) hs hf hN takes0 (fun W pn xe tk _ => ?_) hl, ?_⟩
  · have B := (hb W pn xe tk).choose_spec
    exact ⟨fun pins s σ H D I h => B.p.run pins s σ H D I (h pn xe tk)⟩
  · intro C hK hW al F H σ δ S o ho Z hZ
    intro pn xe tk
    unfold mTryF at ho
    by_cases h0 : shortB δ = true
    · rw [if_pos h0] at ho
      cases e : mb δ with
      | none => rw [e] at ho; cases ho
      | some r =>
        rw [e] at ho
        have key : ∀ (Wb : WX) (tk : Takes (X.tr pn xe) Wb), EndOk { C with W := Wb } F Z r → (hb Wb pn xe tk).choose Z σ H := fun Wb tk h => (hb Wb pn xe tk).choose_spec.v { C with W := Wb } hK rfl al F H σ δ (S.wish Wb (short_of h0)) r e Z h
        refine key _ tk ?_
        cases r with
        | ex z δ1 =>
          replace ho : (if shortB δ1 = true ∧ z.tg ∈ R ∧ z.C = cx z.tg ∧ z.ns = [fld] then (match z.ds with
            | [d] => if (plV d).isSome = true then mClsF δ1 z.tg d cl else none
            | _ => none) else none) = some o := ho
          by_cases h1 : shortB δ1 = true ∧ z.tg ∈ R ∧ z.C = cx z.tg ∧ z.ns = [fld]
          · rw [if_pos h1] at ho
            obtain ⟨k1, k2, k3, k4⟩ := h1
            intro al1 F1 H1 σ1 cls dd s1 S1 xr
            obtain ⟨rfl, xr⟩ := xr
            rcases xr with ⟨g, _, _⟩ | ⟨d0, vs, rfl, g1, _, _, g4, g5⟩
            · rw [k4] at g; cases g
            · cases e5 : z.ds with
              | nil => rw [e5] at ho; cases ho
              | cons d r =>
                cases r with
                | cons d2 r => rw [e5] at ho; cases ho
                | nil =>
                  rw [e5] at ho g4
                  replace ho : (if (plV d).isSome = true then mClsF δ1 z.tg d cl else none) = some o := ho
                  by_cases h6 : (plV d).isSome = true
                  · rw [if_pos h6] at ho
                    obtain ⟨y, hy⟩ := Option.isSome_iff_exists.mp h6
                    obtain ⟨v, us, rfl, r1, r2⟩ := g4.inv
                    cases r2.inv0
                    have ev := rep_plV hy r1
                    subst ev
                    rw [k4] at g1
                    rw [k3]
                    exact rd C hK al1 F1 H1 σ1 δ1 Z z.tg d v d0 (S1.unwish (short_of k1)) (short_of k1) k2 hy g1 g5 o ho (hZ.mono s1)
                  · rw [if_neg h6] at ho; cases ho
          · rw [if_neg h1] at ho; cases ho
        | nx δ1 =>
          obtain ⟨h3, h4⟩ := if_some (show (if shortB δ1 = true then some (Ou.nx δ1) else none) = some o from ho)
          subst h4
          exact fun al2 F2 H2 σ2 s2 S2 => hZ al2 F2 H2 _ s2 (S2.unwish (short_of h3))
        | bk δ1 =>
          obtain ⟨h3, h4⟩ := if_some (show (if shortB δ1 = true then some (Ou.bk δ1) else none) = some o from ho)
          subst h4
          exact fun al2 F2 H2 σ2 s2 S2 => hZ al2 F2 H2 _ s2 (S2.unwish (short_of h3))
        | ct δ1 =>
          obtain ⟨h3, h4⟩ := if_some (show (if shortB δ1 = true then some (Ou.ct δ1) else none) = some o from ho)
          subst h4
          exact fun al2 F2 H2 σ2 s2 S2 => hZ al2 F2 H2 _ s2 (S2.unwish (short_of h3))
        | rt d δ1 =>
          obtain ⟨h3, h4⟩ := if_some (show (if shortB δ1 = true then some (Ou.rt d δ1) else none) = some o from ho)
          subst h4
          exact fun al2 F2 H2 σ2 v s2 S2 rv => hZ al2 F2 H2 _ v s2 (S2.unwish (short_of h3)) rv
        | rn d δ1 =>
          obtain ⟨h3, h4⟩ := if_some (show (if shortB δ1 = true then some (Ou.rn d δ1) else none) = some o from ho)
          subst h4
          exact fun al2 F2 H2 σ2 p s2 S2 => hZ al2 F2 H2 _ p s2 (S2.unwish (short_of h3))
    · rw [if_neg h0] at ho; cases ho
end DL

set_option Elab.async false
set_option linter.all false
set_option maxRecDepth 100000
set_option maxHeartbeats 400000
/-! DLzzC: what is known of a class of errors with a field, from decidable facts. -/
namespace DL
open PySem L2 PySem.W
theorem tail_refs : ∀ l : List Value, PySem.W.excTail PySem.HandSPX.veTail l = true → PySem.HandSPX.refsVE l = true
  | [], e => by
    rcases PySem.W.excTail_cases [] e with ⟨c, r, q, _⟩ | q
    · cases q
    · cases q
  | a :: r, e => by
    rcases PySem.W.excTail_cases (a :: r) e with ⟨c, r', q, h⟩ | q
    · obtain ⟨rfl, rfl⟩ := List.cons.inj q
      exact tail_refs r h
    · rw [q]; rfl
theorem oex_cls {K : Fg} {C : Addr} (q : PySem.W.excInitIn K C PySem.HandSPX.veTail "ValueError.__new__" = true) (hd : PySem.W.hasDictIn K C = true) :
    ∃ nm q N bs bm sn sub ab col dd k0 k1 k2 k3 k5, K.lookup C = some (excClassObj nm q C N bs bm true sn sub ab col dd k0 k1 k2 k3 k5 "ValueError.__new__") ∧ PySem.HandSPX.refsVE bm = true := by
  unfold PySem.W.excInitIn at q
  split at q
  · rename_i dd cd sl ho
    split at q
    · rename_i C' bm k0 k1 k2 k3 n k5 hm hs
      simp only [Bool.and_eq_true, beq_iff_eq, Bool.not_eq_true'] at q
      obtain ⟨⟨⟨rfl, rfl⟩, hdel⟩, ht⟩ := q
      obtain ⟨nm, bs, mro, ns, qn, hdc, sn, sub, ab, col, del⟩ := cd
      dsimp only at hm hdel
      subst hm hdel
      have hsl : sl = #[k0, k1, k2, k3, some (.builtin "ValueError.__new__"), k5] := by
        obtain ⟨l⟩ := sl
        exact congrArg Array.mk hs
      subst hsl
      have h2 : hdc = true := by
        unfold PySem.W.hasDictIn PySem.W.clsIn at hd
        rw [ho] at hd
        exact hd
      subst h2
      refine ⟨_, _, _, _, _, _, _, _, _, _, _, _, _, _, _, ho, ?_⟩
      exact tail_refs _ ht
    · cases q
  · cases q
end DL

set_option Elab.async false
set_option linter.all false
set_option maxRecDepth 100000
set_option maxHeartbeats 400000
/-! DLzzX: a def handed in as an argument, and its call by the parameter's name. -/
namespace DL
open PySem L2
section
variable {X : Cx} {W : WX} {e : Expr} {es : List Expr} {pos p2 : Pos}
end
end DL

set_option Elab.async false
set_option linter.all false
set_option maxRecDepth 100000
set_option maxHeartbeats 1000000
/-! DUa: defs that are called where no repr is under way (guards: none): their promise, their call, the law's end. -/
namespace DL
open PySem L2 PySem.Spec PyProof.Rows
abbrev NoG (A : Around) : Prop := A.guards = some []
/-- as FnOk, called where nothing is being shown -/
structure FnG (P : Program) (w : World) (K : Fg) (mg : Str → Option Value) (base : Heap) (CX : CXT) (k : Nat) (f : Addr) (fd : FuncData) (ps : List Str) (sp : Sp) : Prop where
  lenG : ∀ xs H Q E, sp xs H Q E → xs.length = ps.length
  runG : ∀ (A : Around), NoG A → ∀ (out : List Env) (s : Shared) (H : Hp) (ag : Args) (us : List Value) (xs : List V) (Q : VK) (E : XK), Room k A → Env0 P w K mg base A out s H → BindsTo s fd ag (ps.zip us) → Vals xs us → sp xs H Q E →
    codeAny (model P w) A (.call (.ref f) ag) (CR CX out P w H s Q E) s
theorem FnG.of {P : Program} {w : World} {K : Fg} {mg : Str → Option Value} {base : Heap} {CX : CXT} {k : Nat} {f : Addr} {fd : FuncData} {ps : List Str} {sp : Sp} (F : FnOk P w K mg base CX k f fd ps sp) : FnG P w K mg base CX k f fd ps sp :=
  ⟨F.len, fun A _ => F.run A⟩
section
variable {P : Program} {w : World} {K : Fg} {mg : Str → Option Value} {base : Heap} {k : Nat} {f : Addr}
end
section
variable {P : Program} {w : World} {K : Fg} {mg : Str → Option Value} {base : Heap}
end
/-! the call -/
section
variable {X : Cx} {CX : CXT} {k : Nat} {f : Addr} {fd : FuncData} {ps : List Str} {sp : Sp} {E : XK} {x : Str} {p pos : Pos} {e : Expr} {es : List Expr} {t : TA}
end
section
variable (P : Program) (w : World) (K : Fg) (mg : Str → Option Value) (base : Heap)
structure CallG (x : Str) (k : Nat) (ps : List Str) (ks : List PK) (g : List D → Option D) : Prop where
  ex : ∃ f fd, mg x = some (.ref f) ∧ PySem.W.keepIn K (.ref f) = true ∧ Binds K fd ps [] ∧ FnG P w K mg base CX0 k f fd ps (SpP K ks g)
end
section
variable {X : Cx} {W : WX} {e : Expr} {es : List Expr} {pos p2 : Pos}
end
section
variable {P : Program} {w : World} {K : Fg} {mg : Str → Option Value} {base h : Heap}
end
/-! the law's end -/
end DL

set_option Elab.async false
set_option linter.all false
set_option maxRecDepth 100000
set_option maxHeartbeats 1000000
/-! DUb: str(x), repr(x) of a list or a tuple, where nothing is being shown. -/
namespace DL
open PySem L2
section
variable {X : Cx}
variable {W : WX} {a : Expr} {ta : TE} {oa : M Op} {p2 pos : Pos}
end
end DL

set_option Elab.async false
set_option linter.all false
set_option maxRecDepth 100000
set_option maxHeartbeats 400000
/-! DLzzY: a list of new lists that a def hands back: looked at, then changed with its parts, then let go. -/
namespace DL
open PySem L2
/-! ### frozen things without lists that begin with a number -/
def hdI : List V → Bool
  | .int _ :: _ => true
  | _ => false
def hdD : List D → Bool
  | .int _ :: _ => true
  | _ => false
def fltF (F : Hp) : Hp := fun a => match F a with
  | some (.lst vs) => if hdI vs = true then none else some (.lst vs)
  | o => o
theorem flt_keep {F : Hp} {a : Addr} {o : HO} (h : F a = some o) (ho : ∀ vs, o = .lst vs → hdI vs = false) : fltF F a = some o := by
  unfold fltF
  rw [h]
  cases o with
  | lst vs =>
    have := ho vs rfl
    simp only [this]
    rfl
  | _ => rfl
mutual
def noI : D → Bool
  | .tup ds => noIs ds
  | .lst ds => !hdD ds && noIs ds
  | .ins _ _ ds => noIs ds
  | .dk _ ds => noIs ds
  | .dn _ ks ds => noIs ks && noIs ds
  | .non => true
  | .bl _ => true
  | .int _ => true
  | .str _ => true
  | .fn _ => true
def noIs : List D → Bool
  | [] => true
  | d :: ds => noI d && noIs ds
end
section
variable {K : Fg} {F : Hp}
theorem rep_int {d : D} {i : Int} (h : Rep K F d (.int i)) : d = .int i := by
  cases d with
  | non => cases Rep.non_iff.mp h
  | bl b => cases Rep.bl_iff.mp h
  | int j => cases Rep.int_iff.mp h; rfl
  | str x => cases Rep.str_iff.mp h
  | tup ds => obtain ⟨a, vs, e, _⟩ := Rep.tup_iff.mp h; cases e
  | lst ds => obtain ⟨a, vs, e, _⟩ := Rep.lst_iff.mp h; cases e
  | ins C ns ds => obtain ⟨a, dx, vs, e, _⟩ := Rep.ins_iff.mp h; cases e
  | dk ks ds => obtain ⟨a, vs, e, _⟩ := Rep.dk_iff.mp h; cases e
  | dn hs ks ds => obtain ⟨a, o, bs, vs, nks, e, _⟩ := Rep.dn_iff.mp h; cases e
  | fn f => cases Rep.fn_iff.mp h
theorem reps_hd {ds : List D} {vs : List V} (h : Reps K F ds vs) : hdI vs = hdD ds := by
  cases ds with
  | nil => rw [h.inv0]; rfl
  | cons d ds =>
    obtain ⟨v, us, rfl, h1, h2⟩ := h.inv
    cases v with
    | int i => rw [rep_int h1]; rfl
    | _ =>
      cases d with
      | int j => cases Rep.int_iff.mp h1
      | _ => rfl
theorem TupR.flt {a : Addr} {vs : List V} (h : TupR K F a vs) : TupR K (fltF F) a vs := by
  rcases h with ⟨o, h1, h2⟩ | h
  · exact Or.inl ⟨o, h1, flt_keep h2 fun vs e => by cases e⟩
  · exact Or.inr h
theorem rd_flt {a : Addr} {u : HO} (h : Rd F a u) (hu : ∀ vs, u = .lst vs → hdI vs = false) : Rd (fltF F) a u := by
  rcases h with h | ⟨o, h⟩
  · exact Or.inl (flt_keep h hu)
  · exact Or.inr ⟨o, flt_keep h fun vs e => by cases e⟩
mutual
theorem Rep.flt : ∀ {d : D} {v : V}, noI d = true → Rep K F d v → Rep K (fltF F) d v
  | .non, v, _, h => by simpa only [Rep] using h
  | .bl b, v, _, h => by simpa only [Rep] using h
  | .int i, v, _, h => by simpa only [Rep] using h
  | .str x, v, _, h => by simpa only [Rep] using h
  | .fn f, v, _, h => by simpa only [Rep] using h
  | .tup ds, v, n, h => by
    simp only [noI] at n
    obtain ⟨a, vs, h1, h2, h3, h4⟩ := Rep.tup_iff.mp h
    exact Rep.tup_iff.mpr ⟨a, vs, h1, h2.flt, h3, Reps.flt n h4⟩
  | .lst ds, v, n, h => by
    simp only [noI, Bool.and_eq_true, Bool.not_eq_true'] at n
    obtain ⟨a, vs, h1, h2, h3, h4⟩ := Rep.lst_iff.mp h
    exact Rep.lst_iff.mpr ⟨a, vs, h1, flt_keep h2 (fun us e => by cases e; rw [reps_hd h4]; exact n.1), h3, Reps.flt n.2 h4⟩
  | .ins C ns ds, v, n, h => by
    simp only [noI] at n
    obtain ⟨a, dx, vs, h1, h2, h3, h4⟩ := Rep.ins_iff.mp h
    exact Rep.ins_iff.mpr ⟨a, dx, vs, h1, flt_keep h2 (fun us e => by cases e), h3, Reps.flt n h4⟩
  | .dk ks ds, v, n, h => by
    simp only [noI] at n
    obtain ⟨a, vs, h1, h2, h3, h4, h5⟩ := Rep.dk_iff.mp h
    exact Rep.dk_iff.mpr ⟨a, vs, h1, rd_flt h2 (fun us e => by cases e), h3, h4, Reps.flt n h5⟩
  | .dn hs ks ds, v, n, h => by
    simp only [noI, Bool.and_eq_true] at n
    obtain ⟨a, o, bs, vs, nks, h1, h2, h3, h4, h5, h6, h7, h8, h9⟩ := Rep.dn_iff.mp h
    exact Rep.dn_iff.mpr ⟨a, o, bs, vs, nks, h1, flt_keep h2 (fun us e => by cases e), h3, h4, h5, h6, h7, Reps.flt n.1 h8, Reps.flt n.2 h9⟩
theorem Reps.flt : ∀ {ds : List D} {vs : List V}, noIs ds = true → Reps K F ds vs → Reps K (fltF F) ds vs
  | [], vs, _, h => by simpa only [Reps] using h
  | d :: ds, vs, n, h => by
    simp only [noIs, Bool.and_eq_true] at n
    obtain ⟨v, us, rfl, h2, h3⟩ := h.inv
    exact reps_cons (Rep.flt n.1 h2) (Reps.flt n.2 h3)
end
theorem RepO.flt {H : Hp} {a : Addr} {d : D} (n : noI d = true) (h : RepO K F H a d) : RepO K (fltF F) H a d := by
  cases d with
  | lst ds =>
    simp only [noI, Bool.and_eq_true] at n
    obtain ⟨vs, h1, h2, h3⟩ := h; exact ⟨vs, h1, h2, Reps.flt n.2 h3⟩
  | ins C ns ds =>
    simp only [noI] at n
    obtain ⟨dx, vs, h1, h2, h3⟩ := h; exact ⟨dx, vs, h1, h2, Reps.flt n h3⟩
  | dk ks ds =>
    simp only [noI] at n
    obtain ⟨vs, h1, h2, h3, h4⟩ := h; exact ⟨vs, h1, h2, h3, Reps.flt n h4⟩
  | dn hs ks ds =>
    simp only [noI, Bool.and_eq_true] at n
    obtain ⟨o, bs, vs, nks, h1, h2, h3, h4, h5, h6, h7, h8⟩ := h; exact ⟨o, bs, vs, nks, h1, h2, h3, h4, h5, h6, Reps.flt n.1 h7, Reps.flt n.2 h8⟩
  | _ => exact h.elim
end
/-! ### all things borrowed, tests alone -/
structure Kept (K : Fg) (F H : Hp) (σ : St) (δ : En) : Prop where
  fh : Same F H
  len : σ.length = δ.length
  fr : ∀ (i : Nat) (d : D), δ[i]? = some (Sl.fr d) → ∃ v, σ[i]? = some (some v) ∧ Rep K F d v
  bo : ∀ (i : Nat) (d : D), δ[i]? = some (Sl.bo d) → ∃ v, σ[i]? = some (some v) ∧ RepR K F H v d
  un : ∀ (i : Nat) (s : Sl), δ[i]? = some s → (∃ d, s = .fr d) ∨ (∃ d, s = .bo d) ∨ s = .un
section
variable {K : Fg} {F H H' : Hp} {σ : St} {δ : En}
theorem Kept.st (k : Kept K F H σ δ) (W : WX) : StOk { K := K, P := H, B := H, F0 := F, bt := fun _ => 0, W := W } (fun _ => 0) F H σ δ := by
  have no : ∀ (i : Nat) (s : Sl), δ[i]? = some s → s.own = none ∧ (∀ ns, s ≠ .sc ns) ∧ ∀ ds, s ≠ .b2 ds := fun i s q => by
    rcases k.un i s q with ⟨d, rfl⟩ | ⟨d, rfl⟩ | rfl <;> exact ⟨rfl, fun _ z => by (cases z), fun _ z => by (cases z)⟩
  refine ⟨k.fh, Same.refl _, Same.refl _, Same.refl _, fun b o q => Or.inl q, k.len, k.fr, k.bo, fun i s d q r => ?_, fun i d q => ?_, fun i j s t d e q1 q2 r1 r2 => ?_, fun i ns q => ((no i _ q).2.1 ns rfl).elim, fun i ds q => ((no i _ q).2.2 ds rfl).elim, fun _ _ q => by cases q⟩
  · rw [(no i s q).1] at r; cases r
  · have := (no i _ q).1; cases this
  · rw [(no i s q1).1] at r1; cases r1
end
section
variable {K : Fg} {W : WX}
/-! ### what is let go -/
structure Loose (K : Fg) (i : Nat) (H1 : Hp) (p : Addr) (n : Nat) (σ : St) (H : Hp) : Prop where
  at' : σ[i]? = some (some (.ref p))
  np : H1 p = none
  kp : Same H1 H
  ls : ∃ bs : List Addr, H p = some (.lst (bs.map V.ref)) ∧ bs.length ≤ 1000 + n ∧ ∀ b ∈ bs, H1 b = none ∧ b ≠ p ∧ ∃ ws, H b = some (.lst ws) ∧ ws.length ≤ 1000 + n
end
end DL

set_option Elab.async false
set_option linter.all false
set_option maxRecDepth 100000
set_option maxHeartbeats 400000
/-! DLzzZ: found = f(..); if ..: return; if ..: return; found.append([n]); found[0].append(k): one rule. -/
namespace DL
open PySem L2
section
variable {K : Fg} {W : WX}
end
section
variable {X : Cx} {W : WX} {o e : Expr} {pos : Pos}
end
end DL

set_option Elab.async false
set_option linter.all false
set_option maxRecDepth 100000
set_option maxHeartbeats 1000000
/-! DUc: x = [list(..), ..]; mid; x[k].append(c); x[k].clear(); ..; rest (x is let go). -/
namespace DL
open PySem L2
section
variable {K : Fg} {W : WX}
/-- n parts in slot i, each at most m long, free -/
def Pts (C : Cn) (al : Nat → Addr) (F H : Hp) (σ : St) (δ : En) (i n m : Nat) : Prop :=
  ∃ (p : Addr) (bs : List Addr), σ[i]? = some (some (V.ref p)) ∧ F p = some (.lst (bs.map V.ref)) ∧ bs.length = n ∧ (∀ b ∈ bs, Free C al F δ b) ∧ ∀ b ∈ bs, ∃ ws, H b = some (.lst ws) ∧ ws.length ≤ m
theorem StOk.loose {C : Cn} {al : Nat → Addr} {F H : Hp} {σ : St} {δ : En} {b : Addr} {o : HO} (S : StOk C al F H σ δ) (fb : Free C al F δ b) (hb : ∃ u, H b = some u) : StOk C al F (upd H b o) σ δ := by
  obtain ⟨f1, f2, f3⟩ := fb
  refine ⟨fun a q h => ?_, fun a q h => ?_, S.bp, S.f0, S.fp, S.len, S.fr, S.bo, fun j s e q r => ?_, S.io, S.inj, S.sc, S.b2, S.qp⟩
  · rw [upd_ne fun z => by rw [z, f1] at h; cases h]
    exact S.fh a q h
  · rw [upd_ne fun z => by rw [z, f2] at h; cases h]
    exact S.ph a q h
  · obtain ⟨h1, h2, h3, h4⟩ := S.ow j s e q r
    refine ⟨h1, h2, h3, ?_⟩
    have ne := f3 j s e q r
    exact h4.mono (Same.refl _) fun u z => by rw [upd_ne ne]; exact z
theorem Pts.put {C : Cn} {al : Nat → Addr} {F H : Hp} {σ : St} {δ : En} {i n m m' : Nat} {p : Addr} {bs : List Addr} {b : Addr} {ws : List V} (h1 : σ[i]? = some (some (V.ref p))) (h2 : F p = some (.lst (bs.map V.ref))) (h3 : bs.length = n) (h4 : ∀ b ∈ bs, Free C al F δ b) (h5 : ∀ b ∈ bs, ∃ ws, H b = some (.lst ws) ∧ ws.length ≤ m)
    (hw : ws.length ≤ m') (hm : m ≤ m') : Pts C al F (upd H b (.lst ws)) σ δ i n m' := by
  refine ⟨p, bs, h1, h2, h3, h4, fun d hd => ?_⟩
  by_cases z : d = b
  · exact ⟨ws, by rw [z, upd_same], hw⟩
  · obtain ⟨vs, g1, g2⟩ := h5 d hd
    exact ⟨vs, by rw [upd_ne z]; exact g1, by omega⟩
/-- a statement that changes the parts alone -/
def Wp (K : Fg) (i n m m' : Nat) (t : TS) : Prop := ∀ (C : Cn), C.K = K → ∀ (al : Nat → Addr) (F H : Hp) (σ : St) (δ : En), StOk C al F H σ δ → Pts C al F H σ δ i n m → ∀ Z : Ends, (∀ H', StOk C al F H' σ δ → Pts C al F H' σ δ i n m' → Z.nx σ H') → t Z σ H
theorem part_get {bs : List Addr} {k : Nat} (h : k < bs.length) : atI (bs.map V.ref) ((k : Nat) : Int) = some (V.ref bs[k]) := atI_nat (by rw [List.getElem?_map, List.getElem?_eq_getElem h]; rfl)
theorem wp_clr {i n m k : Nat} (hk : k < n) : Wp K i n m m (tDrop (tBM0 K "list" rClear (tOp (rIx K) (tVar i) (tC (.int (k : Nat)))))) := by
  intro C hK al F H σ δ S P Z hZ
  subst hK
  obtain ⟨p, bs, h1, h2, h3, h4, h5⟩ := P
  have hb : bs[k]'(by omega) ∈ bs := List.getElem_mem _
  obtain ⟨ws, g1, g2⟩ := h5 _ hb
  refine ⟨.ref p, h1, Or.inl ⟨p, _, k, _, rfl, rfl, Or.inl (Or.inl (S.fh _ _ h2)), part_get (by omega), Or.inl ⟨rfl, ws, Or.inl (Or.inl g1)⟩, bs[k]'(by omega), ws, rfl, rfl, g1, ?_⟩⟩
  exact hZ _ (S.loose (h4 _ hb) ⟨_, g1⟩) (Pts.put h1 h2 h3 h4 h5 (by simp) (Nat.le_refl _))
theorem wp_rev {i n m k : Nat} (hk : k < n) : Wp K i n m m (tDrop (tBM0 K "list" rReverse (tOp (rIx K) (tVar i) (tC (.int (k : Nat)))))) := by
  intro C hK al F H σ δ S P Z hZ
  subst hK
  obtain ⟨p, bs, h1, h2, h3, h4, h5⟩ := P
  have hb : bs[k]'(by omega) ∈ bs := List.getElem_mem _
  obtain ⟨ws, g1, g2⟩ := h5 _ hb
  refine ⟨.ref p, h1, Or.inl ⟨p, _, k, _, rfl, rfl, Or.inl (Or.inl (S.fh _ _ h2)), part_get (by omega), Or.inl ⟨rfl, ws, Or.inl (Or.inl g1)⟩, bs[k]'(by omega), ws, rfl, rfl, g1, ?_⟩⟩
  exact hZ _ (S.loose (h4 _ hb) ⟨_, g1⟩) (Pts.put h1 h2 h3 h4 h5 (by rw [List.length_reverse]; exact g2) (Nat.le_refl _))
theorem wp_seq {i n m m' m'' : Nat} {t u : TS} (h1 : Wp K i n m m' t) (h2 : Wp K i n m' m'' u) : Wp K i n m m'' (tSeq t u) := fun C hK al F H σ δ S P Z hZ =>
  h1 C hK al F H σ δ S P { Z with nx := u Z } fun H' S' P' => h2 C hK al F H' σ δ S' P' Z hZ
def isL : D → Bool
  | .lst _ => true
  | _ => false
def mPartsW (i n : Nat) (m1 : M (List D)) (mm mr : Ms) : Ms := fun δ => match m1 δ with
  | some (.ok ds δ1) => if noB2 δ1 = true ∧ i < δ1.length then (match mm (δ1.set i (.b2 ds)) with
    | some (.nx δ2) => if noB2 (wipeE δ2 [i]) = true then (match δ2[i]? with
      | some (.b2 es) => if es.length = n ∧ es.all isL = true then mr (wipeE δ2 [i]) else none
      | _ => none) else none
    | some o => ouB i o
    | none => none) else none
  | some (.ex x δ1) => some (.ex x δ1)
  | none => none
theorem parts_lists {P F : Hp} : ∀ {bs : List Addr} {es : List D}, Parts K P F (bs.map V.ref) es → es.all isL = true → ∀ b ∈ bs, ∃ ws, P b = some (.lst ws) ∧ ws.length ≤ LB
  | [], _, _, _, b, z => by cases z
  | a :: bs, _, .cons (b := d) r t, h, b, z => by
    obtain ⟨b', w, r⟩ := r
    cases w
    rw [List.all_cons, Bool.and_eq_true] at h
    rcases List.mem_cons.mp z with z | z
    · cases d with
      | lst ds =>
        obtain ⟨vs, g1, g2, g3⟩ := r
        exact ⟨vs, by rw [z]; exact g1, by rw [g3.len]; exact g2⟩
      | _ => cases h.1
    · exact parts_lists t h.2 b z
theorem es_partsW {i n0 n1 : Nat} {t1 : TA} {m1 : M (List D)} {tm tw tr : TS} {mm mr : Ms} (h1 : JL K W t1 m1) (hm : Es K W tm mm) (hw : Wp K i n0 LB n1 tw) (hr : Es K W tr mr) :
    Es K W (tSeq (tAsg (tLst t1) (gName i)) (tSeq tm (tSeq tw tr))) (mPartsW i n0 m1 mm mr) := by
  intro C hK hW al F H σ δ S o ho Z hZ
  subst hK
  subst hW
  cases e : m1 δ with
  | none => unfold mPartsW at ho; rw [e] at ho; cases ho
  | some r =>
    refine h1 C rfl rfl al F H σ δ S r e _ (fun ds δ1 e1 al1 F1 H1 bs s1 S1 g1 g2 g3 g4 g5 => ?_) fun x δ1 e1 al1 F1 H1 cls dd s1 S1 xr => ?_
    · subst e1
      unfold mPartsW at ho
      rw [e] at ho
      by_cases hc : noB2 δ1 = true ∧ i < δ1.length
      · simp only [hc, and_self, if_true] at ho
        refine ⟨by rw [List.length_map, ← List.length_map (f := V.ref), Paired.length g4]; exact LB_size g5, fun p hp => ?_⟩
        have n := New.lay (o := .lst (bs.map V.ref)) S1.fh hp
        have S2 := S1.new n
        have nep : ∀ b ∈ bs, b ≠ p := fun b z w => by
          obtain ⟨o, h⟩ := g3 b z
          rw [w, hp] at h; cases h
        have fb : ∀ b ∈ bs, Free C al1 (upd F1 p (.lst (bs.map V.ref))) δ1 b := fun b z => ⟨by rw [upd_ne (nep b z)]; exact (g2 b z).1, (g2 b z).2.1, (g2 b z).2.2⟩
        have ob : ∀ b ∈ bs, ∃ o, upd H1 p (.lst (bs.map V.ref)) b = some o := fun b z => by rw [upd_ne (nep b z)]; exact g3 b z
        generalize hF2 : upd F1 p (HO.lst (bs.map V.ref)) = F2 at S2 fb n
        generalize hH2 : upd H1 p (HO.lst (bs.map V.ref)) = H2 at S2 ob n
        have Fp : F2 p = some (.lst (bs.map V.ref)) := by rw [← hF2]; exact upd_same
        have noXd : ∀ dd ∈ bs, ∀ fs, H2 dd ≠ some (HO.xd fs) := fun dd z fs q => by
          have hh : H1 dd = some (HO.xd fs) := by rw [← hH2, upd_ne (nep dd z)] at q; exact q
          exact parts_noxd g4 dd z fs hh
        have G := S2.grow fb
        let C' : Cn := { C with P := gP C.P H2 bs, Q := fun a => if a ∈ bs then H2 a else C.Q a, bt := fun j => if j = i then p else C.bt j }
        have key : ∀ (j : Nat) s, (δ1.set i (Sl.b2 ds))[j]? = some s → (j = i ∧ s = Sl.b2 ds) ∨ (j ≠ i ∧ δ1[j]? = some s) := fun j s q => by
          by_cases z : j = i
          · subst z
            rw [List.getElem?_set_self hc.2] at q
            exact Or.inl ⟨rfl, (Option.some.inj q).symm⟩
          · rw [List.getElem?_set_ne (Ne.symm z)] at q
            exact Or.inr ⟨z, q⟩
        have sg : ∀ j, j ≠ i → (σ.set i (some (V.ref p)))[j]? = σ[j]? := fun j z => List.getElem?_set_ne (Ne.symm z)
        have S3 : StOk C' al1 F2 H2 (σ.set i (some (V.ref p))) (δ1.set i (.b2 ds)) := by
          refine ⟨G.fh, G.ph, G.bp, G.f0, G.fp, by rw [List.length_set, List.length_set]; exact G.len, fun j e q => ?_, fun j e q => ?_, fun j s e q r => ?_, fun j e q => ?_, fun j k s t e f q1 q2 r1 r2 r3 => ?_, fun j ns q => ?_, fun j es q => ?_, fun a o q => ?_⟩
          · rcases key j _ q with ⟨_, z⟩ | ⟨nj, q⟩
            · cases z
            · rw [sg j nj]; exact G.fr j e q
          · rcases key j _ q with ⟨_, z⟩ | ⟨nj, q⟩
            · cases z
            · rw [sg j nj]; exact G.bo j e q
          · rcases key j _ q with ⟨_, z⟩ | ⟨nj, q⟩
            · subst z; cases r
            · rw [sg j nj]; exact G.ow j s e q r
          · rcases key j _ q with ⟨_, z⟩ | ⟨nj, q⟩
            · cases z
            · exact (G.io j e q).trans (if_neg nj).symm
          · rcases key j _ q1 with ⟨_, z⟩ | ⟨nj, q1⟩
            · subst z; cases r1
            · rcases key k _ q2 with ⟨_, z⟩ | ⟨nk, q2⟩
              · subst z; cases r2
              · exact G.inj j k s t e f q1 q2 r1 r2 r3
          · rcases key j _ q with ⟨_, z⟩ | ⟨nj, q⟩
            · cases z
            · rw [sg j nj]
              obtain ⟨a, w1, w2⟩ := G.sc j ns q
              refine ⟨a, w1, ?_⟩
              rcases w2 with w2 | ⟨w2, w3⟩
              · exact Or.inl w2
              · refine Or.inr ⟨w2, ?_⟩
                rcases w3 with w3 | ⟨dd, fld, y, w3, w4⟩
                · exact Or.inl w3
                · refine Or.inr ⟨dd, fld, y, w3, ?_⟩
                  show (if dd ∈ bs then H2 dd else C.Q dd) = some (.xd [(fld, y)])
                  rw [if_neg fun z => by
                    have := S2.qp _ _ w4
                    rw [(fb dd z).2.1] at this
                    cases this]
                  exact w4
          · rcases key j _ q with ⟨ej, z⟩ | ⟨nj, q⟩
            · cases z
              subst ej
              have hbt : C'.bt j = p := if_pos rfl
              rw [hbt]
              refine ⟨bs.map V.ref, List.getElem?_set_self (by rw [S1.len]; exact hc.2), Fp, parts_keep (fun b z o q => ?_) n.ff g4⟩
              show (if b ∈ bs then H2 b else C.Q b) = some o
              rw [if_pos z]
              exact n.hh _ _ q
            · exact (noB2_get hc.1 q).elim
          · have q : (if a ∈ bs then H2 a else C.Q a) = some o := q
            by_cases z : a ∈ bs
            · rw [if_pos z] at q
              exact (gP_in z).trans q
            · rw [if_neg z] at q
              exact (gP_out z).trans (S2.qp _ _ q)
        -- back to C
        have back : ∀ {al3 : Nat → Addr} {F3 H3 : Hp} {σ3 : St} {δ2 : En}, noB2 (wipeE δ2 [i]) = true → StOk C' al3 F3 H3 σ3 δ2 → StOk C al3 F3 H3 σ3 (wipeE δ2 [i]) ∧ ∀ b ∈ bs, Free C al3 F3 (wipeE δ2 [i]) b ∧ H3 b = H2 b := fun {al3 F3 H3 σ3 δ2} hn S4 =>
          S2.shrink fb ob (C' := C') rfl rfl rfl rfl rfl (S4.wiped rfl fun _ _ => rfl) (fun j d q => by
            rcases wipeE_get q with z | ⟨z, _⟩
            · cases z
            · exact if_neg fun w => z (by rw [w]; exact List.mem_cons_self)) (fun j es q => (noB2_get hn q).elim) fun dd fs q => by
            have q : (if dd ∈ bs then H2 dd else C.Q dd) = some (.xd fs) := q
            by_cases z : dd ∈ bs
            · rw [if_pos z] at q
              exact (noXd dd z fs q).elim
            · rw [if_neg z] at q; exact q
        have hZ2 : EndOk C F2 Z o := hZ.mono (s1.trans n.ff)
        cases e2 : mm (δ1.set i (.b2 ds)) with
        | none => rw [e2] at ho; cases ho
        | some o2 =>
          rw [e2] at ho
          refine hm C' rfl rfl al1 F2 H2 _ _ S3 o2 e2 _ ?_
          cases o2 with
          | nx δ2 =>
            intro al3 F3 H3 σ3 s3 S4
            by_cases hn : noB2 (wipeE δ2 [i]) = true
            · simp only [hn, if_true] at ho
              cases e3 : δ2[i]? with
              | none => simp only [e3] at ho; cases ho
              | some sl =>
                cases sl with
                | b2 es =>
                  simp only [e3] at ho
                  obtain ⟨vs, v1, v2, v3⟩ := S4.b2 i es e3
                  have hbt : C'.bt i = p := if_pos rfl
                  rw [hbt] at v1 v2
                  have := s3 _ _ Fp
                  rw [v2] at this
                  cases this
                  obtain ⟨S5, k⟩ := back hn S4
                  by_cases hes : es.length = n0 ∧ es.all isL = true
                  · simp only [hes, and_self, if_true] at ho
                    have pr : Parts C.K H3 F3 (bs.map V.ref) es := parts_keep (fun b z o q => by
                      have q : (if b ∈ bs then H2 b else C.Q b) = some o := q
                      rw [if_pos z] at q
                      rw [(k b z).2]
                      exact q) (Same.refl _) v3
                    have hl : bs.length = n0 := by
                      have := Paired.length pr
                      rw [List.length_map] at this
                      omega
                    refine hw C rfl al3 F3 H3 σ3 (wipeE δ2 [i]) S5 ⟨p, bs, v1, s3 _ _ Fp, hl, fun b z => (k b z).1, parts_lists pr hes.2⟩ { Z with nx := tr Z } fun H' S' _ => ?_
                    exact hr C rfl rfl al3 F3 H' σ3 (wipeE δ2 [i]) S' o ho Z (hZ2.mono s3)
                  · simp only [hes, if_false] at ho; cases ho
                | _ => simp only [e3] at ho; cases ho
            · simp only [hn] at ho; cases ho
          | rt d δ2 =>
            obtain ⟨hn, rfl⟩ := if_some (show ouB i (.rt d δ2) = some o from ho)
            exact fun al3 F3 H3 σ3 v s3 S4 rv => hZ2 al3 F3 H3 σ3 v s3 (back hn S4).1 rv
          | rn d δ2 =>
            obtain ⟨hn, rfl⟩ := if_some (show ouB i (.rn d δ2) = some o from ho)
            refine fun al3 F3 H3 σ3 q s3 S4 n1 n2 ro => hZ2 al3 F3 H3 σ3 q s3 (back hn S4).1 n1 ?_ ro
            by_cases z : q ∈ bs
            · exact (fb q z).2.1
            · exact (gP_out z).symm.trans n2
          | bk δ2 =>
            obtain ⟨hn, rfl⟩ := if_some (show ouB i (.bk δ2) = some o from ho)
            exact fun al3 F3 H3 σ3 s3 S4 => hZ2 al3 F3 H3 σ3 s3 (back hn S4).1
          | ct δ2 =>
            obtain ⟨hn, rfl⟩ := if_some (show ouB i (.ct δ2) = some o from ho)
            exact fun al3 F3 H3 σ3 s3 S4 => hZ2 al3 F3 H3 σ3 s3 (back hn S4).1
          | ex x δ2 =>
            obtain ⟨hn, rfl⟩ := if_some (show ouB i (.ex x δ2) = some o from ho)
            exact fun al3 F3 H3 σ3 cls dd s3 S4 xr => hZ2 al3 F3 H3 σ3 cls dd s3 (back hn S4).1 xr
      · simp only [hc, if_false] at ho; cases ho
    · subst e1
      unfold mPartsW at ho
      rw [e] at ho
      cases ho
      exact hZ al1 F1 H1 σ cls dd s1 S1 xr
end
/-! ### the text -/
structure XPv (X : Cx) (i n m m' : Nat) (s : List Stmt) (t : TS) : Prop where
  p : ∀ (rest : List Stmt) (u : TS), PSs X rest u → PSs X (s ++ rest) (tSeq t u)
  w : Wp X.K i n m m' t
section
variable {X : Cx} {W : WX} {a b e : Expr} {es : List Expr} {te ta tb : TE} {pos p2 p3 p4 pos' pos1 : Pos} {me ma : M D} {ob : M Op} {st : Stmt} {ss : List Stmt} {t u : TS} {m n : Ms}
theorem v_one {i n m m' : Nat} {t : TS} (h : PS X st t) (w : Wp X.K i n m m' t) : XPv X i n m m' [st] t := ⟨fun rest u hr => pss_cons h hr, w⟩
theorem v_cons {i n m m' m'' : Nat} {t u : TS} (h : PS X st t) (w : Wp X.K i n m m' t) (h2 : XPv X i n m' m'' ss u) : XPv X i n m m'' (st :: ss) (tSeq t u) := ⟨fun rest y hr => (show PSs X (st :: (ss ++ rest)) (tSeq t (tSeq u y)) from pss_cons h (h2.p rest y hr)), wp_seq w h2.w⟩
theorem w_clr {K : Fg} {i : Nat} (k : Nat) {j : Nat} {apos : Pos} (ha : XE X W a (tVar i) ma) (hs0 : PlainIx (.Constant (.int (k : Nat)) j p3) := by exact fun _ _ => rfl) (hbase : attributeBase (.Subscript a (.Constant (.int (k : Nat)) j p3) p4) "clear" X.env (eval (.Subscript a (.Constant (.int (k : Nat)) j p3) p4) X.env) = eval (.Subscript a (.Constant (.int (k : Nat)) j p3) p4) X.env := by rfl)
    (hline : (apos.endLine == pos.line) = true := by rfl) (hsw : swapsWith (.Call (.Attribute (.Subscript a (.Constant (.int (k : Nat)) j p3) p4) "clear" apos) [] [] pos) none pos1.line X.env = pure false := by rfl) (hK : X.K = K := by rfl) :
    PS X (.Expr (.Call (.Attribute (.Subscript a (.Constant (.int (k : Nat)) j p3) p4) "clear" apos) [] [] pos) pos1) (tDrop (tBM0 K "list" rClear (tOp (rIx K) (tVar i) (tC (.int (k : Nat)))))) := by
  subst hK
  exact ps_expr (pe_bm0 PySem.F.plainAttrs_list PySem.F.slot_list_clear PySem.F.type_list_clear mt_clear (pe_ix ix_seq ha.p pe_int hs0) hbase hline) hsw
theorem w_rev {K : Fg} {i : Nat} (k : Nat) {j : Nat} {apos : Pos} (ha : XE X W a (tVar i) ma) (hs0 : PlainIx (.Constant (.int (k : Nat)) j p3) := by exact fun _ _ => rfl) (hbase : attributeBase (.Subscript a (.Constant (.int (k : Nat)) j p3) p4) "reverse" X.env (eval (.Subscript a (.Constant (.int (k : Nat)) j p3) p4) X.env) = eval (.Subscript a (.Constant (.int (k : Nat)) j p3) p4) X.env := by rfl)
    (hline : (apos.endLine == pos.line) = true := by rfl) (hsw : swapsWith (.Call (.Attribute (.Subscript a (.Constant (.int (k : Nat)) j p3) p4) "reverse" apos) [] [] pos) none pos1.line X.env = pure false := by rfl) (hK : X.K = K := by rfl) :
    PS X (.Expr (.Call (.Attribute (.Subscript a (.Constant (.int (k : Nat)) j p3) p4) "reverse" apos) [] [] pos) pos1) (tDrop (tBM0 K "list" rReverse (tOp (rIx K) (tVar i) (tC (.int (k : Nat)))))) := by
  subst hK
  exact ps_expr (pe_bm0 PySem.F.plainAttrs_list PySem.F.slot_list_reverse PySem.F.type_list_reverse mt_reverse (pe_ix ix_seq ha.p pe_int hs0) hbase hline) hsw
end
end DL

set_option Elab.async false
set_option linter.all false
set_option maxRecDepth 100000
set_option maxHeartbeats 400000
/-! DWa: one text read in two ways (mAlt): the second where the first has no answer; a text that isn't come to (mVoid); a list of new lists that is changed in an else. -/
namespace DL
open PySem L2
def mAlt (m n : Ms) : Ms := fun δ => match m δ with
  | some o => some o
  | none => n δ
def tAlt (t u : TS) : TS := fun Z σ H => t Z σ H ∨ u Z σ H
def mVoid : Ms := fun _ => none
def tVoid : TS := fun _ _ _ => False
section
variable {X : Cx} {W : WX} {ss : List Stmt} {t u : TS} {m n : Ms}
theorem es_alt {K : Fg} (h1 : Es K W t m) (h2 : Es K W u n) : Es K W (tAlt t u) (mAlt m n) := by
  intro C hK hW al F H σ δ S o ho Z hZ
  unfold mAlt at ho
  cases e : m δ with
  | some o' => rw [e] at ho; cases ho; exact Or.inl (h1 C hK hW al F H σ δ S _ e Z hZ)
  | none => rw [e] at ho; exact Or.inr (h2 C hK hW al F H σ δ S _ ho Z hZ)
theorem b_alt (h1 : XB X W ss t m) (h2 : XB X W ss u n) : XB X W ss (tAlt t u) (mAlt m n) :=
  ⟨⟨fun pins s σ H D I h => h.elim (h1.p.run pins s σ H D I) (h2.p.run pins s σ H D I)⟩, es_alt h1.v h2.v⟩
theorem es_void {K : Fg} : Es K W tVoid mVoid := fun _ _ _ _ _ _ _ _ _ _ ho => by cases ho
theorem b_void : XB X W ss tVoid mVoid := ⟨⟨fun _ _ _ _ _ _ h => h.elim⟩, es_void⟩
end
section
variable {X : Cx} {W : WX} {a b : Expr} {ta tb : TE} {oa ob : M Op} {pos : Pos}
theorem t_inI {K : Fg} (ha : XO X W a ta oa) (hb : XO X W b tb ob) (hm : behindInMarks .In b = false := by rfl) (hK : X.K = K := by rfl) : XT X W (.Compare a [.In] [b] pos) (tTest (tOp (rIn K false) ta tb)) (mTest (m2 (inID false) oa ob)) := by
  subst hK
  exact ⟨pt_cmpR op_in_seq ha.p hb.p hm, et_test (ev_2 prim_inI ha.v hb.v)⟩
end
/-! ### x = [list(..), ..]; ..; if c: a else: mid; changes of the parts; rest -/
def ifC : List Stmt → Expr
  | .If c _ _ _ :: _ => c
  | _ => .Constant .none 0 ⟨0, 0, 0, 0⟩
def ifA : List Stmt → List Stmt
  | .If _ a _ _ :: _ => a
  | _ => []
def ifE : List Stmt → List Stmt
  | .If _ _ b _ :: _ => b
  | _ => []
section
variable {X : Cx} {W : WX} {es : List Expr} {pos p2 pos' pos1 ip : Pos} {ss : List Stmt}
theorem b_partsWI {K : Fg} (i k kb l n0 : Nat) {n1 : Nat} {x : Str} {t1 : TA} {m1 : M (List D)} {tm tb tw tr tz : TS} {tc : TT} {mm mb mr mz : Ms} {mc : M Bool} (hN : X.N.Nodup) (h1 : XL X W es t1 m1) (hm : XPr X W (ss.take k) tm mm) (hc : XT X W (ifC (ss.drop k)) tc mc)
    (hb : XPr X W ((ifE (ss.drop k)).take kb) tb mb) (hw : XPv X i n0 LB n1 (((ifE (ss.drop k)).drop kb).take l) tw) (hr : XB X W (((ifE (ss.drop k)).drop kb).drop l) tr mr) (hz : XB X W (ss.drop k).tail tz mz)
    (hif : ∃ ip, ss.drop k = .If (ifC (ss.drop k)) (ifA (ss.drop k)) (ifE (ss.drop k)) ip :: (ss.drop k).tail := by exact ⟨_, rfl⟩)
    (hi : X.N[i]? = some x := by rfl) (hx : Loc X.env.scope x := by first | exact Or.inl rfl | exact Or.inr rfl) (hs : swapsWith (.List es p2) (some (.Name x pos')) pos1.line X.env = pure false := by rfl) (hf : X.fn x = true ∨ X.env.scope.names.lookup x = some .local := by first | exact .inl rfl | exact .inr rfl) (hK : X.K = K := by rfl) :
    XB X W (.Assign [.Name x pos'] (.List es p2) pos1 :: ss) (tSeq (tAsg (tLst t1) (gName i)) (tSeq (tSeq tm (tSeq (tIfS tc tVoid tNext) tb)) (tSeq tw (tSeq tr tz)))) (mPartsW i n0 m1 (mSeq mm (mSeq (mIf mc mVoid mNext) mb)) (mSeq mr mz)) := by
  subst hK
  obtain ⟨ip, hif⟩ := hif
  refine ⟨pss_cons (ps_set hN hi hx (pe_lst h1.p) hs hf) ?_, es_partsW h1.v (es_seq hm.v (es_seq (es_if hc.v es_void es_next) hb.v)) hw.w (es_seq hr.v hz.v)⟩
  have he : PSs X (ifE (ss.drop k)) (tSeq tb (tSeq tw tr)) := by
    have h3 := hb.p _ _ (hw.p _ _ hr.p)
    rw [List.take_append_drop, List.take_append_drop] at h3
    exact h3
  have h4 : PSs X (ss.drop k) (tSeq (tIfS tc tVoid (tSeq tb (tSeq tw tr))) tz) := by
    rw [hif]
    exact pss_cons (ps_if hc.p (b_void (W := W)).p he) hz.p
  have h5 := hm.p _ _ h4
  rw [List.take_append_drop] at h5
  exact h5
end
end DL

set_option Elab.async false
set_option linter.all false
set_option maxRecDepth 100000
set_option maxHeartbeats 4000000
namespace GA
open PySem L2 DL G
/-! ### the text by places -/
def top (i : Nat) : Stmt := PySem.Challenge.pw_endsum_k01_stocks_made.main.body.getD i (.Pass ⟨0, 0, 0, 0⟩)
abbrev s_is_name : Stmt := top 7
abbrev s_is_sort_row : Stmt := top 8
abbrev s_are_sorts : Stmt := top 9
abbrev s_is_kind_row : Stmt := top 10
abbrev s_are_kinds : Stmt := top 11
abbrev s_Stock___init__ : Stmt := inClass (top 12) 0
abbrev s__law_source_of : Stmt := top 14
abbrev s__law_next : Stmt := top 15
abbrev s__law_one : Stmt := top 16
abbrev s__law_names : Stmt := top 17
abbrev s__law_stock : Stmt := top 18
abbrev s_Stock___eq__ : Stmt := inClass (top 12) 1
abbrev s_Stock___init__X : Stmt := inClass (top 12) 0
abbrev s__law_told : Stmt := top 22
abbrev s__law_no_name : Stmt := top 19
abbrev s__law_no_sorts : Stmt := top 20
abbrev s__law_no_kinds : Stmt := top 21
abbrev s__law_alike : Stmt := top 23
abbrev s_law : Stmt := top 24
abbrev s_NoStock___init__ : Stmt := inClass (top 2) 0
structure Txt (K : Fg) (mg : Str → Option Value) (c : Cs) : Prop where
  b_all : mg "all" = none
  b_int : mg "int" = none
  b_isinstance : mg "isinstance" = none
  b_len : mg "len" = none
  b_list : mg "list" = none
  b_range : mg "range" = none
  b_set : mg "set" = none
  b_sorted : mg "sorted" = none
  b_str : mg "str" = none
  b_tuple : mg "tuple" = none
  c_LETTERS : ∃ t, mg "LETTERS" = some (.str "abcdefghijklmnopqrstuvwxyz" t)
  f_stock_kinds : ∀ C ∈ [c.stock], ClsOk K C "kinds"
  f_stock_sorts : ∀ C ∈ [c.stock], ClsOk K C "sorts"
  k_stock_kinds : ClsOk K c.stock "kinds"
  k_stock_sorts : ClsOk K c.stock "sorts"
  i_stock : InsK K c.stock
  g_stock : mg "Stock" = some (.ref c.stock)
  xg_NoStock : mg "NoStock" = some (.ref (c.x 1))
  xg_EndError : mg "EndError" = some (.ref (c.x 0))
  xg_NoDrawing : mg "NoDrawing" = some (.ref (c.x 2))
  xg_NoWeights : mg "NoWeights" = some (.ref (c.x 11))
  xc : ∀ tg ∈ ([1] : List Nat), ExcC K (c.x tg)
  xk : ∀ tg ∈ ([1] : List Nat), ∀ j ∈ ([2, 11] : List Nat), PySem.W.kitOne K (.ref (c.x tg)) (.ref (c.x j)) = some (decide (tg = j))
  xv : ∀ tg ∈ ([1] : List Nat), PySem.W.kitOne K (.ref (c.x tg)) (.type "ValueError") = some true
  xe_EndError : ∀ tg ∈ ([1] : List Nat), PySem.W.exmOne K (.ref (c.x tg)) (.ref (c.x 0)) = some (decide (tg ∈ ([1] : List Nat)))
  xe_NoStock : ∀ tg ∈ ([1] : List Nat), PySem.W.exmOne K (.ref (c.x tg)) (.ref (c.x 1)) = some (decide (tg ∈ ([1] : List Nat)))
  xe : ∀ tg ∈ ([1] : List Nat), PySem.W.exmOne K (.ref (c.x tg)) (.ref (c.x 0)) = some true
  x0 : ∀ tg ∈ ([1] : List Nat), PySem.W.kitOne K (.ref (c.x tg)) (.ref (c.x 0)) = some true
  xf : ∀ tg ∈ ([1] : List Nat), XfC K (c.x tg) ∧ PySem.W.findIn K (.ref (c.x tg)) "part" = some none
/-! ### what each def computes -/
abbrev NK__law_stockB : List Str := ["_law_source", "_law_most", "_law_names_here", "_law_way", "_law_one_here", "_law_two", "_law_three", "_law_sorts", "_law_kinds", "_law_name", "_law_ends", "_law_k"]
abbrev N_Stock___init__X : List Str := ["self", "sorts", "kinds", "sort", "partner"]
noncomputable def E_Stock___init__X_0 (c : Cs) : M D := mVar 3
noncomputable def L_Stock___init__X_0 (c : Cs) : M D := mLc (mSeqB 1) (gT (gsC (gN 3) (gsC (gN 4) gs0))) mYes (E_Stock___init__X_0 c) [3, 4]
noncomputable def m_Stock___init__X (c : Cs) : Ms := mSeq (mIf (mNot (mTest (mCallP [.bo] (g_are_sorts c) (maCons (mOv 1) maNil)))) (mRaiseF (c.x 1) "part" 1 (mC (.str "sorts"))) (mNext)) (mSeq (mIf (mNot (mTest (mCallP [.bo, .fr] (g_are_kinds c) (maCons (mOv 2) (maCons (mVal (L_Stock___init__X_0 c)) maNil))))) (mRaiseF (c.x 1) "part" 1 (mC (.str "kinds"))) (mNext)) (mSeq (mSetF c.stock 0 "sorts" (mnA (fN1 listD) (maCons (mOv 1) maNil))) (mSetF c.stock 0 "kinds" (mnA (fN1 listD) (maCons (mOv 2) maNil)))))
noncomputable def g_Stock___init__X (c : Cs) : List D → Option (R D) := defIX 5 [.bo, .bo] (m_Stock___init__X c)
abbrev N__law_told : List Str := ["_law_sorts", "_law_kinds", "_law_stock_here", "e"]
noncomputable def Y__law_told_0 (c : Cs) : Ms := mAsgO 2 (mMake c.stock [.bo, .bo] (g_Stock___init__X c) (maCons (mOv 0) (maCons (mOv 1) maNil)))
noncomputable def Z__law_told_0_1 (c : Cs) (tg : Nat) (d : D) : Ms := mRet (mTup (mdCons (mC (.str "other")) (mdCons (mC .non) (mdCons (mC (.bl true)) mdNil))))
noncomputable def Z__law_told_0_0 (c : Cs) (tg : Nat) (d : D) : Ms := mRet (mTup (mdCons (mC (.str "none")) (mdCons (mFldE 3 d) (mdCons (mOrV (mIsE 3 (decide (tg ∈ [2, 11]))) (mNotV (mIsE 3 true))) mdNil))))
noncomputable def m__law_told (c : Cs) : Ms := mSeq (mTryF [1] c.x "part" [([1], (some 3), Z__law_told_0_0 c), ([1], none, Z__law_told_0_1 c)] (Y__law_told_0 c)) (mRet (mTup (mdCons (mC (.str "told")) (mdCons (mTup (mdCons (m1 (fldD [c.stock] "sorts") (mOv 2)) (mdCons (m1 (fldD [c.stock] "kinds") (mOv 2)) mdNil))) (mdCons (mAndV (m1 (isB "list") (mVal (m1 (fldD [c.stock] "sorts") (mOv 2)))) (m1 (isB "list") (mVal (m1 (fldD [c.stock] "kinds") (mOv 2))))) mdNil)))))
noncomputable def g__law_told (c : Cs) : List D → Option D := defG 4 [.fr, .fr] (m__law_told c)
abbrev N__law_no_name : List Str := ["_law_source"]
noncomputable def m__law_no_name (c : Cs) : Ms := mRet (mCallI 0 [.fr] (g__law_one c) (maCons (mVal (mLst (mdCons (mC (.str "")) (mdCons (mC (.str "A")) (mdCons (mC (.str "a b")) (mdCons (mC (.str "abcdefghi")) (mdCons (mC (.str "a1")) (mdCons (mC .non) (mdCons (mC (.int 5)) (mdCons (mTup (mdCons (mC (.str "a")) mdNil)) (mdCons (mLst (mdCons (mC (.str "a")) mdNil)) (mdCons (mC (.str "-")) (mdCons (mC (.bl true)) (mdCons (mC (.str "a-b")) mdNil)))))))))))))) maNil))
noncomputable def g__law_no_name (c : Cs) : List D → Option (D × D) := defI 1 [] (m__law_no_name c)
abbrev N__law_no_sorts : List Str := ["_law_source", "_law_sorts", "_law_four", "_law_at", "_law_name", "_law_partner", "_law_some"]
noncomputable def m__law_no_sorts (c : Cs) : Ms := mSeq (mIf (mTest (m2 eqD (mVal (mCallI 0 [.fr] (g__law_next c) (maCons (mVal (mC (.int 3))) maNil))) (mVal (mC (.int 0))))) (mSeq (mAsgO 2 (mLst (mdCons (mTup (mdCons (mC (.str "aa")) (mdCons (mC (.str "aa")) mdNil))) (mdCons (mTup (mdCons (mC (.str "bb")) (mdCons (mC (.str "bb")) mdNil))) (mdCons (mTup (mdCons (mC (.str "cc")) (mdCons (mC (.str "cc")) mdNil))) (mdCons (mTup (mdCons (mC (.str "dd")) (mdCons (mC (.str "dd")) mdNil))) mdNil)))))) (mRet (mCallI 0 [.fr] (g__law_one c) (maCons (mVal (mLst (mdCons (mC .non) (mdCons (mLst mdNil) (mdCons (mA (fA1 tupD) (maCons (mOv 1) maNil)) (mdCons (mC (.dk [] [])) (mdCons (mC (.str "line")) (mdCons (mC (.int 0)) (mdCons (mVar 2) (mdCons (mn2 repF (mVal (mSl slD (mOv 1) mpNone (mpSome (mC (.int 1))))) (mVal (mC (.int 2)))) mdNil)))))))))) maNil)))) (mNext)) (mSeq (mAsg (gN 3) (mCallI 0 [.fr] (g__law_next c) (maCons (mVal (mA (fA1 lenD) (maCons (mOv 1) maNil))) maNil))) (mSeq (mAsg (gT (gsC (gN 4) (gsC (gN 5) gs0))) (m2 ixD (mOv 1) (mOv 3))) (mSeq (mAsgO 6 (mLst (mdCons (mTup (mdCons (mVar 4) mdNil)) (mdCons (mTup (mdCons (mVar 4) (mdCons (mVar 5) (mdCons (mVar 4) mdNil)))) (mdCons (mLst (mdCons (mVar 4) (mdCons (mVar 5) mdNil))) (mdCons (mVar 4) (mdCons (mC .non) (mdCons (mTup (mdCons (mVar 4) (mdCons (mC (.str "nothing")) mdNil))) (mdCons (mTup (mdCons (mVar 4) (mdCons (mC .non) mdNil))) mdNil))))))))) (mSeq (mAsgO 6 (mn2 catF (mOv 6) (mVal (mLst (mdCons (mTup (mdCons (mVar 4) (mdCons (mCallI 0 [] (g__law_no_name c) maNil) mdNil))) (mdCons (mTup (mdCons (mC (.str "nothing")) (mdCons (mVar 5) mdNil))) (mdCons (mTup (mdCons (mCallI 0 [] (g__law_no_name c) maNil) (mdCons (mVar 5) mdNil))) mdNil))))))) (mSeq (mIf (mTest (m2 neD (mOv 5) (mOv 4))) (mDrop (mMut appF 6 (mdCons (mTup (mdCons (mVar 4) (mdCons (mVar 4) mdNil))) mdNil))) (mNext)) (mRet (m2 addD (mVal (m2 addD (mVal (mSl slD (mOv 1) mpNone (mpSome (mVar 3)))) (mVal (mLst (mdCons (mCallI 0 [.fr] (g__law_one c) (maCons (mVal (mVar 6)) maNil)) mdNil))))) (mVal (mSl slD (mOv 1) (mpSome (m2 addD (mOv 3) (mVal (mC (.int 1))))) mpNone)))))))))
noncomputable def g__law_no_sorts (c : Cs) : List D → Option (D × D) := defI 7 [.fr] (m__law_no_sorts c)
abbrev N__law_no_kinds : List Str := ["_law_source", "_law_sorts", "_law_kinds", "_law_sort", "_law_names_here", "_law_five", "_law_at", "_law_name", "_law_ends", "_law_some", "_law_partner"]
noncomputable def E__law_no_kinds_0 (c : Cs) : M D := mVar 7
noncomputable def L__law_no_kinds_0 (c : Cs) : M D := mLc (mSeqB 1) (gT (gsC (gN 7) (gsC (gN 10) gs0))) mYes (E__law_no_kinds_0 c) [7, 10]
noncomputable def E__law_no_kinds_1 (c : Cs) : M D := mTup (mdCons (mVar 7) (mdCons (mTup (mdCons (mVar 3) mdNil)) mdNil))
noncomputable def L__law_no_kinds_1 (c : Cs) : M D := mLc (mSeqOf (mLst (mdCons (mC (.str "aa")) (mdCons (mC (.str "bb")) (mdCons (mC (.str "cc")) (mdCons (mC (.str "dd")) (mdCons (mC (.str "ee")) mdNil))))))) (gN 7) mYes (E__law_no_kinds_1 c) [7]
noncomputable def m__law_no_kinds (c : Cs) : Ms := mSeq (mAsg (gN 3) (m2 ixD (mVal (m2 ixD (mOv 1) (mVal (mC (.int 0))))) (mVal (mC (.int 0))))) (mSeq (mAsgO 4 (mnA (fN1 sortF) (maCons (mVal (L__law_no_kinds_0 c)) maNil))) (mSeq (mIf (mTest (m2 eqD (mVal (mCallI 0 [.fr] (g__law_next c) (maCons (mVal (mC (.int 4))) maNil))) (mVal (mC (.int 0))))) (mSeq (mAsgO 5 (L__law_no_kinds_1 c)) (mRet (mCallI 0 [.fr] (g__law_one c) (maCons (mVal (mLst (mdCons (mC .non) (mdCons (mLst mdNil) (mdCons (mA (fA1 tupD) (maCons (mOv 2) maNil)) (mdCons (mC (.dk [] [])) (mdCons (mC (.str "three")) (mdCons (mC (.int 0)) (mdCons (mVar 5) (mdCons (m2 addD (mOv 2) (mVal (mSl slD (mOv 2) mpNone (mpSome (mC (.int 1)))))) mdNil)))))))))) maNil)))) (mNext)) (mSeq (mAsg (gN 6) (mCallI 0 [.fr] (g__law_next c) (maCons (mVal (mA (fA1 lenD) (maCons (mOv 2) maNil))) maNil))) (mSeq (mAsg (gT (gsC (gN 7) (gsC (gN 8) gs0))) (m2 ixD (mOv 2) (mOv 6))) (mSeq (mAsgO 9 (mLst (mdCons (mTup (mdCons (mVar 7) (mdCons (mTup mdNil) mdNil))) (mdCons (mTup (mdCons (mVar 7) (mdCons (m2 repYD (mVal (mTup (mdCons (mVar 3) mdNil))) (mVal (mC (.int 6)))) mdNil))) (mdCons (mTup (mdCons (mVar 7) (mdCons (mnA (fN1 listD) (maCons (mOv 8) maNil)) mdNil))) (mdCons (mTup (mdCons (mVar 7) (mdCons (mC .non) mdNil))) (mdCons (mTup (mdCons (mVar 7) (mdCons (m2 addD (mOv 8) (mVal (mTup (mdCons (mC (.str "nothing")) mdNil)))) mdNil))) (mdCons (mTup (mdCons (mVar 7) mdNil)) mdNil)))))))) (mSeq (mAsgO 9 (mn2 catF (mOv 9) (mVal (mLst (mdCons (mTup (mdCons (mVar 7) (mdCons (mVar 8) (mdCons (mC (.int 0)) mdNil)))) (mdCons (mLst (mdCons (mVar 7) (mdCons (mVar 8) mdNil))) (mdCons (mTup (mdCons (mCallI 0 [] (g__law_no_name c) maNil) (mdCons (mVar 8) mdNil))) (mdCons (mTup (mdCons (mVar 7) (mdCons (mTup (mdCons (mC .non) mdNil)) mdNil))) (mdCons (mTup (mdCons (mVar 7) (mdCons (mVar 3) mdNil))) (mdCons (mC .non) mdNil)))))))))) (mSeq (mIf (mTest (m2 (fI0 fun i j => .bl (decide (j < i))) (mVal (mA (fA1 lenD) (maCons (mOv 4) maNil))) (mVal (mC (.int 1))))) (mDrop (mMut appF 9 (mdCons (mTup (mdCons (mVar 7) (mdCons (mTup (mdCons (m2 ixD (mOv 4) (mVal (mC (.int 1)))) (mdCons (m2 ixD (mOv 4) (mVal (mC (.int 0)))) mdNil))) mdNil))) mdNil))) (mNext)) (mRet (m2 addD (mVal (m2 addD (mVal (mSl slD (mOv 2) mpNone (mpSome (mVar 6)))) (mVal (mLst (mdCons (mCallI 0 [.fr] (g__law_one c) (maCons (mVal (mVar 9)) maNil)) mdNil))))) (mVal (mSl slD (mOv 2) (mpSome (m2 addD (mOv 6) (mVal (mC (.int 1))))) mpNone)))))))))))
noncomputable def g__law_no_kinds (c : Cs) : List D → Option (D × D) := defI 11 [.fr, .fr] (m__law_no_kinds c)
abbrev N__law_alike : List Str := ["_law_sorts", "_law_kinds", "_law_one_here", "_law_turned"]
noncomputable def m__law_alike (c : Cs) : Ms := mSeq (mAsgO 2 (mMakeP c.stock [.bo, .bo] (g_Stock___init__ c) (maCons (mOv 0) (maCons (mOv 1) maNil)))) (mSeq (mAsg (gN 3) (m2 addD (mVal (mLst (mdCons (mTup (mdCons (m2 ixD (mVal (m2 ixD (mOv 1) (mVal (mC (.int 0))))) (mVal (mC (.int 0)))) (mdCons (m2 repYD (mVal (mTup (mdCons (m2 ixD (mVal (m2 ixD (mOv 0) (mVal (mC (.int 0))))) (mVal (mC (.int 0)))) mdNil))) (mVal (m2 addD (mVal (mC (.int 1))) (mVal (m2 (fI modOk fun i j => .int (i % j)) (mVal (mA (fA1 lenD) (maCons (mVal (m2 ixD (mVal (m2 ixD (mOv 1) (mVal (mC (.int 0))))) (mVal (mC (.int 1))))) maNil))) (mVal (mC (.int 5)))))))) mdNil))) mdNil))) (mVal (mSl slD (mOv 1) (mpSome (mC (.int 1))) mpNone)))) (mSeq (mIf (mOr (mNot (mTest (m2 (eqI c.stock (g_Stock___eq__ c)) (mOv 2) (mVal (mMakeP c.stock [.bo, .bo] (g_Stock___init__ c) (maCons (mVal (mnA (fN1 listD) (maCons (mOv 0) maNil))) (maCons (mVal (mnA (fN1 listD) (maCons (mOv 1) maNil))) maNil))))))) (mTest (m2 (neI c.stock (g_Stock___eq__ c)) (mOv 2) (mVal (mMakeP c.stock [.bo, .bo] (g_Stock___init__ c) (maCons (mOv 0) (maCons (mOv 1) maNil))))))) (mRet (mC (.bl false))) (mNext)) (mSeq (mIf (mAnd (mTest (m2 neD (mOv 3) (mOv 1))) (mTest (m2 (eqI c.stock (g_Stock___eq__ c)) (mOv 2) (mVal (mMakeP c.stock [.bo, .bo] (g_Stock___init__ c) (maCons (mOv 0) (maCons (mOv 3) maNil))))))) (mRet (mC (.bl false))) (mNext)) (mRet (mAndV (mNotV (m2 (eqP c.stock (g_Stock___eq__ c)) (mOv 2) (mVal (mTup (mdCons (mVar 0) (mdCons (mVar 1) mdNil)))))) (mAndV (mNotV (m2 (eqP c.stock (g_Stock___eq__ c)) (mOv 2) (mVal (mC (.int 5))))) (mNotV (m2 (eqP c.stock (g_Stock___eq__ c)) (mOv 2) (mVal (mC (.str "stock")))))))))))
noncomputable def g__law_alike (c : Cs) : List D → Option D := defG 4 [.fr, .fr] (m__law_alike c)
abbrev N_law : List Str := ["_law_script", "_law_cell", "_law_source", "_law_odd", "_law_sorts", "_law_kinds", "_law_handed", "_law_part", "_law_stock_here"]
noncomputable def A_law_0 (c : Cs) : Ms := mSeq (mAsgO 6 (mLst (mdCons (mnA (fN1 listD) (maCons (mOv 4) maNil)) (mdCons (mnA (fN1 listD) (maCons (mOv 5) maNil)) mdNil)))) (mSeq (mAsg (gN 7) (mC (.str ""))) (mSeq (mIf (mTest (m2 (inID false) (mOv 3) (mVal (mTup (mdCons (mC (.int 0)) (mdCons (mC (.int 2)) mdNil)))))) (mSeq (mPutI 6 (mC (.int 1)) (mCallI 2 [.fr, .fr] (g__law_no_kinds c) (maCons (mVal (mVar 4)) (maCons (mVal (mVar 5)) maNil)))) (mAsg (gN 7) (mC (.str "kinds")))) (mNext)) (mSeq (mIf (mTest (m2 (inID false) (mOv 3) (mVal (mTup (mdCons (mC (.int 1)) (mdCons (mC (.int 2)) mdNil)))))) (mSeq (mPutI 6 (mC (.int 0)) (mCallI 2 [.fr] (g__law_no_sorts c) (maCons (mVal (mVar 4)) maNil))) (mAsg (gN 7) (mC (.str "sorts")))) (mNext)) (mSeq (mIf (mTest (m2 neD (mOv 7) (mVal (mC (.str ""))))) (mIf (mTest (m2 neD (mVal (mCallP [.fr, .fr] (g__law_told c) (maCons (mVal (m2 ixD (mOv 6) (mVal (mC (.int 0))))) (maCons (mVal (m2 ixD (mOv 6) (mVal (mC (.int 1))))) maNil)))) (mVal (mTup (mdCons (mC (.str "none")) (mdCons (mVar 7) (mdCons (mC (.bl false)) mdNil))))))) (mRet (mC (.bl false))) (mNext)) (mVoid)) (mIf (mNot (mTest (mCallP [.fr, .fr] (g__law_alike c) (maCons (mVal (mVar 4)) (maCons (mVal (mVar 5)) maNil))))) (mRet (mC (.bl false))) (mNext))))))
noncomputable def M_law_1 (c : Cs) : Ms := mSeq (mAsg (gN 7) (mC (.str ""))) (mSeq (mIf (mTest (m2 (inID false) (mOv 3) (mVal (mTup (mdCons (mC (.int 0)) (mdCons (mC (.int 2)) mdNil)))))) (mVoid) (mNext)) (mIf (mTest (m2 (inID false) (mOv 3) (mVal (mTup (mdCons (mC (.int 1)) (mdCons (mC (.int 2)) mdNil)))))) (mVoid) (mNext)))
noncomputable def I_law_1 (c : Cs) : M Bool := mTest (m2 neD (mOv 7) (mVal (mC (.str ""))))
noncomputable def J_law_1 (c : Cs) : Ms := mSeq (mAsgO 8 (mMakeP c.stock [.bo, .bo] (g_Stock___init__ c) (maCons (mPart 6 0) (maCons (mPart 6 1) maNil)))) (mIf (mTest (mB 6 neD (mVal (mLst (mdCons (mVar 4) (mdCons (mVar 5) mdNil)))))) (mRet (mC (.bl false))) (mNext))
noncomputable def B_law_2 (c : Cs) : Ms := mSeq (mAsgO 2 (mCallN [.fr] (g__law_source_of c) (maCons (mVal (mVar 1)) maNil))) (mSeq (mAsg (gN 3) (mCallI 2 [.fr] (g__law_next c) (maCons (mVal (mC (.int 6))) maNil))) (mSeq (mAsg (gT (gsC (gN 4) (gsC (gN 5) gs0))) (mCallI 2 [.fr] (g__law_stockB c) (maCons (mVal (mC (.int 5))) maNil))) (mAlt (A_law_0 c) (mPartsW 6 2 (mlCons (mnA (fN1 listD) (maCons (mOv 4) maNil)) (mlCons (mnA (fN1 listD) (maCons (mOv 5) maNil)) mlNil)) (mSeq (M_law_1 c) (mSeq (mIf (I_law_1 c) mVoid mNext) (J_law_1 c))) (mSeq (mSeq (mIf (mTest (m2 neD (mVal (mTup (mdCons (m1 (fldD [c.stock] "sorts") (mOv 8)) (mdCons (m1 (fldD [c.stock] "kinds") (mOv 8)) mdNil)))) (mVal (mTup (mdCons (mVar 4) (mdCons (mVar 5) mdNil)))))) (mRet (mC (.bl false))) (mNext)) (mIf (mTest (m2 neD (mVal (mCallP [.fr, .fr] (g__law_told c) (maCons (mVal (mVar 4)) (maCons (mVal (mVar 5)) maNil)))) (mVal (mTup (mdCons (mC (.str "told")) (mdCons (mTup (mdCons (mVar 4) (mdCons (mVar 5) mdNil))) (mdCons (mC (.bl true)) mdNil))))))) (mRet (mC (.bl false))) (mNext))) (mIf (mNot (mTest (mCallP [.fr, .fr] (g__law_alike c) (maCons (mVal (mVar 4)) (maCons (mVal (mVar 5)) maNil))))) (mRet (mC (.bl false))) (mNext)))))))
noncomputable def m_law (c : Cs) : Ms := mSeq (mFor (mSeqOf (m2 addD (mVal (mScSl 0 none (some 10))) (mVal (mLst (mdCons (mC (.int 0)) (mdCons (mC (.int 1)) mdNil)))))) (gN 1) (B_law_2 c)) (mRet (mC (.bl true)))
/-! ### it does -/
section
variable {P : Program} {w : World} {K : Fg} {mg : Str → Option Value} {base : Heap} {c : Cs}
theorem sc_NoStock___init__ : FnScope ["self", "part"] ["self", "part"] (defScope s_NoStock___init__) := ⟨rfl, rfl, rfl, by decide +kernel, rfl, by decide +kernel, by decide +kernel⟩
theorem ok_NoStock___init__ {f : Addr} {fd : FuncData} (F : Fun K "__init__" "NoStock.__init__" s_NoStock___init__ f fd) (k : EeK K (c.x 0)) (g : mg "EndError" = some (.ref (c.x 0))) : FnOk P w K mg base CX0 1 f fd ["self", "part"] (SpE K "part") :=
  fn_e (N := ["self", "part"]) F sc_NoStock___init__ rfl fun cdv A outer s H E => pss_cons (ps_expr (pe_eeinit k rfl g (pa_cons (x_var (W := W0) 0).p (pa_cons pe_str pa_nil)))) (pss_one (ps_ost (x_var (W := W0) 0).p (x_var (W := W0) 1).p))
theorem sc_is_name : FnScope N_is_name ["thing"] (defScope s_is_name) := ⟨rfl, rfl, rfl, by decide +kernel, rfl, by decide +kernel, by decide +kernel⟩
theorem ok_is_name {f : Addr} {fd : FuncData} (F : Fun K "is_name" "is_name" s_is_name f fd) (T : Txt K mg c) : FnOk P w K mg base CX0 1 f fd ["thing"] (SpP K [.fr] (g_is_name c)) :=
  fn_g (N := N_is_name) (k := 0) F sc_is_name rfl fun cdv A outer s H E hr => ⟨_, b_cons (s_if (t_w (w_or (t_not (t_val (x_isi (K := K) T.b_isinstance T.b_str (by decide +kernel) (o_var 0)))) (w_or1 (t_not (t_leLe (o_e (x_int)) (o_e (x_len (K := K) T.b_len (o_var 0))) (o_e (x_int))))))) (b_one (s_ret (x_bl))) (b_nil)) (b_one (s_ret (x_all (K := K) rfl T.b_all (o_e (x_n (n_lc (own := [("letter", 1)]) rfl sc_is_name.nd (i_str (x_var 0)) (blkOk_by (own := [("letter", 1)]) (N := N_is_name) (sc := defScope s_is_name) (by decide +kernel)) (fun _ _ _ _ _ => (g_name (vs := [1]) 1 sc_is_name.nd)) (fun _ _ _ _ _ => ts_nil) (fun _ _ _ _ _ => x_inS (o_var 1) (o_e (x_globS T.c_LETTERS.choose_spec)))))))))⟩
theorem sc_is_sort_row : FnScope N_is_sort_row ["thing"] (defScope s_is_sort_row) := ⟨rfl, rfl, rfl, by decide +kernel, rfl, by decide +kernel, by decide +kernel⟩
theorem ok_is_sort_row {f : Addr} {fd : FuncData} (F : Fun K "is_sort_row" "is_sort_row" s_is_sort_row f fd) (T : Txt K mg c) (h_is_name : CallP P w K mg base "is_name" 1 ["thing"] [.fr] (g_is_name c)) : FnOk P w K mg base CX0 2 f fd ["thing"] (SpP K [.fr] (g_is_sort_row c)) :=
  fn_g (N := N_is_sort_row) (k := 1) F sc_is_sort_row rfl fun cdv A outer s H E hr => ⟨_, b_one (s_ret (x_and (x_isi (K := K) T.b_isinstance T.b_tuple (by decide +kernel) (o_var 0)) (x_and (x_eq (K := K) hr (o_e (x_len (K := K) T.b_len (o_var 0))) (o_e (x_int))) (x_and (x_cq (K := K) h_is_name hr (a_cons (o_e (x_ix (K := K) (o_var 0) (o_e (x_int)))) a_nil)) (x_one (x_cq (K := K) h_is_name hr (a_cons (o_e (x_ix (K := K) (o_var 0) (o_e (x_int)))) a_nil)))))))⟩
theorem sc_are_sorts : FnScope N_are_sorts ["thing"] (defScope s_are_sorts) := ⟨rfl, rfl, rfl, by decide +kernel, rfl, by decide +kernel, by decide +kernel⟩
theorem ok_are_sorts {f : Addr} {fd : FuncData} (F : Fun K "are_sorts" "are_sorts" s_are_sorts f fd) (T : Txt K mg c) (h_is_sort_row : CallP P w K mg base "is_sort_row" 2 ["thing"] [.fr] (g_is_sort_row c)) : FnOk P w K mg base CX0 3 f fd ["thing"] (SpP K [.bo] (g_are_sorts c)) :=
  fn_g (N := N_are_sorts) (k := 2) F sc_are_sorts rfl fun cdv A outer s H E hr => ⟨_, b_cons (s_if (t_w (w_or (t_not (t_val (x_isi (K := K) T.b_isinstance T.b_list (by decide +kernel) (o_var 0)))) (w_or (t_not (t_leLe (o_e (x_int)) (o_e (x_len (K := K) T.b_len (o_var 0))) (o_e (x_int)))) (w_or1 (t_not (t_val (x_all (K := K) rfl T.b_all (o_e (x_n (n_lc (own := [("row", 1)]) rfl sc_are_sorts.nd (i_listB (K := K) (x_var 0)) (blkOk_by (own := [("row", 1)]) (N := N_are_sorts) (sc := defScope s_are_sorts) (by decide +kernel)) (fun _ _ _ _ _ => (g_name (vs := [1]) 1 sc_are_sorts.nd)) (fun _ _ _ _ _ => ts_nil) (fun _ _ _ _ _ => x_cq (K := K) h_is_sort_row hr (a_cons (o_e (x_var 1)) a_nil)))))))))))) (b_one (s_ret (x_bl))) (b_nil)) (b_cons (s_if (t_lt (o_e (x_lenSet (K := K) rfl T.b_len T.b_set (o_e (x_n (n_lc (own := [("sort", 2), ("partner", 3)]) rfl sc_are_sorts.nd (i_listB (K := K) (x_var 0)) (blkOk_by (own := [("sort", 2), ("partner", 3)]) (N := N_are_sorts) (sc := defScope s_are_sorts) (by decide +kernel)) (fun _ _ _ _ _ => (g_tup (K := K) rfl (gs_cons (g_name (vs := [2, 3]) 2 sc_are_sorts.nd) (gs_cons (g_name (vs := [2, 3]) 3 sc_are_sorts.nd) gs_nil)))) (fun _ _ _ _ _ => ts_nil) (fun _ _ _ _ _ => x_var 2)))))) (o_e (x_len (K := K) T.b_len (o_var 0)))) (b_one (s_ret (x_bl))) (b_nil)) (b_one (s_ret (x_all (K := K) rfl T.b_all (o_e (x_n (n_lc (own := [("sort", 2), ("partner", 3)]) rfl sc_are_sorts.nd (i_listB (K := K) (x_var 0)) (blkOk_by (own := [("sort", 2), ("partner", 3)]) (N := N_are_sorts) (sc := defScope s_are_sorts) (by decide +kernel)) (fun _ _ _ _ _ => (g_tup (K := K) rfl (gs_cons (g_name (vs := [2, 3]) 2 sc_are_sorts.nd) (gs_cons (g_name (vs := [2, 3]) 3 sc_are_sorts.nd) gs_nil)))) (fun _ _ _ _ _ => ts_nil) (fun _ _ _ _ _ => x_inL (K := K) hr (o_e (x_tup (d_cons (x_var 3) (d_cons (x_var 2) d_nil)))) (o_var 0)))))))))⟩
theorem sc_is_kind_row : FnScope N_is_kind_row ["thing", "sorts"] (defScope s_is_kind_row) := ⟨rfl, rfl, rfl, by decide +kernel, rfl, by decide +kernel, by decide +kernel⟩
theorem ok_is_kind_row {f : Addr} {fd : FuncData} (F : Fun K "is_kind_row" "is_kind_row" s_is_kind_row f fd) (T : Txt K mg c) (h_is_name : CallP P w K mg base "is_name" 1 ["thing"] [.fr] (g_is_name c)) : FnOk P w K mg base CX0 2 f fd ["thing", "sorts"] (SpP K [.fr, .fr] (g_is_kind_row c)) :=
  fn_g (N := N_is_kind_row) (k := 1) F sc_is_kind_row rfl fun cdv A outer s H E hr => ⟨_, b_cons (s_if (t_w (w_or (t_not (t_val (x_isi (K := K) T.b_isinstance T.b_tuple (by decide +kernel) (o_var 0)))) (w_or (t_ne (K := K) hr (o_e (x_len (K := K) T.b_len (o_var 0))) (o_e (x_int))) (w_or1 (t_not (t_val (x_cq (K := K) h_is_name hr (a_cons (o_e (x_ix (K := K) (o_var 0) (o_e (x_int)))) a_nil)))))))) (b_one (s_ret (x_bl))) (b_nil)) (b_cons (s_set 2 (x_ix (K := K) (o_var 0) (o_e (x_int))) sc_is_kind_row.nd) (b_cons (s_if (t_w (w_or (t_not (t_val (x_isi (K := K) T.b_isinstance T.b_tuple (by decide +kernel) (o_var 2)))) (w_or (t_not (t_leLe (o_e (x_int)) (o_e (x_len (K := K) T.b_len (o_var 2))) (o_e (x_int)))) (w_or1 (t_not (t_val (x_all (K := K) rfl T.b_all (o_e (x_n (n_lc (own := [("sort", 3)]) rfl sc_is_kind_row.nd (i_tup (K := K) (x_var 2)) (blkOk_by (own := [("sort", 3)]) (N := N_is_kind_row) (sc := defScope s_is_kind_row) (by decide +kernel)) (fun _ _ _ _ _ => (g_name (vs := [3]) 3 sc_is_kind_row.nd)) (fun _ _ _ _ _ => ts_nil) (fun _ _ _ _ _ => x_cq (K := K) h_is_name hr (a_cons (o_e (x_var 3)) a_nil)))))))))))) (b_one (s_ret (x_bl))) (b_nil)) (b_one (s_ret (x_and (x_all (K := K) rfl T.b_all (o_e (x_n (n_lc (own := [("sort", 3)]) rfl sc_is_kind_row.nd (i_tup (K := K) (x_var 2)) (blkOk_by (own := [("sort", 3)]) (N := N_is_kind_row) (sc := defScope s_is_kind_row) (by decide +kernel)) (fun _ _ _ _ _ => (g_name (vs := [3]) 3 sc_is_kind_row.nd)) (fun _ _ _ _ _ => ts_nil) (fun _ _ _ _ _ => x_inL (K := K) hr (o_var 3) (o_var 1)))))) (x_one (x_eq (K := K) hr (o_e (x_n (n_list (K := K) T.b_list (o_var 2)))) (o_e (x_n (n_sorted (K := K) hr T.b_sorted (o_var 2)))))))))))⟩
theorem sc_are_kinds : FnScope N_are_kinds ["thing", "sorts"] (defScope s_are_kinds) := ⟨rfl, rfl, rfl, by decide +kernel, rfl, by decide +kernel, by decide +kernel⟩
theorem ok_are_kinds {f : Addr} {fd : FuncData} (F : Fun K "are_kinds" "are_kinds" s_are_kinds f fd) (T : Txt K mg c) (h_is_kind_row : CallP P w K mg base "is_kind_row" 2 ["thing", "sorts"] [.fr, .fr] (g_is_kind_row c)) : FnOk P w K mg base CX0 3 f fd ["thing", "sorts"] (SpP K [.bo, .fr] (g_are_kinds c)) :=
  fn_g (N := N_are_kinds) (k := 2) F sc_are_kinds rfl fun cdv A outer s H E hr => ⟨_, b_cons (s_if (t_w (w_or (t_not (t_val (x_isi (K := K) T.b_isinstance T.b_list (by decide +kernel) (o_var 0)))) (w_or1 (t_not (t_leLe (o_e (x_int)) (o_e (x_len (K := K) T.b_len (o_var 0))) (o_e (x_int))))))) (b_one (s_ret (x_bl))) (b_nil)) (b_cons (s_if (t_not (t_val (x_all (K := K) rfl T.b_all (o_e (x_n (n_lc (own := [("row", 2)]) rfl sc_are_kinds.nd (i_listB (K := K) (x_var 0)) (blkOk_by (own := [("row", 2)]) (N := N_are_kinds) (sc := defScope s_are_kinds) (by decide +kernel)) (fun _ _ _ _ _ => (g_name (vs := [2]) 2 sc_are_kinds.nd)) (fun _ _ _ _ _ => ts_nil) (fun _ _ _ _ _ => x_cq (K := K) h_is_kind_row hr (a_cons (o_e (x_var 2)) (a_cons (o_e (x_var 1)) a_nil))))))))) (b_one (s_ret (x_bl))) (b_nil)) (b_one (s_ret (x_eq (K := K) hr (o_e (x_lenSet (K := K) rfl T.b_len T.b_set (o_e (x_n (n_lc (own := [("name", 3), ("ends", 4)]) rfl sc_are_kinds.nd (i_listB (K := K) (x_var 0)) (blkOk_by (own := [("name", 3), ("ends", 4)]) (N := N_are_kinds) (sc := defScope s_are_kinds) (by decide +kernel)) (fun _ _ _ _ _ => (g_tup (K := K) rfl (gs_cons (g_name (vs := [3, 4]) 3 sc_are_kinds.nd) (gs_cons (g_name (vs := [3, 4]) 4 sc_are_kinds.nd) gs_nil)))) (fun _ _ _ _ _ => ts_nil) (fun _ _ _ _ _ => x_var 3)))))) (o_e (x_len (K := K) T.b_len (o_var 0)))))))⟩
theorem sc_Stock___init__ : FnScope N_Stock___init__ ["self", "sorts", "kinds"] (defScope s_Stock___init__) := ⟨rfl, rfl, rfl, by decide +kernel, rfl, by decide +kernel, by decide +kernel⟩
theorem ok_Stock___init__ {f : Addr} {fd : FuncData} (F : Fun K "__init__" "Stock.__init__" s_Stock___init__ f fd) (T : Txt K mg c) (h_are_sorts : CallP P w K mg base "are_sorts" 3 ["thing"] [.bo] (g_are_sorts c)) (h_are_kinds : CallP P w K mg base "are_kinds" 3 ["thing", "sorts"] [.bo, .fr] (g_are_kinds c)) : FnOk P w K mg base CX0 4 f fd ["self", "sorts", "kinds"] (SpI K [.bo, .bo] (g_Stock___init__ c)) :=
  fn_i (N := N_Stock___init__) (k := 3) F sc_Stock___init__ rfl fun cdv A outer s H E hr => ⟨_, b_cons (s_if (t_not (t_val (x_cq (K := K) h_are_sorts hr (a_cons (o_var 1) a_nil)))) (b_one (s_never)) (b_nil)) (b_cons (s_if (t_not (t_val (x_cq (K := K) h_are_kinds hr (a_cons (o_var 2) (a_cons (o_e (x_n (n_lc (own := [("sort", 3), ("partner", 4)]) rfl sc_Stock___init__.nd (i_listB (K := K) (x_var 1)) (blkOk_by (own := [("sort", 3), ("partner", 4)]) (N := N_Stock___init__) (sc := defScope s_Stock___init__) (by decide +kernel)) (fun _ _ _ _ _ => (g_tup (K := K) rfl (gs_cons (g_name (vs := [3, 4]) 3 sc_Stock___init__.nd) (gs_cons (g_name (vs := [3, 4]) 4 sc_Stock___init__.nd) gs_nil)))) (fun _ _ _ _ _ => ts_nil) (fun _ _ _ _ _ => x_var 3)))) a_nil))))) (b_one (s_never)) (b_nil)) (b_cons (s_fld (K := K) (T.k_stock_sorts) (x_var (W := W0) 0).p (x_n (n_list (K := K) T.b_list (o_var 1)))) (b_one (s_fld (K := K) (T.k_stock_kinds) (x_var (W := W0) 0).p (x_n (n_list (K := K) T.b_list (o_var 2)))))))⟩
theorem sc__law_source_of : FnScope N__law_source_of ["_law_cell"] (defScope s__law_source_of) := ⟨rfl, rfl, rfl, by decide +kernel, rfl, by decide +kernel, by decide +kernel⟩
theorem ok__law_source_of {f : Addr} {fd : FuncData} (F : Fun K "_law_source_of" "_law_source_of" s__law_source_of f fd) (T : Txt K mg c) : FnOk P w K mg base CX0 1 f fd ["_law_cell"] (SpN K [.fr] (g__law_source_of c)) :=
  fn_n (N := N__law_source_of) (k := 0) F sc__law_source_of rfl fun cdv A outer s H E hr => ⟨_, b_one (s_retW (n_lst (d_cons (x_mul (o_var 0) (o_e (x_int1 T.b_int (o_e (x_ge (o_var 0) (o_e (x_pow (o_e (x_int)) (o_e (x_int))))))))) (d_cons (x_mod (o_var 0) (o_e (x_int))) (d_cons (x_int) d_nil)))))⟩
theorem sc__law_next : FnScope N__law_next ["_law_source", "_law_many"] (defScope s__law_next) := ⟨rfl, rfl, rfl, by decide +kernel, rfl, by decide +kernel, by decide +kernel⟩
theorem ok__law_next {f : Addr} {fd : FuncData} (F : Fun K "_law_next" "_law_next" s__law_next f fd) (T : Txt K mg c) : FnOk P w K mg base CX0 1 f fd ["_law_source", "_law_many"] (SpI K [.fr] (g__law_next c)) :=
  fn_i (N := N__law_next) (k := 0) F sc__law_next rfl fun cdv A outer s H E hr => ⟨_, b_cons (s_if (t_gt (o_e (x_ix (K := K) (o_var 0) (o_e (x_int)))) (o_e (x_int))) (b_cons (s_set 2 (x_mod (o_e (x_ix (K := K) (o_var 0) (o_e (x_int)))) (o_var 1)) sc__law_next.nd) (b_cons (s_putI (x_var (W := W0) 0).p (x_int) (x_div (o_e (x_ix (K := K) (o_var 0) (o_e (x_int)))) (o_var 1))) (b_one (s_ret (x_var 2))))) (b_nil)) (b_cons (s_putI (x_var (W := W0) 0).p (x_int) (x_add (K := K) (o_e (x_ix (K := K) (o_var 0) (o_e (x_int)))) (o_e (x_int)))) (b_cons (s_set 3 (x_ix (K := K) (o_e (x_n (n_lst (d_cons (x_int) (d_cons (x_int) (d_cons (x_int) (d_cons (x_int) (d_cons (x_int) (d_cons (x_int) (d_cons (x_int) d_nil)))))))))) (o_e (x_mod (o_e (x_ix (K := K) (o_var 0) (o_e (x_int)))) (o_e (x_int))))) sc__law_next.nd) (b_cons (s_set 4 (x_mod (o_e (x_pow (o_e (x_add (K := K) (o_e (x_add (K := K) (o_e (x_ix (K := K) (o_var 0) (o_e (x_int)))) (o_e (x_mul (o_e (x_int)) (o_e (x_ix (K := K) (o_var 0) (o_e (x_int)))))))) (o_e (x_int)))) (o_e (x_int)))) (o_var 3)) sc__law_next.nd) (b_cons (s_set 4 (x_mod (o_e (x_mul (o_e (x_add (K := K) (o_var 4) (o_e (x_ix (K := K) (o_var 0) (o_e (x_int)))))) (o_e (x_add (K := K) (o_e (x_div (o_var 4) (o_e (x_int)))) (o_e (x_int)))))) (o_var 3)) sc__law_next.nd) (b_one (s_ret (x_mod (o_e (x_div (o_var 4) (o_e (x_int)))) (o_var 1))))))))⟩
theorem sc__law_one : FnScope N__law_one ["_law_source", "_law_some"] (defScope s__law_one) := ⟨rfl, rfl, rfl, by decide +kernel, rfl, by decide +kernel, by decide +kernel⟩
theorem ok__law_one {f : Addr} {fd : FuncData} (F : Fun K "_law_one" "_law_one" s__law_one f fd) (T : Txt K mg c) (h__law_next : CallI P w K mg base "_law_next" 1 ["_law_source", "_law_many"] [.fr] (g__law_next c)) : FnOk P w K mg base CX0 2 f fd ["_law_source", "_law_some"] (SpI K [.fr] (g__law_one c)) :=
  fn_i (N := N__law_one) (k := 1) F sc__law_one rfl fun cdv A outer s H E hr => ⟨_, b_one (s_ret (x_ix (K := K) (o_var 1) (o_e (x_cqi (K := K) h__law_next hr (x_var 0) (a_cons (o_e (x_len (K := K) T.b_len (o_var 1))) a_nil)))))⟩
theorem sc__law_names : FnScope N__law_names ["_law_source", "_law_many"] (defScope s__law_names) := ⟨rfl, rfl, rfl, by decide +kernel, rfl, by decide +kernel, by decide +kernel⟩
theorem ok__law_names {f : Addr} {fd : FuncData} (F : Fun K "_law_names" "_law_names" s__law_names f fd) (T : Txt K mg c) (h__law_next : CallI P w K mg base "_law_next" 1 ["_law_source", "_law_many"] [.fr] (g__law_next c)) (h__law_one : CallI P w K mg base "_law_one" 2 ["_law_source", "_law_some"] [.fr] (g__law_one c)) : FnOk P w K mg base CX0 3 f fd ["_law_source", "_law_many"] (SpI K [.fr] (g__law_names c)) :=
  fn_i (N := N__law_names) (k := 2) F sc__law_names rfl fun cdv A outer s H E hr => ⟨_, b_cons (s_setO 2 (n_lst (d_cons (x_str) (d_cons (x_str) (d_cons (x_str) (d_cons (x_str) (d_cons (x_str) (d_cons (x_str) (d_cons (x_str) (d_cons (x_str) (d_cons (x_str) (d_cons (x_str) d_nil))))))))))) sc__law_names.nd) (b_cons (s_set 3 (x_cqi (K := K) h__law_next hr (x_var 0) (a_cons (o_e (x_int)) a_nil)) sc__law_names.nd) (b_cons (s_if (t_eq (K := K) hr (o_e (x_cqi (K := K) h__law_next hr (x_var 0) (a_cons (o_e (x_int)) a_nil))) (o_e (x_int))) (b_one (s_ret (x_sl (K := K) (o_e (x_add (K := K) (o_e (x_sl (K := K) (o_var 2) (p_some (x_var 3)) p_none)) (o_e (x_sl (K := K) (o_var 2) p_none (p_some (x_var 3)))))) p_none (p_some (x_var 1))))) (b_nil)) (b_cons (s_setO 4 (n_lst d_nil) sc__law_names.nd) (b_cons (s_for PassesOwn.never rfl (i_str (x_sl (K := K) (o_e (x_str)) p_none (p_some (x_var 1)))) (g_name (vs := [5]) 5 sc__law_names.nd) (b_cons (s_set 6 (x_str) sc__law_names.nd) (b_cons (s_for PassesOwn.never rfl (i_range1 T.b_range (d_cons (x_cqi (K := K) h__law_one hr (x_var 0) (a_cons (o_e (x_n (n_lst (d_cons (x_int) (d_cons (x_int) (d_cons (x_cqi (K := K) h__law_next hr (x_var 0) (a_cons (o_e (x_int)) a_nil)) d_nil)))))) a_nil)) d_nil)) (g_name (vs := [7]) 7 sc__law_names.nd) (b_one (s_set 6 (x_add (K := K) (o_var 6) (o_e (x_ix (K := K) (o_e (x_str)) (o_e (x_cqi (K := K) h__law_next hr (x_var 0) (a_cons (o_e (x_int)) a_nil)))))) sc__law_names.nd))) (b_one (s_expr (x_app (K := K) (x_var (W := W0) 4).p (d_cons (x_add (K := K) (o_var 6) (o_var 5)) d_nil))))))) (b_one (s_ret (x_var 4)))))))⟩
theorem sc__law_stock : FnScope NK__law_stockB ["_law_source", "_law_most"] (defScope s__law_stock) := ⟨rfl, rfl, rfl, by decide +kernel, rfl, by decide +kernel, by decide +kernel⟩
theorem ok__law_stock {f : Addr} {fd : FuncData} (F : Fun K "_law_stock" "_law_stock" s__law_stock f fd) (T : Txt K mg c) (h__law_names : CallI P w K mg base "_law_names" 3 ["_law_source", "_law_many"] [.fr] (g__law_names c)) (h__law_next : CallI P w K mg base "_law_next" 1 ["_law_source", "_law_many"] [.fr] (g__law_next c)) (h__law_one : CallI P w K mg base "_law_one" 2 ["_law_source", "_law_some"] [.fr] (g__law_one c)) : FnOk P w K mg base CX0 4 f fd ["_law_source", "_law_most"] (SpI K [.fr] (g__law_stockB c)) :=
  fn_i (N := NK__law_stockB) (k := 3) F sc__law_stock rfl fun cdv A outer s H E hr => ⟨_, b_cons (s_set 2 (x_cqi (K := K) h__law_names hr (x_var 0) (a_cons (o_e (x_int)) a_nil)) sc__law_stock.nd) (b_cons (s_set 3 (x_cqi (K := K) h__law_next hr (x_var 0) (a_cons (o_e (x_int)) a_nil)) sc__law_stock.nd) (b_cons (s_unl (K := K) rfl (x_var 2) (gs_cons (g_name (vs := [4, 5, 6]) 4 sc__law_stock.nd) (gs_cons (g_name (vs := [4, 5, 6]) 5 sc__law_stock.nd) (gs_cons (g_name (vs := [4, 5, 6]) 6 sc__law_stock.nd) gs_nil)))) (b_cons (s_setO 7 (n_lst (d_cons (x_n (n_lst (d_cons (x_tup (d_cons (x_var 4) (d_cons (x_var 4) d_nil))) d_nil))) (d_cons (x_n (n_lst (d_cons (x_tup (d_cons (x_var 4) (d_cons (x_var 5) d_nil))) (d_cons (x_tup (d_cons (x_var 5) (d_cons (x_var 4) d_nil))) d_nil)))) (d_cons (x_n (n_lst (d_cons (x_tup (d_cons (x_var 4) (d_cons (x_var 4) d_nil))) (d_cons (x_tup (d_cons (x_var 5) (d_cons (x_var 6) d_nil))) (d_cons (x_tup (d_cons (x_var 6) (d_cons (x_var 5) d_nil))) d_nil))))) (d_cons (x_n (n_lst (d_cons (x_tup (d_cons (x_var 4) (d_cons (x_var 4) d_nil))) (d_cons (x_tup (d_cons (x_var 5) (d_cons (x_var 5) d_nil))) d_nil)))) d_nil))))) sc__law_stock.nd) (b_cons (s_set 7 (x_ix (K := K) (o_e (x_add (K := K) (o_var 7) (o_e (x_sl (K := K) (o_var 7) p_none (p_some (x_int)))))) (o_var 3)) sc__law_stock.nd) (b_cons (s_if (t_eq (K := K) hr (o_e (x_cqi (K := K) h__law_next hr (x_var 0) (a_cons (o_e (x_int)) a_nil))) (o_e (x_int))) (b_one (s_setO 7 (n_rev (K := K) (o_var 7)) sc__law_stock.nd)) (b_nil)) (b_cons (s_setO 8 (n_lst d_nil) sc__law_stock.nd) (b_cons (s_for PassesOwn.never rfl (i_list (K := K) (x_cqi (K := K) h__law_names hr (x_var 0) (a_cons (o_e (x_add (K := K) (o_e (x_int)) (o_e (x_cqi (K := K) h__law_next hr (x_var 0) (a_cons (o_e (x_int)) a_nil))))) a_nil))) (g_name (vs := [9]) 9 sc__law_stock.nd) (b_cons (s_setLc (own := [("_law_k", 11)]) 10 rfl sc__law_stock.nd rfl rfl (sw_true rfl rfl rfl (by decide +kernel)) (i_range1 T.b_range (d_cons (x_cqi (K := K) h__law_one hr (x_var 0) (a_cons (o_e (x_n (n_lst (d_cons (x_add (K := K) (o_e (x_int)) (o_e (x_cqi (K := K) h__law_next hr (x_var 0) (a_cons (o_e (x_var 1)) a_nil)))) (d_cons (x_var 1) (d_cons (x_int) d_nil)))))) a_nil)) d_nil)) (blkOk_by (own := [("_law_k", 11)]) (N := NK__law_stockB) (sc := defScope s__law_stock) (by decide +kernel)) (fun _ _ _ _ _ => (g_name (vs := [11]) 11 sc__law_stock.nd)) (fun _ _ _ _ _ => ts_nil) (fun _ _ _ _ _ => x_ix (K := K) (o_e (x_cqi (K := K) h__law_one hr (x_var 0) (a_cons (o_e (x_var 7)) a_nil))) (o_e (x_int)))) (b_one (s_expr (x_app (K := K) (x_var (W := W0) 8).p (d_cons (x_tup (d_cons (x_var 9) (d_cons (x_tuple (K := K) T.b_tuple (o_e (x_n (n_sorted (K := K) hr T.b_sorted (o_var 10))))) d_nil))) d_nil)))))) (b_one (s_ret (x_tup (d_cons (x_var 7) (d_cons (x_var 8) d_nil))))))))))))⟩
theorem sc_Stock___eq__ : FnScope N_Stock___eq__ ["self", "thing"] (defScope s_Stock___eq__) := ⟨rfl, rfl, rfl, by decide +kernel, rfl, by decide +kernel, by decide +kernel⟩
theorem ok_Stock___eq__ {f : Addr} {fd : FuncData} (F : Fun K "__eq__" "Stock.__eq__" s_Stock___eq__ f fd) (T : Txt K mg c) : FnOk P w K mg base CX0 1 f fd ["self", "thing"] (SpP K [.bo, .bo] (g_Stock___eq__ c)) :=
  fn_g (N := N_Stock___eq__) (k := 0) F sc_Stock___eq__ rfl fun cdv A outer s H E hr => ⟨_, b_one (s_ret (x_and (x_isC (K := K) T.i_stock T.b_isinstance T.g_stock (o_var 1)) (x_and (x_eq (K := K) hr (o_e (x_fld (K := K) T.f_stock_sorts (o_var 0))) (o_e (x_fld (K := K) T.f_stock_sorts (o_var 1)))) (x_one (x_eq (K := K) hr (o_e (x_fld (K := K) T.f_stock_kinds (o_var 0))) (o_e (x_fld (K := K) T.f_stock_kinds (o_var 1))))))))⟩
theorem sc_Stock___init__X : FnScope N_Stock___init__X ["self", "sorts", "kinds"] (defScope s_Stock___init__X) := ⟨rfl, rfl, rfl, by decide +kernel, rfl, by decide +kernel, by decide +kernel⟩
theorem ok_Stock___init__X {f : Addr} {fd : FuncData} (F : Fun K "__init__" "Stock.__init__" s_Stock___init__X f fd) (T : Txt K mg c) (h_are_sorts : CallP P w K mg base "are_sorts" 3 ["thing"] [.bo] (g_are_sorts c)) (h_are_kinds : CallP P w K mg base "are_kinds" 3 ["thing", "sorts"] [.bo, .fr] (g_are_kinds c)) (hx_NoStock : ExF P w K mg base (c.x 1) "part") : FnOk P w K mg base (L2.CX P w) 4 f fd ["self", "sorts", "kinds"] (SpD K (.io :: [.bo, .bo]) (g_Stock___init__X c)) :=
  fn_ix (N := N_Stock___init__X) (k := 3) F sc_Stock___init__X rfl fun cdv A outer s H E hr tk => ⟨_, b_cons (s_if (t_not (t_val (x_cq (K := K) h_are_sorts hr (a_cons (o_var 1) a_nil)))) (b_one (s_raiseF hx_NoStock hr (by decide) T.xg_NoStock tk (x_str))) (b_nil)) (b_cons (s_if (t_not (t_val (x_cq (K := K) h_are_kinds hr (a_cons (o_var 2) (a_cons (o_e (x_n (n_lc (own := [("sort", 3), ("partner", 4)]) rfl sc_Stock___init__X.nd (i_listB (K := K) (x_var 1)) (blkOk_by (own := [("sort", 3), ("partner", 4)]) (N := N_Stock___init__X) (sc := defScope s_Stock___init__X) (by decide +kernel)) (fun _ _ _ _ _ => (g_tup (K := K) rfl (gs_cons (g_name (vs := [3, 4]) 3 sc_Stock___init__X.nd) (gs_cons (g_name (vs := [3, 4]) 4 sc_Stock___init__X.nd) gs_nil)))) (fun _ _ _ _ _ => ts_nil) (fun _ _ _ _ _ => x_var 3)))) a_nil))))) (b_one (s_raiseF hx_NoStock hr (by decide) T.xg_NoStock tk (x_str))) (b_nil)) (b_cons (s_fld (K := K) (T.k_stock_sorts) (x_var (W := W0) 0).p (x_n (n_list (K := K) T.b_list (o_var 1)))) (b_one (s_fld (K := K) (T.k_stock_kinds) (x_var (W := W0) 0).p (x_n (n_list (K := K) T.b_list (o_var 2)))))))⟩
theorem sc__law_told : FnScope N__law_told ["_law_sorts", "_law_kinds"] (defScope s__law_told) := ⟨rfl, rfl, rfl, by decide +kernel, rfl, by decide +kernel, by decide +kernel⟩
theorem ok__law_told {f : Addr} {fd : FuncData} (F : Fun K "_law_told" "_law_told" s__law_told f fd) (T : Txt K mg c) (h_Stock___init__X : MakeX P w K mg base "Stock" c.stock 4 ["self", "sorts", "kinds"] [.bo, .bo] (g_Stock___init__X c)) : FnOk P w K mg base CX0 6 f fd ["_law_sorts", "_law_kinds"] (SpP K [.fr, .fr] (g__law_told c)) :=
  fn_g (N := N__law_told) (k := 5) F sc__law_told rfl fun cdv A outer s H E hr => be_try (s_tryF (R := [1]) (cx := c.x) (fld := "part") sc__law_told.nd (fun W pn xe tk => ⟨_, b_one (s_setO 2 (n_mkx (K := K) h_Stock___init__X hr tk (a_cons (o_var 0) (a_cons (o_var 1) a_nil))) sc__law_told.nd)⟩) (XClF.cons (ts := [1]) (i := (some 3)) ⟨rfl, by decide, .inl T.xg_NoStock⟩ (Or.inr ⟨_, _, rfl, rfl, rfl, rfl⟩) T.xe_NoStock (fun tg htg hts d y hp a dd oe pn hz hf => ⟨_, b_one (s_ret (x_tup (d_cons (x_str) (d_cons (x_fldE (T.xf tg htg).1 (T.xf tg htg).2 (plV_rep hp) hz hf (x_var 3)) (d_cons (x_or (x_isFt (Cs := ([2, 11] : List Nat).map c.x) (T.xc tg htg) hz hf (by rw [List.length_map]; decide) (kit_in [2, 11] fun j hj => T.xk tg htg j (by revert j hj; decide)) T.b_isinstance (pa_cls T.xg_NoDrawing (pa_cls T.xg_NoWeights (pa_cls0))) (x_var 3)) (x_one (x_not (x_isFc (T.xc tg htg) hz hf (T.x0 tg htg) T.b_isinstance T.xg_EndError (x_var 3))))) d_nil)))))⟩) (XClF.cons (ts := [1]) (i := none) ⟨rfl, by decide, .inl T.xg_EndError⟩ (Or.inl ⟨rfl, rfl⟩) T.xe_EndError (fun tg htg hts d y hp a dd oe pn hz hf => ⟨_, b_one (s_ret (x_tup (d_cons (x_str) (d_cons (x_non) (d_cons (x_bl) d_nil)))))⟩) XClF.nil))) (⟨_, b_one (s_ret (x_tup (d_cons (x_str) (d_cons (x_tup (d_cons (x_fld (K := K) T.f_stock_sorts (o_var 2)) (d_cons (x_fld (K := K) T.f_stock_kinds (o_var 2)) d_nil))) (d_cons (x_and (x_isi (K := K) T.b_isinstance T.b_list (by decide +kernel) (o_e (x_fld (K := K) T.f_stock_sorts (o_var 2)))) (x_one (x_isi (K := K) T.b_isinstance T.b_list (by decide +kernel) (o_e (x_fld (K := K) T.f_stock_kinds (o_var 2)))))) d_nil)))))⟩)
theorem sc__law_no_name : FnScope N__law_no_name ["_law_source"] (defScope s__law_no_name) := ⟨rfl, rfl, rfl, by decide +kernel, rfl, by decide +kernel, by decide +kernel⟩
theorem ok__law_no_name {f : Addr} {fd : FuncData} (F : Fun K "_law_no_name" "_law_no_name" s__law_no_name f fd) (T : Txt K mg c) (h__law_one : CallI P w K mg base "_law_one" 2 ["_law_source", "_law_some"] [.fr] (g__law_one c)) : FnOk P w K mg base CX0 3 f fd ["_law_source"] (SpI K [] (g__law_no_name c)) :=
  fn_i (N := N__law_no_name) (k := 2) F sc__law_no_name rfl fun cdv A outer s H E hr => ⟨_, b_one (s_ret (x_cqi (K := K) h__law_one hr (x_var 0) (a_cons (o_e (x_n (n_lst (d_cons (x_str) (d_cons (x_str) (d_cons (x_str) (d_cons (x_str) (d_cons (x_str) (d_cons (x_non) (d_cons (x_int) (d_cons (x_tup (d_cons (x_str) d_nil)) (d_cons (x_n (n_lst (d_cons (x_str) d_nil))) (d_cons (x_str) (d_cons (x_bl) (d_cons (x_str) d_nil))))))))))))))) a_nil)))⟩
theorem sc__law_no_sorts : FnScope N__law_no_sorts ["_law_source", "_law_sorts"] (defScope s__law_no_sorts) := ⟨rfl, rfl, rfl, by decide +kernel, rfl, by decide +kernel, by decide +kernel⟩
theorem ok__law_no_sorts {f : Addr} {fd : FuncData} (F : Fun K "_law_no_sorts" "_law_no_sorts" s__law_no_sorts f fd) (T : Txt K mg c) (h__law_next : CallI P w K mg base "_law_next" 1 ["_law_source", "_law_many"] [.fr] (g__law_next c)) (h__law_one : CallI P w K mg base "_law_one" 2 ["_law_source", "_law_some"] [.fr] (g__law_one c)) (h__law_no_name : CallI P w K mg base "_law_no_name" 3 ["_law_source"] [] (g__law_no_name c)) : FnOk P w K mg base CX0 4 f fd ["_law_source", "_law_sorts"] (SpI K [.fr] (g__law_no_sorts c)) :=
  fn_i (N := N__law_no_sorts) (k := 3) F sc__law_no_sorts rfl fun cdv A outer s H E hr => ⟨_, b_cons (s_if (t_eq (K := K) hr (o_e (x_cqi (K := K) h__law_next hr (x_var 0) (a_cons (o_e (x_int)) a_nil))) (o_e (x_int))) (b_cons (s_setO 2 (n_lst (d_cons (x_tup (d_cons (x_str) (d_cons (x_str) d_nil))) (d_cons (x_tup (d_cons (x_str) (d_cons (x_str) d_nil))) (d_cons (x_tup (d_cons (x_str) (d_cons (x_str) d_nil))) (d_cons (x_tup (d_cons (x_str) (d_cons (x_str) d_nil))) d_nil))))) sc__law_no_sorts.nd) (b_one (s_ret (x_cqi (K := K) h__law_one hr (x_var 0) (a_cons (o_e (x_n (n_lst (d_cons (x_non) (d_cons (x_n (n_lst d_nil)) (d_cons (x_tuple (K := K) T.b_tuple (o_var 1)) (d_cons (x_dk0) (d_cons (x_str) (d_cons (x_int) (d_cons (x_var 2) (d_cons (x_n (n_rep (o_e (x_sl (K := K) (o_var 1) p_none (p_some (x_int)))) (o_e (x_int)))) d_nil))))))))))) a_nil))))) (b_nil)) (b_cons (s_set 3 (x_cqi (K := K) h__law_next hr (x_var 0) (a_cons (o_e (x_len (K := K) T.b_len (o_var 1))) a_nil)) sc__law_no_sorts.nd) (b_cons (s_asg (x_ix (K := K) (o_var 1) (o_var 3)) (g_tup (K := K) rfl (gs_cons (g_name (vs := [4, 5]) 4 sc__law_no_sorts.nd) (gs_cons (g_name (vs := [4, 5]) 5 sc__law_no_sorts.nd) gs_nil)))) (b_cons (s_setO 6 (n_lst (d_cons (x_tup (d_cons (x_var 4) d_nil)) (d_cons (x_tup (d_cons (x_var 4) (d_cons (x_var 5) (d_cons (x_var 4) d_nil)))) (d_cons (x_n (n_lst (d_cons (x_var 4) (d_cons (x_var 5) d_nil)))) (d_cons (x_var 4) (d_cons (x_non) (d_cons (x_tup (d_cons (x_var 4) (d_cons (x_str) d_nil))) (d_cons (x_tup (d_cons (x_var 4) (d_cons (x_non) d_nil))) d_nil)))))))) sc__law_no_sorts.nd) (b_cons (s_setO 6 (n_cat (K := K) (o_var 6) (o_e (x_n (n_lst (d_cons (x_tup (d_cons (x_var 4) (d_cons (x_cqi (K := K) h__law_no_name hr (x_var 0) a_nil) d_nil))) (d_cons (x_tup (d_cons (x_str) (d_cons (x_var 5) d_nil))) (d_cons (x_tup (d_cons (x_cqi (K := K) h__law_no_name hr (x_var 0) a_nil) (d_cons (x_var 5) d_nil))) d_nil))))))) sc__law_no_sorts.nd) (b_cons (s_if (t_ne (K := K) hr (o_var 5) (o_var 4)) (b_one (s_expr (x_app (K := K) (x_var (W := W0) 6).p (d_cons (x_tup (d_cons (x_var 4) (d_cons (x_var 4) d_nil))) d_nil)))) (b_nil)) (b_one (s_ret (x_add (K := K) (o_e (x_add (K := K) (o_e (x_sl (K := K) (o_var 1) p_none (p_some (x_var 3)))) (o_e (x_n (n_lst (d_cons (x_cqi (K := K) h__law_one hr (x_var 0) (a_cons (o_e (x_var 6)) a_nil)) d_nil)))))) (o_e (x_sl (K := K) (o_var 1) (p_some (x_add (K := K) (o_var 3) (o_e (x_int)))) p_none))))))))))⟩
theorem sc__law_no_kinds : FnScope N__law_no_kinds ["_law_source", "_law_sorts", "_law_kinds"] (defScope s__law_no_kinds) := ⟨rfl, rfl, rfl, by decide +kernel, rfl, by decide +kernel, by decide +kernel⟩
theorem ok__law_no_kinds {f : Addr} {fd : FuncData} (F : Fun K "_law_no_kinds" "_law_no_kinds" s__law_no_kinds f fd) (T : Txt K mg c) (h__law_next : CallI P w K mg base "_law_next" 1 ["_law_source", "_law_many"] [.fr] (g__law_next c)) (h__law_one : CallI P w K mg base "_law_one" 2 ["_law_source", "_law_some"] [.fr] (g__law_one c)) (h__law_no_name : CallI P w K mg base "_law_no_name" 3 ["_law_source"] [] (g__law_no_name c)) : FnOk P w K mg base CX0 4 f fd ["_law_source", "_law_sorts", "_law_kinds"] (SpI K [.fr, .fr] (g__law_no_kinds c)) :=
  fn_i (N := N__law_no_kinds) (k := 3) F sc__law_no_kinds rfl fun cdv A outer s H E hr => ⟨_, b_cons (s_set 3 (x_ix (K := K) (o_e (x_ix (K := K) (o_var 1) (o_e (x_int)))) (o_e (x_int))) sc__law_no_kinds.nd) (b_cons (s_setO 4 (n_sorted (K := K) hr T.b_sorted (o_e (x_n (n_lc (own := [("_law_name", 7), ("_law_partner", 10)]) rfl sc__law_no_kinds.nd (i_listB (K := K) (x_var 1)) (blkOk_by (own := [("_law_name", 7), ("_law_partner", 10)]) (N := N__law_no_kinds) (sc := defScope s__law_no_kinds) (by decide +kernel)) (fun _ _ _ _ _ => (g_tup (K := K) rfl (gs_cons (g_name (vs := [7, 10]) 7 sc__law_no_kinds.nd) (gs_cons (g_name (vs := [7, 10]) 10 sc__law_no_kinds.nd) gs_nil)))) (fun _ _ _ _ _ => ts_nil) (fun _ _ _ _ _ => x_var 7))))) sc__law_no_kinds.nd) (b_cons (s_if (t_eq (K := K) hr (o_e (x_cqi (K := K) h__law_next hr (x_var 0) (a_cons (o_e (x_int)) a_nil))) (o_e (x_int))) (b_cons (s_setLc (own := [("_law_name", 7)]) 5 rfl sc__law_no_kinds.nd rfl rfl (sw_true rfl rfl rfl (by decide +kernel)) (i_list (K := K) (x_n (n_lst (d_cons (x_str) (d_cons (x_str) (d_cons (x_str) (d_cons (x_str) (d_cons (x_str) d_nil)))))))) (blkOk_by (own := [("_law_name", 7)]) (N := N__law_no_kinds) (sc := defScope s__law_no_kinds) (by decide +kernel)) (fun _ _ _ _ _ => (g_name (vs := [7]) 7 sc__law_no_kinds.nd)) (fun _ _ _ _ _ => ts_nil) (fun _ _ _ _ _ => x_tup (d_cons (x_var 7) (d_cons (x_tup (d_cons (x_var 3) d_nil)) d_nil)))) (b_one (s_ret (x_cqi (K := K) h__law_one hr (x_var 0) (a_cons (o_e (x_n (n_lst (d_cons (x_non) (d_cons (x_n (n_lst d_nil)) (d_cons (x_tuple (K := K) T.b_tuple (o_var 2)) (d_cons (x_dk0) (d_cons (x_str) (d_cons (x_int) (d_cons (x_var 5) (d_cons (x_add (K := K) (o_var 2) (o_e (x_sl (K := K) (o_var 2) p_none (p_some (x_int))))) d_nil))))))))))) a_nil))))) (b_nil)) (b_cons (s_set 6 (x_cqi (K := K) h__law_next hr (x_var 0) (a_cons (o_e (x_len (K := K) T.b_len (o_var 2))) a_nil)) sc__law_no_kinds.nd) (b_cons (s_asg (x_ix (K := K) (o_var 2) (o_var 6)) (g_tup (K := K) rfl (gs_cons (g_name (vs := [7, 8]) 7 sc__law_no_kinds.nd) (gs_cons (g_name (vs := [7, 8]) 8 sc__law_no_kinds.nd) gs_nil)))) (b_cons (s_setO 9 (n_lst (d_cons (x_tup (d_cons (x_var 7) (d_cons (x_tup d_nil) d_nil))) (d_cons (x_tup (d_cons (x_var 7) (d_cons (x_repY (K := K) (o_e (x_tup (d_cons (x_var 3) d_nil))) (o_e (x_int))) d_nil))) (d_cons (x_tup (d_cons (x_var 7) (d_cons (x_n (n_list (K := K) T.b_list (o_var 8))) d_nil))) (d_cons (x_tup (d_cons (x_var 7) (d_cons (x_non) d_nil))) (d_cons (x_tup (d_cons (x_var 7) (d_cons (x_add (K := K) (o_var 8) (o_e (x_tup (d_cons (x_str) d_nil)))) d_nil))) (d_cons (x_tup (d_cons (x_var 7) d_nil)) d_nil))))))) sc__law_no_kinds.nd) (b_cons (s_setO 9 (n_cat (K := K) (o_var 9) (o_e (x_n (n_lst (d_cons (x_tup (d_cons (x_var 7) (d_cons (x_var 8) (d_cons (x_int) d_nil)))) (d_cons (x_n (n_lst (d_cons (x_var 7) (d_cons (x_var 8) d_nil)))) (d_cons (x_tup (d_cons (x_cqi (K := K) h__law_no_name hr (x_var 0) a_nil) (d_cons (x_var 8) d_nil))) (d_cons (x_tup (d_cons (x_var 7) (d_cons (x_tup (d_cons (x_non) d_nil)) d_nil))) (d_cons (x_tup (d_cons (x_var 7) (d_cons (x_var 3) d_nil))) (d_cons (x_non) d_nil)))))))))) sc__law_no_kinds.nd) (b_cons (s_if (t_gt (o_e (x_len (K := K) T.b_len (o_var 4))) (o_e (x_int))) (b_one (s_expr (x_app (K := K) (x_var (W := W0) 9).p (d_cons (x_tup (d_cons (x_var 7) (d_cons (x_tup (d_cons (x_ix (K := K) (o_var 4) (o_e (x_int))) (d_cons (x_ix (K := K) (o_var 4) (o_e (x_int))) d_nil))) d_nil))) d_nil)))) (b_nil)) (b_one (s_ret (x_add (K := K) (o_e (x_add (K := K) (o_e (x_sl (K := K) (o_var 2) p_none (p_some (x_var 6)))) (o_e (x_n (n_lst (d_cons (x_cqi (K := K) h__law_one hr (x_var 0) (a_cons (o_e (x_var 9)) a_nil)) d_nil)))))) (o_e (x_sl (K := K) (o_var 2) (p_some (x_add (K := K) (o_var 6) (o_e (x_int)))) p_none))))))))))))⟩
theorem sc__law_alike : FnScope N__law_alike ["_law_sorts", "_law_kinds"] (defScope s__law_alike) := ⟨rfl, rfl, rfl, by decide +kernel, rfl, by decide +kernel, by decide +kernel⟩
theorem ok__law_alike {f : Addr} {fd : FuncData} (F : Fun K "_law_alike" "_law_alike" s__law_alike f fd) (T : Txt K mg c) (h_Stock___init__ : MakeI P w K mg base "Stock" c.stock 4 ["self", "sorts", "kinds"] [.bo, .bo] (g_Stock___init__ c)) (h_Stock___eq__ : EqO P w K mg base c.stock 1 (g_Stock___eq__ c)) (hn_Stock___eq__ : NeO P w K mg base c.stock 1 (g_Stock___eq__ c)) : FnOk P w K mg base CX0 6 f fd ["_law_sorts", "_law_kinds"] (SpP K [.fr, .fr] (g__law_alike c)) :=
  fn_g (N := N__law_alike) (k := 5) F sc__law_alike rfl fun cdv A outer s H E hr => ⟨_, b_cons (s_setO 2 (n_mkq (K := K) h_Stock___init__ hr (a_cons (o_var 0) (a_cons (o_var 1) a_nil))) sc__law_alike.nd) (b_cons (s_set 3 (x_add (K := K) (o_e (x_n (n_lst (d_cons (x_tup (d_cons (x_ix (K := K) (o_e (x_ix (K := K) (o_var 1) (o_e (x_int)))) (o_e (x_int))) (d_cons (x_repY (K := K) (o_e (x_tup (d_cons (x_ix (K := K) (o_e (x_ix (K := K) (o_var 0) (o_e (x_int)))) (o_e (x_int))) d_nil))) (o_e (x_add (K := K) (o_e (x_int)) (o_e (x_mod (o_e (x_len (K := K) T.b_len (o_e (x_ix (K := K) (o_e (x_ix (K := K) (o_var 1) (o_e (x_int)))) (o_e (x_int)))))) (o_e (x_int))))))) d_nil))) d_nil)))) (o_e (x_sl (K := K) (o_var 1) (p_some (x_int)) p_none))) sc__law_alike.nd) (b_cons (s_if (t_w (w_or (t_not (t_eqO (K := K) h_Stock___eq__ hr (o_var 2) (o_e (x_n (n_mkq (K := K) h_Stock___init__ hr (a_cons (o_e (x_n (n_list (K := K) T.b_list (o_var 0)))) (a_cons (o_e (x_n (n_list (K := K) T.b_list (o_var 1)))) a_nil))))))) (w_or1 (t_neO (K := K) hn_Stock___eq__ hr (o_var 2) (o_e (x_n (n_mkq (K := K) h_Stock___init__ hr (a_cons (o_var 0) (a_cons (o_var 1) a_nil))))))))) (b_one (s_ret (x_bl))) (b_nil)) (b_cons (s_if (t_w (w_and (t_ne (K := K) hr (o_var 3) (o_var 1)) (w_and1 (t_eqO (K := K) h_Stock___eq__ hr (o_var 2) (o_e (x_n (n_mkq (K := K) h_Stock___init__ hr (a_cons (o_var 0) (a_cons (o_var 3) a_nil))))))))) (b_one (s_ret (x_bl))) (b_nil)) (b_one (s_ret (x_and (x_not (x_eqP (K := K) h_Stock___eq__ hr (o_var 2) (o_e (x_tup (d_cons (x_var 0) (d_cons (x_var 1) d_nil)))))) (x_and (x_not (x_eqP (K := K) h_Stock___eq__ hr (o_var 2) (o_e (x_int)))) (x_one (x_not (x_eqP (K := K) h_Stock___eq__ hr (o_var 2) (o_e (x_str))))))))))))⟩
theorem sc_law : FnScope N_law ["_law_script"] (defScope s_law) := ⟨rfl, rfl, rfl, by decide +kernel, rfl, by decide +kernel, by decide +kernel⟩
theorem ok_law {f : Addr} {fd : FuncData} (F : Fun K "law" "law" s_law f fd) (T : Txt K mg c) (h__law_source_of : CallN P w K mg base "_law_source_of" 1 ["_law_cell"] [.fr] (g__law_source_of c)) (h__law_next : CallI P w K mg base "_law_next" 1 ["_law_source", "_law_many"] [.fr] (g__law_next c)) (h__law_stock : CallI P w K mg base "_law_stock" 4 ["_law_source", "_law_most"] [.fr] (g__law_stockB c)) (h__law_no_kinds : CallI P w K mg base "_law_no_kinds" 4 ["_law_source", "_law_sorts", "_law_kinds"] [.fr, .fr] (g__law_no_kinds c)) (h__law_no_sorts : CallI P w K mg base "_law_no_sorts" 4 ["_law_source", "_law_sorts"] [.fr] (g__law_no_sorts c)) (h__law_told : CallP P w K mg base "_law_told" 6 ["_law_sorts", "_law_kinds"] [.fr, .fr] (g__law_told c)) (h__law_alike : CallP P w K mg base "_law_alike" 6 ["_law_sorts", "_law_kinds"] [.fr, .fr] (g__law_alike c)) (h_Stock___init__ : MakeI P w K mg base "Stock" c.stock 4 ["self", "sorts", "kinds"] [.bo, .bo] (g_Stock___init__ c)) (hm : lawOk (m_law c) 9) : FnOk P w K mg base CX0 7 f fd ["_law_script"] (spLawD K) :=
  law_fn (N := N_law) (k := 6) F sc_law hm fun cdv A outer s H E hr => ⟨_, b_cons (s_for PassesOwn.never rfl (i_list (K := K) (x_add (K := K) (o_e (x_scSl (K := K) (x_var (W := W0) 0).p po_none (po_some pe_int) cp_none cp_int)) (o_e (x_n (n_lst (d_cons (x_int) (d_cons (x_int) d_nil))))))) (g_name (vs := [1]) 1 sc_law.nd) (b_cons (s_setO 2 (n_cn (K := K) h__law_source_of hr (a_cons (o_e (x_var 1)) a_nil)) sc_law.nd) (b_cons (s_set 3 (x_cqi (K := K) h__law_next hr (x_var 2) (a_cons (o_e (x_int)) a_nil)) sc_law.nd) (b_cons (s_asg (x_cqi (K := K) h__law_stock hr (x_var 2) (a_cons (o_e (x_int)) a_nil)) (g_tup (K := K) rfl (gs_cons (g_name (vs := [4, 5]) 4 sc_law.nd) (gs_cons (g_name (vs := [4, 5]) 5 sc_law.nd) gs_nil)))) (b_alt (b_cons (s_setO 6 (n_lst (d_cons (x_n (n_list (K := K) T.b_list (o_var 4))) (d_cons (x_n (n_list (K := K) T.b_list (o_var 5))) d_nil))) sc_law.nd) (b_cons (s_set 7 (x_str) sc_law.nd) (b_cons (s_if (t_inI (o_var 3) (o_e (x_tup (d_cons (x_int) (d_cons (x_int) d_nil))))) (b_cons (s_putI (x_var (W := W0) 6).p (x_int) (x_cqi (K := K) h__law_no_kinds hr (x_var 2) (a_cons (o_e (x_var 4)) (a_cons (o_e (x_var 5)) a_nil)))) (b_one (s_set 7 (x_str) sc_law.nd))) (b_nil)) (b_cons (s_if (t_inI (o_var 3) (o_e (x_tup (d_cons (x_int) (d_cons (x_int) d_nil))))) (b_cons (s_putI (x_var (W := W0) 6).p (x_int) (x_cqi (K := K) h__law_no_sorts hr (x_var 2) (a_cons (o_e (x_var 4)) a_nil))) (b_one (s_set 7 (x_str) sc_law.nd))) (b_nil)) (b_cons (s_if (t_ne (K := K) hr (o_var 7) (o_e (x_str))) (b_one (s_if (t_ne (K := K) hr (o_e (x_cq (K := K) h__law_told hr (a_cons (o_e (x_ix (K := K) (o_var 6) (o_e (x_int)))) (a_cons (o_e (x_ix (K := K) (o_var 6) (o_e (x_int)))) a_nil)))) (o_e (x_tup (d_cons (x_str) (d_cons (x_var 7) (d_cons (x_bl) d_nil)))))) (b_one (s_ret (x_bl))) (b_nil))) (b_void)) (b_one (s_if (t_not (t_val (x_cq (K := K) h__law_alike hr (a_cons (o_e (x_var 4)) (a_cons (o_e (x_var 5)) a_nil))))) (b_one (s_ret (x_bl))) (b_nil)))))))) (b_partsWI (K := K) 6 3 2 2 2 sc_law.nd (l_cons (n_list (K := K) T.b_list (o_var 4)) (l_cons (n_list (K := K) T.b_list (o_var 5)) l_nil)) (k_cons (s_set 7 (x_str) sc_law.nd) (k_cons (s_if (t_inI (o_var 3) (o_e (x_tup (d_cons (x_int) (d_cons (x_int) d_nil))))) (b_void) (b_nil)) (k_one (s_if (t_inI (o_var 3) (o_e (x_tup (d_cons (x_int) (d_cons (x_int) d_nil))))) (b_void) (b_nil))))) (t_ne (K := K) hr (o_var 7) (o_e (x_str))) (k_cons (s_setO 8 (n_mkq (K := K) h_Stock___init__ hr (a_cons (o_part 0 (x_var 6)) (a_cons (o_part 1 (x_var 6)) a_nil))) sc_law.nd) (k_one (s_if (t_neB (K := K) hr (x_var 6) (o_e (x_n (n_lst (d_cons (x_var 4) (d_cons (x_var 5) d_nil)))))) (b_one (s_ret (x_bl))) (b_nil)))) (v_cons (w_clr (K := K) 0 (x_var (W := W0) 6)) (wp_clr (k := 0) (by decide)) (v_one (w_rev (K := K) 1 (x_var (W := W0) 6)) (wp_rev (k := 1) (by decide)))) (b_cons (s_if (t_ne (K := K) hr (o_e (x_tup (d_cons (x_fld (K := K) T.f_stock_sorts (o_var 8)) (d_cons (x_fld (K := K) T.f_stock_kinds (o_var 8)) d_nil)))) (o_e (x_tup (d_cons (x_var 4) (d_cons (x_var 5) d_nil))))) (b_one (s_ret (x_bl))) (b_nil)) (b_one (s_if (t_ne (K := K) hr (o_e (x_cq (K := K) h__law_told hr (a_cons (o_e (x_var 4)) (a_cons (o_e (x_var 5)) a_nil)))) (o_e (x_tup (d_cons (x_str) (d_cons (x_tup (d_cons (x_var 4) (d_cons (x_var 5) d_nil))) (d_cons (x_bl) d_nil)))))) (b_one (s_ret (x_bl))) (b_nil)))) (b_one (s_if (t_not (t_val (x_cq (K := K) h__law_alike hr (a_cons (o_e (x_var 4)) (a_cons (o_e (x_var 5)) a_nil))))) (b_one (s_ret (x_bl))) (b_nil))))))))) (b_one (s_ret (x_bl)))⟩
end
/-! ### what the top has written, all together -/
theorem all_mk {P : Program} {w : World} {K : Fg} {h : Heap} {mg : Str → Option Value} {fa : Addr} {C_stock C_NoStock C_EndError C_NoDrawing C_NoWeights f_Stock___init__ f_Stock___eq__ f_Stock___init__X f_NoStock___init__ : Addr} (X : K.In h) (G : h.Ns mainGlobals mg) (hfa : mg "law" = some (.ref fa))
    (z_all : PySem.W.nsIn K mainGlobals "all" = some none)
    (z_int : PySem.W.nsIn K mainGlobals "int" = some none)
    (z_isinstance : PySem.W.nsIn K mainGlobals "isinstance" = some none)
    (z_len : PySem.W.nsIn K mainGlobals "len" = some none)
    (z_list : PySem.W.nsIn K mainGlobals "list" = some none)
    (z_range : PySem.W.nsIn K mainGlobals "range" = some none)
    (z_set : PySem.W.nsIn K mainGlobals "set" = some none)
    (z_sorted : PySem.W.nsIn K mainGlobals "sorted" = some none)
    (z_str : PySem.W.nsIn K mainGlobals "str" = some none)
    (z_tuple : PySem.W.nsIn K mainGlobals "tuple" = some none)
    (y_LETTERS : ∃ v : Value, PySem.W.nsIn K mainGlobals "LETTERS" = some (some v) ∧ ∃ t, v = .str "abcdefghijklmnopqrstuvwxyz" t)
    (k_stock : ClsK K "Stock" C_stock)
    (n_stock_kinds : PySem.W.findIn K (.ref C_stock) "kinds" = some none)
    (n_stock_sorts : PySem.W.findIn K (.ref C_stock) "sorts" = some none)
    (ia_stock : PySem.W.findIn K (.ref C_stock) "__class__" = some (some (.builtin "object.__class__")))
    (in_stock : PySem.W.specialIn K (.builtin "object.__class__") "__get__" = some (some (.builtin "getset_descriptor.__get__")))
    (it_stock : PySem.W.takesIn K (.builtin "object.__class__") = some true)
    (im_stock : PySem.W.mroIn K C_stock (.type "object") = some true)
    (iy_stock : PySem.W.typeIn K (.ref C_stock) = some (.type "type"))
    (d_is_name : DefK K "is_name" s_is_name)
    (d_is_sort_row : DefK K "is_sort_row" s_is_sort_row)
    (d_are_sorts : DefK K "are_sorts" s_are_sorts)
    (d_is_kind_row : DefK K "is_kind_row" s_is_kind_row)
    (d_are_kinds : DefK K "are_kinds" s_are_kinds)
    (d_Stock___init__ : MetK K C_stock "__init__" "Stock.__init__" s_Stock___init__ f_Stock___init__)
    (d__law_source_of : DefK K "_law_source_of" s__law_source_of)
    (d__law_next : DefK K "_law_next" s__law_next)
    (d__law_one : DefK K "_law_one" s__law_one)
    (d__law_names : DefK K "_law_names" s__law_names)
    (d__law_stock : DefK K "_law_stock" s__law_stock)
    (d_Stock___eq__ : MetK K C_stock "__eq__" "Stock.__eq__" s_Stock___eq__ f_Stock___eq__)
    (d_Stock___init__X : MetK K C_stock "__init__" "Stock.__init__" s_Stock___init__X f_Stock___init__X)
    (d__law_told : DefK K "_law_told" s__law_told)
    (d__law_no_name : DefK K "_law_no_name" s__law_no_name)
    (d__law_no_sorts : DefK K "_law_no_sorts" s__law_no_sorts)
    (d__law_no_kinds : DefK K "_law_no_kinds" s__law_no_kinds)
    (d__law_alike : DefK K "_law_alike" s__law_alike)
    (d_law : DefK K "law" s_law)
    (xa_NoStock : PySem.W.nsIn K mainGlobals "NoStock" = some (some (.ref C_NoStock)))
    (xa_EndError : PySem.W.nsIn K mainGlobals "EndError" = some (some (.ref C_EndError)))
    (xa_NoDrawing : PySem.W.nsIn K mainGlobals "NoDrawing" = some (some (.ref C_NoDrawing)))
    (xa_NoWeights : PySem.W.nsIn K mainGlobals "NoWeights" = some (some (.ref C_NoWeights)))
    (xeg_End : PySem.W.specialIn K (.ref C_EndError) "__getattribute__" = some (some (.builtin "type.__getattribute__")))
    (xem_End : PySem.W.typeIn K (.ref C_EndError) = some (.type "type"))
    (xer_End : PySem.W.readsIn K C_EndError (.type "type") = true)
    (xee_End : PySem.W.findCls K (.ref C_EndError) (.type "type") "__init__" = some (.val (.builtin "ValueError.__init__")))
    (xQ_NoStock : PySem.W.excInitIn K C_NoStock [.type "ValueError", .type "Exception", .type "BaseException", .type "object"] "ValueError.__new__" = true)
    (xu_NoStock : PySem.W.findIn K (.ref C_NoStock) "__setattr__" = some (some (.builtin "object.__setattr__")))
    (xL_NoStock : PySem.W.keepIn K (.ref C_NoStock) = true)
    (xz_NoStock : PySem.W.findIn K (.ref C_NoStock) "part" = some none)
    (xM_NoStock : MetK K C_NoStock "__init__" "NoStock.__init__" s_NoStock___init__ f_NoStock___init__)
    (xF_NoStock : PySem.W.typeIn K (.ref f_NoStock___init__) = some (.type "function"))
    (xs_EndError : PySem.W.subIn K (.ref C_EndError) (.type "BaseException") = some true)
    (xt_EndError : PySem.W.typeIn K (.ref C_EndError) = some (.type "type"))
    (xs_NoStock : PySem.W.subIn K (.ref C_NoStock) (.type "BaseException") = some true)
    (xt_NoStock : PySem.W.typeIn K (.ref C_NoStock) = some (.type "type"))
    (xn : PySem.W.specialIn K (.builtin "object.__class__") "__get__" = some (some (.builtin "getset_descriptor.__get__")))
    (xh : PySem.W.takesIn K (.builtin "object.__class__") = some true)
    (xd_EndError : PySem.W.hasDictIn K C_EndError = true)
    (xi_NoStock : PySem.W.findIn K (.ref C_NoStock) "__getattribute__" = some (some (.builtin "BaseException.__getattribute__")))
    (xj_NoStock : PySem.W.findIn K (.ref C_NoStock) "__getattr__" = some none)
    (xd_NoStock : PySem.W.hasDictIn K C_NoStock = true)
    (xf_NoStock : PySem.W.findIn K (.ref C_NoStock) "__class__" = some (some (.builtin "object.__class__")))
    (xo_NoStock : PySem.W.mroIn K C_NoStock (.type "object") = some true)
    (xw_NoStock : PySem.W.kitOne K (.ref C_NoStock) (.type "ValueError") = some true)
    (xW_NoStock : PySem.W.kitOne K (.ref C_NoStock) (.ref C_EndError) = some true)
    (xb_NoStock : PySem.W.subIn K (.ref C_NoStock) (.ref C_EndError) = some true)
    (xr_NoStock_NoStock : PySem.W.subIn K (.ref C_NoStock) (.ref C_NoStock) = some true)
    (xp_NoStock_NoDrawing : PySem.W.kitOne K (.ref C_NoStock) (.ref C_NoDrawing) = some false)
    (xp_NoStock_NoWeights : PySem.W.kitOne K (.ref C_NoStock) (.ref C_NoWeights) = some false)
    (no_stock : PySem.W.findIn K (.ref C_stock) "__ne__" = some (some (.builtin "object.__ne__")))
    (nb_stock : PySem.W.mroIn K C_stock (.type "object") = some true)
    (hm : ∀ c, lawOk (m_law c) 9) :
    ∃ fd : FuncData, (∀ (s : Shared) (v : Value), BindsTo s fd ⟨[v], []⟩ [("_law_script", v)]) ∧ ∀ base : Heap, K.In base → base.Ns mainGlobals mg → FnOk P w K mg base CX0 7 fa fd ["_law_script"] (spLawD K) := by
  obtain ⟨f, fd, h1, h2, h3, kV, dc, pm, an, cd, ct, rfl⟩ := d_law.ex
  have e := hfa.symm.trans (PySem.W.mg_of X G h1)
  cases e
  obtain ⟨v_LETTERS, u_LETTERS, t_LETTERS, e_LETTERS⟩ := y_LETTERS
  subst e_LETTERS
  have T : Txt K mg (Cs.mk C_stock 0 0 0 (fun n => ([C_EndError, C_NoStock, C_NoDrawing, 0, 0, 0, 0, 0, 0, 0, 0, C_NoWeights, 0, 0, 0, 0, 0] : List Addr).getD n 0) w) := ⟨PySem.W.mg_none_of X G z_all,
    PySem.W.mg_none_of X G z_int,
    PySem.W.mg_none_of X G z_isinstance,
    PySem.W.mg_none_of X G z_len,
    PySem.W.mg_none_of X G z_list,
    PySem.W.mg_none_of X G z_range,
    PySem.W.mg_none_of X G z_set,
    PySem.W.mg_none_of X G z_sorted,
    PySem.W.mg_none_of X G z_str,
    PySem.W.mg_none_of X G z_tuple,
    ⟨t_LETTERS, PySem.W.mg_of X G u_LETTERS⟩,
    (fun C hC => by
      simp only [List.mem_cons, List.not_mem_nil, or_false] at hC
      subst hC
      exact ⟨k_stock.cls, n_stock_kinds⟩),
    (fun C hC => by
      simp only [List.mem_cons, List.not_mem_nil, or_false] at hC
      subst hC
      exact ⟨k_stock.cls, n_stock_sorts⟩),
    ⟨k_stock.cls, n_stock_kinds⟩,
    ⟨k_stock.cls, n_stock_sorts⟩,
    ⟨⟨k_stock.cls, ia_stock, in_stock, it_stock, im_stock, if_pos (beq_self_eq_true _)⟩, iy_stock⟩,
    PySem.W.mg_of X G k_stock.a,
    PySem.W.mg_of X G xa_NoStock,
    PySem.W.mg_of X G xa_EndError,
    PySem.W.mg_of X G xa_NoDrawing,
    PySem.W.mg_of X G xa_NoWeights,
    (fun tg h => by
      simp only [List.mem_cons, List.not_mem_nil, or_false] at h
      subst h
      exact ⟨xi_NoStock, xj_NoStock, xs_NoStock, xd_NoStock, xf_NoStock, xn, xh, xo_NoStock⟩),
    (fun tg h => by
      simp only [List.mem_cons, List.not_mem_nil, or_false] at h
      subst h
      intro j hj
      simp only [List.mem_cons, List.not_mem_nil, or_false] at hj
      rcases hj with rfl | rfl
      · exact xp_NoStock_NoDrawing
      · exact xp_NoStock_NoWeights),
    (fun tg h => by
      simp only [List.mem_cons, List.not_mem_nil, or_false] at h
      subst h
      exact xw_NoStock),
    (fun tg h => by
      simp only [List.mem_cons, List.not_mem_nil, or_false] at h
      subst h
      exact PySem.W.exm_ref xs_EndError xd_EndError xt_EndError xb_NoStock),
    (fun tg h => by
      simp only [List.mem_cons, List.not_mem_nil, or_false] at h
      subst h
      exact PySem.W.exm_ref xs_NoStock xd_NoStock xt_NoStock xr_NoStock_NoStock),
    (fun tg h => by
      simp only [List.mem_cons, List.not_mem_nil, or_false] at h
      subst h
      exact PySem.W.exm_ref xs_EndError xd_EndError xt_EndError xb_NoStock),
    (fun tg h => by
      simp only [List.mem_cons, List.not_mem_nil, or_false] at h
      subst h
      exact xW_NoStock),
    (fun tg h => by
      simp only [List.mem_cons, List.not_mem_nil, or_false] at h
      subst h
      exact ⟨⟨xi_NoStock, xj_NoStock, xs_NoStock, xd_NoStock⟩, xz_NoStock⟩)⟩
  refine ⟨PySem.W.fnOf "law" "law" (defArgs s_law) (defBody s_law) (defScope s_law) .none kV dc pm an cd ct, fun s v => .of_eq rfl, fun base _ _ => ?_⟩
  have hx_NoStock : ExF P w K mg base C_NoStock "part" := by
    obtain ⟨fd1, e1, e2, e3, e4⟩ := xM_NoStock.ex
    exact ⟨⟨oex_cls xQ_NoStock xd_NoStock, xu_NoStock, xs_NoStock, xt_NoStock, xL_NoStock⟩, xz_NoStock, ⟨_, fd1, ["self", "part"], e1, xF_NoStock, e3.binds fun _ _ _ _ _ _ us hl => match us, hl with | [_, _], _ => rfl, ok_NoStock___init__ (c := (Cs.mk C_stock 0 0 0 (fun n => ([C_EndError, C_NoStock, C_NoDrawing, 0, 0, 0, 0, 0, 0, 0, 0, C_NoWeights, 0, 0, 0, 0, 0] : List Addr).getD n 0) w)) e3 ⟨xeg_End, xem_End, xer_End, xee_End⟩ (PySem.W.mg_of X G xa_EndError)⟩⟩
  have h_is_name := callP_of (P := P) (w := w) (base := base) d_is_name X G (fun F => F.binds fun _ _ _ _ _ _ us hl => match us, hl with | [_], _ => rfl) (fun F => ok_is_name F T )
  have h_is_sort_row := callP_of (P := P) (w := w) (base := base) d_is_sort_row X G (fun F => F.binds fun _ _ _ _ _ _ us hl => match us, hl with | [_], _ => rfl) (fun F => ok_is_sort_row F T h_is_name)
  have h_are_sorts := callP_of (P := P) (w := w) (base := base) d_are_sorts X G (fun F => F.binds fun _ _ _ _ _ _ us hl => match us, hl with | [_], _ => rfl) (fun F => ok_are_sorts F T h_is_sort_row)
  have h_is_kind_row := callP_of (P := P) (w := w) (base := base) d_is_kind_row X G (fun F => F.binds fun _ _ _ _ _ _ us hl => match us, hl with | [_, _], _ => rfl) (fun F => ok_is_kind_row F T h_is_name)
  have h_are_kinds := callP_of (P := P) (w := w) (base := base) d_are_kinds X G (fun F => F.binds fun _ _ _ _ _ _ us hl => match us, hl with | [_, _], _ => rfl) (fun F => ok_are_kinds F T h_is_kind_row)
  have h_Stock___init__ := makeI_of (P := P) (w := w) (base := base) k_stock d_Stock___init__ X G (fun F => F.binds fun _ _ _ _ _ _ us hl => match us, hl with | [_, _, _], _ => rfl) (fun F => ok_Stock___init__ F T h_are_sorts h_are_kinds)
  have h__law_source_of := callN_of (P := P) (w := w) (base := base) d__law_source_of X G (fun F => F.binds fun _ _ _ _ _ _ us hl => match us, hl with | [_], _ => rfl) (fun F => ok__law_source_of F T )
  have h__law_next := callI_of (P := P) (w := w) (base := base) d__law_next X G (fun F => F.binds fun _ _ _ _ _ _ us hl => match us, hl with | [_, _], _ => rfl) (fun F => ok__law_next F T )
  have h__law_one := callI_of (P := P) (w := w) (base := base) d__law_one X G (fun F => F.binds fun _ _ _ _ _ _ us hl => match us, hl with | [_, _], _ => rfl) (fun F => ok__law_one F T h__law_next)
  have h__law_names := callI_of (P := P) (w := w) (base := base) d__law_names X G (fun F => F.binds fun _ _ _ _ _ _ us hl => match us, hl with | [_, _], _ => rfl) (fun F => ok__law_names F T h__law_next h__law_one)
  have h__law_stock := callI_of (P := P) (w := w) (base := base) d__law_stock X G (fun F => F.binds fun _ _ _ _ _ _ us hl => match us, hl with | [_, _], _ => rfl) (fun F => ok__law_stock F T h__law_names h__law_next h__law_one)
  have h_Stock___eq__ := eqO_of (P := P) (w := w) (base := base) d_Stock___eq__ (fun F => F.binds fun _ _ _ _ _ _ us hl => match us, hl with | [_, _], _ => rfl) (fun F => ok_Stock___eq__ F T )
  have hn_Stock___eq__ : NeO P w K mg base C_stock 1 (g_Stock___eq__ _) := ⟨h_Stock___eq__, no_stock, nb_stock⟩
  have h_Stock___init__X := makeX_of (P := P) (w := w) (base := base) k_stock d_Stock___init__X X G (fun F => F.binds fun _ _ _ _ _ _ us hl => match us, hl with | [_, _, _], _ => rfl) (fun F => ok_Stock___init__X F T h_are_sorts h_are_kinds hx_NoStock)
  have h__law_told := callP_of (P := P) (w := w) (base := base) d__law_told X G (fun F => F.binds fun _ _ _ _ _ _ us hl => match us, hl with | [_, _], _ => rfl) (fun F => ok__law_told F T h_Stock___init__X)
  have h__law_no_name := callI_of (P := P) (w := w) (base := base) d__law_no_name X G (fun F => F.binds fun _ _ _ _ _ _ us hl => match us, hl with | [_], _ => rfl) (fun F => ok__law_no_name F T h__law_one)
  have h__law_no_sorts := callI_of (P := P) (w := w) (base := base) d__law_no_sorts X G (fun F => F.binds fun _ _ _ _ _ _ us hl => match us, hl with | [_, _], _ => rfl) (fun F => ok__law_no_sorts F T h__law_next h__law_one h__law_no_name)
  have h__law_no_kinds := callI_of (P := P) (w := w) (base := base) d__law_no_kinds X G (fun F => F.binds fun _ _ _ _ _ _ us hl => match us, hl with | [_, _, _], _ => rfl) (fun F => ok__law_no_kinds F T h__law_next h__law_one h__law_no_name)
  have h__law_alike := callP_of (P := P) (w := w) (base := base) d__law_alike X G (fun F => F.binds fun _ _ _ _ _ _ us hl => match us, hl with | [_, _], _ => rfl) (fun F => ok__law_alike F T h_Stock___init__ h_Stock___eq__ hn_Stock___eq__)
  exact ok_law h2 T h__law_source_of h__law_next h__law_stock h__law_no_kinds h__law_no_sorts h__law_told h__law_alike h_Stock___init__ (hm _)
theorem walk {l : PySem.W.OpenLaw} {q : Program} {loose : List Str} {XP : (Str → Option Value) → Heap → Prop} {YP : World → Heap → Prop} {d : DefRec} {K : Params → Fg} (hn : l.most = some 63) (hdf : d.params.defaults = [])
    (hY : ∀ (w : World) (h : Heap), YP w h → (K w.params).In h) (F : ∀ (w : World) (mg : Str → Option Value) (fa : Addr) (h : Heap), (K w.params).In h → h.Ns mainGlobals mg → mg d.name = some (.ref fa) →
      ∃ fd : FuncData, (∀ (s : Shared) (u : Value), BindsTo s fd ⟨[u], []⟩ [("_law_script", u)]) ∧ ∀ base : Heap, (K w.params).In base → base.Ns mainGlobals mg → FnOk l.prog w (K w.params) mg base CX0 7 fa fd ["_law_script"] (spLawD (K w.params))) :
    PySem.W.WalkO q loose XP YP l.row.toRowW d [] (fun f vs => PySem.call f vs) :=
  L2.walk_of (n := 63) (k := 7) (x := "_law_script") (CX := fun _ => CX0) (sp := fun w => spLawD (K w.params)) hn (by decide) hdf ⟨rfl, by decide, by decide⟩ hY F (fun _ _ a ns hl _ hS => ⟨a, ns, rfl, hS, hl, fun _ => rfl⟩) fun _ _ _ _ _ z => z
end GA

set_option Elab.async false
set_option linter.all false
set_option maxRecDepth 100000
set_option maxHeartbeats 4000000
/-! PMm: printed by gen.py: cutting, with what is refused. -/
namespace GA
open PySem L2 DL G
end GA

set_option Elab.async false
set_option linter.all false
set_option maxRecDepth 100000
set_option maxHeartbeats 1000000
/-! NFa: two legs that aren't there, or aren't two, are refused. -/
namespace GA
open PySem L2 DL G PG
theorem is_name_any (c : Cs) {x : Str} (hx : x.length ≤ 100) : ∃ b, g_is_name c [.str x] = some (.bl b) ∧ (b = true → NameOk x) := by
  have hL := L_is_name c x .un hx
  have hs : x.length ≤ 1000000 := by omega
  have hAll : allD (.lst (x.cps.toList.map fun z => .bl (inAbc z))) = some (.bl (x.cps.toList.all inAbc)) := allD_map _ _
  by_cases i1 : (1 : Int) ≤ (x.length : Int)
  · by_cases i8 : (x.length : Int) ≤ 8
    · have k1 : 1 ≤ x.cps.size := by have : 1 ≤ x.length := by omega
                                     exact this
      have k8 : x.cps.size ≤ 8 := by have : x.length ≤ 8 := by omega
                                     exact this
      refine ⟨x.cps.toList.all inAbc, by simp [g_is_name, m_is_name, defI, defG, defN, startE, entry, PK.sl, mSeq, mIf, mTest, m1, m2, mn1, mn2, M.bind, mVal, mOv, mC, M.ret, Sl.dat, mRd, rd, M.lift, fI, fI0, mS, mAsg, gN, gT, gsC, gs0, mHas, ownL, Sl.own, reown, mRet, mVar, mNext, io0, mCallI, mCallP, mCallN, mMakeP, maCons, maNil, mRds, rds, frOk, apart, mdCons, mdNil, mLst, mTup, mIt, mFor, mDrop, mMut, appF, mA, mnA, fA1, fN1, lenD, tupD, wipeE, mAsgO, mSeqOf, mSeqB, mTupOf, mTxtOf, gTL, mNot, mOr, mAnd, mAndV, mOrV, mNotV, mChain, isB, tyN, mRetW, mRetO, -List.map_map, -Int.natCast_add, -List.map_append, -List.map_cons, -List.map_nil, -List.map_const, -List.map_const_fun, kitB, hL, hs, i1, i8, hAll], fun hb => ⟨k1, k8, fun z hz => ?_⟩⟩
      have := List.all_eq_true.mp hb z hz
      unfold inAbc at this
      rw [abc_list] at this
      obtain ⟨k, hk, e⟩ := List.mem_map.mp (of_decide_eq_true this)
      have := List.mem_range.mp hk
      have e : k + 97 = z := e
      omega
    · exact ⟨false, by simp [g_is_name, m_is_name, defI, defG, defN, startE, entry, PK.sl, mSeq, mIf, mTest, m1, m2, mn1, mn2, M.bind, mVal, mOv, mC, M.ret, Sl.dat, mRd, rd, M.lift, fI, fI0, mS, mAsg, gN, gT, gsC, gs0, mHas, ownL, Sl.own, reown, mRet, mVar, mNext, io0, mCallI, mCallP, mCallN, mMakeP, maCons, maNil, mRds, rds, frOk, apart, mdCons, mdNil, mLst, mTup, mIt, mFor, mDrop, mMut, appF, mA, mnA, fA1, fN1, lenD, tupD, wipeE, mAsgO, mSeqOf, mSeqB, mTupOf, mTxtOf, gTL, mNot, mOr, mAnd, mAndV, mOrV, mNotV, mChain, isB, tyN, mRetW, mRetO, -List.map_map, -Int.natCast_add, -List.map_append, -List.map_cons, -List.map_nil, -List.map_const, -List.map_const_fun, kitB, hs, i1, i8], fun h => by cases h⟩
  · exact ⟨false, by simp [g_is_name, m_is_name, defI, defG, defN, startE, entry, PK.sl, mSeq, mIf, mTest, m1, m2, mn1, mn2, M.bind, mVal, mOv, mC, M.ret, Sl.dat, mRd, rd, M.lift, fI, fI0, mS, mAsg, gN, gT, gsC, gs0, mHas, ownL, Sl.own, reown, mRet, mVar, mNext, io0, mCallI, mCallP, mCallN, mMakeP, maCons, maNil, mRds, rds, frOk, apart, mdCons, mdNil, mLst, mTup, mIt, mFor, mDrop, mMut, appF, mA, mnA, fA1, fN1, lenD, tupD, wipeE, mAsgO, mSeqOf, mSeqB, mTupOf, mTxtOf, gTL, mNot, mOr, mAnd, mAndV, mOrV, mNotV, mChain, isB, tyN, mRetW, mRetO, -List.map_map, -Int.natCast_add, -List.map_append, -List.map_cons, -List.map_nil, -List.map_const, -List.map_const_fun, kitB, hs, i1], fun h => by cases h⟩
/-- no leg's name -/
def Bd (c : Cs) (US : List Str) (d : D) : Prop := g_is_name c [d] = some (.bl false) ∨ ∃ x, d = .str x ∧ NameOk x ∧ x ∉ US
/-- a thing that is a name or none -/
def Nm (c : Cs) (d : D) : Prop := g_is_name c [d] = some (.bl false) ∨ ∃ x, d = .str x ∧ NameOk x
theorem Bd.nm {c : Cs} {US : List Str} {d : D} (h : Bd c US d) : Nm c d := h.imp_right fun ⟨x, e, n, _⟩ => ⟨x, e, n⟩
end GA

set_option Elab.async false
set_option linter.all false
set_option maxRecDepth 100000
set_option maxHeartbeats 1000000
/-! NGa: two legs of any drawing, the ends to which they are joined, and the drawing without them. -/
namespace GA
open PySem L2 DL G PG
def rE (r : NRow) : List NEnd := [r.1, r.2]
/-- one end of its kind: one row has it, at one side -/
theorem pick (P : NEnd → Bool) : ∀ {RS : List NRow}, ((RS.flatMap rE).filter P).length = 1 → ∃ r A, RS.Perm (r :: A) ∧ ((P r.1 = true ∧ P r.2 = false) ∨ (P r.1 = false ∧ P r.2 = true)) ∧ ∀ q ∈ A, P q.1 = false ∧ P q.2 = false
  | [], h => by simp at h
  | r :: RS, h => by
    rw [List.flatMap_cons, List.filter_append, List.length_append] at h
    have none_ : ((RS.flatMap rE).filter P).length = 0 → ∀ q ∈ RS, P q.1 = false ∧ P q.2 = false := fun z q hq => by
      have z' := List.filter_eq_nil_iff.mp (List.length_eq_zero_iff.mp z)
      have m1 : q.1 ∈ RS.flatMap rE := List.mem_flatMap.mpr ⟨q, hq, by simp [rE]⟩
      have m2 : q.2 ∈ RS.flatMap rE := List.mem_flatMap.mpr ⟨q, hq, by simp [rE]⟩
      exact ⟨by simpa using z' _ m1, by simpa using z' _ m2⟩
    cases h1 : P r.1 with
    | true =>
      cases h2 : P r.2 with
      | true =>
        have : ((rE r).filter P).length = 2 := by simp [rE, h1, h2]
        omega
      | false =>
        have : ((rE r).filter P).length = 1 := by simp [rE, h1, h2]
        exact ⟨r, RS, List.Perm.refl _, Or.inl ⟨h1, h2⟩, none_ (by omega)⟩
    | false =>
      cases h2 : P r.2 with
      | true =>
        have : ((rE r).filter P).length = 1 := by simp [rE, h1, h2]
        exact ⟨r, RS, List.Perm.refl _, Or.inr ⟨h1, h2⟩, none_ (by omega)⟩
      | false =>
        have : ((rE r).filter P).length = 0 := by simp [rE, h1, h2]
        obtain ⟨r', A, p, q, z⟩ := pick P (RS := RS) (by omega)
        refine ⟨r', r :: A, (List.Perm.cons r p).trans (List.Perm.swap r' r A), q, fun s hs => ?_⟩
        rcases List.mem_cons.mp hs with rfl | hs
        · exact ⟨h1, h2⟩
        · exact z s hs
section
variable {sorts : List (Str × Str)} {ks : List (Str × List Str)} (hS : StockOk sorts ks) {most : Nat} {cs : List Str} {legs : List (Str × Str)} {js : List Jo} (hD : Drawn sorts ks most cs legs js)
include hS hD
end
end GA

set_option Elab.async false
set_option linter.all false
set_option maxRecDepth 100000
set_option maxHeartbeats 4000000
/-! NGb: two legs joined, with what is refused; the sewn one is a drawing. -/
namespace GA
open PySem L2 DL G PG
def xK : Option Ou → Option (R D)
  | some (.rt d _) => some (.ok d [])
  | some (.nx _) => some (.ok .non [])
  | some (.ex x _) => some (.ex x [])
  | _ => none
theorem xK_ex (x : Xn) (δ : En) : xK (some (.ex x δ)) = some (.ex x []) := (rfl)
section
variable {sorts : List (Str × Str)} {ks : List (Str × List Str)} (hS : StockOk sorts ks) {most : Nat} {cs : List Str} {legs : List (Str × Str)} {js : List Jo} (hD : Drawn sorts ks most cs legs js)
include hS hD
end
end GA

set_option Elab.async false
set_option linter.all false
set_option maxRecDepth 100000
set_option maxHeartbeats 4000000
/-! NAh: the stock of up to four kinds (k03-k13). -/
namespace GA
open PySem L2 DL G PG
end GA

set_option Elab.async false
set_option linter.all false
set_option maxRecDepth 100000
set_option maxHeartbeats 4000000
/-! NAi: stocks compared; the strange stock of the laws. -/
namespace GA
open PySem L2 DL G PG
section
variable (c : Cs) {sorts : List (Str × Str)} {ks : List (Str × List Str)} (hS : StockOk sorts ks)
include hS
theorem stock_eqI : eqI c.stock (g_Stock___eq__ c) (stockD c sorts ks) (stockD c sorts ks) = some (.bl true) := by
  have := stock_eq c hS
  unfold stockD at this ⊢
  simp only [eqI, and_self, if_true, this]
theorem stock_neI {ks2 : List (Str × List Str)} (hS2 : StockOk sorts ks2) (ne : kindsD ks ≠ kindsD ks2) : eqI c.stock (g_Stock___eq__ c) (stockD c sorts ks) (stockD c sorts ks2) = some (.bl false) := by
  have h1 := sorts_of c hS
  have h2 := kinds_of c hS
  have h3 := sorts_of c hS2
  have h4 := kinds_of c hS2
  have p := stock_pl hS
  have p2 := stock_pl hS2
  have q1 : eqD (sortsD sorts) (sortsD sorts) = some (.bl true) := by rw [eqD_pl 2 p.1 p.1]; simp
  have q2 : eqD (kindsD ks) (kindsD ks2) = some (.bl false) := by rw [eqD_pl 3 p.2 p2.2, decide_eq_false ne]
  have i1 : isC c.stock (stockD c sorts ks2) = some (.bl true) := by simp [isC, stockD]
  have : g_Stock___eq__ c [stockD c sorts ks, stockD c sorts ks2] = some (.bl false) := by
    simp_arith only [g_Stock___eq__, m_Stock___eq__, h1, h2, h3, h4, q1, q2, i1]
  unfold stockD at this ⊢
  simp only [eqI, and_self, if_true, this]
end
end GA

set_option Elab.async false
set_option linter.all false
set_option maxRecDepth 100000
set_option maxHeartbeats 1000000
/-! NAj: the stock of up to three kinds, with what its sorts are called. -/
namespace GA
open PySem L2 DL G PG
theorem sortsAN (x y z : Str) (hx : NameOk x) (hy : NameOk y) (hz : NameOk z) (nd : [x, y, z].Nodup) (r : Int) (h0 : 0 ≤ r) (h1 : r < 5) : ∃ sorts, SortsOk sorts ∧
    ixD (.lst [.lst [.tup [.str x, .str x]], .lst [.tup [.str x, .str y], .tup [.str y, .str x]], .lst [.tup [.str x, .str x], .tup [.str y, .str z], .tup [.str z, .str y]], .lst [.tup [.str x, .str x], .tup [.str y, .str y]], .lst [.tup [.str x, .str x]]]) (.int r) = some (sortsD sorts) ∧ ∀ p ∈ sorts, p.1 = x ∨ p.1 = y ∨ p.1 = z := by
  simp only [List.nodup_cons, List.mem_cons, List.not_mem_nil, or_false, not_or, List.nodup_nil, and_true, not_false_eq_true] at nd
  obtain ⟨⟨xy, xz⟩, yz⟩ := nd
  have : r = 0 ∨ r = 1 ∨ r = 2 ∨ r = 3 ∨ r = 4 := by omega
  rcases this with rfl | rfl | rfl | rfl | rfl
  · exact ⟨[(x, x)], ⟨by simp, by simp, by simp [hx], by simp, by simp⟩, rfl, by simp⟩
  · exact ⟨[(x, y), (y, x)], ⟨by simp, by simp, by simp [hx, hy], by simp [xy], by simp⟩, rfl, by simp⟩
  · exact ⟨[(x, x), (y, z), (z, y)], ⟨by simp, by simp, by simp [hx, hy, hz], by simp [xy, yz, xz], by simp⟩, rfl, by simp⟩
  · exact ⟨[(x, x), (y, y)], ⟨by simp, by simp, by simp [hx, hy], by simp [xy], by simp⟩, rfl, by simp⟩
  · exact ⟨[(x, x)], ⟨by simp, by simp, by simp [hx], by simp, by simp⟩, rfl, by simp⟩
end GA

set_option Elab.async false
set_option linter.all false
set_option maxRecDepth 100000
set_option maxHeartbeats 4000000
/-! NKa: cutting, with what is refused. -/
namespace GA
open PySem L2 DL G PG
section
variable (c : Cs) {sorts : List (Str × Str)} {ks : List (Str × List Str)} (hS : StockOk sorts ks) {most : Nat} {cs : List Str} {legs : List (Str × Str)} {js : List Jo} (hD : Drawn sorts ks most cs legs js) {j : Jo} {a b : Str} (hC : CutOk cs legs js j a b)
include hS hD hC
end
/-! ### what is no join -/
section
variable (c : Cs) {a b e f : D}
end
section
variable (c : Cs) {sorts : List (Str × Str)} {ks : List (Str × List Str)} (hS : StockOk sorts ks)
include hS
variable {most : Nat} {cs : List Str} {legs : List (Str × Str)} {js : List Jo} (hD : Drawn sorts ks most cs legs js)
include hD
end
end GA

set_option Elab.async false
set_option linter.all false
set_option maxRecDepth 100000
set_option maxHeartbeats 1000000
/-! QAa: a suite with clauses for errors with a field, evaluated; what are no corners, no legs, no joins; the stock of up to four kinds, with all its names. -/
namespace GA
open PySem L2 DL G PG
theorem mTryF_ex {R : List Nat} {cx : Nat → Addr} {fld : Str} {cl : List ClF} {mb : Ms} {δ δ' : En} {x : Xn} {d : D} {o : Ou} (h0 : shortB δ = true) (hb : mb δ = some (.ex x δ')) (h1 : shortB δ' = true) (h2 : x.tg ∈ R) (h3 : x.C = cx x.tg) (h4 : x.ns = [fld]) (h5 : x.ds = [d]) (h6 : (plV d).isSome = true) (hs : mClsF δ' x.tg d cl = some o) : mTryF R cx fld cl mb δ = some o := by
  unfold mTryF
  rw [if_pos h0, hb]
  simp only
  rw [if_pos ⟨h1, h2, h3, h4⟩, h5]
  simp only
  rw [if_pos h6, hs]
theorem mTryF_nx {R : List Nat} {cx : Nat → Addr} {fld : Str} {cl : List ClF} {mb : Ms} {δ δ' : En} (h0 : shortB δ = true) (hb : mb δ = some (.nx δ')) (h5 : shortB δ' = true) : mTryF R cx fld cl mb δ = some (.nx δ') := by
  unfold mTryF
  rw [if_pos h0, hb]
  exact if_pos h5
theorem mClsF_yes {δ : En} {tg : Nat} {d : D} {ts : List Nat} {i : Option Nat} {ms : Nat → D → Ms} {r : List ClF} {o o' : Ou} (h : tg ∈ ts) (hm : ms tg d (clD i δ) = some o) (ho : ouSetO i o = some o') (hs : shortB (ouE o') = true) (hn : noB2 (ouE o') = true) : mClsF δ tg d ((ts, i, ms) :: r) = some o' := by
  unfold mClsF
  rw [if_pos h, hm]
  simp only [ho]
  rw [if_pos ⟨hs, hn⟩]
/-- what an __init__ that may raise comes to -/
def iK : Option Ou → Option (R D)
  | some (.nx δ) => (io0 δ).map fun e => R.ok .non [.io e]
  | some (.ex x _) => some (.ex x [])
  | _ => none
theorem defIX_e (n : Nat) (ks : List PK) (m : Ms) (ds : List D) : defIX n ks m ds = iK (m (startE n (entry (.io :: ks) ds))) := by
  unfold defIX iK
  rfl
theorem iK_ex {x : Xn} {δ : En} : iK (some (.ex x δ)) = some (.ex x []) := (rfl)
theorem mRaiseF_e (C : Addr) (fld : Str) (tg : Nat) (m : M D) (δ : En) : mRaiseF C fld tg m δ = sK (fun d δ => some (.ex ⟨C, [fld], [d], tg⟩ δ)) (m δ) := by
  unfold mRaiseF
  rw [mS_e]
theorem neD_self {d : D} (h : pyEq d d = some true) : neD d d = some (.bl false) := by
  simp [neD, h]
theorem iK_nx {δ : En} : iK (some (.nx δ)) = (io0 δ).map fun e => R.ok .non [.io e] := (rfl)
section
variable (c : Cs)
end
section
variable (c : Cs) {sorts : List (Str × Str)} {ks : List (Str × List Str)} (hS : StockOk sorts ks)
include hS
end
end GA

set_option Elab.async false
set_option linter.all false
set_option maxRecDepth 100000
set_option maxHeartbeats 4000000
/-! ABa: rows of a stock that are none (k01). -/
namespace GA
open PySem L2 DL G PG
theorem nothing01 {x : Str} (h : NmOf x) : x ≠ "nothing" := by
  rintro rfl
  rcases h with h | ⟨s, h, e⟩
  · revert h; decide +kernel
  · have : (("nothing" : Str).cps.toList.getLast?) = some 103 := by decide +kernel
    rw [this] at e
    cases e
    revert h; decide +kernel
theorem nothing_ok : NameOk ("nothing" : Str) := by
  have h : (1 ≤ ("nothing" : Str).cps.size ∧ ("nothing" : Str).cps.size ≤ 8) ∧ ∀ x ∈ ("nothing" : Str).cps.toList, 97 ≤ x ∧ x ≤ 122 := by decide +kernel
  exact ⟨h.1.1, h.1.2, h.2⟩
def nmB (x : Str) : Bool := decide (1 ≤ x.cps.size ∧ x.cps.size ≤ 8) && x.cps.toList.all fun z => decide (97 ≤ z ∧ z ≤ 122)
theorem nmB_of {x : Str} (h : NameOk x) : nmB x = true := by
  unfold nmB
  rw [Bool.and_eq_true, decide_eq_true_iff, List.all_eq_true]
  exact ⟨⟨h.1, h.2.1⟩, fun z hz => decide_eq_true (h.2.2 z hz)⟩
section
variable (c : Cs)
theorem name_not {x : Str} (hx : x.length ≤ 100) (hn : nmB x = false) : g_is_name c [.str x] = some (.bl false) := by
  obtain ⟨b, h1, h2⟩ := is_name_any c hx
  cases b with
  | false => exact h1
  | true => rw [nmB_of (h2 rfl)] at hn; cases hn
theorem name_nostr {d : D} (h : isB "str" d = some (.bl false)) : g_is_name c [d] = some (.bl false) := by
  simp_arith only [g_is_name, m_is_name, h]
def oddN : List D := [.str "", .str "A", .str "a b", .str "abcdefghi", .str "a1", .non, .int 5, .tup [.str "a"], .lst [.str "a"], .str "-", .bl true, .str "a-b"]
theorem oddN_no : ∀ d ∈ oddN, g_is_name c [d] = some (.bl false) := fun d hd => by
  unfold oddN at hd
  simp only [List.mem_cons, List.not_mem_nil, or_false] at hd
  rcases hd with rfl | rfl | rfl | rfl | rfl | rfl | rfl | rfl | rfl | rfl | rfl | rfl
  · exact name_not c (by decide +kernel) (by decide +kernel)
  · exact name_not c (by decide +kernel) (by decide +kernel)
  · exact name_not c (by decide +kernel) (by decide +kernel)
  · exact name_not c (by decide +kernel) (by decide +kernel)
  · exact name_not c (by decide +kernel) (by decide +kernel)
  · exact name_nostr c rfl
  · exact name_nostr c rfl
  · exact name_nostr c rfl
  · exact name_nostr c rfl
  · exact name_not c (by decide +kernel) (by decide +kernel)
  · exact name_nostr c rfl
  · exact name_not c (by decide +kernel) (by decide +kernel)
theorem no_name_ok {m : Nat} {R : D} (hR : Sr m R) (hm : m ≤ 100000) : ∃ d R', g__law_no_name c [R] = some (d, R') ∧ d ∈ oddN ∧ Sr (m + 1) R' := by
  obtain ⟨i, hi, R', ho, hR'⟩ := one_spec c hR (by omega) (ds := oddN) (by decide) (by decide)
  refine ⟨oddN[i], R', ?_, List.getElem_mem hi, hR'⟩
  have ho' : g__law_one c [R, .lst [.str "", .str "A", .str "a b", .str "abcdefghi", .str "a1", .non, .int 5, .tup [.str "a"], .lst [.str "a"], .str "-", .bl true, .str "a-b"]] = some (oddN[i], R') := ho
  simp_arith only [g__law_no_name, m__law_no_name, ho']
/-! ### rows of sorts -/
theorem sr_notup {d : D} (h : isB "tuple" d = some (.bl false)) : g_is_sort_row c [d] = some (.bl false) := by
  simp_arith only [g_is_sort_row, m_is_sort_row, h]
theorem sr_len {ds : List D} (h : ds.length ≠ 2) : g_is_sort_row c [.tup ds] = some (.bl false) := by
  have t1 : isB "tuple" (.tup ds) = some (.bl true) := rfl
  have l1 : lenD (.tup ds) = some (.int (ds.length : Nat)) := rfl
  have n2 : eqD (.int (ds.length : Nat)) (.int 2) = some (.bl false) := by rw [eqD_int, decide_eq_false (by omega)]
  simp_arith only [g_is_sort_row, m_is_sort_row, t1, l1, n2]
theorem sr_two {a b : D} {v1 v2 : Bool} (h1 : g_is_name c [a] = some (.bl v1)) (h2 : g_is_name c [b] = some (.bl v2)) : g_is_sort_row c [.tup [a, b]] = some (.bl (v1 && v2)) := by
  have t1 : isB "tuple" (.tup [a, b]) = some (.bl true) := rfl
  have l2 : lenD (.tup [a, b]) = some (.int 2) := rfl
  have i0 : ixD (.tup [a, b]) (.int 0) = some a := rfl
  have i1 : ixD (.tup [a, b]) (.int 1) = some b := rfl
  have n2 : eqD (.int 2) (.int 2) = some (.bl true) := by rw [eqD_int]; rfl
  obtain ⟨T, hT⟩ : ∃ T, T = D.tup [a, b] := ⟨_, rfl⟩
  rw [← hT] at t1 l2 i0 i1 ⊢
  cases v1
  · simp_arith only [g_is_sort_row, m_is_sort_row, t1, l2, i0, i1, n2, h1, h2, Bool.false_and]
  · simp_arith only [g_is_sort_row, m_is_sort_row, t1, l2, i0, i1, n2, h1, h2, Bool.true_and]
theorem sorts_nolist {d : D} (h : isB "list" d = some (.bl false)) : g_are_sorts c [d] = some (.bl false) := by
  simp_arith only [g_are_sorts, m_are_sorts, h]
theorem sorts_len01 {ds : List D} (h : ds.length = 0 ∨ 3 < ds.length) : g_are_sorts c [.lst ds] = some (.bl false) := by
  have t1 : isB "list" (.lst ds) = some (.bl true) := rfl
  have l1 : lenD (.lst ds) = some (.int (ds.length : Nat)) := rfl
  by_cases z : 1 ≤ ds.length
  · have i1 : ((1 : Int) ≤ (ds.length : Int)) = True := eq_true (by omega)
    have i3 : ((ds.length : Int) ≤ 3) = False := eq_false (by omega)
    simp_arith only [g_are_sorts, m_are_sorts, t1, l1, i1, i3]
  · have i1 : ((1 : Int) ≤ (ds.length : Int)) = False := eq_false (by omega)
    simp_arith only [g_are_sorts, m_are_sorts, t1, l1, i1]
open Classical in
theorem sorts_odd {ds : List D} (hk : ∀ d ∈ ds, ∃ b, g_is_sort_row c [d] = some (.bl b)) (hn : ∃ d ∈ ds, g_is_sort_row c [d] = some (.bl false)) : g_are_sorts c [.lst ds] = some (.bl false) := by
  by_cases z : ds.length = 0 ∨ 3 < ds.length
  · exact sorts_len01 c z
  · have h1 : L_are_sorts_0 c [.bo (.lst ds), .un, .un, .un] = some (.ok (.lst (ds.map fun d => .bl (decide (g_is_sort_row c [d] = some (.bl true))))) [.bo (.lst ds), .un, .un, .un]) := by
      refine mLc_map (as := ds) (enc := id) (δ0 := [.bo (.lst ds), .un, .un, .un]) (by rw [List.map_id]; rfl) rfl fun d hd => ⟨[.bo (.lst ds), .fr d, .un, .un], [.bo (.lst ds), .fr d, .un, .un], rfl, ?_, rfl⟩
      obtain ⟨b, h⟩ := hk d hd
      have e : decide (g_is_sort_row c [d] = some (.bl true)) = b := by rw [h]; cases b <;> simp
      rw [e]
      simp_arith only [E_are_sorts_0, h]
    have a1 : allD (.lst (ds.map fun d => .bl (decide (g_is_sort_row c [d] = some (.bl true))))) = some (.bl false) := by
      rw [allD_map]
      congr 2
      rw [List.all_eq_false]
      obtain ⟨d, hd, h⟩ := hn
      exact ⟨d, hd, by rw [h]; simp⟩
    have i1 : ((1 : Int) ≤ (ds.length : Int)) = True := eq_true (by omega)
    have i3 : ((ds.length : Int) ≤ 3) = True := eq_true (by omega)
    have t1 : isB "list" (.lst ds) = some (.bl true) := rfl
    have l1 : lenD (.lst ds) = some (.int (ds.length : Nat)) := rfl
    simp_arith only [g_are_sorts, m_are_sorts, h1, a1, t1, l1, i1, i3]
theorem dd_le : ∀ ks : List Key, (dd ks).length ≤ ks.length ∧ (¬ ks.Nodup → (dd ks).length < ks.length)
  | [] => ⟨Nat.le_refl _, fun h => absurd List.nodup_nil h⟩
  | k :: ks => by
    obtain ⟨h1, h2⟩ := dd_le ks
    by_cases e : inK k ks = true
    · have e2 : dd (k :: ks) = dd ks := by simp [dd, e]
      rw [e2, List.length_cons]
      exact ⟨by omega, fun _ => by omega⟩
    · have e2 : dd (k :: ks) = k :: dd ks := by simp [dd, e]
      rw [e2, List.length_cons, List.length_cons]
      refine ⟨by omega, fun h => ?_⟩
      have : ¬ ks.Nodup := fun w => h (List.nodup_cons.mpr ⟨fun z => e (inK_iff.mpr z), w⟩)
      have := h2 this
      omega
theorem sorts_pairs {ps : List (Str × Str)} (hn : ∀ p ∈ ps, NameOk p.1 ∧ NameOk p.2) (hb : ¬ (ps.map fun p => p.1).Nodup ∨ ∃ q ∈ ps, (q.2, q.1) ∉ ps) : g_are_sorts c [.lst (ps.map pairD)] = some (.bl false) := by
  by_cases z : (ps.map pairD).length = 0 ∨ 3 < (ps.map pairD).length
  · exact sorts_len01 c z
  · rw [List.length_map] at z
    have hS : ∀ p ∈ ps, g_is_sort_row c [pairD p] = some (.bl true) := fun p hp => is_sort_row_ok c (hn p hp).1 (hn p hp).2
    obtain ⟨PL, hPL⟩ : ∃ X, X = D.lst (ps.map pairD) := ⟨_, rfl⟩
    have sq : ∀ (f1 f2 f3 : Sl), mSeqB 0 [.bo PL, f1, f2, f3] = some (.ok (ps.map pairD) [.bo PL, f1, f2, f3]) := fun _ _ _ => by rw [hPL]; rfl
    have h1 : L_are_sorts_0 c [.bo PL, .un, .un, .un] = some (.ok (.lst (ps.map fun _ => .bl true)) [.bo PL, .un, .un, .un]) := by
      refine mLc_map (as := ps) (enc := pairD) (δ0 := [.bo PL, .un, .un, .un]) (sq _ _ _) rfl fun p hp => ⟨[.bo PL, .fr (pairD p), .un, .un], [.bo PL, .fr (pairD p), .un, .un], rfl, ?_, rfl⟩
      have := hS p hp
      generalize pairD p = PD at *
      simp_arith only [E_are_sorts_0, this]
    have h2 : L_are_sorts_1 c [.bo PL, .un, .un, .un] = some (.ok (.lst ((ps.map fun p => p.1).map .str)) [.bo PL, .un, .un, .un]) := by
      rw [List.map_map]
      refine mLc_map (as := ps) (enc := pairD) (δ0 := [.bo PL, .un, .un, .un]) (sq _ _ _) rfl fun p hp => ⟨[.bo PL, .un, .fr (.str p.1), .fr (.str p.2)], [.bo PL, .un, .fr (.str p.1), .fr (.str p.2)], rfl, ?_, rfl⟩
      simp_arith only [E_are_sorts_1, Function.comp]
    have h3 : L_are_sorts_2 c [.bo PL, .un, .un, .un] = some (.ok (.lst (ps.map fun p => .bl (decide ((p.2, p.1) ∈ ps)))) [.bo PL, .un, .un, .un]) := by
      refine mLc_map (as := ps) (enc := pairD) (f := fun p => .bl (decide ((p.2, p.1) ∈ ps))) (δ0 := [.bo PL, .un, .un, .un]) (sq _ _ _) rfl fun p hp => ⟨[.bo PL, .un, .fr (.str p.1), .fr (.str p.2)], [.bo PL, .un, .fr (.str p.1), .fr (.str p.2)], rfl, ?_, rfl⟩
      have hi : inLD false (.tup [.str p.2, .str p.1]) PL = some (.bl (decide ((p.2, p.1) ∈ ps))) := by
        rw [hPL, inLD_pl 1 false (pair_pl (p := (p.2, p.1)) (hn p hp).2 (hn p hp).1) (pairs_pl hn)]
        congr 2
        rw [Bool.false_xor, decide_eq_decide]
        constructor
        · intro h
          obtain ⟨q, hq, e⟩ := List.mem_map.mp h
          simp [pairD] at e
          rw [← e.1, ← e.2]
          exact hq
        · intro h; exact List.mem_map.mpr ⟨_, h, rfl⟩
      simp_arith only [E_are_sorts_2, hi]
    have a1 : allD (.lst (ps.map fun _ => .bl true)) = some (.bl true) := by rw [allD_map]; simp
    have a3 : allD (.lst (ps.map fun p => .bl (decide ((p.2, p.1) ∈ ps)))) = some (.bl (ps.all fun p => decide ((p.2, p.1) ∈ ps))) := allD_map _ _
    have i1 : ((1 : Int) ≤ (ps.length : Int)) = True := eq_true (by omega)
    have i3 : ((ps.length : Int) ≤ 3) = True := eq_true (by omega)
    have t1 : isB "list" PL = some (.bl true) := by rw [hPL]; rfl
    have l1 : lenD PL = some (.int (ps.length : Nat)) := by rw [hPL, show lenD (.lst (ps.map pairD)) = some (.int ((ps.map pairD).length : Nat)) from rfl, List.length_map]
    have ls : lenSetD (.lst ((ps.map fun p => p.1).map .str)) = some (.int ((dd ((ps.map fun p => p.1).map Sum.inr)).length : Nat)) := by
      unfold lenSetD
      rw [setKeys_strs (ps.map fun p => p.1) (by rw [List.length_map]; omega)]
      rfl
    obtain ⟨q1, q2⟩ := dd_le ((ps.map fun p => p.1).map Sum.inr)
    rw [List.length_map, List.length_map] at q1 q2
    rw [← hPL]
    by_cases w : (dd ((ps.map fun p => p.1).map Sum.inr)).length < ps.length
    · have lt : (((dd ((ps.map fun p => p.1).map Sum.inr)).length : Int) < (ps.length : Int)) = True := eq_true (by omega)
      simp_arith only [g_are_sorts, m_are_sorts, h1, a1, t1, l1, i1, i3, h2, ls, lt]
    · have lt : (((dd ((ps.map fun p => p.1).map Sum.inr)).length : Int) < (ps.length : Int)) = False := eq_false (by omega)
      have nd : (ps.map fun p => p.1).Nodup := by
        have : ((ps.map fun p => p.1).map Sum.inr : List Key).Nodup := Decidable.byContradiction fun h => w (q2 h)
        exact (List.pairwise_map.mp this).imp fun h e => h (by rw [e])
      have hb' : ∃ q ∈ ps, (q.2, q.1) ∉ ps := hb.resolve_left fun h => h nd
      have e : (ps.all fun p => decide ((p.2, p.1) ∈ ps)) = false := by
        rw [List.all_eq_false]
        obtain ⟨q, hq, h⟩ := hb'
        exact ⟨q, hq, by simpa using h⟩
      rw [e] at a3
      simp_arith only [g_are_sorts, m_are_sorts, h1, a1, t1, l1, i1, i3, h2, ls, lt, h3, a3]
/-! ### rows of kinds -/
theorem kr_notup {d S : D} (h : isB "tuple" d = some (.bl false)) : g_is_kind_row c [d, S] = some (.bl false) := by
  simp_arith only [g_is_kind_row, m_is_kind_row, h]
theorem kr_len {ds : List D} {S : D} (h : ds.length ≠ 2) : g_is_kind_row c [.tup ds, S] = some (.bl false) := by
  have t1 : isB "tuple" (.tup ds) = some (.bl true) := rfl
  have l1 : lenD (.tup ds) = some (.int (ds.length : Nat)) := rfl
  have n2 : neD (.int (ds.length : Nat)) (.int 2) = some (.bl true) := by rw [neD_int, decide_eq_false (by omega)]; rfl
  simp_arith only [g_is_kind_row, m_is_kind_row, t1, l1, n2]
theorem kr_name {a b S : D} (h : g_is_name c [a] = some (.bl false)) : g_is_kind_row c [.tup [a, b], S] = some (.bl false) := by
  have t1 : isB "tuple" (.tup [a, b]) = some (.bl true) := rfl
  have l2 : lenD (.tup [a, b]) = some (.int 2) := rfl
  have i0 : ixD (.tup [a, b]) (.int 0) = some a := rfl
  have n2 : neD (.int 2) (.int 2) = some (.bl false) := by rw [neD_int]; rfl
  obtain ⟨T, hT⟩ : ∃ T, T = D.tup [a, b] := ⟨_, rfl⟩
  rw [← hT] at t1 l2 i0 ⊢
  simp_arith only [g_is_kind_row, m_is_kind_row, t1, l2, i0, n2, h]
theorem kr_ends {a b S : D} (h : g_is_name c [a] = some (.bl true)) (hb : isB "tuple" b = some (.bl false)) : g_is_kind_row c [.tup [a, b], S] = some (.bl false) := by
  have t1 : isB "tuple" (.tup [a, b]) = some (.bl true) := rfl
  have l2 : lenD (.tup [a, b]) = some (.int 2) := rfl
  have i0 : ixD (.tup [a, b]) (.int 0) = some a := rfl
  have i1 : ixD (.tup [a, b]) (.int 1) = some b := rfl
  have n2 : neD (.int 2) (.int 2) = some (.bl false) := by rw [neD_int]; rfl
  obtain ⟨T, hT⟩ : ∃ T, T = D.tup [a, b] := ⟨_, rfl⟩
  rw [← hT] at t1 l2 i0 i1 ⊢
  simp_arith only [g_is_kind_row, m_is_kind_row, t1, l2, i0, i1, n2, h, hb]
theorem kr_few {a S : D} {es : List D} (h : g_is_name c [a] = some (.bl true)) (hl : es.length = 0 ∨ 5 < es.length) : g_is_kind_row c [.tup [a, .tup es], S] = some (.bl false) := by
  have t1 : isB "tuple" (.tup [a, .tup es]) = some (.bl true) := rfl
  have l2 : lenD (.tup [a, .tup es]) = some (.int 2) := rfl
  have i0 : ixD (.tup [a, .tup es]) (.int 0) = some a := rfl
  have i1 : ixD (.tup [a, .tup es]) (.int 1) = some (.tup es) := rfl
  have n2 : neD (.int 2) (.int 2) = some (.bl false) := by rw [neD_int]; rfl
  have t2 : isB "tuple" (.tup es) = some (.bl true) := rfl
  have l3 : lenD (.tup es) = some (.int (es.length : Nat)) := rfl
  obtain ⟨T, hT⟩ : ∃ T, T = D.tup [a, .tup es] := ⟨_, rfl⟩
  rw [← hT] at t1 l2 i0 i1 ⊢
  by_cases z : 1 ≤ es.length
  · have j1 : ((1 : Int) ≤ (es.length : Int)) = True := eq_true (by omega)
    have j5 : ((es.length : Int) ≤ 5) = False := eq_false (by omega)
    simp_arith only [g_is_kind_row, m_is_kind_row, t1, l2, i0, i1, n2, h, t2, l3, j1, j5]
  · have j1 : ((1 : Int) ≤ (es.length : Int)) = False := eq_false (by omega)
    simp_arith only [g_is_kind_row, m_is_kind_row, t1, l2, i0, i1, n2, h, t2, l3, j1]
theorem kr_L0 {T S : D} {es : List D} (nb : D → Bool) (hk : ∀ d ∈ es, g_is_name c [d] = some (.bl (nb d))) : L_is_kind_row_0 c [.fr T, .fr S, .fr (.tup es), .un] = some (.ok (.lst (es.map fun d => .bl (nb d))) [.fr T, .fr S, .fr (.tup es), .un]) := by
  refine mLc_map (as := es) (enc := id) (f := fun d => .bl (nb d)) (δ0 := [.fr T, .fr S, .fr (.tup es), .un]) (by rw [List.map_id]; rfl) rfl fun d hd => ⟨[.fr T, .fr S, .fr (.tup es), .fr d], [.fr T, .fr S, .fr (.tup es), .fr d], rfl, ?_, rfl⟩
  have := hk d hd
  simp_arith only [E_is_kind_row_0, this]
theorem kr_none1 {a S : D} (h : g_is_name c [a] = some (.bl true)) : g_is_kind_row c [.tup [a, .tup [.non]], S] = some (.bl false) := by
  have t1 : isB "tuple" (.tup [a, .tup [.non]]) = some (.bl true) := rfl
  have l2 : lenD (.tup [a, .tup [.non]]) = some (.int 2) := rfl
  have i0 : ixD (.tup [a, .tup [.non]]) (.int 0) = some a := rfl
  have i1 : ixD (.tup [a, .tup [.non]]) (.int 1) = some (.tup [.non]) := rfl
  have n2 : neD (.int 2) (.int 2) = some (.bl false) := by rw [neD_int]; rfl
  have t2 : isB "tuple" (.tup [D.non]) = some (.bl true) := rfl
  have l3 : lenD (.tup [D.non]) = some (.int 1) := rfl
  obtain ⟨T, hT⟩ : ∃ T, T = D.tup [a, .tup [.non]] := ⟨_, rfl⟩
  rw [← hT] at t1 l2 i0 i1 ⊢
  have h0 := kr_L0 c (T := T) (S := S) (es := [.non]) (fun _ => false) (fun d hd => by rw [List.mem_singleton.mp hd]; exact name_nostr c rfl)
  have a0 : allD (.lst ([D.non].map fun d => .bl false)) = some (.bl false) := by rw [allD_map]; rfl
  have j1 : ((1 : Int) ≤ 1) = True := eq_true (by omega)
  have j5 : ((1 : Int) ≤ 5) = True := eq_true (by omega)
  generalize hZ : D.tup [D.non] = Z at *
  simp_arith only [g_is_kind_row, m_is_kind_row, t1, l2, i0, i1, n2, h, t2, l3, j1, j5, h0, a0]
section
variable {sorts : List (Str × Str)} (hS : SortsOk sorts)
include hS
theorem kr_strs {n : Str} {es : List Str} (hn : NameOk n) (he : ∀ x ∈ es, NameOk x) (hb : (∃ x ∈ es, x ∉ sorts.map fun q => q.1) ∨ ((∀ x ∈ es, x ∈ sorts.map fun q => q.1) ∧ sortS es ≠ es)) : g_is_kind_row c [.tup [.str n, .tup (es.map .str)], snD sorts] = some (.bl false) := by
  have hN := is_name_ok c hn
  by_cases z : (es.map D.str).length = 0 ∨ 5 < (es.map D.str).length
  · exact kr_few c hN z
  · rw [List.length_map] at z
    obtain ⟨Z, hZ⟩ : ∃ Z, Z = D.tup (es.map .str) := ⟨_, rfl⟩
    have t1 : isB "tuple" (.tup [.str n, Z]) = some (.bl true) := rfl
    have l2 : lenD (.tup [.str n, Z]) = some (.int 2) := rfl
    have i0 : ixD (.tup [.str n, Z]) (.int 0) = some (.str n) := rfl
    have i1 : ixD (.tup [.str n, Z]) (.int 1) = some Z := rfl
    have n2 : neD (.int 2) (.int 2) = some (.bl false) := by rw [neD_int]; rfl
    have t2 : isB "tuple" Z = some (.bl true) := by rw [hZ]; rfl
    have l3 : lenD Z = some (.int (es.length : Nat)) := by rw [hZ, show lenD (.tup (es.map D.str)) = some (.int ((es.map D.str).length : Nat)) from rfl, List.length_map]
    obtain ⟨T, hT⟩ : ∃ T, T = D.tup [.str n, Z] := ⟨_, rfl⟩
    have h0 := kr_L0 c (T := T) (S := snD sorts) (es := es.map .str) (fun _ => true) (fun d hd => by
      obtain ⟨x, hx, rfl⟩ := List.mem_map.mp hd
      exact is_name_ok c (he x hx))
    have a0 : allD (.lst ((es.map D.str).map fun d => .bl true)) = some (.bl true) := by rw [allD_map]; simp
    have h1 : L_is_kind_row_1 c [.fr T, .fr (snD sorts), .fr (.tup (es.map .str)), .un] = some (.ok (.lst (es.map fun x => .bl (decide (x ∈ sorts.map fun q => q.1)))) [.fr T, .fr (snD sorts), .fr (.tup (es.map .str)), .un]) := by
      show mLc (mTupOf (mVar 2)) (gN 3) mYes (E_is_kind_row_1 c) [3] _ = _
      refine mLc_map (as := es) (enc := .str) (δ0 := [.fr T, .fr (snD sorts), .fr (.tup (es.map .str)), .un]) rfl rfl fun x hx => ⟨[.fr T, .fr (snD sorts), .fr (.tup (es.map .str)), .fr (.str x)], [.fr T, .fr (snD sorts), .fr (.tup (es.map .str)), .fr (.str x)], rfl, ?_, rfl⟩
      have hi : inLD false (.str x) (snD sorts) = some (.bl (decide (x ∈ sorts.map fun q => q.1))) := by
        unfold snD
        rw [inLD_pl 0 false (he x hx).pl (strs_pl hS fun y hy => sort_name hS hy)]
        congr 2
        rw [Bool.false_xor, decide_eq_decide]
        exact ⟨fun h => by obtain ⟨y, hy, e⟩ := List.mem_map.mp h; cases e; exact hy, fun h => List.mem_map.mpr ⟨_, h, rfl⟩⟩
      simp_arith only [E_is_kind_row_1, hi]
    rw [← hZ] at h0 h1
    have a1 : allD (.lst (es.map fun x => .bl (decide (x ∈ sorts.map fun q => q.1)))) = some (.bl (es.all fun x => decide (x ∈ sorts.map fun q => q.1))) := allD_map _ _
    have j1 : ((1 : Int) ≤ (es.length : Int)) = True := eq_true (by omega)
    have j5 : ((es.length : Int) ≤ 5) = True := eq_true (by omega)
    rw [← hZ, ← hT]
    rw [← hT] at t1 l2 i0 i1
    by_cases w : ∃ x ∈ es, x ∉ sorts.map fun q => q.1
    · have e : (es.all fun x => decide (x ∈ sorts.map fun q => q.1)) = false := by
        rw [List.all_eq_false]
        obtain ⟨x, hx, h⟩ := w
        exact ⟨x, hx, by simpa using h⟩
      rw [e] at a1
      simp_arith only [g_is_kind_row, m_is_kind_row, t1, l2, i0, i1, n2, hN, t2, l3, j1, j5, h0, a0, h1, a1]
    · obtain ⟨w1, w2⟩ := hb.resolve_left w
      have e : (es.all fun x => decide (x ∈ sorts.map fun q => q.1)) = true := by
        rw [List.all_eq_true]
        exact fun x hx => decide_eq_true (w1 x hx)
      rw [e] at a1
      have li : listD Z = some (es.map D.str) := by rw [hZ]; rfl
      have so : sortF Z = some ((sortS es).map D.str) := by rw [hZ]; exact sortF_tup es (by omega)
      have eq : eqD (.lst (es.map D.str)) (.lst ((sortS es).map D.str)) = some (.bl false) := by
        rw [eqD_pl 1 (Pl.lst (strs_pl hS he)) (Pl.lst (strs_pl hS fun y hy => he y (sortS_mem.mp hy)))]
        congr 2
        rw [decide_eq_false_iff_not, D.lst.injEq]
        exact fun h => w2 ((List.map_inj_right (fun a b h => D.str.inj h)).mp h).symm
      simp_arith only [g_is_kind_row, m_is_kind_row, t1, l2, i0, i1, n2, hN, t2, l3, j1, j5, h0, a0, h1, a1, li, so, eq]
end
theorem kinds_nolist {d S : D} (h : isB "list" d = some (.bl false)) : g_are_kinds c [d, S] = some (.bl false) := by
  simp_arith only [g_are_kinds, m_are_kinds, h]
theorem kinds_len {ds : List D} {S : D} (h : ds.length = 0 ∨ 4 < ds.length) : g_are_kinds c [.lst ds, S] = some (.bl false) := by
  have t1 : isB "list" (.lst ds) = some (.bl true) := rfl
  have l1 : lenD (.lst ds) = some (.int (ds.length : Nat)) := rfl
  by_cases z : 1 ≤ ds.length
  · have i1 : ((1 : Int) ≤ (ds.length : Int)) = True := eq_true (by omega)
    have i3 : ((ds.length : Int) ≤ 4) = False := eq_false (by omega)
    simp_arith only [g_are_kinds, m_are_kinds, t1, l1, i1, i3]
  · have i1 : ((1 : Int) ≤ (ds.length : Int)) = False := eq_false (by omega)
    simp_arith only [g_are_kinds, m_are_kinds, t1, l1, i1]
theorem kinds_L0 {ds : List D} {S : D} (kb : D → Bool) (hk : ∀ d ∈ ds, g_is_kind_row c [d, S] = some (.bl (kb d))) : L_are_kinds_0 c [.bo (.lst ds), .fr S, .un, .un, .un] = some (.ok (.lst (ds.map fun d => .bl (kb d))) [.bo (.lst ds), .fr S, .un, .un, .un]) := by
  refine mLc_map (as := ds) (enc := id) (f := fun d => .bl (kb d)) (δ0 := [.bo (.lst ds), .fr S, .un, .un, .un]) (by rw [List.map_id]; rfl) rfl fun d hd => ⟨[.bo (.lst ds), .fr S, .fr d, .un, .un], [.bo (.lst ds), .fr S, .fr d, .un, .un], rfl, ?_, rfl⟩
  have := hk d hd
  simp_arith only [E_are_kinds_0, this]
open Classical in
theorem kinds_odd {ds : List D} {S : D} (hk : ∀ d ∈ ds, ∃ b, g_is_kind_row c [d, S] = some (.bl b)) (hn : ∃ d ∈ ds, g_is_kind_row c [d, S] = some (.bl false)) : g_are_kinds c [.lst ds, S] = some (.bl false) := by
  by_cases z : ds.length = 0 ∨ 4 < ds.length
  · exact kinds_len c z
  · have h1 := kinds_L0 c (ds := ds) (S := S) (fun d => decide (g_is_kind_row c [d, S] = some (.bl true))) fun d hd => by
      obtain ⟨b, h⟩ := hk d hd
      rw [h]; cases b <;> simp
    have a1 : allD (.lst (ds.map fun d => .bl (decide (g_is_kind_row c [d, S] = some (.bl true))))) = some (.bl false) := by
      rw [allD_map]
      congr 2
      rw [List.all_eq_false]
      obtain ⟨d, hd, h⟩ := hn
      exact ⟨d, hd, by rw [h]; simp⟩
    have i1 : ((1 : Int) ≤ (ds.length : Int)) = True := eq_true (by omega)
    have i3 : ((ds.length : Int) ≤ 4) = True := eq_true (by omega)
    have t1 : isB "list" (.lst ds) = some (.bl true) := rfl
    have l1 : lenD (.lst ds) = some (.int (ds.length : Nat)) := rfl
    simp_arith only [g_are_kinds, m_are_kinds, h1, a1, t1, l1, i1, i3]
theorem kinds_dup {sorts : List (Str × Str)} (hS : SortsOk sorts) {qs : List (Str × List Str)} (hq : ∀ p ∈ qs, NameOk p.1 ∧ EndsOk sorts p.2) (nd : ¬ (qs.map fun p => p.1).Nodup) : g_are_kinds c [kindsD qs, snD sorts] = some (.bl false) := by
  by_cases z : (qs.map G.kindD).length = 0 ∨ 4 < (qs.map G.kindD).length
  · exact kinds_len c z
  · rw [List.length_map] at z
    have h1 := kinds_L0 c (ds := qs.map G.kindD) (S := snD sorts) (fun _ => true) fun d hd => by
      obtain ⟨p, hp, rfl⟩ := List.mem_map.mp hd
      exact is_kind_row_ok c hS (hq p hp).1 (hq p hp).2
    have a1 : allD (.lst ((qs.map G.kindD).map fun d => .bl true)) = some (.bl true) := by rw [allD_map]; simp
    have h2 : L_are_kinds_1 c [.bo (.lst (qs.map G.kindD)), .fr (snD sorts), .un, .un, .un] = some (.ok (.lst ((qs.map fun p => p.1).map .str)) [.bo (.lst (qs.map G.kindD)), .fr (snD sorts), .un, .un, .un]) := by
      rw [List.map_map]
      refine mLc_map (as := qs) (enc := G.kindD) (δ0 := [.bo (.lst (qs.map G.kindD)), .fr (snD sorts), .un, .un, .un]) rfl rfl fun p hp => ⟨[.bo (.lst (qs.map G.kindD)), .fr (snD sorts), .un, .fr (.str p.1), .fr (.tup (p.2.map .str))], [.bo (.lst (qs.map G.kindD)), .fr (snD sorts), .un, .fr (.str p.1), .fr (.tup (p.2.map .str))], rfl, ?_, rfl⟩
      simp_arith only [E_are_kinds_1, Function.comp]
    have i1 : ((1 : Int) ≤ (qs.length : Int)) = True := eq_true (by omega)
    have i3 : ((qs.length : Int) ≤ 4) = True := eq_true (by omega)
    have t1 : isB "list" (.lst (qs.map G.kindD)) = some (.bl true) := rfl
    have l1 : lenD (.lst (qs.map G.kindD)) = some (.int (qs.length : Nat)) := by rw [show lenD (.lst (qs.map G.kindD)) = some (.int ((qs.map G.kindD).length : Nat)) from rfl, List.length_map]
    have ls : lenSetD (.lst ((qs.map fun p => p.1).map .str)) = some (.int ((dd ((qs.map fun p => p.1).map Sum.inr)).length : Nat)) := by
      unfold lenSetD
      rw [setKeys_strs (qs.map fun p => p.1) (by rw [List.length_map]; omega)]
      rfl
    obtain ⟨q1, q2⟩ := dd_le ((qs.map fun p => p.1).map Sum.inr)
    rw [List.length_map, List.length_map] at q1 q2
    have nd2 : ¬ ((qs.map fun p => p.1).map Sum.inr : List Key).Nodup := fun h => nd ((List.pairwise_map.mp h).imp fun h e => h (by rw [e]))
    have q3 := q2 nd2
    have eq : eqD (.int ((dd ((qs.map fun p => p.1).map Sum.inr)).length : Nat)) (.int (qs.length : Nat)) = some (.bl false) := by rw [eqD_int, decide_eq_false (by omega)]
    show g_are_kinds c [.lst (qs.map G.kindD), snD sorts] = _
    generalize hKD : D.lst (qs.map G.kindD) = KD at *
    simp_arith only [g_are_kinds, m_are_kinds, h1, a1, t1, l1, i1, i3, h2, ls, eq]
end
end GA

set_option Elab.async false
set_option linter.all false
set_option maxRecDepth 100000
set_option maxHeartbeats 4000000
/-! ABb: what is no list of sorts, of kinds, as drawn (k01). -/
namespace GA
open PySem L2 DL G PG
theorem tupD_lst01 (xs : List D) : tupD (.lst xs) = some (.tup xs) := (rfl)
theorem split_at01 {α : Type} {xs : List α} {i : Nat} (h : i < xs.length) : xs = xs.take i ++ xs[i] :: xs.drop (i + 1) := by
  rw [List.getElem_cons_drop, List.take_append_drop]
theorem ix_at01 {α : Type} {f : α → D} {xs : List α} {i : Nat} (h : i < xs.length) : ixD (.lst (xs.map f)) (.int (i : Nat)) = some (f xs[i]) := by
  obtain ⟨h1, h2⟩ := atI_nat (xs := xs.map f) (r := (i : Nat)) (by omega) (by rw [List.length_map]; omega)
  show atI (xs.map f) (i : Nat) = _
  rw [h2]
  simp only [Int.toNat_natCast, List.getElem_map]
section
variable (c : Cs) {sorts : List (Str × Str)} (hS : SortsOk sorts) (hN : ∀ p ∈ sorts, NmOf p.1)
include hS hN
theorem seconds01 {p : Str × Str} (hp : p ∈ sorts) : p.2 ≠ "nothing" ∧ p.1 ≠ "nothing" := ⟨nothing01 (hN _ (hS.mu p hp)), nothing01 (hN p hp)⟩
theorem row_odd {i : Nat} (hi : i < sorts.length) {d : D} (hd : g_is_sort_row c [d] = some (.bl false)) : g_are_sorts c [.lst (((sorts.map pairD).take i ++ [d]) ++ (sorts.map pairD).drop (i + 1))] = some (.bl false) := by
  have good : ∀ e ∈ sorts.map pairD, ∃ b, g_is_sort_row c [e] = some (.bl b) := fun e he => by
    obtain ⟨p, hp, rfl⟩ := List.mem_map.mp he
    exact ⟨true, is_sort_row_ok c (hS.nm p hp).1 (hS.nm p hp).2⟩
  refine sorts_odd c (fun e he => ?_) ⟨d, by simp, hd⟩
  rcases List.mem_append.mp he with h | h
  · rcases List.mem_append.mp h with h | h
    · exact good e (List.mem_of_mem_take h)
    · rw [List.mem_singleton.mp h]; exact ⟨_, hd⟩
  · exact good e (List.mem_of_mem_drop h)
theorem row_pair {i : Nat} (hi : i < sorts.length) {u v : Str} (hu : NameOk u) (hv : NameOk v) (hq : ∃ q ∈ sorts.take i ++ (u, v) :: sorts.drop (i + 1), (q.2, q.1) ∉ sorts.take i ++ (u, v) :: sorts.drop (i + 1)) : g_are_sorts c [.lst (((sorts.map pairD).take i ++ [.tup [.str u, .str v]]) ++ (sorts.map pairD).drop (i + 1))] = some (.bl false) := by
  have e : ((sorts.map pairD).take i ++ [.tup [.str u, .str v]]) ++ (sorts.map pairD).drop (i + 1) = (sorts.take i ++ (u, v) :: sorts.drop (i + 1)).map pairD := by
    rw [List.map_append, List.map_cons, List.map_take, List.map_drop, List.append_assoc]; rfl
  rw [e]
  refine sorts_pairs c (fun p hp => ?_) (Or.inr hq)
  rcases List.mem_append.mp hp with h | h
  · exact hS.nm p (List.mem_of_mem_take h)
  · rcases List.mem_cons.mp h with rfl | h
    · exact ⟨hu, hv⟩
    · exact hS.nm p (List.mem_of_mem_drop h)
theorem no_sorts_ok {m : Nat} {R : D} (hR : Sr m R) (hm : m ≤ 90000) : ∃ X R', g__law_no_sorts c [R, sortsD sorts] = some (X, R') ∧ g_are_sorts c [X] = some (.bl false) ∧ Sr (m + 10) R' := by
  obtain ⟨r, R1, h1, r0, r1, hR1⟩ := next_spec c hR (by omega) 3 (by decide) (by decide)
  have hlo := hS.lo
  have hhi := hS.hi
  have two : ∀ p ∈ sorts, NameOk p.1 ∧ NameOk p.2 := hS.nm
  obtain ⟨SS, hSS⟩ : ∃ X, X = sorts.map pairD := ⟨_, rfl⟩
  have sD : sortsD sorts = .lst SS := by rw [hSS]; rfl
  have ls : SS.length = sorts.length := by rw [hSS, List.length_map]
  by_cases z : r = 0
  · subst z
    obtain ⟨p0, sr, hsr⟩ : ∃ p0 sr, sorts = p0 :: sr := by
      cases sorts with
      | nil => simp at hlo
      | cons p kr => exact ⟨p, kr, rfl⟩
    have hp0 : p0 ∈ sorts := by rw [hsr]; exact List.mem_cons_self
    have t1 : SS.take 1 = [pairD p0] := by rw [hSS, hsr]; rfl
    obtain ⟨four, hfour⟩ : ∃ X, X = [D.tup [.str "aa", .str "aa"], .tup [.str "bb", .str "bb"], .tup [.str "cc", .str "cc"], .tup [.str "dd", .str "dd"]] := ⟨_, rfl⟩
    obtain ⟨L8, hL8⟩ : ∃ X, X = [D.non, .lst [], .tup SS, .dk [] [], .str "line", .int 0, .lst four, .lst [pairD p0, pairD p0]] := ⟨_, rfl⟩
    have l8 : L8.length = 8 := by rw [hL8]; rfl
    have all8 : ∀ d ∈ L8, g_are_sorts c [d] = some (.bl false) := fun d hd => by
      rw [hL8] at hd
      simp only [List.mem_cons, List.not_mem_nil, or_false] at hd
      rcases hd with rfl | rfl | rfl | rfl | rfl | rfl | rfl | rfl
      · exact sorts_nolist c rfl
      · exact sorts_len01 c (Or.inl rfl)
      · exact sorts_nolist c rfl
      · exact sorts_nolist c rfl
      · exact sorts_nolist c rfl
      · exact sorts_nolist c rfl
      · exact sorts_len01 c (Or.inr (by rw [hfour]; decide))
      · exact sorts_pairs c (ps := [p0, p0]) (fun p hp => by simp at hp; subst hp; exact two _ hp0) (Or.inl (by simp))
    obtain ⟨i, hi, R', ho, hR'⟩ := one_spec c hR1 (by omega) (ds := L8) (by omega) (by omega)
    refine ⟨L8[i], R', ?_, all8 _ (List.getElem_mem hi), hR'.mono (by omega)⟩
    have e0 : eqD (.int 0) (.int 0) = some (.bl true) := by rw [eqD_int]; rfl
    have tp := tupD_lst01 SS
    have sl : slD (.lst SS) none (some 1) = some (.lst [pairD p0]) := by rw [← t1]; exact sl_to SS 1
    have rp : repF (.lst [pairD p0]) (.int 2) = some [pairD p0, pairD p0] := rfl
    rw [sD]
    generalize hX : L8[i] = XX at *
    generalize hp : pairD p0 = PP at *
    rw [hL8, hfour] at ho
    simp_arith only [g__law_no_sorts, m__law_no_sorts, h1, e0, tp, sl, rp, ho]
  · have e0 : eqD (.int r) (.int 0) = some (.bl false) := by rw [eqD_int, decide_eq_false z]
    obtain ⟨a', R2, h2, a0, a1, hR2⟩ := next_spec c hR1 (by omega) (sorts.length : Nat) (by omega) (by omega)
    obtain ⟨a, rfl⟩ : ∃ a : Nat, a' = (a : Nat) := ⟨a'.toNat, by omega⟩
    have ha : a < sorts.length := by omega
    have hq := List.getElem_mem ha
    have sp := split_at01 ha
    have ix := ix_at01 (f := pairD) ha
    obtain ⟨x, y, hxy⟩ : ∃ x y, sorts[a] = (x, y) := ⟨sorts[a].1, sorts[a].2, rfl⟩
    rw [hxy] at ix sp hq
    have nx := (two _ hq).1
    have ny := (two _ hq).2
    have s2 := seconds01 hS hN hq
    have gx := is_name_ok c nx
    have gy := is_name_ok c ny
    have gn := is_name_ok c nothing_ok
    obtain ⟨o1, R3, h3, m1, hR3⟩ := no_name_ok c hR2 (by omega)
    obtain ⟨o2, R4, h4, m2, hR4⟩ := no_name_ok c hR3 (by omega)
    have g1 := oddN_no c o1 m1
    have g2 := oddN_no c o2 m2
    have tk := sl_to SS a
    have dr := sl_from SS (a + 1)
    have adx : addD (.int (a : Nat)) (.int 1) = some (.int ((a + 1 : Nat) : Int)) := by
      show some (D.int _) = some (D.int _)
      congr 2
    have mem_rest : ∀ {q : Str × Str}, q ∈ sorts → q ≠ (x, y) → ∀ w : Str × Str, q ∈ sorts.take a ++ w :: sorts.drop (a + 1) := fun {q} hq' hne w => by
      rw [sp] at hq'
      rcases List.mem_append.mp hq' with h | h
      · exact List.mem_append.mpr (Or.inl h)
      · rcases List.mem_cons.mp h with h | h
        · exact absurd h hne
        · exact List.mem_append.mpr (Or.inr (List.mem_cons_of_mem _ h))
    have rest_mem : ∀ {q w : Str × Str}, q ∈ sorts.take a ++ w :: sorts.drop (a + 1) → q = w ∨ q ∈ sorts := fun {q w} h => by
      rcases List.mem_append.mp h with h | h
      · exact Or.inr (List.mem_of_mem_take h)
      · rcases List.mem_cons.mp h with h | h
        · exact Or.inl h
        · exact Or.inr (List.mem_of_mem_drop h)
    obtain ⟨L10, hL10⟩ : ∃ X, X = [D.tup [.str x], .tup [.str x, .str y, .str x], .lst [.str x, .str y], .str x, .non, .tup [.str x, .str "nothing"], .tup [.str x, .non], .tup [.str x, o1], .tup [.str "nothing", .str y], .tup [o2, .str y]] := ⟨_, rfl⟩
    have all10 : ∀ d ∈ L10, g_are_sorts c [.lst ((SS.take a ++ [d]) ++ SS.drop (a + 1))] = some (.bl false) := fun d hd => by
      rw [hSS]
      rw [hL10] at hd
      simp only [List.mem_cons, List.not_mem_nil, or_false] at hd
      rcases hd with rfl | rfl | rfl | rfl | rfl | rfl | rfl | rfl | rfl | rfl
      · exact row_odd c hS hN ha (sr_len c (by simp))
      · exact row_odd c hS hN ha (sr_len c (by simp))
      · exact row_odd c hS hN ha (sr_notup c rfl)
      · exact row_odd c hS hN ha (sr_notup c rfl)
      · exact row_odd c hS hN ha (sr_notup c rfl)
      · refine row_pair c hS hN ha nx nothing_ok ⟨(x, "nothing"), by simp, fun h => ?_⟩
        rcases rest_mem h with h | h
        · exact s2.2 (Prod.mk.inj h).2
        · exact (seconds01 hS hN h).2 rfl
      · exact row_odd c hS hN ha (sr_two c gx (name_nostr c rfl))
      · exact row_odd c hS hN ha (sr_two c gx g1)
      · refine row_pair c hS hN ha nothing_ok ny ⟨("nothing", y), by simp, fun h => ?_⟩
        rcases rest_mem h with h | h
        · exact s2.1 (Prod.mk.inj h).1
        · exact (seconds01 hS hN h).1 rfl
      · have := sr_two c g2 gy
        rw [Bool.false_and] at this
        exact row_odd c hS hN ha this
    have fin : ∀ L : List D, L.length ≤ 12 → 0 < L.length → (∀ d ∈ L, g_are_sorts c [.lst ((SS.take a ++ [d]) ++ SS.drop (a + 1))] = some (.bl false)) → ∃ (d : D) (R' : D), g__law_one c [R4, .lst L] = some (d, R') ∧ addD (.lst (SS.take a)) (.lst [d]) = some (.lst (SS.take a ++ [d])) ∧ addD (.lst (SS.take a ++ [d])) (.lst (SS.drop (a + 1))) = some (.lst ((SS.take a ++ [d]) ++ SS.drop (a + 1))) ∧ g_are_sorts c [.lst ((SS.take a ++ [d]) ++ SS.drop (a + 1))] = some (.bl false) ∧ Sr (m + 10) R' := fun L h12 h0 hall => by
      obtain ⟨i, hi, R', ho, hR'⟩ := one_spec c hR4 (by omega) (ds := L) h0 (by omega)
      refine ⟨L[i], R', ho, addD_lst ?_, addD_lst ?_, hall _ (List.getElem_mem hi), hR'.mono (by omega)⟩
      · rw [List.length_take]; simp; omega
      · rw [List.length_append, List.length_take, List.length_drop]; simp; omega
    have lnS : lenD (.lst SS) = some (.int (sorts.length : Nat)) := by rw [show lenD (.lst SS) = some (.int (SS.length : Nat)) from rfl, ls]
    have l10 : L10.length = 10 := by rw [hL10]; rfl
    have cat : catF (.lst [D.tup [.str x], .tup [.str x, .str y, .str x], .lst [.str x, .str y], .str x, .non, .tup [.str x, .str "nothing"], .tup [.str x, .non]]) (.lst [.tup [.str x, o1], .tup [.str "nothing", .str y], .tup [o2, .str y]]) = some L10 := by rw [hL10]; rfl
    have ix' : ixD (.lst SS) (.int (a : Nat)) = some (.tup [.str x, .str y]) := by rw [hSS]; exact ix
    by_cases w : x = y
    · have ne : neD (.str y) (.str x) = some (.bl false) := by rw [neD_pl 0 ny.pl nx.pl, decide_eq_true (by rw [w])]; rfl
      obtain ⟨d, R', h5, ad1, ad2, hg, hR'⟩ := fin L10 (by omega) (by omega) all10
      refine ⟨_, R', ?_, hg, hR'⟩
      rw [sD]
      generalize SS.take a ++ [d] ++ SS.drop (a + 1) = RES at *
      generalize SS.take a ++ [d] = T1 at *
      generalize SS.take a = TK at *
      generalize SS.drop (a + 1) = DR at *
      simp_arith only [g__law_no_sorts, m__law_no_sorts, h1, e0, lnS, h2, ix', h3, h4, cat, ne, tk, h5, ad1, adx, dr, ad2]
    · have ne : neD (.str y) (.str x) = some (.bl true) := by rw [neD_pl 0 ny.pl nx.pl, decide_eq_false (by intro h; exact w (D.str.inj h).symm)]; rfl
      obtain ⟨d, R', h5, ad1, ad2, hg, hR'⟩ := fin (L10 ++ [.tup [.str x, .str x]]) (by simp; omega) (by simp) fun d hd => by
        rcases List.mem_append.mp hd with h | h
        · exact all10 d h
        · rw [List.mem_singleton.mp h, hSS]
          refine row_pair c hS hN ha nx nx ⟨(y, x), mem_rest (hS.mu _ hq) (fun e => w (Prod.mk.inj e).2) _, fun h => ?_⟩
          rcases List.mem_append.mp h with h | h
          · have := (List.pairwise_append.mp (sp ▸ (List.pairwise_map.mp hS.nd) : ((sorts.take a) ++ (x, y) :: sorts.drop (a + 1)).Pairwise fun p q => p.1 ≠ q.1)).2.2 _ h _ List.mem_cons_self
            exact this rfl
          · rcases List.mem_cons.mp h with h | h
            · exact w (Prod.mk.inj h).2.symm
            · have := (List.pairwise_cons.mp (List.pairwise_append.mp (sp ▸ (List.pairwise_map.mp hS.nd) : ((sorts.take a) ++ (x, y) :: sorts.drop (a + 1)).Pairwise fun p q => p.1 ≠ q.1)).2.1).1 _ h
              exact this rfl
      refine ⟨_, R', ?_, hg, hR'⟩
      have hf : L10.length < 1000000 := by omega
      rw [sD]
      generalize SS.take a ++ [d] ++ SS.drop (a + 1) = RES at *
      generalize SS.take a ++ [d] = T1 at *
      generalize SS.take a = TK at *
      generalize SS.drop (a + 1) = DR at *
      simp_arith only [g__law_no_sorts, m__law_no_sorts, h1, e0, lnS, h2, ix', h3, h4, cat, ne, hf, tk, h5, ad1, adx, dr, ad2]
end
end GA

set_option Elab.async false
set_option linter.all false
set_option maxRecDepth 100000
set_option maxHeartbeats 4000000
/-! ABc: what is no list of kinds, as drawn (k01). -/
namespace GA
open PySem L2 DL G PG
section
variable (c : Cs) {sorts : List (Str × Str)} {ks : List (Str × List Str)} (hS : StockOk sorts ks) (hN : ∀ p ∈ sorts, NmOf p.1)
include hS
theorem krow_odd {i : Nat} (hi : i < ks.length) {d : D} (hd : g_is_kind_row c [d, snD sorts] = some (.bl false)) : g_are_kinds c [.lst (((ks.map G.kindD).take i ++ [d]) ++ (ks.map G.kindD).drop (i + 1)), snD sorts] = some (.bl false) := by
  have good : ∀ e ∈ ks.map G.kindD, ∃ b, g_is_kind_row c [e, snD sorts] = some (.bl b) := fun e he => by
    obtain ⟨p, hp, rfl⟩ := List.mem_map.mp he
    exact ⟨true, is_kind_row_ok c hS.so (hS.nm p hp) (hS.en p hp)⟩
  refine kinds_odd c (fun e he => ?_) ⟨d, by simp, hd⟩
  rcases List.mem_append.mp he with h | h
  · rcases List.mem_append.mp h with h | h
    · exact good e (List.mem_of_mem_take h)
    · rw [List.mem_singleton.mp h]; exact ⟨_, hd⟩
  · exact good e (List.mem_of_mem_drop h)
theorem nk_L0 (f0 f2 f3 f4 f5 f6 f7 f8 f9 f10 : Sl) : L__law_no_kinds_0 c [f0, .fr (sortsD sorts), f2, f3, f4, f5, f6, f7, f8, f9, f10] = some (.ok (.lst ((sorts.map fun p => p.1).map .str)) [f0, .fr (sortsD sorts), f2, f3, f4, f5, f6, .un, f8, f9, .un]) := by
  rw [List.map_map]
  refine mLc_map (as := sorts) (enc := fun p => .tup [.str p.1, .str p.2]) (δ0 := [f0, .fr (sortsD sorts), f2, f3, f4, f5, f6, f7, f8, f9, f10]) rfl rfl fun p hp => ⟨[f0, .fr (sortsD sorts), f2, f3, f4, f5, f6, .fr (.str p.1), f8, f9, .fr (.str p.2)], [f0, .fr (sortsD sorts), f2, f3, f4, f5, f6, .fr (.str p.1), f8, f9, .fr (.str p.2)], rfl, ?_, rfl⟩
  simp_arith only [E__law_no_kinds_0, Function.comp]
omit hS in
theorem nk_L1 (s : Str) (f0 f1 f2 f4 f5 f6 f7 f8 f9 f10 : Sl) : L__law_no_kinds_1 c [f0, f1, f2, .fr (.str s), f4, f5, f6, f7, f8, f9, f10] = some (.ok (.lst ((["aa", "bb", "cc", "dd", "ee"] : List Str).map fun x => .tup [.str x, .tup [.str s]])) [f0, f1, f2, .fr (.str s), f4, f5, f6, .un, f8, f9, f10]) := by
  refine mLc_map (as := (["aa", "bb", "cc", "dd", "ee"] : List Str)) (enc := .str) (δ0 := [f0, f1, f2, .fr (.str s), f4, f5, f6, f7, f8, f9, f10]) (by simp_arith only []; rfl) rfl fun x hx => ⟨[f0, f1, f2, .fr (.str s), f4, f5, f6, .fr (.str x), f8, f9, f10], [f0, f1, f2, .fr (.str s), f4, f5, f6, .fr (.str x), f8, f9, f10], rfl, ?_, rfl⟩
  simp_arith only [E__law_no_kinds_1]
include hN
theorem no_kinds_ok {m : Nat} {R : D} (hR : Sr m R) (hm : m ≤ 90000) : ∃ X R', g__law_no_kinds c [R, sortsD sorts, kindsD ks] = some (X, R') ∧ g_are_kinds c [X, snD sorts] = some (.bl false) ∧ Sr (m + 10) R' := by
  obtain ⟨r, R1, h1, r0, r1, hR1⟩ := next_spec c hR (by omega) 4 (by decide) (by decide)
  have hlo := hS.lo
  have hhi := hS.hi
  obtain ⟨p0, sr, hsr⟩ : ∃ p0 sr, sorts = p0 :: sr := by
    have := hS.so.lo
    cases sorts with
    | nil => simp at this
    | cons p kr => exact ⟨p, kr, rfl⟩
  have hp0 : p0 ∈ sorts := by rw [hsr]; exact List.mem_cons_self
  have ns : NameOk p0.1 := (hS.so.nm _ hp0).1
  obtain ⟨KK, hKK⟩ : ∃ X, X = ks.map G.kindD := ⟨_, rfl⟩
  have kD : kindsD ks = .lst KK := by rw [hKK]; rfl
  have lk : KK.length = ks.length := by rw [hKK, List.length_map]
  have x0 : ixD (sortsD sorts) (.int 0) = some (.tup [.str p0.1, .str p0.2]) := by
    have := ix_at01 (f := pairD) (xs := sorts) (i := 0) (by rw [hsr]; simp)
    rw [show sorts[0]'(by rw [hsr]; simp) = p0 by simp [hsr]] at this
    exact this
  have x00 : ixD (.tup [.str p0.1, .str p0.2]) (.int 0) = some (.str p0.1) := rfl
  obtain ⟨us, hus⟩ : ∃ us, us = sortS (sorts.map fun p => p.1) := ⟨_, rfl⟩
  have so : sortF (.lst ((sorts.map fun p => p.1).map .str)) = some (us.map .str) := by rw [hus]; exact sortF_lst _ (by rw [List.length_map]; have := hS.so.hi; omega)
  have lu : us.length = sorts.length := by rw [hus, sortS_len, List.length_map]
  have l0 := fun f0 f2 f3 f4 f5 f6 f7 f8 f9 f10 => nk_L0 c hS f0 f2 f3 f4 f5 f6 f7 f8 f9 f10
  have l1 := fun f0 f1 f2 f4 f5 f6 f7 f8 f9 f10 => nk_L1 c p0.1 f0 f1 f2 f4 f5 f6 f7 f8 f9 f10
  by_cases z : r = 0
  · subst z
    have e0 : eqD (.int 0) (.int 0) = some (.bl true) := by rw [eqD_int]; rfl
    obtain ⟨five, hfive⟩ : ∃ X, X = (["aa", "bb", "cc", "dd", "ee"] : List Str).map fun x => D.tup [.str x, .tup [.str p0.1]] := ⟨_, rfl⟩
    have ad : addD (.lst KK) (.lst (KK.take 1)) = some (.lst (KK ++ KK.take 1)) := addD_lst (by rw [List.length_take]; omega)
    obtain ⟨L8, hL8⟩ : ∃ X, X = [D.non, .lst [], .tup KK, .dk [] [], .str "three", .int 0, .lst five, .lst (KK ++ KK.take 1)] := ⟨_, rfl⟩
    have l8 : L8.length = 8 := by rw [hL8]; rfl
    have all8 : ∀ d ∈ L8, g_are_kinds c [d, snD sorts] = some (.bl false) := fun d hd => by
      rw [hL8] at hd
      simp only [List.mem_cons, List.not_mem_nil, or_false] at hd
      rcases hd with rfl | rfl | rfl | rfl | rfl | rfl | rfl | rfl
      · exact kinds_nolist c rfl
      · exact kinds_len c (Or.inl rfl)
      · exact kinds_nolist c rfl
      · exact kinds_nolist c rfl
      · exact kinds_nolist c rfl
      · exact kinds_nolist c rfl
      · exact kinds_len c (Or.inr (by rw [hfive]; simp))
      · have := kinds_dup c hS.so (qs := ks ++ ks.take 1) (fun p hp => by
          rcases List.mem_append.mp hp with h | h
          · exact ⟨hS.nm p h, hS.en p h⟩
          · exact ⟨hS.nm p (List.mem_of_mem_take h), hS.en p (List.mem_of_mem_take h)⟩) (fun nd => by
          rw [List.map_append] at nd
          have h3 := (List.nodup_append.mp nd).2.2
          cases ks with
          | nil => simp at hlo
          | cons q qs => exact h3 q.1 (by simp) q.1 (by simp) rfl)
        rw [hKK]
        have e : ks.map G.kindD ++ (ks.map G.kindD).take 1 = (ks ++ ks.take 1).map G.kindD := by rw [List.map_append, List.map_take]
        rw [e]
        exact this
    obtain ⟨i, hi, R', ho, hR'⟩ := one_spec c hR1 (by omega) (ds := L8) (by omega) (by omega)
    refine ⟨L8[i], R', ?_, all8 _ (List.getElem_mem hi), hR'.mono (by omega)⟩
    have tp := tupD_lst01 KK
    have sl : slD (.lst KK) none (some 1) = some (.lst (KK.take 1)) := sl_to KK 1
    rw [kD]
    generalize hX : L8[i] = XX at *
    rw [hL8] at ho
    rw [← hfive] at l1
    generalize KK ++ KK.take 1 = K2 at *
    generalize KK.take 1 = K1 at *
    generalize (sorts.map fun p => p.1).map D.str = NS at *
    generalize us.map D.str = UU at *
    generalize sortsD sorts = SD at *
    simp_arith only [g__law_no_kinds, m__law_no_kinds, x0, x00, l0, so, h1, e0, l1, tp, sl, ad, ho]
  · have e0 : eqD (.int r) (.int 0) = some (.bl false) := by rw [eqD_int, decide_eq_false z]
    obtain ⟨a', R2, h2, a0, a1, hR2⟩ := next_spec c hR1 (by omega) (ks.length : Nat) (by omega) (by omega)
    obtain ⟨a, rfl⟩ : ∃ a : Nat, a' = (a : Nat) := ⟨a'.toNat, by omega⟩
    have ha : a < ks.length := by omega
    have hq := List.getElem_mem ha
    obtain ⟨n, es, hne⟩ : ∃ n es, ks[a] = (n, es) := ⟨ks[a].1, ks[a].2, rfl⟩
    have ix := ix_at01 (f := G.kindD) ha
    rw [hne] at ix hq
    have ix' : ixD (.lst KK) (.int (a : Nat)) = some (.tup [.str n, .tup (es.map .str)]) := by rw [hKK]; exact ix
    have nn : NameOk n := hS.nm _ hq
    have he := hS.en _ hq
    have gn := is_name_ok c nn
    have enm : ∀ x ∈ es, NameOk x := fun x hx => sort_name hS.so (he.mem x hx)
    obtain ⟨o, R3, h3, m1, hR3⟩ := no_name_ok c hR2 (by omega)
    have g1 := oddN_no c o m1
    have tk := sl_to KK a
    have dr := sl_from KK (a + 1)
    have adx : addD (.int (a : Nat)) (.int 1) = some (.int ((a + 1 : Nat) : Int)) := by
      show some (D.int _) = some (D.int _)
      congr 2
    have nt : ("nothing" : Str) ∉ sorts.map fun q => q.1 := fun h => by
      obtain ⟨p, hp, e⟩ := List.mem_map.mp h
      exact nothing01 (hN p hp) e
    have rp : repYD (.tup [.str p0.1]) (.int 6) = some (.tup ((List.replicate 6 p0.1).map .str)) := rfl
    have li : listD (.tup (es.map D.str)) = some (es.map .str) := rfl
    have ae : addD (.tup (es.map D.str)) (.tup [.str "nothing"]) = some (.tup ((es ++ [("nothing" : Str)]).map .str)) := by
      rw [List.map_append]
      show (if _ then _ else _) = _
      rw [if_pos (by rw [List.length_map]; have h5 : es.length ≤ 5 := he.hi; simp; omega)]
      rfl
    obtain ⟨L12, hL12⟩ : ∃ X, X = [D.tup [.str n, .tup []], .tup [.str n, .tup ((List.replicate 6 p0.1).map .str)], .tup [.str n, .lst (es.map .str)], .tup [.str n, .non], .tup [.str n, .tup ((es ++ [("nothing" : Str)]).map .str)], .tup [.str n], .tup [.str n, .tup (es.map .str), .int 0], .lst [.str n, .tup (es.map .str)], .tup [o, .tup (es.map .str)], .tup [.str n, .tup [.non]], .tup [.str n, .str p0.1], .non] := ⟨_, rfl⟩
    have all12 : ∀ d ∈ L12, g_are_kinds c [.lst ((KK.take a ++ [d]) ++ KK.drop (a + 1)), snD sorts] = some (.bl false) := fun d hd => by
      rw [hKK]
      refine krow_odd c hS ha ?_
      rw [hL12] at hd
      simp only [List.mem_cons, List.not_mem_nil, or_false] at hd
      rcases hd with rfl | rfl | rfl | rfl | rfl | rfl | rfl | rfl | rfl | rfl | rfl | rfl
      · exact kr_few c gn (Or.inl rfl)
      · exact kr_few c gn (Or.inr (by simp))
      · exact kr_ends c gn rfl
      · exact kr_ends c gn rfl
      · exact kr_strs c hS.so nn (fun x hx => by
          rcases List.mem_append.mp hx with h | h
          · exact enm x h
          · rw [List.mem_singleton.mp h]; exact nothing_ok) (Or.inl ⟨"nothing", by simp, nt⟩)
      · exact kr_len c (by simp)
      · exact kr_len c (by simp)
      · exact kr_notup c rfl
      · exact kr_name c g1
      · exact kr_none1 c gn
      · exact kr_ends c gn rfl
      · exact kr_notup c rfl
    have fin : ∀ L : List D, L.length ≤ 13 → 0 < L.length → (∀ d ∈ L, g_are_kinds c [.lst ((KK.take a ++ [d]) ++ KK.drop (a + 1)), snD sorts] = some (.bl false)) → ∃ (d : D) (R' : D), g__law_one c [R3, .lst L] = some (d, R') ∧ addD (.lst (KK.take a)) (.lst [d]) = some (.lst (KK.take a ++ [d])) ∧ addD (.lst (KK.take a ++ [d])) (.lst (KK.drop (a + 1))) = some (.lst ((KK.take a ++ [d]) ++ KK.drop (a + 1))) ∧ g_are_kinds c [.lst ((KK.take a ++ [d]) ++ KK.drop (a + 1)), snD sorts] = some (.bl false) ∧ Sr (m + 10) R' := fun L h12 h0 hall => by
      obtain ⟨i, hi, R', ho, hR'⟩ := one_spec c hR3 (by omega) (ds := L) h0 (by omega)
      refine ⟨L[i], R', ho, addD_lst ?_, addD_lst ?_, hall _ (List.getElem_mem hi), hR'.mono (by omega)⟩
      · rw [List.length_take]; simp; omega
      · rw [List.length_append, List.length_take, List.length_drop]; simp; omega
    have lnK : lenD (.lst KK) = some (.int (ks.length : Nat)) := by rw [show lenD (.lst KK) = some (.int (KK.length : Nat)) from rfl, lk]
    have lnU : lenD (.lst (us.map D.str)) = some (.int (sorts.length : Nat)) := by rw [show lenD (.lst (us.map D.str)) = some (.int ((us.map D.str).length : Nat)) from rfl, List.length_map, lu]
    have l12 : L12.length = 12 := by rw [hL12]; rfl
    have cat : catF (.lst [D.tup [.str n, .tup []], .tup [.str n, .tup ((List.replicate 6 p0.1).map .str)], .tup [.str n, .lst (es.map .str)], .tup [.str n, .non], .tup [.str n, .tup ((es ++ [("nothing" : Str)]).map .str)], .tup [.str n]]) (.lst [.tup [.str n, .tup (es.map .str), .int 0], .lst [.str n, .tup (es.map .str)], .tup [o, .tup (es.map .str)], .tup [.str n, .tup [.non]], .tup [.str n, .str p0.1], .non]) = some L12 := by rw [hL12]; rfl
    by_cases w : 1 < sorts.length
    · have gt : ((1 : Int) < (sorts.length : Int)) = True := eq_true (by omega)
      have u0 := ix_at01 (f := D.str) (xs := us) (i := 0) (by omega)
      have u1 := ix_at01 (f := D.str) (xs := us) (i := 1) (by omega)
      obtain ⟨v0, hv0⟩ : ∃ v, v = us[0]'(by omega) := ⟨_, rfl⟩
      obtain ⟨v1, hv1⟩ : ∃ v, v = us[1]'(by omega) := ⟨_, rfl⟩
      rw [← hv0] at u0
      rw [← hv1] at u1
      have mu : ∀ x ∈ us, x ∈ sorts.map fun q => q.1 := fun x hx => by rw [hus] at hx; exact sortS_mem.mp hx
      have m0 : v0 ∈ us := by rw [hv0]; exact List.getElem_mem _
      have mm1 : v1 ∈ us := by rw [hv1]; exact List.getElem_mem _
      have ndu : us.Nodup := by rw [hus]; exact (sortS_perm _).nodup_iff.mpr hS.so.nd
      have le01 : strLe v0 v1 = true := by
        have := sortS_sorted (sorts.map fun p => p.1)
        rw [← hus] at this
        rw [hv0, hv1]
        exact List.pairwise_iff_getElem.mp this 0 1 (by omega) (by omega) (by omega)
      have ne01 : v0 ≠ v1 := by
        rw [hv0, hv1]
        exact List.pairwise_iff_getElem.mp ndu 0 1 (by omega) (by omega) (by omega)
      have so2 : sortS [v1, v0] ≠ [v1, v0] := fun e => by
        have : sortS [v1, v0] = [v0, v1] := by
          rw [sortS_eq (List.Perm.swap v0 v1 [])]
          refine sortS_of (List.Pairwise.cons (fun y hy => ?_) (List.pairwise_singleton _ _))
          rw [List.mem_singleton.mp hy]; exact le01
        rw [this] at e
        exact ne01 (List.cons.inj e).1
      obtain ⟨d, R', h5, ad1, ad2, hg, hR'⟩ := fin (L12 ++ [.tup [.str n, .tup [.str v1, .str v0]]]) (by simp; omega) (by simp) fun d hd => by
        rcases List.mem_append.mp hd with h | h
        · exact all12 d h
        · rw [List.mem_singleton.mp h, hKK]
          refine krow_odd c hS ha ?_
          exact kr_strs c hS.so (es := [v1, v0]) nn (fun x hx => by
            simp at hx
            rcases hx with rfl | rfl
            · exact sort_name hS.so (mu _ mm1)
            · exact sort_name hS.so (mu _ m0)) (Or.inr ⟨fun x hx => by
            simp at hx
            rcases hx with rfl | rfl
            · exact mu _ mm1
            · exact mu _ m0, so2⟩)
      refine ⟨_, R', ?_, hg, hR'⟩
      have hf : L12.length < 1000000 := by omega
      have u0' : ixD (.lst (us.map D.str)) (.int 0) = some (.str v0) := u0
      have u1' : ixD (.lst (us.map D.str)) (.int 1) = some (.str v1) := u1
      rw [kD]
      generalize KK.take a ++ [d] ++ KK.drop (a + 1) = RES at *
      generalize KK.take a ++ [d] = T1 at *
      generalize KK.take a = TK at *
      generalize KK.drop (a + 1) = DR at *
      generalize (es ++ [("nothing" : Str)]).map D.str = EN at *
      generalize (List.replicate 6 p0.1).map D.str = E6 at *
      generalize es.map D.str = ES at *
      generalize (sorts.map fun p => p.1).map D.str = NS at *
      generalize us.map D.str = UU at *
      generalize sortsD sorts = SD at *
      simp_arith only [g__law_no_kinds, m__law_no_kinds, x0, x00, l0, so, h1, e0, lnK, h2, ix', rp, li, ae, h3, cat, lnU, gt, u0', u1', hf, tk, h5, ad1, adx, dr, ad2]
    · have gt : ((1 : Int) < (sorts.length : Int)) = False := eq_false (by omega)
      obtain ⟨d, R', h5, ad1, ad2, hg, hR'⟩ := fin L12 (by omega) (by omega) all12
      refine ⟨_, R', ?_, hg, hR'⟩
      rw [kD]
      generalize KK.take a ++ [d] ++ KK.drop (a + 1) = RES at *
      generalize KK.take a ++ [d] = T1 at *
      generalize KK.take a = TK at *
      generalize KK.drop (a + 1) = DR at *
      generalize (es ++ [("nothing" : Str)]).map D.str = EN at *
      generalize (List.replicate 6 p0.1).map D.str = E6 at *
      generalize es.map D.str = ES at *
      generalize (sorts.map fun p => p.1).map D.str = NS at *
      generalize us.map D.str = UU at *
      generalize sortsD sorts = SD at *
      simp_arith only [g__law_no_kinds, m__law_no_kinds, x0, x00, l0, so, h1, e0, lnK, h2, ix', rp, li, ae, h3, cat, lnU, gt, tk, h5, ad1, adx, dr, ad2]
end
end GA

set_option Elab.async false
set_option linter.all false
set_option maxRecDepth 100000
set_option maxHeartbeats 4000000
/-! MK01s: stocks made: what is told, what is alike. -/
namespace GA
open PySem L2 DL G PG
theorem stock_spec01 (c : Cs) {m : Nat} {R : D} (hR : Sr m R) (hm : m ≤ 1000) (mo : Nat) (hmo : 1 ≤ mo ∧ mo ≤ 5) : ∃ (sorts : List (Str × Str)) (ks : List (Str × List Str)) (R' : D), g__law_stockB c [R, .int (mo : Nat)] = some (.tup [sortsD sorts, kindsD ks], R') ∧ StockOk sorts ks ∧ Sr (m + 500) R' ∧ (∀ p ∈ ks, NmOf p.1) ∧ ∀ p ∈ sorts, NmOf p.1 := by
  have eB : B__law_stockB_0 c = B__law_stock_0 c := rfl
  obtain ⟨ws, R1, h1, hl, nd, nm, hS1, nmf⟩ := names_specN c hR (by omega) 3 (by decide)
  obtain ⟨x, y, z, rfl⟩ := names3 hl
  obtain ⟨r, R2, h2, r0, r1, hS2⟩ := next_spec c hS1 (by omega) 5 (by decide) (by decide)
  obtain ⟨sorts0, hS0, hi, hXY⟩ := sortsAN x y z (nm x (by simp)) (nm y (by simp)) (nm z (by simp)) nd r r0 r1
  have hN0 : ∀ p ∈ sorts0, NmOf p.1 := fun p hp => by
    rcases hXY p hp with e | e | e <;> rw [e]
    · exact nmf x (by simp)
    · exact nmf y (by simp)
    · exact nmf z (by simp)
  obtain ⟨q, R3, h3, q0, q1, hS3⟩ := next_spec c hS2 (by omega) 2 (by decide) (by decide)
  obtain ⟨n', R4, h4, n0, n1, hS4⟩ := next_spec c hS3 (by omega) 4 (by decide) (by decide)
  obtain ⟨n, rfl⟩ : ∃ n : Nat, n' = n := ⟨n'.toNat, by omega⟩
  obtain ⟨us, R5, h5, ul, und, unm, hS5, unf⟩ := names_specN c hS4 (by omega) (1 + n) (by omega)
  obtain ⟨L4, hL4⟩ : ∃ L4, L4 = [D.lst [.tup [.str x, .str x]], .lst [.tup [.str x, .str y], .tup [.str y, .str x]], .lst [.tup [.str x, .str x], .tup [.str y, .str z], .tup [.str z, .str y]], .lst [.tup [.str x, .str x], .tup [.str y, .str y]]] := ⟨_, rfl⟩
  have a0 : slD (.lst L4) none (some 1) = some (.lst [.lst [.tup [.str x, .str x]]]) := by rw [hL4]; rfl
  have a1 : addD (.lst L4) (.lst [.lst [.tup [.str x, .str x]]]) = some (.lst [.lst [.tup [.str x, .str x]], .lst [.tup [.str x, .str y], .tup [.str y, .str x]], .lst [.tup [.str x, .str x], .tup [.str y, .str z], .tup [.str z, .str y]], .lst [.tup [.str x, .str x], .tup [.str y, .str y]], .lst [.tup [.str x, .str x]]]) := by
    rw [addD_lst (by rw [hL4]; simp), hL4]; rfl
  have ea : addD (.int 1) (.int n) = some (.int (1 + (n : Int))) := rfl
  have h5' : g__law_names c [R4, .int (1 + (n : Int))] = some (.lst (us.map .str), R5) := by
    have e : (1 + (n : Int)) = ((1 + n : Nat) : Int) := by omega
    rw [e]; exact h5
  have h1' : g__law_names c [R, .int 3] = some (.lst [.str x, .str y, .str z], R1) := h1
  have fin : ∀ (sorts : List (Str × Str)) (s7 : Sl), SortsOk sorts → FO s7 (sortsD sorts) → ∃ ks R' s7' s9 s10 s11, forL (gN 9) (B__law_stock_0 c) (us.map .str) [.io R5, .fr (.int (mo : Nat)), .fr (.lst [.str x, .str y, .str z]), .fr (.int r), .fr (.str x), .fr (.str y), .fr (.str z), s7, .ow (.lst []), .un, .un, .un] = some (.nx [.io R', .fr (.int (mo : Nat)), .fr (.lst [.str x, .str y, .str z]), .fr (.int r), .fr (.str x), .fr (.str y), .fr (.str z), s7', .ow (kindsD ks), s9, s10, s11]) ∧ FO s7' (sortsD sorts) ∧ StockOk sorts ks ∧ Sr (m + 500) R' ∧ ∀ p ∈ ks, NmOf p.1 := fun sorts s7 hSo h7 => by
    obtain ⟨R', ks, s7', s9, s10, s11, g1, g2, g3, g4, gS⟩ := kindsA c mo hmo ⟨hSo.lo, hSo.hi⟩ (.fr (.lst [.str x, .str y, .str z])) (.fr (.int r)) (.fr (.str x)) (.fr (.str y)) (.fr (.str z)) us _ R5 [] s7 .un .un .un hS5 (by omega) h7 (by simp; omega) (fun p hp => by cases hp)
    have g4' : ks.map (fun p => p.1) = us := g4
    have lk : ks.length = 1 + n := by rw [← ul, ← g4', List.length_map]
    exact ⟨ks, R', s7', s9, s10, s11, g1, g2, ⟨hSo, by omega, by omega, fun p hp => unm _ (by rw [← g4']; exact List.mem_map.mpr ⟨p, hp, rfl⟩), by rw [g4']; exact und, fun p hp => g3.ends (by decide) hp⟩, gS.mono (by omega), fun p hp => unf _ (by rw [← g4']; exact List.mem_map.mpr ⟨p, hp, rfl⟩)⟩
  have eL : D.lst [.lst [.tup [.str x, .str x]], .lst [.tup [.str x, .str y], .tup [.str y, .str x]], .lst [.tup [.str x, .str x], .tup [.str y, .str z], .tup [.str z, .str y]], .lst [.tup [.str x, .str x], .tup [.str y, .str y]]] = .lst L4 := by rw [hL4]
  by_cases hq : q = 0
  · subst hq
    have e0 : eqD (.int 0) (.int 0) = some (.bl true) := by rw [eqD_int]; rfl
    have hrv : revLD (sortsD sorts0) = some ((sorts0.reverse).map fun p => .tup [.str p.1, .str p.2]) := by
      unfold sortsD
      rw [revLD_lst, List.map_reverse]
    obtain ⟨ks, R', s7', s9, s10, s11, g1, g2, g3, gS, gNm⟩ := fin sorts0.reverse (.ow (sortsD sorts0.reverse)) (SortsOk.rev hS0) (Or.inr rfl)
    refine ⟨sorts0.reverse, ks, R', ?_, g3, gS, gNm, fun p hp => hN0 p (List.mem_reverse.mp hp)⟩
    have g1' : forL (gN 9) (B__law_stock_0 c) (us.map .str) [.io R5, .fr (.int (mo : Nat)), .fr (.lst [.str x, .str y, .str z]), .fr (.int r), .fr (.str x), .fr (.str y), .fr (.str z), .ow (.lst ((sorts0.reverse).map fun p => .tup [.str p.1, .str p.2])), .ow (.lst []), .un, .un, .un] = _ := g1
    rcases g2 with rfl | rfl <;> simp_arith only [g__law_stockB, m__law_stockB, eB, h1', h2, eL, a0, a1, hi, h3, e0, hrv, h4, ea, h5', g1']
  · have e0 : eqD (.int q) (.int 0) = some (.bl false) := by rw [eqD_int, decide_eq_false hq]
    obtain ⟨ks, R', s7', s9, s10, s11, g1, g2, g3, gS, gNm⟩ := fin sorts0 (.fr (sortsD sorts0)) hS0 (Or.inl rfl)
    refine ⟨sorts0, ks, R', ?_, g3, gS, gNm, hN0⟩
    rcases g2 with rfl | rfl <;> simp_arith only [g__law_stockB, m__law_stockB, eB, h1', h2, eL, a0, a1, hi, h3, e0, h4, ea, h5', g1]

section
variable (c : Cs) {X1 X2 : D}
theorem initX_sorts (h : g_are_sorts c [X1] = some (.bl false)) : g_Stock___init__X c [.ins c.stock [] [], X1, X2] = some (.ex ⟨c.x 1, ["part"], [.str "sorts"], 1⟩ []) := by
  simp_arith only [g_Stock___init__X, defIX_e, m_Stock___init__X, h, mRaiseF_e, xK_ex, iK_ex]
theorem told_none01 {w : Str} (hw : (plV (.str w)).isSome = true) (h : g_Stock___init__X c [.ins c.stock [] [], X1, X2] = some (.ex ⟨c.x 1, ["part"], [.str w], 1⟩ [])) : g__law_told c [X1, X2] = some (.tup [.str "none", .str w, .bl false]) := by
  have hY : Y__law_told_0 c [.fr X1, .fr X2, .un, .un] = some (.ex ⟨c.x 1, ["part"], [.str w], 1⟩ [.fr X1, .fr X2, .un, .un]) := by simp [Y__law_told_0, defI, defG, defN, startE, entry, PK.sl, mSeq, mIf, mTest, m1, m2, mn1, mn2, M.bind, mVal, mOv, mC, M.ret, Sl.dat, mRd, rd, M.lift, fI, fI0, mS, mAsg, gN, gT, gsC, gs0, mHas, ownL, Sl.own, reown, mRet, mVar, mNext, io0, mCallI, mCallP, mCallN, mMakeP, maCons, maNil, mRds, rds, frOk, apart, mdCons, mdNil, mLst, mTup, mIt, mFor, mDrop, mMut, appF, mA, mnA, fA1, fN1, lenD, tupD, wipeE, mAsgO, mSeqOf, mSeqB, mTupOf, mTxtOf, gTL, mNot, mOr, mAnd, mAndV, mOrV, mNotV, mChain, isB, tyN, mRetW, mRetO, -List.map_map, -Int.natCast_add, -List.map_append, -List.map_cons, -List.map_nil, -List.map_const, -List.map_const_fun, mMake, h]
  have e := xMark_len
  have m1 : ∀ b, mIsE 3 b [.fr X1, .fr X2, .un, .sc xMark] = some (.ok (.bl b) [.fr X1, .fr X2, .un, .sc xMark]) := fun b => by simp [mIsE, e]
  have m2 : ∀ d, mFldE 3 d [.fr X1, .fr X2, .un, .sc xMark] = some (.ok d [.fr X1, .fr X2, .un, .sc xMark]) := fun b => by simp [mFldE, e]
  have a1 : decide (1 ∈ [2, 11]) = false := by decide
  have hZ : Z__law_told_0_0 c 1 (.str w) [.fr X1, .fr X2, .un, .sc xMark] = some (.rt (.tup [.str "none", .str w, .bl false]) [.fr X1, .fr X2, .un, .sc xMark]) := by
    simp_arith only [Z__law_told_0_0, m1, m2, a1]
  have hT := mTryF_ex (R := [1]) (cx := c.x) (fld := "part") (cl := [([1], some 3, Z__law_told_0_0 c), ([1], none, Z__law_told_0_1 c)]) (by rfl) hY (by rfl) (by simp) rfl rfl rfl hw (mClsF_yes (List.mem_singleton.mpr rfl) hZ (by rfl) (by rfl) (by rfl))
  simp_arith only [g__law_told, m__law_told, hT]
end
section
variable (c : Cs) {sorts : List (Str × Str)} {ks : List (Str × List Str)} (hS : StockOk sorts ks)
include hS
theorem LX_init (f0 f2 f3 f4 : Sl) : L_Stock___init__X_0 c [f0, .bo (sortsD sorts), f2, f3, f4] = some (.ok (snD sorts) [f0, .bo (sortsD sorts), f2, .un, .un]) := by
  unfold snD
  rw [List.map_map]
  refine mLc_map (as := sorts) (enc := fun p => .tup [.str p.1, .str p.2]) (δ0 := [f0, .bo (sortsD sorts), f2, f3, f4]) rfl rfl fun p hp => ⟨[f0, .bo (sortsD sorts), f2, .fr (.str p.1), .fr (.str p.2)], [f0, .bo (sortsD sorts), f2, .fr (.str p.1), .fr (.str p.2)], rfl, ?_, rfl⟩
  simp_arith only [E_Stock___init__X_0, Function.comp]
theorem initX_kinds {X2 : D} (h : g_are_kinds c [X2, snD sorts] = some (.bl false)) : g_Stock___init__X c [.ins c.stock [] [], sortsD sorts, X2] = some (.ex ⟨c.x 1, ["part"], [.str "kinds"], 1⟩ []) := by
  have h1 := are_sorts_ok c hS.so
  have h3 := LX_init c hS (.io (.ins c.stock [] [])) (.bo X2) .un .un
  simp_arith only [g_Stock___init__X, defIX_e, m_Stock___init__X, h1, h3, h, mRaiseF_e, xK_ex, iK_ex]
theorem initX_good : g_Stock___init__X c [.ins c.stock [] [], sortsD sorts, kindsD ks] = some (.ok .non [.io (stockD c sorts ks)]) := by
  have h1 := are_sorts_ok c hS.so
  have h2 := are_kinds_ok c hS
  have h3 := LX_init c hS (.io (.ins c.stock [] [])) (.bo (kindsD ks)) .un .un
  have l1 : listD (sortsD sorts) = some (sorts.map fun p => .tup [.str p.1, .str p.2]) := rfl
  have l2 : listD (kindsD ks) = some (ks.map G.kindD) := rfl
  have e1 : (("sorts" : Str) ∈ ([] : List Str)) = False := by simp
  have e2 : (("kinds" : Str) ∈ (["sorts"] : List Str)) = False := by simp; decide
  simp_arith only [g_Stock___init__X, defIX_e, m_Stock___init__X, h1, h2, h3, l1, l2, e1, e2, iK_nx, not_false_eq_true, and_true, true_and]
  rfl
theorem told_good01 : g__law_told c [sortsD sorts, kindsD ks] = some (.tup [.str "told", .tup [sortsD sorts, kindsD ks], .bl true]) := by
  have h := initX_good c hS
  have eS : stockD c sorts ks = .ins c.stock ["sorts", "kinds"] [sortsD sorts, kindsD ks] := rfl
  have hY : Y__law_told_0 c [.fr (sortsD sorts), .fr (kindsD ks), .un, .un] = some (.nx [.fr (sortsD sorts), .fr (kindsD ks), .ow (stockD c sorts ks), .un]) := by
    rw [eS] at h ⊢
    simp [Y__law_told_0, defI, defG, defN, startE, entry, PK.sl, mSeq, mIf, mTest, m1, m2, mn1, mn2, M.bind, mVal, mOv, mC, M.ret, Sl.dat, mRd, rd, M.lift, fI, fI0, mS, mAsg, gN, gT, gsC, gs0, mHas, ownL, Sl.own, reown, mRet, mVar, mNext, io0, mCallI, mCallP, mCallN, mMakeP, maCons, maNil, mRds, rds, frOk, apart, mdCons, mdNil, mLst, mTup, mIt, mFor, mDrop, mMut, appF, mA, mnA, fA1, fN1, lenD, tupD, wipeE, mAsgO, mSeqOf, mSeqB, mTupOf, mTxtOf, gTL, mNot, mOr, mAnd, mAndV, mOrV, mNotV, mChain, isB, tyN, mRetW, mRetO, -List.map_map, -Int.natCast_add, -List.map_append, -List.map_cons, -List.map_nil, -List.map_const, -List.map_const_fun, mMake, h]
  have f1 := sorts_of c hS
  have f2 := kinds_of c hS
  have i1 : isB "list" (sortsD sorts) = some (.bl true) := rfl
  have i2 : isB "list" (kindsD ks) = some (.bl true) := rfl
  have hT := mTryF_nx (R := [1]) (cx := c.x) (fld := "part") (cl := [([1], some 3, Z__law_told_0_0 c), ([1], none, Z__law_told_0_1 c)]) (by rfl) hY (by rfl)
  generalize stockD c sorts ks = SD at *
  generalize sortsD sorts = SS at *
  generalize kindsD ks = KK at *
  simp_arith only [g__law_told, m__law_told, hT, f1, f2, i1, i2]
theorem alike01 : g__law_alike c [sortsD sorts, kindsD ks] = some (.bl true) := by
  obtain ⟨p0, sr, hsr⟩ : ∃ p0 sr, sorts = p0 :: sr := by
    have := hS.so.lo
    cases sorts with
    | nil => simp at this
    | cons p kr => exact ⟨p, kr, rfl⟩
  have hp0 : p0 ∈ sorts := by rw [hsr]; exact List.mem_cons_self
  obtain ⟨k0, kr, hkr⟩ : ∃ k0 kr, ks = k0 :: kr := by
    have := hS.lo
    cases ks with
    | nil => simp at this
    | cons p kr => exact ⟨p, kr, rfl⟩
  have hk0 : k0 ∈ ks := by rw [hkr]; exact List.mem_cons_self
  have he := hS.en _ hk0
  have he5 := he.hi
  obtain ⟨q, hq⟩ : ∃ q, q = 1 + k0.2.length % 5 := ⟨_, rfl⟩
  have q1 : 1 ≤ q ∧ q ≤ 5 := by omega
  obtain ⟨K2, hK2⟩ : ∃ K2, K2 = (k0.1, List.replicate q p0.1) :: kr := ⟨_, rfl⟩
  have srep : ∀ n : Nat, sortS (List.replicate n p0.1) = List.replicate n p0.1 := fun n => sortS_of (List.pairwise_replicate.mpr (Or.inr (by unfold strLe; exact decide_eq_true (List.le_refl _))))
  have hS2 : StockOk sorts K2 := by
    refine ⟨hS.so, by rw [hK2]; simp, by have := hS.hi; rw [hkr] at this; rw [hK2]; simpa using this, fun p hp => ?_, ?_, fun p hp => ?_⟩
    · rw [hK2] at hp
      rcases List.mem_cons.mp hp with rfl | hp
      · have h := hS.nm k0 hk0
        exact h
      · exact hS.nm p (by rw [hkr]; exact List.mem_cons_of_mem _ hp)
    · have := hS.nd
      rw [hkr] at this
      rw [hK2]
      simpa using this
    · rw [hK2] at hp
      rcases List.mem_cons.mp hp with rfl | hp
      · refine ⟨srep q, fun y hy => ?_, by rw [List.length_replicate]; omega, by rw [List.length_replicate]; omega⟩
        rw [List.eq_of_mem_replicate hy]
        exact List.mem_map.mpr ⟨_, hp0, rfl⟩
      · exact hS.en p (by rw [hkr]; exact List.mem_cons_of_mem _ hp)
  have h1 := stock_made c hS
  have h2 := stock_made c hS2
  have x0 : ixD (sortsD sorts) (.int 0) = some (.tup [.str p0.1, .str p0.2]) := by
    have := ix_at01 (f := pairD) (xs := sorts) (i := 0) (by rw [hsr]; simp)
    rw [show sorts[0]'(by rw [hsr]; simp) = p0 by simp [hsr]] at this
    exact this
  have x00 : ixD (.tup [.str p0.1, .str p0.2]) (.int 0) = some (.str p0.1) := rfl
  have y0 : ixD (kindsD ks) (.int 0) = some (.tup [.str k0.1, .tup (k0.2.map .str)]) := by
    have := ix_at01 (f := G.kindD) (xs := ks) (i := 0) (by rw [hkr]; simp)
    rw [show ks[0]'(by rw [hkr]; simp) = k0 by simp [hkr]] at this
    exact this
  have y00 : ixD (.tup [.str k0.1, .tup (k0.2.map .str)]) (.int 0) = some (.str k0.1) := rfl
  have y01 : ixD (.tup [.str k0.1, .tup (k0.2.map .str)]) (.int 1) = some (.tup (k0.2.map .str)) := rfl
  have ln : lenD (.tup (k0.2.map D.str)) = some (.int (k0.2.length : Nat)) := by rw [show lenD (.tup (k0.2.map D.str)) = some (.int ((k0.2.map D.str).length : Nat)) from rfl, List.length_map]
  have md : modOk (k0.2.length : Nat) 5 = true := by simp [modOk]
  have a5 : addD (.int 1) (.int ((k0.2.length : Int) % 5)) = some (.int (q : Nat)) := by
    show some (D.int _) = some (D.int _)
    rw [hq]
    congr 2
  have rp : repYD (.tup [.str p0.1]) (.int (q : Nat)) = some (.tup ((List.replicate q p0.1).map .str)) := by
    have : q = 1 ∨ q = 2 ∨ q = 3 ∨ q = 4 ∨ q = 5 := by omega
    rcases this with h | h | h | h | h <;> rw [h] <;> rfl
  have sl : slD (kindsD ks) (some 1) none = some (.lst (kr.map G.kindD)) := by
    rw [hkr]
    exact sl_from ((k0 :: kr).map G.kindD) 1
  have ad : addD (.lst [.tup [.str k0.1, .tup ((List.replicate q p0.1).map .str)]]) (.lst (kr.map G.kindD)) = some (kindsD K2) := by
    rw [hK2]
    rw [addD_lst (by have := hS.hi; rw [hkr] at this; simp at this ⊢; omega)]
    rfl
  have p := stock_pl hS
  have p2 := stock_pl hS2
  have ne : neD (kindsD K2) (kindsD ks) = some (.bl (!decide (kindsD K2 = kindsD ks))) := neD_pl 3 p2.2 p.2
  have lS : listD (sortsD sorts) = some (sorts.map fun p => .tup [.str p.1, .str p.2]) := rfl
  have lK : listD (kindsD ks) = some (ks.map G.kindD) := rfl
  have eSS : D.lst (sorts.map fun p => .tup [.str p.1, .str p.2]) = sortsD sorts := rfl
  have eKK : D.lst (ks.map G.kindD) = kindsD ks := rfl
  have eq1 := stock_eqI c hS
  have ne1 : neI c.stock (g_Stock___eq__ c) (stockD c sorts ks) (stockD c sorts ks) = some (.bl false) := by
    unfold neI
    rw [eq1]; rfl
  have q0 : ∀ d : D, plainP d = true → isC c.stock d = some (.bl false) → eqP c.stock (g_Stock___eq__ c) (stockD c sorts ks) d = some (.bl false) := fun d hd hc => by
    have : g_Stock___eq__ c [stockD c sorts ks, d] = some (.bl false) := by
      simp_arith only [g_Stock___eq__, m_Stock___eq__, hc]
    unfold stockD at this ⊢
    simp only [eqP, hd, and_self, if_true, this]
  have z1 := q0 (.tup [sortsD sorts, kindsD ks]) rfl rfl
  have z2 := q0 (.int 5) rfl rfl
  have z3 := q0 (.str "stock") rfl rfl
  have mk1 : ∀ δ, mkN δ (some (.non, stockD c sorts ks)) = some (.ok (stockD c sorts ks) δ) := fun _ => rfl
  have mk2 : ∀ δ, mkN δ (some (.non, stockD c sorts K2)) = some (.ok (stockD c sorts K2) δ) := fun _ => rfl
  have hne : kindsD K2 ≠ kindsD ks → eqI c.stock (g_Stock___eq__ c) (stockD c sorts ks) (stockD c sorts K2) = some (.bl false) := fun h => stock_neI c hS hS2 fun e => h e.symm
  have imd : ((k0.2.length : Nat) : Int) % 5 = (k0.2.length : Int) % 5 := rfl
  generalize stockD c sorts ks = SD at *
  generalize stockD c sorts K2 = SD2 at *
  generalize (List.replicate q p0.1).map D.str = RR at *
  generalize kr.map G.kindD = KR at *
  generalize k0.2.map D.str = KE at *
  by_cases w : kindsD K2 = kindsD ks
  · rw [decide_eq_true w] at ne
    generalize kindsD K2 = KD2 at *
    generalize sorts.map (fun p : Str × Str => D.tup [.str p.1, .str p.2]) = SL at *
    generalize ks.map G.kindD = KL at *
    generalize sortsD sorts = SS at *
    generalize kindsD ks = KK at *
    subst eSS
    subst eKK
    simp_arith only [g__law_alike, m__law_alike, h1, mk1, x0, x00, y0, y00, y01, ln, md, a5, rp, sl, ad, lS, lK, eq1, ne1, ne, Bool.not_true, z1, z2, z3]
  · rw [decide_eq_false w] at ne
    have hn := hne w
    generalize kindsD K2 = KD2 at *
    generalize sorts.map (fun p : Str × Str => D.tup [.str p.1, .str p.2]) = SL at *
    generalize ks.map G.kindD = KL at *
    generalize sortsD sorts = SS at *
    generalize kindsD ks = KK at *
    subst eSS
    subst eKK
    simp_arith only [g__law_alike, m__law_alike, h1, mk1, h2, mk2, x0, x00, y0, y00, y01, ln, md, a5, rp, sl, ad, lS, lK, eq1, ne1, ne, Bool.not_false, hn, z1, z2, z3]
end
end GA

set_option Elab.async false
set_option linter.all false
set_option maxRecDepth 100000
set_option maxHeartbeats 4000000
/-! MK01: stocks made: the law. -/
namespace GA
open PySem L2 DL G PG
noncomputable def RS01 (c : Cs) : Ms := mSeq (mSeq (mIf (mTest (m2 neD (mVal (mTup (mdCons (m1 (fldD [c.stock] "sorts") (mOv 8)) (mdCons (m1 (fldD [c.stock] "kinds") (mOv 8)) mdNil)))) (mVal (mTup (mdCons (mVar 4) (mdCons (mVar 5) mdNil)))))) (mRet (mC (.bl false))) (mNext)) (mIf (mTest (m2 neD (mVal (mCallP [.fr, .fr] (g__law_told c) (maCons (mVal (mVar 4)) (maCons (mVal (mVar 5)) maNil)))) (mVal (mTup (mdCons (mC (.str "told")) (mdCons (mTup (mdCons (mVar 4) (mdCons (mVar 5) mdNil))) (mdCons (mC (.bl true)) mdNil))))))) (mRet (mC (.bl false))) (mNext))) (mIf (mNot (mTest (mCallP [.fr, .fr] (g__law_alike c) (maCons (mVal (mVar 4)) (maCons (mVal (mVar 5)) maNil))))) (mRet (mC (.bl false))) (mNext))
noncomputable def PW01 (c : Cs) : Ms := mPartsW 6 2 (mlCons (mnA (fN1 listD) (maCons (mOv 4) maNil)) (mlCons (mnA (fN1 listD) (maCons (mOv 5) maNil)) mlNil)) (mSeq (M_law_1 c) (mSeq (mIf (I_law_1 c) mVoid mNext) (J_law_1 c))) (RS01 c)
theorem partsW_ok01 {i n : Nat} {m1 : M (List D)} {mm mr : Ms} {δ δ1 δ2 : En} {ds es : List D} {o : Option Ou} (h1 : m1 δ = some (.ok ds δ1)) (hc : noB2 δ1 = true ∧ i < δ1.length) (h2 : mm (δ1.set i (.b2 ds)) = some (.nx δ2)) (h3 : noB2 (wipeE δ2 [i]) = true) (h4 : δ2[i]? = some (.b2 es)) (h5 : es.length = n ∧ es.all isL = true) (h6 : mr (wipeE δ2 [i]) = o) : mPartsW i n m1 mm mr δ = o := by
  unfold mPartsW
  rw [h1]
  simp only [hc, and_self, if_true, h2, h3, h4, h5, h6]
theorem mlCons_ok01 {a : M D} {b : M (List D)} {δ δ1 δ2 : En} {d : D} {ds : List D} (h1 : a δ = some (.ok d δ1)) (h2 : b δ1 = some (.ok ds δ2)) (hl : ds.length + 1 ≤ LB) : mlCons a b δ = some (.ok (d :: ds) δ2) := by
  unfold mlCons
  rw [M.bind_ok h1, M.bind_ok h2]
  simp only [M.lift, hl, if_true]
theorem alt_l {m n : Ms} {δ : En} {o : Ou} (h : m δ = some o) : mAlt m n δ = some o := by unfold mAlt; rw [h]
theorem alt_r {m n : Ms} {δ : En} {o : Ou} (h : m δ = none) (h2 : n δ = some o) : mAlt m n δ = some o := by unfold mAlt; rw [h]; exact h2
theorem seq_n0 {a b : Ms} {δ : En} (h : a δ = none) : mSeq a b δ = none := by unfold mSeq; rw [h]
theorem seq_x {a b : Ms} {δ δ1 : En} {o : Option Ou} (h : a δ = some (.nx δ1)) (h2 : b δ1 = o) : mSeq a b δ = o := by unfold mSeq; rw [h]; exact h2
theorem in2 (a b i : Int) : inID false (.int i) (.tup [.int a, .int b]) = some (.bl (decide (i = a ∨ i = b))) := by
  have : intsOf [D.int a, D.int b] = some [a, b] := rfl
  unfold inID
  dsimp only
  rw [this]
  simp
theorem told_ne {n : Nat} {w : Str} {X : D} (hw : PyData.strOk w = true) (hX : Pl n X) (hn : n ≤ 60) : neD (.tup [.str w, X, .bl true]) (.tup [.str w, X, .bl true]) = some (.bl false) := by
  apply neD_self
  have e := hX.enc
  have t : toPy (.tup [.str w, X, .bl true]) = some (.tuple [.str w, encD X, .bool true]) := by
    simp [toPy, toPys, e.1]
  have s : SeqAt.shaped (.tuple [.str w, encD X, .bool true]) = true := by
    have d := e.2.2
    simp [SeqAt.shaped, PyData.canLay0, PyData.canLayAll0, PyData.depth, PyData.depthAll, hw, e.2.1]
    omega
  unfold pyEq
  rw [t]
  dsimp only
  rw [s]
  simp [PyData.eqv, PyData.eqvAll, (hX.eqv hX).mpr rfl]
section
variable (c : Cs) {sorts : List (Str × Str)} {ks : List (Str × List Str)} (hS : StockOk sorts ks) (hN : ∀ p ∈ sorts, NmOf p.1)
include hS hN
theorem odd_turn {m : Nat} {R : D} (hR : Sr m R) (hm : m ≤ 80000) {odd : Int} (ho : odd = 0 ∨ odd = 1 ∨ odd = 2) (f0 f1 f6 f7 f8 : Sl) : ∃ s2 s6 s7, noB2 [s2, s6, s7] = true ∧ A_law_0 c [f0, f1, .ow R, .fr (.int odd), .fr (sortsD sorts), .fr (kindsD ks), f6, f7, f8] = some (.nx [f0, f1, s2, .fr (.int odd), .fr (sortsD sorts), .fr (kindsD ks), s6, s7, f8]) := by
  have hal := alike01 c hS
  obtain ⟨SL, hSL⟩ : ∃ X, X = sorts.map fun p : Str × Str => D.tup [.str p.1, .str p.2] := ⟨_, rfl⟩
  obtain ⟨KL, hKL⟩ : ∃ X, X = ks.map G.kindD := ⟨_, rfl⟩
  have sD : sortsD sorts = .lst SL := by rw [hSL]; rfl
  have kD : kindsD ks = .lst KL := by rw [hKL]; rfl
  have lS : listD (.lst SL) = some SL := rfl
  have lK : listD (.lst KL) = some KL := rfl
  have i02 := in2 0 2 odd
  have i12 := in2 1 2 odd
  have nk : neD (.str "kinds") (.str "") = some (.bl true) := by
    rw [neD_pl 0 (Pl.str (by decide +kernel)) (Pl.str (by decide +kernel))]
    rw [decide_eq_false fun h => absurd (D.str.inj h) (by decide +kernel)]; rfl
  have ns : neD (.str "sorts") (.str "") = some (.bl true) := by
    rw [neD_pl 0 (Pl.str (by decide +kernel)) (Pl.str (by decide +kernel))]
    rw [decide_eq_false fun h => absurd (D.str.inj h) (by decide +kernel)]; rfl
  have t1 : neD (.tup [.str "none", .str "kinds", .bl false]) (.tup [.str "none", .str "kinds", .bl false]) = some (.bl false) := neD_self (by decide +kernel)
  have t2 : neD (.tup [.str "none", .str "sorts", .bl false]) (.tup [.str "none", .str "sorts", .bl false]) = some (.bl false) := neD_self (by decide +kernel)
  have x0 : ∀ A B : D, ixD (.lst [A, B]) (.int 0) = some A := fun _ _ => rfl
  have x1 : ∀ A B : D, ixD (.lst [A, B]) (.int 1) = some B := fun _ _ => rfl
  have n0 : ixN 2 0 = some 0 := rfl
  have n1 : ixN 2 1 = some 1 := rfl
  rcases ho with rfl | rfl | rfl
  · skip
    have j1 : decide ((0 : Int) = 0 ∨ (0 : Int) = 2) = true := by decide
    have j2 : decide ((0 : Int) = 1 ∨ (0 : Int) = 2) = false := by decide
    rw [j1] at i02
    rw [j2] at i12
    obtain ⟨X, R1, h1, h2, _⟩ := no_kinds_ok c hS hN hR (by omega)
    have h3 := told_none01 c (w := "kinds") rfl (initX_kinds c hS h2)
    refine ⟨.ow R1, .ow (.lst [.lst SL, X]), .fr (.str "kinds"), rfl, ?_⟩
    rw [sD] at h3
    rw [sD, kD] at h1
    rw [sD, kD] at hal ⊢
    simp_arith only [A_law_0, lS, lK, n0, n1, List.set_cons_zero, List.set_cons_succ, i02, h1, i12, nk, x0, x1, h3, t1, hal]
  · skip
    have j1 : decide ((1 : Int) = 0 ∨ (1 : Int) = 2) = false := by decide
    have j2 : decide ((1 : Int) = 1 ∨ (1 : Int) = 2) = true := by decide
    rw [j1] at i02
    rw [j2] at i12
    obtain ⟨Y, R2, h4, h5, _⟩ := no_sorts_ok c hS.so hN hR (by omega)
    have h3 := told_none01 c (w := "sorts") rfl (initX_sorts c (X2 := kindsD ks) h5)
    refine ⟨.ow R2, .ow (.lst [Y, .lst KL]), .fr (.str "sorts"), rfl, ?_⟩
    rw [kD] at h3
    rw [sD] at h4
    rw [sD, kD] at hal ⊢
    simp_arith only [A_law_0, lS, lK, n0, n1, List.set_cons_zero, List.set_cons_succ, i02, h4, i12, ns, x0, x1, h3, t2, hal]
  · skip
    have j1 : decide ((2 : Int) = 0 ∨ (2 : Int) = 2) = true := by decide
    have j2 : decide ((2 : Int) = 1 ∨ (2 : Int) = 2) = true := by decide
    rw [j1] at i02
    rw [j2] at i12
    obtain ⟨X, R1, h1, h2, hR1⟩ := no_kinds_ok c hS hN hR (by omega)
    obtain ⟨Y, R2, h4, h5, _⟩ := no_sorts_ok c hS.so hN hR1 (by omega)
    have h3 := told_none01 c (w := "sorts") rfl (initX_sorts c (X2 := X) h5)
    refine ⟨.ow R2, .ow (.lst [Y, X]), .fr (.str "sorts"), rfl, ?_⟩
    rw [sD, kD] at h1
    rw [sD] at h4
    rw [sD, kD] at hal ⊢
    simp_arith only [A_law_0, lS, lK, n0, n1, List.set_cons_zero, List.set_cons_succ, i02, h1, h4, i12, ns, x0, x1, h3, t2, hal]
theorem even_none {R : D} {odd : Int} (ho : ¬ (odd = 0 ∨ odd = 1 ∨ odd = 2)) (f0 f1 f6 f7 f8 : Sl) : A_law_0 c [f0, f1, .ow R, .fr (.int odd), .fr (sortsD sorts), .fr (kindsD ks), f6, f7, f8] = none := by
  obtain ⟨SL, hSL⟩ : ∃ X, X = sorts.map fun p : Str × Str => D.tup [.str p.1, .str p.2] := ⟨_, rfl⟩
  obtain ⟨KL, hKL⟩ : ∃ X, X = ks.map G.kindD := ⟨_, rfl⟩
  have sD : sortsD sorts = .lst SL := by rw [hSL]; rfl
  have kD : kindsD ks = .lst KL := by rw [hKL]; rfl
  have lS : listD (.lst SL) = some SL := rfl
  have lK : listD (.lst KL) = some KL := rfl
  have i02 := in2 0 2 odd
  have i12 := in2 1 2 odd
  rw [decide_eq_false (by omega)] at i02 i12
  have ne : neD (.str "") (.str "") = some (.bl false) := by
    rw [neD_pl 0 (Pl.str (by decide +kernel)) (Pl.str (by decide +kernel)), decide_eq_true rfl]; rfl
  rw [sD, kD]
  unfold A_law_0
  refine seq_x (δ1 := [f0, f1, .ow R, .fr (.int odd), .fr (.lst SL), .fr (.lst KL), .ow (.lst [.lst SL, .lst KL]), f7, f8]) (by simp_arith only [lS, lK]) ?_
  refine seq_x (δ1 := [f0, f1, .ow R, .fr (.int odd), .fr (.lst SL), .fr (.lst KL), .ow (.lst [.lst SL, .lst KL]), .fr (.str ""), f8]) (by simp_arith only []) ?_
  refine seq_x (δ1 := [f0, f1, .ow R, .fr (.int odd), .fr (.lst SL), .fr (.lst KL), .ow (.lst [.lst SL, .lst KL]), .fr (.str ""), f8]) (by simp_arith only [i02]) ?_
  refine seq_x (δ1 := [f0, f1, .ow R, .fr (.int odd), .fr (.lst SL), .fr (.lst KL), .ow (.lst [.lst SL, .lst KL]), .fr (.str ""), f8]) (by simp_arith only [i12]) ?_
  refine seq_n0 ?_
  have ht : mTest (m2 neD (mOv 7) (mVal (mC (.str "")))) [f0, f1, .ow R, .fr (.int odd), .fr (.lst SL), .fr (.lst KL), .ow (.lst [.lst SL, .lst KL]), .fr (.str ""), f8] = some (.ok false [f0, f1, .ow R, .fr (.int odd), .fr (.lst SL), .fr (.lst KL), .ow (.lst [.lst SL, .lst KL]), .fr (.str ""), f8]) := by
    simp_arith only [ne]
  unfold mIf mS
  rw [ht]
  rfl
theorem even_turn {R : D} {odd : Int} (ho : ¬ (odd = 0 ∨ odd = 1 ∨ odd = 2)) (f0 f1 f6 f7 f8 : Sl) (hn : noB2 [f0, f1, f7, f8, f6] = true) : ∃ s7 s8, noB2 [s7, s8] = true ∧ PW01 c [f0, f1, .ow R, .fr (.int odd), .fr (sortsD sorts), .fr (kindsD ks), f6, f7, f8] = some (.nx [f0, f1, .ow R, .fr (.int odd), .fr (sortsD sorts), .fr (kindsD ks), .un, s7, s8]) := by
  have hal := alike01 c hS
  have htl := told_good01 c hS
  have hst := stock_made c hS
  have f1' := sorts_of c hS
  have f2' := kinds_of c hS
  have mk1 : ∀ δ, mkN δ (some (.non, stockD c sorts ks)) = some (.ok (stockD c sorts ks) δ) := fun _ => rfl
  obtain ⟨SL, hSL⟩ : ∃ X, X = sorts.map fun p : Str × Str => D.tup [.str p.1, .str p.2] := ⟨_, rfl⟩
  obtain ⟨KL, hKL⟩ : ∃ X, X = ks.map G.kindD := ⟨_, rfl⟩
  have sD : sortsD sorts = .lst SL := by rw [hSL]; rfl
  have kD : kindsD ks = .lst KL := by rw [hKL]; rfl
  have lS : listD (.lst SL) = some SL := rfl
  have lK : listD (.lst KL) = some KL := rfl
  have i02 := in2 0 2 odd
  have i12 := in2 1 2 odd
  rw [decide_eq_false (by omega)] at i02 i12
  have ne : neD (.str "") (.str "") = some (.bl false) := by
    rw [neD_pl 0 (Pl.str (by decide +kernel)) (Pl.str (by decide +kernel)), decide_eq_true rfl]; rfl
  have p := stock_pl hS
  have pl2 : Pl 4 (.lst [sortsD sorts, kindsD ks]) := Pl.lst fun d hd => by
    simp only [List.mem_cons, List.not_mem_nil, or_false] at hd
    rcases hd with rfl | rfl
    · exact p.1.up
    · exact p.2
  have plt : Pl 4 (.tup [sortsD sorts, kindsD ks]) := Pl.tup fun d hd => by
    simp only [List.mem_cons, List.not_mem_nil, or_false] at hd
    rcases hd with rfl | rfl
    · exact p.1.up
    · exact p.2
  have nb : neD (.lst [sortsD sorts, kindsD ks]) (.lst [sortsD sorts, kindsD ks]) = some (.bl false) := by rw [neD_pl 4 pl2 pl2, decide_eq_true rfl]; rfl
  have nt : neD (.tup [sortsD sorts, kindsD ks]) (.tup [sortsD sorts, kindsD ks]) = some (.bl false) := by rw [neD_pl 4 plt plt, decide_eq_true rfl]; rfl
  have nT : neD (.tup [.str "told", .tup [sortsD sorts, kindsD ks], .bl true]) (.tup [.str "told", .tup [sortsD sorts, kindsD ks], .bl true]) = some (.bl false) := told_ne (by decide +kernel) plt (by decide)
  refine ⟨.fr (.str ""), .ow (stockD c sorts ks), rfl, ?_⟩
  rw [sD, kD] at hal htl hst nb nt nT ⊢
  rw [sD] at f1'
  rw [kD] at f2'
  have e : stockD c sorts ks = .ins c.stock ["sorts", "kinds"] [.lst SL, .lst KL] := by rw [← sD, ← kD]; rfl
  rw [e] at hst
  have e' := e
  generalize hSD : stockD c sorts ks = SD at *
  unfold PW01
  refine partsW_ok01 (δ1 := [f0, f1, .ow R, .fr (.int odd), .fr (.lst SL), .fr (.lst KL), f6, f7, f8]) (ds := [.lst SL, .lst KL]) (δ2 := [f0, f1, .ow R, .fr (.int odd), .fr (.lst SL), .fr (.lst KL), .b2 [.lst SL, .lst KL], .fr (.str ""), .ow SD]) (es := [.lst SL, .lst KL]) ?_ ⟨?_, by simp⟩ ?_ ?_ rfl ⟨rfl, rfl⟩ ?_
  · refine mlCons_ok01 (δ1 := [f0, f1, .ow R, .fr (.int odd), .fr (.lst SL), .fr (.lst KL), f6, f7, f8]) (by simp_arith only [lS]) (mlCons_ok01 (δ1 := [f0, f1, .ow R, .fr (.int odd), .fr (.lst SL), .fr (.lst KL), f6, f7, f8]) (by simp_arith only [lK]) rfl (by simp [LB])) (by simp [LB])
  · simp only [noB2, List.all_cons, List.all_nil, Bool.and_true, Bool.true_and, Bool.and_eq_true] at hn ⊢
    exact ⟨hn.1, hn.2.1, hn.2.2.2.2, hn.2.2.1, hn.2.2.2.1⟩
  · show mSeq (M_law_1 c) (mSeq (mIf (I_law_1 c) mVoid mNext) (J_law_1 c)) [f0, f1, .ow R, .fr (.int odd), .fr (.lst SL), .fr (.lst KL), .b2 [.lst SL, .lst KL], f7, f8] = _
    have kM : M_law_1 c [f0, f1, .ow R, .fr (.int odd), .fr (.lst SL), .fr (.lst KL), .b2 [.lst SL, .lst KL], f7, f8] = some (.nx [f0, f1, .ow R, .fr (.int odd), .fr (.lst SL), .fr (.lst KL), .b2 [.lst SL, .lst KL], .fr (.str ""), f8]) := by
      simp_arith only [M_law_1, i02, i12]
    have kI : mIf (I_law_1 c) mVoid mNext [f0, f1, .ow R, .fr (.int odd), .fr (.lst SL), .fr (.lst KL), .b2 [.lst SL, .lst KL], .fr (.str ""), f8] = some (.nx [f0, f1, .ow R, .fr (.int odd), .fr (.lst SL), .fr (.lst KL), .b2 [.lst SL, .lst KL], .fr (.str ""), f8]) := by
      simp_arith only [I_law_1, ne]
    have kJ : mMakeP c.stock [.bo, .bo] (g_Stock___init__ c) (maCons (mPart 6 0) (maCons (mPart 6 1) maNil)) [f0, f1, .ow R, .fr (.int odd), .fr (.lst SL), .fr (.lst KL), .b2 [.lst SL, .lst KL], .fr (.str ""), f8] = some (.ok SD [f0, f1, .ow R, .fr (.int odd), .fr (.lst SL), .fr (.lst KL), .b2 [.lst SL, .lst KL], .fr (.str ""), f8]) := by
      rw [e]
      simp [mMakeP, M.bind, maCons, maNil, M.ret, mPart, mRds, rds, rd, frOk, hst]
    have kA : mAsgO 8 (mMakeP c.stock [.bo, .bo] (g_Stock___init__ c) (maCons (mPart 6 0) (maCons (mPart 6 1) maNil))) [f0, f1, .ow R, .fr (.int odd), .fr (.lst SL), .fr (.lst KL), .b2 [.lst SL, .lst KL], .fr (.str ""), f8] = some (.nx [f0, f1, .ow R, .fr (.int odd), .fr (.lst SL), .fr (.lst KL), .b2 [.lst SL, .lst KL], .fr (.str ""), .ow SD]) := by
      unfold mAsgO mS
      rw [kJ]
      rfl
    have k2 : mB 6 neD (mVal (mLst (mdCons (mVar 4) (mdCons (mVar 5) mdNil)))) [f0, f1, .ow R, .fr (.int odd), .fr (.lst SL), .fr (.lst KL), .b2 [.lst SL, .lst KL], .fr (.str ""), .ow SD] = some (.ok (.bl false) [f0, f1, .ow R, .fr (.int odd), .fr (.lst SL), .fr (.lst KL), .b2 [.lst SL, .lst KL], .fr (.str ""), .ow SD]) := by
      simp [mB, mB2, M.bind, mLst, mdCons, mdNil, M.ret, M.lift, mVal, mVar, mRd, rd, LB, nb]
    have kJJ : J_law_1 c [f0, f1, .ow R, .fr (.int odd), .fr (.lst SL), .fr (.lst KL), .b2 [.lst SL, .lst KL], .fr (.str ""), f8] = some (.nx [f0, f1, .ow R, .fr (.int odd), .fr (.lst SL), .fr (.lst KL), .b2 [.lst SL, .lst KL], .fr (.str ""), .ow SD]) := by
      unfold J_law_1
      refine seq_x kA ?_
      simp_arith only [k2]
    exact seq_x kM (seq_x kI kJJ)
  · simp only [wipeE, noB2] at hn ⊢
    simp only [List.all_cons, List.all_nil, Bool.and_true, Bool.and_eq_true] at hn
    simp [hn]
  · have w : wipeE [f0, f1, .ow R, .fr (.int odd), .fr (.lst SL), .fr (.lst KL), .b2 [.lst SL, .lst KL], .fr (.str ""), .ow SD] [6] = [f0, f1, .ow R, .fr (.int odd), .fr (.lst SL), .fr (.lst KL), .un, .fr (.str ""), .ow SD] := rfl
    rw [w]
    simp_arith only [RS01, f1', f2', nt, htl, nT, hal]
end
theorem law_turn (c : Cs) (n : Int) (f0 f2 f3 f4 f5 f6 f7 f8 : Sl) (hn : noB2 [f0, f7, f8, f6] = true) : ∃ s2 s3 s4 s5 s6 s7 s8, noB2 [f0, s7, s8, s6] = true ∧ B_law_2 c [f0, .fr (.int n), f2, f3, f4, f5, f6, f7, f8] = some (.nx [f0, .fr (.int n), s2, s3, s4, s5, s6, s7, s8]) := by
  obtain ⟨R0, h1, hR0⟩ := source_ok c n
  obtain ⟨odd, R1, h2, o0, o1, hR1⟩ := next_spec c hR0 (by omega) 6 (by decide) (by decide)
  obtain ⟨sorts, ks, R2, h3, hS, hR2, hNk, hNs⟩ := stock_spec01 c hR1 (by omega) 5 (by decide)
  have h3' : g__law_stockB c [R1, .int 5] = some (.tup [sortsD sorts, kindsD ks], R2) := h3
  have em : B_law_2 c = mSeq (mAsgO 2 (mCallN [.fr] (g__law_source_of c) (maCons (mVal (mVar 1)) maNil))) (mSeq (mAsg (gN 3) (mCallI 2 [.fr] (g__law_next c) (maCons (mVal (mC (.int 6))) maNil))) (mSeq (mAsg (gT (gsC (gN 4) (gsC (gN 5) gs0))) (mCallI 2 [.fr] (g__law_stockB c) (maCons (mVal (mC (.int 5))) maNil))) (mAlt (A_law_0 c) (PW01 c)))) := rfl
  rw [em]
  have front : ∀ (M : Ms) (o : Option Ou), M [f0, .fr (.int n), .ow R2, .fr (.int odd), .fr (sortsD sorts), .fr (kindsD ks), f6, f7, f8] = o → mSeq (mAsgO 2 (mCallN [.fr] (g__law_source_of c) (maCons (mVal (mVar 1)) maNil))) (mSeq (mAsg (gN 3) (mCallI 2 [.fr] (g__law_next c) (maCons (mVal (mC (.int 6))) maNil))) (mSeq (mAsg (gT (gsC (gN 4) (gsC (gN 5) gs0))) (mCallI 2 [.fr] (g__law_stockB c) (maCons (mVal (mC (.int 5))) maNil))) M)) [f0, .fr (.int n), f2, f3, f4, f5, f6, f7, f8] = o := fun M o h => by
    generalize sortsD sorts = SS at *
    generalize kindsD ks = KK at *
    refine seq_x (δ1 := [f0, .fr (.int n), .ow R0, f3, f4, f5, f6, f7, f8]) (by simp_arith only [h1]) ?_
    refine seq_x (δ1 := [f0, .fr (.int n), .ow R1, .fr (.int odd), f4, f5, f6, f7, f8]) (by simp_arith only [h2]) ?_
    exact seq_x (δ1 := [f0, .fr (.int n), .ow R2, .fr (.int odd), .fr SS, .fr KK, f6, f7, f8]) (by simp_arith only [h3']) h
  by_cases ho : odd = 0 ∨ odd = 1 ∨ odd = 2
  · obtain ⟨s2, s6, s7, hb, h4⟩ := odd_turn c hS hNs hR2 (by omega) ho f0 (.fr (.int n)) f6 f7 f8
    refine ⟨s2, .fr (.int odd), .fr (sortsD sorts), .fr (kindsD ks), s6, s7, f8, ?_, front _ _ (alt_l h4)⟩
    simp only [noB2, List.all_cons, List.all_nil, Bool.and_true, Bool.and_eq_true] at hn hb ⊢
    exact ⟨hn.1, hb.2.2, hn.2.2.1, hb.2.1⟩
  · obtain ⟨s7, s8, hb, h4⟩ := even_turn c hS hNs (R := R2) ho f0 (.fr (.int n)) f6 f7 f8 (by
      simp only [noB2, List.all_cons, List.all_nil, Bool.and_true, Bool.and_eq_true, Bool.true_and] at hn ⊢
      exact hn)
    refine ⟨.ow R2, .fr (.int odd), .fr (sortsD sorts), .fr (kindsD ks), .un, s7, s8, ?_, front _ _ (alt_r (even_none c hS hNs ho f0 (.fr (.int n)) f6 f7 f8) h4)⟩
    simp only [noB2, List.all_cons, List.all_nil, Bool.and_true, Bool.and_eq_true] at hn hb ⊢
    exact ⟨hn.1, hb.1, hb.2⟩
theorem law_ok : ∀ c, lawOk (m_law c) N_law.length := fun c ns hl => by
  obtain ⟨δ', h1, ⟨s1, s2, s3, s4, s5, s6, s7, s8, hb, rfl⟩⟩ := forL_ix (enc := D.int) (g := gN 1) (b := B_law_2 c) (as := ns.take 10 ++ [0, 1])
    (fun _ δ => ∃ s1 s2 s3 s4 s5 s6 s7 s8, noB2 [.sc ns, s7, s8, s6] = true ∧ δ = [.sc ns, s1, s2, s3, s4, s5, s6, s7, s8])
    (δ := [.sc ns, .un, .un, .un, .un, .un, .un, .un, .un]) ⟨_, _, _, _, _, _, _, _, rfl, rfl⟩ (by
      rintro i n δ _ ⟨s1, s2, s3, s4, s5, s6, s7, s8, hb, rfl⟩
      obtain ⟨t2, t3, t4, t5, t6, t7, t8, hb', h⟩ := law_turn c n (.sc ns) s2 s3 s4 s5 s6 s7 s8 hb
      exact ⟨_, _, rfl, h, _, _, _, _, _, _, _, _, hb', rfl⟩)
  have hc := cells_cut ns 10 hl [0, 1] (by decide)
  have hc' : addD (.lst (cutD (ns.map D.int) none (some 10))) (.lst [.int 0, .int 1]) = some (.lst ((ns.take 10 ++ [0, 1]).map .int)) := hc
  have hs : mScSl 0 none (some 10) [.sc ns, .un, .un, .un, .un, .un, .un, .un, .un] = some (.ok (.lst (cutD (ns.map D.int) none (some 10))) [.sc ns, .un, .un, .un, .un, .un, .un, .un, .un]) := by
    have : ns.length ≤ 1000000 := by omega
    simp only [mScSl, List.getElem?_cons_zero, this, if_true]
  refine ⟨[.sc ns, s1, s2, s3, s4, s5, s6, s7, s8], ?_⟩
  simp_arith only [m_law, hs, hc', h1]
end GA

open PySem PySem.W PyProof.Rows
set_option maxRecDepth 100000 in
set_option maxHeartbeats 0 in
theorem PySem.Challenge.cw_endsum_k01_stocks_made_holds : PySem.Challenge.rw_endsum_k01_stocks_made.Holds := by
  w_on; o_law; k_head; (case hw => w_witness2)
  k_fill
  refine GA.walk (l := PySem.Challenge.rw_endsum_k01_stocks_made) rfl rfl (fun w h Y => PySem.W.kIn_of Y) ?F
  case F =>
    intro w mg fa h KX GX hmg
    refine' GA.all_mk KX GX hmg ?z_all ?z_int ?z_isinstance ?z_len ?z_list ?z_range ?z_set ?z_sorted ?z_str ?z_tuple ?y_LETTERS ?k_stock ?n_stock_kinds ?n_stock_sorts ?ia_stock ?in_stock ?it_stock ?im_stock ?iy_stock ?d_is_name ?d_is_sort_row ?d_are_sorts ?d_is_kind_row ?d_are_kinds ?d_Stock___init__ ?d__law_source_of ?d__law_next ?d__law_one ?d__law_names ?d__law_stock ?d_Stock___eq__ ?d_Stock___init__X ?d__law_told ?d__law_no_name ?d__law_no_sorts ?d__law_no_kinds ?d__law_alike ?d_law ?xa_NoStock ?xa_EndError ?xa_NoDrawing ?xa_NoWeights ?xeg_End ?xem_End ?xer_End ?xee_End ?xQ_NoStock ?xu_NoStock ?xL_NoStock ?xz_NoStock ?xM_NoStock ?xF_NoStock ?xs_EndError ?xt_EndError ?xs_NoStock ?xt_NoStock ?xn ?xh ?xd_EndError ?xi_NoStock ?xj_NoStock ?xd_NoStock ?xf_NoStock ?xo_NoStock ?xw_NoStock ?xW_NoStock ?xb_NoStock ?xr_NoStock_NoStock ?xp_NoStock_NoDrawing ?xp_NoStock_NoWeights ?no_stock ?nb_stock ?hm
    (case z_all => k_is)
    (case z_int => k_is)
    (case z_isinstance => k_is)
    (case z_len => k_is)
    (case z_list => k_is)
    (case z_range => k_is)
    (case z_set => k_is)
    (case z_sorted => k_is)
    (case z_str => k_is)
    (case z_tuple => k_is)
    (case y_LETTERS => refine' DL.globS_mk ?y ?z; (case y => k_is); (case z => rfl))
    (case k_stock => refine' ⟨?a, ?pg, ?hd, ?po, ?sa, ?mks, ?kc⟩; (case a => k_is); (case pg => k_is); (case hd => k_is); (case po => k_is); (case sa => k_is); (case mks => k_is); (case kc => k_is))
    (case n_stock_kinds => k_is)
    (case n_stock_sorts => k_is)
    (case ia_stock => k_is)
    (case in_stock => k_is)
    (case it_stock => k_is)
    (case im_stock => k_is)
    (case iy_stock => k_is)
    (case d_is_name => refine' DL.defK_mk ?a ?l ?c ?k; (case a => k_is); (case l => k_is); (case c => k_is); (case k => k_is))
    (case d_is_sort_row => refine' DL.defK_mk ?a ?l ?c ?k; (case a => k_is); (case l => k_is); (case c => k_is); (case k => k_is))
    (case d_are_sorts => refine' DL.defK_mk ?a ?l ?c ?k; (case a => k_is); (case l => k_is); (case c => k_is); (case k => k_is))
    (case d_is_kind_row => refine' DL.defK_mk ?a ?l ?c ?k; (case a => k_is); (case l => k_is); (case c => k_is); (case k => k_is))
    (case d_are_kinds => refine' DL.defK_mk ?a ?l ?c ?k; (case a => k_is); (case l => k_is); (case c => k_is); (case k => k_is))
    (case d_Stock___init__ => refine' DL.metK_mk ?a ?i ?l ?c ?k; (case a => k_is); (case i => k_is); (case l => k_is); (case c => k_is); (case k => k_is))
    (case d__law_source_of => refine' DL.defK_mk ?a ?l ?c ?k; (case a => k_is); (case l => k_is); (case c => k_is); (case k => k_is))
    (case d__law_next => refine' DL.defK_mk ?a ?l ?c ?k; (case a => k_is); (case l => k_is); (case c => k_is); (case k => k_is))
    (case d__law_one => refine' DL.defK_mk ?a ?l ?c ?k; (case a => k_is); (case l => k_is); (case c => k_is); (case k => k_is))
    (case d__law_names => refine' DL.defK_mk ?a ?l ?c ?k; (case a => k_is); (case l => k_is); (case c => k_is); (case k => k_is))
    (case d__law_stock => refine' DL.defK_mk ?a ?l ?c ?k; (case a => k_is); (case l => k_is); (case c => k_is); (case k => k_is))
    (case d_Stock___eq__ => refine' DL.metK_mk ?a ?i ?l ?c ?k; (case a => k_is); (case i => k_is); (case l => k_is); (case c => k_is); (case k => k_is))
    (case d_Stock___init__X => refine' DL.metK_mk ?a ?i ?l ?c ?k; (case a => k_is); (case i => k_is); (case l => k_is); (case c => k_is); (case k => k_is))
    (case d__law_told => refine' DL.defK_mk ?a ?l ?c ?k; (case a => k_is); (case l => k_is); (case c => k_is); (case k => k_is))
    (case d__law_no_name => refine' DL.defK_mk ?a ?l ?c ?k; (case a => k_is); (case l => k_is); (case c => k_is); (case k => k_is))
    (case d__law_no_sorts => refine' DL.defK_mk ?a ?l ?c ?k; (case a => k_is); (case l => k_is); (case c => k_is); (case k => k_is))
    (case d__law_no_kinds => refine' DL.defK_mk ?a ?l ?c ?k; (case a => k_is); (case l => k_is); (case c => k_is); (case k => k_is))
    (case d__law_alike => refine' DL.defK_mk ?a ?l ?c ?k; (case a => k_is); (case l => k_is); (case c => k_is); (case k => k_is))
    (case d_law => refine' DL.defK_mk ?a ?l ?c ?k; (case a => k_is); (case l => k_is); (case c => k_is); (case k => k_is))
    (case xa_NoStock => k_is)
    (case xa_EndError => k_is)
    (case xa_NoDrawing => k_is)
    (case xa_NoWeights => k_is)
    (case xeg_End => k_is)
    (case xem_End => k_is)
    (case xer_End => k_is)
    (case xee_End => k_is)
    (case xQ_NoStock => kx_is)
    (case xu_NoStock => k_is)
    (case xL_NoStock => k_is)
    (case xz_NoStock => k_is)
    (case xM_NoStock => refine' DL.metK_mk ?a ?i ?l ?c ?k; (case a => k_is); (case i => k_is); (case l => k_is); (case c => k_is); (case k => k_is))
    (case xF_NoStock => k_is)
    (case xs_EndError => k_is)
    (case xt_EndError => k_is)
    (case xs_NoStock => k_is)
    (case xt_NoStock => k_is)
    (case xn => k_is)
    (case xh => k_is)
    (case xd_EndError => k_is)
    (case xi_NoStock => k_is)
    (case xj_NoStock => k_is)
    (case xd_NoStock => k_is)
    (case xf_NoStock => k_is)
    (case xo_NoStock => k_is)
    (case xw_NoStock => kit_is)
    (case xW_NoStock => kit_is)
    (case xb_NoStock => k_is)
    (case xr_NoStock_NoStock => k_is)
    (case xp_NoStock_NoDrawing => kit_is)
    (case xp_NoStock_NoWeights => kit_is)
    (case no_stock => k_is)
    (case nb_stock => k_is)
    (case hm => exact GA.law_ok)
