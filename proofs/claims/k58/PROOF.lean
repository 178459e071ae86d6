import PyProof.Rows.All
import Wide.All
import OpenK.AllK
import Wide.FinOn
import HandS.ForMost
import HandS.Wide
import HandS.Deep
import HandS.WideBits
import HandS.TupAny
import HandS.TupMul
import HandS.IsInst
import HandS.SortInts
import HandS.SortRule
import HandS.Small
import HandS.Star
import HandS.Iter
import HandS.Zip
import HandS.Conv
import KE.SortData
import KE.DataMinMax
import KE.DataEq
import KE.KTupSum
import HandS.EndBits
import PySem.Challenge.RW_leastplus_k58_whole_reduced_stacks
import KE.BitLaws
set_option Elab.async false
set_option linter.all false
set_option maxRecDepth 100000
set_option maxHeartbeats 4000000
/-! A layer of plain data over the hand layer: slots hold data (never changed) or objects owned by the def. -/
namespace G
open PySem PySem.Spec PyProof.Rows L2
abbrev D := PyData

/-! ### heaps that grow -/
def Ex (H H' : Hp) : Prop := ∀ a o, H a = some o → H' a = some o
theorem Ex.refl (H : Hp) : Ex H H := fun _ _ h => h
theorem Ex.trans {H H1 H2 : Hp} (a : Ex H H1) (b : Ex H1 H2) : Ex H H2 := fun x o h => b x o (a x o h)
theorem Ex.new {H : Hp} {p : Addr} {o : HO} (h : H p = none) : Ex H (upd H p o) := fun a u e => by
  rw [upd_ne (ne_of_none e h)]
  exact e
theorem Ex.free {H H' : Hp} {p : Addr} (e : Ex H H') (h : H' p = none) : H p = none := by
  cases q : H p with
  | none => rfl
  | some o => rw [e p o q] at h; cases h
theorem Ex.rd {H H' : Hp} {a : Addr} {u : HO} (e : Ex H H') (h : Rd H a u) : Rd H' a u := by
  rcases h with h | ⟨o, h⟩
  · exact .inl (e a _ h)
  · exact .inr ⟨o, e a _ h⟩
theorem Ex.l {K : PySem.W.Frag} {H H' : Hp} {a : Addr} {xs : List V} (e : Ex H H') (h : SqL K H a xs) : SqL K H' a xs := by
  rcases h with h | h
  · exact .inl (e.rd h)
  · exact .inr h
theorem Ex.t {K : PySem.W.Frag} {H H' : Hp} {a : Addr} {xs : List V} (e : Ex H H') (h : SqT K H a xs) : SqT K H' a xs := by
  rcases h with h | h
  · exact .inl (e.rd h)
  · exact .inr h
/-- a key of a dict as data -/
def keyD : Key → D
  | .inl i => .int i
  | .inr x => .str x
mutual
/-- the value is this data in the heap H -/
inductive Dn (K : PySem.W.Frag) (H : Hp) : V → PyData → Prop
  | non : Dn K H .non .none
  | bl (b : Bool) : Dn K H (.bl b) (.bool b)
  | int (i : Int) : Dn K H (.int i) (.int i)
  | str (x : Str) : Dn K H (.str x) (.str x)
  | lst {a : Addr} {xs : List V} {ds : List PyData} : SqL K H a xs → DnAll K H xs ds → Dn K H (.ref a) (.list ds)
  | tup {a : Addr} {xs : List V} {ds : List PyData} : SqT K H a xs → DnAll K H xs ds → Dn K H (.ref a) (.tuple ds)
  | dct {a : Addr} {ks : List (Key × V)} {ds : List (PyData × PyData)} : H a = some (.dK ks) → DnKv K H ks ds → Dn K H (.ref a) (.dict ds)
inductive DnAll (K : PySem.W.Frag) (H : Hp) : List V → List PyData → Prop
  | nil : DnAll K H [] []
  | cons {v : V} {vs : List V} {d : PyData} {ds : List PyData} : Dn K H v d → DnAll K H vs ds → DnAll K H (v :: vs) (d :: ds)
inductive DnKv (K : PySem.W.Frag) (H : Hp) : List (Key × V) → List (PyData × PyData) → Prop
  | nil : DnKv K H [] []
  | cons {k : Key} {v : V} {d : PyData} {ks : List (Key × V)} {ds : List (PyData × PyData)} : Dn K H v d → DnKv K H ks ds → DnKv K H ((k, v) :: ks) ((keyD k, d) :: ds)
end
section
variable {K : PySem.W.Frag} {H H' : Hp}
mutual
theorem dp_mono (e : Ex H H') : ∀ {v : V} {d : PyData}, Dn K H v d → Dn K H' v d
  | _, _, .non => .non
  | _, _, .bl b => .bl b
  | _, _, .int i => .int i
  | _, _, .str x => .str x
  | _, _, .lst h r => .lst (e.l h) (dps_mono e r)
  | _, _, .tup h r => .tup (e.t h) (dps_mono e r)
  | _, _, .dct h r => .dct (e _ _ h) (dpk_mono e r)
theorem dps_mono (e : Ex H H') : ∀ {vs : List V} {ds : List PyData}, DnAll K H vs ds → DnAll K H' vs ds
  | _, _, .nil => .nil
  | _, _, .cons h r => .cons (dp_mono e h) (dps_mono e r)
theorem dpk_mono (e : Ex H H') : ∀ {vs : List (Key × V)} {ds : List (PyData × PyData)}, DnKv K H vs ds → DnKv K H' vs ds
  | _, _, .nil => .nil
  | _, _, .cons h r => .cons (dp_mono e h) (dpk_mono e r)
end
mutual
theorem Dn.dp : ∀ {v : V} {d : PyData}, Dn K H v d → d.canLay0 = true → Dp K H v d
  | _, _, .non, _ => .non
  | _, _, .bl b, _ => .bl b
  | _, _, .int i, _ => .int i
  | _, _, .str x, _ => .str x
  | _, _, .lst h r, c => .lst h (DnAll.dp r (by simpa [PyData.canLay0] using c))
  | _, _, .tup h r, c => .tup h (DnAll.dp r (by simpa [PyData.canLay0] using c))
  | _, _, .dct _ _, c => by simp [PyData.canLay0] at c
theorem DnAll.dp : ∀ {vs : List V} {ds : List PyData}, DnAll K H vs ds → PyData.canLayAll0 ds = true → DpAll K H vs ds
  | _, _, .nil, _ => .nil
  | _, _, .cons h r, c => by
    simp only [PyData.canLayAll0, Bool.and_eq_true] at c
    exact .cons (h.dp c.1) (DnAll.dp r c.2)
end
theorem DnAll.length : ∀ {vs : List V} {ds : List PyData}, DnAll K H vs ds → vs.length = ds.length
  | _, _, .nil => rfl
  | _, _, .cons _ r => by simp only [List.length_cons]; rw [DnAll.length r]
theorem DnAll.get : ∀ {vs : List V} {ds : List PyData} {i : Nat} {d : PyData}, DnAll K H vs ds → ds[i]? = some d → ∃ v, vs[i]? = some v ∧ Dn K H v d
  | _, _, _, _, .nil, e => by simp at e
  | _, _, 0, _, .cons h _, e => by simp at e; subst e; exact ⟨_, rfl, h⟩
  | _, _, i + 1, _, .cons _ r, e => by
    obtain ⟨v, h1, h2⟩ := DnAll.get (i := i) r (by simpa using e)
    exact ⟨v, by simpa using h1, h2⟩
theorem DnAll.getV : ∀ {vs : List V} {ds : List PyData} {i : Nat} {v : V}, DnAll K H vs ds → vs[i]? = some v → ∃ d, ds[i]? = some d ∧ Dn K H v d
  | _, _, _, _, .nil, e => by simp at e
  | _, _, 0, _, .cons h _, e => by simp at e; subst e; exact ⟨_, rfl, h⟩
  | _, _, i + 1, _, .cons _ r, e => by
    obtain ⟨v, h1, h2⟩ := DnAll.getV (i := i) r (by simpa using e)
    exact ⟨v, by simpa using h1, h2⟩
theorem DnAll.append : ∀ {vs ws : List V} {ds es : List PyData}, DnAll K H vs ds → DnAll K H ws es → DnAll K H (vs ++ ws) (ds ++ es)
  | _, _, _, _, .nil, s => s
  | _, _, _, _, .cons h r, s => .cons h (DnAll.append r s)
theorem DnAll.set : ∀ {vs : List V} {ds : List PyData} {v : V} {d : PyData} (i : Nat), DnAll K H vs ds → Dn K H v d → DnAll K H (vs.set i v) (ds.set i d)
  | _, _, _, _, _, .nil, _ => .nil
  | _, _, _, _, 0, .cons _ r, h => .cons h r
  | _, _, _, _, i + 1, .cons q r, h => .cons q (DnAll.set i r h)
theorem DnAll.eraseIdx : ∀ {vs : List V} {ds : List PyData} (i : Nat), DnAll K H vs ds → DnAll K H (vs.eraseIdx i) (ds.eraseIdx i)
  | _, _, _, .nil => .nil
  | _, _, 0, .cons _ r => r
  | _, _, i + 1, .cons q r => .cons q (DnAll.eraseIdx i r)
theorem DnAll.dropLast : ∀ {vs : List V} {ds : List PyData}, DnAll K H vs ds → DnAll K H vs.dropLast ds.dropLast
  | _, _, .nil => .nil
  | _, _, .cons _ .nil => .nil
  | _, _, .cons q (.cons q2 r) => .cons q (DnAll.dropLast (.cons q2 r))
theorem DnAll.take : ∀ {vs : List V} {ds : List PyData} (n : Nat), DnAll K H vs ds → DnAll K H (vs.take n) (ds.take n)
  | _, _, 0, _ => .nil
  | _, _, _ + 1, .nil => .nil
  | _, _, n + 1, .cons h r => .cons h (DnAll.take n r)
theorem DnAll.drop : ∀ {vs : List V} {ds : List PyData} (n : Nat), DnAll K H vs ds → DnAll K H (vs.drop n) (ds.drop n)
  | _, _, 0, r => r
  | _, _, _ + 1, .nil => .nil
  | _, _, n + 1, .cons _ r => DnAll.drop n r
theorem DnAll.reverse : ∀ {vs : List V} {ds : List PyData}, DnAll K H vs ds → DnAll K H vs.reverse ds.reverse
  | _, _, .nil => .nil
  | _, _, .cons h r => by
    rw [List.reverse_cons, List.reverse_cons]
    exact (DnAll.reverse r).append (.cons h .nil)
theorem DnAll.rep {vs : List V} {ds : List PyData} (h : DnAll K H vs ds) : ∀ n : Nat, DnAll K H (List.replicate n vs).flatten (List.replicate n ds).flatten
  | 0 => .nil
  | n + 1 => by
    rw [List.replicate_succ, List.replicate_succ, List.flatten_cons, List.flatten_cons]
    exact h.append (DnAll.rep h n)
theorem DnAll.ints : ∀ {vs : List V} {ns : List Int}, DnAll K H vs (ns.map PyData.int) → vs = ns.map V.int
  | _, [], .nil => rfl
  | _, n :: ns, .cons h r => by cases h; rw [DnAll.ints r]; rfl
theorem DnAll.of_ints : ∀ (ns : List Int), DnAll K H (ns.map V.int) (ns.map PyData.int)
  | [] => .nil
  | n :: ns => .cons (.int n) (DnAll.of_ints ns)
theorem DnAll.bls : ∀ {vs : List V} {bs : List Bool}, DnAll K H vs (bs.map PyData.bool) → vs = bs.map V.bl
  | _, [], .nil => rfl
  | _, n :: ns, .cons h r => by cases h; rw [DnAll.bls r]; rfl
theorem DnAll.strs : ∀ {vs : List V} {bs : List Str}, DnAll K H vs (bs.map PyData.str) → vs = bs.map V.str
  | _, [], .nil => rfl
  | _, n :: ns, .cons h r => by cases h; rw [DnAll.strs r]; rfl
end

/-! ### slots -/
/-- an object owned by the def that runs: a list, a dict -/
inductive O where
  | lst (xs : List D)
  | dct (t : Bool) (kvs : List (D × D))
inductive Sl where
  | un
  | d (x : D)
  /-- owned; fix: a parameter's object, lent by the caller -/
  | ow (fix : Bool) (o : O)
  /-- a def of the module -/
  | fn (x : Str)
abbrev Env := List Sl

/-- an owned dict's entries: keys ints and texts, or tuples of them -/
inductive KvI (K : PySem.W.Frag) (F : Hp) : List (Key × V) → List (D × D) → Prop
  | nil : KvI K F [] []
  | cons {k : Key} {v : V} {d : D} {ks : List (Key × V)} {ds : List (D × D)} : Dn K F v d → KvI K F ks ds → KvI K F ((k, v) :: ks) ((keyD k, d) :: ds)
inductive KvT (K : PySem.W.Frag) (F : Hp) : List (List Key × V) → List (D × D) → Prop
  | nil : KvT K F [] []
  | cons {k : List Key} {v : V} {d : D} {ks : List (List Key × V)} {ds : List (D × D)} : Dn K F v d → KvT K F ks ds → KvT K F ((k, v) :: ks) ((.tuple (k.map keyD), d) :: ds)
theorem KvI.mono {K : PySem.W.Frag} {F F' : Hp} (e : Ex F F') : ∀ {ks ds}, KvI K F ks ds → KvI K F' ks ds
  | _, _, .nil => .nil
  | _, _, .cons h r => .cons (dp_mono e h) (KvI.mono e r)
theorem KvT.mono {K : PySem.W.Frag} {F F' : Hp} (e : Ex F F') : ∀ {ks ds}, KvT K F ks ds → KvT K F' ks ds
  | _, _, .nil => .nil
  | _, _, .cons h r => .cons (dp_mono e h) (KvT.mono e r)

/-- the owned object o is the value v, at the addresses A -/
def Ow (K : PySem.W.Frag) (F H : Hp) : O → V → List Addr → Prop
  | .lst xs, v, A => ∃ a vs, v = .ref a ∧ A = [a] ∧ H a = some (.lst vs) ∧ DnAll K F vs xs
  | .dct t kvs, v, A => ∃ a, v = .ref a ∧ A = [a] ∧ ((t = false ∧ ∃ ks, H a = some (.dK ks) ∧ KvI K F ks kvs) ∨ (t = true ∧ ∃ ks, H a = some (.dT ks) ∧ KvT K F ks kvs))
theorem Ow.mono {K : PySem.W.Frag} {F F' H H' : Hp} {o : O} {v : V} {A : List Addr} (e : Ex F F') (k : ∀ a ∈ A, ∀ u, H a = some u → H' a = some u) (h : Ow K F H o v A) : Ow K F' H' o v A := by
  cases o with
  | lst xs =>
    obtain ⟨a, vs, rfl, rfl, h1, h2⟩ := h
    exact ⟨a, vs, rfl, rfl, k a (by simp) _ h1, dps_mono e h2⟩
  | dct t kvs =>
    obtain ⟨a, rfl, rfl, h | h⟩ := h
    · obtain ⟨ht, ks, h1, h2⟩ := h
      exact ⟨a, rfl, rfl, .inl ⟨ht, ks, k a (by simp) _ h1, h2.mono e⟩⟩
    · obtain ⟨ht, ks, h1, h2⟩ := h
      exact ⟨a, rfl, rfl, .inr ⟨ht, ks, k a (by simp) _ h1, h2.mono e⟩⟩
theorem Ow.there {K : PySem.W.Frag} {F H : Hp} {o : O} {v : V} {A : List Addr} (h : Ow K F H o v A) : ∀ a ∈ A, H a ≠ none := by
  cases o with
  | lst xs =>
    obtain ⟨a, vs, rfl, rfl, h1, h2⟩ := h
    intro b hb
    have e : b = a := by simpa using hb
    subst e
    rw [h1]; simp
  | dct t kvs =>
    obtain ⟨a, rfl, rfl, h | h⟩ := h
    all_goals
      obtain ⟨_, ks, h1, h2⟩ := h
      intro b hb
      have e : b = a := by simpa using hb
      subst e
      rw [h1]; simp
theorem Ow.inj {K K' : PySem.W.Frag} {F F' H H' : Hp} {o o' : O} {v : V} {A A' : List Addr} (h : Ow K F H o v A) (h' : Ow K' F' H' o' v A') : A = A' := by
  have one : ∀ {K : PySem.W.Frag} {F H : Hp} {o : O} {v : V} {A : List Addr}, Ow K F H o v A → ∃ a, v = .ref a ∧ A = [a] := fun {K F H o v A} h => by
    cases o with
    | lst xs => obtain ⟨a, vs, rfl, rfl, _⟩ := h; exact ⟨a, rfl, rfl⟩
    | dct _ xs => obtain ⟨a, rfl, rfl, _⟩ := h; exact ⟨a, rfl, rfl⟩
  obtain ⟨a, e1, e2⟩ := one h
  obtain ⟨b, e3, e4⟩ := one h'
  rw [e1] at e3; cases e3
  rw [e2, e4]

/-- the state: the data's heap, the whole heap, what the slots own -/
structure Sn where
  F : Hp
  H : Hp
  own : Addr → Prop

/-- from one state to a later one -/
structure Step (S S' : Sn) : Prop where
  ex : Ex S.F S'.F
  frm : ∀ a o, S.H a = some o → ¬ S.own a → S'.H a = some o
  per : ∀ a, S.H a ≠ none → S'.H a ≠ none
  gro : ∀ a, S'.F a ≠ none → S.F a ≠ none ∨ S.H a = none ∨ S.own a
  org : ∀ a, S'.own a → S.own a ∨ S.H a = none
theorem Step.refl (S : Sn) : Step S S := ⟨Ex.refl _, fun _ _ h _ => h, fun _ h => h, fun _ h => .inl h, fun _ h => .inl h⟩
theorem Step.trans {S S1 S2 : Sn} (a : Step S S1) (b : Step S1 S2) : Step S S2 := by
  have pern : ∀ x, S1.H x = none → S.H x = none := fun x h => by
    cases q : S.H x with
    | none => rfl
    | some o => exact absurd h (a.per x (by rw [q]; simp))
  refine ⟨a.ex.trans b.ex, fun x o h n => ?_, fun x h => b.per x (a.per x h), fun x h => ?_, fun x h => ?_⟩
  · refine b.frm x o (a.frm x o h n) fun q => ?_
    rcases a.org x q with q | q
    · exact n q
    · rw [h] at q; cases q
  · rcases b.gro x h with q | q | q
    · exact a.gro x q
    · exact .inr (.inl (pern x q))
    · rcases a.org x q with q | q
      · exact .inr (.inr q)
      · exact .inr (.inl q)
  · rcases b.org x h with q | q
    · exact a.org x q
    · exact .inr (pern x q)

/-- one slot -/
def SlOk (K : PySem.W.Frag) (mg : Str → Option Value) (par : Nat → Option V) (S : Sn) (i : Nat) (ov : Option (Option V)) (A : List Addr) : Sl → Prop
  | .un => A = []
  | .d x => A = [] ∧ ∃ v, ov = some (some v) ∧ Dn K S.F v x
  | .ow fix o => ∃ v, ov = some (some v) ∧ Ow K S.F S.H o v A ∧ (fix = true → par i = some v)
  | .fn x => A = [] ∧ ∃ f, ov = some (some (.ref f)) ∧ mg x = some (.ref f)

structure Rl (K : PySem.W.Frag) (mg : Str → Option Value) (par : Nat → Option V) (ρ : Env) (σ : L2.St) (S : Sn) : Prop where
  ext : Ex S.F S.H
  len : σ.length = ρ.length
  avo : ∀ a, S.own a → S.F a = none
  slots : ∃ As : Nat → List Addr, (∀ i s, ρ[i]? = some s → SlOk K mg par S i σ[i]? (As i) s) ∧ (∀ i, ρ[i]? = none → As i = []) ∧ (∀ i j a, a ∈ As i → a ∈ As j → i = j) ∧ ∀ a, S.own a ↔ ∃ i, a ∈ As i

section
variable {K : PySem.W.Frag} {mg : Str → Option Value} {par : Nat → Option V} {ρ : Env} {σ : L2.St} {S S' : Sn}
theorem SlOk.mono {i : Nat} {ov : Option (Option V)} {A : List Addr} {s : Sl} (e : Ex S.F S'.F) (k : ∀ a ∈ A, ∀ u, S.H a = some u → S'.H a = some u) (h : SlOk K mg par S i ov A s) : SlOk K mg par S' i ov A s := by
  cases s with
  | un => exact h
  | d x => obtain ⟨h1, v, h2, h3⟩ := h; exact ⟨h1, v, h2, dp_mono e h3⟩
  | ow fix o => obtain ⟨v, h1, h2, h3⟩ := h; exact ⟨v, h1, h2.mono e k, h3⟩
  | fn x => exact h
/-- the data's heap and the whole heap grow -/
theorem Rl.grow (r : Rl K mg par ρ σ S) {F' H' : Hp} (eF : Ex S.F F') (eH : Ex S.H H') (e : Ex F' H') (n : ∀ a, F' a ≠ none → S.F a ≠ none ∨ S.H a = none) : Rl K mg par ρ σ ⟨F', H', S.own⟩ ∧ Step S ⟨F', H', S.own⟩ := by
  obtain ⟨As, h1, h2, h3, h4⟩ := r.slots
  have there : ∀ a, S.own a → S.H a ≠ none := fun a ha => by
    obtain ⟨i, hi⟩ := (h4 a).mp ha
    cases q : ρ[i]? with
    | none => rw [h2 i q] at hi; cases hi
    | some s =>
      have z := h1 i s q
      cases s with
      | un => rw [show As i = [] from z] at hi; cases hi
      | d x => rw [z.1] at hi; cases hi
      | ow fix o => obtain ⟨v, _, w, _⟩ := z; exact w.there a hi
      | fn x => rw [z.1] at hi; cases hi
  refine ⟨⟨e, r.len, fun a ha => ?_, As, fun i s q => (h1 i s q).mono eF fun a _ u => eH a u, h2, h3, h4⟩, ⟨eF, fun a o h _ => eH a o h, fun a h => ?_, fun a h => ?_, fun a h => .inl h⟩⟩
  · show F' a = none
    cases q : F' a with
    | none => rfl
    | some u =>
      rcases n a (by rw [q]; simp) with z | z
      · exact absurd (r.avo a ha) z
      · exact absurd z (there a ha)
  · cases q : S.H a with
    | none => exact absurd q h
    | some o => show H' a ≠ none; rw [eH a o q]; simp
  · rcases n a h with z | z
    · exact .inl z
    · exact .inr (.inl z)
theorem Rl.there (r : Rl K mg par ρ σ S) : ∀ a, S.own a → S.H a ≠ none := fun a ha => by
  obtain ⟨As, h1, h2, h3, h4⟩ := r.slots
  obtain ⟨i, hi⟩ := (h4 a).mp ha
  cases q : ρ[i]? with
  | none => rw [h2 i q] at hi; cases hi
  | some s =>
    have z := h1 i s q
    cases s with
    | un => rw [show As i = [] from z] at hi; cases hi
    | d x => rw [z.1] at hi; cases hi
    | ow fix o => obtain ⟨v, _, w, _⟩ := z; exact w.there a hi
    | fn x => rw [z.1] at hi; cases hi
/-- a new object, data from the start -/
theorem Rl.newF (r : Rl K mg par ρ σ S) {p : Addr} {o : HO} (hp : S.H p = none) : Rl K mg par ρ σ ⟨upd S.F p o, upd S.H p o, S.own⟩ ∧ Step S ⟨upd S.F p o, upd S.H p o, S.own⟩ := by
  refine r.grow (Ex.new (r.ext.free hp)) (Ex.new hp) (fun a u h => ?_) fun a h => ?_
  · by_cases e : a = p
    · subst e; rw [upd_same] at h ⊢; exact h
    · rw [upd_ne e] at h ⊢; exact r.ext a u h
  · by_cases e : a = p
    · subst e; exact .inr hp
    · rw [upd_ne e] at h; exact .inl h
/-- a new object, not yet data and owned by no slot -/
theorem Rl.newH (r : Rl K mg par ρ σ S) {p : Addr} {o : HO} (hp : S.H p = none) : Rl K mg par ρ σ ⟨S.F, upd S.H p o, S.own⟩ ∧ Step S ⟨S.F, upd S.H p o, S.own⟩ :=
  r.grow (Ex.refl _) (Ex.new hp) (fun a u h => by rw [upd_ne (ne_of_none (r.ext a u h) hp)]; exact r.ext a u h) fun a h => .inl h
/-- an object that no slot owns and that is no data, changed; or made data -/
theorem Rl.chg (r : Rl K mg par ρ σ S) {p : Addr} {o : HO} (hp : S.H p ≠ none) (hF : S.F p = none) (ho : ¬ S.own p) : Rl K mg par ρ σ ⟨S.F, upd S.H p o, S.own⟩ := by
  obtain ⟨As, h1, h2, h3, h4⟩ := r.slots
  refine ⟨fun a u h => ?_, r.len, r.avo, As, fun i s q => SlOk.mono (S := S) (S' := ⟨S.F, upd S.H p o, S.own⟩) (Ex.refl _) (fun a ha u hu => ?_) (h1 i s q), h2, h3, h4⟩
  · show upd S.H p o a = some u
    rw [upd_ne (ne_of_none h hF)]; exact r.ext a u h
  · show upd S.H p o a = some u
    rw [upd_ne (fun e => ho (by rw [← e]; exact (h4 a).mpr ⟨i, ha⟩))]; exact hu
theorem Rl.free (r : Rl K mg par ρ σ S) {p : Addr} {o : HO} (hp : S.H p = some o) (ho : ¬ S.own p) : Rl K mg par ρ σ ⟨upd S.F p o, S.H, S.own⟩ := by
  obtain ⟨As, h1, h2, h3, h4⟩ := r.slots
  have eF : Ex S.F (upd S.F p o) := fun a u h => by
    by_cases e : a = p
    · subst e
      rw [upd_same, ← hp]
      exact r.ext _ u h
    · rw [upd_ne e]; exact h
  refine ⟨fun a u h => ?_, r.len, fun a ha => ?_, As, fun i s q => SlOk.mono (S := S) (S' := ⟨upd S.F p o, S.H, S.own⟩) eF (fun a ha u hu => hu) (h1 i s q), h2, h3, h4⟩
  · show S.H a = some u
    have h : upd S.F p o a = some u := h
    by_cases e : a = p
    · subst e; rw [upd_same] at h; rw [hp]; exact h
    · rw [upd_ne e] at h; exact r.ext a u h
  · show upd S.F p o a = none
    rw [upd_ne (fun e => ho (by rw [← e]; exact ha))]; exact r.avo a ha
end

/-- a new owned value that stands beside the slots -/
structure Nw (K : PySem.W.Frag) (S S' : Sn) (o : O) (v : V) (A : List Addr) : Prop where
  ow : Ow K S'.F S'.H o v A
  nown : ∀ a ∈ A, ¬ S'.own a
  nF : ∀ a ∈ A, S'.F a = none
  org : ∀ a ∈ A, S.own a ∨ S.H a = none
end G

set_option Elab.async false
set_option linter.all false
set_option maxRecDepth 100000
set_option maxHeartbeats 4000000
namespace G
open PySem PySem.Spec PyProof.Rows L2

/-! ### slots changed -/
section
variable {K : PySem.W.Frag} {mg : Str → Option Value} {par : Nat → Option V} {ρ : Env} {σ : L2.St} {S S' : Sn}
/-- slot i stored: what it is from now on, at the addresses A -/
theorem Rl.put (r : Rl K mg par ρ σ S) (i : Nat) {s : Sl} {v : V} {A : List Addr} {F1 : Hp} (eF : Ex S.F F1) (eH : Ex F1 S.H)
    (hs : ∀ own, SlOk K mg par ⟨F1, S.H, own⟩ i (some (some v)) A s)
    (hA : ∀ a ∈ A, F1 a = none ∧ (S.own a → ∃ s', ρ[i]? = some s' ∧ ∀ B, SlOk K mg par S i σ[i]? B s' → a ∈ B))
    (hF : ∀ a, F1 a ≠ none → S.F a ≠ none ∨ (∃ s', ρ[i]? = some s' ∧ ∀ B, SlOk K mg par S i σ[i]? B s' → a ∈ B) ∨ ¬ S.own a)
    (σ' : L2.St) (hσ : σ' = σ.set i (some v) ∨ (σ' = σ ∧ σ[i]? = some (some v))) :
    ∃ own', Rl K mg par (ρ.set i s) σ' ⟨F1, S.H, own'⟩ ∧ (∀ a, own' a → S.own a ∨ a ∈ A) ∧ (∀ a, own' a → F1 a = none) := by
  obtain ⟨As, h1, h2, h3, h4⟩ := r.slots
  refine ⟨fun a => (i < ρ.length ∧ a ∈ A) ∨ ∃ j, j ≠ i ∧ a ∈ As j, ⟨eH, ?_, ?_, fun j => if j = i then (if i < ρ.length then A else []) else As j, ?_, ?_, ?_, ?_⟩, ?_, ?_⟩
  · rcases hσ with e | ⟨e, _⟩ <;> rw [e] <;> simp [r.len]
  · rintro a (⟨_, ha⟩ | ⟨j, hj, ha⟩)
    · exact (hA a ha).1
    · show F1 a = none
      cases q : F1 a with
      | none => rfl
      | some u =>
        have own : S.own a := (h4 a).mpr ⟨j, ha⟩
        rcases hF a (by rw [q]; simp) with z | ⟨s', e, z⟩ | z
        · exact absurd (r.avo a own) z
        · exact absurd (h3 j i a ha (z (As i) (h1 i s' e))) hj
        · exact absurd own z
  · intro j s' e
    by_cases hj : j = i
    · subst hj
      have hl : j < ρ.length := by
        have := (List.getElem?_eq_some_iff.mp e).1
        simpa using this
      rw [List.getElem?_set_self hl] at e
      cases e
      show SlOk K mg par _ j σ'[j]? (if j = j then (if j < ρ.length then A else []) else As j) _
      rw [if_pos rfl, if_pos hl]
      rcases hσ with e | ⟨e, e2⟩
      · rw [e, List.getElem?_set_self (by rw [r.len]; exact hl)]
        exact hs _
      · rw [e, e2]
        exact hs _
    · rw [List.getElem?_set_ne (Ne.symm hj)] at e
      show SlOk K mg par _ j σ'[j]? (if j = i then (if i < ρ.length then A else []) else As j) _
      rw [if_neg hj]
      have e3 : σ'[j]? = σ[j]? := by
        rcases hσ with e | ⟨e, _⟩
        · rw [e, List.getElem?_set_ne (Ne.symm hj)]
        · rw [e]
      rw [e3]
      exact SlOk.mono (S := S) (S' := ⟨F1, S.H, _⟩) eF (fun a _ u h => h) (h1 j s' e)
  · intro j e
    have hl : ρ.length ≤ j := by
      have := List.getElem?_eq_none_iff.mp e
      simpa using this
    show (if j = i then (if i < ρ.length then A else []) else As j) = []
    by_cases hj : j = i
    · rw [if_pos hj, if_neg (by omega)]
    · rw [if_neg hj]
      exact h2 j (List.getElem?_eq_none_iff.mpr hl)
  · intro j k a hj hk
    by_cases e1 : j = i
    · by_cases e2 : k = i
      · rw [e1, e2]
      · simp only [e1, e2, if_true, if_false] at hj hk
        split at hj
        · rename_i hl
          obtain ⟨_, z⟩ := hA a hj
          obtain ⟨s', e, z⟩ := z ((h4 a).mpr ⟨k, hk⟩)
          exact absurd (h3 k i a hk (z (As i) (h1 i s' e))) e2
        · cases hj
    · by_cases e2 : k = i
      · simp only [e1, e2, if_true, if_false] at hj hk
        split at hk
        · obtain ⟨_, z⟩ := hA a hk
          obtain ⟨s', e, z⟩ := z ((h4 a).mpr ⟨j, hj⟩)
          exact absurd (h3 j i a hj (z (As i) (h1 i s' e))) e1
        · cases hk
      · simp only [e1, e2, if_false] at hj hk
        exact h3 j k a hj hk
  · intro a
    constructor
    · rintro (⟨hl, ha⟩ | ⟨j, hj, ha⟩)
      · exact ⟨i, by show a ∈ (if i = i then (if i < ρ.length then A else []) else As i); rw [if_pos rfl, if_pos hl]; exact ha⟩
      · exact ⟨j, by show a ∈ (if j = i then (if i < ρ.length then A else []) else As j); rw [if_neg hj]; exact ha⟩
    · rintro ⟨j, hj⟩
      have hj : a ∈ (if j = i then (if i < ρ.length then A else []) else As j) := hj
      by_cases e : j = i
      · rw [if_pos e] at hj
        split at hj
        · exact .inl ⟨by assumption, hj⟩
        · cases hj
      · rw [if_neg e] at hj
        exact .inr ⟨j, e, hj⟩
  · rintro a (⟨_, ha⟩ | ⟨j, hj, ha⟩)
    · exact .inr ha
    · exact .inl ((h4 a).mpr ⟨j, ha⟩)
  · rintro a (⟨_, ha⟩ | ⟨j, hj, ha⟩)
    · exact (hA a ha).1
    · cases q : F1 a with
      | none => rfl
      | some u =>
        have own : S.own a := (h4 a).mpr ⟨j, ha⟩
        rcases hF a (by rw [q]; simp) with z | ⟨s', e, z⟩ | z
        · exact absurd (r.avo a own) z
        · exact absurd (h3 j i a ha (z (As i) (h1 i s' e))) hj
        · exact absurd own z
/-- data into a slot -/
theorem Rl.putD (r : Rl K mg par ρ σ S) (i : Nat) {x : D} {v : V} (h : Dn K S.F v x) :
    ∃ S', Rl K mg par (ρ.set i (.d x)) (σ.set i (some v)) S' ∧ Step S S' ∧ S'.H = S.H ∧ S'.F = S.F := by
  obtain ⟨own', r', h1, _⟩ := r.put i (s := .d x) (v := v) (A := []) (Ex.refl _) r.ext (fun _ => ⟨rfl, v, rfl, h⟩) (fun a ha => nomatch ha) (fun a h => .inl h) _ (.inl rfl)
  exact ⟨_, r', ⟨Ex.refl _, fun a o h _ => h, fun a h => h, fun a h => .inl h, fun a h => (h1 a h).elim .inl (fun z => nomatch z)⟩, rfl, rfl⟩
/-- an own object into a slot -/
theorem Rl.putO (r : Rl K mg par ρ σ S') (i : Nat) {o : O} {v : V} {A : List Addr} (h : Nw K S S' o v A) (st : Step S S') :
    ∃ S2, Rl K mg par (ρ.set i (.ow false o)) (σ.set i (some v)) S2 ∧ Step S S2 ∧ S2.H = S'.H ∧ S2.F = S'.F := by
  obtain ⟨own', r', h1, h2⟩ := r.put i (s := .ow false o) (v := v) (A := A) (Ex.refl _) r.ext (fun _ => ⟨v, rfl, h.ow, fun z => nomatch z⟩) (fun a ha => ⟨h.nF a ha, fun z => absurd z (h.nown a ha)⟩) (fun a h => .inl h) _ (.inl rfl)
  exact ⟨_, r', ⟨st.ex, st.frm, st.per, st.gro, fun a ha => (h1 a ha).elim (st.org a) (h.org a)⟩, rfl, rfl⟩
/-- an owned list becomes data -/
theorem Rl.frz (r : Rl K mg par ρ σ S) {i : Nat} {xs : List D} (e : ρ[i]? = some (.ow false (.lst xs))) :
    ∃ S' v, Rl K mg par (ρ.set i (.d (.list xs))) σ S' ∧ Step S S' ∧ S'.H = S.H ∧ σ[i]? = some (some v) ∧ Dn K S'.F v (.list xs) := by
  obtain ⟨As, h1, h2, h3, h4⟩ := r.slots
  obtain ⟨v, hv, ho, _⟩ := h1 i _ e
  obtain ⟨a, vs, e1, e2, e3, e4⟩ := id ho
  have ow : S.own a := (h4 a).mpr ⟨i, by rw [e2]; simp⟩
  have eF : Ex S.F (upd S.F a (.lst vs)) := fun b u hb => by rw [upd_ne (ne_of_none hb (r.avo a ow))]; exact hb
  have eH : Ex (upd S.F a (.lst vs)) S.H := fun b u hb => by
    by_cases q : b = a
    · subst q; rw [upd_same] at hb; rw [e3]; exact hb
    · rw [upd_ne q] at hb; exact r.ext b u hb
  have dp : Dn K (upd S.F a (.lst vs)) v (.list xs) := by
    rw [e1]
    exact .lst (SqL.of upd_same) (dps_mono eF e4)
  have gF : ∀ b, (upd S.F a (.lst vs)) b ≠ none → S.F b ≠ none ∨ b = a := fun b hb => by
    by_cases q : b = a
    · exact .inr q
    · rw [upd_ne q] at hb; exact .inl hb
  obtain ⟨own', r', k1, k2⟩ := r.put i (s := .d (.list xs)) (v := v) (A := []) eF eH (fun _ => ⟨rfl, v, rfl, dp⟩) (fun b hb => nomatch hb)
    (fun b hb => (gF b hb).elim .inl fun q => .inr (.inl ⟨_, e, fun B hB => by
      obtain ⟨v', hv', ho', _⟩ := hB
      rw [hv] at hv'
      cases hv'
      obtain ⟨a', vs', z1, z2, _⟩ := ho'
      rw [e1] at z1
      cases z1
      rw [z2, q]
      simp⟩)) σ (.inr ⟨rfl, hv⟩)
  refine ⟨_, v, r', ⟨eF, fun b o h _ => h, fun b h => h, fun b h => (gF b h).elim .inl fun q => .inr (.inr (by rw [q]; exact ow)), fun b h => (k1 b h).elim .inl fun z => nomatch z⟩, rfl, hv, dp⟩
/-- what a slot holds -/
theorem Rl.getD (r : Rl K mg par ρ σ S) {i : Nat} {x : D} (e : ρ[i]? = some (.d x)) : ∃ v, σ[i]? = some (some v) ∧ Dn K S.F v x := by
  obtain ⟨As, h1, _⟩ := r.slots
  exact (h1 i _ e).2
theorem Rl.getO (r : Rl K mg par ρ σ S) {i : Nat} {fix : Bool} {o : O} (e : ρ[i]? = some (.ow fix o)) : ∃ v A, σ[i]? = some (some v) ∧ Ow K S.F S.H o v A ∧ (fix = true → par i = some v) ∧ (∀ a ∈ A, S.own a) := by
  obtain ⟨As, h1, _, _, h4⟩ := r.slots
  obtain ⟨v, h2, h3, h5⟩ := h1 i _ e
  exact ⟨v, _, h2, h3, h5, fun a ha => (h4 a).mpr ⟨i, ha⟩⟩
/-- an owned object of one address, changed -/
theorem Rl.updO (r : Rl K mg par ρ σ S) {i : Nat} {fix : Bool} {o o' : O} {a : Addr} {u : HO} (e : ρ[i]? = some (.ow fix o)) (hv : σ[i]? = some (some (.ref a)))
    (h : Ow K S.F (upd S.H a u) o' (.ref a) [a]) : ∃ S', Rl K mg par (ρ.set i (.ow fix o')) σ S' ∧ Step S S' ∧ S'.H = upd S.H a u ∧ S'.F = S.F := by
  obtain ⟨As, h1, h2, h3, h4⟩ := r.slots
  obtain ⟨v, hv', ho, hp⟩ := h1 i _ e
  rw [hv] at hv'
  cases hv'
  have eA : As i = [a] := ho.inj h
  have ow : S.own a := (h4 a).mpr ⟨i, by rw [eA]; simp⟩
  have na : S.F a = none := r.avo a ow
  have hl : i < ρ.length := (List.getElem?_eq_some_iff.mp e).1
  refine ⟨⟨S.F, upd S.H a u, S.own⟩, ⟨fun b w hb => ?_, by rw [List.length_set]; exact r.len, r.avo, As, fun j s q => ?_, fun j q => ?_, h3, h4⟩, ⟨Ex.refl _, fun b w hb n => ?_, fun b hb => ?_, fun b hb => .inl hb, fun b hb => .inl hb⟩, rfl, rfl⟩
  · show upd S.H a u b = some w
    rw [upd_ne (ne_of_none hb na)]; exact r.ext b w hb
  · by_cases hj : j = i
    · subst hj
      rw [List.getElem?_set_self hl] at q
      cases q
      exact ⟨_, hv, by rw [eA]; exact h, hp⟩
    · rw [List.getElem?_set_ne (Ne.symm hj)] at q
      refine SlOk.mono (S := S) (S' := ⟨S.F, upd S.H a u, S.own⟩) (Ex.refl _) (fun b hb w hw => ?_) (h1 j s q)
      show upd S.H a u b = some w
      rw [upd_ne]; exact hw
      intro z
      subst z
      exact hj (h3 j i b hb (by rw [eA]; simp))
  · refine h2 j (List.getElem?_eq_none_iff.mpr ?_)
    have := List.getElem?_eq_none_iff.mp q
    simpa using this
  · show upd S.H a u b = some w
    rw [upd_ne (fun z => n (by rw [z]; exact ow))]; exact hb
  · show upd S.H a u b ≠ none
    by_cases z : b = a
    · rw [z, upd_same]; simp
    · rw [upd_ne z]; exact hb
/-- a new owned value made data -/
theorem Rl.nwF (r : Rl K mg par ρ σ S') {xs : List D} {v : V} {A : List Addr} (h : Nw K S S' (.lst xs) v A) (st : Step S S') :
    ∃ S2, Rl K mg par ρ σ S2 ∧ Step S S2 ∧ S2.H = S'.H ∧ Dn K S2.F v (.list xs) := by
  obtain ⟨a, vs, e1, e2, e3, e4⟩ := h.ow
  have ha : a ∈ A := by rw [e2]; simp
  have r2 := r.free e3 (h.nown a ha)
  have eF : Ex S'.F (upd S'.F a (.lst vs)) := fun b u hb => by rw [upd_ne (ne_of_none hb (h.nF a ha))]; exact hb
  refine ⟨_, r2, ⟨st.ex.trans eF, st.frm, st.per, fun b hb => ?_, st.org⟩, rfl, ?_⟩
  · have hb : upd S'.F a (.lst vs) b ≠ none := hb
    by_cases q : b = a
    · subst q
      rcases h.org b ha with z | z
      · exact .inr (.inr z)
      · exact .inr (.inl z)
    · rw [upd_ne q] at hb; exact st.gro b hb
  · rw [e1]
    exact .lst (SqL.of upd_same) (dps_mono eF e4)
end

/-! ### the context of a def's code -/
structure Ct where
  P : Program
  w : World
  K : PySem.W.Frag
  mg : Str → Option Value
  base : Heap
  N : List Str
  sc : Scope
  fnb : Str → Bool
  k : Nat
structure Ct.In (C : Ct) (X : Cx) : Prop where
  hP : X.prog = C.P
  hw : X.w = C.w
  hK : X.K = C.K
  hm : X.mg = C.mg
  hb : X.base = C.base
  hN : X.N = C.N
  hs : X.env.scope = C.sc
  calm : X.calm = true
  fn : ∀ x, C.fnb x = true → X.fn x = true
  room : Room C.k X.A
  po : PassesOwn (model X.prog X.w) X.A X.env X.xe

abbrev EF := Env → Option (D × Env)
abbrev OF := Env → Option (O × Env)
abbrev TF := Env → Option (Bool × Env)
section
variable (K : PySem.W.Frag) (mg : Str → Option Value)
def SndE (t : TE) (f : EF) : Prop := ∀ (par : Nat → Option V) (ρ : Env) (σ : L2.St) (S : Sn) (d : D) (ρ' : Env), Rl K mg par ρ σ S → f ρ = some (d, ρ') → ∀ Q : VK, (∀ S' v, Step S S' → Rl K mg par ρ' σ S' → Dn K S'.F v d → Q v S'.H) → t σ S.H Q
def SndO (t : TE) (f : OF) : Prop := ∀ (par : Nat → Option V) (ρ : Env) (σ : L2.St) (S : Sn) (o : O) (ρ' : Env), Rl K mg par ρ σ S → f ρ = some (o, ρ') → ∀ Q : VK, (∀ S' v A, Step S S' → Rl K mg par ρ' σ S' → Nw K S S' o v A → Q v S'.H) → t σ S.H Q
def SndT (t : TT) (f : TF) : Prop := ∀ (par : Nat → Option V) (ρ : Env) (σ : L2.St) (S : Sn) (b : Bool) (ρ' : Env), Rl K mg par ρ σ S → f ρ = some (b, ρ') → ∀ Q : Bool → Hp → Prop, (∀ S', Step S S' → Rl K mg par ρ' σ S' → Q b S'.H) → t σ S.H Q
/-- written arguments: data each -/
def SndL (t : TA) (f : Env → Option (List D × Env)) : Prop := ∀ (par : Nat → Option V) (ρ : Env) (σ : L2.St) (S : Sn) (ds : List D) (ρ' : Env), Rl K mg par ρ σ S → f ρ = some (ds, ρ') → ∀ Q : List V → Hp → Prop, (∀ S' vs, Step S S' → Rl K mg par ρ' σ S' → DnAll K S'.F vs ds → Q vs S'.H) → t σ S.H Q
end
def PDF (C : Ct) (e : Expr) (f : EF) : Prop := ∃ t, (∀ X, C.In X → PE X e t) ∧ SndE C.K C.mg t f
def POF (C : Ct) (e : Expr) (f : OF) : Prop := ∃ t, (∀ X, C.In X → PE X e t) ∧ SndO C.K C.mg t f
def PTF (C : Ct) (e : Expr) (f : TF) : Prop := ∃ t, (∀ X, C.In X → PT X e t) ∧ SndT C.K C.mg t f
def PWF (C : Ct) (e : Expr) (f : TF) : Prop := ∃ t, (∀ X, C.In X → PW X e t) ∧ SndT C.K C.mg t f
def PLF (C : Ct) (es : List Expr) (f : Env → Option (List D × Env)) : Prop := ∃ t, (∀ X, C.In X → PA X es t) ∧ SndL C.K C.mg t f

/-! ### what allocates only -/
structure Gr (F H F' H' : Hp) : Prop where
  eF : Ex F F'
  eH : Ex H H'
  e : Ex F' H'
  n : ∀ a, F' a ≠ none → F a ≠ none ∨ H a = none
theorem Gr.refl {F H : Hp} (e : Ex F H) : Gr F H F H := ⟨Ex.refl _, Ex.refl _, e, fun _ h => .inl h⟩
theorem Gr.new {F H : Hp} (e : Ex F H) {p : Addr} {o : HO} (hp : H p = none) : Gr F H (upd F p o) (upd H p o) := by
  refine ⟨Ex.new (e.free hp), Ex.new hp, fun a u h => ?_, fun a h => ?_⟩
  · by_cases q : a = p
    · subst q; rw [upd_same] at h ⊢; exact h
    · rw [upd_ne q] at h ⊢; exact e a u h
  · by_cases q : a = p
    · subst q; exact .inr hp
    · rw [upd_ne q] at h; exact .inl h
section
variable {C : Ct} {a b c e : Expr} {pos : Pos} {fa fb fc : EF} {K : PySem.W.Frag} {mg : Str → Option Value}

/-- an operation on two values: what it gives as data -/
def R2Ok (K : PySem.W.Frag) (r : R2) (g : D → D → Option D) : Prop := ∀ (F H : Hp) (x y z : D) (vx vy : V), Ex F H → Dn K F vx x → Dn K F vy y → g x y = some z → ∀ Q : VK, (∀ F' H' v, Gr F H F' H' → Dn K F' v z → Q v H') → r vx vy H Q
def R2OkO (K : PySem.W.Frag) (r : R2) (g : D → D → Option O) : Prop := ∀ (F H : Hp) (x y : D) (z : O) (vx vy : V), Ex F H → Dn K F vx x → Dn K F vy y → g x y = some z → ∀ Q : VK, (∀ p u, H p = none → Ow K F (upd H p u) z (.ref p) [p] → Q (.ref p) (upd H p u)) → r vx vy H Q
def OpS (C : Ct) (f : Value → Value → Sem Value) (g : D → D → Option D) : Prop := ∃ r, (∀ X, C.In X → OpR X f r) ∧ R2Ok C.K r g
def opF (g : D → D → Option D) (fa fb : EF) : EF := fun ρ => match fa ρ with
  | none => none
  | some (x, ρ1) => match fb ρ1 with
    | none => none
    | some (y, ρ2) => match g x y with
      | none => none
      | some z => some (z, ρ2)
theorem snd_op {r : R2} {ta tb : TE} {g : D → D → Option D} (ha : SndE K mg ta fa) (hb : SndE K mg tb fb) (hr : R2Ok K r g) : SndE K mg (tOp r ta tb) (opF g fa fb) := by
  intro par ρ σ S d ρ' rl e Q q
  unfold opF at e
  split at e
  · cases e
  rename_i x ρ1 e1
  split at e
  · cases e
  rename_i y ρ2 e2
  split at e
  · cases e
  rename_i z e3
  cases e
  refine ha par ρ σ S x ρ1 rl e1 _ fun S1 vx st1 r1 d1 => ?_
  refine hb par ρ1 σ S1 y _ r1 e2 _ fun S2 vy st2 r2 d2 => ?_
  refine hr S2.F S2.H x y _ vx vy r2.ext (dp_mono st2.ex d1) d2 e3 Q fun F' H' v gr dv => ?_
  obtain ⟨r3, st3⟩ := r2.grow gr.eF gr.eH gr.e gr.n
  exact q _ v ((st1.trans st2).trans st3) r3 dv
theorem pd_bin {op : Operator} {g : D → D → Option D} (ho : OpS C (binaryOp op) g) (ha : PDF C a fa) (hb : PDF C b fb) : PDF C (.BinOp a op b pos) (opF g fa fb) := by
  obtain ⟨r, h1, h2⟩ := ho
  obtain ⟨ta, a1, a2⟩ := ha
  obtain ⟨tb, b1, b2⟩ := hb
  exact ⟨_, fun X i => pe_op (h1 X i) (a1 X i) (b1 X i), snd_op a2 b2 h2⟩
theorem pd_cmp {op : CmpOp} {g : D → D → Option D} (ho : OpS C (compareOp op) g) (ha : PDF C a fa) (hb : PDF C b fb) (hm : behindInMarks op b = false) : PDF C (.Compare a [op] [b] pos) (opF g fa fb) := by
  obtain ⟨r, h1, h2⟩ := ho
  obtain ⟨ta, a1, a2⟩ := ha
  obtain ⟨tb, b1, b2⟩ := hb
  exact ⟨_, fun X i => pe_cmpR (h1 X i) (a1 X i) (b1 X i) hm, snd_op a2 b2 h2⟩
/-- a value's truth, where it is a bool -/
def tsF (f : EF) : TF := fun ρ => match f ρ with
  | some (.bool b, ρ') => some (b, ρ')
  | _ => none
theorem snd_ts {t : TE} (h : SndE K mg t fa) : SndT K mg (tTest t) (tsF fa) := by
  intro par ρ σ S b ρ' rl e Q q
  unfold tsF at e
  split at e
  · rename_i b' ρ1 e1
    cases e
    refine h par ρ σ S _ _ rl e1 _ fun S1 v st r1 d1 => ?_
    cases d1
    exact ⟨_, rfl, q S1 st r1⟩
  · cases e
theorem pt_cmp' {op : CmpOp} {g : D → D → Option D} (ho : OpS C (compareOp op) g) (ha : PDF C a fa) (hb : PDF C b fb) (hm : behindInMarks op b = false) : PTF C (.Compare a [op] [b] pos) (tsF (opF g fa fb)) := by
  obtain ⟨r, h1, h2⟩ := ho
  obtain ⟨ta, a1, a2⟩ := ha
  obtain ⟨tb, b1, b2⟩ := hb
  exact ⟨_, fun X i => pt_cmpR (h1 X i) (a1 X i) (b1 X i) hm, snd_ts (snd_op a2 b2 h2)⟩
theorem pt_val' (h : PDF C e fa) (he : ∀ (env : PySem.Env) whole, isTrue e env whole = (do let v ← whole; standAt e.pos; holding [v] (truthy v)) := by intro _ _; rfl) : PTF C e (tsF fa) := by
  obtain ⟨t, h1, h2⟩ := h
  exact ⟨_, fun X i => pt_val (h1 X i) (he _), snd_ts h2⟩

/-! ### and, or, not, if -/
variable {ta' tb' tc' : TF} {rest : List Expr}
def andF (f g : TF) : TF := fun ρ => match f ρ with
  | none => none
  | some (true, ρ1) => g ρ1
  | some (false, ρ1) => some (false, ρ1)
def orF (f g : TF) : TF := fun ρ => match f ρ with
  | none => none
  | some (false, ρ1) => g ρ1
  | some (true, ρ1) => some (true, ρ1)
def notF (f : TF) : TF := fun ρ => match f ρ with
  | none => none
  | some (b, ρ1) => some (!b, ρ1)
def ifF (c : TF) (f g : EF) : EF := fun ρ => match c ρ with
  | none => none
  | some (true, ρ1) => f ρ1
  | some (false, ρ1) => g ρ1
theorem snd_and {t u : TT} {f g : TF} (h1 : SndT K mg t f) (h2 : SndT K mg u g) : SndT K mg (tAnd t u) (andF f g) := by
  intro par ρ σ S b ρ' rl e Q q
  unfold andF at e
  split at e
  · cases e
  · rename_i ρ1 e1
    refine h1 par ρ σ S _ _ rl e1 _ fun S1 st r1 => ?_
    show (if true = true then _ else _)
    rw [if_pos rfl]
    exact h2 par ρ1 σ S1 _ _ r1 e _ fun S2 st2 r2 => q S2 (st.trans st2) r2
  · rename_i ρ1 e1
    cases e
    refine h1 par ρ σ S _ _ rl e1 _ fun S1 st r1 => ?_
    exact q S1 st r1
theorem snd_or {t u : TT} {f g : TF} (h1 : SndT K mg t f) (h2 : SndT K mg u g) : SndT K mg (tOr t u) (orF f g) := by
  intro par ρ σ S b ρ' rl e Q q
  unfold orF at e
  split at e
  · cases e
  · rename_i ρ1 e1
    refine h1 par ρ σ S _ _ rl e1 _ fun S1 st r1 => ?_
    exact h2 par ρ1 σ S1 _ _ r1 e _ fun S2 st2 r2 => q S2 (st.trans st2) r2
  · rename_i ρ1 e1
    cases e
    refine h1 par ρ σ S _ _ rl e1 _ fun S1 st r1 => ?_
    show (if true = true then _ else _)
    rw [if_pos rfl]
    exact q S1 st r1
theorem snd_not {t : TT} {f : TF} (h1 : SndT K mg t f) : SndT K mg (tNot t) (notF f) := by
  intro par ρ σ S b ρ' rl e Q q
  unfold notF at e
  split at e
  · cases e
  · rename_i b1 ρ1 e1
    cases e
    exact h1 par ρ σ S _ _ rl e1 _ fun S1 st r1 => q S1 st r1
theorem pw_and1' (ha : PTF C a ta') : PWF C (.BoolOp .And [a] pos) ta' := by
  obtain ⟨t, h1, h2⟩ := ha
  exact ⟨t, fun X i => pw_and1 (h1 X i), h2⟩
theorem pw_or1' (ha : PTF C a ta') : PWF C (.BoolOp .Or [a] pos) ta' := by
  obtain ⟨t, h1, h2⟩ := ha
  exact ⟨t, fun X i => pw_or1 (h1 X i), h2⟩
theorem pw_and' (ha : PTF C a ta') (hb : PWF C (.BoolOp .And (b :: rest) pos) tb') : PWF C (.BoolOp .And (a :: b :: rest) pos) (andF ta' tb') := by
  obtain ⟨t, h1, h2⟩ := ha
  obtain ⟨u, k1, k2⟩ := hb
  exact ⟨_, fun X i => pw_and (h1 X i) (k1 X i), snd_and h2 k2⟩
theorem pw_or' (ha : PTF C a ta') (hb : PWF C (.BoolOp .Or (b :: rest) pos) tb') : PWF C (.BoolOp .Or (a :: b :: rest) pos) (orF ta' tb') := by
  obtain ⟨t, h1, h2⟩ := ha
  obtain ⟨u, k1, k2⟩ := hb
  exact ⟨_, fun X i => pw_or (h1 X i) (k1 X i), snd_or h2 k2⟩
theorem pt_w (h : PWF C e ta') : PTF C e ta' := by
  obtain ⟨t, h1, h2⟩ := h
  exact ⟨t, fun X i => (h1 X i).pt, h2⟩
theorem pt_not' (ha : PTF C a ta') : PTF C (.UnaryOp .Not a pos) (notF ta') := by
  obtain ⟨t, h1, h2⟩ := ha
  exact ⟨_, fun X i => pt_not (h1 X i), snd_not h2⟩
theorem pd_if (hc : PTF C c tc') (ha : PDF C a fa) (hb : PDF C b fb) : PDF C (.IfExp c a b pos) (ifF tc' fa fb) := by
  obtain ⟨t, h1, h2⟩ := hc
  obtain ⟨ta, a1, a2⟩ := ha
  obtain ⟨tb, b1, b2⟩ := hb
  refine ⟨_, fun X i => pe_ifExp (h1 X i) (a1 X i) (b1 X i), ?_⟩
  intro par ρ σ S d ρ' rl e Q q
  unfold ifF at e
  split at e
  · cases e
  · rename_i ρ1 e1
    refine h2 par ρ σ S _ _ rl e1 _ fun S1 st r1 => ?_
    show (if true = true then _ else _)
    rw [if_pos rfl]
    exact a2 par ρ1 σ S1 _ _ r1 e _ fun S2 v st2 r2 => q S2 v (st.trans st2) r2
  · rename_i ρ1 e1
    refine h2 par ρ σ S _ _ rl e1 _ fun S1 st r1 => ?_
    show (if false = true then _ else _)
    rw [if_neg Bool.false_ne_true]
    exact b2 par ρ1 σ S1 _ _ r1 e _ fun S2 v st2 r2 => q S2 v (st.trans st2) r2
/-- .. as values that are bools -/
def boolF (f : TF) : EF := fun ρ => match f ρ with
  | none => none
  | some (b, ρ1) => some (.bool b, ρ1)
/-- a value's reading that hands back a bool -/
def SndV (K : PySem.W.Frag) (mg : Str → Option Value) (t : TE) (f : TF) : Prop := ∀ (par : Nat → Option V) (ρ : Env) (σ : L2.St) (S : Sn) (b : Bool) (ρ' : Env), Rl K mg par ρ σ S → f ρ = some (b, ρ') → ∀ Q : VK, (∀ S', Step S S' → Rl K mg par ρ' σ S' → Q (.bl b) S'.H) → t σ S.H Q
def PVF (C : Ct) (e : Expr) (f : TF) : Prop := ∃ t, (∀ X, C.In X → PE X e t) ∧ SndV C.K C.mg t f
theorem pv_of (h : PDF C e fa) : PVF C e (tsF fa) := by
  obtain ⟨t, h1, h2⟩ := h
  refine ⟨t, h1, ?_⟩
  intro par ρ σ S b ρ' rl e Q q
  unfold tsF at e
  split at e
  · rename_i b' ρ1 e1
    cases e
    refine h2 par ρ σ S _ _ rl e1 _ fun S1 v st r1 d1 => ?_
    cases d1
    exact q S1 st r1
  · cases e
theorem pd_v (h : PVF C e ta') : PDF C e (boolF ta') := by
  obtain ⟨t, h1, h2⟩ := h
  refine ⟨t, h1, ?_⟩
  intro par ρ σ S d ρ' rl e Q q
  unfold boolF at e
  split at e
  · cases e
  · rename_i b ρ1 e1
    cases e
    exact h2 par ρ σ S _ _ rl e1 _ fun S1 st r1 => q S1 _ st r1 (.bl b)
theorem pv_one {op} (h : PVF C a ta') : PVF C (.BoolOp op [a] pos) ta' := by
  obtain ⟨t, h1, h2⟩ := h
  exact ⟨t, fun X i => pe_one (h1 X i), h2⟩
theorem pv_and (ha : PVF C a ta') (hb : PVF C (.BoolOp .And (b :: rest) pos) tb') : PVF C (.BoolOp .And (a :: b :: rest) pos) (andF ta' tb') := by
  obtain ⟨t, h1, h2⟩ := ha
  obtain ⟨u, k1, k2⟩ := hb
  refine ⟨_, fun X i => pe_and (h1 X i) (k1 X i), ?_⟩
  intro par ρ σ S b ρ' rl e Q q
  unfold andF at e
  split at e
  · cases e
  · rename_i ρ1 e1
    refine h2 par ρ σ S _ _ rl e1 _ fun S1 st r1 => ⟨true, rfl, ?_⟩
    rw [if_pos rfl]
    exact k2 par ρ1 σ S1 _ _ r1 e _ fun S2 st2 r2 => q S2 (st.trans st2) r2
  · rename_i ρ1 e1
    cases e
    refine h2 par ρ σ S _ _ rl e1 _ fun S1 st r1 => ⟨false, rfl, ?_⟩
    rw [if_neg Bool.false_ne_true]
    exact q S1 st r1
theorem pv_or (ha : PVF C a ta') (hb : PVF C (.BoolOp .Or (b :: rest) pos) tb') : PVF C (.BoolOp .Or (a :: b :: rest) pos) (orF ta' tb') := by
  obtain ⟨t, h1, h2⟩ := ha
  obtain ⟨u, k1, k2⟩ := hb
  refine ⟨_, fun X i => pe_or (h1 X i) (k1 X i), ?_⟩
  intro par ρ σ S b ρ' rl e Q q
  unfold orF at e
  split at e
  · cases e
  · rename_i ρ1 e1
    refine h2 par ρ σ S _ _ rl e1 _ fun S1 st r1 => ⟨false, rfl, ?_⟩
    rw [if_neg Bool.false_ne_true]
    exact k2 par ρ1 σ S1 _ _ r1 e _ fun S2 st2 r2 => q S2 (st.trans st2) r2
  · rename_i ρ1 e1
    cases e
    refine h2 par ρ σ S _ _ rl e1 _ fun S1 st r1 => ⟨true, rfl, ?_⟩
    rw [if_pos rfl]
    exact q S1 st r1
theorem pv_not (ha : PVF C a ta') : PVF C (.UnaryOp .Not a pos) (notF ta') := by
  obtain ⟨t, h1, h2⟩ := ha
  refine ⟨_, fun X i => pe_not (h1 X i), ?_⟩
  intro par ρ σ S b ρ' rl e Q q
  unfold notF at e
  split at e
  · cases e
  · rename_i b1 ρ1 e1
    cases e
    exact h2 par ρ σ S _ _ rl e1 _ fun S1 st r1 => ⟨b1, rfl, q S1 st r1⟩
/-- a op1 b op2 c -/
def chF (g g' : D → D → Option D) (fa fb fc : EF) : EF := fun ρ => match fa ρ with
  | none => none
  | some (x, ρ1) => match fb ρ1 with
    | none => none
    | some (y, ρ2) => match g x y with
      | some (.bool true) => (match fc ρ2 with
        | none => none
        | some (z, ρ3) => match g' y z with
          | none => none
          | some w => some (w, ρ3))
      | some (.bool false) => some (.bool false, ρ2)
      | _ => none
theorem snd_ch {r r' : R2} {ta tb tc : TE} {g g' : D → D → Option D} (ha : SndE K mg ta fa) (hb : SndE K mg tb fb) (hc : SndE K mg tc fc) (hr : R2Ok K r g) (hr' : R2Ok K r' g') : SndE K mg (tChain r r' ta tb tc) (chF g g' fa fb fc) := by
  intro par ρ σ S d ρ' rl e Q q
  unfold chF at e
  split at e
  · cases e
  rename_i x ρ1 e1
  split at e
  · cases e
  rename_i y ρ2 e2
  refine ha par ρ σ S x ρ1 rl e1 _ fun S1 vx st1 r1 d1 => ?_
  refine hb par ρ1 σ S1 y _ r1 e2 _ fun S2 vy st2 r2 d2 => ?_
  split at e
  · rename_i e3
    split at e
    · cases e
    rename_i z ρ3 e4
    split at e
    · cases e
    rename_i w e5
    cases e
    refine hr S2.F S2.H x y _ vx vy r2.ext (dp_mono st2.ex d1) d2 e3 _ fun F' H' v gr dv => ?_
    cases dv
    refine ⟨true, rfl, ?_⟩
    rw [if_pos rfl]
    obtain ⟨r3, st3⟩ := r2.grow gr.eF gr.eH gr.e gr.n
    refine hc par ρ2 σ ⟨F', H', S2.own⟩ z _ r3 e4 _ fun S4 vz st4 r4 d4 => ?_
    refine hr' S4.F S4.H y z _ vy vz r4.ext (dp_mono (st3.trans st4).ex d2) d4 e5 Q fun F5 H5 v5 gr5 dv5 => ?_
    obtain ⟨r5, st5⟩ := r4.grow gr5.eF gr5.eH gr5.e gr5.n
    exact q _ v5 ((((st1.trans st2).trans st3).trans st4).trans st5) r5 dv5
  · rename_i e3
    cases e
    refine hr S2.F S2.H x y _ vx vy r2.ext (dp_mono st2.ex d1) d2 e3 _ fun F' H' v gr dv => ?_
    cases dv
    refine ⟨false, rfl, ?_⟩
    rw [if_neg Bool.false_ne_true]
    obtain ⟨r3, st3⟩ := r2.grow gr.eF gr.eH gr.e gr.n
    exact q _ _ ((st1.trans st2).trans st3) r3 (.bl false)
  · cases e
theorem pd_chain {op op' : CmpOp} {g g' : D → D → Option D} (ho : OpS C (compareOp op) g) (ho' : OpS C (compareOp op') g') (ha : PDF C a fa) (hb : PDF C b fb) (hc : PDF C c fc)
    (hm : lastMarks [op, op'] [b, c] = false := by with_unfolding_all rfl) : PDF C (.Compare a [op, op'] [b, c] pos) (chF g g' fa fb fc) := by
  obtain ⟨r, h1, h2⟩ := ho
  obtain ⟨r', h1', h2'⟩ := ho'
  obtain ⟨ta, a1, a2⟩ := ha
  obtain ⟨tb, b1, b2⟩ := hb
  obtain ⟨tc, c1, c2⟩ := hc
  exact ⟨_, fun X i => pe_chain (h1 X i) (h1' X i) (a1 X i) (b1 X i) (c1 X i) hm, snd_ch a2 b2 c2 h2 h2'⟩
theorem pt_chain' {op op' : CmpOp} {g g' : D → D → Option D} (ho : OpS C (compareOp op) g) (ho' : OpS C (compareOp op') g') (ha : PDF C a fa) (hb : PDF C b fb) (hc : PDF C c fc)
    (hm : lastMarks [op, op'] [b, c] = false := by with_unfolding_all rfl) : PTF C (.Compare a [op, op'] [b, c] pos) (tsF (chF g g' fa fb fc)) := by
  obtain ⟨r, h1, h2⟩ := ho
  obtain ⟨r', h1', h2'⟩ := ho'
  obtain ⟨ta, a1, a2⟩ := ha
  obtain ⟨tb, b1, b2⟩ := hb
  obtain ⟨tc, c1, c2⟩ := hc
  exact ⟨_, fun X i => pt_chain (h1 X i) (h1' X i) (a1 X i) (b1 X i) (c1 X i) hm, snd_ts (snd_ch a2 b2 c2 h2 h2')⟩
end
end G

set_option Elab.async false
set_option linter.all false
set_option maxRecDepth 100000
set_option maxHeartbeats 4000000
/-! operations on data -/
namespace G
open PySem PySem.Spec PyProof.Rows L2
/-! ### one operation or another -/
def orG {α β γ : Type} (g h : α → β → Option γ) : α → β → Option γ := fun x y => match g x y with
  | some z => some z
  | none => h x y
theorem OpS.or {C : Ct} {f : Value → Value → Sem Value} {g h : D → D → Option D} (a : OpS C f g) (b : OpS C f h) : OpS C f (orG g h) := by
  obtain ⟨r, a1, a2⟩ := a
  obtain ⟨r', b1, b2⟩ := b
  refine ⟨fun x y H Q => r x y H Q ∨ r' x y H Q, fun X i pins s σ H x y v u Q I rx ry h => h.elim (a1 X i pins s σ H x y v u Q I rx ry) (b1 X i pins s σ H x y v u Q I rx ry), ?_⟩
  intro F H x y z vx vy e dx dy hz Q q
  unfold orG at hz
  split at hz
  · rename_i w hw
    cases hz
    exact .inl (a2 F H x y _ vx vy e dx dy hw Q q)
  · exact .inr (b2 F H x y _ vx vy e dx dy hz Q q)
/-- what is computed on ints -/
def iiI (g : Int → Int → Int) : D → D → Option D := fun x y => match x, y with | .int i, .int j => some (.int (g i j)) | _, _ => none
def iiB (g : Int → Int → Bool) : D → D → Option D := fun x y => match x, y with | .int i, .int j => some (.bool (g i j)) | _, _ => none
def iiC (Cn : Int → Int → Prop) [∀ i j, Decidable (Cn i j)] (g : Int → Int → Int) : D → D → Option D := fun x y => match x, y with | .int i, .int j => if Cn i j then some (.int (g i j)) else none | _, _ => none

section
variable {C : Ct}
theorem ops_int {f : Value → Value → Sem Value} {Cn : Int → Int → Prop} [∀ i j, Decidable (Cn i j)] {g : Int → Int → Int} (ho : ∀ X, C.In X → OpR X f (rI Cn fun i j => .int (g i j))) :
    OpS C f (iiC Cn g) := by
  refine ⟨_, ho, ?_⟩
  intro F H x y z vx vy e dx dy hz Q q
  unfold iiC at hz
  split at hz
  · rename_i i j
    cases dx
    cases dy
    split at hz
    · cases hz
      exact ⟨i, j, rfl, rfl, by assumption, q F H _ (.refl e) (.int _)⟩
    · cases hz
  · cases hz
theorem ops_int0 {f : Value → Value → Sem Value} {g : Int → Int → Int} (ho : ∀ X, C.In X → OpR X f (rI0 fun i j => .int (g i j))) :
    OpS C f (iiI g) := by
  refine ⟨_, ho, ?_⟩
  intro F H x y z vx vy e dx dy hz Q q
  unfold iiI at hz
  split at hz
  · rename_i i j
    cases dx
    cases dy
    cases hz
    exact ⟨i, j, rfl, rfl, q F H _ (.refl e) (.int _)⟩
  · cases hz
theorem ops_bl0 {f : Value → Value → Sem Value} {g : Int → Int → Bool} (ho : ∀ X, C.In X → OpR X f (rI0 fun i j => .bl (g i j))) :
    OpS C f (iiB g) := by
  refine ⟨_, ho, ?_⟩
  intro F H x y z vx vy e dx dy hz Q q
  unfold iiB at hz
  split at hz
  · rename_i i j
    cases dx
    cases dy
    cases hz
    exact ⟨i, j, rfl, rfl, q F H _ (.refl e) (.bl _)⟩
  · cases hz
/-! ### + -/
def gAddS : D → D → Option D := fun x y => match x, y with | .str a, .str b => if a.length + b.length ≤ 10000000 then some (.str (a ++ b)) else none | _, _ => none
def gAddT : D → D → Option D := fun x y => match x, y with | .tuple a, .tuple b => if a.length + b.length ≤ 10000000 then some (.tuple (a ++ b)) else none | _, _ => none
def gAddL : D → D → Option D := fun x y => match x, y with | .list a, .list b => if a.length + b.length ≤ 10000000 then some (.list (a ++ b)) else none | _, _ => none
theorem le_line {n : Nat} (h : n ≤ 10000000) : n ≤ sizeLine := by rw [sizeLine_eq]; omega
theorem sz_ok {n : Nat} (h : n < 10000000) : n < sizeLine := by rw [sizeLine_eq]; omega
theorem ops_addS : OpS C (binaryOp .Add) gAddS := by
  refine ⟨_, fun X i => op_add_str, ?_⟩
  intro F H x y z vx vy e dx dy hz Q q
  unfold gAddS at hz
  split at hz
  · rename_i a b
    cases dx
    cases dy
    split at hz
    · cases hz
      exact ⟨a, b, rfl, rfl, le_line (by assumption), q F H _ (.refl e) (.str _)⟩
    · cases hz
  · cases hz
theorem ops_addT : OpS C (binaryOp .Add) gAddT := by
  refine ⟨rCatA C.K, fun X i => by rw [← i.hK]; exact op_catA, ?_⟩
  intro F H x y z vx vy e dx dy hz Q q
  unfold gAddT at hz
  split at hz
  · rename_i as bs
    cases dx with
    | @tup a xs _ ha da =>
      cases dy with
      | @tup b ys _ hb db =>
        split at hz
        · rename_i hl
          cases hz
          refine ⟨a, b, xs, ys, rfl, rfl, e.t ha, e.t hb, le_line (by rw [da.length, db.length]; exact hl), fun hx => ?_, fun hx hy => ?_, fun hx hy p hp => ?_⟩
          · subst hx
            cases da
            exact q F H _ (.refl e) (.tup hb db)
          · subst hy
            cases db
            rw [List.append_nil] at q
            exact q F H _ (.refl e) (.tup ha da)
          · have g := Gr.new (o := HO.tup (xs ++ ys)) e hp
            exact q _ _ _ g (.tup (SqT.of upd_same) (dps_mono g.eF (da.append db)))
        · cases hz
  · cases hz
/-- list + list, also of lists that are only read -/
def rCatL (K : PySem.W.Frag) : R2 := fun x y H Q => ∃ l b xs zs, x = .ref l ∧ y = .ref b ∧ SqL K H l xs ∧ SqL K H b zs ∧ xs.length + zs.length ≤ sizeLine ∧ ∀ p, H p = none → Q (.ref p) (upd H p (.lst (xs ++ zs)))
theorem op_catL {X : Cx} : OpR X (binaryOp .Add) (rCatL X.K) := by
  intro pins s σ H x y v u Q I rx ry h
  obtain ⟨l, b, xs, zs, rfl, rfl, hH, hB, hz, q⟩ := h
  cases rx
  cases ry
  obtain ⟨its, r, pl, _⟩ := I.list hH
  obtain ⟨its2, r2, pl2, _⟩ := I.list hB
  obtain ⟨⟨c1, d1, t1, s1⟩, g1, g2, n1, g3⟩ := pl.isList
  obtain ⟨⟨c2, d2, t2, s2⟩, k1, k2, n2, k3⟩ := pl2.isList
  simp only at g2 g3 k2 k3
  subst g2 g3 k2 k3
  have hl := r.length
  have hl2 := r2.length
  have ea : its.toArray ++ its2.toArray = (its ++ its2).toArray := by simp
  refine concat_meets ⟨_, g1, rfl⟩ ⟨_, k1, rfl⟩ noFill_list_add seq_list_add PySem.F.slot_list_add PySem.F.entry_list_add (PySem.F.args_list_add_2 _ _) (list_addW l b its.toArray its2.toArray n1 n2 d1 d2 s1 s2 (by simp only [List.size_toArray]; omega)) ⟨g1, k1, ?_⟩
  rw [ea]
  exact ⟨.ref _, _, I.lnew (t' := s.toks) (r.append r2) (by rw [List.length_append]; omega), rfl, q _ I.fresh⟩
theorem ops_addL : OpS C (binaryOp .Add) gAddL := by
  refine ⟨rCatL C.K, fun X i => by rw [← i.hK]; exact op_catL, ?_⟩
  intro F H x y z vx vy e dx dy hz Q q
  unfold gAddL at hz
  split at hz
  · rename_i as bs
    cases dx with
    | @lst a xs _ ha da =>
      cases dy with
      | @lst b ys _ hb db =>
        split at hz
        · rename_i hl
          cases hz
          refine ⟨a, b, xs, ys, rfl, rfl, e.l ha, e.l hb, le_line (by rw [da.length, db.length]; exact hl), fun p hp => ?_⟩
          have g := Gr.new (o := HO.lst (xs ++ ys)) e hp
          exact q _ _ _ g (.lst (SqL.of upd_same) (dps_mono g.eF (da.append db)))
        · cases hz
  · cases hz
def gAdd : D → D → Option D := orG (iiI (· + ·)) (orG gAddT (orG gAddS gAddL))
theorem ops_add : OpS C (binaryOp .Add) gAdd := .or (ops_int0 fun _ _ => op_add) (.or ops_addT (.or ops_addS ops_addL))
def gSub : D → D → Option D := iiI (· - ·)
theorem ops_sub : OpS C (binaryOp .Sub) gSub := ops_int0 fun _ _ => op_sub
instance : ∀ i j, Decidable (CMulX i j) := fun i j => by unfold CMulX; infer_instance
instance (i j : Int) : Decidable (CMul i j) := by unfold CMul; infer_instance
def gMulI : D → D → Option D := orG (iiC CMul (· * ·)) (iiC CMulX (· * ·))
/-- tuple * int -/
def gMulT : D → D → Option D := fun x y => match x, y with
  | .tuple a, .int k => if k = 1 ∧ False ∨ (a ≠ [] ∧ 2 ≤ k ∧ k ≤ 1000 ∧ a.length ≤ 1000) then some (.tuple (List.replicate k.toNat a).flatten) else none
  | _, _ => none
theorem ops_mulI : OpS C (binaryOp .Mult) gMulI := .or (ops_int fun _ _ => op_mul) (ops_int fun _ _ => op_mulX)
instance : ∀ i j, Decidable (CDivN i j) := fun i j => by unfold CDivN; infer_instance
instance : ∀ i j, Decidable (CDivW i j) := fun i j => by unfold CDivW; infer_instance
instance : ∀ i j, Decidable (CPow i j) := fun i j => by unfold CPow; infer_instance
instance : ∀ i j, Decidable (CShl i j) := fun i j => by unfold CShl; infer_instance
/-- //: by a divisor above 0 -/
def gDiv : D → D → Option D := orG (iiC (fun _ j => 0 < j ∧ j.natAbs.log2 < 9000) (· / ·)) (iiC CDivN Int.fdiv)
theorem ops_div : OpS C (binaryOp .FloorDiv) gDiv := .or (ops_int fun _ _ => op_fdivW) (ops_int fun _ _ => op_fdivN)
def gMod : D → D → Option D := iiC (fun _ j => 0 < j) (· % ·)
theorem ops_mod : OpS C (binaryOp .Mod) gMod := ops_int fun _ _ => op_mod
def gShl : D → D → Option D := iiC CShl (fun i j => i * 2 ^ j.toNat)
theorem ops_shl : OpS C (binaryOp .LShift) gShl := ops_int fun _ _ => op_shlW
def gShr : D → D → Option D := iiC (fun _ j => 0 ≤ j) (fun i j => i / 2 ^ j.toNat)
theorem ops_shr : OpS C (binaryOp .RShift) gShr := ops_int fun _ _ => op_shr
def gAnd : D → D → Option D := iiI Builtin.bitAnd
theorem ops_and : OpS C (binaryOp .BitAnd) gAnd := ops_int0 fun _ _ => op_and
def gOr : D → D → Option D := iiI Builtin.bitOr
theorem ops_or : OpS C (binaryOp .BitOr) gOr := ops_int0 fun _ _ => op_or
def gPow : D → D → Option D := iiC CPow (fun i j => i ^ j.toNat)
theorem ops_pow : OpS C (binaryOp .Pow) gPow := ops_int fun _ _ => op_pow

/-! ### comparisons -/
def gLtT : D → D → Option D := fun x y => match x, y with
  | .tuple a, .tuple b => (match a.mapM (fun | .int i => some i | _ => none), b.mapM (fun | .int i => some i | _ => none) with
    | some is, some js => some (.bool (HT.lexLt is js))
    | _, _ => none)
  | _, _ => none
theorem ints_of_mapM : ∀ {a : List D} {is : List Int}, a.mapM (fun d => match d with | .int i => some i | _ => none) = some is → a = is.map PyData.int
  | [], is, h => by simp at h; subst h; rfl
  | d :: a, is, h => by
    rw [List.mapM_cons] at h
    cases d with
    | int i =>
      cases q : a.mapM (fun d => match d with | PyData.int i => some i | _ => none) with
      | none => simp [q] at h
      | some js =>
        simp [q] at h
        subst h
        rw [ints_of_mapM q]
        rfl
    | _ => simp at h
theorem ops_ltT : OpS C (compareOp .Lt) gLtT := by
  refine ⟨rLtT C.K, fun X i => by rw [← i.hK]; exact op_ltT i.room.units0, ?_⟩
  intro F H x y z vx vy e dx dy hz Q q
  unfold gLtT at hz
  split at hz
  · rename_i as bs
    split at hz
    · rename_i is js e1 e2
      cases hz
      have e1 := ints_of_mapM e1
      have e2 := ints_of_mapM e2
      subst e1 e2
      cases dx with
      | @tup a xs _ ha da =>
        cases dy with
        | @tup b ys _ hb db =>
          have h1 := da.ints
          have h2 := db.ints
          subst h1 h2
          exact ⟨a, b, is, js, rfl, rfl, e.t ha, e.t hb, q F H _ (.refl e) (.bl _)⟩
    · cases hz
  · cases hz
def gLt : D → D → Option D := orG (iiB fun i j => decide (i < j)) gLtT
theorem ops_lt : OpS C (compareOp .Lt) gLt := .or (ops_bl0 fun _ _ => op_lt) ops_ltT
def gLe : D → D → Option D := iiB fun i j => decide (i ≤ j)
theorem ops_le : OpS C (compareOp .LtE) gLe := ops_bl0 fun _ _ => op_le
def gGt : D → D → Option D := iiB fun i j => decide (j < i)
theorem ops_gt : OpS C (compareOp .Gt) gGt := ops_bl0 fun _ _ => op_gt
def gGe : D → D → Option D := iiB fun i j => decide (j ≤ i)
theorem ops_ge : OpS C (compareOp .GtE) gGe := ops_bl0 fun _ _ => op_ge
def gEqI : D → D → Option D := iiB fun i j => decide (i = j)
def gEqD : D → D → Option D := fun x y => if SeqAt.shaped x && SeqAt.shaped y then some (.bool (PyData.eqv x y)) else none
theorem ops_eqD : OpS C (compareOp .Eq) gEqD := by
  refine ⟨rEqD C.K, fun X i => by rw [← i.hK]; exact op_eqD i.room.units, ?_⟩
  intro F H x y z vx vy e dx dy hz Q q
  unfold gEqD at hz
  split at hz
  · rename_i hs
    rw [Bool.and_eq_true] at hs
    cases hz
    exact ⟨x, y, (dp_mono e dx).dp (SeqAt.canLay_of_shaped hs.1), (dp_mono e dy).dp (SeqAt.canLay_of_shaped hs.2), hs.1, hs.2, q F H _ (.refl e) (.bl _)⟩
  · cases hz
theorem ops_eqI : OpS C (compareOp .Eq) gEqI := by
  refine ⟨_, fun X i => op_eq, ?_⟩
  intro F H x y z vx vy e dx dy hz Q q
  unfold gEqI iiB at hz
  split at hz
  · rename_i i j
    cases dx
    cases dy
    cases hz
    refine ⟨rfl, ?_⟩
    rw [show decide (V.int i = V.int j) = decide (i = j) by simp]
    exact q F H _ (.refl e) (.bl _)
  · cases hz
def gEq : D → D → Option D := orG gEqI gEqD
theorem ops_eq : OpS C (compareOp .Eq) gEq := .or ops_eqI ops_eqD
def gNeI : D → D → Option D := iiB fun i j => !decide (i = j)
def gNeD : D → D → Option D := fun x y => if SeqAt.shaped x && SeqAt.shaped y then some (.bool (!PyData.eqv x y)) else none
theorem ops_neD : OpS C (compareOp .NotEq) gNeD := by
  refine ⟨rNeD C.K, fun X i => by rw [← i.hK]; exact op_neD i.room.units, ?_⟩
  intro F H x y z vx vy e dx dy hz Q q
  unfold gNeD at hz
  split at hz
  · rename_i hs
    rw [Bool.and_eq_true] at hs
    cases hz
    exact ⟨x, y, (dp_mono e dx).dp (SeqAt.canLay_of_shaped hs.1), (dp_mono e dy).dp (SeqAt.canLay_of_shaped hs.2), hs.1, hs.2, q F H _ (.refl e) (.bl _)⟩
  · cases hz
theorem ops_neI : OpS C (compareOp .NotEq) gNeI := by
  refine ⟨_, fun X i => op_ne, ?_⟩
  intro F H x y z vx vy e dx dy hz Q q
  unfold gNeI iiB at hz
  split at hz
  · rename_i i j
    cases dx
    cases dy
    cases hz
    refine ⟨rfl, ?_⟩
    rw [show (!decide (V.int i = V.int j)) = !decide (i = j) by simp]
    exact q F H _ (.refl e) (.bl _)
  · cases hz
def gNe : D → D → Option D := orG gNeI gNeD
theorem ops_ne : OpS C (compareOp .NotEq) gNe := .or ops_neI ops_neD
def isNone : D → Bool
  | .none => true
  | _ => false
def gIs : D → D → Option D := fun x y => match y with | .none => some (.bool (isNone x)) | _ => none
def gIsNot : D → D → Option D := fun x y => match y with | .none => some (.bool (!isNone x)) | _ => none
theorem dp_non {K : PySem.W.Frag} {F : Hp} {v : V} {x : D} (h : Dn K F v x) : decide (v = V.non) = isNone x := by
  cases h <;> simp [isNone]
theorem ops_is : OpS C (compareOp .Is) gIs := by
  refine ⟨_, fun X i => op_isN, ?_⟩
  intro F H x y z vx vy e dx dy hz Q q
  unfold gIs at hz
  split at hz
  · cases dy
    cases hz
    refine ⟨rfl, ?_⟩
    rw [dp_non dx]
    exact q F H _ (.refl e) (.bl _)
  · cases hz
theorem ops_isnot : OpS C (compareOp .IsNot) gIsNot := by
  refine ⟨_, fun X i => op_notN, ?_⟩
  intro F H x y z vx vy e dx dy hz Q q
  unfold gIsNot at hz
  split at hz
  · cases dy
    cases hz
    refine ⟨rfl, ?_⟩
    rw [dp_non dx]
    exact q F H _ (.refl e) (.bl _)
  · cases hz
end
end G

set_option Elab.async false
set_option linter.all false
set_option maxRecDepth 100000
set_option maxHeartbeats 4000000
/-! names, constants, displays, subscripts, calls of built-ins -/
namespace G
open PySem PySem.Spec PyProof.Rows L2
def VisS (sc : Scope) (x : Str) : Prop := sc.names.lookup x = some .local ∨ sc.names.lookup x = some .cell ∨ sc.names.lookup x = some .free
section
variable {C : Ct} {a b c e : Expr} {es : List Expr} {pos p2 p : Pos} {fa fb fc : EF} {K : PySem.W.Frag} {mg : Str → Option Value} {i : Nat} {x : Str}
theorem Ct.In.vis {X : Cx} (h : C.In X) (v : VisS C.sc x) : Vis X.env.scope x := by unfold Vis; rw [h.hs]; exact v
theorem Ct.In.nm {X : Cx} (h : C.In X) (v : C.N[i]? = some x) : X.N[i]? = some x := by rw [h.hN]; exact v
theorem Ct.In.gl {X : Cx} (h : C.In X) (v : C.sc.names.lookup x = some .globalImplicit) : Gl X x := by show X.env.scope.names.lookup x = _; rw [h.hs]; exact v

/-! ### names, constants -/
def nmF (i : Nat) : EF := fun ρ => match ρ[i]? with
  | some (.d x) => some (x, ρ)
  | some (.ow false (.lst xs)) => some (.list xs, ρ.set i (.d (.list xs)))
  | _ => none
theorem snd_nm : SndE K mg (tVar i) (nmF i) := by
  intro par ρ σ S d ρ' rl e Q q
  unfold nmF at e
  split at e
  · rename_i x ex
    cases e
    obtain ⟨v, h1, h2⟩ := rl.getD ex
    exact ⟨v, h1, q S v (.refl S) rl h2⟩
  · rename_i xs ex
    cases e
    obtain ⟨S', v, r', st, eH, h1, h2⟩ := rl.frz ex
    exact ⟨v, h1, by rw [← eH]; exact q S' v st r' h2⟩
  · cases e
theorem pd_nm (i : Nat) (hN : C.N[i]? = some x) (hv : VisS C.sc x) (hd : (x == ("__debug__" : Str)) = false := by decide) (hcd : (x == ("__classdict__" : Str)) = false := by decide) : PDF C (.Name x pos) (nmF i) :=
  ⟨_, fun X h => pe_var (h.nm hN) (h.vis hv) hd hcd, snd_nm⟩
def kF (d : D) : EF := fun ρ => some (d, ρ)
theorem snd_k {v : V} {d : D} (h : ∀ F, Dn K F v d) : SndE K mg (tC v) (kF d) := by
  intro par ρ σ S d' ρ' rl e Q q
  cases e
  exact q S v (.refl S) rl (h _)
theorem pd_int {n : Int} {j} : PDF C (.Constant (.int n) j pos) (kF (.int n)) := ⟨_, fun X h => pe_int, snd_k fun _ => .int n⟩
theorem pd_str {n : Str} {j} : PDF C (.Constant (.str n) j pos) (kF (.str n)) := ⟨_, fun X h => pe_str, snd_k fun _ => .str n⟩
theorem pd_bl {n : Bool} {j} : PDF C (.Constant (.bool n) j pos) (kF (.bool n)) := ⟨_, fun X h => pe_bl, snd_k fun _ => .bl n⟩
theorem pd_non {j} : PDF C (.Constant .none j pos) (kF .none) := ⟨_, fun X h => pe_non, snd_k fun _ => .non⟩
/-- a module's constant -/
theorem pd_gl {v : V} {u : Value} {d : D} (hg : C.sc.names.lookup x = some .globalImplicit) (hm : C.mg x = some u) (r : RelV v u) (h : ∀ F, Dn C.K F v d) (hd : (x == ("__debug__" : Str)) = false := by decide) : PDF C (.Name x pos) (kF d) :=
  ⟨_, fun X h => pe_glob (h.gl hg) (by rw [h.hm]; exact hm) r hd, snd_k h⟩
/-- .. and -1, a written negative number -/
def negF (fa : EF) : EF := fun ρ => match fa ρ with
  | some (.int i, ρ1) => some (.int (-i), ρ1)
  | _ => none
theorem pd_neg (ha : PDF C a fa) : PDF C (.UnaryOp .USub a pos) (negF fa) := by
  obtain ⟨t, h1, h2⟩ := ha
  refine ⟨_, fun X h => pe_un un_neg (h1 X h), ?_⟩
  intro par ρ σ S d ρ' rl e Q q
  unfold negF at e
  split at e
  · rename_i n ρ1 e1
    cases e
    refine h2 par ρ σ S _ _ rl e1 _ fun S1 v st r1 d1 => ?_
    cases d1
    exact ⟨n, rfl, q S1 _ st r1 (.int _)⟩
  · cases e

/-! ### argument lists -/
abbrev LF := Env → Option (List D × Env)
def nilF : LF := fun ρ => some ([], ρ)
def consF (f : EF) (g : LF) : LF := fun ρ => match f ρ with
  | none => none
  | some (x, ρ1) => match g ρ1 with
    | none => none
    | some (xs, ρ2) => some (x :: xs, ρ2)
/-- *e, .. -/
def starF (f : EF) (g : LF) : LF := fun ρ => match f ρ with
  | some (.list ys, ρ1) => (match g ρ1 with
    | none => none
    | some (xs, ρ2) => some (ys ++ xs, ρ2))
  | some (.tuple ys, ρ1) => (match g ρ1 with
    | none => none
    | some (xs, ρ2) => some (ys ++ xs, ρ2))
  | _ => none
variable {gl : LF}
theorem pl_nil : PLF C [] nilF := ⟨_, fun X h => pa_nil, fun par ρ σ S ds ρ' rl e Q q => by cases e; exact q S [] (.refl S) rl .nil⟩
theorem pl_cons (ha : PDF C a fa) (hr : PLF C es gl) (hs : ∀ env : PySem.Env, starEach (a :: es) env = (false, eval a env) :: starEach es env := by intro _; rfl) : PLF C (a :: es) (consF fa gl) := by
  obtain ⟨t, h1, h2⟩ := ha
  obtain ⟨u, k1, k2⟩ := hr
  refine ⟨_, fun X h => pa_cons (h1 X h) (k1 X h) (hs _), ?_⟩
  intro par ρ σ S ds ρ' rl e Q q
  unfold consF at e
  split at e
  · cases e
  rename_i x ρ1 e1
  split at e
  · cases e
  rename_i xs ρ2 e2
  cases e
  refine h2 par ρ σ S _ _ rl e1 _ fun S1 v st r1 d1 => ?_
  refine k2 par ρ1 σ S1 _ _ r1 e2 _ fun S2 vs st2 r2 d2 => ?_
  exact q S2 (v :: vs) (st.trans st2) r2 (.cons (dp_mono st2.ex d1) d2)
theorem pl_star (ha : PDF C a fa) (hr : PLF C es gl) (hs : ∀ env : PySem.Env, starEach (.Starred a p :: es) env = (true, eval a env) :: starEach es env := by intro _; rfl) : PLF C (.Starred a p :: es) (starF fa gl) := by
  obtain ⟨t, h1, h2⟩ := ha
  obtain ⟨u, k1, k2⟩ := hr
  refine ⟨StX.tStar C.K t u, fun X h => by rw [← h.hK]; exact StX.pa_star (h1 X h) (k1 X h) (hs _), ?_⟩
  intro par ρ σ S ds ρ' rl e Q q
  unfold starF at e
  split at e
  · rename_i ys ρ1 e1
    split at e
    · cases e
    rename_i xs ρ2 e2
    cases e
    refine h2 par ρ σ S _ _ rl e1 _ fun S1 v st r1 d1 => ?_
    cases d1 with
    | @lst a ws _ ha dw =>
      refine ⟨a, ws, rfl, .inr (r1.ext.l ha), ?_⟩
      refine k2 par ρ1 σ S1 _ _ r1 e2 _ fun S2 vs st2 r2 d2 => ?_
      exact q S2 (ws ++ vs) (st.trans st2) r2 ((dps_mono st2.ex dw).append d2)
  · rename_i ys ρ1 e1
    split at e
    · cases e
    rename_i xs ρ2 e2
    cases e
    refine h2 par ρ σ S _ _ rl e1 _ fun S1 v st r1 d1 => ?_
    cases d1 with
    | @tup a ws _ ha dw =>
      refine ⟨a, ws, rfl, .inl (r1.ext.t ha), ?_⟩
      refine k2 par ρ1 σ S1 _ _ r1 e2 _ fun S2 vs st2 r2 d2 => ?_
      exact q S2 (ws ++ vs) (st.trans st2) r2 ((dps_mono st2.ex dw).append d2)
  · cases e

/-! ### displays -/
def tupF (g : LF) : EF := fun ρ => match g ρ with
  | none => none
  | some (xs, ρ1) => if xs.length ≤ 10000000 then some (.tuple xs, ρ1) else none
def lstF (g : LF) : OF := fun ρ => match g ρ with
  | none => none
  | some (xs, ρ1) => if xs.length ≤ 10000000 then some (.lst xs, ρ1) else none
theorem pd_tup {x1} (h : PLF C es gl) : PDF C (.Tuple es x1 pos) (tupF gl) := by
  obtain ⟨t, h1, h2⟩ := h
  refine ⟨_, fun X h => pe_tup (h1 X h), ?_⟩
  intro par ρ σ S d ρ' rl e Q q
  unfold tupF at e
  split at e
  · cases e
  rename_i xs ρ1 e1
  split at e
  · rename_i hz
    cases e
    refine h2 par ρ σ S _ _ rl e1 _ fun S1 vs st r1 d1 => ⟨le_line (by rw [d1.length]; exact hz), fun p hp => ?_⟩
    obtain ⟨r2, st2⟩ := r1.newF (o := .tup vs) hp
    exact q _ _ (st.trans st2) r2 (.tup (SqT.of upd_same) (dps_mono st2.ex d1))
  · cases e
theorem nw_lst {ρ : Env} {σ : L2.St} {par : Nat → Option V} {S S1 : Sn} {vs : List V} {ds : List D} {p : Addr} (st : Step S S1) (r : Rl K mg par ρ σ S1) (hp : S1.H p = none) (d : DnAll K S1.F vs ds) :
    Rl K mg par ρ σ ⟨S1.F, upd S1.H p (.lst vs), S1.own⟩ ∧ Step S ⟨S1.F, upd S1.H p (.lst vs), S1.own⟩ ∧ Nw K S ⟨S1.F, upd S1.H p (.lst vs), S1.own⟩ (.lst ds) (.ref p) [p] := by
  obtain ⟨r2, st2⟩ := r.newH (o := .lst vs) hp
  refine ⟨r2, st.trans st2, ⟨p, vs, rfl, rfl, upd_same, d⟩, fun a ha => ?_, fun a ha => ?_, fun a ha => ?_⟩
  · have e : a = p := by simpa using ha
    subst e
    intro z
    exact r.there a z hp
  · have e : a = p := by simpa using ha
    subst e
    exact r.ext.free hp
  · have e : a = p := by simpa using ha
    subst e
    cases q : S.H a with
    | none => exact .inr rfl
    | some o => exact absurd hp (st.per a (by rw [q]; simp))
theorem po_lst (h : PLF C es gl) : POF C (.List es pos) (lstF gl) := by
  obtain ⟨t, h1, h2⟩ := h
  refine ⟨_, fun X h => pe_lst (h1 X h), ?_⟩
  intro par ρ σ S d ρ' rl e Q q
  unfold lstF at e
  split at e
  · cases e
  rename_i xs ρ1 e1
  split at e
  · rename_i hz
    cases e
    refine h2 par ρ σ S _ _ rl e1 _ fun S1 vs st r1 d1 => ⟨le_line (by rw [d1.length]; exact hz), fun p hp => ?_⟩
    obtain ⟨r2, st2, n⟩ := nw_lst st r1 hp d1
    exact q _ _ _ st2 r2 n
  · cases e
/-- an own list as data -/
def frF (f : OF) : EF := fun ρ => match f ρ with
  | some (.lst xs, ρ1) => some (.list xs, ρ1)
  | _ => none
theorem snd_fr {t : TE} {f : OF} (h : SndO K mg t f) : SndE K mg t (frF f) := by
  intro par ρ σ S d ρ' rl e Q q
  unfold frF at e
  split at e
  · rename_i xs ρ1 e1
    cases e
    refine h par ρ σ S _ _ rl e1 _ fun S1 v A st r1 n => ?_
    obtain ⟨S2, r2, st2, eH, d2⟩ := r1.nwF n st
    rw [← eH]
    exact q S2 v st2 r2 d2
  · cases e
theorem pd_fr {f : OF} (h : POF C e f) : PDF C e (frF f) := by
  obtain ⟨t, h1, h2⟩ := h
  exact ⟨t, h1, snd_fr h2⟩

/-! ### a[i] -/
def IxS (C : Ct) (g : D → D → Option D) : Prop := ∃ r, (∀ X, C.In X → IxR X r) ∧ R2Ok C.K r g
def gIx : D → D → Option D := fun x y => match x, y with
  | .list xs, .int i => atI xs i
  | .tuple xs, .int i => atI xs i
  | .str z, .int i => if z.length ≤ 10000000 then (match atI z.cps.toList i with | some c => some (.str ⟨#[c]⟩) | none => none) else none
  | _, _ => none
theorem atI_dn {H : Hp} {vs : List V} {ds : List D} {n : Int} {d : D} (h : DnAll K H vs ds) (e : atI ds n = some d) : ∃ v, atI vs n = some v ∧ Dn K H v d := by
  unfold atI at e ⊢
  rw [h.length]
  cases q : ixN ds.length n with
  | none => rw [q] at e; cases e
  | some j =>
    rw [q] at e
    exact h.get e
theorem ixs : IxS C gIx := by
  refine ⟨rIx C.K, fun X h => by rw [← h.hK]; exact ix_seq, ?_⟩
  intro F H x y z vx vy e dx dy hz Q q
  unfold gIx at hz
  split at hz
  · rename_i xs n
    cases dx with
    | @lst a vs _ ha da =>
      cases dy
      obtain ⟨v, h1, h2⟩ := atI_dn da hz
      exact .inl ⟨a, vs, n, v, rfl, rfl, e.l ha, h1, q F H v (.refl e) h2⟩
  · rename_i xs n
    cases dx with
    | @tup a vs _ ha da =>
      cases dy
      obtain ⟨v, h1, h2⟩ := atI_dn da hz
      exact .inr (.inl ⟨a, vs, n, v, rfl, rfl, e.t ha, h1, q F H v (.refl e) h2⟩)
  · rename_i s n
    cases dx
    cases dy
    split at hz
    · rename_i hl
      split at hz
      · rename_i c hc
        cases hz
        exact .inr (.inr ⟨s, n, c, rfl, rfl, le_line hl, hc, q F H _ (.refl e) (.str _)⟩)
      · cases hz
    · cases hz
  · cases hz
theorem pd_ix {g : D → D → Option D} (ho : IxS C g) (ha : PDF C a fa) (hb : PDF C b fb) (hs : PlainIx b) : PDF C (.Subscript a b pos) (opF g fa fb) := by
  obtain ⟨r, h1, h2⟩ := ho
  obtain ⟨ta, a1, a2⟩ := ha
  obtain ⟨tb, b1, b2⟩ := hb
  exact ⟨_, fun X i => pe_ix (h1 X i) (a1 X i) (b1 X i) hs, snd_op a2 b2 h2⟩

/-! ### what a slot holds, looked at -/
def vw : Sl → Option D
  | .d x => some x
  | .ow _ (.lst xs) => some (.list xs)
  | _ => none
theorem Rl.view {par : Nat → Option V} {ρ : Env} {σ : L2.St} {S : Sn} (r : Rl K mg par ρ σ S) {i : Nat} {s : Sl} {x : D} (e : ρ[i]? = some s) (h : vw s = some x) : ∃ v, σ[i]? = some (some v) ∧ Dn K S.H v x := by
  cases s with
  | un => cases h
  | fn _ => cases h
  | d y =>
    cases h
    obtain ⟨v, h1, h2⟩ := r.getD e
    exact ⟨v, h1, dp_mono r.ext h2⟩
  | ow fix o =>
    cases o with
    | dct _ _ => cases h
    | lst xs =>
      cases h
      obtain ⟨v, A, h1, ⟨a, vs, e1, _, e3, e4⟩, _⟩ := r.getO e
      rw [e1] at h1
      exact ⟨_, h1, .lst (SqL.of e3) (dps_mono r.ext e4)⟩
def vwF (i : Nat) (ρ : Env) : Option D := match ρ[i]? with
  | some s => vw s
  | none => none
theorem Rl.vwF {par : Nat → Option V} {ρ : Env} {σ : L2.St} {S : Sn} (r : Rl K mg par ρ σ S) {i : Nat} {x : D} (h : vwF i ρ = some x) : ∃ v, σ[i]? = some (some v) ∧ Dn K S.H v x := by
  unfold G.vwF at h
  split at h
  · rename_i s es
    exact r.view es h
  · cases h
def sca : D → Bool
  | .none => true
  | .bool _ => true
  | .int _ => true
  | .str _ => true
  | _ => false
theorem dn_sca {F F' : Hp} {v : V} {d : D} (h : Dn K F v d) (s : sca d = true) : Dn K F' v d := by
  cases h with
  | non => exact .non
  | bl b => exact .bl b
  | int b => exact .int b
  | str b => exact .str b
  | lst _ _ => cases s
  | tup _ _ => cases s
  | dct _ _ => cases s
/-- e op (what stands in slot i), the answer a number, a text, a bool or None -/
def opVF (g : D → D → Option D) (fa : EF) (i : Nat) : EF := fun ρ => match fa ρ with
  | none => none
  | some (x, ρ1) => match vwF i ρ1 with
    | none => none
    | some y => match g x y with
      | none => none
      | some z => if sca z then some (z, ρ1) else none
theorem snd_opV {r : R2} {ta : TE} {g : D → D → Option D} (ha : SndE K mg ta fa) (hr : R2Ok K r g) : SndE K mg (tOp r ta (tVar i)) (opVF g fa i) := by
  intro par ρ σ S d ρ' rl e Q q
  unfold opVF at e
  split at e
  · cases e
  rename_i x ρ1 e1
  split at e
  · cases e
  rename_i y e2
  split at e
  · cases e
  rename_i z e3
  split at e
  · rename_i hs
    cases e
    refine ha par ρ σ S x _ rl e1 _ fun S1 vx st1 r1 d1 => ?_
    obtain ⟨v, h1, h2⟩ := r1.vwF e2
    refine ⟨v, h1, ?_⟩
    refine hr S1.H S1.H x y d vx v (Ex.refl _) (dp_mono r1.ext d1) h2 e3 Q fun F' H' w gr dw => ?_
    obtain ⟨r3, st3⟩ := r1.grow (Ex.refl _) gr.eH (r1.ext.trans gr.eH) (fun a h => .inl h)
    exact q _ w (st1.trans st3) r3 (dn_sca dw hs)
  · cases e
theorem pd_cmpV {op : CmpOp} {g : D → D → Option D} (ho : OpS C (compareOp op) g) (ha : PDF C a fa) (i : Nat) (hN : C.N[i]? = some x) (hv : VisS C.sc x) (hm : behindInMarks op (.Name x p) = false) (hd : (x == ("__debug__" : Str)) = false := by decide) (hcd : (x == ("__classdict__" : Str)) = false := by decide) :
    PDF C (.Compare a [op] [.Name x p] pos) (opVF g fa i) := by
  obtain ⟨r, h1, h2⟩ := ho
  obtain ⟨ta, a1, a2⟩ := ha
  exact ⟨_, fun X h => pe_cmpR (h1 X h) (a1 X h) (pe_var (h.nm hN) (h.vis hv) hd hcd) hm, snd_opV a2 h2⟩
theorem pt_cmpV {op : CmpOp} {g : D → D → Option D} (ho : OpS C (compareOp op) g) (ha : PDF C a fa) (i : Nat) (hN : C.N[i]? = some x) (hv : VisS C.sc x) (hm : behindInMarks op (.Name x p) = false) (hd : (x == ("__debug__" : Str)) = false := by decide) (hcd : (x == ("__classdict__" : Str)) = false := by decide) :
    PTF C (.Compare a [op] [.Name x p] pos) (tsF (opVF g fa i)) := by
  obtain ⟨r, h1, h2⟩ := ho
  obtain ⟨ta, a1, a2⟩ := ha
  exact ⟨_, fun X h => pt_cmpR (h1 X h) (a1 X h) (pe_var (h.nm hN) (h.vis hv) hd hcd) hm, snd_ts (snd_opV a2 h2)⟩
/-- x[e], x in slot i -/
def ixVF (i : Nat) (fb : EF) : EF := fun ρ => match ρ[i]? with
  | some (.d x) => (match fb ρ with
    | none => none
    | some (y, ρ1) => match ρ1[i]? with
      | some (.d x) => (match gIx x y with
        | none => none
        | some z => some (z, ρ1))
      | _ => none)
  | some (.ow _ (.lst _)) => (match fb ρ with
    | some (.int n, ρ1) => (match ρ1[i]? with
      | some (.ow _ (.lst xs)) => (match atI xs n with
        | none => none
        | some z => some (z, ρ1))
      | _ => none)
    | _ => none)
  | _ => none
theorem pd_ixV (i : Nat) (hN : C.N[i]? = some x) (hv : VisS C.sc x) (hb : PDF C b fb) (hs : PlainIx b) (hd : (x == ("__debug__" : Str)) = false := by decide) (hcd : (x == ("__classdict__" : Str)) = false := by decide) : PDF C (.Subscript (.Name x p) b pos) (ixVF i fb) := by
  obtain ⟨tb, b1, b2⟩ := hb
  refine ⟨tOp (rIx C.K) (tVar i) tb, fun X h => by rw [← h.hK]; exact pe_ix ix_seq (pe_var (h.nm hN) (h.vis hv) hd hcd) (b1 X h) hs, ?_⟩
  obtain ⟨r0, _, hr0⟩ := ixs (C := C)
  intro par ρ σ S d ρ' rl e Q q
  unfold ixVF at e
  split at e
  · rename_i x0 ex0
    obtain ⟨v, hv1, _⟩ := rl.getD ex0
    split at e
    · cases e
    rename_i y ρ1 e1
    split at e
    · rename_i x1 ex1
      split at e
      · cases e
      rename_i z ez
      cases e
      refine ⟨v, hv1, ?_⟩
      refine b2 par ρ σ S _ _ rl e1 _ fun S1 vy st1 r1 d1 => ?_
      obtain ⟨v', hv2, dv⟩ := r1.getD ex1
      rw [hv1] at hv2
      cases hv2
      have fin : R2Ok C.K (rIx C.K) gIx := by
        intro F H x y z vx vy e dx dy hz Q q
        unfold gIx at hz
        split at hz
        · rename_i xs n
          cases dx with
          | @lst a vs _ ha da =>
            cases dy
            obtain ⟨v, h1, h2⟩ := atI_dn da hz
            exact .inl ⟨a, vs, n, v, rfl, rfl, e.l ha, h1, q F H v (.refl e) h2⟩
        · rename_i xs n
          cases dx with
          | @tup a vs _ ha da =>
            cases dy
            obtain ⟨v, h1, h2⟩ := atI_dn da hz
            exact .inr (.inl ⟨a, vs, n, v, rfl, rfl, e.t ha, h1, q F H v (.refl e) h2⟩)
        · rename_i s n
          cases dx
          cases dy
          split at hz
          · rename_i hl
            split at hz
            · rename_i c hc
              cases hz
              exact .inr (.inr ⟨s, n, c, rfl, rfl, le_line hl, hc, q F H _ (.refl e) (.str _)⟩)
            · cases hz
          · cases hz
        · cases hz
      refine fin S1.F S1.H x1 y _ v vy r1.ext dv d1 ez Q fun F' H' w gr dw => ?_
      obtain ⟨r3, st3⟩ := r1.grow gr.eF gr.eH gr.e gr.n
      exact q _ w (st1.trans st3) r3 dw
    · cases e
  · rename_i fx xs0 ex0
    obtain ⟨v, A, hv1, _⟩ := rl.getO ex0
    split at e
    · rename_i n ρ1 e1
      split at e
      · rename_i fx1 xs ex1
        split at e
        · cases e
        rename_i z ez
        cases e
        refine ⟨v, hv1, ?_⟩
        refine b2 par ρ σ S _ _ rl e1 _ fun S1 vy st1 r1 d1 => ?_
        obtain ⟨v', A', hv2, ⟨a, vs, q1, _, q3, q4⟩, _⟩ := r1.getO ex1
        rw [hv1] at hv2
        cases hv2
        cases d1
        obtain ⟨w, h1, h2⟩ := atI_dn q4 ez
        exact .inl ⟨a, vs, n, w, q1, rfl, SqL.of q3, h1, q S1 w st1 r1 h2⟩
      · cases e
    · cases e
  · cases e

/-! ### calls of built-ins -/
def R1Ok (K : PySem.W.Frag) (r : List V → Hp → VK → Prop) (g : List D → Option D) : Prop := ∀ (F H : Hp) (ds : List D) (z : D) (vs : List V), Ex F H → DnAll K F vs ds → g ds = some z → ∀ Q : VK, (∀ F' H' v, Gr F H F' H' → Dn K F' v z → Q v H') → r vs H Q
/-- .. that make a list -/
def R1OkO (K : PySem.W.Frag) (r : List V → Hp → VK → Prop) (g : List D → Option (List D)) : Prop := ∀ (F H : Hp) (ds : List D) (z : List D) (vs : List V), Ex F H → DnAll K F vs ds → g ds = some z → ∀ Q : VK, (∀ p ws, H p = none → DnAll K F ws z → Q (.ref p) (upd H p (.lst ws))) → r vs H Q
def CallS (C : Ct) (f : Value) (g : List D → Option D) : Prop := ∃ r, (∀ X, C.In X → CallR X f r) ∧ R1Ok C.K r g
def CallO (C : Ct) (f : Value) (g : List D → Option (List D)) : Prop := ∃ r, (∀ X, C.In X → CallR X f r) ∧ R1OkO C.K r g
def callF (g : List D → Option D) (fl : LF) : EF := fun ρ => match fl ρ with
  | none => none
  | some (xs, ρ1) => match g xs with
    | none => none
    | some z => some (z, ρ1)
def callOF (g : List D → Option (List D)) (fl : LF) : OF := fun ρ => match fl ρ with
  | none => none
  | some (xs, ρ1) => match g xs with
    | none => none
    | some z => some (.lst z, ρ1)
theorem snd_call {r : List V → Hp → VK → Prop} {t : TA} {g : List D → Option D} (h : SndL K mg t gl) (hr : R1Ok K r g) : SndE K mg (tCB r t) (callF g gl) := by
  intro par ρ σ S d ρ' rl e Q q
  unfold callF at e
  split at e
  · cases e
  rename_i xs ρ1 e1
  split at e
  · cases e
  rename_i z e2
  cases e
  refine h par ρ σ S _ _ rl e1 _ fun S1 vs st r1 d1 => ?_
  refine hr S1.F S1.H xs _ vs r1.ext d1 e2 Q fun F' H' v gr dv => ?_
  obtain ⟨r3, st3⟩ := r1.grow gr.eF gr.eH gr.e gr.n
  exact q _ v (st.trans st3) r3 dv
theorem snd_callO {r : List V → Hp → VK → Prop} {t : TA} {g : List D → Option (List D)} (h : SndL K mg t gl) (hr : R1OkO K r g) : SndO K mg (tCB r t) (callOF g gl) := by
  intro par ρ σ S d ρ' rl e Q q
  unfold callOF at e
  split at e
  · cases e
  rename_i xs ρ1 e1
  split at e
  · cases e
  rename_i z e2
  cases e
  refine h par ρ σ S _ _ rl e1 _ fun S1 vs st r1 d1 => ?_
  refine hr S1.F S1.H xs _ vs r1.ext d1 e2 Q fun p ws hp dv => ?_
  obtain ⟨r2, st2, n⟩ := nw_lst st r1 hp dv
  exact q _ _ _ st2 r2 n
section
variable {id : String} {T : String} {g : List D → Option D} {g' : List D → Option (List D)}
theorem pd_callB (hc : CallS C (.builtin id) g) (hg : C.sc.names.lookup x = some .globalImplicit) (hm : C.mg x = none) (hv : bootBuiltins x = some (.builtin id)) (ha : PLF C (e :: es) gl) (hn : x ≠ "__name__" := by decide) (hdb : (x == ("__debug__" : Str)) = false := by decide)
    (he : ∀ env : PySem.Env, starEach (e :: es) env = (false, eval e env) :: starEach es env := by intro _; rfl) (hpl : ∀ env : PySem.Env, (backTo pos (starEach es env)).any (·.1) = false := by intro _; rfl) : PDF C (.Call (.Name x p) (e :: es) [] pos) (callF g gl) := by
  obtain ⟨r, h1, h2⟩ := hc
  obtain ⟨t, k1, k2⟩ := ha
  exact ⟨_, fun X h => pe_callB (h1 X h) (h.gl hg) (by rw [h.hm]; exact hm) hv (k1 X h) hn hdb (he _) (hpl _), snd_call k2 h2⟩
theorem pd_callT (hc : CallS C (.type T) g) (hg : C.sc.names.lookup x = some .globalImplicit) (hm : C.mg x = none) (hv : bootBuiltins x = some (.type T)) (ha : PLF C (e :: es) gl) (hn : x ≠ "__name__" := by decide) (hdb : (x == ("__debug__" : Str)) = false := by decide)
    (he : ∀ env : PySem.Env, starEach (e :: es) env = (false, eval e env) :: starEach es env := by intro _; rfl) (hpl : ∀ env : PySem.Env, (backTo pos (starEach es env)).any (·.1) = false := by intro _; rfl) : PDF C (.Call (.Name x p) (e :: es) [] pos) (callF g gl) := by
  obtain ⟨r, h1, h2⟩ := hc
  obtain ⟨t, k1, k2⟩ := ha
  exact ⟨_, fun X h => pe_callTy (h1 X h) (h.gl hg) (by rw [h.hm]; exact hm) hv (k1 X h) hn hdb (he _) (hpl _), snd_call k2 h2⟩
theorem po_callB (hc : CallO C (.builtin id) g') (hg : C.sc.names.lookup x = some .globalImplicit) (hm : C.mg x = none) (hv : bootBuiltins x = some (.builtin id)) (ha : PLF C (e :: es) gl) (hn : x ≠ "__name__" := by decide) (hdb : (x == ("__debug__" : Str)) = false := by decide)
    (he : ∀ env : PySem.Env, starEach (e :: es) env = (false, eval e env) :: starEach es env := by intro _; rfl) (hpl : ∀ env : PySem.Env, (backTo pos (starEach es env)).any (·.1) = false := by intro _; rfl) : POF C (.Call (.Name x p) (e :: es) [] pos) (callOF g' gl) := by
  obtain ⟨r, h1, h2⟩ := hc
  obtain ⟨t, k1, k2⟩ := ha
  exact ⟨_, fun X h => pe_callB (h1 X h) (h.gl hg) (by rw [h.hm]; exact hm) hv (k1 X h) hn hdb (he _) (hpl _), snd_callO k2 h2⟩
theorem po_callT (hc : CallO C (.type T) g') (hg : C.sc.names.lookup x = some .globalImplicit) (hm : C.mg x = none) (hv : bootBuiltins x = some (.type T)) (ha : PLF C (e :: es) gl) (hn : x ≠ "__name__" := by decide) (hdb : (x == ("__debug__" : Str)) = false := by decide)
    (he : ∀ env : PySem.Env, starEach (e :: es) env = (false, eval e env) :: starEach es env := by intro _; rfl) (hpl : ∀ env : PySem.Env, (backTo pos (starEach es env)).any (·.1) = false := by intro _; rfl) : POF C (.Call (.Name x p) (e :: es) [] pos) (callOF g' gl) := by
  obtain ⟨r, h1, h2⟩ := hc
  obtain ⟨t, k1, k2⟩ := ha
  exact ⟨_, fun X h => pe_callTy (h1 X h) (h.gl hg) (by rw [h.hm]; exact hm) hv (k1 X h) hn hdb (he _) (hpl _), snd_callO k2 h2⟩
end
/-- f(x), x in slot i looked at; the answer a number, a text, a bool -/
def callVF (g : List D → Option D) (i : Nat) : EF := fun ρ => match vwF i ρ with
  | none => none
  | some x => match g [x] with
    | none => none
    | some z => if sca z then some (z, ρ) else none
theorem pd_callV {id : String} {g : List D → Option D} {y : Str} {py : Pos} (hc : CallS C (.builtin id) g) (hg : C.sc.names.lookup x = some .globalImplicit) (hm : C.mg x = none) (hv : bootBuiltins x = some (.builtin id)) (i : Nat) (hN : C.N[i]? = some y) (hy : VisS C.sc y) (hn : x ≠ "__name__" := by decide) (hdb : (x == ("__debug__" : Str)) = false := by decide)
    (hd : (y == ("__debug__" : Str)) = false := by decide) (hcd : (y == ("__classdict__" : Str)) = false := by decide) : PDF C (.Call (.Name x p) [.Name y py] [] pos) (callVF g i) := by
  obtain ⟨r, h1, h2⟩ := hc
  refine ⟨_, fun X h => pe_callB (h1 X h) (h.gl hg) (by rw [h.hm]; exact hm) hv (pa_cons (pe_var (h.nm hN) (h.vis hy) hd hcd) pa_nil) hn hdb rfl rfl, ?_⟩
  intro par ρ σ S d ρ' rl e Q q
  unfold callVF at e
  split at e
  · cases e
  rename_i x0 e1
  split at e
  · cases e
  rename_i z e2
  split at e
  · rename_i hs
    cases e
    obtain ⟨v, k1, k2⟩ := rl.vwF e1
    refine ⟨v, k1, ?_⟩
    refine h2 S.H S.H [x0] _ [v] (Ex.refl _) (.cons k2 .nil) e2 Q fun F' H' w gr dw => ?_
    obtain ⟨r3, st3⟩ := rl.grow (Ex.refl _) gr.eH (rl.ext.trans gr.eH) (fun a h => .inl h)
    exact q _ w st3 r3 (dn_sca dw hs)
  · cases e
end
end G

set_option Elab.async false
set_option linter.all false
set_option maxRecDepth 100000
set_option maxHeartbeats 4000000
/-! statements -/
namespace G
open PySem PySem.Spec PyProof.Rows L2
inductive Res where
  | nx (ρ : Env)
  | bk (ρ : Env)
  | ct (ρ : Env)
  | rt (s : Sl) (ρ : Env)
abbrev SF := Env → Option Res
theorem Nw.trans {K : PySem.W.Frag} {S S1 S2 : Sn} {o : O} {v : V} {A : List Addr} (st : Step S S1) (n : Nw K S1 S2 o v A) : Nw K S S2 o v A :=
  ⟨n.ow, n.nown, n.nF, fun a ha => (n.org a ha).elim (fun z => st.org a z) fun z => .inr (by
    cases q : S.H a with
    | none => rfl
    | some o => exact absurd z (st.per a (by rw [q]; simp)))⟩
/-- what a def hands back -/
def RetV (K : PySem.W.Frag) (S S' : Sn) (v : V) : Sl → Prop
  | .d x => Dn K S'.F v x
  | .ow false o => ∃ A, Nw K S S' o v A
  | _ => False
theorem RetV.trans {K : PySem.W.Frag} {S S1 S2 : Sn} {v : V} {s : Sl} (st : Step S S1) (h : RetV K S1 S2 v s) : RetV K S S2 v s := by
  cases s with
  | un => exact h
  | fn x => exact h
  | d x => exact h
  | ow b o =>
    cases b with
    | true => exact h
    | false => obtain ⟨A, n⟩ := h; exact ⟨A, n.trans st⟩
section
variable (K : PySem.W.Frag) (mg : Str → Option Value)
def PostS (par : Nat → Option V) (S : Sn) (D : Ends) : Res → Prop
  | .nx ρ' => ∀ S' σ', Step S S' → Rl K mg par ρ' σ' S' → D.nx σ' S'.H
  | .bk ρ' => ∀ S' σ', Step S S' → Rl K mg par ρ' σ' S' → D.bk σ' S'.H
  | .ct ρ' => ∀ S' σ', Step S S' → Rl K mg par ρ' σ' S' → D.ct σ' S'.H
  | .rt s ρ' => ∀ S' σ' v, Step S S' → Rl K mg par ρ' σ' S' → RetV K S S' v s → D.rt v S'.H
def SndS (t : TS) (g : SF) : Prop := ∀ (par : Nat → Option V) (ρ : Env) (σ : L2.St) (S : Sn) (r : Res), Rl K mg par ρ σ S → g ρ = some r → ∀ D : Ends, PostS K mg par S D r → t D σ S.H
end
theorem PostS.of {K : PySem.W.Frag} {mg : Str → Option Value} {par : Nat → Option V} {S S1 : Sn} {D : Ends} {r : Res} (st : Step S S1) (h : PostS K mg par S D r) : PostS K mg par S1 D r := by
  cases r with
  | nx ρ => exact fun S' σ' st' r' => h S' σ' (st.trans st') r'
  | bk ρ => exact fun S' σ' st' r' => h S' σ' (st.trans st') r'
  | ct ρ => exact fun S' σ' st' r' => h S' σ' (st.trans st') r'
  | rt s ρ => exact fun S' σ' v st' r' q => h S' σ' v (st.trans st') r' (q.trans st)
def PSF (C : Ct) (st : Stmt) (g : SF) : Prop := ∃ t, (∀ X, C.In X → PS X st t) ∧ SndS C.K C.mg t g
def PBF (C : Ct) (sts : List Stmt) (g : SF) : Prop := ∃ t, (∀ X, C.In X → PSs X sts t) ∧ SndS C.K C.mg t g
section
variable {C : Ct} {a b c e : Expr} {es : List Expr} {pos p2 p : Pos} {fa fb fc : EF} {K : PySem.W.Frag} {mg : Str → Option Value} {i : Nat} {x : Str} {g h : SF} {st : Stmt} {sts : List Stmt}
/-! ### blocks -/
def nxS : SF := fun ρ => some (.nx ρ)
def seqS (g h : SF) : SF := fun ρ => match g ρ with
  | some (.nx ρ1) => h ρ1
  | r => r
theorem snd_seq {t u : TS} (h1 : SndS K mg t g) (h2 : SndS K mg u h) : SndS K mg (tSeq t u) (seqS g h) := by
  intro par ρ σ S r rl e D q
  unfold seqS at e
  show t { D with nx := u D } σ S.H
  split at e
  · rename_i ρ1 e1
    refine h1 par ρ σ S _ rl e1 _ fun S1 σ1 st r1 => ?_
    exact h2 par ρ1 σ1 S1 r r1 e D (q.of st)
  · rename_i r' hn
    refine h1 par ρ σ S _ rl e _ ?_
    cases r with
    | nx ρ1 => exact absurd e (hn ρ1)
    | bk ρ => exact q
    | ct ρ => exact q
    | rt s ρ => exact q
theorem pb_nil : PBF C [] nxS := ⟨_, fun X h => pss_nil, fun par ρ σ S r rl e D q => by cases e; exact q S σ (.refl S) rl⟩
theorem pb_cons (h1 : PSF C st g) (h2 : PBF C sts h) : PBF C (st :: sts) (seqS g h) := by
  obtain ⟨t, a1, a2⟩ := h1
  obtain ⟨u, b1, b2⟩ := h2
  exact ⟨_, fun X h => pss_cons (a1 X h) (b1 X h), snd_seq a2 b2⟩
theorem pb_one (h1 : PSF C st g) : PBF C [st] g := by
  obtain ⟨t, a1, a2⟩ := h1
  exact ⟨_, fun X h => pss_one (a1 X h), a2⟩
theorem ps_pass' : PSF C (.Pass pos) nxS := ⟨_, fun X h => ps_pass, fun par ρ σ S r rl e D q => by cases e; exact q S σ (.refl S) rl⟩
theorem ps_break' : PSF C (.Break pos) (fun ρ => some (.bk ρ)) := ⟨_, fun X h => ps_break, fun par ρ σ S r rl e D q => by cases e; exact q S σ (.refl S) rl⟩
theorem ps_cont' : PSF C (.Continue pos) (fun ρ => some (.ct ρ)) := ⟨_, fun X h => ps_continue, fun par ρ σ S r rl e D q => by cases e; exact q S σ (.refl S) rl⟩
def noS : SF := fun _ => none
theorem ps_no : PSF C st noS := ⟨_, fun X h => ps_never, fun par ρ σ S r rl e D q => nomatch e⟩
theorem pb_no : PBF C sts noS := ⟨_, fun X h => pss_never, fun par ρ σ S r rl e D q => nomatch e⟩

/-! ### names stored -/
def setSl (i : Nat) (s : Sl) (ρ : Env) : Option Env := match ρ[i]? with
  | none => none
  | some (.ow true _) => none
  | some _ => some (ρ.set i s)
theorem setSl_some {s : Sl} {ρ ρ' : Env} (h : setSl i s ρ = some ρ') : ρ' = ρ.set i s := by
  unfold setSl at h
  split at h
  · cases h
  · cases h
  · exact (Option.some.inj h).symm
def setF (i : Nat) (f : EF) : SF := fun ρ => match f ρ with
  | none => none
  | some (x, ρ1) => match setSl i (.d x) ρ1 with
    | none => none
    | some ρ2 => some (.nx ρ2)
def setOF (i : Nat) (f : OF) : SF := fun ρ => match f ρ with
  | none => none
  | some (o, ρ1) => match setSl i (.ow false o) ρ1 with
    | none => none
    | some ρ2 => some (.nx ρ2)
def LocS (sc : Scope) (x : Str) : Prop := sc.names.lookup x = some .local ∨ sc.names.lookup x = some .cell
theorem Ct.In.loc {X : Cx} (h : C.In X) (v : LocS C.sc x) : L2.Loc X.env.scope x := by unfold L2.Loc; rw [h.hs]; exact v
def FnS (C : Ct) (x : Str) : Prop := C.fnb x = true ∨ C.sc.names.lookup x = some .local
theorem Ct.In.fnl {X : Cx} (h : C.In X) (v : FnS C x) : X.fn x = true ∨ X.env.scope.names.lookup x = some .local := by
  rcases v with v | v
  · exact .inl (h.fn x v)
  · exact .inr (by rw [h.hs]; exact v)
theorem Ct.In.nd {X : Cx} (h : C.In X) (n : C.N.Nodup) : X.N.Nodup := by rw [h.hN]; exact n
theorem sw_cell {C : Ct} {elt : Expr} {gs : List Comprehension} {scope : Scope} {pos py : Pos} {y : Str} {l : Nat} (hk : C.sc.names.lookup y = some .cell) : ∀ env : PySem.Env, env.scope = C.sc → swapsWith (.ListComp elt gs scope pos) (some (.Name y py)) l env = pure false := by
  intro env he
  have ky : env.kindOf y = some .cell := by
    show env.scope.names.lookup y = _
    rw [he]
    exact hk
  unfold swapsWith
  simp only [ky]
  have z : ((some NameKind.cell : Option NameKind) == some NameKind.local) = false := by decide
  rw [z]
  simp
theorem ps_set' (i : Nat) {pos' : Pos} (n : C.N.Nodup) (hN : C.N[i]? = some x) (hx : LocS C.sc x) (hf : FnS C x) (he : PDF C e fa) (hs : ∀ env : PySem.Env, env.scope = C.sc → swapsWith e (some (.Name x pos')) pos.line env = pure false := by intro _ _; rfl) : PSF C (.Assign [.Name x pos'] e pos) (setF i fa) := by
  obtain ⟨t, h1, h2⟩ := he
  refine ⟨_, fun X h => ps_set (h.nd n) (h.nm hN) (h.loc hx) (h1 X h) (hs _ h.hs) (h.fnl hf), ?_⟩
  intro par ρ σ S r rl e D q
  unfold setF at e
  split at e
  · cases e
  rename_i x0 ρ1 e1
  split at e
  · cases e
  rename_i ρ2 e2
  cases e
  cases setSl_some e2
  refine h2 par ρ σ S _ _ rl e1 _ fun S1 v st r1 d1 => ?_
  obtain ⟨S2, r2, st2, eH, _⟩ := r1.putD i d1
  show D.nx (σ.set i (some v)) S1.H
  rw [← eH]
  exact q S2 _ (st.trans st2) r2
theorem ps_setO (i : Nat) {f : OF} {pos' : Pos} (n : C.N.Nodup) (hN : C.N[i]? = some x) (hx : LocS C.sc x) (hf : FnS C x) (he : POF C e f) (hs : ∀ env : PySem.Env, env.scope = C.sc → swapsWith e (some (.Name x pos')) pos.line env = pure false := by intro _ _; rfl) : PSF C (.Assign [.Name x pos'] e pos) (setOF i f) := by
  obtain ⟨t, h1, h2⟩ := he
  refine ⟨_, fun X h => ps_set (h.nd n) (h.nm hN) (h.loc hx) (h1 X h) (hs _ h.hs) (h.fnl hf), ?_⟩
  intro par ρ σ S r rl e D q
  unfold setOF at e
  split at e
  · cases e
  rename_i x0 ρ1 e1
  split at e
  · cases e
  rename_i ρ2 e2
  cases e
  cases setSl_some e2
  refine h2 par ρ σ S _ _ rl e1 _ fun S1 v A st r1 n1 => ?_
  obtain ⟨S2, r2, st2, eH, _⟩ := r1.putO i n1 st
  show D.nx (σ.set i (some v)) S1.H
  rw [← eH]
  exact q S2 _ st2 r2
/-- x op= e, x data -/
def augF (i : Nat) (g : D → D → Option D) (f : EF) : SF := fun ρ => match ρ[i]? with
  | some (.d x) => (match f ρ with
    | none => none
    | some (y, ρ1) => match g x y with
      | none => none
      | some z => match setSl i (.d z) ρ1 with
        | none => none
        | some ρ2 => some (.nx ρ2))
  | _ => none
theorem ps_augI (i : Nat) {pos' : Pos} (n : C.N.Nodup) (hN : C.N[i]? = some x) (hx : LocS C.sc x) (hf : FnS C x) (he : PDF C e fa) : PSF C (.AugAssign (.Name x pos') .Add e pos) (augF i (iiI (· + ·)) fa) := by
  obtain ⟨t, h1, h2⟩ := he
  refine ⟨_, fun X h => ps_aug (h.nd n) (h.nm hN) (h.loc hx) (h1 X h) ip_add (h.fnl hf), ?_⟩
  intro par ρ σ S r rl e D q
  unfold augF at e
  split at e
  · rename_i x0 ex
    split at e
    · cases e
    rename_i y ρ1 e1
    split at e
    · cases e
    rename_i z e2
    split at e
    · cases e
    rename_i ρ2 e3
    cases e
    cases setSl_some e3
    obtain ⟨v, hv, dv⟩ := rl.getD ex
    refine ⟨v, hv, ?_⟩
    refine h2 par ρ σ S _ _ rl e1 _ fun S1 w st r1 d1 => ?_
    unfold iiI at e2
    split at e2
    · rename_i m k
      cases dv
      cases d1
      cases e2
      obtain ⟨S2, r2, st2, eH, _⟩ := r1.putD i (x := .int (m + k)) (.int _)
      refine ⟨m, k, rfl, rfl, ?_⟩
      rw [← eH]
      exact q S2 _ (st.trans st2) r2
    · cases e2
  · cases e

/-! ### return, expressions, if -/
def retF (f : EF) : SF := fun ρ => match f ρ with
  | none => none
  | some (x, ρ1) => some (.rt (.d x) ρ1)
def retOF (f : OF) : SF := fun ρ => match f ρ with
  | none => none
  | some (o, ρ1) => some (.rt (.ow false o) ρ1)
theorem ps_ret' (he : PDF C e fa) : PSF C (.Return (some e) pos) (retF fa) := by
  obtain ⟨t, h1, h2⟩ := he
  refine ⟨_, fun X h => ps_ret (h1 X h), ?_⟩
  intro par ρ σ S r rl e D q
  unfold retF at e
  split at e
  · cases e
  rename_i x0 ρ1 e1
  cases e
  exact h2 par ρ σ S _ _ rl e1 _ fun S1 v st r1 d1 => q S1 σ v st r1 d1
theorem ps_retO {f : OF} (he : POF C e f) : PSF C (.Return (some e) pos) (retOF f) := by
  obtain ⟨t, h1, h2⟩ := he
  refine ⟨_, fun X h => ps_ret (h1 X h), ?_⟩
  intro par ρ σ S r rl e D q
  unfold retOF at e
  split at e
  · cases e
  rename_i x0 ρ1 e1
  cases e
  exact h2 par ρ σ S _ _ rl e1 _ fun S1 v A st r1 d1 => q S1 σ v st r1 ⟨A, d1⟩
/-- return x, x an own object: it goes with the value -/
def retNF (i : Nat) : SF := fun ρ => match ρ[i]? with
  | some (.d x) => some (.rt (.d x) ρ)
  | some (.ow false o) => some (.rt (.ow false o) (ρ.set i .un))
  | _ => none
theorem Rl.drop {par : Nat → Option V} {ρ : Env} {σ : L2.St} {S : Sn} (r : Rl K mg par ρ σ S) {o : O} (e : ρ[i]? = some (.ow false o)) :
    ∃ S' v A, Rl K mg par (ρ.set i .un) σ S' ∧ Step S S' ∧ S'.H = S.H ∧ σ[i]? = some (some v) ∧ Nw K S S' o v A := by
  obtain ⟨v, A, hv, ow, _, hA⟩ := r.getO e
  obtain ⟨own', r', h1, h2⟩ := r.put i (s := .un) (v := v) (A := []) (Ex.refl _) r.ext (fun _ => rfl) (fun a ha => nomatch ha) (fun a h => .inl h) σ (.inr ⟨rfl, hv⟩)
  refine ⟨_, v, A, r', ⟨Ex.refl _, fun a o h _ => h, fun a h => h, fun a h => .inl h, fun a h => (h1 a h).elim .inl fun z => nomatch z⟩, rfl, hv, ⟨ow, fun a ha z => ?_, fun a ha => r.avo a (hA a ha), fun a ha => .inl (hA a ha)⟩⟩
  -- no other slot has it
  obtain ⟨As, k1, k2, k3, k4⟩ := r.slots
  obtain ⟨As', l1, l2, l3, l4⟩ := r'.slots
  obtain ⟨j, hj⟩ := (l4 a).mp z
  have eA : As i = A := by
    obtain ⟨v', hv', ow', _⟩ := k1 i _ e
    rw [hv] at hv'
    cases hv'
    exact ow'.inj ow
  by_cases q : j = i
  · subst q
    have hl : j < ρ.length := (List.getElem?_eq_some_iff.mp e).1
    have z2 := l1 j .un (by rw [List.getElem?_set_self hl])
    rw [show As' j = [] from z2] at hj
    cases hj
  · -- the same addresses in the old relation
    cases w : ρ[j]? with
    | none =>
      have : As' j = [] := l2 j (by rw [List.getElem?_set_ne (Ne.symm q)]; exact w)
      rw [this] at hj
      cases hj
    | some s =>
      have z1 := l1 j s (by rw [List.getElem?_set_ne (Ne.symm q)]; exact w)
      have z2 := k1 j s w
      have eq : As' j = As j := by
        cases s with
        | un => exact (show As' j = [] from z1).trans (show As j = [] from z2).symm
        | d x => exact z1.1.trans z2.1.symm
        | fn x => exact z1.1.trans z2.1.symm
        | ow fx o2 =>
          obtain ⟨v1, hv1, w1, _⟩ := z1
          obtain ⟨v2, hv2, w2, _⟩ := z2
          rw [hv1] at hv2
          cases hv2
          exact w1.inj w2
      rw [eq] at hj
      exact q (k3 j i a hj (by rw [eA]; exact ha))
theorem ps_retN' (i : Nat) (hN : C.N[i]? = some x) (hv : VisS C.sc x) (hd : (x == ("__debug__" : Str)) = false := by decide) (hcd : (x == ("__classdict__" : Str)) = false := by decide) : PSF C (.Return (some (.Name x p)) pos) (retNF i) := by
  refine ⟨_, fun X h => ps_ret (pe_var (h.nm hN) (h.vis hv) hd hcd), ?_⟩
  intro par ρ σ S r rl e D q
  unfold retNF at e
  split at e
  · rename_i x0 ex
    cases e
    obtain ⟨v, h1, h2⟩ := rl.getD ex
    exact ⟨v, h1, q S σ v (.refl S) rl h2⟩
  · rename_i o ex
    cases e
    obtain ⟨S', v, A, r', st, eH, hv, n⟩ := rl.drop ex
    refine ⟨v, hv, ?_⟩
    rw [← eH]
    exact q S' σ v st r' ⟨A, n⟩
  · cases e
theorem ps_ret0 : PSF C (.Return none pos) (fun ρ => some (.rt (.d .none) ρ)) := by
  refine ⟨_, fun X h => ps_retN, ?_⟩
  intro par ρ σ S r rl e D q
  cases e
  exact q S σ .non (.refl S) rl .non
/-- an expression whose value is dropped -/
def dropS (f : EF) : SF := fun ρ => match f ρ with
  | none => none
  | some (_, ρ1) => some (.nx ρ1)
theorem ps_drop (he : PDF C e fa) (hs : ∀ env : PySem.Env, swapsWith e none pos.line env = pure false := by intro _; rfl) : PSF C (.Expr e pos) (dropS fa) := by
  obtain ⟨t, h1, h2⟩ := he
  refine ⟨_, fun X h => ps_expr (h1 X h) (hs _), ?_⟩
  intro par ρ σ S r rl e D q
  unfold dropS at e
  split at e
  · cases e
  rename_i x0 ρ1 e1
  cases e
  exact h2 par ρ σ S _ _ rl e1 _ fun S1 v st r1 d1 => q S1 σ st r1
def ifS (c : TF) (g h : SF) : SF := fun ρ => match c ρ with
  | none => none
  | some (true, ρ1) => g ρ1
  | some (false, ρ1) => h ρ1
theorem ps_if' {ct : TF} {as bs : List Stmt} (hc : PTF C c ct) (ha : PBF C as g) (hb : PBF C bs h) : PSF C (.If c as bs pos) (ifS ct g h) := by
  obtain ⟨t, h1, h2⟩ := hc
  obtain ⟨u, a1, a2⟩ := ha
  obtain ⟨w, b1, b2⟩ := hb
  refine ⟨_, fun X h => ps_if (h1 X h) (a1 X h) (b1 X h), ?_⟩
  intro par ρ σ S r rl e D q
  unfold ifS at e
  split at e
  · cases e
  · rename_i ρ1 e1
    refine h2 par ρ σ S _ _ rl e1 _ fun S1 st r1 => ?_
    show (if true = true then _ else _)
    rw [if_pos rfl]
    exact a2 par ρ1 σ S1 r r1 e D (q.of st)
  · rename_i ρ1 e1
    refine h2 par ρ σ S _ _ rl e1 _ fun S1 st r1 => ?_
    show (if false = true then _ else _)
    rw [if_neg Bool.false_ne_true]
    exact b2 par ρ1 σ S1 r r1 e D (q.of st)

/-! ### own lists changed -/
def appF (i : Nat) (f : EF) : EF := fun ρ => match ρ[i]? with
  | some (.ow _ (.lst _)) => (match f ρ with
    | none => none
    | some (x, ρ1) => match ρ1[i]? with
      | some (.ow fx (.lst xs)) => if xs.length < 10000000 then some (.none, ρ1.set i (.ow fx (.lst (xs ++ [x])))) else none
      | _ => none)
  | _ => none
theorem Rl.getL {par : Nat → Option V} {ρ : Env} {σ : L2.St} {S : Sn} (r : Rl K mg par ρ σ S) {fx : Bool} {xs : List D} (e : ρ[i]? = some (.ow fx (.lst xs))) : ∃ a vs, σ[i]? = some (some (.ref a)) ∧ S.H a = some (.lst vs) ∧ DnAll K S.F vs xs := by
  obtain ⟨v, A, h1, ⟨a, vs, e1, _, e3, e4⟩, _⟩ := r.getO e
  rw [e1] at h1
  exact ⟨a, vs, h1, e3, e4⟩
theorem tyV_list {H : Hp} {a : Addr} {vs : List V} (h : H a = some (.lst vs)) : tyV K "list" (.ref a) H := .inl ⟨rfl, vs, SqL.of h⟩
theorem pd_app (i : Nat) (hN : C.N[i]? = some x) (hv : VisS C.sc x) (he : PDF C e fa) {apos : Pos} (hline : (apos.endLine == pos.line) = true := by rfl) (hd : (x == ("__debug__" : Str)) = false := by decide) (hcd : (x == ("__classdict__" : Str)) = false := by decide)
    (hb : ∀ env : PySem.Env, attributeBase (.Name x p) "append" env (eval (.Name x p) env) = eval (.Name x p) env := by intro _; rfl)
    (hfew : ∀ env : PySem.Env, ((backTo pos (starEach [e] env)).all (fun x => !x.1) && (backToKw pos (keywordEach [] env)).all (fun x => x.1.isSome) && decide (([e] : List Expr).length + ([] : List Keyword).length + (if ([] : List Keyword).isEmpty then 0 else 1) < 30)) = true := by intro _; rfl)
    (hs : ∀ env : PySem.Env, starEach [e] env = [(false, eval e env)] := by intro _; rfl) :
    PDF C (.Call (.Attribute (.Name x p) "append" apos) [e] [] pos) (appF i fa) := by
  obtain ⟨t, h1, h2⟩ := he
  refine ⟨tBM C.K "list" rAppend (tVar i) (tCons t tNil), fun X h => by rw [← h.hK]; exact pe_bm PySem.F.plainAttrs_list PySem.F.slot_list_append PySem.F.type_list_append mt_append (pe_var (h.nm hN) (h.vis hv) hd hcd) (pa_cons (h1 X h) pa_nil (hs _)) (hb _) (hfew _) hline (hs _) rfl, ?_⟩
  intro par ρ σ S d ρ' rl e Q q
  unfold appF at e
  split at e
  · rename_i fx0 xs0 ex0
    split at e
    · cases e
    rename_i x1 ρ1 e1
    split at e
    · rename_i fx xs ex
      split at e
      · rename_i hz
        cases e
        obtain ⟨a, vs, hv1, hH, _⟩ := rl.getL ex0
        refine ⟨_, hv1, tyV_list hH, ?_⟩
        refine h2 par ρ σ S _ _ rl e1 _ fun S1 v st r1 d1 => ?_
        obtain ⟨a', vs', hv2, hH2, dv⟩ := r1.getL ex
        rw [hv1] at hv2
        cases hv2
        obtain ⟨S2, r2, st2, eH, eF⟩ := r1.updO (u := .lst (vs' ++ [v])) (o' := .lst (xs ++ [x1])) ex hv1 ⟨a, _, rfl, rfl, upd_same, dv.append (.cons d1 .nil)⟩
        refine ⟨a, vs', v, rfl, rfl, hH2, sz_ok (by rw [dv.length]; exact hz), ?_⟩
        rw [← eH]
        exact q S2 _ (st.trans st2) r2 .non
      · cases e
    · cases e
  · cases e
/-- xs.pop(), xs.pop(k): the last, the k-th -/
def popF (i : Nat) : EF := fun ρ => match ρ[i]? with
  | some (.ow fx (.lst xs)) => (match xs[xs.length - 1]? with
    | some y => some (y, ρ.set i (.ow fx (.lst xs.dropLast)))
    | none => none)
  | _ => none
theorem pd_pop (i : Nat) (hN : C.N[i]? = some x) (hv : VisS C.sc x) {apos : Pos} (hline : (apos.endLine == pos.line) = true := by rfl) (hd : (x == ("__debug__" : Str)) = false := by decide) (hcd : (x == ("__classdict__" : Str)) = false := by decide)
    (hb : ∀ env : PySem.Env, attributeBase (.Name x p) "pop" env (eval (.Name x p) env) = eval (.Name x p) env := by intro _; rfl) : PDF C (.Call (.Attribute (.Name x p) "pop" apos) [] [] pos) (popF i) := by
  refine ⟨tBM0 C.K "list" rPop (tVar i), fun X h => by rw [← h.hK]; exact pe_bm0 PySem.F.plainAttrs_list PySem.F.slot_list_pop PySem.F.type_list_pop mt_pop (pe_var (h.nm hN) (h.vis hv) hd hcd) (hb _) hline, ?_⟩
  intro par ρ σ S d ρ' rl e Q q
  unfold popF at e
  split at e
  · rename_i fx xs ex
    split at e
    · rename_i y ey
      cases e
      obtain ⟨a, vs, hv1, hH, dv⟩ := rl.getL ex
      obtain ⟨w, hw, dw⟩ := dv.get ey
      rw [← dv.length] at hw
      obtain ⟨S2, r2, st2, eH, eF⟩ := rl.updO (u := .lst vs.dropLast) (o' := .lst xs.dropLast) ex hv1 ⟨a, _, rfl, rfl, upd_same, dv.dropLast⟩
      refine ⟨_, hv1, tyV_list hH, a, vs, w, rfl, rfl, hH, hw, ?_⟩
      rw [← eH]
      exact q S2 _ st2 r2 (by rw [eF]; exact dw)
    · cases e
  · cases e
def popAtF (i : Nat) (f : EF) : EF := fun ρ => match ρ[i]? with
  | some (.ow _ (.lst _)) => (match f ρ with
    | some (.int n, ρ1) => (match ρ1[i]? with
      | some (.ow fx (.lst xs)) => if 0 ≤ n ∧ n < 10000000 then (match xs[n.toNat]? with
        | some y => some (y, ρ1.set i (.ow fx (.lst (xs.eraseIdx n.toNat))))
        | none => none) else none
      | _ => none)
    | _ => none)
  | _ => none
theorem pd_popAt (i : Nat) (hN : C.N[i]? = some x) (hv : VisS C.sc x) (he : PDF C e fa) {apos : Pos} (hline : (apos.endLine == pos.line) = true := by rfl) (hd : (x == ("__debug__" : Str)) = false := by decide) (hcd : (x == ("__classdict__" : Str)) = false := by decide)
    (hb : ∀ env : PySem.Env, attributeBase (.Name x p) "pop" env (eval (.Name x p) env) = eval (.Name x p) env := by intro _; rfl)
    (hfew : ∀ env : PySem.Env, ((backTo pos (starEach [e] env)).all (fun x => !x.1) && (backToKw pos (keywordEach [] env)).all (fun x => x.1.isSome) && decide (([e] : List Expr).length + ([] : List Keyword).length + (if ([] : List Keyword).isEmpty then 0 else 1) < 30)) = true := by intro _; rfl)
    (hs : ∀ env : PySem.Env, starEach [e] env = [(false, eval e env)] := by intro _; rfl) : PDF C (.Call (.Attribute (.Name x p) "pop" apos) [e] [] pos) (popAtF i fa) := by
  obtain ⟨t, h1, h2⟩ := he
  refine ⟨tBM C.K "list" rPopAt (tVar i) (tCons t tNil), fun X h => by rw [← h.hK]; exact pe_bm PySem.F.plainAttrs_list PySem.F.slot_list_pop PySem.F.type_list_pop mt_popAt (pe_var (h.nm hN) (h.vis hv) hd hcd) (pa_cons (h1 X h) pa_nil (hs _)) (hb _) (hfew _) hline (hs _) rfl, ?_⟩
  intro par ρ σ S d ρ' rl e Q q
  unfold popAtF at e
  split at e
  · rename_i fx0 xs0 ex0
    split at e
    · rename_i n ρ1 e1
      split at e
      · rename_i fx xs ex
        split at e
        · rename_i hn
          split at e
          · rename_i y ey
            cases e
            obtain ⟨a, vs, hv1, hH, _⟩ := rl.getL ex0
            refine ⟨_, hv1, tyV_list hH, ?_⟩
            refine h2 par ρ σ S _ _ rl e1 _ fun S1 v st r1 d1 => ?_
            cases d1
            obtain ⟨a', vs', hv2, hH2, dv⟩ := r1.getL ex
            rw [hv1] at hv2
            cases hv2
            obtain ⟨w, hw, dw⟩ := dv.get ey
            have hl : n.toNat < vs'.length := (List.getElem?_eq_some_iff.mp hw).1
            obtain ⟨S2, r2, st2, eH, eF⟩ := r1.updO (u := .lst (vs'.eraseIdx n.toNat)) (o' := .lst (xs.eraseIdx n.toNat)) ex hv1 ⟨a, _, rfl, rfl, upd_same, dv.eraseIdx _⟩
            have hix : seqIndex? n vs'.length = some n.toNat := by
              have : ixN vs'.length n = some n.toNat := by
                unfold ixN
                rw [if_pos hn.1, if_pos (by omega)]
              exact (ixN_seq this).1
            refine ⟨a, vs', n, n.toNat, w, rfl, rfl, hH2, by omega, by omega, hix, hw, ?_⟩
            rw [← eH]
            exact q S2 _ (st.trans st2) r2 (by rw [eF]; exact dw)
          · cases e
        · cases e
      · cases e
    · cases e
  · cases e
/-- xs[i] = e -/
def setIxF (i : Nat) (fi f : EF) : SF := fun ρ => match f ρ with
  | none => none
  | some (x, ρ1) => match ρ1[i]? with
    | some (.ow _ (.lst _)) => (match fi ρ1 with
      | some (.int n, ρ2) => (match ρ2[i]? with
        | some (.ow fx (.lst xs)) => (match ixN xs.length n with
          | some j => some (.nx (ρ2.set i (.ow fx (.lst (xs.set j x)))))
          | none => none)
        | _ => none)
      | _ => none)
    | _ => none
theorem ps_setIx (i : Nat) (hN : C.N[i]? = some x) (hv : VisS C.sc x) (hb : PDF C b fb) (he : PDF C e fa) {spos : Pos} (hd : (x == ("__debug__" : Str)) = false := by decide) (hcd : (x == ("__classdict__" : Str)) = false := by decide)
    (hs : ∀ env : PySem.Env, swapsWithSole [.Subscript (.Name x p) b spos] e pos.line env = pure false := by intro _; rfl) (hw : ∀ env : PySem.Env, swappedStores [.Subscript (.Name x p) b spos] e env = pure none := by intro _; rfl)
    (h1' : ∀ env : PySem.Env, (assignEach [.Subscript (.Name x p) b spos] env).map (·.2) = [assign (.Subscript (.Name x p) b spos) env] := by intro _; rfl)
    (ha : ∀ (env : PySem.Env) v, assign (.Subscript (.Name x p) b spos) env v = (do
      let ov ← holding [v] (eval (.Name x p) env)
      let iv ← holding [v, ov] (eval b env)
      standAt spos
      holding [v, ov, iv] (setItem ov iv v)
      release [v, ov, iv] []) := by intro _ _; rfl) : PSF C (.Assign [.Subscript (.Name x p) b spos] e pos) (setIxF i fb fa) := by
  obtain ⟨tb, b1, b2⟩ := hb
  obtain ⟨t, h1, h2⟩ := he
  refine ⟨_, fun X h => ps_asg (h1 X h) (pg_sub (pe_var (h.nm hN) (h.vis hv) hd hcd) (b1 X h) set_list (ha _)) (hs _) (hw _) (h1' _), ?_⟩
  intro par ρ σ S r rl e D q
  unfold setIxF at e
  split at e
  · cases e
  rename_i x1 ρ1 e1
  split at e
  · rename_i fx0 xs0 ex0
    split at e
    · rename_i n ρ2 e2
      split at e
      · rename_i fx xs ex
        split at e
        · rename_i j ej
          cases e
          refine h2 par ρ σ S _ _ rl e1 _ fun S1 v st r1 d1 => ?_
          obtain ⟨a, vs, hv1, hH, _⟩ := r1.getL ex0
          refine ⟨_, hv1, ?_⟩
          refine b2 par ρ1 σ S1 _ _ r1 e2 _ fun S2 w st2 r2 d2 => ?_
          cases d2
          obtain ⟨a', vs', hv2, hH2, dv⟩ := r2.getL ex
          rw [hv1] at hv2
          cases hv2
          obtain ⟨S3, r3, st3, eH, eF⟩ := r2.updO (u := .lst (vs'.set j v)) (o' := .lst (xs.set j x1)) ex hv1 ⟨a, _, rfl, rfl, upd_same, dv.set j (dp_mono st2.ex d1)⟩
          refine ⟨a, vs', n, j, rfl, rfl, hH2, by rw [dv.length]; exact ej, ?_⟩
          rw [← eH]
          exact q S3 σ ((st.trans st2).trans st3) r3
        · cases e
      · cases e
    · cases e
  · cases e
end
end G

set_option Elab.async false
set_option linter.all false
set_option maxRecDepth 100000
set_option maxHeartbeats 4000000
/-! loops and comprehensions -/
namespace G
open PySem PySem.Spec PyProof.Rows L2

/-! ### targets -/
def SndG (K : PySem.W.Frag) (mg : Str → Option Value) (is : List Nat) (g : TG) (B : D → Env → Option Env) : Prop :=
  ∀ (par : Nat → Option V) (ρ : Env) (σ : L2.St) (S : Sn) (x : D) (v : V) (ρ' : Env), Rl K mg par ρ σ S → Dn K S.F v x → B x ρ = some ρ' → ∀ Q : L2.St → Hp → Prop,
    (∀ S' σ', Step S S' → Rl K mg par ρ' σ' S' → σ'.length = σ.length → (∀ j, j ∉ is → σ'[j]? = σ[j]?) → Q σ' S'.H) → g v σ S.H Q
def PGF (C : Ct) (tg : Expr) (is : List Nat) (B : D → Env → Option Env) : Prop := ∃ g, (∀ X, C.In X → PG X tg g) ∧ SndG C.K C.mg is g B
def bN (i : Nat) : D → Env → Option Env := fun x ρ => setSl i (.d x) ρ
/-- several targets -/
def SndGs (K : PySem.W.Frag) (mg : Str → Option Value) (is : List Nat) (g : TGs) (B : List D → Env → Option Env) : Prop :=
  ∀ (par : Nat → Option V) (ρ : Env) (σ : L2.St) (S : Sn) (xs : List D) (vs : List V) (ρ' : Env), Rl K mg par ρ σ S → DnAll K S.F vs xs → B xs ρ = some ρ' → ∀ Q : L2.St → Hp → Prop,
    (∀ S' σ', Step S S' → Rl K mg par ρ' σ' S' → σ'.length = σ.length → (∀ j, j ∉ is → σ'[j]? = σ[j]?) → Q σ' S'.H) → g vs σ S.H Q
def PGsF (C : Ct) (ts : List Expr) (is : List Nat) (B : List D → Env → Option Env) : Prop := ∃ g, (∀ X, C.In X → PGs X ts g) ∧ SndGs C.K C.mg is g B
def bNil : List D → Env → Option Env := fun xs ρ => match xs with | [] => some ρ | _ => none
def bCons (B : D → Env → Option Env) (Bs : List D → Env → Option Env) : List D → Env → Option Env := fun xs ρ => match xs with
  | x :: r => (match B x ρ with
    | some ρ1 => Bs r ρ1
    | none => none)
  | [] => none
def bT (n : Nat) (Bs : List D → Env → Option Env) : D → Env → Option Env := fun x ρ => match x with
  | .tuple xs => if xs.length = n then Bs xs ρ else none
  | _ => none
section
variable {C : Ct} {a b c e tg : Expr} {es ts : List Expr} {pos p2 p : Pos} {fa fb fc : EF} {K : PySem.W.Frag} {mg : Str → Option Value} {i : Nat} {x : Str} {g h : SF} {st : Stmt} {sts : List Stmt} {is js : List Nat} {B : D → Env → Option Env} {Bs : List D → Env → Option Env}
theorem pg_nm (i : Nat) (n : C.N.Nodup) (hN : C.N[i]? = some x) (hx : LocS C.sc x) (hf : FnS C x) : PGF C (.Name x pos) [i] (bN i) := by
  refine ⟨_, fun X h => pg_name (h.nd n) (h.nm hN) (h.loc hx) (h.fnl hf), ?_⟩
  intro par ρ σ S x v ρ' rl dv e Q q
  cases setSl_some e
  obtain ⟨S2, r2, st2, eH, _⟩ := rl.putD i dv
  show Q (σ.set i (some v)) S.H
  rw [← eH]
  exact q S2 _ st2 r2 (by simp) fun j hj => List.getElem?_set_ne (fun z => hj (by simp [z]))
theorem pgs_nil' : PGsF C [] [] bNil := by
  refine ⟨_, fun X h => pgs_nil, ?_⟩
  intro par ρ σ S xs vs ρ' rl dv e Q q
  unfold bNil at e
  split at e
  · cases e
    cases dv
    exact ⟨rfl, q S σ (.refl S) rl rfl fun _ _ => rfl⟩
  · cases e
theorem pgs_cons' (h1 : PGF C tg is B) (h2 : PGsF C ts js Bs) (hs : ∀ env : PySem.Env, (assignEach (tg :: ts) env).map (·.2) = assign tg env :: (assignEach ts env).map (·.2) := by intro _; rfl) : PGsF C (tg :: ts) (is ++ js) (bCons B Bs) := by
  obtain ⟨g, a1, a2⟩ := h1
  obtain ⟨k, b1, b2⟩ := h2
  refine ⟨_, fun X h => pgs_cons (a1 X h) (b1 X h) (hs _), ?_⟩
  intro par ρ σ S xs vs ρ' rl dv e Q q
  unfold bCons at e
  split at e
  · rename_i x r
    split at e
    · rename_i ρ1 e1
      cases dv with
      | cons d1 dr =>
        refine ⟨_, _, rfl, a2 par ρ σ S x _ ρ1 rl d1 e1 _ fun S1 σ1 st1 r1 l1 k1 => ?_⟩
        refine b2 par ρ1 σ1 S1 r _ ρ' r1 (dps_mono st1.ex dr) e _ fun S2 σ2 st2 r2 l2 k2 => ?_
        refine q S2 σ2 (st1.trans st2) r2 (l2.trans l1) fun j hj => ?_
        simp only [List.mem_append, not_or] at hj
        rw [k2 j hj.2, k1 j hj.1]
    · cases e
  · cases e
theorem pg_tup' {k : Nat} {n : Nat} (h : PGsF C es is Bs) (hn : ∀ env : PySem.Env, (assignEach es env).length = n := by intro _; rfl) (hst : ∀ env : PySem.Env, (assignEach es env).findIdx? (·.1) = none := by intro _; rfl) : PGF C (.Tuple es k pos) is (bT n Bs) := by
  obtain ⟨g, a1, a2⟩ := h
  refine ⟨gTup C.K n g, fun X h => by rw [← h.hK]; exact pg_tup h.calm (a1 X h) (hn _) (hst _), ?_⟩
  intro par ρ σ S x v ρ' rl dv e Q q
  unfold bT at e
  split at e
  · rename_i xs
    split at e
    · rename_i hl
      cases dv with
      | tup ht dr =>
        exact ⟨_, _, rfl, rl.ext.t ht, dr.length.trans hl, a2 par ρ σ S xs _ ρ' rl dr e Q q⟩
    · cases e
  · cases e
/-- targets = a value -/
def asgF (B : D → Env → Option Env) (f : EF) : SF := fun ρ => match f ρ with
  | none => none
  | some (x, ρ1) => match B x ρ1 with
    | none => none
    | some ρ2 => some (.nx ρ2)
theorem ps_asg' (he : PDF C e fa) (hg : PGF C tg is B) (hs : ∀ env : PySem.Env, swapsWithSole [tg] e pos.line env = pure false := by intro _; rfl) (hw : ∀ env : PySem.Env, swappedStores [tg] e env = pure none := by intro _; rfl)
    (h1 : ∀ env : PySem.Env, (assignEach [tg] env).map (·.2) = [assign tg env] := by intro _; rfl) : PSF C (.Assign [tg] e pos) (asgF B fa) := by
  obtain ⟨t, k1, k2⟩ := he
  obtain ⟨g, a1, a2⟩ := hg
  refine ⟨_, fun X h => ps_asg (k1 X h) (a1 X h) (hs _) (hw _) (h1 _), ?_⟩
  intro par ρ σ S r rl e D q
  unfold asgF at e
  split at e
  · cases e
  rename_i x0 ρ1 e1
  split at e
  · cases e
  rename_i ρ2 e2
  cases e
  refine k2 par ρ σ S _ _ rl e1 _ fun S1 v st r1 d1 => ?_
  exact a2 par ρ1 σ S1 x0 v _ r1 d1 e2 _ fun S2 σ2 st2 r2 _ _ => q S2 σ2 (st.trans st2) r2

/-! ### what is walked -/
/-- the iterator J yields the data xs, while the data's heap grows from F0 -/
def ItOk (K : PySem.W.Frag) (J : It) (F0 : Hp) (xs : List D) : Prop := ∀ F H, Ex F0 F → Ex F H → ∀ i,
  (∀ x, xs[i]? = some x → J.go i H ∧ ∀ v H', J.yld i H v H' → ∃ F', Gr F H F' H' ∧ Dn K F' v x) ∧ (xs.length ≤ i → J.stop i H)
def SndI (K : PySem.W.Frag) (mg : Str → Option Value) (wi : TI) (f : LF) : Prop :=
  ∀ (par : Nat → Option V) (ρ : Env) (σ : L2.St) (S : Sn) (xs : List D) (ρ' : Env), Rl K mg par ρ σ S → f ρ = some (xs, ρ') → ∀ R : It → Hp → Prop,
    (∀ S' J, Step S S' → Rl K mg par ρ' σ S' → xs.length ≤ sizeLine → ItOk K J S'.F xs → R J S'.H) → wi σ S.H R
def PIF (C : Ct) (tg iter : Expr) (f : LF) : Prop := ∃ wi, (∀ X, C.In X → PI X tg iter wi) ∧ SndI C.K C.mg wi f
theorem itok_list {a : Addr} {vs : List V} {xs : List D} {F0 : Hp} (ha : SqL K F0 a vs) (d : DnAll K F0 vs xs) : ItOk K (Itl K a) F0 xs := by
  intro F H e1 e2 i
  have hS : SqL K H a vs := (e1.trans e2).l ha
  refine ⟨fun x hx => ?_, fun hi => ⟨vs, hS, by rw [d.length]; exact hi⟩⟩
  obtain ⟨v, hv, dv⟩ := d.get hx
  refine ⟨⟨vs, v, hS, hv⟩, fun v' H' y => ?_⟩
  obtain ⟨rfl, y⟩ := y
  have := y vs hS
  rw [hv] at this
  cases this
  exact ⟨F, .refl e2, dp_mono e1 dv⟩
theorem itok_tup {a : Addr} {vs : List V} {xs : List D} {F0 : Hp} (ha : SqT K F0 a vs) (d : DnAll K F0 vs xs) : ItOk K (Itt K a) F0 xs := by
  intro F H e1 e2 i
  have hS : SqT K H a vs := (e1.trans e2).t ha
  refine ⟨fun x hx => ?_, fun hi => ⟨vs, hS, by rw [d.length]; exact hi⟩⟩
  obtain ⟨v, hv, dv⟩ := d.get hx
  refine ⟨⟨vs, v, hS, hv⟩, fun v' H' y => ?_⟩
  obtain ⟨rfl, y⟩ := y
  have := y vs hS
  rw [hv] at this
  cases this
  exact ⟨F, .refl e2, dp_mono e1 dv⟩
def rngD (lo c : Int) (n : Nat) : List D := (List.range n).map fun i => .int (lo + (i : Nat) * c)
theorem itok_rng {lo : Int} {n : Nat} {F0 : Hp} : ItOk K (Itr lo n) F0 (rngD lo 1 n) := by
  intro F H e1 e2 i
  refine ⟨fun x hx => ?_, fun hi => ?_⟩
  · unfold rngD at hx
    rw [List.getElem?_map] at hx
    by_cases hi : i < n
    · rw [List.getElem?_range hi] at hx
      cases hx
      refine ⟨hi, fun v H' y => ?_⟩
      obtain ⟨rfl, rfl⟩ := y
      refine ⟨F, .refl e2, ?_⟩
      have : lo + (i : Int) * 1 = lo + (i : Int) := by omega
      simp only [this]
      exact .int _
    · rw [List.getElem?_eq_none (by simpa using hi)] at hx
      cases hx
  · show n ≤ i
    simpa [rngD] using hi
theorem itok_rngC {lo c : Int} {n : Nat} {F0 : Hp} : ItOk K (Itc lo c n) F0 (rngD lo c n) := by
  intro F H e1 e2 i
  refine ⟨fun x hx => ?_, fun hi => ?_⟩
  · unfold rngD at hx
    rw [List.getElem?_map] at hx
    by_cases hi : i < n
    · rw [List.getElem?_range hi] at hx
      cases hx
      refine ⟨hi, fun v H' y => ?_⟩
      obtain ⟨rfl, rfl⟩ := y
      exact ⟨F, .refl e2, .int _⟩
    · rw [List.getElem?_eq_none (by simpa using hi)] at hx
      cases hx
  · show n ≤ i
    simpa [rngD] using hi
/-- a list or a tuple, whichever it is -/
def iSeq (K : PySem.W.Frag) (te : TE) : TI := fun σ H R => te σ H fun x H1 => ∃ a, x = .ref a ∧ (((∃ xs, SqL K H1 a xs) ∧ R (Itl K a) H1) ∨ ((∃ xs, SqT K H1 a xs) ∧ R (Itt K a) H1))
theorem pi_seq {X : Cx} {l : Expr} {tl : TE} (hl : PE X l tl) : PI X tg l (iSeq X.K tl) := by
  refine ⟨fun pins s σ H R I h => ?_⟩
  refine thn (hl.run pins s σ H _ I h) fun v s1 ⟨x, H1, I1, r1, a, ex, q1⟩ => ?_
  subst ex
  cases r1
  rcases q1 with ⟨⟨xs, hq⟩, q⟩ | ⟨⟨xs, hq⟩, q⟩
  · obtain ⟨its, rv, hp, hz⟩ := I1.list hq
    refine wpAny_pyIter_list hp.isList ⟨s1.heap.objs.size, [s1.heap.objs.size], _, _, H1, rfl, I1.kept (t' := s1.toks) fun b o e => Heap.get?_push_of_some _ e, turn_list a _, ⟨_, Heap.get?_push_size _ rfl, rfl, rfl⟩, fun b hb => ?_, q⟩
    cases List.mem_singleton.mp hb
    exact I1.fpOk (Nat.le_refl _) (I1.hok.fresh (Nat.le_refl _))
  · obtain ⟨its, rv, hp, hz⟩ := I1.tuple hq
    refine wpAny_pyIter_tuple (show s1.heap.IsTuple a its.toArray from hp) ⟨s1.heap.objs.size, [s1.heap.objs.size], _, _, H1, rfl, I1.kept (t' := s1.toks) fun b o e => Heap.get?_push_of_some _ e, turn_tuple a _, ⟨_, Heap.get?_push_size _ rfl, rfl, rfl⟩, fun b hb => ?_, q⟩
    cases List.mem_singleton.mp hb
    exact I1.fpOk (Nat.le_refl _) (I1.hok.fresh (Nat.le_refl _))
def seqItems : D → Option (List D)
  | .list xs => some xs
  | .tuple xs => some xs
  | _ => none
def itF (f : EF) : LF := fun ρ => match f ρ with
  | none => none
  | some (x, ρ1) => match seqItems x with
    | some xs => if xs.length ≤ 10000000 then some (xs, ρ1) else none
    | none => none
theorem pi_of (he : PDF C e fa) : PIF C tg e (itF fa) := by
  obtain ⟨t, h1, h2⟩ := he
  refine ⟨iSeq C.K t, fun X h => by rw [← h.hK]; exact pi_seq (h1 X h), ?_⟩
  intro par ρ σ S xs ρ' rl e R q
  unfold itF at e
  split at e
  · cases e
  rename_i x ρ1 e1
  split at e
  · rename_i ys ey
    split at e
    · rename_i hz
      cases e
      refine h2 par ρ σ S _ _ rl e1 _ fun S1 v st r1 d1 => ?_
      cases x with
      | list zs =>
        cases ey
        cases d1 with
        | lst ha dr => exact ⟨_, rfl, .inl ⟨⟨_, r1.ext.l ha⟩, q S1 _ st r1 (le_line hz) (itok_list ha dr)⟩⟩
      | tuple zs =>
        cases ey
        cases d1 with
        | tup ha dr => exact ⟨_, rfl, .inr ⟨⟨_, r1.ext.t ha⟩, q S1 _ st r1 (le_line hz) (itok_tup ha dr)⟩⟩
      | _ => cases ey
    · cases e
  · cases e
def rng1F (fl : LF) : LF := fun ρ => match fl ρ with
  | some ([.int n], ρ1) => if n ≤ 10000000 ∧ -10000000 ≤ n then some (rngD 0 1 n.toNat, ρ1) else none
  | _ => none
def rng2F (fl : LF) : LF := fun ρ => match fl ρ with
  | some ([.int lo, .int n], ρ1) => if -1000000 ≤ lo ∧ lo ≤ 1000000 ∧ -1000000 ≤ n ∧ n ≤ 1000000 then some (rngD lo 1 (n - lo).toNat, ρ1) else none
  | _ => none
/-- range(a, b, c): up, or down by ones -/
def rng3F (fl : LF) : LF := fun ρ => match fl ρ with
  | some ([.int lo, .int n, .int c], ρ1) => if c = -1 ∧ -1000000 ≤ lo ∧ lo ≤ 1000000 ∧ -1000000 ≤ n ∧ n ≤ 1000000 then some (rngD lo (-1) (lo - n).toNat, ρ1) else none
  | _ => none
variable {gl : LF}
theorem rng_len {lo c : Int} {n : Nat} (h : n ≤ 10000000) : (rngD lo c n).length ≤ sizeLine := by unfold rngD; rw [List.length_map, List.length_range]; exact le_line h
theorem pi_rng1 (hg : C.sc.names.lookup ("range" : Str) = some .globalImplicit) (hm : C.mg "range" = none) (ha : PLF C [a] gl) (hs : ∀ env : PySem.Env, starEach [a] env = [(false, eval a env)] := by intro _; rfl) : PIF C tg (.Call (.Name "range" p) [a] [] pos) (rng1F gl) := by
  obtain ⟨t, h1, h2⟩ := ha
  refine ⟨_, fun X h => pi_range1 (h.gl hg) (by rw [h.hm]; exact hm) (h1 X h) (hs _), ?_⟩
  intro par ρ σ S xs ρ' rl e R q
  unfold rng1F at e
  split at e
  · rename_i n ρ1 e1
    split at e
    · rename_i hn
      cases e
      refine h2 par ρ σ S _ _ rl e1 _ fun S1 vs st r1 d1 => ?_
      cases d1 with
      | cons d dr =>
        cases d
        cases dr
        exact ⟨n, rfl, by omega, by omega, q S1 _ st r1 (rng_len (by omega)) itok_rng⟩
    · cases e
  · cases e
theorem pi_rng2 (hg : C.sc.names.lookup ("range" : Str) = some .globalImplicit) (hm : C.mg "range" = none) (ha : PLF C [a, b] gl) (hs : ∀ env : PySem.Env, starEach [a, b] env = [(false, eval a env), (false, eval b env)] := by intro _; rfl) (hs2 : ∀ env : PySem.Env, starEach [b] env = [(false, eval b env)] := by intro _; rfl) :
    PIF C tg (.Call (.Name "range" p) [a, b] [] pos) (rng2F gl) := by
  obtain ⟨t, h1, h2⟩ := ha
  refine ⟨_, fun X h => pi_range2 (h.gl hg) (by rw [h.hm]; exact hm) (h1 X h) (hs _) (hs2 _), ?_⟩
  intro par ρ σ S xs ρ' rl e R q
  unfold rng2F at e
  split at e
  · rename_i lo n ρ1 e1
    split at e
    · rename_i hn
      cases e
      refine h2 par ρ σ S _ _ rl e1 _ fun S1 vs st r1 d1 => ?_
      cases d1 with
      | cons d dr =>
        cases d
        cases dr with
        | cons d dr =>
          cases d
          cases dr
          exact ⟨lo, n, rfl, by omega, q S1 _ st r1 (rng_len (by omega)) itok_rng⟩
    · cases e
  · cases e
theorem pi_rng3 (hg : C.sc.names.lookup ("range" : Str) = some .globalImplicit) (hm : C.mg "range" = none) (ha : PLF C [a, b, c] gl) (hs : ∀ env : PySem.Env, starEach [a, b, c] env = (false, eval a env) :: starEach [b, c] env := by intro _; rfl) (hpl : ∀ env : PySem.Env, (backTo pos (starEach [b, c] env)).any (·.1) = false := by intro _; rfl) :
    PIF C tg (.Call (.Name "range" p) [a, b, c] [] pos) (rng3F gl) := by
  obtain ⟨t, h1, h2⟩ := ha
  refine ⟨_, fun X h => pi_range3 (h.gl hg) (by rw [h.hm]; exact hm) (h1 X h) (hs _) (hpl _), ?_⟩
  intro par ρ σ S xs ρ' rl e R q
  unfold rng3F at e
  split at e
  · rename_i lo n c ρ1 e1
    split at e
    · rename_i hn
      obtain ⟨rfl, hn⟩ := hn
      cases e
      refine h2 par ρ σ S _ _ rl e1 _ fun S1 vs st r1 d1 => ?_
      cases d1 with
      | cons d dr =>
        cases d
        cases dr with
        | cons d dr =>
          cases d
          cases dr with
          | cons d dr =>
            cases d
            cases dr
            exact ⟨lo, n, -1, (lo - n).toNat, rfl, RgC.neg (by omega) (by omega) (by omega) (by omega), q S1 _ st r1 (rng_len (by omega)) itok_rngC⟩
    · cases e
  · cases e

/-! ### for -/
def forL (B : D → Env → Option Env) (g : SF) : List D → SF
  | [], ρ => some (.nx ρ)
  | x :: xs, ρ => match B x ρ with
    | none => none
    | some ρ1 => match g ρ1 with
      | some (.nx ρ2) => forL B g xs ρ2
      | some (.ct ρ2) => forL B g xs ρ2
      | some (.bk ρ2) => some (.nx ρ2)
      | r => r
def forS (it : LF) (B : D → Env → Option Env) (g : SF) : SF := fun ρ => match it ρ with
  | none => none
  | some (xs, ρ1) => forL B g xs ρ1
theorem ps_for' {iter : Expr} {body : List Stmt} {it : LF} (hi : PIF C tg iter it) (hg : PGF C tg is B) (hb : PBF C body g) (hs : ∀ (env : PySem.Env) x, foldedSetIterable iter env x = pure x := by intro _ _; rfl) : PSF C (.For tg iter body [] pos) (forS it B g) := by
  obtain ⟨wi, i1, i2⟩ := hi
  obtain ⟨gt, g1, g2⟩ := hg
  obtain ⟨tb, b1, b2⟩ := hb
  refine ⟨_, fun X h => ps_for h.po h.calm (i1 X h) (g1 X h) (b1 X h) (hs _), ?_⟩
  intro par ρ σ S r rl e D q
  unfold forS at e
  split at e
  · cases e
  rename_i xs ρ1 e1
  refine i2 par ρ σ S xs ρ1 rl e1 _ fun S1 J st r1 hz ok => ?_
  refine ⟨fun i m σ' H' => m = xs.length - i ∧ i ≤ xs.length ∧ ∃ ρ' S', S'.H = H' ∧ Step S1 S' ∧ Rl C.K C.mg par ρ' σ' S' ∧ forL B g (xs.drop i) ρ' = some r,
    ⟨xs.length, by omega, Nat.zero_le _, ρ1, S1, rfl, .refl _, r1, e⟩, ?_⟩
  rintro i m σ' H' ⟨rfl, hi, ρ', S', rfl, st', r', e'⟩
  obtain ⟨k1, k2⟩ := ok S'.F S'.H st'.ex r'.ext i
  by_cases hlt : i < xs.length
  · rw [List.drop_eq_getElem_cons hlt] at e'
    unfold forL at e'
    split at e'
    · cases e'
    rename_i ρ2 eB
    obtain ⟨kg, ky⟩ := k1 xs[i] (List.getElem?_eq_getElem hlt)
    refine .inr ⟨kg, fun σ2 H2 => ∃ ρ3 S3, S3.H = H2 ∧ Step S1 S3 ∧ Rl C.K C.mg par ρ3 σ2 S3 ∧ forL B g (xs.drop (i + 1)) ρ3 = some r, fun σ2 H2 hN => ?_, fun v H2 y => ?_⟩
    · exact ⟨xs.length - (i + 1), by omega, rfl, hlt, hN⟩
    · obtain ⟨F2, gr, dv⟩ := ky v H2 y
      obtain ⟨r2, st2⟩ := r'.grow gr.eF gr.eH gr.e gr.n
      refine g2 par ρ' σ' ⟨F2, H2, S'.own⟩ xs[i] v ρ2 r2 dv eB _ fun S3 σ3 st3 r3 _ _ => ?_
      have st03 := (st'.trans st2).trans st3
      split at e'
      · rename_i ρ4 e4
        refine b2 par ρ2 σ3 S3 _ r3 e4 _ fun S4 σ4 st4 r4 => ?_
        exact ⟨ρ4, S4, rfl, st03.trans st4, r4, e'⟩
      · rename_i ρ4 e4
        refine b2 par ρ2 σ3 S3 _ r3 e4 _ fun S4 σ4 st4 r4 => ?_
        exact ⟨ρ4, S4, rfl, st03.trans st4, r4, e'⟩
      · rename_i ρ4 e4
        cases e'
        refine b2 par ρ2 σ3 S3 _ r3 e4 _ fun S4 σ4 st4 r4 => ?_
        exact q S4 σ4 ((st.trans st03).trans st4) r4
      · rename_i hn1 hn2 hn3
        refine b2 par ρ2 σ3 S3 _ r3 e' _ ?_
        cases r with
        | nx ρ4 => exact absurd e' (hn1 ρ4)
        | ct ρ4 => exact absurd e' (hn2 ρ4)
        | bk ρ4 => exact absurd e' (hn3 ρ4)
        | rt s ρ4 => exact fun S4 σ4 v4 st4 r4 rv => q S4 σ4 v4 ((st.trans st03).trans st4) r4 (rv.trans (st.trans st03))
  · have ei : xs.drop i = [] := List.drop_eq_nil_of_le (by omega)
    rw [ei] at e'
    cases e'
    exact .inl ⟨k2 (by omega), q S' σ' (st.trans st') r'⟩

/-! ### while -/
def whileS (c : TF) (g : SF) (ρ : Env) : Option Res := do
  match ← c ρ with
  | (false, ρ1) => some (.nx ρ1)
  | (true, ρ1) => match ← g ρ1 with
    | .nx ρ2 => whileS c g ρ2
    | .ct ρ2 => whileS c g ρ2
    | .bk ρ2 => some (.nx ρ2)
    | .rt s ρ2 => some (.rt s ρ2)
partial_fixpoint
def whN (c : TF) (g : SF) : Nat → SF
  | 0, _ => none
  | n + 1, ρ => match c ρ with
    | none => none
    | some (false, ρ1) => some (.nx ρ1)
    | some (true, ρ1) => match g ρ1 with
      | none => none
      | some (.nx ρ2) => whN c g n ρ2
      | some (.ct ρ2) => whN c g n ρ2
      | some (.bk ρ2) => some (.nx ρ2)
      | some (.rt s ρ2) => some (.rt s ρ2)
theorem whN_of (c : TF) (g : SF) : ∀ (ρ : Env) (r : Res), whileS c g ρ = some r → ∃ n, whN c g n ρ = some r := by
  refine whileS.partial_correctness c g (fun ρ r => ∃ n, whN c g n ρ = some r) fun F ih ρ r e => ?_
  simp only [bind, Option.bind_eq_some_iff] at e
  obtain ⟨⟨b, ρ1⟩, e1, e⟩ := e
  cases b with
  | false =>
    cases e
    exact ⟨1, by unfold whN; rw [e1]⟩
  | true =>
    simp only [Option.bind_eq_some_iff] at e
    obtain ⟨r1, e2, e⟩ := e
    cases r1 with
    | nx ρ2 =>
      obtain ⟨n, hn⟩ := ih ρ2 r e
      exact ⟨n + 1, by unfold whN; rw [e1]; show (match g ρ1 with | none => none | some (.nx ρ2) => whN c g n ρ2 | some (.ct ρ2) => whN c g n ρ2 | some (.bk ρ2) => some (.nx ρ2) | some (.rt s ρ2) => some (.rt s ρ2)) = _; rw [e2]; exact hn⟩
    | ct ρ2 =>
      obtain ⟨n, hn⟩ := ih ρ2 r e
      exact ⟨n + 1, by unfold whN; rw [e1]; show (match g ρ1 with | none => none | some (.nx ρ2) => whN c g n ρ2 | some (.ct ρ2) => whN c g n ρ2 | some (.bk ρ2) => some (.nx ρ2) | some (.rt s ρ2) => some (.rt s ρ2)) = _; rw [e2]; exact hn⟩
    | bk ρ2 =>
      cases e
      exact ⟨1, by unfold whN; rw [e1]; show (match g ρ1 with | none => none | some (.nx ρ2) => whN c g 0 ρ2 | some (.ct ρ2) => whN c g 0 ρ2 | some (.bk ρ2) => some (.nx ρ2) | some (.rt s ρ2) => some (.rt s ρ2)) = _; rw [e2]⟩
    | rt s ρ2 =>
      cases e
      exact ⟨1, by unfold whN; rw [e1]; show (match g ρ1 with | none => none | some (.nx ρ2) => whN c g 0 ρ2 | some (.ct ρ2) => whN c g 0 ρ2 | some (.bk ρ2) => some (.nx ρ2) | some (.rt s ρ2) => some (.rt s ρ2)) = _; rw [e2]⟩
theorem ps_while' {cf : TF} {body : List Stmt} (hc : PTF C c cf) (hb : PBF C body g) : PSF C (.While c body [] pos) (whileS cf g) := by
  obtain ⟨tc, c1, c2⟩ := hc
  obtain ⟨tb, b1, b2⟩ := hb
  refine ⟨_, fun X h => ps_while h.po (c1 X h) (b1 X h), ?_⟩
  intro par ρ σ S r rl e D q
  obtain ⟨n0, e⟩ := whN_of cf g ρ r e
  refine ⟨fun m σ' H' => ∃ ρ' S', S'.H = H' ∧ Step S S' ∧ Rl C.K C.mg par ρ' σ' S' ∧ whN cf g m ρ' = some r, ⟨n0, ρ, S, rfl, .refl _, rl, e⟩, ?_⟩
  rintro m σ' H' ⟨ρ', S', rfl, st', r', e'⟩
  cases m with
  | zero => cases e'
  | succ m =>
    unfold whN at e'
    split at e'
    · cases e'
    · rename_i ρ1 e1
      cases e'
      refine c2 par ρ' σ' S' _ _ r' e1 _ fun S1 st1 r1 => ?_
      rw [if_neg Bool.false_ne_true]
      exact q S1 σ' (st'.trans st1) r1
    · rename_i ρ1 e1
      refine c2 par ρ' σ' S' _ _ r' e1 _ fun S1 st1 r1 => ?_
      rw [if_pos rfl]
      refine ⟨fun σ2 H2 => ∃ ρ3 S3, S3.H = H2 ∧ Step S S3 ∧ Rl C.K C.mg par ρ3 σ2 S3 ∧ whN cf g m ρ3 = some r, fun σ2 H2 hN => ⟨m, Nat.lt_succ_self m, hN⟩, ?_⟩
      have st01 := st'.trans st1
      split at e'
      · cases e'
      · rename_i ρ2 e2
        exact b2 par ρ1 σ' S1 _ r1 e2 _ fun S2 σ2 st2 r2 => ⟨ρ2, S2, rfl, st01.trans st2, r2, e'⟩
      · rename_i ρ2 e2
        exact b2 par ρ1 σ' S1 _ r1 e2 _ fun S2 σ2 st2 r2 => ⟨ρ2, S2, rfl, st01.trans st2, r2, e'⟩
      · rename_i ρ2 e2
        cases e'
        exact b2 par ρ1 σ' S1 _ r1 e2 _ fun S2 σ2 st2 r2 => q S2 σ2 (st01.trans st2) r2
      · rename_i s ρ2 e2
        cases e'
        exact b2 par ρ1 σ' S1 _ r1 e2 _ fun S2 σ2 v st2 r2 rv => q S2 σ2 v (st01.trans st2) r2 (rv.trans st01)
end
end G

set_option Elab.async false
set_option linter.all false
set_option maxRecDepth 100000
set_option maxHeartbeats 4000000
/-! comprehensions; enumerate, zip -/
namespace G
open PySem PySem.Spec PyProof.Rows L2
def light : Option Sl → Bool
  | some (.ow _ _) => false
  | _ => true
section
variable {K : PySem.W.Frag} {mg : Str → Option Value} {par : Nat → Option V} {ρ ρ' : Env} {σ σ' : L2.St} {S S' : Sn}
theorem Rl.change (r : Rl K mg par ρ σ S) (hl : ρ'.length = ρ.length) (hσ : σ'.length = σ.length)
    (h : ∀ j s, ρ'[j]? = some s → (ρ[j]? = some s ∧ σ'[j]? = σ[j]?) ∨ (light ρ[j]? = true ∧ SlOk K mg par S j σ'[j]? [] s)) : Rl K mg par ρ' σ' S := by
  obtain ⟨As, h1, h2, h3, h4⟩ := r.slots
  refine ⟨r.ext, by rw [hσ, hl]; exact r.len, r.avo, As, fun j s e => ?_, fun j e => h2 j ?_, h3, h4⟩
  · rcases h j s e with ⟨e1, e2⟩ | ⟨e1, e2⟩
    · rw [e2]; exact h1 j s e1
    · have : As j = [] := by
        cases q : ρ[j]? with
        | none => exact h2 j q
        | some s' =>
          have z := h1 j s' q
          cases s' with
          | un => exact z
          | d x => exact z.1
          | fn x => exact z.1
          | ow b o => rw [q] at e1; cases e1
      rw [this]
      exact e2
  · have := List.getElem?_eq_none_iff.mp e
    exact List.getElem?_eq_none_iff.mpr (by omega)
def wipeE (ρ : Env) : List Nat → Env
  | [] => ρ
  | v :: vs => (wipeE ρ vs).set v .un
def okOwn (ρ : Env) (vs : List Nat) : Bool := vs.all fun v => light ρ[v]?
theorem wipeE_len (ρ : Env) : ∀ vs, (wipeE ρ vs).length = ρ.length
  | [] => rfl
  | v :: vs => by unfold wipeE; rw [List.length_set, wipeE_len ρ vs]
theorem wipeE_get (ρ : Env) (j : Nat) : ∀ vs : List Nat, (wipeE ρ vs)[j]? = if j ∈ vs then (if j < ρ.length then some .un else none) else ρ[j]?
  | [] => by simp [wipeE]
  | v :: vs => by
    unfold wipeE
    by_cases hj : j = v
    · subst hj
      rw [if_pos List.mem_cons_self]
      by_cases hl : j < ρ.length
      · rw [if_pos hl, List.getElem?_set_self (by rw [wipeE_len]; exact hl)]
      · rw [if_neg hl, List.getElem?_eq_none (by rw [List.length_set, wipeE_len]; omega)]
    · rw [List.getElem?_set_ne (Ne.symm hj), wipeE_get ρ j vs]
      by_cases hm : j ∈ vs
      · rw [if_pos hm, if_pos (List.mem_cons_of_mem _ hm)]
      · rw [if_neg hm, if_neg (fun z => (List.mem_cons.mp z).elim hj hm)]
theorem wipe_get (σ : L2.St) (j : Nat) : ∀ vs : List Nat, (wipe σ vs)[j]? = if j ∈ vs then (if j < σ.length then some none else none) else σ[j]?
  | [] => by simp [wipe]
  | v :: vs => by
    unfold wipe
    by_cases hj : j = v
    · subst hj
      rw [if_pos List.mem_cons_self]
      by_cases hl : j < σ.length
      · rw [if_pos hl, List.getElem?_set_self (by rw [wipe_length]; exact hl)]
      · rw [if_neg hl, List.getElem?_eq_none (by rw [List.length_set, wipe_length]; omega)]
    · rw [List.getElem?_set_ne (Ne.symm hj), wipe_get σ j vs]
      by_cases hm : j ∈ vs
      · rw [if_pos hm, if_pos (List.mem_cons_of_mem _ hm)]
      · rw [if_neg hm, if_neg (fun z => (List.mem_cons.mp z).elim hj hm)]
theorem wipe_eq {σ σ' : L2.St} {vs : List Nat} (hl : σ'.length = σ.length) (h : ∀ j, j ∉ vs → σ'[j]? = σ[j]?) : wipe σ' vs = wipe σ vs := by
  apply List.ext_getElem?
  intro j
  rw [wipe_get, wipe_get]
  by_cases hm : j ∈ vs
  · rw [if_pos hm, if_pos hm, hl]
  · rw [if_neg hm, if_neg hm, h j hm]
theorem okOwn_at {vs : List Nat} (h : okOwn ρ vs = true) {j : Nat} (hj : j ∈ vs) : light ρ[j]? = true := List.all_eq_true.mp h j hj
theorem Rl.wiped (r : Rl K mg par ρ σ S) {vs : List Nat} (h : okOwn ρ vs = true) : Rl K mg par (wipeE ρ vs) (wipe σ vs) S := by
  refine r.change (wipeE_len _ _) (wipe_length _ _) fun j s e => ?_
  rw [wipeE_get] at e
  rw [wipe_get]
  by_cases hm : j ∈ vs
  · rw [if_pos hm] at e
    split at e
    · cases e
      exact .inr ⟨okOwn_at h hm, rfl⟩
    · cases e
  · rw [if_neg hm] at e ⊢
    exact .inl ⟨e, rfl⟩
/-- the slots vs as they were in ρ1 -/
def resE (ρ1 ρ2 : Env) : List Nat → Env
  | [] => ρ2
  | v :: vs => match ρ1[v]? with
    | some s => (resE ρ1 ρ2 vs).set v s
    | none => resE ρ1 ρ2 vs
theorem resE_len (ρ1 ρ2 : Env) : ∀ vs, (resE ρ1 ρ2 vs).length = ρ2.length
  | [] => rfl
  | v :: vs => by
    unfold resE
    split
    · rw [List.length_set, resE_len ρ1 ρ2 vs]
    · exact resE_len ρ1 ρ2 vs
theorem resE_get {ρ1 ρ2 : Env} (hl : ρ2.length = ρ1.length) (j : Nat) : ∀ vs : List Nat, (resE ρ1 ρ2 vs)[j]? = if j ∈ vs then ρ1[j]? else ρ2[j]?
  | [] => by simp [resE]
  | v :: vs => by
    unfold resE
    split
    · rename_i s e
      by_cases hj : j = v
      · subst hj
        rw [if_pos List.mem_cons_self, List.getElem?_set_self (by rw [resE_len, hl]; exact (List.getElem?_eq_some_iff.mp e).1), e]
      · rw [List.getElem?_set_ne (Ne.symm hj), resE_get hl j vs]
        by_cases hm : j ∈ vs
        · rw [if_pos hm, if_pos (List.mem_cons_of_mem _ hm)]
        · rw [if_neg hm, if_neg (fun z => (List.mem_cons.mp z).elim hj hm)]
    · rename_i e
      rw [resE_get hl j vs]
      by_cases hj : j = v
      · subst hj
        have hjj : j ∈ j :: vs := List.mem_cons_self
        by_cases hm : j ∈ vs
        · rw [if_pos hm, if_pos hjj]
        · rw [if_neg hm, if_pos hjj, e]
          have := List.getElem?_eq_none_iff.mp e
          exact List.getElem?_eq_none_iff.mpr (by omega)
      · by_cases hm : j ∈ vs
        · rw [if_pos hm, if_pos (List.mem_cons_of_mem _ hm)]
        · rw [if_neg hm, if_neg (fun z => (List.mem_cons.mp z).elim hj hm)]
theorem Rl.restore {ρ1 ρ2 : Env} {S1 : Sn} {vs : List Nat} (r1 : Rl K mg par ρ1 σ S1) (h : okOwn ρ1 vs = true) (st : Step S1 S) (r : Rl K mg par ρ2 (wipe σ vs) S) (h2 : okOwn ρ2 vs = true) : Rl K mg par (resE ρ1 ρ2 vs) σ S := by
  have hl : ρ2.length = ρ1.length := by rw [← r.len, wipe_length, r1.len]
  refine r.change (by rw [resE_len]) (by rw [wipe_length]) fun j s e => ?_
  rw [resE_get hl] at e
  by_cases hm : j ∈ vs
  · rw [if_pos hm] at e
    refine .inr ⟨okOwn_at h2 hm, ?_⟩
    obtain ⟨As, k1, _⟩ := r1.slots
    have z := k1 j s e
    have lt := okOwn_at h hm
    rw [e] at lt
    cases s with
    | un => rfl
    | d x =>
      obtain ⟨_, v, hv, dv⟩ := z
      exact ⟨rfl, v, hv, dp_mono st.ex dv⟩
    | fn x =>
      obtain ⟨_, f, hv, dv⟩ := z
      exact ⟨rfl, f, hv, dv⟩
    | ow b o => cases lt
  · rw [if_neg hm] at e
    refine .inl ⟨e, ?_⟩
    rw [wipe_get, if_neg hm]
end

/-! ### [e for x in xs if ..] -/
def lcL (B : D → Env → Option Env) (t : TF) (f : EF) (own : List Nat) : List D → Env → Option (List D × Env)
  | [], ρ => some ([], ρ)
  | x :: xs, ρ => match B x ρ with
    | none => none
    | some ρ1 => match t ρ1 with
      | none => none
      | some (false, ρ2) => if okOwn ρ2 own then lcL B t f own xs (wipeE ρ2 own) else none
      | some (true, ρ2) => match f ρ2 with
        | none => none
        | some (y, ρ3) => if okOwn ρ3 own then (match lcL B t f own xs (wipeE ρ3 own) with
          | none => none
          | some (ys, ρ4) => some (y :: ys, ρ4)) else none
def lcF (it : LF) (B : D → Env → Option Env) (t : TF) (f : EF) (own : List Nat) : OF := fun ρ => match it ρ with
  | none => none
  | some (xs, ρ1) => if okOwn ρ1 own then (match lcL B t f own xs (wipeE ρ1 own) with
    | none => none
    | some (ys, ρ2) => if okOwn ρ2 own then some (.lst ys, resE ρ1 ρ2 own) else none) else none
def yesF : TF := fun ρ => some (true, ρ)
def PTsF (C : Ct) (ifs : List Expr) (f : TF) : Prop := ∃ t, (∀ X, C.In X → PTs X ifs t) ∧ SndT C.K C.mg t f
section
variable {C : Ct} {a b c e tg elt iter : Expr} {ifs : List Expr} {es ts : List Expr} {pos p2 p : Pos} {fa fb fc : EF} {K : PySem.W.Frag} {mg : Str → Option Value} {i : Nat} {x : Str} {g h : SF} {st : Stmt} {sts : List Stmt} {is js : List Nat} {B : D → Env → Option Env} {tt : TF} {it gl : LF}
theorem pts_nil' : PTsF C [] yesF := ⟨_, fun X h => pts_nil, fun par ρ σ S b ρ' rl e Q q => by cases e; exact q S (.refl S) rl⟩
theorem pts_one' (h : PTF C c tt) : PTsF C [c] tt := by
  obtain ⟨t, h1, h2⟩ := h
  exact ⟨t, fun X h => pts_one (h1 X h), h2⟩
theorem snd_lc {wi : TI} {gt : TG} {t : TT} {te : TE} {own : List Nat} (hi : SndI K mg wi it) (hg : SndG K mg is gt B) (his : ∀ j ∈ is, j ∈ own) (ht : SndT K mg t tt) (he : SndE K mg te fa) : SndO K mg (tLc wi gt t te own) (lcF it B tt fa own) := by
  intro par ρ σ S o ρ' rl e Q q
  unfold lcF at e
  split at e
  · cases e
  rename_i xs ρ1 e1
  split at e
  rotate_left
  · cases e
  rename_i ho
  split at e
  · cases e
  rename_i ys ρ2 e2
  split at e
  rotate_left
  · cases e
  rename_i ho2
  cases e
  refine hi par ρ σ S xs ρ1 rl e1 _ fun S1 J st1 r1 hz ok => fun Dl hD => ?_
  obtain ⟨r2, st2⟩ := (r1.wiped ho).newH (o := .lst []) hD
  -- W: the turn, the measure, the heap
  refine ⟨fun i m H' => m = xs.length - i ∧ i ≤ xs.length ∧ ∃ ρ3 S3 av acc rs, S3.H = H' ∧ Step S1 S3 ∧ Rl K mg par ρ3 (wipe σ own) S3 ∧ H' Dl = some (.lst av) ∧ ¬ S3.own Dl ∧ S3.F Dl = none ∧ DnAll K S3.F av acc ∧ acc.length ≤ i ∧ lcL B tt fa own (xs.drop i) ρ3 = some (rs, ρ2) ∧ acc ++ rs = ys,
    ⟨xs.length, by omega, Nat.zero_le _, wipeE ρ1 own, _, [], [], ys, rfl, st2, r2, upd_same, fun z => r1.there Dl z hD, r1.ext.free hD, .nil, Nat.zero_le _, e2, rfl⟩, ?_⟩
  rintro i m H' ⟨rfl, hi', ρ3, S3, av, acc, rs, rfl, st3, r3, hDl, hno, hFD, dacc, hacc, e3, eys⟩
  obtain ⟨k1, k2⟩ := ok S3.F S3.H st3.ex r3.ext i
  by_cases hlt : i < xs.length
  · rw [List.drop_eq_getElem_cons hlt] at e3
    unfold lcL at e3
    split at e3
    · cases e3
    rename_i ρ4 eB
    obtain ⟨kg, ky⟩ := k1 xs[i] (List.getElem?_eq_getElem hlt)
    refine .inr ⟨kg, fun H2 => ∃ ρ5 S5 av5 acc5 rs5, S5.H = H2 ∧ Step S1 S5 ∧ Rl K mg par ρ5 (wipe σ own) S5 ∧ H2 Dl = some (.lst av5) ∧ ¬ S5.own Dl ∧ S5.F Dl = none ∧ DnAll K S5.F av5 acc5 ∧ acc5.length ≤ i + 1 ∧ lcL B tt fa own (xs.drop (i + 1)) ρ5 = some (rs5, ρ2) ∧ acc5 ++ rs5 = ys,
      fun H2 hN => ⟨xs.length - (i + 1), by omega, rfl, hlt, hN⟩, fun v H2 y => ?_⟩
    obtain ⟨F2, gr, dv⟩ := ky v H2 y
    obtain ⟨r4, st4⟩ := r3.grow gr.eF gr.eH gr.e gr.n
    -- what a step does to the new list: nothing
    have keep : ∀ {T T' : Sn} {w : List V}, Step T T' → T.H Dl = some (.lst w) → ¬ T.own Dl → T.F Dl = none → T'.H Dl = some (.lst w) ∧ ¬ T'.own Dl ∧ T'.F Dl = none := fun {T T' w} s h1 h2 h3 => by
      refine ⟨s.frm Dl _ h1 h2, fun z => ?_, ?_⟩
      · rcases s.org Dl z with z | z
        · exact h2 z
        · rw [h1] at z; cases z
      · cases q : T'.F Dl with
        | none => rfl
        | some u =>
          rcases s.gro Dl (by rw [q]; simp) with z | z | z
          · exact absurd h3 z
          · rw [h1] at z; cases z
          · exact absurd z h2
    obtain ⟨a1, a2, a3⟩ := keep st4 hDl hno hFD
    refine hg par ρ3 _ ⟨F2, H2, S3.own⟩ xs[i] v ρ4 r4 dv eB _ fun S5 σ5 st5 r5 hl5 hj5 => ?_
    obtain ⟨b1, b2, b3⟩ := keep st5 a1 a2 a3
    have hw : wipe σ5 own = wipe σ own := by
      refine (wipe_eq (σ := wipe σ own) (by rw [hl5]) fun j hj => hj5 j fun z => hj (his j z)).trans (wipe_eq (wipe_length _ _) fun j hj => by rw [wipe_get, if_neg hj])
    refine ⟨hw, ?_⟩
    split at e3
    · cases e3
    · rename_i ρ6 et
      split at e3
      rotate_left
      · cases e3
      rename_i hok
      refine ht par ρ4 σ5 S5 _ _ r5 et _ fun S6 st6 r6 => ?_
      obtain ⟨c1, c2, c3⟩ := keep st6 b1 b2 b3
      rw [if_neg Bool.false_ne_true]
      have r7 := r6.wiped hok
      rw [hw] at r7
      exact ⟨_, S6, av, acc, rs, rfl, ((st3.trans st4).trans st5).trans st6, r7, c1, c2, c3, dps_mono ((st4.trans st5).trans st6).ex dacc, by omega, e3, eys⟩
    · rename_i ρ6 et
      split at e3
      · cases e3
      rename_i y1 ρ7 ef
      split at e3
      rotate_left
      · cases e3
      rename_i hok
      split at e3
      · cases e3
      rename_i ys2 ρ8 el
      cases e3
      refine ht par ρ4 σ5 S5 _ _ r5 et _ fun S6 st6 r6 => ?_
      obtain ⟨c1, c2, c3⟩ := keep st6 b1 b2 b3
      rw [if_pos rfl]
      refine he par ρ6 σ5 S6 _ _ r6 ef _ fun S7 w st7 r7 dw => ?_
      obtain ⟨f1, f2, f3⟩ := keep st7 c1 c2 c3
      have stA := (((st3.trans st4).trans st5).trans st6).trans st7
      have daccA := dps_mono ((((st4.trans st5).trans st6).trans st7)).ex dacc
      refine ⟨av, f1, ?_, ?_⟩
      · rw [daccA.length]
        exact Nat.lt_of_lt_of_le (by omega) hz
      · have r8 := r7.wiped hok
        rw [hw] at r8
        have r9 := r8.chg (o := .lst (av ++ [w])) (p := Dl) (by rw [f1]; simp) f3 f2
        refine ⟨_, ⟨S7.F, upd S7.H Dl (.lst (av ++ [w])), S7.own⟩, av ++ [w], acc ++ [y1], ys2, rfl, ⟨stA.ex, fun a o h n => ?_, fun a h => ?_, stA.gro, stA.org⟩, r9, upd_same, f2, f3, daccA.append (.cons dw .nil), by simp; omega, el, by simpa using eys⟩
        · show upd S7.H Dl (.lst (av ++ [w])) a = some o
          rw [upd_ne (ne_of_none h hD)]
          exact stA.frm a o h n
        · show upd S7.H Dl (.lst (av ++ [w])) a ≠ none
          by_cases z : a = Dl
          · rw [z, upd_same]; simp
          · rw [upd_ne z]; exact stA.per a h
  · have ei : xs.drop i = [] := List.drop_eq_nil_of_le (by omega)
    rw [ei] at e3
    cases e3
    have r4 := r1.restore ho st3 r3 ho2
    rw [List.append_nil] at eys
    subst eys
    refine .inl ⟨k2 (by omega), q S3 (.ref Dl) [Dl] (st1.trans st3) r4 ⟨⟨Dl, av, rfl, rfl, hDl, dacc⟩, fun a ha => ?_, fun a ha => ?_, fun a ha => ?_⟩⟩
    · cases List.mem_singleton.mp ha
      exact hno
    · cases List.mem_singleton.mp ha
      exact hFD
    · cases List.mem_singleton.mp ha
      cases w : S.H Dl with
      | none => exact .inr rfl
      | some o => exact absurd hD (st1.per Dl (by rw [w]; simp))
def Ct.blk (C : Ct) (scope : Scope) : Ct := { C with sc := relS scope C.sc, fnb := fun x => scope.names.lookup x == some .cell }
theorem Ct.In.blk {X : Cx} (h : C.In X) (scope : Scope) (s : Shared) (H : Hp) (A : Addr) (cl : List (Str × Addr)) (fp : List Addr) : (C.blk scope).In (X.blk s H scope (compEnvC scope cl A X.env) fp) :=
  ⟨h.hP, h.hw, h.hK, h.hm, h.hb, h.hN, by show relS scope X.env.scope = relS scope C.sc; rw [h.hs], h.calm, fun x hx => hx, h.room, PassesOwn.never⟩
theorem po_lc {own : List (Str × Nat)} {scope : Scope} (n : C.N.Nodup) (hi : PIF C tg iter it) (ok : BlkOk C.N C.sc scope own) (hg : PGF (C.blk scope) tg is B) (his : ∀ j ∈ is, j ∈ own.map (·.2)) (ht : PTsF (C.blk scope) ifs tt) (he : PDF (C.blk scope) elt fa)
    (hs : ∀ (env : PySem.Env) x, foldedSetIterable iter env x = pure x := by intro _ _; rfl) : POF C (.ListComp elt [⟨tg, iter, ifs, 0⟩] scope pos) (lcF it B tt fa (own.map (·.2))) := by
  obtain ⟨wi, i1, i2⟩ := hi
  obtain ⟨gt, g1, g2⟩ := hg
  obtain ⟨t, t1, t2⟩ := ht
  obtain ⟨te, e1, e2⟩ := he
  exact ⟨_, fun X h => pe_lc h.calm (h.nd n) (i1 X h) (by rw [h.hN, h.hs]; exact ok) (fun s H A cl fp => g1 _ (h.blk scope s H A cl fp)) (fun s H A cl fp => t1 _ (h.blk scope s H A cl fp)) (fun s H A cl fp => e1 _ (h.blk scope s H A cl fp)) (hs _), snd_lc i2 g2 his t2 e2⟩
/-- y = [..], y a local: the frame of the comprehension stores it -/
theorem ps_setLcO (i : Nat) {y : Str} {py spos : Pos} {own : List (Str × Nat)} {scope : Scope} (n : C.N.Nodup) (hy : C.N[i]? = some y) (hyl : C.sc.names.lookup y = some .local) (hk : C.sc.kind = .function) (hl : (py.line == pos.line) = true) (hl2 : spos.line = py.line)
    (ha : (scope.names.any fun (n, k) => n == y && (k == .local || k == .cell)) = false) (hi : PIF C tg iter it) (ok : BlkOk C.N C.sc scope own) (hg : PGF (C.blk scope) tg is B) (his : ∀ j ∈ is, j ∈ own.map (·.2)) (ht : PTsF (C.blk scope) ifs tt) (he : PDF (C.blk scope) elt fa)
    (hs : ∀ (env : PySem.Env) x, foldedSetIterable iter env x = pure x := by intro _ _; rfl) : PSF C (.Assign [.Name y py] (.ListComp elt [⟨tg, iter, ifs, 0⟩] scope pos) spos) (setOF i (lcF it B tt fa (own.map (·.2)))) := by
  obtain ⟨wi, i1, i2⟩ := hi
  obtain ⟨gt, g1, g2⟩ := hg
  obtain ⟨t, t1, t2⟩ := ht
  obtain ⟨te, e1, e2⟩ := he
  refine ⟨_, fun X h => ps_setLc h.calm (h.nd n) (h.nm hy) (by rw [h.hs]; exact hyl) (sw_true (by rw [h.hs]; exact hk) (by rw [h.hs]; exact hyl) hl ha) (i1 X h) (by rw [h.hN, h.hs]; exact ok) (fun s H A cl fp => g1 _ (h.blk scope s H A cl fp)) (fun s H A cl fp => t1 _ (h.blk scope s H A cl fp)) (fun s H A cl fp => e1 _ (h.blk scope s H A cl fp)) (hs _), ?_⟩
  have sn := snd_lc i2 g2 his t2 e2
  intro par ρ σ S r rl e D q
  unfold setOF at e
  split at e
  · cases e
  rename_i o ρ1 e1
  split at e
  · cases e
  rename_i ρ2 e2
  cases e
  cases setSl_some e2
  refine sn par ρ σ S _ _ rl e1 _ fun S1 v A st r1 n1 => ?_
  obtain ⟨S2, r2, st2, eH, _⟩ := r1.putO i n1 st
  show D.nx (σ.set i (some v)) S1.H
  rw [← eH]
  exact q S2 _ st2 r2
theorem ps_setLcD (i : Nat) {y : Str} {py spos : Pos} {own : List (Str × Nat)} {scope : Scope} (n : C.N.Nodup) (hy : C.N[i]? = some y) (hyl : C.sc.names.lookup y = some .local) (hk : C.sc.kind = .function) (hl : (py.line == pos.line) = true) (hl2 : spos.line = py.line)
    (ha : (scope.names.any fun (n, k) => n == y && (k == .local || k == .cell)) = false) (hi : PIF C tg iter it) (ok : BlkOk C.N C.sc scope own) (hg : PGF (C.blk scope) tg is B) (his : ∀ j ∈ is, j ∈ own.map (·.2)) (ht : PTsF (C.blk scope) ifs tt) (he : PDF (C.blk scope) elt fa)
    (hs : ∀ (env : PySem.Env) x, foldedSetIterable iter env x = pure x := by intro _ _; rfl) : PSF C (.Assign [.Name y py] (.ListComp elt [⟨tg, iter, ifs, 0⟩] scope pos) spos) (setF i (frF (lcF it B tt fa (own.map (·.2))))) := by
  obtain ⟨wi, i1, i2⟩ := hi
  obtain ⟨gt, g1, g2⟩ := hg
  obtain ⟨t, t1, t2⟩ := ht
  obtain ⟨te, e1, e2⟩ := he
  refine ⟨_, fun X h => ps_setLc h.calm (h.nd n) (h.nm hy) (by rw [h.hs]; exact hyl) (sw_true (by rw [h.hs]; exact hk) (by rw [h.hs]; exact hyl) hl ha) (i1 X h) (by rw [h.hN, h.hs]; exact ok) (fun s H A cl fp => g1 _ (h.blk scope s H A cl fp)) (fun s H A cl fp => t1 _ (h.blk scope s H A cl fp)) (fun s H A cl fp => e1 _ (h.blk scope s H A cl fp)) (hs _), ?_⟩
  have sn := snd_fr (snd_lc i2 g2 his t2 e2)
  intro par ρ σ S r rl e D q
  unfold setF at e
  split at e
  · cases e
  rename_i o ρ1 e1
  split at e
  · cases e
  rename_i ρ2 e2
  cases e
  cases setSl_some e2
  refine sn par ρ σ S _ _ rl e1 _ fun S1 v st r1 d1 => ?_
  obtain ⟨S2, r2, st2, eH, _⟩ := r1.putD i d1
  show D.nx (σ.set i (some v)) S1.H
  rw [← eH]
  exact q S2 _ (st.trans st2) r2
end
end G

set_option Elab.async false
set_option linter.all false
set_option maxRecDepth 100000
set_option maxHeartbeats 4000000
/-! defs: what they compute, their calls -/
namespace G
open PySem PySem.Spec PyProof.Rows L2
/-- an argument: data, what stands in a slot (lent, if it is owned), a def -/
inductive AV where
  | d (x : D)
  | bor (k : Nat)
  | fn (x : Str)
abbrev Fn := List Sl → Option (Sl × List Sl)
/-- at which place slot j is lent -/
def borIx : List AV → Nat → Option Nat
  | [], _ => none
  | .bor k :: as, j => if k = j then some 0 else (borIx as j).map (· + 1)
  | _ :: as, j => (borIx as j).map (· + 1)
def borKs : List AV → List Nat
  | [] => []
  | .bor k :: as => k :: borKs as
  | _ :: as => borKs as
theorem borIx_at : ∀ {as : List AV} {j i : Nat}, borIx as j = some i → as[i]? = some (AV.bor j)
  | [], _, _, h => by cases h
  | .bor k :: as, j, i, h => by
    unfold borIx at h
    split at h
    · cases h
      rename_i e
      rw [e]
      rfl
    · rw [Option.map_eq_some_iff] at h
      obtain ⟨i', h1, rfl⟩ := h
      show as[i']? = _
      exact borIx_at h1
  | .d _ :: as, j, i, h => by
    unfold borIx at h
    rw [Option.map_eq_some_iff] at h
    obtain ⟨i', h1, rfl⟩ := h
    show as[i']? = _
    exact borIx_at h1
  | .fn _ :: as, j, i, h => by
    unfold borIx at h
    rw [Option.map_eq_some_iff] at h
    obtain ⟨i', h1, rfl⟩ := h
    show as[i']? = _
    exact borIx_at h1
theorem borKs_mem : ∀ {as : List AV} {j i : Nat}, as[i]? = some (AV.bor j) → j ∈ borKs as
  | [], _, _, h => by simp at h
  | .bor k :: as, j, 0, h => by
    simp at h
    subst h
    exact List.mem_cons_self
  | .bor k :: as, j, i + 1, h => List.mem_cons_of_mem _ (borKs_mem (as := as) (i := i) h)
  | .d _ :: as, j, 0, h => by simp at h
  | .d _ :: as, j, i + 1, h => borKs_mem (as := as) (i := i) h
  | .fn _ :: as, j, 0, h => by simp at h
  | .fn _ :: as, j, i + 1, h => borKs_mem (as := as) (i := i) h
theorem borIx_of : ∀ {as : List AV} {j i : Nat}, (borKs as).Nodup → as[i]? = some (AV.bor j) → borIx as j = some i
  | [], _, _, _, h => by simp at h
  | .bor k :: as, j, 0, _, h => by
    simp at h
    unfold borIx
    rw [if_pos h]
  | .bor k :: as, j, i + 1, n, h => by
    have h' : as[i]? = some (AV.bor j) := h
    have n' := List.nodup_cons.mp n
    unfold borIx
    rw [if_neg (fun e => n'.1 (by rw [e]; exact borKs_mem h')), borIx_of n'.2 h']
    rfl
  | .d _ :: as, j, 0, _, h => by simp at h
  | .d _ :: as, j, i + 1, n, h => by
    have h' : as[i]? = some (AV.bor j) := h
    have n' : (borKs as).Nodup := n
    show (borIx as j).map (· + 1) = _
    rw [borIx_of n' h']
    rfl
  | .fn _ :: as, j, 0, _, h => by simp at h
  | .fn _ :: as, j, i + 1, n, h => by
    have h' : as[i]? = some (AV.bor j) := h
    have n' : (borKs as).Nodup := n
    show (borIx as j).map (· + 1) = _
    rw [borIx_of n' h']
    rfl
/-- the callee's slots -/
def toSl (ρ : Env) : AV → Option Sl
  | .d x => some (.d x)
  | .fn x => some (.fn x)
  | .bor k => match ρ[k]? with
    | some (.d x) => some (.d x)
    | some (.ow _ o) => some (.ow true o)
    | some (.fn x) => some (.fn x)
    | _ => none
def argSl (ρ : Env) : List AV → Option (List Sl)
  | [] => some []
  | a :: as => match toSl ρ a, argSl ρ as with
    | some s, some r => some (s :: r)
    | _, _ => none
theorem argSl_at {ρ : Env} : ∀ {as : List AV} {sl : List Sl}, argSl ρ as = some sl → sl.length = as.length ∧ ∀ (i : Nat) (a : AV), as[i]? = some a → ∃ s : Sl, sl[i]? = some s ∧ toSl ρ a = some s
  | [], sl, h => by cases h; exact ⟨rfl, fun i a e => by simp at e⟩
  | a :: as, sl, h => by
    unfold argSl at h
    split at h
    · rename_i s r e1 e2
      cases h
      obtain ⟨l, k⟩ := argSl_at e2
      refine ⟨by simp [l], fun i b e => ?_⟩
      cases i with
      | zero =>
        simp at e
        subst e
        exact ⟨s, rfl, e1⟩
      | succ i =>
        obtain ⟨s', h1, h2⟩ := k i b (by simpa using e)
        exact ⟨s', h1, h2⟩
    · cases h
/-- behind the call: what was lent, as it is now -/
def putBack : List AV → List Sl → Env → Option Env
  | [], _, ρ => some ρ
  | _ :: _, [], _ => none
  | .bor k :: as, b :: bs, ρ => match ρ[k]? with
    | some (.ow fx _) => (match b with
      | .ow true o => putBack as bs (ρ.set k (.ow fx o))
      | _ => none)
    | some _ => putBack as bs ρ
    | none => none
  | .d _ :: as, _ :: bs, ρ => putBack as bs ρ
  | .fn _ :: as, _ :: bs, ρ => putBack as bs ρ
theorem putBack_get : ∀ {as : List AV} {bs : List Sl} {ρ ρ' : Env}, putBack as bs ρ = some ρ' → (borKs as).Nodup → ρ'.length = ρ.length ∧
    ∀ (j : Nat) (s : Sl), ρ'[j]? = some s → (ρ[j]? = some s ∧ (light (some s) = true ∨ j ∉ borKs as)) ∨ ∃ (i : Nat) (fx : Bool) (o o' : O), as[i]? = some (AV.bor j) ∧ bs[i]? = some (Sl.ow true o') ∧ ρ[j]? = some (Sl.ow fx o) ∧ s = Sl.ow fx o'
  | [], bs, ρ, ρ', h, _ => by
    cases h
    exact ⟨rfl, fun j s e => .inl ⟨e, .inr (by simp [borKs])⟩⟩
  | _ :: _, [], ρ, ρ', h, _ => by cases h
  | .d _ :: as, b :: bs, ρ, ρ', h, n => by
    obtain ⟨l, k⟩ := putBack_get (as := as) (bs := bs) h n
    refine ⟨l, fun j s e => ?_⟩
    rcases k j s e with q | ⟨i, fx, o, o', q1, q2, q3, q4⟩
    · exact .inl q
    · exact .inr ⟨i + 1, fx, o, o', q1, q2, q3, q4⟩
  | .fn _ :: as, b :: bs, ρ, ρ', h, n => by
    obtain ⟨l, k⟩ := putBack_get (as := as) (bs := bs) h n
    refine ⟨l, fun j s e => ?_⟩
    rcases k j s e with q | ⟨i, fx, o, o', q1, q2, q3, q4⟩
    · exact .inl q
    · exact .inr ⟨i + 1, fx, o, o', q1, q2, q3, q4⟩
  | .bor k :: as, b :: bs, ρ, ρ', h, n => by
    have n' := List.nodup_cons.mp n
    unfold putBack at h
    split at h
    · rename_i fx o0 e0
      split at h
      · rename_i o'
        obtain ⟨l, kk⟩ := putBack_get h n'.2
        refine ⟨by rw [l, List.length_set], fun j s e => ?_⟩
        rcases kk j s e with ⟨q1, q2⟩ | ⟨i, fx', o1, o1', q1, q2, q3, q4⟩
        · by_cases hj : j = k
          · subst hj
            rw [List.getElem?_set_self (List.getElem?_eq_some_iff.mp e0).1] at q1
            cases q1
            exact .inr ⟨0, fx, o0, o', rfl, rfl, e0, rfl⟩
          · rw [List.getElem?_set_ne (Ne.symm hj)] at q1
            refine .inl ⟨q1, q2.elim .inl fun z => .inr fun w => ?_⟩
            rcases List.mem_cons.mp w with w | w
            · exact hj w
            · exact z w
        · have hj : j ≠ k := fun z => n'.1 (by rw [← z]; exact borKs_mem q1)
          rw [List.getElem?_set_ne (Ne.symm hj)] at q3
          exact .inr ⟨i + 1, fx', o1, o1', q1, q2, q3, q4⟩
      · cases h
    · rename_i s0 hs0 e0
      obtain ⟨l, kk⟩ := putBack_get h n'.2
      refine ⟨l, fun j s e => ?_⟩
      rcases kk j s e with ⟨q1, q2⟩ | ⟨i, fx', o1, o1', q1, q2, q3, q4⟩
      · refine .inl ⟨q1, ?_⟩
        by_cases hj : j = k
        · subst hj
          rw [q1] at e0
          cases e0
          refine .inl ?_
          cases s0 with
          | ow b o => exact absurd rfl (hs0 b o)
          | _ => rfl
        · refine q2.elim .inl fun z => .inr fun w => ?_
          rcases List.mem_cons.mp w with w | w
          · exact hj w
          · exact z w
      · exact .inr ⟨i + 1, fx', o1, o1', q1, q2, q3, q4⟩
    · cases h

section
variable (K : PySem.W.Frag) (mg : Str → Option Value)
/-- the arguments' values -/
inductive ArgsOk (σ : L2.St) (F : Hp) : List V → List AV → Prop
  | nil : ArgsOk σ F [] []
  | d {v : V} {x : D} {vs : List V} {as : List AV} : Dn K F v x → ArgsOk σ F vs as → ArgsOk σ F (v :: vs) (.d x :: as)
  | bor {v : V} {k : Nat} {vs : List V} {as : List AV} : σ[k]? = some (some v) → ArgsOk σ F vs as → ArgsOk σ F (v :: vs) (.bor k :: as)
  | fn {f : Addr} {x : Str} {vs : List V} {as : List AV} : mg x = some (.ref f) → ArgsOk σ F vs as → ArgsOk σ F (.ref f :: vs) (.fn x :: as)
abbrev AF := Env → Option (List AV × Env)
def SndA (t : TA) (f : AF) : Prop := ∀ (par : Nat → Option V) (ρ : Env) (σ : L2.St) (S : Sn) (as : List AV) (ρ' : Env), Rl K mg par ρ σ S → f ρ = some (as, ρ') → ∀ Q : List V → Hp → Prop,
  (∀ S' vs, Step S S' → Rl K mg par ρ' σ S' → ArgsOk K mg σ S'.F vs as → Q vs S'.H) → t σ S.H Q
/-- what a def promises: it computes F -/
def spF (n : Nat) (F : Fn) : Sp := fun vs H Q _ => vs.length = n ∧ ∃ (par : Nat → Option V) (as : List Sl) (S : Sn) (s : Sl) (as' : List Sl), S.H = H ∧ (∀ i v, vs[i]? = some v → par i = some v) ∧ Rl K mg par as (vs.map some) S ∧ F as = some (s, as') ∧
  ∀ S' v, Step S S' → Rl K mg par as' (vs.map some) S' → RetV K S S' v s → Q v S'.H
end
def PAF (C : Ct) (es : List Expr) (f : AF) : Prop := ∃ t, (∀ X, C.In X → PA X es t) ∧ SndA C.K C.mg t f
theorem ArgsOk.mono {K : PySem.W.Frag} {mg : Str → Option Value} {σ : L2.St} {F F' : Hp} (e : Ex F F') : ∀ {vs : List V} {as : List AV}, ArgsOk K mg σ F vs as → ArgsOk K mg σ F' vs as
  | _, _, .nil => .nil
  | _, _, .d h r => .d (dp_mono e h) (ArgsOk.mono e r)
  | _, _, .bor h r => .bor h (ArgsOk.mono e r)
  | _, _, .fn h r => .fn h (ArgsOk.mono e r)
theorem ArgsOk.at {K : PySem.W.Frag} {mg : Str → Option Value} {σ : L2.St} {F : Hp} : ∀ {vs : List V} {as : List AV}, ArgsOk K mg σ F vs as → vs.length = as.length ∧ ∀ (i : Nat) (a : AV), as[i]? = some a → ∃ v : V, vs[i]? = some v ∧ (match a with | .d x => Dn K F v x | .bor k => σ[k]? = some (some v) | .fn x => ∃ f, v = .ref f ∧ mg x = some (.ref f))
  | _, _, .nil => ⟨rfl, fun i a e => by simp at e⟩
  | _, _, .d h r => by
    obtain ⟨l, k⟩ := ArgsOk.at r
    refine ⟨by simp [l], fun i a e => ?_⟩
    cases i with
    | zero => simp at e; subst e; exact ⟨_, rfl, h⟩
    | succ i =>
      obtain ⟨v, h1, h2⟩ := k i a (by simpa using e)
      exact ⟨v, h1, h2⟩
  | _, _, .bor h r => by
    obtain ⟨l, k⟩ := ArgsOk.at r
    refine ⟨by simp [l], fun i a e => ?_⟩
    cases i with
    | zero => simp at e; subst e; exact ⟨_, rfl, h⟩
    | succ i =>
      obtain ⟨v, h1, h2⟩ := k i a (by simpa using e)
      exact ⟨v, h1, h2⟩
  | _, _, .fn h r => by
    obtain ⟨l, k⟩ := ArgsOk.at r
    refine ⟨by simp [l], fun i a e => ?_⟩
    cases i with
    | zero => simp at e; subst e; exact ⟨_, rfl, _, rfl, h⟩
    | succ i =>
      obtain ⟨v, h1, h2⟩ := k i a (by simpa using e)
      exact ⟨v, h1, h2⟩
def anilF : AF := fun ρ => some ([], ρ)
def adF (f : EF) (g : AF) : AF := fun ρ => match f ρ with
  | none => none
  | some (x, ρ1) => match g ρ1 with
    | none => none
    | some (as, ρ2) => some (.d x :: as, ρ2)
def isSet (i : Nat) (ρ : Env) : Bool := match ρ[i]? with
  | some (.d _) => true
  | some (.ow _ _) => true
  | some (.fn _) => true
  | _ => false
def aborF (i : Nat) (g : AF) : AF := fun ρ => if isSet i ρ then (match g ρ with
  | none => none
  | some (as, ρ1) => some (.bor i :: as, ρ1)) else none
def afnF (x : Str) (g : AF) : AF := fun ρ => match g ρ with
  | none => none
  | some (as, ρ1) => some (.fn x :: as, ρ1)
section
variable {C : Ct} {a b c e : Expr} {es : List Expr} {pos p2 p : Pos} {fa fb fc : EF} {K : PySem.W.Frag} {mg : Str → Option Value} {i : Nat} {x : Str} {g h : SF} {ga : AF}
theorem Rl.isSet {par : Nat → Option V} {ρ : Env} {σ : L2.St} {S : Sn} (r : Rl K mg par ρ σ S) (h : G.isSet i ρ = true) : ∃ v, σ[i]? = some (some v) := by
  obtain ⟨As, h1, _⟩ := r.slots
  unfold G.isSet at h
  split at h
  · rename_i x e
    obtain ⟨_, v, hv, _⟩ := h1 i _ e
    exact ⟨v, hv⟩
  · rename_i f o e
    obtain ⟨v, hv, _⟩ := h1 i _ e
    exact ⟨v, hv⟩
  · rename_i f e
    obtain ⟨_, v, hv, _⟩ := h1 i _ e
    exact ⟨_, hv⟩
  · cases h
theorem pa_nil' : PAF C [] anilF := ⟨_, fun X h => pa_nil, fun par ρ σ S as ρ' rl e Q q => by cases e; exact q S [] (.refl S) rl .nil⟩
theorem pa_d (ha : PDF C a fa) (hr : PAF C es ga) (hs : ∀ env : PySem.Env, starEach (a :: es) env = (false, eval a env) :: starEach es env := by intro _; rfl) : PAF C (a :: es) (adF fa ga) := by
  obtain ⟨t, h1, h2⟩ := ha
  obtain ⟨u, k1, k2⟩ := hr
  refine ⟨_, fun X h => pa_cons (h1 X h) (k1 X h) (hs _), ?_⟩
  intro par ρ σ S as ρ' rl e Q q
  unfold adF at e
  split at e
  · cases e
  rename_i x ρ1 e1
  split at e
  · cases e
  rename_i as1 ρ2 e2
  cases e
  refine h2 par ρ σ S _ _ rl e1 _ fun S1 v st r1 d1 => ?_
  refine k2 par ρ1 σ S1 _ _ r1 e2 _ fun S2 vs st2 r2 d2 => ?_
  exact q S2 (v :: vs) (st.trans st2) r2 (.d (dp_mono st2.ex d1) d2)
theorem pa_bor (i : Nat) (hN : C.N[i]? = some x) (hv : VisS C.sc x) (hr : PAF C es ga) (hd : (x == ("__debug__" : Str)) = false := by decide) (hcd : (x == ("__classdict__" : Str)) = false := by decide)
    (hs : ∀ env : PySem.Env, starEach (.Name x p :: es) env = (false, eval (.Name x p) env) :: starEach es env := by intro _; rfl) : PAF C (.Name x p :: es) (aborF i ga) := by
  obtain ⟨u, k1, k2⟩ := hr
  refine ⟨_, fun X h => pa_cons (pe_var (h.nm hN) (h.vis hv) hd hcd) (k1 X h) (hs _), ?_⟩
  intro par ρ σ S as ρ' rl e Q q
  unfold aborF at e
  split at e
  · rename_i hset
    split at e
    · cases e
    rename_i as1 ρ1 e1
    cases e
    obtain ⟨v, hv⟩ := rl.isSet hset
    refine ⟨v, hv, k2 par ρ σ S _ _ rl e1 _ fun S1 vs st r1 d1 => ?_⟩
    exact q S1 (v :: vs) st r1 (.bor hv d1)
  · cases e
theorem pa_fn {f : Addr} (hg : C.sc.names.lookup x = some .globalImplicit) (hm : C.mg x = some (.ref f)) (hr : PAF C es ga) (hd : (x == ("__debug__" : Str)) = false := by decide)
    (hs : ∀ env : PySem.Env, starEach (.Name x p :: es) env = (false, eval (.Name x p) env) :: starEach es env := by intro _; rfl) : PAF C (.Name x p :: es) (afnF x ga) := by
  obtain ⟨u, k1, k2⟩ := hr
  refine ⟨tCons (tC (.ref f)) u, fun X h => pa_cons (pe_glob (h.gl hg) (by rw [h.hm]; exact hm) rfl hd) (k1 X h) (hs _), ?_⟩
  intro par ρ σ S as ρ' rl e Q q
  unfold afnF at e
  split at e
  · cases e
  rename_i as1 ρ1 e1
  cases e
  show u σ S.H _
  exact k2 par ρ σ S _ _ rl e1 _ fun S1 vs st r1 d1 => q S1 _ st r1 (.fn hm d1)

/-! ### a def's body -/
def backA : List Sl → Env → Option (List Sl)
  | [], _ => some []
  | .ow true _ :: as, .ow true o :: ρ => (backA as ρ).map (Sl.ow true o :: ·)
  | .ow true _ :: _, _ => none
  | _ :: as, _ :: ρ => (backA as ρ).map (Sl.un :: ·)
  | _ :: _, [] => none
/-- the def's function: n parameters, m names -/
def runF (m : Nat) (g : SF) : Fn := fun as => match g (as ++ List.replicate (m - as.length) .un) with
  | some (.rt s ρ) => (match backA as ρ with
    | some bs => some (s, bs)
    | none => none)
  | some (.nx ρ) => (match backA as ρ with
    | some bs => some (.d .none, bs)
    | none => none)
  | _ => none
theorem backA_get : ∀ {as : List Sl} {ρ : Env} {bs : List Sl}, backA as ρ = some bs → bs.length = as.length ∧ ∀ (j : Nat) (s : Sl), bs[j]? = some s → s = Sl.un ∨ (ρ[j]? = some s ∧ ∃ o, s = .ow true o)
  | [], _, bs, h => by cases h; exact ⟨rfl, fun j s e => by simp at e⟩
  | .ow true _ :: as, .ow true o :: ρ, bs, h => by
    unfold backA at h
    rw [Option.map_eq_some_iff] at h
    obtain ⟨b, h1, rfl⟩ := h
    obtain ⟨l, k⟩ := backA_get h1
    refine ⟨by simp [l], fun j s e => ?_⟩
    cases j with
    | zero => simp at e; subst e; exact .inr ⟨rfl, _, rfl⟩
    | succ j => simpa using k j s (by simpa using e)
  | .ow true _ :: _, [], _, h => by simp [backA] at h
  | .ow true _ :: _, .un :: _, _, h => by simp [backA] at h
  | .ow true _ :: _, .d _ :: _, _, h => by simp [backA] at h
  | .ow true _ :: _, .fn _ :: _, _, h => by simp [backA] at h
  | .ow true _ :: _, .ow false _ :: _, _, h => by simp [backA] at h
  | .un :: as, _ :: ρ, bs, h => by
    simp only [backA, Option.map_eq_some_iff] at h
    obtain ⟨b, h1, rfl⟩ := h
    obtain ⟨l, k⟩ := backA_get h1
    refine ⟨by simp [l], fun j s e => ?_⟩
    cases j with
    | zero => simp at e; exact .inl e.symm
    | succ j => simpa using k j s (by simpa using e)
  | .d _ :: as, _ :: ρ, bs, h => by
    simp only [backA, Option.map_eq_some_iff] at h
    obtain ⟨b, h1, rfl⟩ := h
    obtain ⟨l, k⟩ := backA_get h1
    refine ⟨by simp [l], fun j s e => ?_⟩
    cases j with
    | zero => simp at e; exact .inl e.symm
    | succ j => simpa using k j s (by simpa using e)
  | .fn _ :: as, _ :: ρ, bs, h => by
    simp only [backA, Option.map_eq_some_iff] at h
    obtain ⟨b, h1, rfl⟩ := h
    obtain ⟨l, k⟩ := backA_get h1
    refine ⟨by simp [l], fun j s e => ?_⟩
    cases j with
    | zero => simp at e; exact .inl e.symm
    | succ j => simpa using k j s (by simpa using e)
  | .ow false _ :: as, _ :: ρ, bs, h => by
    simp only [backA, Option.map_eq_some_iff] at h
    obtain ⟨b, h1, rfl⟩ := h
    obtain ⟨l, k⟩ := backA_get h1
    refine ⟨by simp [l], fun j s e => ?_⟩
    cases j with
    | zero => simp at e; exact .inl e.symm
    | succ j => simpa using k j s (by simpa using e)
  | .un :: _, [], _, h => by simp [backA] at h
  | .d _ :: _, [], _, h => by simp [backA] at h
  | .fn _ :: _, [], _, h => by simp [backA] at h
  | .ow false _ :: _, [], _, h => by simp [backA] at h
/-- some of the slots -/
def selA (ρ' : Env) (As : Nat → List Addr) (j : Nat) : List Addr := match ρ'[j]? with
  | some .un => []
  | none => []
  | some _ => As j
theorem selA_sub {ρ' : Env} {As : Nat → List Addr} {j : Nat} {a : Addr} (h : a ∈ selA ρ' As j) : a ∈ As j ∧ ∃ s, ρ'[j]? = some s ∧ s ≠ Sl.un := by
  unfold selA at h
  split at h
  · cases h
  · cases h
  · rename_i s hs e
    exact ⟨h, s, e, fun w => hs w⟩
theorem selA_of {ρ' : Env} {As : Nat → List Addr} {j : Nat} {a : Addr} {s : Sl} (e : ρ'[j]? = some s) (hs : s ≠ Sl.un) (h : a ∈ As j) : a ∈ selA ρ' As j := by
  unfold selA
  rw [e]
  cases s with
  | un => exact absurd rfl hs
  | _ => exact h
theorem Rl.sel {par : Nat → Option V} {ρ ρ' : Env} {σ σ' : L2.St} {S : Sn} (r : Rl K mg par ρ σ S) (hl : σ'.length = ρ'.length) (h : ∀ (j : Nat) (s : Sl), ρ'[j]? = some s → s = Sl.un ∨ (ρ[j]? = some s ∧ σ'[j]? = σ[j]?)) :
    ∃ own', (∀ a, own' a → S.own a) ∧ Rl K mg par ρ' σ' ⟨S.F, S.H, own'⟩ := by
  obtain ⟨As, h1, h2, h3, h4⟩ := r.slots
  refine ⟨fun a => ∃ j, a ∈ selA ρ' As j, fun a ⟨j, ha⟩ => (h4 a).mpr ⟨j, (selA_sub ha).1⟩, r.ext, hl, fun a ⟨j, ha⟩ => r.avo a ((h4 a).mpr ⟨j, (selA_sub ha).1⟩),
    selA ρ' As, fun j s e => ?_, fun j e => ?_, fun i j a hi hj => h3 i j a (selA_sub hi).1 (selA_sub hj).1, fun a => Iff.rfl⟩
  · have eA : selA ρ' As j = (match (some s : Option Sl) with | some .un => [] | none => [] | some _ => As j) := by unfold selA; rw [e]
    rcases h j s e with q | ⟨q1, q2⟩
    · subst q
      exact eA
    · have z := h1 j s q1
      rw [← q2] at z
      cases s with
      | un => exact eA
      | d x => rw [show selA ρ' As j = As j from eA]; exact z
      | fn x => rw [show selA ρ' As j = As j from eA]; exact z
      | ow b o => rw [show selA ρ' As j = As j from eA]; exact z
  · unfold selA
    rw [e]
theorem Nw.less {S S' : Sn} {o : O} {v : V} {A : List Addr} {own' : Addr → Prop} (h : ∀ a, own' a → S'.own a) (n : Nw K S S' o v A) : Nw K S ⟨S'.F, S'.H, own'⟩ o v A :=
  ⟨n.ow, fun a ha z => n.nown a ha (h a z), n.nF, n.org⟩
theorem RetV.less {S S' : Sn} {v : V} {s : Sl} {own' : Addr → Prop} (h : ∀ a, own' a → S'.own a) (n : RetV K S S' v s) : RetV K S ⟨S'.F, S'.H, own'⟩ v s := by
  cases s with
  | un => exact n
  | fn x => exact n
  | d x => exact n
  | ow b o =>
    cases b with
    | true => exact n
    | false => obtain ⟨A, n⟩ := n; exact ⟨A, n.less h⟩
theorem Rl.more {par : Nat → Option V} {ρ : Env} {σ : L2.St} {S : Sn} (r : Rl K mg par ρ σ S) (m : Nat) : Rl K mg par (ρ ++ List.replicate m .un) (σ ++ List.replicate m none) S := by
  obtain ⟨As, h1, h2, h3, h4⟩ := r.slots
  refine ⟨r.ext, by simp [r.len], r.avo, As, fun j s e => ?_, fun j e => ?_, h3, h4⟩
  · by_cases hj : j < ρ.length
    · rw [List.getElem?_append_left hj] at e
      rw [List.getElem?_append_left (by rw [r.len]; exact hj)]
      exact h1 j s e
    · rw [List.getElem?_append_right (by omega), List.getElem?_replicate] at e
      split at e
      · cases e
        exact h2 j (List.getElem?_eq_none (by omega))
      · cases e
  · have := List.getElem?_eq_none_iff.mp e
    rw [List.length_append] at this
    exact h2 j (List.getElem?_eq_none (by omega))
section
variable {P : Program} {w : World} {base : Heap}
/-- THE RULE for a def -/
theorem fn_ok {qual : Str} {st : Stmt} {f : Addr} {fd : FuncData} {N ps : List Str} {k : Nat} (F : Fun K x qual st f fd) (S : FnScope N ps (defScope st)) (hN : ps.length ≤ N.length) (hb : PBF ⟨P, w, K, mg, base, N, defScope st, fun _ => true, k⟩ (defBody st) g) :
    FnOk P w K mg base CX0 (k + 1) f fd ps (spF K mg ps.length (runF N.length g)) := by
  obtain ⟨t, t1, t2⟩ := hb
  refine F.ok S (fun vs H Q E h => h.1) (fun cdv A outer s H vs Q E hr h => ?_)
  refine ⟨t, t1 _ ⟨rfl, rfl, rfl, rfl, rfl, rfl, rfl, rfl, fun _ _ => rfl, hr, PassesOwn.never⟩, ?_⟩
  obtain ⟨hl, par, as, S0, sv, as', rfl, hp, rl, e, q⟩ := h
  have hal : as.length = vs.length := by rw [← rl.len, List.length_map]
  unfold runF at e
  have r0 := rl.more (N.length - vs.length)
  show t _ (start N vs) S0.H
  have e0 : start N vs = vs.map some ++ List.replicate (N.length - vs.length) none := rfl
  rw [e0]
  rw [hal] at e
  have fin : ∀ {ρ1 : Env} {bs : List Sl} {S1 : Sn} {σ1 : L2.St} {v : V} {s : Sl}, backA as ρ1 = some bs → Step S0 S1 → Rl K mg par ρ1 σ1 S1 → RetV K S0 S1 v s → (s, bs) = (sv, as') → Q v S1.H := fun {ρ1 bs S1 σ1 v s} hb st r1 rv ee => by
    cases ee
    obtain ⟨l, k⟩ := backA_get hb
    have sel := r1.sel (ρ' := as') (σ' := vs.map some) (by rw [List.length_map, l, hal]) fun j s e => by
      rcases k j s e with z | ⟨z, o, ez⟩
      · exact .inl z
      · refine .inr ⟨z, ?_⟩
        subst ez
        obtain ⟨v, A, hv, _, hpar, _⟩ := r1.getO z
        have hj : j < vs.length := by
          have := (List.getElem?_eq_some_iff.mp e).1
          omega
        have hvj : vs[j]? = some vs[j] := List.getElem?_eq_getElem hj
        have := hpar rfl
        rw [hp j _ hvj] at this
        cases this
        rw [hv, List.getElem?_map, hvj]
        rfl
    obtain ⟨own', ho, r2⟩ := sel
    exact q ⟨S1.F, S1.H, own'⟩ v ⟨st.ex, st.frm, st.per, st.gro, fun a ha => st.org a (ho a ha)⟩ r2 (rv.less ho)
  split at e
  · rename_i s ρ1 e1
    split at e
    · rename_i bs eb
      exact t2 par _ _ S0 _ r0 e1 _ fun S1 σ1 v st r1 rv => fin eb st r1 rv (Option.some.inj e)
    · cases e
  · rename_i ρ1 e1
    split at e
    · rename_i bs eb
      exact t2 par _ _ S0 _ r0 e1 _ fun S1 σ1 st r1 => fin eb st r1 (v := V.non) (s := .d .none) .non (Option.some.inj e)
    · cases e
  · cases e
/-- a def of the module that computes F with n arguments, by at most k calls -/
structure Fd (P : Program) (w : World) (K : PySem.W.Frag) (mg : Str → Option Value) (base : Heap) (x : Str) (n k : Nat) (F : Fn) : Prop where
  ex : ∃ (f : Addr) (fd : FuncData) (ps : List Str), FnOk P w K mg base CX0 k f fd ps (spF K mg n F) ∧ mg x = some (.ref f) ∧ PySem.W.keepIn K (.ref f) = true ∧ Binds K fd ps []
theorem Fd.mono {n k k' : Nat} {F : Fn} (h : Fd P w K mg base x n k F) (l : k ≤ k') : Fd P w K mg base x n k' F := by
  obtain ⟨f, fd, ps, a, b, c, d⟩ := h.ex
  exact ⟨f, fd, ps, a.mono l, b, c, d⟩
theorem fd_mk {qual : Str} {st : Stmt} {f : Addr} {fd : FuncData} {N ps : List Str} {k n : Nat} (F : Fun K x qual st f fd) (S : FnScope N ps (defScope st)) (hm : mg x = some (.ref f)) (hB : Binds K fd ps []) (hn : ps.length = n) (hN : ps.length ≤ N.length)
    (hb : PBF ⟨P, w, K, mg, base, N, defScope st, fun _ => true, k⟩ (defBody st) g) : Fd P w K mg base x n (k + 1) (runF N.length g) := by
  subst hn
  exact ⟨f, fd, ps, fn_ok F S hN hb, hm, F.kp, hB⟩
end

/-! ### calls -/
def resS (F : Fn) (al : AF) : Env → Option (Sl × Env) := fun ρ => match al ρ with
  | none => none
  | some (as, ρ1) => if (borKs as).Nodup then (match argSl ρ1 as with
    | none => none
    | some sl => match F sl with
      | none => none
      | some (s, bs) => match putBack as bs ρ1 with
        | none => none
        | some ρ2 => some (s, ρ2)) else none
theorem call_rl {par : Nat → Option V} {ρ1 ρ2 : Env} {σ : L2.St} {S : Sn} {as : List AV} {sl bs : List Sl} {vs : List V} (r : Rl K mg par ρ1 σ S) (ha : ArgsOk K mg σ S.F vs as) (n : (borKs as).Nodup) (h1 : argSl ρ1 as = some sl) (h2 : putBack as bs ρ1 = some ρ2) :
    ∃ (par' : Nat → Option V) (Sc : Sn), Sc.H = S.H ∧ (∀ i v, vs[i]? = some v → par' i = some v) ∧ Rl K mg par' sl (vs.map some) Sc ∧
      ∀ S2 v s, Step Sc S2 → Rl K mg par' bs (vs.map some) S2 → RetV K Sc S2 v s → ∃ S3, S3.H = S2.H ∧ Step S S3 ∧ Rl K mg par ρ2 σ S3 ∧ RetV K S S3 v s := by
  obtain ⟨As, k1, k2, k3, k4⟩ := r.slots
  obtain ⟨al, aat⟩ := ha.at
  obtain ⟨sll, slat⟩ := argSl_at h1
  have there := r.there
  -- the addresses lent at place i
  let Ac : Nat → List Addr := fun i => match as[i]? with
    | some (.bor k) => As k
    | _ => []
  have acb : ∀ {i : Nat} {a : Addr}, a ∈ Ac i → ∃ k : Nat, as[i]? = some (AV.bor k) ∧ a ∈ As k := fun {i a} h => by
    have h' : a ∈ (match as[i]? with | some (.bor k) => As k | _ => [] : List Addr) := h
    split at h'
    · rename_i k e
      exact ⟨k, e, h'⟩
    · cases h'
  have acm : ∀ {i k : Nat} {a : Addr}, as[i]? = some (AV.bor k) → a ∈ As k → a ∈ Ac i := fun {i k a} e h => by
    show a ∈ (match as[i]? with | some (.bor k) => As k | _ => [] : List Addr)
    rw [e]
    exact h
  have inj : ∀ {i j k : Nat}, as[i]? = some (AV.bor k) → as[j]? = some (AV.bor k) → i = j := fun {i j k} h h' => by
    have q1 := borIx_of n h
    have q2 := borIx_of n h'
    rw [q1] at q2
    exact Option.some.inj q2
  refine ⟨fun i => vs[i]?, ⟨S.F, S.H, fun a => ∃ i, a ∈ Ac i⟩, rfl, fun i v h => h, ⟨r.ext, by rw [List.length_map, sll, al], fun a ⟨i, ha⟩ => ?_, Ac, fun i s e => ?_, fun i e => ?_, fun i j a hi hj => ?_, fun a => Iff.rfl⟩, ?_⟩
  · obtain ⟨k, _, h⟩ := acb ha
    exact r.avo a ((k4 a).mpr ⟨k, h⟩)
  · have hi : i < as.length := by
      have := (List.getElem?_eq_some_iff.mp e).1
      omega
    obtain ⟨s', e1, e2⟩ := slat i as[i] (List.getElem?_eq_getElem hi)
    rw [e] at e1
    cases e1
    obtain ⟨v, hv, hm⟩ := aat i as[i] (List.getElem?_eq_getElem hi)
    have hvm : (vs.map some)[i]? = some (some v) := by rw [List.getElem?_map, hv]; rfl
    have eA : Ac i = (match as[i]? with | some (.bor k) => As k | _ => []) := rfl
    rw [List.getElem?_eq_getElem hi] at eA
    rw [hvm]
    generalize as[i] = a at e2 hm eA
    cases a with
    | d x =>
      cases e2
      exact ⟨eA, v, rfl, hm⟩
    | fn x =>
      cases e2
      obtain ⟨f, rfl, hf⟩ := hm
      exact ⟨eA, f, rfl, hf⟩
    | bor k =>
      simp only [toSl] at e2
      have eA : Ac i = As k := eA
      have hm : σ[k]? = some (some v) := hm
      split at e2
      · rename_i x ex
        cases e2
        obtain ⟨z1, w, z2, z3⟩ := k1 k _ ex
        rw [hm] at z2
        cases z2
        exact ⟨eA.trans z1, v, rfl, z3⟩
      · rename_i fx o ex
        cases e2
        obtain ⟨w, z2, z3, _⟩ := k1 k _ ex
        rw [hm] at z2
        cases z2
        exact ⟨v, rfl, by rw [eA]; exact z3, fun _ => hv⟩
      · rename_i x ex
        cases e2
        obtain ⟨z1, w, z2, z3⟩ := k1 k _ ex
        rw [hm] at z2
        cases z2
        exact ⟨eA.trans z1, w, rfl, z3⟩
      · cases e2
  · have hi : as.length ≤ i := by
      have := List.getElem?_eq_none_iff.mp e
      omega
    show (match as[i]? with | some (.bor k) => As k | _ => []) = []
    rw [List.getElem?_eq_none hi]
  · obtain ⟨k, e1, m1⟩ := acb hi
    obtain ⟨k', e2, m2⟩ := acb hj
    cases k3 k k' a m1 m2
    exact inj e1 e2
  · intro S2 v s st r2 rv
    obtain ⟨Bs, l1, l2, l3, l4⟩ := r2.slots
    obtain ⟨pl, pg⟩ := putBack_get h2 n
    -- a slot's addresses behind the call
    let A3 : Nat → List Addr := fun j => match borIx as j with
      | some i => (match ρ1[j]? with
        | some (.ow _ _) => Bs i
        | _ => As j)
      | none => As j
    have a3n : ∀ {j : Nat}, borIx as j = none → A3 j = As j := fun {j} h => by show (match borIx as j with | some i => (match ρ1[j]? with | some (.ow _ _) => Bs i | _ => As j) | none => As j) = As j; rw [h]
    have a3o : ∀ {j i : Nat} {fx : Bool} {o : O}, borIx as j = some i → ρ1[j]? = some (Sl.ow fx o) → A3 j = Bs i := fun {j i fx o} h h' => by show (match borIx as j with | some i => (match ρ1[j]? with | some (.ow _ _) => Bs i | _ => As j) | none => As j) = Bs i; rw [h, h']
    have a3l : ∀ {j : Nat}, light ρ1[j]? = true → A3 j = As j ∧ As j = [] := fun {j} h => by
      have z : As j = [] := by
        cases q : ρ1[j]? with
        | none => exact k2 j q
        | some s' =>
          have z := k1 j s' q
          rw [q] at h
          cases s' with
          | un => exact z
          | d x => exact z.1
          | fn x => exact z.1
          | ow b o => cases h
      refine ⟨?_, z⟩
      show (match borIx as j with | some i => (match ρ1[j]? with | some (.ow _ _) => Bs i | _ => As j) | none => As j) = As j
      split
      · split
        · rename_i e
          rw [e] at h
          cases h
        · rfl
      · rfl
    have a3c : ∀ {j : Nat} {a : Addr}, a ∈ A3 j → (a ∈ As j ∧ borIx as j = none) ∨ ∃ (i : Nat) (fx : Bool) (o : O), borIx as j = some i ∧ ρ1[j]? = some (Sl.ow fx o) ∧ a ∈ Bs i := fun {j a} h => by
      cases q : borIx as j with
      | none => rw [a3n q] at h; exact .inl ⟨h, rfl⟩
      | some i =>
        cases w : ρ1[j]? with
        | none =>
          obtain ⟨z1, z2⟩ := a3l (j := j) (by rw [w]; rfl)
          rw [z1, z2] at h; cases h
        | some s' =>
          cases s' with
          | ow fx o => rw [a3o q w] at h; exact .inr ⟨i, fx, o, rfl, rfl, h⟩
          | un => obtain ⟨z1, z2⟩ := a3l (j := j) (by rw [w]; rfl); rw [z1, z2] at h; cases h
          | d x => obtain ⟨z1, z2⟩ := a3l (j := j) (by rw [w]; rfl); rw [z1, z2] at h; cases h
          | fn x => obtain ⟨z1, z2⟩ := a3l (j := j) (by rw [w]; rfl); rw [z1, z2] at h; cases h
    -- an address of a slot that was not lent: the callee left it
    have far : ∀ {j : Nat} {a : Addr}, a ∈ As j → borIx as j = none → ¬ ∃ i, a ∈ Ac i := fun {j a} h q ⟨i, z⟩ => by
      obtain ⟨k, e1, m1⟩ := acb z
      cases k3 j k a h m1
      rw [borIx_of n e1] at q
      cases q
    have farF : ∀ {j : Nat} {a : Addr}, a ∈ As j → borIx as j = none → S2.F a = none := fun {j a} h q => by
      cases w : S2.F a with
      | none => rfl
      | some u =>
        have ow := (k4 a).mpr ⟨j, h⟩
        rcases st.gro a (by rw [w]; simp) with z | z | z
        · exact absurd (r.avo a ow) z
        · exact absurd z (there a ow)
        · exact absurd z (far h q)
    have farO : ∀ {j : Nat} {a : Addr}, a ∈ As j → borIx as j = none → ¬ S2.own a := fun {j a} h q z => by
      have ow := (k4 a).mpr ⟨j, h⟩
      rcases st.org a z with z | z
      · exact far h q z
      · exact there a ow z
    have orgB : ∀ {a : Addr}, S2.own a → S.own a ∨ S.H a = none := fun {a} z => by
      rcases st.org a z with ⟨i, z⟩ | z
      · obtain ⟨k, _, m⟩ := acb z
        exact .inl ((k4 a).mpr ⟨k, m⟩)
      · exact .inr z
    refine ⟨⟨S2.F, S2.H, fun a => ∃ j, a ∈ A3 j⟩, rfl, ⟨st.ex, fun a o h nn => st.frm a o h fun ⟨i, z⟩ => ?_, st.per, fun a h => ?_, fun a ⟨j, hj⟩ => ?_⟩, ⟨r2.ext, by rw [pl]; exact r.len, fun a ⟨j, hj⟩ => ?_, A3, fun j s e => ?_, fun j e => ?_, fun i j a hi hj => ?_, fun a => Iff.rfl⟩, ?_⟩
    · obtain ⟨k, _, m⟩ := acb z
      exact nn ((k4 a).mpr ⟨k, m⟩)
    · rcases st.gro a h with z | z | ⟨i, z⟩
      · exact .inl z
      · exact .inr (.inl z)
      · obtain ⟨k, _, m⟩ := acb z
        exact .inr (.inr ((k4 a).mpr ⟨k, m⟩))
    · rcases a3c hj with ⟨z, _⟩ | ⟨i, fx, o, _, _, z⟩
      · exact .inl ((k4 a).mpr ⟨j, z⟩)
      · exact orgB ((l4 a).mpr ⟨i, z⟩)
    · rcases a3c hj with ⟨z, q⟩ | ⟨i, fx, o, _, _, z⟩
      · exact farF z q
      · exact r2.avo a ((l4 a).mpr ⟨i, z⟩)
    · rcases pg j s e with ⟨e1, e2⟩ | ⟨i, fx, o, o', q1, q2, q3, rfl⟩
      · by_cases hq : borIx as j = none
        · rw [a3n hq]
          refine SlOk.mono (S := S) (S' := ⟨S2.F, S2.H, _⟩) st.ex (fun a ha u hu => st.frm a u hu (far ha hq)) (k1 j s e1)
        · rcases e2 with e2 | e2
          · obtain ⟨z1, z2⟩ := a3l (j := j) (by rw [e1]; exact e2)
            rw [z1]
            refine SlOk.mono (S := S) (S' := ⟨S2.F, S2.H, _⟩) st.ex (fun a ha u hu => by rw [z2] at ha; cases ha) (k1 j s e1)
          · cases w : borIx as j with
            | none => exact absurd w hq
            | some i => exact absurd (borKs_mem (borIx_at w)) e2
      · have hix := borIx_of n q1
        rw [a3o hix q3]
        obtain ⟨w, z1, z2, _⟩ := l1 i _ q2
        obtain ⟨v', hv', hm⟩ := aat i _ q1
        have hm : σ[j]? = some (some v') := hm
        rw [List.getElem?_map, hv'] at z1
        cases z1
        obtain ⟨w2, y1, _, y3⟩ := k1 j _ q3
        rw [hm] at y1
        cases y1
        exact ⟨_, hm, z2, y3⟩
    · have hl : ρ1[j]? = none := by
        have := List.getElem?_eq_none_iff.mp e
        exact List.getElem?_eq_none (by omega)
      obtain ⟨z1, z2⟩ := a3l (j := j) (by rw [hl]; rfl)
      rw [z1, z2]
    · rcases a3c hi with ⟨z1, y1⟩ | ⟨i1, fx1, o1, y1, w1, z1⟩
      · rcases a3c hj with ⟨z2, y2⟩ | ⟨i2, fx2, o2, y2, w2, z2⟩
        · exact k3 i j a z1 z2
        · exact absurd ((l4 a).mpr ⟨i2, z2⟩) (farO z1 y1)
      · rcases a3c hj with ⟨z2, y2⟩ | ⟨i2, fx2, o2, y2, w2, z2⟩
        · exact absurd ((l4 a).mpr ⟨i1, z1⟩) (farO z2 y2)
        · have e12 := l3 i1 i2 a z1 z2
          subst e12
          have b1 := borIx_at y1
          have b2 := borIx_at y2
          rw [b1] at b2
          cases b2
          rfl
    · cases s with
      | un => exact rv
      | fn x => exact rv
      | d x => exact rv
      | ow b o =>
        cases b with
        | true => exact rv
        | false =>
          obtain ⟨A, nw⟩ := rv
          refine ⟨A, nw.ow, fun a ha ⟨j, hj⟩ => ?_, nw.nF, fun a ha => ?_⟩
          · rcases a3c hj with ⟨z, q⟩ | ⟨i, fx, o, _, _, z⟩
            · have ow := (k4 a).mpr ⟨j, z⟩
              rcases nw.org a ha with y | y
              · exact far z q y
              · exact there a ow y
            · exact nw.nown a ha ((l4 a).mpr ⟨i, z⟩)
          · rcases nw.org a ha with ⟨i, z⟩ | z
            · obtain ⟨k, _, m⟩ := acb z
              exact .inl ((k4 a).mpr ⟨k, m⟩)
            · exact .inr z
theorem snd_res {t : TA} {F : Fn} {m : Nat} {E : XK} (h : SndA K mg t ga) {par : Nat → Option V} {ρ : Env} {σ : L2.St} {S : Sn} {s : Sl} {ρ' : Env} (rl : Rl K mg par ρ σ S) (e : resS F ga ρ = some (s, ρ')) (hm : ∀ as ρ1, ga ρ = some (as, ρ1) → as.length = m) (Q : VK)
    (q : ∀ S' v, Step S S' → Rl K mg par ρ' σ S' → RetV K S S' v s → Q v S'.H) : tCall (spF K mg m F) [] E t σ S.H Q := by
  unfold resS at e
  split at e
  · cases e
  rename_i as ρ1 e1
  split at e
  rotate_left
  · cases e
  rename_i nd
  split at e
  · cases e
  rename_i sl e2
  split at e
  · cases e
  rename_i s' bs e3
  split at e
  · cases e
  rename_i ρ2 e4
  cases e
  refine h par ρ σ S as ρ1 rl e1 _ fun S1 vs st r1 ha => ?_
  obtain ⟨par', Sc, eH, hp, rc, fin⟩ := call_rl r1 ha nd e2 e4
  rw [List.append_nil]
  refine ⟨ha.at.1.trans (hm as ρ1 e1), par', sl, Sc, s, bs, eH, hp, rc, e3, fun S2 v st2 r2 rv => ?_⟩
  obtain ⟨S3, eH3, st3, r3, rv3⟩ := fin S2 v s st2 r2 rv
  rw [← eH3]
  exact q S3 v (st.trans st3) r3 (rv3.trans st)
def callD (F : Fn) (al : AF) : EF := fun ρ => match resS F al ρ with
  | some (.d x, ρ1) => some (x, ρ1)
  | some (.ow false (.lst xs), ρ1) => some (.list xs, ρ1)
  | _ => none
def callO (F : Fn) (al : AF) : OF := fun ρ => match resS F al ρ with
  | some (.ow false o, ρ1) => some (o, ρ1)
  | _ => none
/-- so many arguments -/
def Arn (ga : AF) (m : Nat) : Prop := ∀ ρ as ρ1, ga ρ = some (as, ρ1) → as.length = m
theorem arn_nil : Arn anilF 0 := fun ρ as ρ1 e => by cases e; rfl
theorem arn_d {m : Nat} (h : Arn ga m) : Arn (adF fa ga) (m + 1) := fun ρ as ρ1 e => by
  unfold adF at e
  split at e
  · cases e
  split at e
  · cases e
  rename_i e2
  cases e
  simp [h _ _ _ e2]
theorem arn_bor {m : Nat} (h : Arn ga m) : Arn (aborF i ga) (m + 1) := fun ρ as ρ1 e => by
  unfold aborF at e
  split at e
  · split at e
    · cases e
    rename_i e2
    cases e
    simp [h _ _ _ e2]
  · cases e
theorem arn_fn {m : Nat} (h : Arn ga m) : Arn (afnF x ga) (m + 1) := fun ρ as ρ1 e => by
  unfold afnF at e
  split at e
  · cases e
  rename_i e2
  cases e
  simp [h _ _ _ e2]
theorem Ct.In.fn0 {X : Cx} (h : C.In X) {k : Nat} {f : Addr} {fd : FuncData} {ps : List Str} {sp : Sp} (F : FnOk C.P C.w C.K C.mg C.base CX0 k f fd ps sp) : FnOk X.prog X.w X.K X.mg X.base CX0 k f fd ps sp := by
  rw [h.hP, h.hw, h.hK, h.hm, h.hb]; exact F
theorem pd_call {F : Fn} {n k : Nat} (Gd : Fd C.P C.w C.K C.mg C.base x n k F) (hk : k ≤ C.k) (hg : C.sc.names.lookup x = some .globalImplicit) (ha : PAF C (e :: es) ga) (hn : Arn ga n) (hdb : (x == ("__debug__" : Str)) = false := by decide)
    (he : ∀ env : PySem.Env, starEach (e :: es) env = (false, eval e env) :: starEach es env := by intro _; rfl) (hpl : ∀ env : PySem.Env, (backTo pos (starEach es env)).any (·.1) = false := by intro _; rfl) : PDF C (.Call (.Name x p) (e :: es) [] pos) (callD F ga) := by
  obtain ⟨f, fd, ps, g1, g2, g3, g4⟩ := Gd.ex
  obtain ⟨t, t1, t2⟩ := ha
  refine ⟨tCall (spF C.K C.mg n F) [] E0 t, fun X h => pe_call (h.fn0 g1) (h.room.mono hk) (h.gl hg) (by rw [h.hm]; exact g2) (by rw [h.hK]; exact g3) (by rw [h.hK]; exact g4) .nil pass0 (t1 X h) hdb (he _) (hpl _), ?_⟩
  intro par ρ σ S d ρ' rl e Q q
  unfold callD at e
  split at e
  · rename_i x0 ρ1 e1
    cases e
    exact snd_res t2 rl e1 (hn ρ) Q fun S1 v st r1 rv => q S1 v st r1 rv
  · rename_i xs ρ1 e1
    cases e
    refine snd_res t2 rl e1 (hn ρ) Q fun S1 v st r1 rv => ?_
    obtain ⟨A, nw⟩ := rv
    obtain ⟨S2, r2, st2, eH, d2⟩ := r1.nwF nw st
    rw [← eH]
    exact q S2 v st2 r2 d2
  · cases e
theorem po_call {F : Fn} {n k : Nat} (Gd : Fd C.P C.w C.K C.mg C.base x n k F) (hk : k ≤ C.k) (hg : C.sc.names.lookup x = some .globalImplicit) (ha : PAF C (e :: es) ga) (hn : Arn ga n) (hdb : (x == ("__debug__" : Str)) = false := by decide)
    (he : ∀ env : PySem.Env, starEach (e :: es) env = (false, eval e env) :: starEach es env := by intro _; rfl) (hpl : ∀ env : PySem.Env, (backTo pos (starEach es env)).any (·.1) = false := by intro _; rfl) : POF C (.Call (.Name x p) (e :: es) [] pos) (callO F ga) := by
  obtain ⟨f, fd, ps, g1, g2, g3, g4⟩ := Gd.ex
  obtain ⟨t, t1, t2⟩ := ha
  refine ⟨tCall (spF C.K C.mg n F) [] E0 t, fun X h => pe_call (h.fn0 g1) (h.room.mono hk) (h.gl hg) (by rw [h.hm]; exact g2) (by rw [h.hK]; exact g3) (by rw [h.hK]; exact g4) .nil pass0 (t1 X h) hdb (he _) (hpl _), ?_⟩
  intro par ρ σ S d ρ' rl e Q q
  unfold callO at e
  split at e
  · rename_i o ρ1 e1
    cases e
    refine snd_res t2 rl e1 (hn ρ) Q fun S1 v st r1 rv => ?_
    obtain ⟨A, nw⟩ := rv
    exact q S1 v A st r1 nw
  · cases e
end
end G

set_option Elab.async false
set_option linter.all false
set_option maxRecDepth 100000
set_option maxHeartbeats 4000000
/-! built-ins on data -/
namespace G
open PySem PySem.Spec PyProof.Rows L2
section
variable {C : Ct} {f : Value}
/-! ### one answer or another -/
def orC {β : Type} (g h : List D → Option β) : List D → Option β := fun xs => match g xs with
  | some z => some z
  | none => h xs
theorem CallS.or {g h : List D → Option D} (a : CallS C f g) (b : CallS C f h) : CallS C f (orC g h) := by
  obtain ⟨r, a1, a2⟩ := a
  obtain ⟨r', b1, b2⟩ := b
  refine ⟨_, fun X i => (a1 X i).or (b1 X i), ?_⟩
  intro F H ds z vs e da hz Q q
  unfold orC at hz
  split at hz
  · rename_i w hw
    cases hz
    exact .inl (a2 F H ds _ vs e da hw Q q)
  · exact .inr (b2 F H ds _ vs e da hz Q q)
theorem CallO.or {g h : List D → Option (List D)} (a : CallO C f g) (b : CallO C f h) : CallO C f (orC g h) := by
  obtain ⟨r, a1, a2⟩ := a
  obtain ⟨r', b1, b2⟩ := b
  refine ⟨_, fun X i => (a1 X i).or (b1 X i), ?_⟩
  intro F H ds z vs e da hz Q q
  unfold orC at hz
  split at hz
  · rename_i w hw
    cases hz
    exact .inl (a2 F H ds _ vs e da hw Q q)
  · exact .inr (b2 F H ds _ vs e da hz Q q)
theorem all1 {K : PySem.W.Frag} {H : Hp} {vs : List V} {d : D} (h : DnAll K H vs [d]) : ∃ v, vs = [v] ∧ Dn K H v d := by
  cases h with
  | cons a r => cases r; exact ⟨_, rfl, a⟩
theorem all2 {K : PySem.W.Frag} {H : Hp} {vs : List V} {d e : D} (h : DnAll K H vs [d, e]) : ∃ v w, vs = [v, w] ∧ Dn K H v d ∧ Dn K H w e := by
  cases h with
  | cons a r =>
    obtain ⟨w, rfl, b⟩ := all1 r
    exact ⟨_, w, rfl, a, b⟩

/-! ### len -/
def gLen : List D → Option D := fun ds => match ds with
  | [.str z] => if z.length ≤ 10000000 then some (.int z.length) else none
  | [.list xs] => some (.int xs.length)
  | [.tuple xs] => some (.int xs.length)
  | _ => none
theorem cs_len : CallS C (.builtin "len") gLen := by
  refine ⟨fun xs H Q => ∃ x n, xs = [x] ∧ LenV C.K x H n ∧ Q (.int n) H, fun X i => by rw [← i.hK]; exact call_len, ?_⟩
  intro F H ds z vs e da hz Q q
  unfold gLen at hz
  split at hz
  · obtain ⟨v, rfl, dv⟩ := all1 da
    cases dv
    split at hz
    · rename_i x hx
      cases hz
      exact ⟨_, x.length, rfl, ⟨le_line hx, rfl⟩, q F H _ (.refl e) (.int _)⟩
    · cases hz
  · obtain ⟨v, rfl, dv⟩ := all1 da
    cases dv with
    | @lst a ys _ ha dr =>
      cases hz
      refine ⟨.ref a, ys.length, rfl, .inl ⟨ys, e.l ha, rfl⟩, ?_⟩
      rw [dr.length]
      exact q F H _ (.refl e) (.int _)
  · obtain ⟨v, rfl, dv⟩ := all1 da
    cases dv with
    | @tup a ys _ ha dr =>
      cases hz
      refine ⟨.ref a, ys.length, rfl, .inr ⟨ys, e.t ha, rfl⟩, ?_⟩
      rw [dr.length]
      exact q F H _ (.refl e) (.int _)
  · cases hz
/-! ### numbers -/
def gAbs : List D → Option D := fun ds => match ds with
  | [.int i] => some (.int (if i < 0 then -i else i))
  | _ => none
theorem cs_abs : CallS C (.builtin "abs") gAbs := by
  refine ⟨_, fun X i => call_abs, ?_⟩
  intro F H ds z vs e da hz Q q
  unfold gAbs at hz
  split at hz
  · obtain ⟨v, rfl, dv⟩ := all1 da
    cases dv
    cases hz
    exact ⟨_, rfl, q F H _ (.refl e) (.int _)⟩
  · cases hz
def gInt : List D → Option D := fun ds => match ds with
  | [.int i] => some (.int i)
  | [.bool b] => some (.int (if b then 1 else 0))
  | _ => none
theorem cs_int : CallS C (.type "int") gInt := by
  refine ⟨_, fun X i => call_int1, ?_⟩
  intro F H ds z vs e da hz Q q
  unfold gInt at hz
  split at hz
  · obtain ⟨v, rfl, dv⟩ := all1 da
    cases dv
    cases hz
    exact .inl ⟨_, rfl, q F H _ (.refl e) (.int _)⟩
  · obtain ⟨v, rfl, dv⟩ := all1 da
    cases dv
    cases hz
    exact .inr ⟨_, rfl, q F H _ (.refl e) (.int _)⟩
  · cases hz
def gMax2 : List D → Option D := fun ds => match ds with
  | [.int i, .int j] => some (.int (if j > i then j else i))
  | _ => none
def gMin2 : List D → Option D := fun ds => match ds with
  | [.int i, .int j] => some (.int (if j < i then j else i))
  | _ => none
theorem cs_max2 : CallS C (.builtin "max") gMax2 := by
  refine ⟨_, fun X i => call_max2 i.calm, ?_⟩
  intro F H ds z vs e da hz Q q
  unfold gMax2 at hz
  split at hz
  · obtain ⟨v, w, rfl, dv, dw⟩ := all2 da
    cases dv
    cases dw
    cases hz
    exact ⟨_, _, rfl, q F H _ (.refl e) (.int _)⟩
  · cases hz
theorem cs_min2 : CallS C (.builtin "min") gMin2 := by
  refine ⟨_, fun X i => call_min2 i.calm, ?_⟩
  intro F H ds z vs e da hz Q q
  unfold gMin2 at hz
  split at hz
  · obtain ⟨v, w, rfl, dv, dw⟩ := all2 da
    cases dv
    cases dw
    cases hz
    exact ⟨_, _, rfl, q F H _ (.refl e) (.int _)⟩
  · cases hz
/-- ints in a list -/
def intsOf : List D → Option (List Int)
  | [] => some []
  | .int i :: r => (intsOf r).map (i :: ·)
  | _ :: _ => none
theorem intsOf_eq : ∀ {ds : List D} {ns : List Int}, intsOf ds = some ns → ds = ns.map PyData.int
  | [], _, h => by cases h; rfl
  | .int i :: r, ns, h => by
    unfold intsOf at h
    rw [Option.map_eq_some_iff] at h
    obtain ⟨m, h1, rfl⟩ := h
    rw [intsOf_eq h1]
    rfl
  | .none :: _, _, h => by cases h
  | .bool _ :: _, _, h => by cases h
  | .str _ :: _, _, h => by cases h
  | .list _ :: _, _, h => by cases h
  | .tuple _ :: _, _, h => by cases h
  | .dict _ :: _, _, h => by cases h
theorem intsOf_map : ∀ ns : List Int, intsOf (ns.map PyData.int) = some ns
  | [] => rfl
  | i :: r => by
    show (intsOf (r.map PyData.int)).map (i :: ·) = _
    rw [intsOf_map r]
    rfl
theorem foldl_max_of {m n : Int} : ∀ {ns : List Int}, m ∈ n :: ns → (∀ y ∈ n :: ns, y ≤ m) → ns.foldl max n = m
  | [], h, _ => (List.mem_singleton.mp h).symm
  | k :: r, h, h2 => by
    rw [List.foldl_cons]
    refine foldl_max_of ?_ fun y hy => ?_
    · have a := h2 n List.mem_cons_self
      have b := h2 k (List.mem_cons_of_mem _ List.mem_cons_self)
      rcases List.mem_cons.mp h with e | h
      · subst e
        rw [show max m k = m by omega]
        exact List.mem_cons_self
      · rcases List.mem_cons.mp h with e | h
        · subst e
          rw [show max n m = m by omega]
          exact List.mem_cons_self
        · exact List.mem_cons_of_mem _ h
    · have a := h2 n List.mem_cons_self
      have b := h2 k (List.mem_cons_of_mem _ List.mem_cons_self)
      rcases List.mem_cons.mp hy with e | hy
      · subst e
        omega
      · exact h2 y (List.mem_cons_of_mem _ (List.mem_cons_of_mem _ hy))
theorem foldl_min_of {m n : Int} : ∀ {ns : List Int}, m ∈ n :: ns → (∀ y ∈ n :: ns, m ≤ y) → ns.foldl min n = m
  | [], h, _ => (List.mem_singleton.mp h).symm
  | k :: r, h, h2 => by
    rw [List.foldl_cons]
    refine foldl_min_of ?_ fun y hy => ?_
    · have a := h2 n List.mem_cons_self
      have b := h2 k (List.mem_cons_of_mem _ List.mem_cons_self)
      rcases List.mem_cons.mp h with e | h
      · subst e
        rw [show min m k = m by omega]
        exact List.mem_cons_self
      · rcases List.mem_cons.mp h with e | h
        · subst e
          rw [show min n m = m by omega]
          exact List.mem_cons_self
        · exact List.mem_cons_of_mem _ h
    · have a := h2 n List.mem_cons_self
      have b := h2 k (List.mem_cons_of_mem _ List.mem_cons_self)
      rcases List.mem_cons.mp hy with e | hy
      · subst e
        omega
      · exact h2 y (List.mem_cons_of_mem _ (List.mem_cons_of_mem _ hy))
def gMaxL : List D → Option D := fun ds => match ds with
  | [.list xs] => (match intsOf xs with
    | some (n :: ns) => some (.int (ns.foldl max n))
    | _ => none)
  | _ => none
def gMinL : List D → Option D := fun ds => match ds with
  | [.list xs] => (match intsOf xs with
    | some (n :: ns) => some (.int (ns.foldl min n))
    | _ => none)
  | _ => none
theorem cs_maxL : CallS C (.builtin "max") gMaxL := by
  refine ⟨rMax C.K, fun X i => by rw [← i.hK]; exact cr_max i.calm, ?_⟩
  intro F H ds z vs e da hz Q q
  unfold gMaxL at hz
  split at hz
  · obtain ⟨v, rfl, dv⟩ := all1 da
    split at hz
    · rename_i n ns hn
      cases hz
      cases intsOf_eq hn
      cases dv with
      | lst ha dr =>
        cases DnAll.ints dr
        exact ⟨_, n :: ns, rfl, e.l ha, Nat.succ_pos _, fun m h1 h2 => by rw [← foldl_max_of h1 h2]; exact q F H _ (.refl e) (.int _)⟩
    · cases hz
  · cases hz
theorem cs_minL : CallS C (.builtin "min") gMinL := by
  refine ⟨rMin C.K, fun X i => by rw [← i.hK]; exact cr_min i.calm, ?_⟩
  intro F H ds z vs e da hz Q q
  unfold gMinL at hz
  split at hz
  · obtain ⟨v, rfl, dv⟩ := all1 da
    split at hz
    · rename_i n ns hn
      cases hz
      cases intsOf_eq hn
      cases dv with
      | lst ha dr =>
        cases DnAll.ints dr
        exact ⟨_, n :: ns, rfl, e.l ha, Nat.succ_pos _, fun m h1 h2 => by rw [← foldl_min_of h1 h2]; exact q F H _ (.refl e) (.int _)⟩
    · cases hz
  · cases hz
def gMax : List D → Option D := orC gMax2 gMaxL
def gMin : List D → Option D := orC gMin2 gMinL
theorem cs_max : CallS C (.builtin "max") gMax := .or cs_max2 cs_maxL
theorem cs_min : CallS C (.builtin "min") gMin := .or cs_min2 cs_minL
/-! ### sum -/
def rSumT (K : PySem.W.Frag) : List V → Hp → VK → Prop := fun vs H Q => ∃ (a : Addr) (ns : List Int), vs = [V.ref a] ∧ SqT K H a (ns.map V.int) ∧ Q (.int ns.sum) H
theorem cr_sumT {X : Cx} (hc : X.calm = true) : CallR X (.builtin "sum") (rSumT X.K) := by
  intro pins s σ H vs us Q I r h
  obtain ⟨a, ns, rfl, hs, q⟩ := h
  obtain ⟨its, rv, hl, _⟩ := I.tuple hs
  rw [Vals.ref1 r]
  have hi := rv.ints
  obtain ⟨xs, hx⟩ := hi.allInts.items
  have hn : numsOf its.toArray.toList = ns := hi.numsOf
  have hl' : s.heap.IsTuple a its.toArray := hl
  rw [hx] at hl' hn
  rw [nums_intItems] at hn
  refine PySem.W.ktm_sumG (I.ok.hd hc) hl' fun h' tk t' hk => ?_
  rw [preSum_eq, List.take_of_length_le (by simp), hn]
  exact ⟨.int _, H, I.kept hk, ⟨_, rfl⟩, q⟩
def gSum : List D → Option D := fun ds => match ds with
  | [.list xs] => (intsOf xs).map fun ns => .int ns.sum
  | [.tuple xs] => (intsOf xs).map fun ns => .int ns.sum
  | _ => none
theorem cs_sum : CallS C (.builtin "sum") gSum := by
  refine ⟨_, fun X i => (by rw [← i.hK]; exact (cr_sum i.calm).or (cr_sumT i.calm) : CallR X (.builtin "sum") (fun vs H Q => rSum C.K vs H Q ∨ rSumT C.K vs H Q)), ?_⟩
  intro F H ds z vs e da hz Q q
  unfold gSum at hz
  split at hz
  · obtain ⟨v, rfl, dv⟩ := all1 da
    rw [Option.map_eq_some_iff] at hz
    obtain ⟨ns, hn, rfl⟩ := hz
    cases intsOf_eq hn
    cases dv with
    | lst ha dr =>
      cases DnAll.ints dr
      exact .inl ⟨_, ns, rfl, e.l ha, q F H _ (.refl e) (.int _)⟩
  · obtain ⟨v, rfl, dv⟩ := all1 da
    rw [Option.map_eq_some_iff] at hz
    obtain ⟨ns, hn, rfl⟩ := hz
    cases intsOf_eq hn
    cases dv with
    | tup ha dr =>
      cases DnAll.ints dr
      exact .inr ⟨_, ns, rfl, e.t ha, q F H _ (.refl e) (.int _)⟩
  · cases hz
/-! ### tuple, list -/
def gTup : List D → Option D := fun ds => match ds with
  | [.list xs] => some (.tuple xs)
  | [.tuple xs] => some (.tuple xs)
  | _ => none
theorem cs_tuple : CallS C (.type "tuple") gTup := by
  refine ⟨fun xs H Q => ∃ p ys, xs = [.ref p] ∧ ((SqL C.K H p ys ∧ ∀ l, H l = none → Q (.ref l) (upd H l (.tup ys))) ∨ (SqT C.K H p ys ∧ Q (.ref p) H)), fun X i => by rw [← i.hK]; exact call_tuple_of, ?_⟩
  intro F H ds z vs e da hz Q q
  unfold gTup at hz
  split at hz
  · obtain ⟨v, rfl, dv⟩ := all1 da
    cases hz
    cases dv with
    | @lst a ys _ ha dr =>
      refine ⟨a, ys, rfl, .inl ⟨e.l ha, fun l hl => ?_⟩⟩
      have g := Gr.new (o := HO.tup ys) e hl
      exact q _ _ _ g (.tup (SqT.of upd_same) (dps_mono g.eF dr))
  · obtain ⟨v, rfl, dv⟩ := all1 da
    cases hz
    cases dv with
    | tup ha dr => exact ⟨_, _, rfl, .inr ⟨e.t ha, q F H _ (.refl e) (.tup ha dr)⟩⟩
  · cases hz
def gList : List D → Option (List D) := fun ds => match ds with
  | [.list xs] => some xs
  | [.tuple xs] => some xs
  | _ => none
theorem co_list : CallO C (.type "list") gList := by
  refine ⟨fun xs H Q => ∃ p ys, xs = [.ref p] ∧ (SqL C.K H p ys ∨ SqT C.K H p ys) ∧ ∀ l, H l = none → Q (.ref l) (upd H l (.lst ys)), fun X i => by rw [← i.hK]; exact call_list_of, ?_⟩
  intro F H ds z vs e da hz Q q
  unfold gList at hz
  split at hz
  · obtain ⟨v, rfl, dv⟩ := all1 da
    cases hz
    cases dv with
    | lst ha dr => exact ⟨_, _, rfl, .inl (e.l ha), fun l hl => q l _ hl dr⟩
  · obtain ⟨v, rfl, dv⟩ := all1 da
    cases hz
    cases dv with
    | tup ha dr => exact ⟨_, _, rfl, .inr (e.t ha), fun l hl => q l _ hl dr⟩
  · cases hz
/-! ### isinstance -/
def tyD : D → String
  | .none => "NoneType"
  | .bool _ => "bool"
  | .int _ => "int"
  | .str _ => "str"
  | .list _ => "list"
  | .tuple _ => "tuple"
  | .dict _ => "dict"
theorem tyX_of {K : PySem.W.Frag} {H : Hp} {v : V} {d : D} (h : Dn K H v d) (hd : ∀ ks, d ≠ .dict ks) : TyX K H v (.type (tyD d)) := by
  cases h with
  | non => exact .base .non
  | bl b => exact .base (.bl b)
  | int i => exact .base (.int i)
  | str x => exact .base (.str x)
  | lst ha _ =>
    rcases ha with (ha | ⟨o, ha⟩) | ⟨o, its, n, h1, h2, _⟩
    · exact .base (.lst ha)
    · exact .base (.frz ha)
    · exact .kList h1 h2
  | tup ha _ =>
    rcases ha with (ha | ⟨o, ha⟩) | ⟨o, its, n, h1, h2, _⟩
    · exact .base (.tup ha)
    · exact .fTuple ha
    · exact .kTuple h1 h2
  | dct ha _ => exact absurd rfl (hd _)
/-- the built-in kinds a test may name -/
def isT (T : String) (d : D) : Option Bool := match d with
  | .dict _ => none
  | d => kitB (tyD d) T
def isiF (T : String) (fa : EF) : EF := fun ρ => match fa ρ with
  | none => none
  | some (d, ρ1) => match isT T d with
    | some b => some (.bool b, ρ1)
    | none => none
section
variable {a : Expr} {fa : EF} {x : Str} {p p2 pos : Pos} {T : String}
theorem pd_isi (he : PDF C a fa) (hg : C.sc.names.lookup ("isinstance" : Str) = some .globalImplicit) (hm : C.mg "isinstance" = none) (hg2 : C.sc.names.lookup x = some .globalImplicit) (hm2 : C.mg x = none) (hv : bootBuiltins x = some (.type T))
    (hn : x ≠ "__name__" := by decide) (hdb : (x == ("__debug__" : Str)) = false := by decide)
    (hs : ∀ env : PySem.Env, starEach [a, .Name x p2] env = (false, eval a env) :: starEach [.Name x p2] env := by intro _; rfl) (hpl : ∀ env : PySem.Env, (backTo pos (starEach [.Name x p2] env)).any (·.1) = false := by intro _; rfl) :
    PDF C (.Call (.Name "isinstance" p) [a, .Name x p2] [] pos) (isiF T fa) := by
  obtain ⟨t, h1, h2⟩ := he
  refine ⟨_, fun X h => pe_callB (r := rIsi C.K) (by rw [← h.hK]; exact call_isi) (h.gl hg) (by rw [h.hm]; exact hm) PyProof.Rows.boot_isinstance (pa_cons (h1 X h) (pa_cons (pe_bltn (v := .ty T) (h.gl hg2) (by rw [h.hm]; exact hm2) hv rfl hn hdb) pa_nil rfl) (hs _)) (by decide) (by decide) (hs _) (hpl _), ?_⟩
  intro par ρ σ S d ρ' rl e Q q
  unfold isiF at e
  split at e
  · cases e
  rename_i y ρ1 e1
  split at e
  · rename_i b hb
    cases e
    refine h2 par ρ σ S _ _ rl e1 _ fun S1 v st r1 d1 => ?_
    unfold isT at hb
    split at hb
    · cases hb
    · rename_i hd
      exact ⟨v, .ty T, _, _, b, rfl, .ty T, tyX_of (dp_mono r1.ext d1) hd, kit_ty hb, q S1 _ st r1 (.bl b)⟩
  · cases e
end
/-! ### in, not in -/
theorem _root_.L2.Room.u65 {k : Nat} {A : Around} (r : Room k A) : A.units + 65 < cLine := by
  have := r.un
  omega
def anyE (x : D) (xs : List D) : Bool := xs.any fun z => PyData.eqv z x
def gIn : D → D → Option D := fun x y => match y with
  | .list xs => if SeqAt.shaped x && SeqAt.shaped (.list xs) then some (.bool (anyE x xs)) else none
  | .tuple xs => if SeqAt.shaped x && SeqAt.shaped (.tuple xs) then some (.bool (anyE x xs)) else none
  | _ => none
def gNotIn : D → D → Option D := fun x y => match y with
  | .list xs => if SeqAt.shaped x && SeqAt.shaped (.list xs) then some (.bool (!anyE x xs)) else none
  | .tuple xs => if SeqAt.shaped x && SeqAt.shaped (.tuple xs) then some (.bool (!anyE x xs)) else none
  | _ => none
def rInTD (K : PySem.W.Frag) (neg : Bool) : R2 := fun x y H Q => ∃ d ds, Dp K H x d ∧ Dp K H y (.tuple ds) ∧ SeqAt.shaped d = true ∧ SeqAt.shaped (.tuple ds) = true ∧ Q (.bl (if neg then !anyE d ds else anyE d ds)) H
theorem op_inTD {X : Cx} (hu : X.A.units + 65 < cLine) : OpR X (compareOp .In) (rInTD X.K false) := by
  intro pins s σ H x y v u Q I rx ry h
  obtain ⟨d, ds, hd, he, sd, se, q⟩ := h
  obtain ⟨as, ra⟩ := Dp.reads I d x v hd rx
  obtain ⟨bs, rb⟩ := Dp.reads I (.tuple ds) y u he ry
  have cp : PyData.plainAll ds = true := PyData.plain_of_canLay0 _ (SeqAt.canLay_of_shaped se)
  exact SeqAt.in_tuple_data rb ra cp (PyData.plain_of_canLay0 _ (SeqAt.canLay_of_shaped sd)) (room_in_shaped sd hu) ⟨.bl _, H, I, rfl, q⟩
theorem op_notInTD {X : Cx} (hu : X.A.units + 65 < cLine) : OpR X (compareOp .NotIn) (rInTD X.K true) := by
  intro pins s σ H x y v u Q I rx ry h
  obtain ⟨d, ds, hd, he, sd, se, q⟩ := h
  obtain ⟨as, ra⟩ := Dp.reads I d x v hd rx
  obtain ⟨bs, rb⟩ := Dp.reads I (.tuple ds) y u he ry
  have cp : PyData.plainAll ds = true := PyData.plain_of_canLay0 _ (SeqAt.canLay_of_shaped se)
  exact SeqAt.notIn_tuple_data rb ra cp (PyData.plain_of_canLay0 _ (SeqAt.canLay_of_shaped sd)) (room_in_shaped sd hu) ⟨.bl _, H, I, rfl, q⟩
theorem ops_in : OpS C (compareOp .In) gIn := by
  refine ⟨fun x y H Q => rInD C.K x y H Q ∨ rInTD C.K false x y H Q, fun X i => ?_, ?_⟩
  · rw [← i.hK]
    intro pins s σ H x y v u Q I rx ry h
    exact h.elim (op_inD i.room.u65 pins s σ H x y v u Q I rx ry) (op_inTD i.room.u65 pins s σ H x y v u Q I rx ry)
  intro F H x y z vx vy e dx dy hz Q q
  unfold gIn at hz
  split at hz
  · split at hz
    · rename_i hs
      rw [Bool.and_eq_true] at hs
      cases hz
      exact .inl ⟨x, _, (dp_mono e dx).dp (SeqAt.canLay_of_shaped hs.1), (dp_mono e dy).dp (SeqAt.canLay_of_shaped hs.2), hs.1, hs.2, q F H _ (.refl e) (.bl _)⟩
    · cases hz
  · split at hz
    · rename_i hs
      rw [Bool.and_eq_true] at hs
      cases hz
      exact .inr ⟨x, _, (dp_mono e dx).dp (SeqAt.canLay_of_shaped hs.1), (dp_mono e dy).dp (SeqAt.canLay_of_shaped hs.2), hs.1, hs.2, q F H _ (.refl e) (.bl _)⟩
    · cases hz
  · cases hz
theorem ops_notin : OpS C (compareOp .NotIn) gNotIn := by
  refine ⟨fun x y H Q => rNotInD C.K x y H Q ∨ rInTD C.K true x y H Q, fun X i => ?_, ?_⟩
  · rw [← i.hK]
    intro pins s σ H x y v u Q I rx ry h
    exact h.elim (op_notInD i.room.u65 pins s σ H x y v u Q I rx ry) (op_notInTD i.room.u65 pins s σ H x y v u Q I rx ry)
  intro F H x y z vx vy e dx dy hz Q q
  unfold gNotIn at hz
  split at hz
  · split at hz
    · rename_i hs
      rw [Bool.and_eq_true] at hs
      cases hz
      exact .inl ⟨x, _, (dp_mono e dx).dp (SeqAt.canLay_of_shaped hs.1), (dp_mono e dy).dp (SeqAt.canLay_of_shaped hs.2), hs.1, hs.2, q F H _ (.refl e) (.bl _)⟩
    · cases hz
  · split at hz
    · rename_i hs
      rw [Bool.and_eq_true] at hs
      cases hz
      exact .inr ⟨x, _, (dp_mono e dx).dp (SeqAt.canLay_of_shaped hs.1), (dp_mono e dy).dp (SeqAt.canLay_of_shaped hs.2), hs.1, hs.2, q F H _ (.refl e) (.bl _)⟩
    · cases hz
  · cases hz
/-! ### a list times a number -/
def repOF (f : OF) (fb : EF) : OF := fun ρ => match f ρ with
  | some (.lst xs, ρ1) => (match fb ρ1 with
    | some (.int k, ρ2) => if k ≤ 1000000 ∧ -1000000 ≤ k ∧ xs.length ≤ 10 then some (.lst (List.replicate k.toNat xs).flatten, ρ2) else none
    | _ => none)
  | _ => none
section
variable {a b : Expr} {fb : EF} {pos : Pos}
theorem po_rep {f : OF} (ha : POF C a f) (hb : PDF C b fb) : POF C (.BinOp a .Mult b pos) (repOF f fb) := by
  obtain ⟨ta, a1, a2⟩ := ha
  obtain ⟨tb, b1, b2⟩ := hb
  refine ⟨_, fun X i => pe_op op_rep (a1 X i) (b1 X i), ?_⟩
  intro par ρ σ S d ρ' rl e Q q
  unfold repOF at e
  split at e
  · rename_i xs ρ1 e1
    split at e
    · rename_i k ρ2 e2
      split at e
      · rename_i hk
        cases e
        refine a2 par ρ σ S _ _ rl e1 _ fun S1 v A st r1 nw => ?_
        refine b2 par ρ1 σ S1 _ _ r1 e2 _ fun S2 w st2 r2 d2 => ?_
        cases d2
        obtain ⟨p, vs, rfl, rfl, hH, dv⟩ := nw.ow
        have hH2 : S2.H p = some (.lst vs) := st2.frm p _ hH (nw.nown p (List.mem_singleton.mpr rfl))
        have hl : vs.length ≤ 10 := by rw [dv.length]; exact hk.2.2
        refine ⟨p, k, vs, rfl, rfl, hH2, by omega, by omega, ?_, fun p2 hp2 => ?_⟩
        · have h1 : vs.length * k.toNat ≤ 10 * 1000000 := Nat.mul_le_mul hl (by omega)
          rw [sizeLine_eq]
          omega
        · obtain ⟨r3, st3, n3⟩ := nw_lst (st.trans st2) r2 hp2 ((dps_mono st2.ex dv).rep k.toNat)
          exact q _ _ _ st3 r3 n3
      · cases e
    · cases e
  · cases e
end
/-! ### xs[i] += e -/
def rGetL : V → V → Hp → VK → Prop := fun o i H Q => ∃ p xs k v, o = .ref p ∧ i = .int k ∧ H p = some (.lst xs) ∧ atI xs k = some v ∧ Q v H
theorem get_list {X : Cx} : PGet X rGetL := by
  intro pins s σ H o i ov iv Q I ro ri h
  obtain ⟨p, xs, k, v, rfl, rfl, hp, ha, q⟩ := h
  cases ro
  obtain ⟨t, rfl⟩ := ri
  obtain ⟨its, rv, pl, hz⟩ := I.list (SqL.of hp)
  obtain ⟨j, h1, h2, h3, h4, h5⟩ := atI_get ha
  obtain ⟨w, ew, rw'⟩ := rv.get h2
  have hl := rv.length
  have hn := line63
  by_cases h0 : 0 ≤ k
  · have hj : k.toNat = j := by
      rw [seqIndex_of h0 h5] at h1
      exact Option.some.inj h1
    exact wpAny_getItem_list pl.isList h0 (by omega) (by rw [hj]; simpa using ew) ⟨v, H, I, rw', q⟩
  · have hj : (k + (its.toArray.size : Int)).toNat = j := by
      rw [seqIndex_neg (by omega) h4] at h1
      rw [List.size_toArray, ← hl]
      exact Option.some.inj h1
    exact wpAny_getItem_list_neg pl.isList (by omega) (by rw [List.size_toArray]; omega) (by omega) (by rw [hj]; simpa using ew) ⟨v, H, I, rw', q⟩
def augIxF (i : Nat) (fi f : EF) : SF := fun ρ => match ρ[i]? with
  | some (.ow _ (.lst _)) => (match fi ρ with
    | some (.int n, ρ1) => (match ρ1[i]? with
      | some (.ow _ (.lst xs1)) => (match atI xs1 n with
        | some (.int old) => (match f ρ1 with
          | some (.int y, ρ2) => (match ρ2[i]? with
            | some (.ow fx (.lst xs)) => (match ixN xs.length n with
              | some j => some (.nx (ρ2.set i (.ow fx (.lst (xs.set j (.int (old + y)))))))
              | none => none)
            | _ => none)
          | _ => none)
        | _ => none)
      | _ => none)
    | _ => none)
  | _ => none
section
variable {b e : Expr} {fb fa : EF} {x : Str} {p pos : Pos}
theorem ps_augIx (i : Nat) (hN : C.N[i]? = some x) (hv : VisS C.sc x) (hb : PDF C b fb) (he : PDF C e fa) {spos : Pos} (hd : (x == ("__debug__" : Str)) = false := by decide) (hcd : (x == ("__classdict__" : Str)) = false := by decide)
    (hag : ∀ ov iv new, augStore b ov iv new = (do holding [new, ov, iv] (setItem ov iv new); release [new, ov, iv] []; pure .next) := by intros; rfl) :
    PSF C (.AugAssign (.Subscript (.Name x p) b spos) .Add e pos) (augIxF i fb fa) := by
  obtain ⟨tb, b1, b2⟩ := hb
  obtain ⟨t, h1, h2⟩ := he
  refine ⟨_, fun X h => ps_augS (pe_var (h.nm hN) (h.vis hv) hd hcd) (b1 X h) get_list (h1 X h) ip_add set_list hag, ?_⟩
  intro par ρ σ S r rl e D q
  unfold augIxF at e
  split at e
  rotate_left
  · cases e
  rename_i fx0 xs0 ex0
  split at e
  rotate_left
  · cases e
  rename_i n ρ1 e1
  split at e
  rotate_left
  · cases e
  rename_i fx1 xs1 ex1
  split at e
  rotate_left
  · cases e
  rename_i old eo
  split at e
  rotate_left
  · cases e
  rename_i y ρ2 e2
  split at e
  rotate_left
  · cases e
  rename_i fx xs ex
  split at e
  rotate_left
  · cases e
  rename_i j ej
  cases e
  obtain ⟨a, vs, hv0, hH0, _⟩ := rl.getL ex0
  refine ⟨_, hv0, ?_⟩
  refine b2 par ρ σ S _ _ rl e1 _ fun S1 w st1 r1 d1 => ?_
  cases d1
  obtain ⟨a1, vs1, hv1, hH1, dv1⟩ := r1.getL ex1
  rw [hv0] at hv1
  cases hv1
  obtain ⟨z, hz1, hz2⟩ := atI_dn dv1 eo
  refine ⟨a, vs1, n, z, rfl, rfl, hH1, hz1, ?_⟩
  cases hz2
  refine h2 par ρ1 σ S1 _ _ r1 e2 _ fun S2 w2 st2 r2 d2 => ?_
  cases d2
  refine ⟨old, y, rfl, rfl, ?_⟩
  obtain ⟨a2, vs2, hv2, hH2, dv2⟩ := r2.getL ex
  rw [hv0] at hv2
  cases hv2
  obtain ⟨S3, r3, st3, eH, eF⟩ := r2.updO (u := .lst (vs2.set j (.int (old + y)))) (o' := .lst (xs.set j (.int (old + y)))) ex hv0 ⟨a, _, rfl, rfl, upd_same, dv2.set j (.int _)⟩
  refine ⟨a, vs2, n, j, rfl, rfl, hH2, by rw [dv2.length]; exact ej, ?_⟩
  rw [← eH]
  exact q S3 σ ((st1.trans st2).trans st3) r3
end
end
end G

set_option Elab.async false
set_option linter.all false
set_option maxRecDepth 100000
set_option maxHeartbeats 4000000
/-! enumerate, slices, ranges as lists, sorted -/
namespace G
open PySem PySem.Spec PyProof.Rows L2
section
variable {C : Ct} {a b c e : Expr} {es elts : List Expr} {pos p2 p tpos : Pos} {fa fb fc : EF} {K : PySem.W.Frag} {mg : Str → Option Value} {i kk : Nat} {x : Str} {gl : LF}
/-! ### enumerate -/
def enumD (k : Nat) : List D → List D
  | [] => []
  | x :: r => .tuple [.int (k : Nat), x] :: enumD (k + 1) r
theorem enumD_get : ∀ {xs : List D} {k i : Nat}, (enumD k xs)[i]? = xs[i]?.map fun x => PyData.tuple [.int ((k + i : Nat) : Int), x]
  | [], _, _ => rfl
  | x :: r, k, 0 => rfl
  | x :: r, k, i + 1 => by
    show (enumD (k + 1) r)[i]? = r[i]?.map _
    rw [enumD_get, show k + 1 + i = k + (i + 1) by omega]
theorem enumD_len : ∀ {xs : List D} {k : Nat}, (enumD k xs).length = xs.length
  | [], _ => rfl
  | x :: r, k => by
    show (enumD (k + 1) r).length + 1 = r.length + 1
    rw [enumD_len]
def enF (fl : LF) : LF := fun ρ => match fl ρ with
  | some ([.list xs], ρ1) => if xs.length ≤ 10000000 then some (enumD 0 xs, ρ1) else none
  | _ => none
theorem itok_enum {a : Addr} {vs : List V} {xs : List D} {F0 : Hp} (ha : SqL K F0 a vs) (d : DnAll K F0 vs xs) : ItOk K (Ite K a) F0 (enumD 0 xs) := by
  intro F H e1 e2 i
  have hS : SqL K H a vs := (e1.trans e2).l ha
  refine ⟨fun x hx => ?_, fun hi => ⟨vs, hS, by rw [d.length, ← enumD_len (k := 0)]; exact hi⟩⟩
  rw [enumD_get] at hx
  obtain ⟨y, hy, rfl⟩ := Option.map_eq_some_iff.mp hx
  obtain ⟨v, hv, dv⟩ := d.get hy
  refine ⟨⟨vs, v, hS, hv⟩, fun v' H' yl => ?_⟩
  obtain ⟨T, w, rfl, hT, rfl, hw⟩ := yl
  have z := hw vs hS
  rw [hv] at z
  cases z
  have g := Gr.new (o := HO.tup [.int (i : Nat), v]) e2 hT
  refine ⟨_, g, .tup (SqT.of upd_same) ?_⟩
  rw [show (0 + i : Nat) = i by omega]
  exact .cons (.int _) (.cons (dp_mono g.eF (dp_mono e1 dv)) .nil)
theorem pi_en (hg : C.sc.names.lookup ("enumerate" : Str) = some .globalImplicit) (hm : C.mg "enumerate" = none) (ha : PLF C [a] gl) (hs : ∀ env : PySem.Env, starEach [a] env = [(false, eval a env)] := by intro _; rfl) :
    PIF C (.Tuple elts kk tpos) (.Call (.Name "enumerate" p) [a] [] pos) (enF gl) := by
  obtain ⟨t, h1, h2⟩ := ha
  refine ⟨iEnum C.K t, fun X h => by rw [← h.hK]; exact pi_enum (h.gl hg) (by rw [h.hm]; exact hm) (h1 X h) (hs _), ?_⟩
  intro par ρ σ S xs ρ' rl e R q
  unfold enF at e
  split at e
  · rename_i ys ρ1 e1
    split at e
    · rename_i hz
      cases e
      refine h2 par ρ σ S _ _ rl e1 _ fun S1 vs st r1 d1 => ?_
      obtain ⟨v, rfl, dv⟩ := all1 d1
      cases dv with
      | @lst a ws _ ha dr => exact ⟨a, ws, rfl, r1.ext.l ha, q S1 _ st r1 (le_line (by rw [enumD_len]; exact hz)) (itok_enum ha dr)⟩
    · cases e
  · cases e
/-! ### slices -/
/-- a slice's part -/
abbrev PtF := Env → Option (Option Int × Env)
def SndPt (K : PySem.W.Frag) (mg : Str → Option Value) (t : TO) (f : PtF) : Prop := ∀ (par : Nat → Option V) (ρ : Env) (σ : L2.St) (S : Sn) (o : Option Int) (ρ' : Env), Rl K mg par ρ σ S → f ρ = some (o, ρ') → ∀ Q : Option Int → Hp → Prop, (∀ S', Step S S' → Rl K mg par ρ' σ S' → Q o S'.H) → t σ S.H Q
def PPtF (C : Ct) (e : Option Expr) (f : PtF) : Prop := ∃ t, (∀ X, C.In X → PO X e t) ∧ SndPt C.K C.mg t f
def ptNo : PtF := fun ρ => some (none, ρ)
def ptAt (f : EF) : PtF := fun ρ => match f ρ with
  | some (.int i, ρ1) => some (some i, ρ1)
  | _ => none
theorem ppt_none : PPtF C none ptNo := ⟨_, fun X h => po_none, fun par ρ σ S o ρ' rl e Q q => by cases e; exact q S (.refl S) rl⟩
theorem ppt_some (h : PDF C e fa) : PPtF C (some e) (ptAt fa) := by
  obtain ⟨t, h1, h2⟩ := h
  refine ⟨_, fun X h => po_some (h1 X h), ?_⟩
  intro par ρ σ S o ρ' rl e Q q
  unfold ptAt at e
  split at e
  · rename_i i ρ1 e1
    cases e
    refine h2 par ρ σ S _ _ rl e1 _ fun S1 v st r1 d1 => ?_
    cases d1
    exact ⟨i, rfl, q S1 st r1⟩
  · cases e
def cutD (xs : List D) (lo hi : Option Int) : List D := (xs.drop (HT.sIx xs.length 0 lo)).take (HT.sIx xs.length xs.length hi - HT.sIx xs.length 0 lo)
theorem cut_dn {H : Hp} {vs : List V} {ds : List D} (h : DnAll K H vs ds) (lo hi : Option Int) : DnAll K H (cutV vs lo hi) (cutD ds lo hi) := by
  unfold cutV cutD
  rw [h.length]
  exact (h.drop _).take _
def gSl : D → Option Int → Option Int → Option D := fun x lo hi => match x with
  | .list xs => some (.list (cutD xs lo hi))
  | .tuple xs => some (.tuple (cutD xs lo hi))
  | _ => none
def slF (f : EF) (l h : PtF) : EF := fun ρ => match f ρ with
  | none => none
  | some (x, ρ1) => match l ρ1 with
    | none => none
    | some (lo, ρ2) => match h ρ2 with
      | none => none
      | some (hi, ρ3) => match gSl x lo hi with
        | none => none
        | some z => some (z, ρ3)
theorem cutV_whole {xs : List V} {lo hi : Option Int} (h : HT.sIx xs.length 0 lo = 0 ∧ HT.sIx xs.length xs.length hi = xs.length) : cutV xs lo hi = xs := by
  unfold cutV
  rw [h.1, h.2]
  simp
theorem pd_slice {lo hi : Option Expr} {fl fh : PtF} (he : PDF C e fa) (hl : PPtF C lo fl) (hh : PPtF C hi fh) : PDF C (.Subscript e (.Slice lo hi none p2) pos) (slF fa fl fh) := by
  obtain ⟨t, h1, h2⟩ := he
  obtain ⟨u, k1, k2⟩ := hl
  obtain ⟨w, m1, m2⟩ := hh
  refine ⟨_, fun X h => pe_slice (r := fun x lo hi H Q => rSlL C.K x lo hi H Q ∨ rSlA C.K x lo hi H Q) (by rw [← h.hK]; exact sl_list.or sl_tupA) (h1 X h) (k1 X h) (m1 X h), ?_⟩
  intro par ρ σ S d ρ' rl e Q q
  unfold slF at e
  split at e
  · cases e
  rename_i x ρ1 e1
  split at e
  · cases e
  rename_i lo' ρ2 e2
  split at e
  · cases e
  rename_i hi' ρ3 e3
  split at e
  · cases e
  rename_i z e4
  cases e
  refine h2 par ρ σ S _ _ rl e1 _ fun S1 v st1 r1 d1 => ?_
  refine k2 par ρ1 σ S1 _ _ r1 e2 _ fun S2 st2 r2 => ?_
  refine m2 par ρ2 σ S2 _ _ r2 e3 _ fun S3 st3 r3 => ?_
  have st := (st1.trans st2).trans st3
  have dv := dp_mono (st2.trans st3).ex d1
  unfold gSl at e4
  split at e4
  · rename_i xs
    cases e4
    cases dv with
    | @lst p vs _ ha dr =>
      refine .inl ⟨p, vs, rfl, r3.ext.l ha, fun l hl => ?_⟩
      obtain ⟨r4, st4⟩ := r3.newF (o := .lst (cutV vs lo' hi')) hl
      exact q _ _ (st.trans st4) r4 (.lst (SqL.of upd_same) (dps_mono st4.ex (cut_dn dr lo' hi')))
  · rename_i xs
    cases e4
    cases dv with
    | @tup p vs _ ha dr =>
      refine .inr ⟨p, vs, rfl, r3.ext.t ha, fun hw => ?_, fun _ l hl => ?_⟩
      · have cd := cut_dn dr lo' hi'
        rw [cutV_whole hw] at cd
        exact q _ _ st r3 (.tup ha cd)
      · obtain ⟨r4, st4⟩ := r3.newF (o := .tup (cutV vs lo' hi')) hl
        exact q _ _ (st.trans st4) r4 (.tup (SqT.of upd_same) (dps_mono st4.ex (cut_dn dr lo' hi')))
  · cases e4
/-! ### list(range(n)) -/
def lrg1F (fa : EF) : OF := fun ρ => match fa ρ with
  | some (.int n, ρ1) => if n ≤ 1000000 ∧ -1000000 ≤ n then some (.lst (rngD 0 1 n.toNat), ρ1) else none
  | _ => none
theorem rgV_dn {F : Hp} (lo hi : Int) : DnAll K F (rgV lo hi) (rngD lo 1 (hi - lo).toNat) := by
  have h := DnAll.of_ints (K := K) (H := F) ((List.range (hi - lo).toNat).map fun i => lo + (i : Nat) * 1)
  unfold rgV rngD
  rw [List.map_map, List.map_map] at h
  have e : ((List.range (hi - lo).toNat).map fun i => V.int (lo + (i : Nat))) = ((List.range (hi - lo).toNat).map (V.int ∘ fun i => lo + (i : Nat) * 1)) := List.map_congr_left fun i _ => by
    show V.int _ = V.int (lo + (i : Nat) * 1)
    rw [Int.mul_one]
  first | exact h | (rw [e]; exact h)
theorem po_lrg1 {q : Pos} (hg : C.sc.names.lookup ("list" : Str) = some .globalImplicit) (hm : C.mg "list" = none) (hg2 : C.sc.names.lookup ("range" : Str) = some .globalImplicit) (hm2 : C.mg "range" = none) (ha : PDF C a fa)
    (hs : ∀ env : PySem.Env, starEach [a] env = (false, eval a env) :: starEach [] env := by intro _; rfl)
    (hs2 : ∀ env : PySem.Env, starEach [Expr.Call (.Name "range" p2) [a] [] q] env = (false, eval (.Call (.Name "range" p2) [a] [] q) env) :: starEach [] env := by intro _; rfl) :
    POF C (.Call (.Name "list" p) [.Call (.Name "range" p2) [a] [] q] [] pos) (lrg1F fa) := by
  obtain ⟨t, h1, h2⟩ := ha
  refine ⟨_, fun X h => pe_listRg h.calm (h.gl hg) (by rw [h.hm]; exact hm) (prg_1 (h.gl hg2) (by rw [h.hm]; exact hm2) (h1 X h) (hs _)) (hs2 _), ?_⟩
  intro par ρ σ S d ρ' rl e Q q
  unfold lrg1F at e
  split at e
  · rename_i n ρ1 e1
    split at e
    · rename_i hn
      cases e
      refine h2 par ρ σ S _ _ rl e1 _ fun S1 v st r1 d1 => ?_
      cases d1
      refine ⟨n, rfl, ⟨by omega, by omega, by omega, by omega, by omega⟩, fun p2 hp2 => ?_⟩
      have dn := rgV_dn (K := C.K) (F := S1.F) 0 n
      rw [show (n - 0).toNat = n.toNat by omega] at dn
      obtain ⟨r3, st3, n3⟩ := nw_lst st r1 hp2 dn
      exact q _ _ _ st3 r3 n3
    · cases e
  · cases e
end
end G

set_option Elab.async false
set_option linter.all false
set_option maxRecDepth 100000
set_option maxHeartbeats 4000000
/-! sorted -/
namespace G
open PySem PySem.Spec PyProof.Rows L2
section
variable {prog : Program} {w : World} {A : Around} {E : Value → Shared → Prop} {s : Shared}
/-- what a tuple holds, gathered for a new list -/
theorem gather_tup {t : Addr} {vs : List Value} {Q : List Value → Shared → Prop} (ht : s.heap.IsTuple t vs.toArray) (hz : vs.length ≤ sizeLine)
    (q : Q vs { s with heap := (s.heap.push (seqObj "list" #[] 0)).update s.heap.objs.size (Obj.mapSeq fun ys => ys ++ vs.toArray) }) : wpAny (model prog w) A (collect (.ref t)) Q E s := by
  obtain ⟨o, k1, k2, n, k3⟩ := id ht
  unfold collect
  refine wpAny_bind (wpAny_runValue (codeAny_builtin entry_proto_collect' ?_))
  show wpAny _ _ (do again (.builtin "list.__iadd__" ⟨[← newList [], .ref t], []⟩)) _ _ s
  refine wpAny_bind (wpAny_newList (wpAny_pure ⟨Code.quiet_builtin _ (by decide +kernel), codeAny_builtin entry_list_iadd' ?_⟩))
  show wpAny _ _ (Builtin.List.listExtendWith (.ref s.heap.objs.size) (.ref t) (.ref s.heap.objs.size)) _ _ { s with heap := s.heap.push (seqObj "list" #[] 0) }
  unfold Builtin.List.listExtendWith
  have k4 : (s.heap.push (seqObj "list" #[] 0)).get? t = some o := Heap.get?_push_of_some _ k1
  refine wpAny_bind (wpAny_typeOf (T := "tuple") ⟨o, k4, k2⟩ ?_)
  have tt : (Value.type "tuple" == Value.type "tuple") = true := by rfl
  rw [if_pos (by rw [tt]; simp)]
  refine wpAny_bind (listItems_at k4 k3 ?_)
  refine wpAny_bind (listItems_at (n := 0) (xs := #[]) (Heap.get?_push_size _ rfl) rfl ?_)
  rw [if_neg (by simp)]
  refine wpAny_bind (listUpdate_at (n := 0) (xs := #[]) (Heap.get?_push_size _ rfl) rfl ?_ (Nat.zero_le _) (by show (#[] ++ vs.toArray).size ≤ sizeLine + 1; simp only [Array.size_append, List.size_toArray, List.length_nil]; omega))
  refine wpAny_pure ?_
  show wpAny (model prog w) A (do
      let o ← load s.heap.objs.size
      match o.data with
      | .seq xs _ => pure xs.toList
      | _ => unsupported "internal:collect") Q E { s with heap := (s.heap.push (seqObj "list" #[] 0)).update s.heap.objs.size (Obj.mapSeq fun ys => ys ++ vs.toArray) }
  refine wpAny_bind (wpAny_load (get?_update_seq (Heap.get?_push_size _ rfl) _) ?_)
  show wpAny _ _ (pure ((#[] : Array Value) ++ vs.toArray).toList) Q E _
  rw [show ((#[] : Array Value) ++ vs.toArray).toList = vs by simp]
  exact wpAny_pure q
/-- sorted(t), t a tuple -/
theorem sortedT_of {t : Addr} {vs : List Value} {Q : Value → Shared → Prop} (ht : s.heap.IsTuple t vs.toArray) (hz : vs.length ≤ sizeLine)
    (body : ∀ E' : Value → Shared → Prop, wpAny (model prog w) A.in1.in1 (Builtin.«list.sort» ⟨[.ref (s.heap.objs.size + 1)], []⟩) (fun f s' => f = .done (.ret .none) ∧ Q (.ref (s.heap.objs.size + 1)) s') E' { s with heap := PySem.W.copyHeap s.heap vs }) :
    wpAny (model prog w) A (call (.builtin "sorted") [.ref t]) Q E s := by
  refine call_function_entry_kw kind_sorted plain_sorted entry_sorted (args_sorted1 _) ?_
  unfold Builtin.«sorted»
  refine wpAny_bind (m := checkCount "sorted" 1 1 _) (wpAny_pure ?_)
  refine wpAny_bind (gather_tup ht hz ?_)
  refine wpAny_bind (wpAny_newList ?_ hz)
  have sz : ((s.heap.push (seqObj "list" #[] 0)).update s.heap.objs.size (Obj.mapSeq fun ys => ys ++ vs.toArray)).objs.size = s.heap.objs.size + 1 := by
    rw [Heap.size_update, size_push']
  show wpAny _ _ _ _ _ { s with heap := PySem.W.copyHeap s.heap vs }
  rw [sz]
  refine wpAny_bind (wpAny_holding (wpAny_call_entry_kw slot_list_sort ⟨_, PySem.W.copyHeap_at s.heap vs, rfl⟩ entry_list_sort ?b (args_list_sort _)))
  case b =>
    show wpAny (model prog w) A.in1.in1 (Builtin.«list.sort» ⟨[.ref (s.heap.objs.size + 1)], []⟩) _ _ _
    refine wpAny_mono (body _) (fun f s' hf => ?_) fun _ _ z => z
    obtain ⟨rfl, hq⟩ := hf
    exact ⟨_, rfl, wpAny_pure ⟨_, rfl, hq⟩⟩
end
/-- data that can be sorted -/
def notTup : D → Bool
  | .none => false
  | .tuple _ => false
  | _ => true
def someTup : D → Bool
  | .tuple (_ :: _) => true
  | _ => false
def sortOk (ds : List D) : Bool := PyData.canLayAll0 ds && ds.all (fun x => ds.all fun y => PySem.W.alike x y) && (ds.all someTup || ds.all notTup) && ds.all (fun x => decide (x.depth ≤ 60)) && decide (ds.length ≤ 10000000)
def sortD (ds : List D) : List D := ds.mergeSort (PySem.W.dataLe false id)
theorem sortOk_is {ds : List D} (h : sortOk ds = true) : PyData.canLayAll0 ds = true ∧ PySem.W.AllAlike (ds.map id) ∧ PySem.W.Sortable (ds.map id) ∧ (∀ d ∈ ds, d.depth ≤ 60) ∧ ds.length ≤ sizeLine := by
  unfold sortOk at h
  simp only [Bool.and_eq_true, Bool.or_eq_true, List.all_eq_true, decide_eq_true_eq] at h
  obtain ⟨⟨⟨⟨h1, h2⟩, h3⟩, h4⟩, h5⟩ := h
  rw [List.map_id]
  refine ⟨h1, fun d hd e he => h2 d hd e he, ?_, h4, le_line h5⟩
  rcases h3 with h3 | h3
  · refine .inl fun d hd => ?_
    have := h3 d hd
    unfold someTup at this
    split at this
    · exact ⟨_, _, rfl⟩
    · cases this
  · refine .inr fun d hd => ?_
    have z := h3 d hd
    refine ⟨fun e => ?_, fun xs e => ?_⟩
    · rw [e] at z
      cases z
    · rw [e] at z
      cases z
open PySem.W in
theorem each_reads {h : Heap} : ∀ {vs : List Value} {ds : List D} {as : List Addr}, ReadsAll h vs ds as → EachIs (fun v d => ∃ as, Reads h v (id d) as) vs ds
  | _, _, _, .nil => .nil
  | _, _, _, .cons r rs => .cons ⟨_, r⟩ (each_reads rs)
open PySem.W in
theorem each_rel {T : V → D → Prop} : ∀ {xs : List V} {vs : List Value} {ds : List D}, Vals xs vs → EachIs T xs ds → EachIs (fun v d => ∃ x, RelV x v ∧ T x d) vs ds
  | _, _, _, .nil, .nil => .nil
  | _, _, _, .cons r rs, .cons t ts => .cons ⟨_, r, t⟩ (each_rel rs ts)
open PySem.W in
theorem each_back {T : V → D → Prop} : ∀ {vs : List Value} {ds : List D}, EachIs (fun v d => ∃ x, RelV x v ∧ T x d) vs ds → ∃ xs, Vals xs vs ∧ EachIs T xs ds
  | _, _, .nil => ⟨[], .nil, .nil⟩
  | _, _, .cons ⟨x, r, t⟩ rs => by
    obtain ⟨xs, h1, h2⟩ := each_back rs
    exact ⟨x :: xs, .cons r h1, .cons t h2⟩
open PySem.W in
theorem each_dn {K : PySem.W.Frag} {F : Hp} : ∀ {xs : List V} {ds : List D}, DnAll K F xs ds → EachIs (Dn K F) xs ds
  | _, _, .nil => .nil
  | _, _, .cons r rs => .cons r (each_dn rs)
open PySem.W in
theorem dn_each {K : PySem.W.Frag} {F : Hp} : ∀ {xs : List V} {ds : List D}, EachIs (Dn K F) xs ds → DnAll K F xs ds
  | _, _, .nil => .nil
  | _, _, .cons r rs => .cons r (dn_each rs)
open PySem.W in
def rSortD (K : PySem.W.Frag) : List V → Hp → VK → Prop := fun vs H Q => ∃ (a : Addr) (xs : List V) (ds : List D) (T : V → D → Prop), vs = [V.ref a] ∧ (SqL K H a xs ∨ SqT K H a xs) ∧ DpAll K H xs ds ∧ sortOk ds = true ∧ EachIs T xs ds ∧
  ∀ ys p, EachIs T ys (sortD ds) → H p = none → Q (.ref p) (upd H p (.lst ys))
open PySem.W in
theorem cr_sortD {X : Cx} (hu : X.A.units + 65 < cLine) : CallR X (.builtin "sorted") (rSortD X.K) := by
  intro pins s σ H vs us Q I r h
  obtain ⟨a, xs, ds, T, rfl, hs, hd, ok, ht, q⟩ := h
  obtain ⟨o1, o2, o3, o4, o5⟩ := sortOk_is ok
  rw [Vals.ref1 r]
  have main : ∀ its : List Value, Vals xs its → (∀ (Q' : Value → Shared → Prop), (∀ out : List Value, out.length = ds.length → EachIs (fun v d => ∃ x, RelV x v ∧ T x d) out (sortD ds) → Q' (.ref (s.heap.objs.size + 1)) { s with heap := sortedAll s.heap its (List.toArray out) }) →
      wpAny (model X.prog X.w) X.A (call (.builtin "sorted") [.ref a]) Q' X.xe s) → wpAny (model X.prog X.w) X.A (call (.builtin "sorted") [.ref a]) (EP X pins σ Q) X.xe s := fun its rv go => by
    refine go _ fun out hl he => ?_
    obtain ⟨ys, v1, v2⟩ := each_back he
    obtain ⟨ep, he'⟩ := PyProof.Rows.sortedAll_at s.heap its (List.toArray out)
    have hlen : ys.length ≤ sizeLine := by rw [v1.length, hl]; exact o5
    exact ⟨.ref _, upd H (s.heap.objs.size + 1) (.lst ys), I.laid (t' := s.toks) (fun _ _ => PyProof.Rows.sortedAll_old) (Nat.le_succ _) ⟨hlen, out, ep, v1, he'⟩, rfl, q ys _ v2 (I.hok.fresh (Nat.le_succ _))⟩
  have hub : ∀ b, b ∈ ds → X.A.units + 2 + (id b).depth < cLine := fun b hb => by
    have z := o4 b hb
    show X.A.units + 2 + b.depth < cLine
    omega
  rcases hs with hs | hs
  · obtain ⟨its, rv, hl, _⟩ := I.list hs
    obtain ⟨as, ra⟩ := Dp.readsAll I ds xs its hd rv
    exact main its rv fun Q' hQ => sorted_data hl.isList (each_rel rv ht) (each_reads ra) o2 o3 o5 hub hQ
  · obtain ⟨its, rv, hl, _⟩ := I.tuple hs
    obtain ⟨as, ra⟩ := Dp.readsAll I ds xs its hd rv
    refine main its rv fun Q' hQ => ?_
    have er := each_reads ra
    have e := each_rel rv ht
    have hL : its.length ≤ sizeLine := by rw [e.length]; exact o5
    have er' : EachIs (fun v b => ∃ as, Reads (sortingHeap (copyHeap s.heap its) (s.heap.objs.size + 1) its) v (id b) as) its ds := er.mono fun _ _ ⟨as, r⟩ => ⟨as, PyProof.Rows.Reads.keeps (fun _ _ => sorting_copy_old) r⟩
    refine sortedT_of hl hL fun _ => list_sort_vals (s := { s with heap := copyHeap s.heap its }) (copyHeap_at s.heap its)
      (SortsAt.data (s := { s with heap := sortingHeap (copyHeap s.heap its) (s.heap.objs.size + 1) its }) (each_map (R := fun v d => ∃ as, Reads (sortingHeap (copyHeap s.heap its) (s.heap.objs.size + 1) its) v d as) id er') o2 o3 (bound_map hub)) hL ⟨rfl, ?_⟩
    exact hQ _ (by rw [sortVals_length false rfl]; exact e.length) (sortVals_data false e er' o2)
section
variable {C : Ct}
def gSort : List D → Option (List D) := fun ds => match ds with
  | [.list xs] => if sortOk xs then some (sortD xs) else none
  | [.tuple xs] => if sortOk xs then some (sortD xs) else none
  | _ => none
theorem co_sorted : CallO C (.builtin "sorted") gSort := by
  refine ⟨rSortD C.K, fun X i => by rw [← i.hK]; exact cr_sortD i.room.u65, ?_⟩
  intro F H ds z vs e da hz Q q
  unfold gSort at hz
  split at hz
  · obtain ⟨v, rfl, dv⟩ := all1 da
    split at hz
    · rename_i hk
      cases hz
      cases dv with
      | lst ha dr => exact ⟨_, _, _, Dn C.K F, rfl, .inl (e.l ha), (dps_mono e dr).dp (sortOk_is hk).1, hk, each_dn dr, fun ys p hy hp => q p ys hp (dn_each hy)⟩
    · cases hz
  · obtain ⟨v, rfl, dv⟩ := all1 da
    split at hz
    · rename_i hk
      cases hz
      cases dv with
      | tup ha dr => exact ⟨_, _, _, Dn C.K F, rfl, .inr (e.t ha), (dps_mono e dr).dp (sortOk_is hk).1, hk, each_dn dr, fun ys p hy hp => q p ys hp (dn_each hy)⟩
    · cases hz
  · cases hz
end
end G

set_option Elab.async false
set_option linter.all false
set_option maxRecDepth 100000
set_option maxHeartbeats 4000000
/-! own dicts -/
namespace G
open PySem PySem.Spec PyProof.Rows L2
/-! ### keys -/
def kEq1 : D → D → Bool
  | .int i, .int j => decide (i = j)
  | .str a, .str b => decide (a = b)
  | _, _ => false
def kEqs : List D → List D → Bool
  | [], [] => true
  | x :: xs, y :: ys => kEq1 x y && kEqs xs ys
  | _, _ => false
def kEq (a b : D) : Bool := match a, b with
  | .tuple xs, .tuple ys => kEqs xs ys
  | _, _ => kEq1 a b
def dfind (k : D) : List (D × D) → Option D
  | [] => none
  | p :: r => if kEq p.1 k then some p.2 else dfind k r
def dmap (k v : D) (l : List (D × D)) : List (D × D) := l.map fun p => if kEq p.1 k then (p.1, v) else p
def dput (k v : D) (l : List (D × D)) : List (D × D) := if (dfind k l).isSome then dmap k v l else l ++ [(k, v)]
theorem kEq_key (k l : Key) : kEq (keyD k) (keyD l) = decide (k = l) := by
  cases k with
  | inl i =>
    cases l with
    | inl j =>
      show decide (i = j) = _
      simp
    | inr y =>
      show false = _
      simp
  | inr x =>
    cases l with
    | inl j =>
      show false = _
      simp
    | inr y =>
      show decide (x = y) = _
      simp
def keyOf : D → Option Key
  | .int i => some (.inl i)
  | .str x => some (.inr x)
  | _ => none
theorem keyOf_eq {d : D} {k : Key} (h : keyOf d = some k) : d = keyD k := by
  cases d with
  | int i => cases h; rfl
  | str i => cases h; rfl
  | _ => cases h
theorem dn_key {K : PySem.W.Frag} {F : Hp} {v : V} {k : Key} (h : Dn K F v (keyD k)) : v = kV k := by
  cases k with
  | inl i => cases h; rfl
  | inr x => cases h; rfl
section
variable {K : PySem.W.Frag} {F : Hp}
theorem kvI_get (k : Key) : ∀ {ks : List (Key × V)} {ds : List (D × D)}, KvI K F ks ds → (∃ v d, valV ks k = some v ∧ dfind (keyD k) ds = some d ∧ Dn K F v d) ∨ (valV ks k = none ∧ dfind (keyD k) ds = none)
  | _, _, .nil => .inr ⟨rfl, rfl⟩
  | _, _, @KvI.cons _ _ k' v d ks ds h r => by
    have e : dfind (keyD k) ((keyD k', d) :: ds) = if kEq (keyD k') (keyD k) then some d else dfind (keyD k) ds := rfl
    rw [e, kEq_key]
    by_cases z : k' = k
    · rw [decide_eq_true z, if_pos rfl, valV_pos (p := (k', v)) z]
      exact .inl ⟨v, d, rfl, rfl, h⟩
    · rw [decide_eq_false z, if_neg (by simp), valV_neg (p := (k', v)) z]
      exact kvI_get k r
theorem kvI_map (k : Key) {v : V} {d : D} (dv : Dn K F v d) : ∀ {ks : List (Key × V)} {ds : List (D × D)}, KvI K F ks ds → KvI K F (ks.map fun kv => if kv.1 = k then (kv.1, v) else kv) (dmap (keyD k) d ds)
  | _, _, .nil => .nil
  | _, _, @KvI.cons _ _ k' v' d' ks ds h r => by
    have ih := kvI_map k dv r
    show KvI K F ((if k' = k then (k', v) else (k', v')) :: _) ((if kEq (keyD k') (keyD k) then (keyD k', d) else (keyD k', d')) :: dmap (keyD k) d ds)
    rw [kEq_key]
    by_cases z : k' = k
    · rw [decide_eq_true z, if_pos z]
      exact .cons dv ih
    · rw [decide_eq_false z, if_neg z]
      exact .cons h ih
theorem kvI_snoc {k : Key} {v : V} {d : D} (dv : Dn K F v d) : ∀ {ks : List (Key × V)} {ds : List (D × D)}, KvI K F ks ds → KvI K F (ks ++ [(k, v)]) (ds ++ [(keyD k, d)])
  | _, _, .nil => .cons dv .nil
  | _, _, .cons h r => .cons h (kvI_snoc dv r)
theorem kvI_put (k : Key) {v : V} {d : D} (dv : Dn K F v d) {ks : List (Key × V)} {ds : List (D × D)} (h : KvI K F ks ds) : KvI K F (putK ks k v) (dput (keyD k) d ds) := by
  unfold putK dput
  rw [valV_any]
  rcases kvI_get k h with ⟨w, e, h1, h2, _⟩ | ⟨h1, h2⟩
  · rw [h1, h2]
    exact kvI_map k dv h
  · rw [h1, h2]
    exact kvI_snoc dv h
theorem kvI_len : ∀ {ks : List (Key × V)} {ds : List (D × D)}, KvI K F ks ds → ks.length = ds.length
  | _, _, .nil => rfl
  | _, _, .cons _ r => by rw [List.length_cons, List.length_cons, kvI_len r]
theorem kvI_vals : ∀ {ks : List (Key × V)} {ds : List (D × D)}, KvI K F ks ds → DnAll K F (ks.map (·.2)) (ds.map (·.2))
  | _, _, .nil => .nil
  | _, _, .cons h r => .cons h (kvI_vals r)
end
section
variable {C : Ct} {a b c e : Expr} {es : List Expr} {pos p2 p apos : Pos} {fa fb fc : EF} {K : PySem.W.Frag} {mg : Str → Option Value} {i : Nat} {x : Str} {gl : LF}
theorem Rl.getK {par : Nat → Option V} {ρ : Env} {σ : L2.St} {S : Sn} (r : Rl K mg par ρ σ S) {fx : Bool} {kvs : List (D × D)} (e : ρ[i]? = some (.ow fx (.dct false kvs))) : ∃ a ks, σ[i]? = some (some (.ref a)) ∧ S.H a = some (.dK ks) ∧ KvI K S.F ks kvs := by
  obtain ⟨v, A, h1, ⟨a, rfl, _, h | h⟩, _⟩ := r.getO e
  · obtain ⟨_, ks, h2, h3⟩ := h
    exact ⟨a, ks, h1, h2, h3⟩
  · exact absurd h.1 (by simp)
/-! ### d[k], k in d -/
def dixF (i : Nat) (fb : EF) : EF := fun ρ => match ρ[i]? with
  | some (.ow _ (.dct _ _)) => (match fb ρ with
    | none => none
    | some (k, ρ1) => match ρ1[i]? with
      | some (.ow _ (.dct false kvs)) => (match keyOf k with
        | some _ => (match dfind k kvs with
          | some d => some (d, ρ1)
          | none => none)
        | none => none)
      | _ => none)
  | _ => none
theorem own_ref {par : Nat → Option V} {ρ : Env} {σ : L2.St} {S : Sn} (r : Rl K mg par ρ σ S) {fx t : Bool} {kvs : List (D × D)} (e : ρ[i]? = some (.ow fx (.dct t kvs))) : ∃ a, σ[i]? = some (some (.ref a)) := by
  obtain ⟨v, A, h1, ⟨a, rfl, _⟩, _⟩ := r.getO e
  exact ⟨a, h1⟩
theorem pd_dix (i : Nat) (hN : C.N[i]? = some x) (hv : VisS C.sc x) (hb : PDF C b fb) (hs : NoSl b) (hd : (x == ("__debug__" : Str)) = false := by decide) (hcd : (x == ("__classdict__" : Str)) = false := by decide) :
    PDF C (.Subscript (.Name x p) b pos) (dixF i fb) := by
  obtain ⟨tb, b1, b2⟩ := hb
  refine ⟨_, fun X h => pe_dget (by have := h.room.u65; omega) (pe_var (h.nm hN) (h.vis hv) hd hcd) (b1 X h) hs, ?_⟩
  intro par ρ σ S d ρ' rl e Q q
  unfold dixF at e
  split at e
  rotate_left
  · cases e
  rename_i fx t kvs0 ex0
  split at e
  · cases e
  rename_i k ρ1 e1
  split at e
  rotate_left
  · cases e
  rename_i fx1 kvs ex1
  split at e
  rotate_left
  · cases e
  rename_i kk ek
  split at e
  rotate_left
  · cases e
  rename_i z ez
  cases e
  obtain ⟨a, hv0⟩ := own_ref rl ex0
  refine ⟨_, hv0, ?_⟩
  refine b2 par ρ σ S _ _ rl e1 _ fun S1 w st1 r1 d1 => ?_
  obtain ⟨a1, ks, hv1, hH1, kv⟩ := r1.getK ex1
  rw [hv0] at hv1
  cases hv1
  cases keyOf_eq ek
  cases dn_key d1
  rcases kvI_get kk kv with ⟨u, y, h1, h2, h3⟩ | ⟨h1, h2⟩
  · rw [ez] at h2
    cases h2
    refine ⟨a, u, rfl, ?_, q S1 u st1 r1 h3⟩
    rw [← h1]
    exact DGet.k hH1
  · rw [ez] at h2
    cases h2
def dinF (neg : Bool) (fa : EF) (i : Nat) : EF := fun ρ => match fa ρ with
  | none => none
  | some (k, ρ1) => match ρ1[i]? with
    | some (.ow _ (.dct false kvs)) => (match keyOf k with
      | some _ => some (.bool (if neg then !(dfind k kvs).isSome else (dfind k kvs).isSome), ρ1)
      | none => none)
    | _ => none
theorem din_ok {par : Nat → Option V} {ρ1 : Env} {σ : L2.St} {S1 : Sn} {fx : Bool} {kvs : List (D × D)} {k : D} {kk : Key} {w : V} (r1 : Rl K mg par ρ1 σ S1) (ex1 : ρ1[i]? = some (.ow fx (.dct false kvs))) (ek : keyOf k = some kk) (d1 : Dn K S1.F w k) :
    ∃ a o, σ[i]? = some (some (.ref a)) ∧ DGet S1.H a w o ∧ o.isSome = (dfind k kvs).isSome := by
  obtain ⟨a, ks, hv1, hH1, kv⟩ := r1.getK ex1
  cases keyOf_eq ek
  cases dn_key d1
  refine ⟨a, _, hv1, DGet.k hH1, ?_⟩
  rcases kvI_get kk kv with ⟨u, y, h1, h2, h3⟩ | ⟨h1, h2⟩
  · rw [h1, h2]
    rfl
  · rw [h1, h2]
    rfl
theorem snd_din {ta : TE} (a2 : SndE K mg ta fa) : SndE K mg (tDIn ta (tVar i)) (dinF false fa i) := by
  intro par ρ σ S d ρ' rl e Q q
  unfold dinF at e
  split at e
  · cases e
  rename_i k ρ1 e1
  split at e
  rotate_left
  · cases e
  rename_i fx1 kvs ex1
  split at e
  rotate_left
  · cases e
  rename_i kk ek
  cases e
  refine a2 par ρ σ S _ _ rl e1 _ fun S1 w st1 r1 d1 => ?_
  obtain ⟨a, o, h1, h2, h3⟩ := din_ok r1 ex1 ek d1
  refine ⟨_, h1, a, o, rfl, h2, ?_⟩
  rw [h3]
  exact q S1 _ st1 r1 (.bl _)
theorem snd_dnin {ta : TE} (a2 : SndE K mg ta fa) : SndE K mg (tDNotIn ta (tVar i)) (dinF true fa i) := by
  intro par ρ σ S d ρ' rl e Q q
  unfold dinF at e
  split at e
  · cases e
  rename_i k ρ1 e1
  split at e
  rotate_left
  · cases e
  rename_i fx1 kvs ex1
  split at e
  rotate_left
  · cases e
  rename_i kk ek
  cases e
  refine a2 par ρ σ S _ _ rl e1 _ fun S1 w st1 r1 d1 => ?_
  obtain ⟨a, o, h1, h2, h3⟩ := din_ok r1 ex1 ek d1
  refine ⟨_, h1, a, o, rfl, h2, ?_⟩
  rw [h3]
  exact q S1 _ st1 r1 (.bl _)
theorem snd_tB {t : TE} (h : SndE K mg t fa) : SndT K mg (tB t) (tsF fa) := by
  intro par ρ σ S b ρ' rl e Q q
  unfold tsF at e
  split at e
  · rename_i b' ρ1 e1
    cases e
    refine h par ρ σ S _ _ rl e1 _ fun S1 v st r1 d1 => ?_
    cases d1
    exact ⟨_, rfl, q S1 st r1⟩
  · cases e
theorem pd_din (i : Nat) (hN : C.N[i]? = some x) (hv : VisS C.sc x) (ha : PDF C a fa) (hd : (x == ("__debug__" : Str)) = false := by decide) (hcd : (x == ("__classdict__" : Str)) = false := by decide) :
    PDF C (.Compare a [.In] [.Name x p] pos) (dinF false fa i) := by
  obtain ⟨t, h1, h2⟩ := ha
  exact ⟨_, fun X h => pe_cmp (pc_din (by have := h.room.u65; omega) (h1 X h) (pe_var (h.nm hN) (h.vis hv) hd hcd)), snd_din h2⟩
theorem pt_din (i : Nat) (hN : C.N[i]? = some x) (hv : VisS C.sc x) (ha : PDF C a fa) (hd : (x == ("__debug__" : Str)) = false := by decide) (hcd : (x == ("__classdict__" : Str)) = false := by decide) :
    PTF C (.Compare a [.In] [.Name x p] pos) (tsF (dinF false fa i)) := by
  obtain ⟨t, h1, h2⟩ := ha
  exact ⟨_, fun X h => pt_cmp (pc_din (by have := h.room.u65; omega) (h1 X h) (pe_var (h.nm hN) (h.vis hv) hd hcd)), snd_tB (snd_din h2)⟩
theorem pd_dnin (i : Nat) (hN : C.N[i]? = some x) (hv : VisS C.sc x) (ha : PDF C a fa) (hd : (x == ("__debug__" : Str)) = false := by decide) (hcd : (x == ("__classdict__" : Str)) = false := by decide) :
    PDF C (.Compare a [.NotIn] [.Name x p] pos) (dinF true fa i) := by
  obtain ⟨t, h1, h2⟩ := ha
  exact ⟨_, fun X h => pe_cmp (pc_dnotin (by have := h.room.u65; omega) (h1 X h) (pe_var (h.nm hN) (h.vis hv) hd hcd)), snd_dnin h2⟩
theorem pt_dnin (i : Nat) (hN : C.N[i]? = some x) (hv : VisS C.sc x) (ha : PDF C a fa) (hd : (x == ("__debug__" : Str)) = false := by decide) (hcd : (x == ("__classdict__" : Str)) = false := by decide) :
    PTF C (.Compare a [.NotIn] [.Name x p] pos) (tsF (dinF true fa i)) := by
  obtain ⟨t, h1, h2⟩ := ha
  exact ⟨_, fun X h => pt_cmp (pc_dnotin (by have := h.room.u65; omega) (h1 X h) (pe_var (h.nm hN) (h.vis hv) hd hcd)), snd_tB (snd_dnin h2)⟩
/-! ### d[k] = e -/
def dputF (i : Nat) (fi f : EF) : SF := fun ρ => match f ρ with
  | none => none
  | some (y, ρ1) => match ρ1[i]? with
    | some (.ow _ (.dct _ _)) => (match fi ρ1 with
      | none => none
      | some (k, ρ2) => match ρ2[i]? with
        | some (.ow fx (.dct false kvs)) => (match keyOf k with
          | some _ => if kvs.length < 10000000 then some (.nx (ρ2.set i (.ow fx (.dct false (dput k y kvs))))) else none
          | none => none)
        | _ => none)
    | _ => none
theorem ps_dput' (i : Nat) (hN : C.N[i]? = some x) (hv : VisS C.sc x) (hb : PDF C b fb) (he : PDF C e fa) {spos : Pos} (hd : (x == ("__debug__" : Str)) = false := by decide) (hcd : (x == ("__classdict__" : Str)) = false := by decide)
    (hs : ∀ env : PySem.Env, swapsWith e (some (.Subscript (.Name x p) b spos)) pos.line env = pure false := by intro _; rfl) : PSF C (.Assign [.Subscript (.Name x p) b spos] e pos) (dputF i fb fa) := by
  obtain ⟨tb, b1, b2⟩ := hb
  obtain ⟨t, h1, h2⟩ := he
  refine ⟨_, fun X h => ps_dput (by have := h.room.u65; omega) (pe_var (h.nm hN) (h.vis hv) hd hcd) (b1 X h) (h1 X h) (hs _), ?_⟩
  intro par ρ σ S r rl e D q
  unfold dputF at e
  split at e
  · cases e
  rename_i y ρ1 e1
  split at e
  rotate_left
  · cases e
  rename_i fx0 t0 kvs0 ex0
  split at e
  · cases e
  rename_i k ρ2 e2
  split at e
  rotate_left
  · cases e
  rename_i fx kvs ex
  split at e
  rotate_left
  · cases e
  rename_i kk ek
  split at e
  rotate_left
  · cases e
  rename_i hz
  cases e
  refine h2 par ρ σ S _ _ rl e1 _ fun S1 v st1 r1 d1 => ?_
  obtain ⟨a, hv0⟩ := own_ref r1 ex0
  refine ⟨_, hv0, ?_⟩
  refine b2 par ρ1 σ S1 _ _ r1 e2 _ fun S2 w st2 r2 d2 => ?_
  obtain ⟨a1, ks, hv1, hH1, kv⟩ := r2.getK ex
  rw [hv0] at hv1
  cases hv1
  cases keyOf_eq ek
  cases dn_key d2
  obtain ⟨S3, r3, st3, eH, eF⟩ := r2.updO (u := .dK (putK ks kk v)) (o' := .dct false (dput (keyD kk) y kvs)) ex hv0 ⟨a, rfl, rfl, .inl ⟨rfl, _, upd_same, kvI_put kk (dp_mono st2.ex d1) kv⟩⟩
  refine ⟨a, _, rfl, DPut.k hH1 (sz_ok (by rw [kvI_len kv]; exact hz)), ?_⟩
  rw [← eH]
  exact q S3 σ ((st1.trans st2).trans st3) r3
/-! ### {k: v}, {} -/
theorem Step.at (S : Sn) {S2 : Sn} {p : Addr} {u : HO} (st : Step S S2) (hp : S.H p = none) (hp2 : S2.H p ≠ none) : Step S ⟨S2.F, upd S2.H p u, S2.own⟩ :=
  ⟨st.ex, fun a o h n => by
    have ne : a ≠ p := fun z => by
      subst z
      rw [hp] at h
      cases h
    show upd S2.H p u a = some o
    rw [upd_ne ne]
    exact st.frm a o h n, fun a h => by
    show upd S2.H p u a ≠ none
    by_cases z : a = p
    · subst z
      rw [upd_same]
      simp
    · rw [upd_ne z]
      exact st.per a h, st.gro, st.org⟩
def dsp1F (fa fb : EF) : OF := fun ρ => match fa ρ with
  | none => none
  | some (k, ρ1) => match fb ρ1 with
    | none => none
    | some (y, ρ2) => match keyOf k with
      | some _ => some (.dct false [(k, y)], ρ2)
      | none => none
theorem po_dsp1 (ha : PDF C a fa) (hb : PDF C b fb) : POF C (.Dict [some a] [b] pos) (dsp1F fa fb) := by
  obtain ⟨ta, a1, a2⟩ := ha
  obtain ⟨tb, b1, b2⟩ := hb
  refine ⟨_, fun X h => pe_disp (pps_cons (a1 X h) (b1 X h) pps_nil) rfl rfl (by simp) (by simp), ?_⟩
  intro par ρ σ S d ρ' rl e Q q
  unfold dsp1F at e
  split at e
  · cases e
  rename_i k ρ1 e1
  split at e
  · cases e
  rename_i y ρ2 e2
  split at e
  rotate_left
  · cases e
  rename_i kk ek
  cases e
  intro p hp
  obtain ⟨r0, st0⟩ := rl.newH (o := .dK []) hp
  have np : ¬ S.own p := fun z => rl.there p z hp
  refine a2 par ρ σ ⟨S.F, upd S.H p (.dK []), S.own⟩ _ _ r0 e1 _ fun S1 v st1 r1 d1 => ?_
  have n1 : ¬ S1.own p := fun z => by
    rcases st1.org p z with z | z
    · exact np z
    · exact absurd z (by show upd S.H p (.dK []) p ≠ none; rw [upd_same]; simp)
  have h1 : S1.H p = some (.dK []) := st1.frm p _ upd_same np
  have f1 : S1.F p = none := by
    cases w : S1.F p with
    | none => rfl
    | some u =>
      rcases st1.gro p (by rw [w]; simp) with z | z | z
      · exact absurd (rl.ext.free hp) z
      · exact absurd z (by show upd S.H p (.dK []) p ≠ none; rw [upd_same]; simp)
      · exact absurd z np
  refine b2 par ρ1 σ S1 _ _ r1 e2 _ fun S2 w st2 r2 d2 => ?_
  have n2 : ¬ S2.own p := fun z => by
    rcases st2.org p z with z | z
    · exact n1 z
    · rw [h1] at z
      cases z
  have h2 : S2.H p = some (.dK []) := st2.frm p _ h1 n1
  have f2 : S2.F p = none := by
    cases w : S2.F p with
    | none => rfl
    | some u =>
      rcases st2.gro p (by rw [w]; simp) with z | z | z
      · exact absurd f1 z
      · rw [h1] at z
        cases z
      · exact absurd z n1
  cases keyOf_eq ek
  cases dn_key d1
  refine ⟨h2, [(kk, w)], rfl, by simp, ?_⟩
  have r3 := r2.chg (o := .dK (mergeK [] [(kk, w)])) (by rw [h2]; simp) f2 n2
  have st := ((st0.trans st1).trans st2).at S (u := .dK (mergeK [] [(kk, w)])) hp (by rw [h2]; simp)
  exact q _ _ [p] st r3 ⟨⟨p, rfl, rfl, .inl ⟨rfl, _, upd_same, .cons d2 .nil⟩⟩, fun b hb => by cases List.mem_singleton.mp hb; exact n2, fun b hb => by cases List.mem_singleton.mp hb; exact f2, fun b hb => by cases List.mem_singleton.mp hb; exact .inr hp⟩
def dsp0F (t : Bool) : OF := fun ρ => some (.dct t [], ρ)
theorem snd_new {ρ : Env} {σ : L2.St} {par : Nat → Option V} {S : Sn} {o : O} {u : HO} {p : Addr} (r : Rl K mg par ρ σ S) (hp : S.H p = none) (h : Ow K S.F (upd S.H p u) o (.ref p) [p]) :
    Rl K mg par ρ σ ⟨S.F, upd S.H p u, S.own⟩ ∧ Step S ⟨S.F, upd S.H p u, S.own⟩ ∧ Nw K S ⟨S.F, upd S.H p u, S.own⟩ o (.ref p) [p] := by
  obtain ⟨r2, st2⟩ := r.newH (o := u) hp
  exact ⟨r2, st2, h, fun a ha => by cases List.mem_singleton.mp ha; exact fun z => r.there p z hp, fun a ha => by cases List.mem_singleton.mp ha; exact r.ext.free hp, fun a ha => by cases List.mem_singleton.mp ha; exact .inr hp⟩
theorem po_dsp0 : POF C (.Dict [] [] pos) (dsp0F false) := by
  refine ⟨_, fun X h => pe_dnewK, ?_⟩
  intro par ρ σ S d ρ' rl e Q q
  cases e
  intro p hp
  obtain ⟨r2, st2, n2⟩ := snd_new (o := .dct false []) (u := .dK []) rl hp ⟨p, rfl, rfl, .inl ⟨rfl, [], upd_same, .nil⟩⟩
  exact q _ _ _ st2 r2 n2
theorem po_dsp0T : POF C (.Dict [] [] pos) (dsp0F true) := by
  refine ⟨_, fun X h => pe_dnewT, ?_⟩
  intro par ρ σ S d ρ' rl e Q q
  cases e
  intro p hp
  obtain ⟨r2, st2, n2⟩ := snd_new (o := .dct true []) (u := .dT []) rl hp ⟨p, rfl, rfl, .inr ⟨rfl, [], upd_same, .nil⟩⟩
  exact q _ _ _ st2 r2 n2
end
end G

set_option Elab.async false
set_option linter.all false
set_option maxRecDepth 100000
set_option maxHeartbeats 4000000
/-! the greatest of a dict's values -/
namespace G
open PySem PySem.Spec PyProof.Rows L2
section
variable {X : Cx} {o : Expr} {p pos apos mpos : Pos} {td : TE}
/-- max(o.values()), a dict with int values, one at least -/
def tMaxVals (td : TE) : TE := fun σ H Q => td σ H fun x H1 => ∃ a kvs is, x = V.ref a ∧ H1 a = some (.dK kvs) ∧ kvs.map (·.2) = is.map V.int ∧ is ≠ [] ∧ ∀ m, m ∈ is → (∀ j ∈ is, j ≤ m) → Q (.int m) H1
theorem pe_maxVals (hc : X.calm = true) (hg : Gl X "max") (hm : X.mg "max" = none) (hd : PE X o td) (hb : attributeBase o "values" X.env (eval o X.env) = eval o X.env := by rfl) (hl : (apos.endLine == mpos.line) = true := by rfl)
    (hs : starEach [Expr.Call (.Attribute o "values" apos) [] [] mpos] X.env = [(false, eval (Expr.Call (.Attribute o "values" apos) [] [] mpos) X.env)] := by rfl) :
    PE X (.Call (.Name "max" p) [.Call (.Attribute o "values" apos) [] [] mpos] [] pos) (tMaxVals td) := by
  refine ⟨fun pins s0 σ H Q I h => ?_⟩
  refine wpAny_Call_Name_kw (ld_blt I hg hm (u := .builtin "max") (by first | rfl | decide +kernel) ?_ (by first | decide +kernel | decide) (by first | decide +kernel | decide))
  rw [hs]
  refine PySem.callWith_builtin1 (wpAny_Call_method0_late hb hl (thn (hd.run pins s0 σ H _ I h) fun v s ⟨x, H1, I1, r1, a, kvs, ns, ex, ha, hv, hne, q⟩ => ?_))
  subst ex
  obtain rfl : v = Value.ref a := r1
  obtain ⟨_, hsys, vs, rel, dof⟩ := dk_of I1.hok ha
  obtain ⟨ep, dat⟩ := dof.dictAt
  obtain ⟨ob, es, ho, ex, _⟩ := id dat
  refine ⟨"dict", "dict.values", F.plainAttrs_dict, F.slot_dict_values, F.type_dict_values, ⟨ob, ho, ex.1⟩, fun b z => ?_, Calls.callWith_builtin rfl (PySem.evalArgs_none ?_)⟩
  · cases z
    exact ⟨ob, ho, ex.2.1⟩
  refine call_meetsIn F.slot_dict_values ⟨ob, ho, ex.1⟩ F.entry_dict_values (F.args_dict_values_1 _) (meets_dict_values (mixKind X.prog X.w) a hsys) ⟨⟨vs, dof⟩, ?_⟩
  generalize hh : (s.heap.push { cls := .type "dict_values", data := .fields #[.ref a] }) = hv1
  have k1 : ∀ b u, s.heap.get? b = some u → hv1.get? b = some u := fun b u z => by
    rw [← hh]
    exact Heap.get?_push_of_some _ z
  have dat1 : hv1.DictAt (mixKind X.prog X.w) a vs ep := dat.keep k1
  have at1 : hv1.get? s.heap.objs.size = some { cls := .type "dict_values", data := .fields #[.ref a] } := by
    rw [← hh]
    exact Heap.get?_push_size _ rfl
  have nlen : vs.length = ns.length := by
    have z := congrArg List.length hv
    rw [List.length_map, List.length_map] at z
    exact (KV.length rel).symm.trans z
  have nv : ∀ (i : Nat) (v : Value), (∃ k, vs[i]? = some (k, v)) → ∃ t, v = Value.int (ns.getD i 0) t := fun i v ⟨k, hk⟩ => by
    obtain ⟨x, z1, z2⟩ := KV.at' rel hk
    have z3 : (kvs.map (·.2))[i]? = some x := by rw [List.getElem?_map, z1] <;> rfl
    rw [hv, List.getElem?_map] at z3
    obtain ⟨j, hj, z4⟩ := Option.map_eq_some_iff.mp z3
    subst z4
    obtain ⟨t, z5⟩ := z2
    exact ⟨t, by rw [z5, List.getD_eq_getElem?_getD, hj]; rfl⟩
  have hlt : a < s.heap.objs.size := Heap.lt_size ho
  have hsz : hv1.objs.size = s.heap.objs.size + 1 := by
    rw [← hh]
    exact Heap.size_push _ _
  have hpos : 0 < vs.length := by
    rw [nlen]
    exact List.length_pos_iff.mpr hne
  refine call_max_walk (wpAny_pyIter_values (v := s.heap.objs.size) (d := a) ⟨_, at1, rfl, rfl⟩ dat1 ?_)
  refine ⟨_, _, _, _, _, _, _, rfl, Walks.dictValues (knd := mixKind X.prog X.w) (A := X.A.in1) (I.ok.hd hc) hv1.objs.size a (by rw [hsz]; exact Nat.ne_of_lt (Nat.lt_succ_of_lt hlt)) vs ep,
    ⟨⟨_, Heap.get?_push_size _ rfl, rfl, rfl⟩, dat1.keep fun b u z => Heap.get?_push_of_some _ z⟩, fun b hb => ?_, hpos, CmpOf.ints_gt (fun i => ns.getD i 0) nv, fun v h' tk hP hk => ?_⟩
  · show b < (hv1.push _).objs.size
    rw [Heap.size_push, hsz]
    rw [hsz] at hb
    rcases List.mem_cons.mp hb with z | hb
    · rw [z]
      exact Nat.lt_succ_self _
    · have z : b = a := List.mem_singleton.mp hb
      rw [z]
      exact Nat.lt_succ_of_lt (Nat.lt_succ_of_lt hlt)
  · obtain ⟨t, rfl⟩ := nv _ v hP
    obtain ⟨b1, b2⟩ := argBest_gt (fun i => ns.getD i 0) (vs.length - 1)
    have hb : argBest (fun i j => decide (ns.getD i 0 > ns.getD j 0)) (vs.length - 1) < ns.length := by omega
    refine ⟨.int _, H1, I1.kept (t' := tk) fun b u z => hk b u (fun hmem => ?_) (Heap.get?_push_of_some _ (k1 b u z)), ⟨t, rfl⟩, q _ ?_ fun j hj => ?_⟩
    · have z1 : b = hv1.objs.size := List.mem_singleton.mp hmem
      have z2 := Heap.lt_size z
      rw [z1, hsz] at z2
      exact absurd z2 (Nat.not_lt.mpr (Nat.le_succ _))
    · rw [List.getD_eq_getElem?_getD, List.getElem?_eq_getElem hb]
      exact List.getElem_mem hb
    · obtain ⟨i, hi, z⟩ := List.mem_iff_getElem.mp hj
      have z2 : ns.getD i 0 = j := by rw [List.getD_eq_getElem?_getD, List.getElem?_eq_getElem hi, ← z] <;> rfl
      rw [← z2]
      exact b2 i (by omega)
end
section
variable {C : Ct} {p pos apos mpos po : Pos} {x : Str} {i : Nat}
def maxVF (i : Nat) : EF := fun ρ => match ρ[i]? with
  | some (.ow _ (.dct false kvs)) => (match intsOf (kvs.map (·.2)) with
    | some (n :: ns) => some (.int (ns.foldl max n), ρ)
    | _ => none)
  | _ => none
theorem pd_maxV (i : Nat) (hN : C.N[i]? = some x) (hv : VisS C.sc x) (hg : C.sc.names.lookup ("max" : Str) = some .globalImplicit) (hm : C.mg "max" = none) (hl : (apos.endLine == mpos.line) = true := by rfl) (hd : (x == ("__debug__" : Str)) = false := by decide) (hcd : (x == ("__classdict__" : Str)) = false := by decide)
    (hb : ∀ env : PySem.Env, attributeBase (.Name x po) "values" env (eval (.Name x po) env) = eval (.Name x po) env := by intro _; rfl)
    (hs : ∀ env : PySem.Env, starEach [Expr.Call (.Attribute (.Name x po) "values" apos) [] [] mpos] env = [(false, eval (Expr.Call (.Attribute (.Name x po) "values" apos) [] [] mpos) env)] := by intro _; rfl) :
    PDF C (.Call (.Name "max" p) [.Call (.Attribute (.Name x po) "values" apos) [] [] mpos] [] pos) (maxVF i) := by
  refine ⟨_, fun X h => pe_maxVals h.calm (h.gl hg) (by rw [h.hm]; exact hm) (pe_var (h.nm hN) (h.vis hv) hd hcd) (hb _) hl (hs _), ?_⟩
  intro par ρ σ S d ρ' rl e Q q
  unfold maxVF at e
  split at e
  rotate_left
  · cases e
  rename_i fx kvs ex
  split at e
  rotate_left
  · cases e
  rename_i n ns en
  cases e
  obtain ⟨a, ks, h1, h2, h3⟩ := rl.getK ex
  have h4 := kvI_vals h3
  rw [intsOf_eq en] at h4
  refine ⟨_, h1, a, ks, n :: ns, rfl, h2, DnAll.ints h4, by simp, fun m k1 k2 => ?_⟩
  rw [← foldl_max_of k1 k2]
  exact q S _ (.refl S) rl (.int _)
end
end G

set_option Elab.async false
set_option linter.all false
/-! the built-in names -/
namespace G
open PySem PySem.Spec PyProof.Rows L2
theorem bt_len : bootBuiltins "len" = some (.builtin "len") := by first | rfl | decide +kernel
theorem bt_abs : bootBuiltins "abs" = some (.builtin "abs") := by first | rfl | decide +kernel
theorem bt_sum : bootBuiltins "sum" = some (.builtin "sum") := by first | rfl | decide +kernel
theorem bt_min : bootBuiltins "min" = some (.builtin "min") := by first | rfl | decide +kernel
theorem bt_max : bootBuiltins "max" = some (.builtin "max") := by first | rfl | decide +kernel
theorem bt_sorted : bootBuiltins "sorted" = some (.builtin "sorted") := by first | rfl | decide +kernel
theorem bt_all : bootBuiltins "all" = some (.builtin "all") := by first | rfl | decide +kernel
theorem bt_any : bootBuiltins "any" = some (.builtin "any") := by first | rfl | decide +kernel
theorem bt_int : bootBuiltins "int" = some (.type "int") := by first | rfl | decide +kernel
theorem bt_bool : bootBuiltins "bool" = some (.type "bool") := by first | rfl | decide +kernel
theorem bt_str : bootBuiltins "str" = some (.type "str") := by first | rfl | decide +kernel
theorem bt_tuple : bootBuiltins "tuple" = some (.type "tuple") := by first | rfl | decide +kernel
theorem bt_list : bootBuiltins "list" = some (.type "list") := by first | rfl | decide +kernel
theorem bt_dict : bootBuiltins "dict" = some (.type "dict") := by first | rfl | decide +kernel
end G

set_option Elab.async false
set_option linter.all false
set_option maxRecDepth 100000
set_option maxHeartbeats 4000000
/-! from the module's facts to the defs; the law's own def -/
namespace G
open PySem PySem.Spec PyProof.Rows L2
def IsDef (K : PySem.W.Frag) (x : Str) (st : Stmt) : Prop := ∃ (f : Addr) (oc : Value) (od an : Option Addr) (osl : Array (Option Value)) (kV doc pm cdv ct : Value), PySem.W.nsIn K mainGlobals x = some (some (.ref f)) ∧
  K.lookup f = some ⟨oc, od, .func (PySem.W.fnOf x x (defArgs st) (defBody st) (defScope st) .none kV doc pm an cdv ct), osl⟩ ∧ PySem.W.codeIn K cdv x = true ∧ PySem.W.keepIn K (.ref f) = true
theorem isDef_mk {K : PySem.W.Frag} {x : Str} {st : Stmt} {f : Addr} {oc : Value} {od an : Option Addr} {osl : Array (Option Value)} {kV doc pm cdv ct : Value} (a : PySem.W.nsIn K mainGlobals x = some (some (.ref f)))
    (l : K.lookup f = some ⟨oc, od, .func (PySem.W.fnOf x x (defArgs st) (defBody st) (defScope st) .none kV doc pm an cdv ct), osl⟩) (c : PySem.W.codeIn K cdv x = true) (k : PySem.W.keepIn K (.ref f) = true) : IsDef K x st := ⟨f, oc, od, an, osl, kV, doc, pm, cdv, ct, a, l, c, k⟩
section
variable {K : PySem.W.Frag} {h : Heap} {mg : Str → Option Value} {x : Str} {st : Stmt} {ps : List Str}
theorem IsDef.fun (d : IsDef K x st) (X : K.In h) (G : h.Ns mainGlobals mg) (hb : ∀ (kV doc pm : Value) (an : Option Addr) (cdv ct : Value) (us : List Value), us.length = ps.length → bindArgs (PySem.W.fnOf x x (defArgs st) (defBody st) (defScope st) .none kV doc pm an cdv ct) ⟨us, []⟩ = pure (ps.zip us)) :
    ∃ (f : Addr) (fd : FuncData), Fun K x x st f fd ∧ mg x = some (.ref f) ∧ Binds K fd ps [] := by
  obtain ⟨f, oc, od, an, osl, kV, doc, pm, cdv, ct, a, l, c, k⟩ := d
  have F := fun_mk (st := st) l c k
  exact ⟨f, _, F, PySem.W.mg_of X G a, F.binds hb⟩
/-- the law's def: what it is asked -/
def spLaw (K : PySem.W.Frag) (bits : Int → Prop) : Sp := fun vs H Q _ => ∃ (a : Addr) (ns : List Int), vs = [.ref a] ∧ SqL K H a (ns.map V.int) ∧ ns.length ≤ 63 ∧ (∀ z ∈ ns, bits z) ∧ ∀ H', Q (.bl true) H'
theorem law_sp {bits : Int → Prop} {F : Fn} (hF : ∀ ns : List Int, ns.length ≤ 63 → (∀ z ∈ ns, bits z) → ∃ bs, F [.d (.list (ns.map PyData.int))] = some (.d (.bool true), bs)) :
    ∀ vs H Q E, spLaw K bits vs H Q E → spF K mg 1 F vs H Q E := by
  intro vs H Q E hs
  obtain ⟨a, ns, rfl, hS, hlen, hb, q⟩ := hs
  obtain ⟨bs, e⟩ := hF ns hlen hb
  refine ⟨rfl, fun i => [V.ref a][i]?, [.d (.list (ns.map PyData.int))], ⟨H, H, fun _ => False⟩, _, _, rfl, fun i v e => e, ⟨Ex.refl _, rfl, fun _ z => z.elim, fun _ => [], fun i s e => ?_, fun i e => rfl, fun i j b hb _ => absurd hb (List.not_mem_nil), fun b => ⟨fun z => z.elim, fun ⟨_, z⟩ => absurd z (List.not_mem_nil)⟩⟩, e, fun S' v st rl rv => ?_⟩
  · cases i with
    | zero =>
      cases e
      exact ⟨rfl, .ref a, rfl, .lst hS (DnAll.of_ints ns)⟩
    | succ i => cases e
  · cases rv
    exact q _
end
end G

set_option Elab.async false
set_option linter.all false
set_option maxRecDepth 100000
set_option maxHeartbeats 4000000
/-! the defs of leastplus_k58_whole_reduced_stacks -/
namespace G
open PySem PySem.Spec PyProof.Rows L2
def topS (i : Nat) : Stmt := PySem.Challenge.pw_leastplus_k58_whole_reduced_stacks.main.body.getD i (.Pass ⟨0, 0, 0, 0⟩)
structure Md (P : Program) (w : World) (K : PySem.W.Frag) (mg : Str → Option Value) (base : Heap) : Prop where
  z_abs : mg "abs" = none
  z_bool : mg "bool" = none
  z_enumerate : mg "enumerate" = none
  z_int : mg "int" = none
  z_isinstance : mg "isinstance" = none
  z_len : mg "len" = none
  z_list : mg "list" = none
  z_max : mg "max" = none
  z_min : mg "min" = none
  z_range : mg "range" = none
  z_sorted : mg "sorted" = none
  z_str : mg "str" = none
  z_sum : mg "sum" = none
  z_tuple : mg "tuple" = none
  d_fired : ∃ (f : Addr) (fd : FuncData), Fun K "fired" "fired" (topS 1) f fd ∧ mg "fired" = some (.ref f) ∧ Binds K fd ["graph", "stack", "firing"] []
  d_edges_to : ∃ (f : Addr) (fd : FuncData), Fun K "edges_to" "edges_to" (topS 2) f fd ∧ mg "edges_to" = some (.ref f) ∧ Binds K fd ["graph", "v", "members"] []
  d_burnt : ∃ (f : Addr) (fd : FuncData), Fun K "burnt" "burnt" (topS 3) f fd ∧ mg "burnt" = some (.ref f) ∧ Binds K fd ["graph", "stack", "q"] []
  d_burning : ∃ (f : Addr) (fd : FuncData), Fun K "burning" "burning" (topS 4) f fd ∧ mg "burning" = some (.ref f) ∧ Binds K fd ["graph", "stack", "q"] []
  d_layers : ∃ (f : Addr) (fd : FuncData), Fun K "layers" "layers" (topS 5) f fd ∧ mg "layers" = some (.ref f) ∧ Binds K fd ["graph", "q"] []
  d_reducing : ∃ (f : Addr) (fd : FuncData), Fun K "reducing" "reducing" (topS 6) f fd ∧ mg "reducing" = some (.ref f) ∧ Binds K fd ["graph", "stack", "q"] []
  d_reduced : ∃ (f : Addr) (fd : FuncData), Fun K "reduced" "reduced" (topS 7) f fd ∧ mg "reduced" = some (.ref f) ∧ Binds K fd ["graph", "stack", "q"] []
  d_are_equivalent : ∃ (f : Addr) (fd : FuncData), Fun K "are_equivalent" "are_equivalent" (topS 8) f fd ∧ mg "are_equivalent" = some (.ref f) ∧ Binds K fd ["graph", "first", "second"] []
  d__law_same : ∃ (f : Addr) (fd : FuncData), Fun K "_law_same" "_law_same" (topS 10) f fd ∧ mg "_law_same" = some (.ref f) ∧ Binds K fd ["actual", "due"] []
  d__law_is_integer : ∃ (f : Addr) (fd : FuncData), Fun K "_law_is_integer" "_law_is_integer" (topS 11) f fd ∧ mg "_law_is_integer" = some (.ref f) ∧ Binds K fd ["actual"] []
  d__law_pool : ∃ (f : Addr) (fd : FuncData), Fun K "_law_pool" "_law_pool" (topS 12) f fd ∧ mg "_law_pool" = some (.ref f) ∧ Binds K fd ["script"] []
  d__law_spread : ∃ (f : Addr) (fd : FuncData), Fun K "_law_spread" "_law_spread" (topS 13) f fd ∧ mg "_law_spread" = some (.ref f) ∧ Binds K fd ["cell"] []
  d__law_draw : ∃ (f : Addr) (fd : FuncData), Fun K "_law_draw" "_law_draw" (topS 14) f fd ∧ mg "_law_draw" = some (.ref f) ∧ Binds K fd ["pool", "many"] []
  d__law_graph : ∃ (f : Addr) (fd : FuncData), Fun K "_law_graph" "_law_graph" (topS 15) f fd ∧ mg "_law_graph" = some (.ref f) ∧ Binds K fd ["pool", "most"] []
  d__law_fired : ∃ (f : Addr) (fd : FuncData), Fun K "_law_fired" "_law_fired" (topS 16) f fd ∧ mg "_law_fired" = some (.ref f) ∧ Binds K fd ["graph", "stack", "firing"] []
  d__law_out : ∃ (f : Addr) (fd : FuncData), Fun K "_law_out" "_law_out" (topS 17) f fd ∧ mg "_law_out" = some (.ref f) ∧ Binds K fd ["graph", "v", "members"] []
  d__law_reduced_for : ∃ (f : Addr) (fd : FuncData), Fun K "_law_reduced_for" "_law_reduced_for" (topS 18) f fd ∧ mg "_law_reduced_for" = some (.ref f) ∧ Binds K fd ["graph", "stack", "q"] []
  d__law_burns : ∃ (f : Addr) (fd : FuncData), Fun K "_law_burns" "_law_burns" (topS 19) f fd ∧ mg "_law_burns" = some (.ref f) ∧ Binds K fd ["graph", "stack", "q", "order"] []
  d__law_stack : ∃ (f : Addr) (fd : FuncData), Fun K "_law_stack" "_law_stack" (topS 20) f fd ∧ mg "_law_stack" = some (.ref f) ∧ Binds K fd ["pool", "graph", "low", "high"] []
  d_law : ∃ (f : Addr) (fd : FuncData), Fun K "law" "law" (topS 21) f fd ∧ mg "law" = some (.ref f) ∧ Binds K fd ["script"] []
section
variable {P : Program} {w : World} {K : PySem.W.Frag} {mg : Str → Option Value} {base : Heap}
/-! ### fired -/
abbrev s_fired : Stmt := topS 1
abbrev N_fired : List Str := ["graph", "stack", "firing", "found", "i", "j"]
theorem nd_fired : (N_fired).Nodup := by decide +kernel
theorem sc_fired : FnScope N_fired ["graph", "stack", "firing"] (defScope s_fired) := ⟨rfl, rfl, rfl, by decide +kernel, rfl, by decide +kernel, by decide +kernel⟩
def b_fired_1 : SF := seqS (augIxF 3 (nmF 4) (opF gSub (opF gIx (nmF 2) (nmF 5)) (opF gIx (nmF 2) (nmF 4)))) (augIxF 3 (nmF 5) (opF gSub (opF gIx (nmF 2) (nmF 4)) (opF gIx (nmF 2) (nmF 5))))
def l_fired_1 : SF := forS (itF (opF gIx (nmF 0) (kF (.int 1)))) (bT 2 (bCons (bN 4) (bCons (bN 5) (bNil)))) (b_fired_1)
def f_fired : SF := seqS (setOF 3 (callOF gList (consF (nmF 1) (nilF)))) (seqS (l_fired_1) (retF (callF gTup (consF (nmF 3) (nilF)))))
def F_fired : Fn := runF 6 f_fired
theorem p_fired (M : Md P w K mg base) : PBF ⟨P, w, K, mg, base, N_fired, defScope s_fired, fun _ => true, 0⟩ (defBody s_fired) f_fired :=
  pb_cons (ps_setO 3 nd_fired rfl (.inl rfl) (.inl rfl) (po_callT co_list rfl M.z_list bt_list (pl_cons (pd_nm 1 rfl (.inl rfl)) (pl_nil))))
    (pb_cons (ps_for' (pi_of (pd_ix ixs (pd_nm 0 rfl (.inl rfl)) (pd_int) (fun _ _ => rfl))) (pg_tup' (n := 2) (pgs_cons' (pg_nm 4 nd_fired rfl (.inl rfl) (.inl rfl)) (pgs_cons' (pg_nm 5 nd_fired rfl (.inl rfl) (.inl rfl)) (pgs_nil')))) (pb_cons (ps_augIx 3 rfl (.inl rfl) (pd_nm 4 rfl (.inl rfl)) (pd_bin ops_sub (pd_ix ixs (pd_nm 2 rfl (.inl rfl)) (pd_nm 5 rfl (.inl rfl)) (fun _ _ => rfl)) (pd_ix ixs (pd_nm 2 rfl (.inl rfl)) (pd_nm 4 rfl (.inl rfl)) (fun _ _ => rfl))))
    (pb_one (ps_augIx 3 rfl (.inl rfl) (pd_nm 5 rfl (.inl rfl)) (pd_bin ops_sub (pd_ix ixs (pd_nm 2 rfl (.inl rfl)) (pd_nm 4 rfl (.inl rfl)) (fun _ _ => rfl)) (pd_ix ixs (pd_nm 2 rfl (.inl rfl)) (pd_nm 5 rfl (.inl rfl)) (fun _ _ => rfl)))))))
    (pb_one (ps_ret' (pd_callT cs_tuple rfl M.z_tuple bt_tuple (pl_cons (pd_nm 3 rfl (.inl rfl)) (pl_nil))))))
theorem fd_fired (M : Md P w K mg base) : Fd P w K mg base "fired" 3 1 F_fired := by
  obtain ⟨f, fd, F, g, b⟩ := M.d_fired
  exact fd_mk F sc_fired g b rfl (by decide) (p_fired M)
/-! ### edges_to -/
abbrev s_edges_to : Stmt := topS 2
abbrev N_edges_to : List Str := ["graph", "v", "members", "edge"]
theorem nd_edges_to : (N_edges_to).Nodup := by decide +kernel
theorem sc_edges_to : FnScope N_edges_to ["graph", "v", "members"] (defScope s_edges_to) := ⟨rfl, rfl, rfl, by decide +kernel, rfl, by decide +kernel, by decide +kernel⟩
def c_edges_to_1 : OF := lcF (itF (opF gIx (nmF 0) (kF (.int 1)))) (bN 3) (andF (tsF (opF gIn (nmF 1) (nmF 3))) (tsF (opVF gIn (opF gSub (callF gSum (consF (nmF 3) (nilF))) (nmF 1)) 2))) (nmF 3) [3]
def f_edges_to : SF := retF (callF gLen (consF (frF (c_edges_to_1)) (nilF)))
def F_edges_to : Fn := runF 4 f_edges_to
theorem p_edges_to (M : Md P w K mg base) : PBF ⟨P, w, K, mg, base, N_edges_to, defScope s_edges_to, fun _ => true, 0⟩ (defBody s_edges_to) f_edges_to :=
  pb_one (ps_ret' (pd_callB cs_len rfl M.z_len bt_len (pl_cons (pd_fr (po_lc (own := [("edge", 3)]) nd_edges_to (pi_of (pd_ix ixs (pd_nm 0 rfl (.inl rfl)) (pd_int) (fun _ _ => rfl))) ⟨rfl, by decide +kernel, by dsimp only [Ct.blk]; decide +kernel, by dsimp only [Ct.blk]; decide +kernel, by dsimp only [Ct.blk]; decide +kernel⟩ (pg_nm 3 nd_edges_to rfl (.inl rfl) (.inr rfl)) (by decide) (pts_one' (pt_w (pw_and' (pt_cmp' ops_in (pd_nm 1 rfl (.inr (.inl rfl))) (pd_nm 3 rfl (.inl rfl)) rfl) (pw_and1' (pt_cmpV ops_in (pd_bin ops_sub (pd_callB cs_sum rfl M.z_sum bt_sum (pl_cons (pd_nm 3 rfl (.inl rfl)) (pl_nil))) (pd_nm 1 rfl (.inr (.inl rfl)))) 2 rfl (.inr (.inl rfl)) rfl))))) (pd_nm 3 rfl (.inl rfl)))) (pl_nil))))
theorem fd_edges_to (M : Md P w K mg base) : Fd P w K mg base "edges_to" 3 1 F_edges_to := by
  obtain ⟨f, fd, F, g, b⟩ := M.d_edges_to
  exact fd_mk F sc_edges_to g b rfl (by decide) (p_edges_to M)
/-! ### burnt -/
abbrev s_burnt : Stmt := topS 3
abbrev N_burnt : List Str := ["graph", "stack", "q", "found", "grown", "v"]
theorem nd_burnt : (N_burnt).Nodup := by decide +kernel
theorem sc_burnt : FnScope N_burnt ["graph", "stack", "q"] (defScope s_burnt) := ⟨rfl, rfl, rfl, by decide +kernel, rfl, by decide +kernel, by decide +kernel⟩
def b_burnt_1 : SF := ifS (andF (tsF (opVF gNotIn (nmF 5) 3)) (tsF (opF gLt (opF gIx (nmF 1) (nmF 5)) (callD F_edges_to (adF (nmF 0) (adF (nmF 5) (aborF 3 (anilF)))))))) (seqS (dropS (appF 3 (nmF 5))) (setF 4 (kF (.bool true)))) (nxS)
def l_burnt_1 : SF := forS (rng1F (consF (opF gIx (nmF 0) (kF (.int 0))) (nilF))) (bN 5) (b_burnt_1)
def w_burnt_1 : TF := tsF (nmF 4)
def b_burnt_2 : SF := seqS (setF 4 (kF (.bool false))) (l_burnt_1)
def l_burnt_2 : SF := whileS (w_burnt_1) (b_burnt_2)
def f_burnt : SF := seqS (setOF 3 (lstF (consF (nmF 2) (nilF)))) (seqS (setF 4 (kF (.bool true))) (seqS (l_burnt_2) (retNF 3)))
def F_burnt : Fn := runF 6 f_burnt
theorem p_burnt (M : Md P w K mg base) : PBF ⟨P, w, K, mg, base, N_burnt, defScope s_burnt, fun _ => true, 1⟩ (defBody s_burnt) f_burnt :=
  pb_cons (ps_setO 3 nd_burnt rfl (.inl rfl) (.inl rfl) (po_lst (pl_cons (pd_nm 2 rfl (.inl rfl)) (pl_nil))))
    (pb_cons (ps_set' 4 nd_burnt rfl (.inl rfl) (.inl rfl) (pd_bl))
    (pb_cons (ps_while' (pt_val' (pd_nm 4 rfl (.inl rfl))) (pb_cons (ps_set' 4 nd_burnt rfl (.inl rfl) (.inl rfl) (pd_bl))
    (pb_one (ps_for' (pi_rng1 rfl M.z_range (pl_cons (pd_ix ixs (pd_nm 0 rfl (.inl rfl)) (pd_int) (fun _ _ => rfl)) (pl_nil))) (pg_nm 5 nd_burnt rfl (.inl rfl) (.inl rfl)) (pb_one (ps_if' (pt_w (pw_and' (pt_cmpV ops_notin (pd_nm 5 rfl (.inl rfl)) 3 rfl (.inl rfl) rfl) (pw_and1' (pt_cmp' ops_lt (pd_ix ixs (pd_nm 1 rfl (.inl rfl)) (pd_nm 5 rfl (.inl rfl)) (fun _ _ => rfl)) (pd_call (fd_edges_to M) (Nat.le_of_ble_eq_true rfl) rfl (pa_d (pd_nm 0 rfl (.inl rfl)) (pa_d (pd_nm 5 rfl (.inl rfl)) (pa_bor 3 rfl (.inl rfl) (pa_nil')))) (arn_d (arn_d (arn_bor (arn_nil))))) rfl)))) (pb_cons (ps_drop (pd_app 3 rfl (.inl rfl) (pd_nm 5 rfl (.inl rfl))))
    (pb_one (ps_set' 4 nd_burnt rfl (.inl rfl) (.inl rfl) (pd_bl)))) (pb_nil)))))))
    (pb_one (ps_retN' 3 rfl (.inl rfl)))))
theorem fd_burnt (M : Md P w K mg base) : Fd P w K mg base "burnt" 3 2 F_burnt := by
  obtain ⟨f, fd, F, g, b⟩ := M.d_burnt
  exact fd_mk F sc_burnt g b rfl (by decide) (p_burnt M)
/-! ### burning -/
abbrev s_burning : Stmt := topS 4
abbrev N_burning : List Str := ["graph", "stack", "q", "found"]
theorem nd_burning : (N_burning).Nodup := by decide +kernel
theorem sc_burning : FnScope N_burning ["graph", "stack", "q"] (defScope s_burning) := ⟨rfl, rfl, rfl, by decide +kernel, rfl, by decide +kernel, by decide +kernel⟩
def f_burning : SF := seqS (setF 3 (callD F_burnt (adF (nmF 0) (adF (nmF 1) (adF (nmF 2) (anilF)))))) (retF (ifF (tsF (opF gEq (callF gLen (consF (nmF 3) (nilF))) (opF gIx (nmF 0) (kF (.int 0))))) (callF gTup (consF (nmF 3) (nilF))) (kF .none)))
def F_burning : Fn := runF 4 f_burning
theorem p_burning (M : Md P w K mg base) : PBF ⟨P, w, K, mg, base, N_burning, defScope s_burning, fun _ => true, 2⟩ (defBody s_burning) f_burning :=
  pb_cons (ps_set' 3 nd_burning rfl (.inl rfl) (.inl rfl) (pd_call (fd_burnt M) (Nat.le_of_ble_eq_true rfl) rfl (pa_d (pd_nm 0 rfl (.inl rfl)) (pa_d (pd_nm 1 rfl (.inl rfl)) (pa_d (pd_nm 2 rfl (.inl rfl)) (pa_nil')))) (arn_d (arn_d (arn_d (arn_nil))))))
    (pb_one (ps_ret' (pd_if (pt_cmp' ops_eq (pd_callB cs_len rfl M.z_len bt_len (pl_cons (pd_nm 3 rfl (.inl rfl)) (pl_nil))) (pd_ix ixs (pd_nm 0 rfl (.inl rfl)) (pd_int) (fun _ _ => rfl)) rfl) (pd_callT cs_tuple rfl M.z_tuple bt_tuple (pl_cons (pd_nm 3 rfl (.inl rfl)) (pl_nil))) (pd_non))))
theorem fd_burning (M : Md P w K mg base) : Fd P w K mg base "burning" 3 3 F_burning := by
  obtain ⟨f, fd, F, g, b⟩ := M.d_burning
  exact fd_mk F sc_burning g b rfl (by decide) (p_burning M)
/-! ### layers -/
abbrev s_layers : Stmt := topS 5
abbrev N_layers : List Str := ["graph", "q", "found", "waiting", "vertex", "i", "j", "other"]
theorem nd_layers : (N_layers).Nodup := by decide +kernel
theorem sc_layers : FnScope N_layers ["graph", "q"] (defScope s_layers) := ⟨rfl, rfl, rfl, by decide +kernel, rfl, by decide +kernel, by decide +kernel⟩
def b_layers_1 : SF := seqS (setF 7 (opF gSub (opF gAdd (nmF 5) (nmF 6)) (nmF 4))) (ifS (andF (tsF (opF gIn (nmF 4) (tupF (consF (nmF 5) (consF (nmF 6) (nilF)))))) (tsF (dinF true (nmF 7) 2))) (seqS (dputF 2 (nmF 7) (opF gAdd (dixF 2 (nmF 4)) (kF (.int 1)))) (dropS (appF 3 (nmF 7)))) (nxS))
def l_layers_1 : SF := forS (itF (opF gIx (nmF 0) (kF (.int 1)))) (bT 2 (bCons (bN 5) (bCons (bN 6) (bNil)))) (b_layers_1)
def w_layers_1 : TF := tsF (opF gGt (callVF gLen 3) (kF (.int 0)))
def b_layers_2 : SF := seqS (setF 4 (popAtF 3 (kF (.int 0)))) (l_layers_1)
def l_layers_2 : SF := whileS (w_layers_1) (b_layers_2)
def f_layers : SF := seqS (setOF 2 (dsp1F (nmF 1) (kF (.int 0)))) (seqS (setOF 3 (lstF (consF (nmF 1) (nilF)))) (seqS (l_layers_2) (retNF 2)))
def F_layers : Fn := runF 8 f_layers
theorem p_layers (M : Md P w K mg base) : PBF ⟨P, w, K, mg, base, N_layers, defScope s_layers, fun _ => true, 0⟩ (defBody s_layers) f_layers :=
  pb_cons (ps_setO 2 nd_layers rfl (.inl rfl) (.inl rfl) (po_dsp1 (pd_nm 1 rfl (.inl rfl)) (pd_int)))
    (pb_cons (ps_setO 3 nd_layers rfl (.inl rfl) (.inl rfl) (po_lst (pl_cons (pd_nm 1 rfl (.inl rfl)) (pl_nil))))
    (pb_cons (ps_while' (pt_cmp' ops_gt (pd_callV cs_len rfl M.z_len bt_len 3 rfl (.inl rfl)) (pd_int) rfl) (pb_cons (ps_set' 4 nd_layers rfl (.inl rfl) (.inl rfl) (pd_popAt 3 rfl (.inl rfl) (pd_int)))
    (pb_one (ps_for' (pi_of (pd_ix ixs (pd_nm 0 rfl (.inl rfl)) (pd_int) (fun _ _ => rfl))) (pg_tup' (n := 2) (pgs_cons' (pg_nm 5 nd_layers rfl (.inl rfl) (.inl rfl)) (pgs_cons' (pg_nm 6 nd_layers rfl (.inl rfl) (.inl rfl)) (pgs_nil')))) (pb_cons (ps_set' 7 nd_layers rfl (.inl rfl) (.inl rfl) (pd_bin ops_sub (pd_bin ops_add (pd_nm 5 rfl (.inl rfl)) (pd_nm 6 rfl (.inl rfl))) (pd_nm 4 rfl (.inl rfl))))
    (pb_one (ps_if' (pt_w (pw_and' (pt_cmp' ops_in (pd_nm 4 rfl (.inl rfl)) (pd_tup (pl_cons (pd_nm 5 rfl (.inl rfl)) (pl_cons (pd_nm 6 rfl (.inl rfl)) (pl_nil)))) rfl) (pw_and1' (pt_dnin 2 rfl (.inl rfl) (pd_nm 7 rfl (.inl rfl)))))) (pb_cons (ps_dput' 2 rfl (.inl rfl) (pd_nm 7 rfl (.inl rfl)) (pd_bin ops_add (pd_dix 2 rfl (.inl rfl) (pd_nm 4 rfl (.inl rfl)) (fun _ _ => rfl)) (pd_int)))
    (pb_one (ps_drop (pd_app 3 rfl (.inl rfl) (pd_nm 7 rfl (.inl rfl)))))) (pb_nil))))))))
    (pb_one (ps_retN' 2 rfl (.inl rfl)))))
theorem fd_layers (M : Md P w K mg base) : Fd P w K mg base "layers" 2 1 F_layers := by
  obtain ⟨f, fd, F, g, b⟩ := M.d_layers
  exact fd_mk F sc_layers g b rfl (by decide) (p_layers M)
/-! ### reducing -/
abbrev s_reducing : Stmt := topS 6
abbrev N_reducing : List Str := ["graph", "stack", "q", "n", "far", "firing", "layer", "here", "fire", "v", "a"]
theorem nd_reducing : (N_reducing).Nodup := by decide +kernel
theorem sc_reducing : FnScope N_reducing ["graph", "stack", "q"] (defScope s_reducing) := ⟨rfl, rfl, rfl, by decide +kernel, rfl, by decide +kernel, by decide +kernel⟩
def c_reducing_1 : OF := lcF (enF (consF (nmF 5) (nilF))) (bT 2 (bCons (bN 9) (bCons (bN 10) (bNil)))) (yesF) (opF gAdd (nmF 10) (callF gInt (consF (opF gNotIn (nmF 9) (nmF 8)) (nilF)))) [9, 10]
def w_reducing_1 : TF := tsF (kF (.bool true))
def b_reducing_1 : SF := seqS (setF 7 (callD F_fired (adF (nmF 0) (adF (nmF 1) (adF (nmF 5) (anilF)))))) (seqS (setF 8 (callD F_burnt (adF (nmF 0) (adF (nmF 7) (adF (nmF 2) (anilF)))))) (seqS (ifS (tsF (opF gEq (callF gLen (consF (nmF 8) (nilF))) (nmF 3))) (retF (callF gTup (consF (nmF 5) (nilF)))) (nxS)) (setF 5 (frF (c_reducing_1)))))
def l_reducing_1 : SF := whileS (w_reducing_1) (b_reducing_1)
def c_reducing_2 : OF := lcF (rng1F (consF (nmF 3) (nilF))) (bN 9) (tsF (opF gEq (dixF 4 (nmF 9)) (nmF 6))) (opF gIx (callD F_fired (adF (nmF 0) (adF (nmF 1) (adF (nmF 5) (anilF))))) (nmF 9)) [9]
def c_reducing_3 : OF := lcF (enF (consF (nmF 5) (nilF))) (bT 2 (bCons (bN 9) (bCons (bN 10) (bNil)))) (yesF) (opF gAdd (nmF 10) (callF gInt (consF (opF gLt (dixF 4 (nmF 9)) (nmF 6)) (nilF)))) [9, 10]
def w_reducing_2 : TF := tsF (opF gLt (callF gMin (consF (frF (c_reducing_2)) (nilF))) (kF (.int 0)))
def b_reducing_2 : SF := setF 5 (frF (c_reducing_3))
def l_reducing_2 : SF := whileS (w_reducing_2) (b_reducing_2)
def b_reducing_3 : SF := l_reducing_2
def l_reducing_3 : SF := forS (rng3F (consF (maxVF 4) (consF (kF (.int 0)) (consF (negF (kF (.int 1))) (nilF))))) (bN 6) (b_reducing_3)
def f_reducing : SF := seqS (setF 3 (opF gIx (nmF 0) (kF (.int 0)))) (seqS (setOF 4 (callO F_layers (adF (nmF 0) (adF (nmF 2) (anilF))))) (seqS (setF 5 (frF (repOF (lstF (consF (kF (.int 0)) (nilF))) (nmF 3)))) (seqS (l_reducing_3) (l_reducing_1))))
def F_reducing : Fn := runF 11 f_reducing
theorem p_reducing (M : Md P w K mg base) : PBF ⟨P, w, K, mg, base, N_reducing, defScope s_reducing, fun _ => true, 2⟩ (defBody s_reducing) f_reducing :=
  pb_cons (ps_set' 3 nd_reducing rfl (.inl rfl) (.inl rfl) (pd_ix ixs (pd_nm 0 rfl (.inr (.inl rfl))) (pd_int) (fun _ _ => rfl)))
    (pb_cons (ps_setO 4 nd_reducing rfl (.inr rfl) (.inl rfl) (po_call (fd_layers M) (Nat.le_of_ble_eq_true rfl) rfl (pa_d (pd_nm 0 rfl (.inr (.inl rfl))) (pa_d (pd_nm 2 rfl (.inl rfl)) (pa_nil'))) (arn_d (arn_d (arn_nil)))))
    (pb_cons (ps_set' 5 nd_reducing rfl (.inr rfl) (.inl rfl) (pd_fr (po_rep (po_lst (pl_cons (pd_int) (pl_nil))) (pd_nm 3 rfl (.inl rfl)))))
    (pb_cons (ps_for' (pi_rng3 rfl M.z_range (pl_cons (pd_maxV 4 rfl (.inr (.inl rfl)) rfl M.z_max) (pl_cons (pd_int) (pl_cons (pd_neg (pd_int)) (pl_nil))))) (pg_nm 6 nd_reducing rfl (.inr rfl) (.inl rfl)) (pb_one (ps_while' (pt_cmp' ops_lt (pd_callB cs_min rfl M.z_min bt_min (pl_cons (pd_fr (po_lc (own := [("v", 9)]) nd_reducing (pi_rng1 rfl M.z_range (pl_cons (pd_nm 3 rfl (.inl rfl)) (pl_nil))) ⟨rfl, by decide +kernel, by dsimp only [Ct.blk]; decide +kernel, by dsimp only [Ct.blk]; decide +kernel, by dsimp only [Ct.blk]; decide +kernel⟩ (pg_nm 9 nd_reducing rfl (.inl rfl) (.inr rfl)) (by decide) (pts_one' (pt_cmp' ops_eq (pd_dix 4 rfl (.inr (.inl rfl)) (pd_nm 9 rfl (.inl rfl)) (fun _ _ => rfl)) (pd_nm 6 rfl (.inr (.inl rfl))) rfl)) (pd_ix ixs (pd_call (fd_fired M) (Nat.le_of_ble_eq_true rfl) rfl (pa_d (pd_nm 0 rfl (.inr (.inl rfl))) (pa_d (pd_nm 1 rfl (.inr (.inl rfl))) (pa_d (pd_nm 5 rfl (.inr (.inl rfl))) (pa_nil')))) (arn_d (arn_d (arn_d (arn_nil))))) (pd_nm 9 rfl (.inl rfl)) (fun _ _ => rfl)))) (pl_nil))) (pd_int) rfl) (pb_one (ps_set' 5 nd_reducing rfl (.inr rfl) (.inl rfl) (pd_fr (po_lc (own := [("v", 9), ("a", 10)]) nd_reducing (pi_en rfl M.z_enumerate (pl_cons (pd_nm 5 rfl (.inr (.inl rfl))) (pl_nil))) ⟨rfl, by decide +kernel, by dsimp only [Ct.blk]; decide +kernel, by dsimp only [Ct.blk]; decide +kernel, by dsimp only [Ct.blk]; decide +kernel⟩ (pg_tup' (n := 2) (pgs_cons' (pg_nm 9 nd_reducing rfl (.inl rfl) (.inr rfl)) (pgs_cons' (pg_nm 10 nd_reducing rfl (.inl rfl) (.inr rfl)) (pgs_nil')))) (by decide) (pts_nil') (pd_bin ops_add (pd_nm 10 rfl (.inl rfl)) (pd_callT cs_int rfl M.z_int bt_int (pl_cons (pd_cmp ops_lt (pd_dix 4 rfl (.inr (.inl rfl)) (pd_nm 9 rfl (.inl rfl)) (fun _ _ => rfl)) (pd_nm 6 rfl (.inr (.inl rfl))) rfl) (pl_nil)))))) (sw_cell rfl))))))
    (pb_one (ps_while' (pt_val' (pd_bl)) (pb_cons (ps_set' 7 nd_reducing rfl (.inl rfl) (.inl rfl) (pd_call (fd_fired M) (Nat.le_of_ble_eq_true rfl) rfl (pa_d (pd_nm 0 rfl (.inr (.inl rfl))) (pa_d (pd_nm 1 rfl (.inr (.inl rfl))) (pa_d (pd_nm 5 rfl (.inr (.inl rfl))) (pa_nil')))) (arn_d (arn_d (arn_d (arn_nil))))))
    (pb_cons (ps_set' 8 nd_reducing rfl (.inr rfl) (.inl rfl) (pd_call (fd_burnt M) (Nat.le_of_ble_eq_true rfl) rfl (pa_d (pd_nm 0 rfl (.inr (.inl rfl))) (pa_d (pd_nm 7 rfl (.inl rfl)) (pa_d (pd_nm 2 rfl (.inl rfl)) (pa_nil')))) (arn_d (arn_d (arn_d (arn_nil))))))
    (pb_cons (ps_if' (pt_cmp' ops_eq (pd_callB cs_len rfl M.z_len bt_len (pl_cons (pd_nm 8 rfl (.inr (.inl rfl))) (pl_nil))) (pd_nm 3 rfl (.inl rfl)) rfl) (pb_one (ps_ret' (pd_callT cs_tuple rfl M.z_tuple bt_tuple (pl_cons (pd_nm 5 rfl (.inr (.inl rfl))) (pl_nil))))) (pb_nil))
    (pb_one (ps_set' 5 nd_reducing rfl (.inr rfl) (.inl rfl) (pd_fr (po_lc (own := [("v", 9), ("a", 10)]) nd_reducing (pi_en rfl M.z_enumerate (pl_cons (pd_nm 5 rfl (.inr (.inl rfl))) (pl_nil))) ⟨rfl, by decide +kernel, by dsimp only [Ct.blk]; decide +kernel, by dsimp only [Ct.blk]; decide +kernel, by dsimp only [Ct.blk]; decide +kernel⟩ (pg_tup' (n := 2) (pgs_cons' (pg_nm 9 nd_reducing rfl (.inl rfl) (.inr rfl)) (pgs_cons' (pg_nm 10 nd_reducing rfl (.inl rfl) (.inr rfl)) (pgs_nil')))) (by decide) (pts_nil') (pd_bin ops_add (pd_nm 10 rfl (.inl rfl)) (pd_callT cs_int rfl M.z_int bt_int (pl_cons (pd_cmp ops_notin (pd_nm 9 rfl (.inl rfl)) (pd_nm 8 rfl (.inr (.inl rfl))) rfl) (pl_nil)))))) (sw_cell rfl)))))))))))
theorem fd_reducing (M : Md P w K mg base) : Fd P w K mg base "reducing" 3 3 F_reducing := by
  obtain ⟨f, fd, F, g, b⟩ := M.d_reducing
  exact fd_mk F sc_reducing g b rfl (by decide) (p_reducing M)
/-! ### reduced -/
abbrev s_reduced : Stmt := topS 7
abbrev N_reduced : List Str := ["graph", "stack", "q"]
theorem nd_reduced : (N_reduced).Nodup := by decide +kernel
theorem sc_reduced : FnScope N_reduced ["graph", "stack", "q"] (defScope s_reduced) := ⟨rfl, rfl, rfl, by decide +kernel, rfl, by decide +kernel, by decide +kernel⟩
def f_reduced : SF := retF (callD F_fired (adF (nmF 0) (adF (nmF 1) (adF (callD F_reducing (adF (nmF 0) (adF (nmF 1) (adF (nmF 2) (anilF))))) (anilF)))))
def F_reduced : Fn := runF 3 f_reduced
theorem p_reduced (M : Md P w K mg base) : PBF ⟨P, w, K, mg, base, N_reduced, defScope s_reduced, fun _ => true, 3⟩ (defBody s_reduced) f_reduced :=
  pb_one (ps_ret' (pd_call (fd_fired M) (Nat.le_of_ble_eq_true rfl) rfl (pa_d (pd_nm 0 rfl (.inl rfl)) (pa_d (pd_nm 1 rfl (.inl rfl)) (pa_d (pd_call (fd_reducing M) (Nat.le_of_ble_eq_true rfl) rfl (pa_d (pd_nm 0 rfl (.inl rfl)) (pa_d (pd_nm 1 rfl (.inl rfl)) (pa_d (pd_nm 2 rfl (.inl rfl)) (pa_nil')))) (arn_d (arn_d (arn_d (arn_nil))))) (pa_nil')))) (arn_d (arn_d (arn_d (arn_nil))))))
theorem fd_reduced (M : Md P w K mg base) : Fd P w K mg base "reduced" 3 4 F_reduced := by
  obtain ⟨f, fd, F, g, b⟩ := M.d_reduced
  exact fd_mk F sc_reduced g b rfl (by decide) (p_reduced M)
/-! ### are_equivalent -/
abbrev s_are_equivalent : Stmt := topS 8
abbrev N_are_equivalent : List Str := ["graph", "first", "second"]
theorem nd_are_equivalent : (N_are_equivalent).Nodup := by decide +kernel
theorem sc_are_equivalent : FnScope N_are_equivalent ["graph", "first", "second"] (defScope s_are_equivalent) := ⟨rfl, rfl, rfl, by decide +kernel, rfl, by decide +kernel, by decide +kernel⟩
def f_are_equivalent : SF := retF (opF gEq (callD F_reduced (adF (nmF 0) (adF (nmF 1) (adF (kF (.int 0)) (anilF))))) (callD F_reduced (adF (nmF 0) (adF (nmF 2) (adF (kF (.int 0)) (anilF))))))
def F_are_equivalent : Fn := runF 3 f_are_equivalent
theorem p_are_equivalent (M : Md P w K mg base) : PBF ⟨P, w, K, mg, base, N_are_equivalent, defScope s_are_equivalent, fun _ => true, 4⟩ (defBody s_are_equivalent) f_are_equivalent :=
  pb_one (ps_ret' (pd_cmp ops_eq (pd_call (fd_reduced M) (Nat.le_of_ble_eq_true rfl) rfl (pa_d (pd_nm 0 rfl (.inl rfl)) (pa_d (pd_nm 1 rfl (.inl rfl)) (pa_d (pd_int) (pa_nil')))) (arn_d (arn_d (arn_d (arn_nil))))) (pd_call (fd_reduced M) (Nat.le_of_ble_eq_true rfl) rfl (pa_d (pd_nm 0 rfl (.inl rfl)) (pa_d (pd_nm 2 rfl (.inl rfl)) (pa_d (pd_int) (pa_nil')))) (arn_d (arn_d (arn_d (arn_nil))))) rfl))
theorem fd_are_equivalent (M : Md P w K mg base) : Fd P w K mg base "are_equivalent" 3 5 F_are_equivalent := by
  obtain ⟨f, fd, F, g, b⟩ := M.d_are_equivalent
  exact fd_mk F sc_are_equivalent g b rfl (by decide) (p_are_equivalent M)
/-! ### _law_same -/
abbrev s__law_same : Stmt := topS 10
abbrev N__law_same : List Str := ["actual", "due", "k"]
theorem nd__law_same : (N__law_same).Nodup := by decide +kernel
theorem sc__law_same : FnScope N__law_same ["actual", "due"] (defScope s__law_same) := ⟨rfl, rfl, rfl, by decide +kernel, rfl, by decide +kernel, by decide +kernel⟩
def b__law_same_1 (FR : Fn) : SF := ifS (notF (tsF (callD FR (adF (opF gIx (nmF 0) (nmF 2)) (adF (opF gIx (nmF 1) (nmF 2)) (anilF)))))) (retF (kF (.bool false))) (nxS)
def l__law_same_1 (FR : Fn) : SF := forS (rng1F (consF (callF gLen (consF (nmF 1) (nilF))) (nilF))) (bN 2) (b__law_same_1 FR)
def f__law_same (FR : Fn) : SF := seqS (ifS (orF (tsF (isiF "tuple" (nmF 1))) (tsF (isiF "list" (nmF 1)))) (seqS (ifS (orF (tsF (opF gNe (isiF "tuple" (nmF 1)) (isiF "tuple" (nmF 0)))) (tsF (opF gNe (isiF "list" (nmF 1)) (isiF "list" (nmF 0))))) (retF (kF (.bool false))) (nxS)) (seqS (ifS (tsF (opF gNe (callF gLen (consF (nmF 0) (nilF))) (callF gLen (consF (nmF 1) (nilF))))) (retF (kF (.bool false))) (nxS)) (seqS (l__law_same_1 FR) (retF (kF (.bool true)))))) (nxS)) (seqS (ifS (tsF (opF gIs (nmF 1) (kF .none))) (retF (opF gIs (nmF 0) (kF .none))) (nxS)) (seqS (ifS (tsF (isiF "bool" (nmF 1))) (retF (boolF (andF (tsF (isiF "bool" (nmF 0))) (tsF (opF gEq (nmF 0) (nmF 1)))))) (nxS)) (seqS (ifS (tsF (isiF "int" (nmF 1))) (retF (boolF (andF (tsF (isiF "int" (nmF 0))) (andF (notF (tsF (isiF "bool" (nmF 0)))) (tsF (opF gEq (nmF 0) (nmF 1))))))) (nxS)) (retF (boolF (andF (tsF (isiF "str" (nmF 0))) (tsF (opF gEq (nmF 0) (nmF 1)))))))))
def F__law_same : Nat → Fn
  | 0 => runF 3 noS
  | j + 1 => runF 3 (f__law_same (F__law_same j))
theorem p__law_same (M : Md P w K mg base) {FR : Fn} {j : Nat} (GR : Fd P w K mg base "_law_same" 2 (j + 1) FR) : PBF ⟨P, w, K, mg, base, N__law_same, defScope s__law_same, fun _ => true, j + 1⟩ (defBody s__law_same) (f__law_same FR) := by
  have hR : j + 1 ≤ j + 1 := Nat.le_refl _
  exact pb_cons (ps_if' (pt_w (pw_or' (pt_val' (pd_isi (T := "tuple") (pd_nm 1 rfl (.inl rfl)) rfl M.z_isinstance rfl M.z_tuple bt_tuple)) (pw_or1' (pt_val' (pd_isi (T := "list") (pd_nm 1 rfl (.inl rfl)) rfl M.z_isinstance rfl M.z_list bt_list))))) (pb_cons (ps_if' (pt_w (pw_or' (pt_cmp' ops_ne (pd_isi (T := "tuple") (pd_nm 1 rfl (.inl rfl)) rfl M.z_isinstance rfl M.z_tuple bt_tuple) (pd_isi (T := "tuple") (pd_nm 0 rfl (.inl rfl)) rfl M.z_isinstance rfl M.z_tuple bt_tuple) rfl) (pw_or1' (pt_cmp' ops_ne (pd_isi (T := "list") (pd_nm 1 rfl (.inl rfl)) rfl M.z_isinstance rfl M.z_list bt_list) (pd_isi (T := "list") (pd_nm 0 rfl (.inl rfl)) rfl M.z_isinstance rfl M.z_list bt_list) rfl)))) (pb_one (ps_ret' (pd_bl))) (pb_nil))
    (pb_cons (ps_if' (pt_cmp' ops_ne (pd_callB cs_len rfl M.z_len bt_len (pl_cons (pd_nm 0 rfl (.inl rfl)) (pl_nil))) (pd_callB cs_len rfl M.z_len bt_len (pl_cons (pd_nm 1 rfl (.inl rfl)) (pl_nil))) rfl) (pb_one (ps_ret' (pd_bl))) (pb_nil))
    (pb_cons (ps_for' (pi_rng1 rfl M.z_range (pl_cons (pd_callB cs_len rfl M.z_len bt_len (pl_cons (pd_nm 1 rfl (.inl rfl)) (pl_nil))) (pl_nil))) (pg_nm 2 nd__law_same rfl (.inl rfl) (.inl rfl)) (pb_one (ps_if' (pt_not' (pt_val' (pd_call GR hR rfl (pa_d (pd_ix ixs (pd_nm 0 rfl (.inl rfl)) (pd_nm 2 rfl (.inl rfl)) (fun _ _ => rfl)) (pa_d (pd_ix ixs (pd_nm 1 rfl (.inl rfl)) (pd_nm 2 rfl (.inl rfl)) (fun _ _ => rfl)) (pa_nil'))) (arn_d (arn_d (arn_nil)))))) (pb_one (ps_ret' (pd_bl))) (pb_nil))))
    (pb_one (ps_ret' (pd_bl)))))) (pb_nil))
    (pb_cons (ps_if' (pt_cmp' ops_is (pd_nm 1 rfl (.inl rfl)) (pd_non) rfl) (pb_one (ps_ret' (pd_cmp ops_is (pd_nm 0 rfl (.inl rfl)) (pd_non) rfl))) (pb_nil))
    (pb_cons (ps_if' (pt_val' (pd_isi (T := "bool") (pd_nm 1 rfl (.inl rfl)) rfl M.z_isinstance rfl M.z_bool bt_bool)) (pb_one (ps_ret' (pd_v (pv_and (pv_of (pd_isi (T := "bool") (pd_nm 0 rfl (.inl rfl)) rfl M.z_isinstance rfl M.z_bool bt_bool)) (pv_one (pv_of (pd_cmp ops_eq (pd_nm 0 rfl (.inl rfl)) (pd_nm 1 rfl (.inl rfl)) rfl))))))) (pb_nil))
    (pb_cons (ps_if' (pt_val' (pd_isi (T := "int") (pd_nm 1 rfl (.inl rfl)) rfl M.z_isinstance rfl M.z_int bt_int)) (pb_one (ps_ret' (pd_v (pv_and (pv_of (pd_isi (T := "int") (pd_nm 0 rfl (.inl rfl)) rfl M.z_isinstance rfl M.z_int bt_int)) (pv_and (pv_not (pv_of (pd_isi (T := "bool") (pd_nm 0 rfl (.inl rfl)) rfl M.z_isinstance rfl M.z_bool bt_bool))) (pv_one (pv_of (pd_cmp ops_eq (pd_nm 0 rfl (.inl rfl)) (pd_nm 1 rfl (.inl rfl)) rfl)))))))) (pb_nil))
    (pb_one (ps_ret' (pd_v (pv_and (pv_of (pd_isi (T := "str") (pd_nm 0 rfl (.inl rfl)) rfl M.z_isinstance rfl M.z_str bt_str)) (pv_one (pv_of (pd_cmp ops_eq (pd_nm 0 rfl (.inl rfl)) (pd_nm 1 rfl (.inl rfl)) rfl))))))))))
theorem fd__law_same (M : Md P w K mg base) : ∀ j, Fd P w K mg base "_law_same" 2 (j + 1) (F__law_same j)
  | 0 => by
    obtain ⟨f, fd, F, g, b⟩ := M.d__law_same
    exact fd_mk F sc__law_same g b rfl (by decide) pb_no
  | j + 1 => by
    obtain ⟨f, fd, F, g, b⟩ := M.d__law_same
    exact fd_mk F sc__law_same g b rfl (by decide) (p__law_same M (fd__law_same M j))
/-! ### _law_is_integer -/
abbrev s__law_is_integer : Stmt := topS 11
abbrev N__law_is_integer : List Str := ["actual"]
theorem nd__law_is_integer : (N__law_is_integer).Nodup := by decide +kernel
theorem sc__law_is_integer : FnScope N__law_is_integer ["actual"] (defScope s__law_is_integer) := ⟨rfl, rfl, rfl, by decide +kernel, rfl, by decide +kernel, by decide +kernel⟩
def f__law_is_integer : SF := retF (boolF (andF (tsF (isiF "int" (nmF 0))) (notF (tsF (isiF "bool" (nmF 0))))))
def F__law_is_integer : Fn := runF 1 f__law_is_integer
theorem p__law_is_integer (M : Md P w K mg base) : PBF ⟨P, w, K, mg, base, N__law_is_integer, defScope s__law_is_integer, fun _ => true, 0⟩ (defBody s__law_is_integer) f__law_is_integer :=
  pb_one (ps_ret' (pd_v (pv_and (pv_of (pd_isi (T := "int") (pd_nm 0 rfl (.inl rfl)) rfl M.z_isinstance rfl M.z_int bt_int)) (pv_one (pv_not (pv_of (pd_isi (T := "bool") (pd_nm 0 rfl (.inl rfl)) rfl M.z_isinstance rfl M.z_bool bt_bool)))))))
theorem fd__law_is_integer (M : Md P w K mg base) : Fd P w K mg base "_law_is_integer" 1 1 F__law_is_integer := by
  obtain ⟨f, fd, F, g, b⟩ := M.d__law_is_integer
  exact fd_mk F sc__law_is_integer g b rfl (by decide) (p__law_is_integer M)
/-! ### _law_pool -/
abbrev s__law_pool : Stmt := topS 12
abbrev N__law_pool : List Str := ["script", "salt", "cell"]
theorem nd__law_pool : (N__law_pool).Nodup := by decide +kernel
theorem sc__law_pool : FnScope N__law_pool ["script"] (defScope s__law_pool) := ⟨rfl, rfl, rfl, by decide +kernel, rfl, by decide +kernel, by decide +kernel⟩
def b__law_pool_1 : SF := setF 1 (opF gMod (callF gInt (consF (opF gAdd (opF gMulI (nmF 1) (kF (.int 31))) (nmF 2)) (nilF))) (kF (.int 1000003)))
def l__law_pool_1 : SF := forS (itF (slF (nmF 0) (ptNo) (ptAt (kF (.int 63))))) (bN 2) (b__law_pool_1)
def f__law_pool : SF := seqS (setF 1 (kF (.int 7))) (seqS (l__law_pool_1) (retOF (lstF (consF (frF (callOF gList (consF (nmF 0) (nilF)))) (consF (kF (.int 0)) (consF (kF (.int 0)) (consF (kF (.int 0)) (consF (nmF 1) (nilF)))))))))
def F__law_pool : Fn := runF 3 f__law_pool
theorem p__law_pool (M : Md P w K mg base) : PBF ⟨P, w, K, mg, base, N__law_pool, defScope s__law_pool, fun _ => true, 0⟩ (defBody s__law_pool) f__law_pool :=
  pb_cons (ps_set' 1 nd__law_pool rfl (.inl rfl) (.inl rfl) (pd_int))
    (pb_cons (ps_for' (pi_of (pd_slice (pd_nm 0 rfl (.inl rfl)) (ppt_none) (ppt_some (pd_int)))) (pg_nm 2 nd__law_pool rfl (.inl rfl) (.inl rfl)) (pb_one (ps_set' 1 nd__law_pool rfl (.inl rfl) (.inl rfl) (pd_bin ops_mod (pd_callT cs_int rfl M.z_int bt_int (pl_cons (pd_bin ops_add (pd_bin ops_mulI (pd_nm 1 rfl (.inl rfl)) (pd_int)) (pd_nm 2 rfl (.inl rfl))) (pl_nil))) (pd_int)))))
    (pb_one (ps_retO (po_lst (pl_cons (pd_fr (po_callT co_list rfl M.z_list bt_list (pl_cons (pd_nm 0 rfl (.inl rfl)) (pl_nil)))) (pl_cons (pd_int) (pl_cons (pd_int) (pl_cons (pd_int) (pl_cons (pd_nm 1 rfl (.inl rfl)) (pl_nil))))))))))
theorem fd__law_pool (M : Md P w K mg base) : Fd P w K mg base "_law_pool" 1 1 F__law_pool := by
  obtain ⟨f, fd, F, g, b⟩ := M.d__law_pool
  exact fd_mk F sc__law_pool g b rfl (by decide) (p__law_pool M)
/-! ### _law_spread -/
abbrev s__law_spread : Stmt := topS 13
abbrev N__law_spread : List Str := ["cell", "mixed", "total", "k"]
theorem nd__law_spread : (N__law_spread).Nodup := by decide +kernel
theorem sc__law_spread : FnScope N__law_spread ["cell"] (defScope s__law_spread) := ⟨rfl, rfl, rfl, by decide +kernel, rfl, by decide +kernel, by decide +kernel⟩
def b__law_spread_1 : SF := seqS (setF 1 (opF gMod (callF gInt (consF (opF gAdd (opF gAdd (opF gMulI (nmF 1) (kF (.int 48271))) (kF (.int 12345))) (nmF 3)) (nilF))) (kF (.int 2147483647)))) (setF 2 (opF gAdd (opF gMulI (nmF 2) (kF (.int 2147483647))) (nmF 1)))
def l__law_spread_1 : SF := forS (rng1F (consF (kF (.int 4)) (nilF))) (bN 3) (b__law_spread_1)
def f__law_spread : SF := seqS (setF 1 (opF gMod (callF gInt (consF (nmF 0) (nilF))) (kF (.int 2147483647)))) (seqS (setF 2 (kF (.int 1))) (seqS (l__law_spread_1) (retF (nmF 2))))
def F__law_spread : Fn := runF 4 f__law_spread
theorem p__law_spread (M : Md P w K mg base) : PBF ⟨P, w, K, mg, base, N__law_spread, defScope s__law_spread, fun _ => true, 0⟩ (defBody s__law_spread) f__law_spread :=
  pb_cons (ps_set' 1 nd__law_spread rfl (.inl rfl) (.inl rfl) (pd_bin ops_mod (pd_callT cs_int rfl M.z_int bt_int (pl_cons (pd_nm 0 rfl (.inl rfl)) (pl_nil))) (pd_int)))
    (pb_cons (ps_set' 2 nd__law_spread rfl (.inl rfl) (.inl rfl) (pd_int))
    (pb_cons (ps_for' (pi_rng1 rfl M.z_range (pl_cons (pd_int) (pl_nil))) (pg_nm 3 nd__law_spread rfl (.inl rfl) (.inl rfl)) (pb_cons (ps_set' 1 nd__law_spread rfl (.inl rfl) (.inl rfl) (pd_bin ops_mod (pd_callT cs_int rfl M.z_int bt_int (pl_cons (pd_bin ops_add (pd_bin ops_add (pd_bin ops_mulI (pd_nm 1 rfl (.inl rfl)) (pd_int)) (pd_int)) (pd_nm 3 rfl (.inl rfl))) (pl_nil))) (pd_int)))
    (pb_one (ps_set' 2 nd__law_spread rfl (.inl rfl) (.inl rfl) (pd_bin ops_add (pd_bin ops_mulI (pd_nm 2 rfl (.inl rfl)) (pd_int)) (pd_nm 1 rfl (.inl rfl)))))))
    (pb_one (ps_ret' (pd_nm 2 rfl (.inl rfl))))))
theorem fd__law_spread (M : Md P w K mg base) : Fd P w K mg base "_law_spread" 1 1 F__law_spread := by
  obtain ⟨f, fd, F, g, b⟩ := M.d__law_spread
  exact fd_mk F sc__law_spread g b rfl (by decide) (p__law_spread M)
/-! ### _law_draw -/
abbrev s__law_draw : Stmt := topS 14
abbrev N__law_draw : List Str := ["pool", "many", "cell", "mixed", "value"]
theorem nd__law_draw : (N__law_draw).Nodup := by decide +kernel
theorem sc__law_draw : FnScope N__law_draw ["pool", "many"] (defScope s__law_draw) := ⟨rfl, rfl, rfl, by decide +kernel, rfl, by decide +kernel, by decide +kernel⟩
def f__law_draw : SF := seqS (ifS (andF (tsF (opF gLe (ixVF 0 (kF (.int 2))) (kF (.int 0)))) (tsF (opF gLt (ixVF 0 (kF (.int 1))) (callF gLen (consF (ixVF 0 (kF (.int 0))) (nilF)))))) (seqS (setF 2 (opF gIx (ixVF 0 (kF (.int 0))) (ixVF 0 (kF (.int 1))))) (seqS (setIxF 0 (kF (.int 1)) (opF gAdd (ixVF 0 (kF (.int 1))) (kF (.int 1)))) (seqS (setIxF 0 (kF (.int 2)) (nmF 2)) (ifS (tsF (opF gLt (nmF 2) (kF (.int 1000000000000000000)))) (setIxF 0 (kF (.int 2)) (callD F__law_spread (adF (nmF 2) (anilF)))) (nxS))))) (nxS)) (seqS (setIxF 0 (kF (.int 3)) (opF gAdd (ixVF 0 (kF (.int 3))) (kF (.int 1)))) (seqS (ifS (tsF (opF gLe (ixVF 0 (kF (.int 2))) (kF (.int 0)))) (seqS (setF 3 (opF gMod (callF gInt (consF (opF gAdd (opF gAdd (opF gMulI (ixVF 0 (kF (.int 4))) (kF (.int 48271))) (opF gMulI (ixVF 0 (kF (.int 3))) (kF (.int 69621)))) (kF (.int 1))) (nilF))) (kF (.int 2147483647)))) (seqS (setF 3 (opF gMod (callF gInt (consF (opF gAdd (opF gMulI (nmF 3) (kF (.int 16807))) (ixVF 0 (kF (.int 3)))) (nilF))) (kF (.int 2147483629)))) (retF (opF gMod (opF gDiv (nmF 3) (kF (.int 5))) (nmF 1))))) (nxS)) (seqS (setF 4 (opF gMod (callF gInt (consF (ixVF 0 (kF (.int 2))) (nilF))) (nmF 1))) (seqS (setIxF 0 (kF (.int 2)) (opF gDiv (ixVF 0 (kF (.int 2))) (nmF 1))) (retF (nmF 4))))))
def F__law_draw : Fn := runF 5 f__law_draw
theorem p__law_draw (M : Md P w K mg base) : PBF ⟨P, w, K, mg, base, N__law_draw, defScope s__law_draw, fun _ => true, 1⟩ (defBody s__law_draw) f__law_draw :=
  pb_cons (ps_if' (pt_w (pw_and' (pt_cmp' ops_le (pd_ixV 0 rfl (.inl rfl) (pd_int) (fun _ _ => rfl)) (pd_int) rfl) (pw_and1' (pt_cmp' ops_lt (pd_ixV 0 rfl (.inl rfl) (pd_int) (fun _ _ => rfl)) (pd_callB cs_len rfl M.z_len bt_len (pl_cons (pd_ixV 0 rfl (.inl rfl) (pd_int) (fun _ _ => rfl)) (pl_nil))) rfl)))) (pb_cons (ps_set' 2 nd__law_draw rfl (.inl rfl) (.inl rfl) (pd_ix ixs (pd_ixV 0 rfl (.inl rfl) (pd_int) (fun _ _ => rfl)) (pd_ixV 0 rfl (.inl rfl) (pd_int) (fun _ _ => rfl)) (fun _ _ => rfl)))
    (pb_cons (ps_setIx 0 rfl (.inl rfl) (pd_int) (pd_bin ops_add (pd_ixV 0 rfl (.inl rfl) (pd_int) (fun _ _ => rfl)) (pd_int)))
    (pb_cons (ps_setIx 0 rfl (.inl rfl) (pd_int) (pd_nm 2 rfl (.inl rfl)))
    (pb_one (ps_if' (pt_cmp' ops_lt (pd_nm 2 rfl (.inl rfl)) (pd_int) rfl) (pb_one (ps_setIx 0 rfl (.inl rfl) (pd_int) (pd_call (fd__law_spread M) (Nat.le_of_ble_eq_true rfl) rfl (pa_d (pd_nm 2 rfl (.inl rfl)) (pa_nil')) (arn_d (arn_nil))))) (pb_nil)))))) (pb_nil))
    (pb_cons (ps_setIx 0 rfl (.inl rfl) (pd_int) (pd_bin ops_add (pd_ixV 0 rfl (.inl rfl) (pd_int) (fun _ _ => rfl)) (pd_int)))
    (pb_cons (ps_if' (pt_cmp' ops_le (pd_ixV 0 rfl (.inl rfl) (pd_int) (fun _ _ => rfl)) (pd_int) rfl) (pb_cons (ps_set' 3 nd__law_draw rfl (.inl rfl) (.inl rfl) (pd_bin ops_mod (pd_callT cs_int rfl M.z_int bt_int (pl_cons (pd_bin ops_add (pd_bin ops_add (pd_bin ops_mulI (pd_ixV 0 rfl (.inl rfl) (pd_int) (fun _ _ => rfl)) (pd_int)) (pd_bin ops_mulI (pd_ixV 0 rfl (.inl rfl) (pd_int) (fun _ _ => rfl)) (pd_int))) (pd_int)) (pl_nil))) (pd_int)))
    (pb_cons (ps_set' 3 nd__law_draw rfl (.inl rfl) (.inl rfl) (pd_bin ops_mod (pd_callT cs_int rfl M.z_int bt_int (pl_cons (pd_bin ops_add (pd_bin ops_mulI (pd_nm 3 rfl (.inl rfl)) (pd_int)) (pd_ixV 0 rfl (.inl rfl) (pd_int) (fun _ _ => rfl))) (pl_nil))) (pd_int)))
    (pb_one (ps_ret' (pd_bin ops_mod (pd_bin ops_div (pd_nm 3 rfl (.inl rfl)) (pd_int)) (pd_nm 1 rfl (.inl rfl))))))) (pb_nil))
    (pb_cons (ps_set' 4 nd__law_draw rfl (.inl rfl) (.inl rfl) (pd_bin ops_mod (pd_callT cs_int rfl M.z_int bt_int (pl_cons (pd_ixV 0 rfl (.inl rfl) (pd_int) (fun _ _ => rfl)) (pl_nil))) (pd_nm 1 rfl (.inl rfl))))
    (pb_cons (ps_setIx 0 rfl (.inl rfl) (pd_int) (pd_bin ops_div (pd_ixV 0 rfl (.inl rfl) (pd_int) (fun _ _ => rfl)) (pd_nm 1 rfl (.inl rfl))))
    (pb_one (ps_ret' (pd_nm 4 rfl (.inl rfl))))))))
theorem fd__law_draw (M : Md P w K mg base) : Fd P w K mg base "_law_draw" 2 2 F__law_draw := by
  obtain ⟨f, fd, F, g, b⟩ := M.d__law_draw
  exact fd_mk F sc__law_draw g b rfl (by decide) (p__law_draw M)
/-! ### _law_graph -/
abbrev s__law_graph : Stmt := topS 15
abbrev N__law_graph : List Str := ["pool", "most", "n", "edges", "v", "k", "i", "j"]
theorem nd__law_graph : (N__law_graph).Nodup := by decide +kernel
theorem sc__law_graph : FnScope N__law_graph ["pool", "most"] (defScope s__law_graph) := ⟨rfl, rfl, rfl, by decide +kernel, rfl, by decide +kernel, by decide +kernel⟩
def b__law_graph_1 : SF := ifS (tsF (opF gGt (nmF 2) (kF (.int 1)))) (seqS (setF 6 (callD F__law_draw (aborF 0 (adF (nmF 2) (anilF))))) (seqS (setF 7 (opF gMod (opF gAdd (opF gAdd (nmF 6) (kF (.int 1))) (callD F__law_draw (aborF 0 (adF (opF gSub (nmF 2) (kF (.int 1))) (anilF))))) (nmF 2))) (dropS (appF 3 (tupF (consF (callF gMin (consF (nmF 6) (consF (nmF 7) (nilF)))) (consF (callF gMax (consF (nmF 6) (consF (nmF 7) (nilF)))) (nilF)))))))) (nxS)
def l__law_graph_1 : SF := forS (rng1F (consF (callD F__law_draw (aborF 0 (adF (kF (.int 4)) (anilF)))) (nilF))) (bN 5) (b__law_graph_1)
def b__law_graph_2 : SF := dropS (appF 3 (tupF (consF (callD F__law_draw (aborF 0 (adF (nmF 4) (anilF)))) (consF (nmF 4) (nilF)))))
def l__law_graph_2 : SF := forS (rng2F (consF (kF (.int 1)) (consF (nmF 2) (nilF)))) (bN 4) (b__law_graph_2)
def f__law_graph : SF := seqS (setF 2 (opF gAdd (kF (.int 1)) (callD F__law_draw (aborF 0 (adF (nmF 1) (anilF)))))) (seqS (setOF 3 (lstF (nilF))) (seqS (l__law_graph_2) (seqS (l__law_graph_1) (retF (tupF (consF (nmF 2) (consF (callF gTup (consF (frF (callOF gSort (consF (nmF 3) (nilF)))) (nilF))) (nilF))))))))
def F__law_graph : Fn := runF 8 f__law_graph
theorem p__law_graph (M : Md P w K mg base) : PBF ⟨P, w, K, mg, base, N__law_graph, defScope s__law_graph, fun _ => true, 2⟩ (defBody s__law_graph) f__law_graph :=
  pb_cons (ps_set' 2 nd__law_graph rfl (.inl rfl) (.inl rfl) (pd_bin ops_add (pd_int) (pd_call (fd__law_draw M) (Nat.le_of_ble_eq_true rfl) rfl (pa_bor 0 rfl (.inl rfl) (pa_d (pd_nm 1 rfl (.inl rfl)) (pa_nil'))) (arn_bor (arn_d (arn_nil))))))
    (pb_cons (ps_setO 3 nd__law_graph rfl (.inl rfl) (.inl rfl) (po_lst (pl_nil)))
    (pb_cons (ps_for' (pi_rng2 rfl M.z_range (pl_cons (pd_int) (pl_cons (pd_nm 2 rfl (.inl rfl)) (pl_nil)))) (pg_nm 4 nd__law_graph rfl (.inl rfl) (.inl rfl)) (pb_one (ps_drop (pd_app 3 rfl (.inl rfl) (pd_tup (pl_cons (pd_call (fd__law_draw M) (Nat.le_of_ble_eq_true rfl) rfl (pa_bor 0 rfl (.inl rfl) (pa_d (pd_nm 4 rfl (.inl rfl)) (pa_nil'))) (arn_bor (arn_d (arn_nil)))) (pl_cons (pd_nm 4 rfl (.inl rfl)) (pl_nil))))))))
    (pb_cons (ps_for' (pi_rng1 rfl M.z_range (pl_cons (pd_call (fd__law_draw M) (Nat.le_of_ble_eq_true rfl) rfl (pa_bor 0 rfl (.inl rfl) (pa_d (pd_int) (pa_nil'))) (arn_bor (arn_d (arn_nil)))) (pl_nil))) (pg_nm 5 nd__law_graph rfl (.inl rfl) (.inl rfl)) (pb_one (ps_if' (pt_cmp' ops_gt (pd_nm 2 rfl (.inl rfl)) (pd_int) rfl) (pb_cons (ps_set' 6 nd__law_graph rfl (.inl rfl) (.inl rfl) (pd_call (fd__law_draw M) (Nat.le_of_ble_eq_true rfl) rfl (pa_bor 0 rfl (.inl rfl) (pa_d (pd_nm 2 rfl (.inl rfl)) (pa_nil'))) (arn_bor (arn_d (arn_nil)))))
    (pb_cons (ps_set' 7 nd__law_graph rfl (.inl rfl) (.inl rfl) (pd_bin ops_mod (pd_bin ops_add (pd_bin ops_add (pd_nm 6 rfl (.inl rfl)) (pd_int)) (pd_call (fd__law_draw M) (Nat.le_of_ble_eq_true rfl) rfl (pa_bor 0 rfl (.inl rfl) (pa_d (pd_bin ops_sub (pd_nm 2 rfl (.inl rfl)) (pd_int)) (pa_nil'))) (arn_bor (arn_d (arn_nil))))) (pd_nm 2 rfl (.inl rfl))))
    (pb_one (ps_drop (pd_app 3 rfl (.inl rfl) (pd_tup (pl_cons (pd_callB cs_min rfl M.z_min bt_min (pl_cons (pd_nm 6 rfl (.inl rfl)) (pl_cons (pd_nm 7 rfl (.inl rfl)) (pl_nil)))) (pl_cons (pd_callB cs_max rfl M.z_max bt_max (pl_cons (pd_nm 6 rfl (.inl rfl)) (pl_cons (pd_nm 7 rfl (.inl rfl)) (pl_nil)))) (pl_nil))))))))) (pb_nil))))
    (pb_one (ps_ret' (pd_tup (pl_cons (pd_nm 2 rfl (.inl rfl)) (pl_cons (pd_callT cs_tuple rfl M.z_tuple bt_tuple (pl_cons (pd_fr (po_callB co_sorted rfl M.z_sorted bt_sorted (pl_cons (pd_nm 3 rfl (.inl rfl)) (pl_nil)))) (pl_nil))) (pl_nil)))))))))
theorem fd__law_graph (M : Md P w K mg base) : Fd P w K mg base "_law_graph" 2 3 F__law_graph := by
  obtain ⟨f, fd, F, g, b⟩ := M.d__law_graph
  exact fd_mk F sc__law_graph g b rfl (by decide) (p__law_graph M)
/-! ### _law_fired -/
abbrev s__law_fired : Stmt := topS 16
abbrev N__law_fired : List Str := ["graph", "stack", "firing", "found", "edge", "flow"]
theorem nd__law_fired : (N__law_fired).Nodup := by decide +kernel
theorem sc__law_fired : FnScope N__law_fired ["graph", "stack", "firing"] (defScope s__law_fired) := ⟨rfl, rfl, rfl, by decide +kernel, rfl, by decide +kernel, by decide +kernel⟩
def b__law_fired_1 : SF := seqS (setF 5 (opF gSub (opF gIx (nmF 2) (opF gIx (nmF 4) (kF (.int 0)))) (opF gIx (nmF 2) (opF gIx (nmF 4) (kF (.int 1)))))) (seqS (setIxF 3 (opF gIx (nmF 4) (kF (.int 0))) (opF gSub (ixVF 3 (opF gIx (nmF 4) (kF (.int 0)))) (nmF 5))) (setIxF 3 (opF gIx (nmF 4) (kF (.int 1))) (opF gAdd (ixVF 3 (opF gIx (nmF 4) (kF (.int 1)))) (nmF 5))))
def l__law_fired_1 : SF := forS (itF (opF gIx (nmF 0) (kF (.int 1)))) (bN 4) (b__law_fired_1)
def f__law_fired : SF := seqS (setOF 3 (callOF gList (consF (nmF 1) (nilF)))) (seqS (l__law_fired_1) (retF (callF gTup (consF (nmF 3) (nilF)))))
def F__law_fired : Fn := runF 6 f__law_fired
theorem p__law_fired (M : Md P w K mg base) : PBF ⟨P, w, K, mg, base, N__law_fired, defScope s__law_fired, fun _ => true, 0⟩ (defBody s__law_fired) f__law_fired :=
  pb_cons (ps_setO 3 nd__law_fired rfl (.inl rfl) (.inl rfl) (po_callT co_list rfl M.z_list bt_list (pl_cons (pd_nm 1 rfl (.inl rfl)) (pl_nil))))
    (pb_cons (ps_for' (pi_of (pd_ix ixs (pd_nm 0 rfl (.inl rfl)) (pd_int) (fun _ _ => rfl))) (pg_nm 4 nd__law_fired rfl (.inl rfl) (.inl rfl)) (pb_cons (ps_set' 5 nd__law_fired rfl (.inl rfl) (.inl rfl) (pd_bin ops_sub (pd_ix ixs (pd_nm 2 rfl (.inl rfl)) (pd_ix ixs (pd_nm 4 rfl (.inl rfl)) (pd_int) (fun _ _ => rfl)) (fun _ _ => rfl)) (pd_ix ixs (pd_nm 2 rfl (.inl rfl)) (pd_ix ixs (pd_nm 4 rfl (.inl rfl)) (pd_int) (fun _ _ => rfl)) (fun _ _ => rfl))))
    (pb_cons (ps_setIx 3 rfl (.inl rfl) (pd_ix ixs (pd_nm 4 rfl (.inl rfl)) (pd_int) (fun _ _ => rfl)) (pd_bin ops_sub (pd_ixV 3 rfl (.inl rfl) (pd_ix ixs (pd_nm 4 rfl (.inl rfl)) (pd_int) (fun _ _ => rfl)) (fun _ _ => rfl)) (pd_nm 5 rfl (.inl rfl))))
    (pb_one (ps_setIx 3 rfl (.inl rfl) (pd_ix ixs (pd_nm 4 rfl (.inl rfl)) (pd_int) (fun _ _ => rfl)) (pd_bin ops_add (pd_ixV 3 rfl (.inl rfl) (pd_ix ixs (pd_nm 4 rfl (.inl rfl)) (pd_int) (fun _ _ => rfl)) (fun _ _ => rfl)) (pd_nm 5 rfl (.inl rfl))))))))
    (pb_one (ps_ret' (pd_callT cs_tuple rfl M.z_tuple bt_tuple (pl_cons (pd_nm 3 rfl (.inl rfl)) (pl_nil))))))
theorem fd__law_fired (M : Md P w K mg base) : Fd P w K mg base "_law_fired" 3 1 F__law_fired := by
  obtain ⟨f, fd, F, g, b⟩ := M.d__law_fired
  exact fd_mk F sc__law_fired g b rfl (by decide) (p__law_fired M)
/-! ### _law_out -/
abbrev s__law_out : Stmt := topS 17
abbrev N__law_out : List Str := ["graph", "v", "members", "edge"]
theorem nd__law_out : (N__law_out).Nodup := by decide +kernel
theorem sc__law_out : FnScope N__law_out ["graph", "v", "members"] (defScope s__law_out) := ⟨rfl, rfl, rfl, by decide +kernel, rfl, by decide +kernel, by decide +kernel⟩
def c__law_out_1 : OF := lcF (itF (opF gIx (nmF 0) (kF (.int 1)))) (bN 3) (andF (tsF (opF gIn (nmF 1) (nmF 3))) (tsF (opF gNotIn (opF gSub (opF gAdd (opF gIx (nmF 3) (kF (.int 0))) (opF gIx (nmF 3) (kF (.int 1)))) (nmF 1)) (nmF 2)))) (nmF 3) [3]
def f__law_out : SF := retF (callF gLen (consF (frF (c__law_out_1)) (nilF)))
def F__law_out : Fn := runF 4 f__law_out
theorem p__law_out (M : Md P w K mg base) : PBF ⟨P, w, K, mg, base, N__law_out, defScope s__law_out, fun _ => true, 0⟩ (defBody s__law_out) f__law_out :=
  pb_one (ps_ret' (pd_callB cs_len rfl M.z_len bt_len (pl_cons (pd_fr (po_lc (own := [("edge", 3)]) nd__law_out (pi_of (pd_ix ixs (pd_nm 0 rfl (.inl rfl)) (pd_int) (fun _ _ => rfl))) ⟨rfl, by decide +kernel, by dsimp only [Ct.blk]; decide +kernel, by dsimp only [Ct.blk]; decide +kernel, by dsimp only [Ct.blk]; decide +kernel⟩ (pg_nm 3 nd__law_out rfl (.inl rfl) (.inr rfl)) (by decide) (pts_one' (pt_w (pw_and' (pt_cmp' ops_in (pd_nm 1 rfl (.inr (.inl rfl))) (pd_nm 3 rfl (.inl rfl)) rfl) (pw_and1' (pt_cmp' ops_notin (pd_bin ops_sub (pd_bin ops_add (pd_ix ixs (pd_nm 3 rfl (.inl rfl)) (pd_int) (fun _ _ => rfl)) (pd_ix ixs (pd_nm 3 rfl (.inl rfl)) (pd_int) (fun _ _ => rfl))) (pd_nm 1 rfl (.inr (.inl rfl)))) (pd_nm 2 rfl (.inr (.inl rfl))) rfl))))) (pd_nm 3 rfl (.inl rfl)))) (pl_nil))))
theorem fd__law_out (M : Md P w K mg base) : Fd P w K mg base "_law_out" 3 1 F__law_out := by
  obtain ⟨f, fd, F, g, b⟩ := M.d__law_out
  exact fd_mk F sc__law_out g b rfl (by decide) (p__law_out M)
/-! ### _law_reduced_for -/
abbrev s__law_reduced_for : Stmt := topS 18
abbrev N__law_reduced_for : List Str := ["graph", "stack", "q", "n", "index", "members", "v"]
theorem nd__law_reduced_for : (N__law_reduced_for).Nodup := by decide +kernel
theorem sc__law_reduced_for : FnScope N__law_reduced_for ["graph", "stack", "q"] (defScope s__law_reduced_for) := ⟨rfl, rfl, rfl, by decide +kernel, rfl, by decide +kernel, by decide +kernel⟩
def c__law_reduced_for_1 : OF := lcF (itF (nmF 5)) (bN 6) (tsF (opF gLt (opF gIx (nmF 1) (nmF 6)) (callD F__law_out (adF (nmF 0) (adF (nmF 6) (adF (nmF 5) (anilF))))))) (nmF 6) [6]
def c__law_reduced_for_2 : OF := lcF (rng1F (consF (nmF 3) (nilF))) (bN 6) (tsF (opF gEq (opF gAnd (opF gShr (nmF 4) (nmF 6)) (kF (.int 1))) (kF (.int 1)))) (nmF 6) [6]
def b__law_reduced_for_1 : SF := seqS (setF 5 (frF (c__law_reduced_for_2))) (ifS (andF (tsF (opF gNotIn (nmF 2) (nmF 5))) (tsF (opF gEq (callF gLen (consF (frF (c__law_reduced_for_1)) (nilF))) (kF (.int 0))))) (retF (kF (.bool false))) (nxS))
def l__law_reduced_for_1 : SF := forS (rng2F (consF (kF (.int 1)) (consF (opF gShl (kF (.int 1)) (nmF 3)) (nilF)))) (bN 4) (b__law_reduced_for_1)
def c__law_reduced_for_3 : OF := lcF (rng1F (consF (nmF 3) (nilF))) (bN 6) (andF (tsF (opF gNe (nmF 6) (nmF 2))) (tsF (opF gLt (opF gIx (nmF 1) (nmF 6)) (kF (.int 0))))) (nmF 6) [6]
def f__law_reduced_for : SF := seqS (setF 3 (opF gIx (nmF 0) (kF (.int 0)))) (seqS (ifS (tsF (opF gGt (callF gLen (consF (frF (c__law_reduced_for_3)) (nilF))) (kF (.int 0)))) (retF (kF (.bool false))) (nxS)) (seqS (l__law_reduced_for_1) (retF (kF (.bool true)))))
def F__law_reduced_for : Fn := runF 7 f__law_reduced_for
theorem p__law_reduced_for (M : Md P w K mg base) : PBF ⟨P, w, K, mg, base, N__law_reduced_for, defScope s__law_reduced_for, fun _ => true, 1⟩ (defBody s__law_reduced_for) f__law_reduced_for :=
  pb_cons (ps_set' 3 nd__law_reduced_for rfl (.inl rfl) (.inl rfl) (pd_ix ixs (pd_nm 0 rfl (.inr (.inl rfl))) (pd_int) (fun _ _ => rfl)))
    (pb_cons (ps_if' (pt_cmp' ops_gt (pd_callB cs_len rfl M.z_len bt_len (pl_cons (pd_fr (po_lc (own := [("v", 6)]) nd__law_reduced_for (pi_rng1 rfl M.z_range (pl_cons (pd_nm 3 rfl (.inl rfl)) (pl_nil))) ⟨rfl, by decide +kernel, by dsimp only [Ct.blk]; decide +kernel, by dsimp only [Ct.blk]; decide +kernel, by dsimp only [Ct.blk]; decide +kernel⟩ (pg_nm 6 nd__law_reduced_for rfl (.inl rfl) (.inr rfl)) (by decide) (pts_one' (pt_w (pw_and' (pt_cmp' ops_ne (pd_nm 6 rfl (.inl rfl)) (pd_nm 2 rfl (.inr (.inl rfl))) rfl) (pw_and1' (pt_cmp' ops_lt (pd_ix ixs (pd_nm 1 rfl (.inr (.inl rfl))) (pd_nm 6 rfl (.inl rfl)) (fun _ _ => rfl)) (pd_int) rfl))))) (pd_nm 6 rfl (.inl rfl)))) (pl_nil))) (pd_int) rfl) (pb_one (ps_ret' (pd_bl))) (pb_nil))
    (pb_cons (ps_for' (pi_rng2 rfl M.z_range (pl_cons (pd_int) (pl_cons (pd_bin ops_shl (pd_int) (pd_nm 3 rfl (.inl rfl))) (pl_nil)))) (pg_nm 4 nd__law_reduced_for rfl (.inr rfl) (.inl rfl)) (pb_cons (ps_set' 5 nd__law_reduced_for rfl (.inr rfl) (.inl rfl) (pd_fr (po_lc (own := [("v", 6)]) nd__law_reduced_for (pi_rng1 rfl M.z_range (pl_cons (pd_nm 3 rfl (.inl rfl)) (pl_nil))) ⟨rfl, by decide +kernel, by dsimp only [Ct.blk]; decide +kernel, by dsimp only [Ct.blk]; decide +kernel, by dsimp only [Ct.blk]; decide +kernel⟩ (pg_nm 6 nd__law_reduced_for rfl (.inl rfl) (.inr rfl)) (by decide) (pts_one' (pt_cmp' ops_eq (pd_bin ops_and (pd_bin ops_shr (pd_nm 4 rfl (.inr (.inl rfl))) (pd_nm 6 rfl (.inl rfl))) (pd_int)) (pd_int) rfl)) (pd_nm 6 rfl (.inl rfl)))) (sw_cell rfl))
    (pb_one (ps_if' (pt_w (pw_and' (pt_cmp' ops_notin (pd_nm 2 rfl (.inr (.inl rfl))) (pd_nm 5 rfl (.inr (.inl rfl))) rfl) (pw_and1' (pt_cmp' ops_eq (pd_callB cs_len rfl M.z_len bt_len (pl_cons (pd_fr (po_lc (own := [("v", 6)]) nd__law_reduced_for (pi_of (pd_nm 5 rfl (.inr (.inl rfl)))) ⟨rfl, by decide +kernel, by dsimp only [Ct.blk]; decide +kernel, by dsimp only [Ct.blk]; decide +kernel, by dsimp only [Ct.blk]; decide +kernel⟩ (pg_nm 6 nd__law_reduced_for rfl (.inl rfl) (.inr rfl)) (by decide) (pts_one' (pt_cmp' ops_lt (pd_ix ixs (pd_nm 1 rfl (.inr (.inl rfl))) (pd_nm 6 rfl (.inl rfl)) (fun _ _ => rfl)) (pd_call (fd__law_out M) (Nat.le_of_ble_eq_true rfl) rfl (pa_d (pd_nm 0 rfl (.inr (.inl rfl))) (pa_d (pd_nm 6 rfl (.inl rfl)) (pa_d (pd_nm 5 rfl (.inr (.inl rfl))) (pa_nil')))) (arn_d (arn_d (arn_d (arn_nil))))) rfl)) (pd_nm 6 rfl (.inl rfl)))) (pl_nil))) (pd_int) rfl)))) (pb_one (ps_ret' (pd_bl))) (pb_nil)))))
    (pb_one (ps_ret' (pd_bl)))))
theorem fd__law_reduced_for (M : Md P w K mg base) : Fd P w K mg base "_law_reduced_for" 3 2 F__law_reduced_for := by
  obtain ⟨f, fd, F, g, b⟩ := M.d__law_reduced_for
  exact fd_mk F sc__law_reduced_for g b rfl (by decide) (p__law_reduced_for M)
/-! ### _law_burns -/
abbrev s__law_burns : Stmt := topS 19
abbrev N__law_burns : List Str := ["graph", "stack", "q", "order", "n", "k", "before", "many", "edge", "v"]
theorem nd__law_burns : (N__law_burns).Nodup := by decide +kernel
theorem sc__law_burns : FnScope N__law_burns ["graph", "stack", "q", "order"] (defScope s__law_burns) := ⟨rfl, rfl, rfl, by decide +kernel, rfl, by decide +kernel, by decide +kernel⟩
def c__law_burns_1 : OF := lcF (itF (opF gIx (nmF 0) (kF (.int 1)))) (bN 8) (andF (tsF (opF gIn (opF gIx (nmF 3) (nmF 5)) (nmF 8))) (tsF (opF gIn (opF gSub (opF gAdd (opF gIx (nmF 8) (kF (.int 0))) (opF gIx (nmF 8) (kF (.int 1)))) (opF gIx (nmF 3) (nmF 5))) (nmF 6)))) (nmF 8) [8]
def b__law_burns_1 : SF := seqS (setF 6 (slF (nmF 3) (ptNo) (ptAt (nmF 5)))) (seqS (setF 7 (callF gLen (consF (frF (c__law_burns_1)) (nilF)))) (ifS (tsF (opF gGe (opF gIx (nmF 1) (opF gIx (nmF 3) (nmF 5))) (nmF 7))) (retF (kF (.bool false))) (nxS)))
def l__law_burns_1 : SF := forS (rng2F (consF (kF (.int 1)) (consF (nmF 4) (nilF)))) (bN 5) (b__law_burns_1)
def c__law_burns_2 : OF := lcF (itF (nmF 3)) (bN 9) (notF (tsF (callD F__law_is_integer (adF (nmF 9) (anilF))))) (nmF 9) [9]
def f__law_burns : SF := seqS (setF 4 (opF gIx (nmF 0) (kF (.int 0)))) (seqS (ifS (orF (notF (tsF (isiF "tuple" (nmF 3)))) (orF (tsF (opF gGt (callF gLen (consF (frF (c__law_burns_2)) (nilF))) (kF (.int 0)))) (tsF (opF gNe (frF (callOF gSort (consF (nmF 3) (nilF)))) (frF (lrg1F (nmF 4))))))) (retF (kF (.bool false))) (nxS)) (seqS (ifS (tsF (opF gNe (opF gIx (nmF 3) (kF (.int 0))) (nmF 2))) (retF (kF (.bool false))) (nxS)) (seqS (l__law_burns_1) (retF (kF (.bool true))))))
def F__law_burns : Fn := runF 10 f__law_burns
theorem p__law_burns (M : Md P w K mg base) : PBF ⟨P, w, K, mg, base, N__law_burns, defScope s__law_burns, fun _ => true, 1⟩ (defBody s__law_burns) f__law_burns :=
  pb_cons (ps_set' 4 nd__law_burns rfl (.inl rfl) (.inl rfl) (pd_ix ixs (pd_nm 0 rfl (.inl rfl)) (pd_int) (fun _ _ => rfl)))
    (pb_cons (ps_if' (pt_w (pw_or' (pt_not' (pt_val' (pd_isi (T := "tuple") (pd_nm 3 rfl (.inr (.inl rfl))) rfl M.z_isinstance rfl M.z_tuple bt_tuple))) (pw_or' (pt_cmp' ops_gt (pd_callB cs_len rfl M.z_len bt_len (pl_cons (pd_fr (po_lc (own := [("v", 9)]) nd__law_burns (pi_of (pd_nm 3 rfl (.inr (.inl rfl)))) ⟨rfl, by decide +kernel, by dsimp only [Ct.blk]; decide +kernel, by dsimp only [Ct.blk]; decide +kernel, by dsimp only [Ct.blk]; decide +kernel⟩ (pg_nm 9 nd__law_burns rfl (.inl rfl) (.inr rfl)) (by decide) (pts_one' (pt_not' (pt_val' (pd_call (fd__law_is_integer M) (Nat.le_of_ble_eq_true rfl) rfl (pa_d (pd_nm 9 rfl (.inl rfl)) (pa_nil')) (arn_d (arn_nil)))))) (pd_nm 9 rfl (.inl rfl)))) (pl_nil))) (pd_int) rfl) (pw_or1' (pt_cmp' ops_ne (pd_fr (po_callB co_sorted rfl M.z_sorted bt_sorted (pl_cons (pd_nm 3 rfl (.inr (.inl rfl))) (pl_nil)))) (pd_fr (po_lrg1 rfl M.z_list rfl M.z_range (pd_nm 4 rfl (.inl rfl)))) rfl))))) (pb_one (ps_ret' (pd_bl))) (pb_nil))
    (pb_cons (ps_if' (pt_cmp' ops_ne (pd_ix ixs (pd_nm 3 rfl (.inr (.inl rfl))) (pd_int) (fun _ _ => rfl)) (pd_nm 2 rfl (.inl rfl)) rfl) (pb_one (ps_ret' (pd_bl))) (pb_nil))
    (pb_cons (ps_for' (pi_rng2 rfl M.z_range (pl_cons (pd_int) (pl_cons (pd_nm 4 rfl (.inl rfl)) (pl_nil)))) (pg_nm 5 nd__law_burns rfl (.inr rfl) (.inl rfl)) (pb_cons (ps_set' 6 nd__law_burns rfl (.inr rfl) (.inl rfl) (pd_slice (pd_nm 3 rfl (.inr (.inl rfl))) (ppt_none) (ppt_some (pd_nm 5 rfl (.inr (.inl rfl))))))
    (pb_cons (ps_set' 7 nd__law_burns rfl (.inl rfl) (.inl rfl) (pd_callB cs_len rfl M.z_len bt_len (pl_cons (pd_fr (po_lc (own := [("edge", 8)]) nd__law_burns (pi_of (pd_ix ixs (pd_nm 0 rfl (.inl rfl)) (pd_int) (fun _ _ => rfl))) ⟨rfl, by decide +kernel, by dsimp only [Ct.blk]; decide +kernel, by dsimp only [Ct.blk]; decide +kernel, by dsimp only [Ct.blk]; decide +kernel⟩ (pg_nm 8 nd__law_burns rfl (.inl rfl) (.inr rfl)) (by decide) (pts_one' (pt_w (pw_and' (pt_cmp' ops_in (pd_ix ixs (pd_nm 3 rfl (.inr (.inl rfl))) (pd_nm 5 rfl (.inr (.inl rfl))) (fun _ _ => rfl)) (pd_nm 8 rfl (.inl rfl)) rfl) (pw_and1' (pt_cmp' ops_in (pd_bin ops_sub (pd_bin ops_add (pd_ix ixs (pd_nm 8 rfl (.inl rfl)) (pd_int) (fun _ _ => rfl)) (pd_ix ixs (pd_nm 8 rfl (.inl rfl)) (pd_int) (fun _ _ => rfl))) (pd_ix ixs (pd_nm 3 rfl (.inr (.inl rfl))) (pd_nm 5 rfl (.inr (.inl rfl))) (fun _ _ => rfl))) (pd_nm 6 rfl (.inr (.inl rfl))) rfl))))) (pd_nm 8 rfl (.inl rfl)))) (pl_nil))))
    (pb_one (ps_if' (pt_cmp' ops_ge (pd_ix ixs (pd_nm 1 rfl (.inl rfl)) (pd_ix ixs (pd_nm 3 rfl (.inr (.inl rfl))) (pd_nm 5 rfl (.inr (.inl rfl))) (fun _ _ => rfl)) (fun _ _ => rfl)) (pd_nm 7 rfl (.inl rfl)) rfl) (pb_one (ps_ret' (pd_bl))) (pb_nil))))))
    (pb_one (ps_ret' (pd_bl))))))
theorem fd__law_burns (M : Md P w K mg base) : Fd P w K mg base "_law_burns" 4 2 F__law_burns := by
  obtain ⟨f, fd, F, g, b⟩ := M.d__law_burns
  exact fd_mk F sc__law_burns g b rfl (by decide) (p__law_burns M)
/-! ### _law_stack -/
abbrev s__law_stack : Stmt := topS 20
abbrev N__law_stack : List Str := ["pool", "graph", "low", "high", "v"]
theorem nd__law_stack : (N__law_stack).Nodup := by decide +kernel
theorem sc__law_stack : FnScope N__law_stack ["pool", "graph", "low", "high"] (defScope s__law_stack) := ⟨rfl, rfl, rfl, by decide +kernel, rfl, by decide +kernel, by decide +kernel⟩
def c__law_stack_1 : OF := lcF (rng1F (consF (opF gIx (nmF 1) (kF (.int 0))) (nilF))) (bN 4) (yesF) (opF gAdd (nmF 2) (callD F__law_draw (aborF 0 (adF (opF gAdd (opF gSub (nmF 3) (nmF 2)) (kF (.int 1))) (anilF))))) [4]
def f__law_stack : SF := retF (callF gTup (consF (frF (c__law_stack_1)) (nilF)))
def F__law_stack : Fn := runF 5 f__law_stack
theorem p__law_stack (M : Md P w K mg base) : PBF ⟨P, w, K, mg, base, N__law_stack, defScope s__law_stack, fun _ => true, 2⟩ (defBody s__law_stack) f__law_stack :=
  pb_one (ps_ret' (pd_callT cs_tuple rfl M.z_tuple bt_tuple (pl_cons (pd_fr (po_lc (own := [("v", 4)]) nd__law_stack (pi_rng1 rfl M.z_range (pl_cons (pd_ix ixs (pd_nm 1 rfl (.inl rfl)) (pd_int) (fun _ _ => rfl)) (pl_nil))) ⟨rfl, by decide +kernel, by dsimp only [Ct.blk]; decide +kernel, by dsimp only [Ct.blk]; decide +kernel, by dsimp only [Ct.blk]; decide +kernel⟩ (pg_nm 4 nd__law_stack rfl (.inl rfl) (.inr rfl)) (by decide) (pts_nil') (pd_bin ops_add (pd_nm 2 rfl (.inr (.inl rfl))) (pd_call (fd__law_draw M) (Nat.le_of_ble_eq_true rfl) rfl (pa_bor 0 rfl (.inr (.inl rfl)) (pa_d (pd_bin ops_add (pd_bin ops_sub (pd_nm 3 rfl (.inr (.inl rfl))) (pd_nm 2 rfl (.inr (.inl rfl)))) (pd_int)) (pa_nil'))) (arn_bor (arn_d (arn_nil))))))) (pl_nil))))
theorem fd__law_stack (M : Md P w K mg base) : Fd P w K mg base "_law_stack" 4 3 F__law_stack := by
  obtain ⟨f, fd, F, g, b⟩ := M.d__law_stack
  exact fd_mk F sc__law_stack g b rfl (by decide) (p__law_stack M)
/-! ### law -/
abbrev s_law : Stmt := topS 21
abbrev N_law : List Str := ["script", "pool", "graph", "n", "stack", "q", "told", "turn", "other", "order", "alike", "a"]
theorem nd_law : (N_law).Nodup := by decide +kernel
theorem sc_law : FnScope N_law ["script"] (defScope s_law) := ⟨rfl, rfl, rfl, by decide +kernel, rfl, by decide +kernel, by decide +kernel⟩
def c_law_1 : OF := lcF (itF (callD F__law_stack (aborF 1 (adF (nmF 2) (adF (negF (kF (.int 2))) (adF (kF (.int 3)) (anilF))))))) (bN 11) (yesF) (callF gAbs (consF (nmF 11) (nilF))) [11]
def b_law_1 : SF := seqS (setF 8 (callF gTup (consF (frF (c_law_1)) (nilF)))) (seqS (setF 9 (callD F_burning (adF (nmF 2) (adF (nmF 8) (adF (nmF 5) (anilF)))))) (seqS (ifS (orF (tsF (opF gNe (opF gIsNot (nmF 9) (kF .none)) (callD F__law_reduced_for (adF (nmF 2) (adF (nmF 8) (adF (nmF 5) (anilF))))))) (andF (tsF (opF gIsNot (nmF 9) (kF .none))) (notF (tsF (callD F__law_burns (adF (nmF 2) (adF (nmF 8) (adF (nmF 5) (adF (nmF 9) (anilF)))))))))) (retF (kF (.bool false))) (nxS)) (seqS (setF 10 (opF gEq (callD F_reduced (adF (nmF 2) (adF (nmF 8) (adF (nmF 5) (anilF))))) (nmF 6))) (ifS (notF (tsF (callD (F__law_same 6) (adF (callD F_are_equivalent (adF (nmF 2) (adF (nmF 4) (adF (nmF 8) (anilF))))) (adF (nmF 10) (anilF)))))) (retF (kF (.bool false))) (nxS)))))
def l_law_1 : SF := forS (rng1F (consF (kF (.int 3)) (nilF))) (bN 7) (b_law_1)
def b_law_2 : SF := seqS (setF 8 (callD F__law_fired (adF (nmF 2) (adF (nmF 4) (adF (callD F__law_stack (aborF 1 (adF (nmF 2) (adF (negF (kF (.int 3))) (adF (kF (.int 3)) (anilF)))))) (anilF)))))) (ifS (orF (notF (tsF (callD (F__law_same 6) (adF (callD F_reduced (adF (nmF 2) (adF (nmF 8) (adF (nmF 5) (anilF))))) (adF (nmF 6) (anilF)))))) (notF (tsF (callD (F__law_same 6) (adF (callD F_are_equivalent (adF (nmF 2) (adF (nmF 4) (adF (nmF 8) (anilF))))) (adF (kF (.bool true)) (anilF))))))) (retF (kF (.bool false))) (nxS))
def l_law_2 : SF := forS (rng1F (consF (kF (.int 3)) (nilF))) (bN 7) (b_law_2)
def c_law_2 : OF := lcF (itF (nmF 6)) (bN 11) (notF (tsF (callD F__law_is_integer (adF (nmF 11) (anilF))))) (nmF 11) [11]
def f_law : SF := seqS (setOF 1 (callO F__law_pool (adF (nmF 0) (anilF)))) (seqS (setF 2 (callD F__law_graph (aborF 1 (adF (kF (.int 5)) (anilF))))) (seqS (setF 3 (opF gIx (nmF 2) (kF (.int 0)))) (seqS (setF 4 (callD F__law_stack (aborF 1 (adF (nmF 2) (adF (negF (kF (.int 4))) (adF (kF (.int 5)) (anilF))))))) (seqS (setF 5 (callD F__law_draw (aborF 1 (adF (nmF 3) (anilF))))) (seqS (setF 6 (callD F_reduced (adF (nmF 2) (adF (nmF 4) (adF (nmF 5) (anilF)))))) (seqS (ifS (orF (notF (tsF (isiF "tuple" (nmF 6)))) (orF (tsF (opF gNe (callF gLen (consF (nmF 6) (nilF))) (nmF 3))) (tsF (opF gGt (callF gLen (consF (frF (c_law_2)) (nilF))) (kF (.int 0)))))) (retF (kF (.bool false))) (nxS)) (seqS (ifS (orF (tsF (opF gNe (callF gSum (consF (nmF 6) (nilF))) (callF gSum (consF (nmF 4) (nilF))))) (orF (notF (tsF (callD F__law_reduced_for (adF (nmF 2) (adF (nmF 6) (adF (nmF 5) (anilF))))))) (notF (tsF (callD (F__law_same 6) (adF (callD F_reduced (adF (nmF 2) (adF (nmF 6) (adF (nmF 5) (anilF))))) (adF (nmF 6) (anilF)))))))) (retF (kF (.bool false))) (nxS)) (seqS (l_law_2) (seqS (setF 9 (callD F_burning (adF (nmF 2) (adF (nmF 6) (adF (nmF 5) (anilF)))))) (seqS (ifS (notF (tsF (callD F__law_burns (adF (nmF 2) (adF (nmF 6) (adF (nmF 5) (adF (nmF 9) (anilF)))))))) (retF (kF (.bool false))) (nxS)) (seqS (l_law_1) (retF (kF (.bool true))))))))))))))
def F_law : Fn := runF 12 f_law
theorem p_law (M : Md P w K mg base) : PBF ⟨P, w, K, mg, base, N_law, defScope s_law, fun _ => true, 7⟩ (defBody s_law) f_law :=
  pb_cons (ps_setO 1 nd_law rfl (.inl rfl) (.inl rfl) (po_call (fd__law_pool M) (Nat.le_of_ble_eq_true rfl) rfl (pa_d (pd_nm 0 rfl (.inl rfl)) (pa_nil')) (arn_d (arn_nil))))
    (pb_cons (ps_set' 2 nd_law rfl (.inl rfl) (.inl rfl) (pd_call (fd__law_graph M) (Nat.le_of_ble_eq_true rfl) rfl (pa_bor 1 rfl (.inl rfl) (pa_d (pd_int) (pa_nil'))) (arn_bor (arn_d (arn_nil)))))
    (pb_cons (ps_set' 3 nd_law rfl (.inl rfl) (.inl rfl) (pd_ix ixs (pd_nm 2 rfl (.inl rfl)) (pd_int) (fun _ _ => rfl)))
    (pb_cons (ps_set' 4 nd_law rfl (.inl rfl) (.inl rfl) (pd_call (fd__law_stack M) (Nat.le_of_ble_eq_true rfl) rfl (pa_bor 1 rfl (.inl rfl) (pa_d (pd_nm 2 rfl (.inl rfl)) (pa_d (pd_neg (pd_int)) (pa_d (pd_int) (pa_nil'))))) (arn_bor (arn_d (arn_d (arn_d (arn_nil)))))))
    (pb_cons (ps_set' 5 nd_law rfl (.inl rfl) (.inl rfl) (pd_call (fd__law_draw M) (Nat.le_of_ble_eq_true rfl) rfl (pa_bor 1 rfl (.inl rfl) (pa_d (pd_nm 3 rfl (.inl rfl)) (pa_nil'))) (arn_bor (arn_d (arn_nil)))))
    (pb_cons (ps_set' 6 nd_law rfl (.inl rfl) (.inl rfl) (pd_call (fd_reduced M) (Nat.le_of_ble_eq_true rfl) rfl (pa_d (pd_nm 2 rfl (.inl rfl)) (pa_d (pd_nm 4 rfl (.inl rfl)) (pa_d (pd_nm 5 rfl (.inl rfl)) (pa_nil')))) (arn_d (arn_d (arn_d (arn_nil))))))
    (pb_cons (ps_if' (pt_w (pw_or' (pt_not' (pt_val' (pd_isi (T := "tuple") (pd_nm 6 rfl (.inl rfl)) rfl M.z_isinstance rfl M.z_tuple bt_tuple))) (pw_or' (pt_cmp' ops_ne (pd_callB cs_len rfl M.z_len bt_len (pl_cons (pd_nm 6 rfl (.inl rfl)) (pl_nil))) (pd_nm 3 rfl (.inl rfl)) rfl) (pw_or1' (pt_cmp' ops_gt (pd_callB cs_len rfl M.z_len bt_len (pl_cons (pd_fr (po_lc (own := [("a", 11)]) nd_law (pi_of (pd_nm 6 rfl (.inl rfl))) ⟨rfl, by decide +kernel, by dsimp only [Ct.blk]; decide +kernel, by dsimp only [Ct.blk]; decide +kernel, by dsimp only [Ct.blk]; decide +kernel⟩ (pg_nm 11 nd_law rfl (.inl rfl) (.inr rfl)) (by decide) (pts_one' (pt_not' (pt_val' (pd_call (fd__law_is_integer M) (Nat.le_of_ble_eq_true rfl) rfl (pa_d (pd_nm 11 rfl (.inl rfl)) (pa_nil')) (arn_d (arn_nil)))))) (pd_nm 11 rfl (.inl rfl)))) (pl_nil))) (pd_int) rfl))))) (pb_one (ps_ret' (pd_bl))) (pb_nil))
    (pb_cons (ps_if' (pt_w (pw_or' (pt_cmp' ops_ne (pd_callB cs_sum rfl M.z_sum bt_sum (pl_cons (pd_nm 6 rfl (.inl rfl)) (pl_nil))) (pd_callB cs_sum rfl M.z_sum bt_sum (pl_cons (pd_nm 4 rfl (.inl rfl)) (pl_nil))) rfl) (pw_or' (pt_not' (pt_val' (pd_call (fd__law_reduced_for M) (Nat.le_of_ble_eq_true rfl) rfl (pa_d (pd_nm 2 rfl (.inl rfl)) (pa_d (pd_nm 6 rfl (.inl rfl)) (pa_d (pd_nm 5 rfl (.inl rfl)) (pa_nil')))) (arn_d (arn_d (arn_d (arn_nil))))))) (pw_or1' (pt_not' (pt_val' (pd_call (fd__law_same M 6) (Nat.le_of_ble_eq_true rfl) rfl (pa_d (pd_call (fd_reduced M) (Nat.le_of_ble_eq_true rfl) rfl (pa_d (pd_nm 2 rfl (.inl rfl)) (pa_d (pd_nm 6 rfl (.inl rfl)) (pa_d (pd_nm 5 rfl (.inl rfl)) (pa_nil')))) (arn_d (arn_d (arn_d (arn_nil))))) (pa_d (pd_nm 6 rfl (.inl rfl)) (pa_nil'))) (arn_d (arn_d (arn_nil)))))))))) (pb_one (ps_ret' (pd_bl))) (pb_nil))
    (pb_cons (ps_for' (pi_rng1 rfl M.z_range (pl_cons (pd_int) (pl_nil))) (pg_nm 7 nd_law rfl (.inl rfl) (.inl rfl)) (pb_cons (ps_set' 8 nd_law rfl (.inl rfl) (.inl rfl) (pd_call (fd__law_fired M) (Nat.le_of_ble_eq_true rfl) rfl (pa_d (pd_nm 2 rfl (.inl rfl)) (pa_d (pd_nm 4 rfl (.inl rfl)) (pa_d (pd_call (fd__law_stack M) (Nat.le_of_ble_eq_true rfl) rfl (pa_bor 1 rfl (.inl rfl) (pa_d (pd_nm 2 rfl (.inl rfl)) (pa_d (pd_neg (pd_int)) (pa_d (pd_int) (pa_nil'))))) (arn_bor (arn_d (arn_d (arn_d (arn_nil)))))) (pa_nil')))) (arn_d (arn_d (arn_d (arn_nil))))))
    (pb_one (ps_if' (pt_w (pw_or' (pt_not' (pt_val' (pd_call (fd__law_same M 6) (Nat.le_of_ble_eq_true rfl) rfl (pa_d (pd_call (fd_reduced M) (Nat.le_of_ble_eq_true rfl) rfl (pa_d (pd_nm 2 rfl (.inl rfl)) (pa_d (pd_nm 8 rfl (.inl rfl)) (pa_d (pd_nm 5 rfl (.inl rfl)) (pa_nil')))) (arn_d (arn_d (arn_d (arn_nil))))) (pa_d (pd_nm 6 rfl (.inl rfl)) (pa_nil'))) (arn_d (arn_d (arn_nil)))))) (pw_or1' (pt_not' (pt_val' (pd_call (fd__law_same M 6) (Nat.le_of_ble_eq_true rfl) rfl (pa_d (pd_call (fd_are_equivalent M) (Nat.le_of_ble_eq_true rfl) rfl (pa_d (pd_nm 2 rfl (.inl rfl)) (pa_d (pd_nm 4 rfl (.inl rfl)) (pa_d (pd_nm 8 rfl (.inl rfl)) (pa_nil')))) (arn_d (arn_d (arn_d (arn_nil))))) (pa_d (pd_bl) (pa_nil'))) (arn_d (arn_d (arn_nil))))))))) (pb_one (ps_ret' (pd_bl))) (pb_nil)))))
    (pb_cons (ps_set' 9 nd_law rfl (.inl rfl) (.inl rfl) (pd_call (fd_burning M) (Nat.le_of_ble_eq_true rfl) rfl (pa_d (pd_nm 2 rfl (.inl rfl)) (pa_d (pd_nm 6 rfl (.inl rfl)) (pa_d (pd_nm 5 rfl (.inl rfl)) (pa_nil')))) (arn_d (arn_d (arn_d (arn_nil))))))
    (pb_cons (ps_if' (pt_not' (pt_val' (pd_call (fd__law_burns M) (Nat.le_of_ble_eq_true rfl) rfl (pa_d (pd_nm 2 rfl (.inl rfl)) (pa_d (pd_nm 6 rfl (.inl rfl)) (pa_d (pd_nm 5 rfl (.inl rfl)) (pa_d (pd_nm 9 rfl (.inl rfl)) (pa_nil'))))) (arn_d (arn_d (arn_d (arn_d (arn_nil)))))))) (pb_one (ps_ret' (pd_bl))) (pb_nil))
    (pb_cons (ps_for' (pi_rng1 rfl M.z_range (pl_cons (pd_int) (pl_nil))) (pg_nm 7 nd_law rfl (.inl rfl) (.inl rfl)) (pb_cons (ps_set' 8 nd_law rfl (.inl rfl) (.inl rfl) (pd_callT cs_tuple rfl M.z_tuple bt_tuple (pl_cons (pd_fr (po_lc (own := [("a", 11)]) nd_law (pi_of (pd_call (fd__law_stack M) (Nat.le_of_ble_eq_true rfl) rfl (pa_bor 1 rfl (.inl rfl) (pa_d (pd_nm 2 rfl (.inl rfl)) (pa_d (pd_neg (pd_int)) (pa_d (pd_int) (pa_nil'))))) (arn_bor (arn_d (arn_d (arn_d (arn_nil))))))) ⟨rfl, by decide +kernel, by dsimp only [Ct.blk]; decide +kernel, by dsimp only [Ct.blk]; decide +kernel, by dsimp only [Ct.blk]; decide +kernel⟩ (pg_nm 11 nd_law rfl (.inl rfl) (.inr rfl)) (by decide) (pts_nil') (pd_callB cs_abs rfl M.z_abs bt_abs (pl_cons (pd_nm 11 rfl (.inl rfl)) (pl_nil))))) (pl_nil))))
    (pb_cons (ps_set' 9 nd_law rfl (.inl rfl) (.inl rfl) (pd_call (fd_burning M) (Nat.le_of_ble_eq_true rfl) rfl (pa_d (pd_nm 2 rfl (.inl rfl)) (pa_d (pd_nm 8 rfl (.inl rfl)) (pa_d (pd_nm 5 rfl (.inl rfl)) (pa_nil')))) (arn_d (arn_d (arn_d (arn_nil))))))
    (pb_cons (ps_if' (pt_w (pw_or' (pt_cmp' ops_ne (pd_cmp ops_isnot (pd_nm 9 rfl (.inl rfl)) (pd_non) rfl) (pd_call (fd__law_reduced_for M) (Nat.le_of_ble_eq_true rfl) rfl (pa_d (pd_nm 2 rfl (.inl rfl)) (pa_d (pd_nm 8 rfl (.inl rfl)) (pa_d (pd_nm 5 rfl (.inl rfl)) (pa_nil')))) (arn_d (arn_d (arn_d (arn_nil))))) rfl) (pw_or1' (pt_w (pw_and' (pt_cmp' ops_isnot (pd_nm 9 rfl (.inl rfl)) (pd_non) rfl) (pw_and1' (pt_not' (pt_val' (pd_call (fd__law_burns M) (Nat.le_of_ble_eq_true rfl) rfl (pa_d (pd_nm 2 rfl (.inl rfl)) (pa_d (pd_nm 8 rfl (.inl rfl)) (pa_d (pd_nm 5 rfl (.inl rfl)) (pa_d (pd_nm 9 rfl (.inl rfl)) (pa_nil'))))) (arn_d (arn_d (arn_d (arn_d (arn_nil)))))))))))))) (pb_one (ps_ret' (pd_bl))) (pb_nil))
    (pb_cons (ps_set' 10 nd_law rfl (.inl rfl) (.inl rfl) (pd_cmp ops_eq (pd_call (fd_reduced M) (Nat.le_of_ble_eq_true rfl) rfl (pa_d (pd_nm 2 rfl (.inl rfl)) (pa_d (pd_nm 8 rfl (.inl rfl)) (pa_d (pd_nm 5 rfl (.inl rfl)) (pa_nil')))) (arn_d (arn_d (arn_d (arn_nil))))) (pd_nm 6 rfl (.inl rfl)) rfl))
    (pb_one (ps_if' (pt_not' (pt_val' (pd_call (fd__law_same M 6) (Nat.le_of_ble_eq_true rfl) rfl (pa_d (pd_call (fd_are_equivalent M) (Nat.le_of_ble_eq_true rfl) rfl (pa_d (pd_nm 2 rfl (.inl rfl)) (pa_d (pd_nm 4 rfl (.inl rfl)) (pa_d (pd_nm 8 rfl (.inl rfl)) (pa_nil')))) (arn_d (arn_d (arn_d (arn_nil))))) (pa_d (pd_nm 10 rfl (.inl rfl)) (pa_nil'))) (arn_d (arn_d (arn_nil)))))) (pb_one (ps_ret' (pd_bl))) (pb_nil))))))))
    (pb_one (ps_ret' (pd_bl))))))))))))))
theorem fd_law (M : Md P w K mg base) : Fd P w K mg base "law" 1 8 F_law := by
  obtain ⟨f, fd, F, g, b⟩ := M.d_law
  exact fd_mk F sc_law g b rfl (by decide) (p_law M)
/-! ### what the top has written -/
theorem md_of {h : Heap} (X : K.In h) (G : h.Ns mainGlobals mg) (z_abs : PySem.W.nsIn K mainGlobals "abs" = some none) (z_bool : PySem.W.nsIn K mainGlobals "bool" = some none) (z_enumerate : PySem.W.nsIn K mainGlobals "enumerate" = some none) (z_int : PySem.W.nsIn K mainGlobals "int" = some none) (z_isinstance : PySem.W.nsIn K mainGlobals "isinstance" = some none) (z_len : PySem.W.nsIn K mainGlobals "len" = some none) (z_list : PySem.W.nsIn K mainGlobals "list" = some none) (z_max : PySem.W.nsIn K mainGlobals "max" = some none) (z_min : PySem.W.nsIn K mainGlobals "min" = some none) (z_range : PySem.W.nsIn K mainGlobals "range" = some none) (z_sorted : PySem.W.nsIn K mainGlobals "sorted" = some none) (z_str : PySem.W.nsIn K mainGlobals "str" = some none) (z_sum : PySem.W.nsIn K mainGlobals "sum" = some none) (z_tuple : PySem.W.nsIn K mainGlobals "tuple" = some none) (d_fired : IsDef K "fired" (topS 1)) (d_edges_to : IsDef K "edges_to" (topS 2)) (d_burnt : IsDef K "burnt" (topS 3)) (d_burning : IsDef K "burning" (topS 4)) (d_layers : IsDef K "layers" (topS 5)) (d_reducing : IsDef K "reducing" (topS 6)) (d_reduced : IsDef K "reduced" (topS 7)) (d_are_equivalent : IsDef K "are_equivalent" (topS 8)) (d__law_same : IsDef K "_law_same" (topS 10)) (d__law_is_integer : IsDef K "_law_is_integer" (topS 11)) (d__law_pool : IsDef K "_law_pool" (topS 12)) (d__law_spread : IsDef K "_law_spread" (topS 13)) (d__law_draw : IsDef K "_law_draw" (topS 14)) (d__law_graph : IsDef K "_law_graph" (topS 15)) (d__law_fired : IsDef K "_law_fired" (topS 16)) (d__law_out : IsDef K "_law_out" (topS 17)) (d__law_reduced_for : IsDef K "_law_reduced_for" (topS 18)) (d__law_burns : IsDef K "_law_burns" (topS 19)) (d__law_stack : IsDef K "_law_stack" (topS 20)) (d_law : IsDef K "law" (topS 21)) : Md P w K mg base :=
  ⟨PySem.W.mg_none_of X G z_abs, PySem.W.mg_none_of X G z_bool, PySem.W.mg_none_of X G z_enumerate, PySem.W.mg_none_of X G z_int, PySem.W.mg_none_of X G z_isinstance, PySem.W.mg_none_of X G z_len, PySem.W.mg_none_of X G z_list, PySem.W.mg_none_of X G z_max, PySem.W.mg_none_of X G z_min, PySem.W.mg_none_of X G z_range, PySem.W.mg_none_of X G z_sorted, PySem.W.mg_none_of X G z_str, PySem.W.mg_none_of X G z_sum, PySem.W.mg_none_of X G z_tuple, d_fired.fun X G fun _ _ _ _ _ _ us hl => match us, hl with | [_, _, _], _ => rfl, d_edges_to.fun X G fun _ _ _ _ _ _ us hl => match us, hl with | [_, _, _], _ => rfl, d_burnt.fun X G fun _ _ _ _ _ _ us hl => match us, hl with | [_, _, _], _ => rfl, d_burning.fun X G fun _ _ _ _ _ _ us hl => match us, hl with | [_, _, _], _ => rfl, d_layers.fun X G fun _ _ _ _ _ _ us hl => match us, hl with | [_, _], _ => rfl, d_reducing.fun X G fun _ _ _ _ _ _ us hl => match us, hl with | [_, _, _], _ => rfl, d_reduced.fun X G fun _ _ _ _ _ _ us hl => match us, hl with | [_, _, _], _ => rfl, d_are_equivalent.fun X G fun _ _ _ _ _ _ us hl => match us, hl with | [_, _, _], _ => rfl, d__law_same.fun X G fun _ _ _ _ _ _ us hl => match us, hl with | [_, _], _ => rfl, d__law_is_integer.fun X G fun _ _ _ _ _ _ us hl => match us, hl with | [_], _ => rfl, d__law_pool.fun X G fun _ _ _ _ _ _ us hl => match us, hl with | [_], _ => rfl, d__law_spread.fun X G fun _ _ _ _ _ _ us hl => match us, hl with | [_], _ => rfl, d__law_draw.fun X G fun _ _ _ _ _ _ us hl => match us, hl with | [_, _], _ => rfl, d__law_graph.fun X G fun _ _ _ _ _ _ us hl => match us, hl with | [_, _], _ => rfl, d__law_fired.fun X G fun _ _ _ _ _ _ us hl => match us, hl with | [_, _, _], _ => rfl, d__law_out.fun X G fun _ _ _ _ _ _ us hl => match us, hl with | [_, _, _], _ => rfl, d__law_reduced_for.fun X G fun _ _ _ _ _ _ us hl => match us, hl with | [_, _, _], _ => rfl, d__law_burns.fun X G fun _ _ _ _ _ _ us hl => match us, hl with | [_, _, _, _], _ => rfl, d__law_stack.fun X G fun _ _ _ _ _ _ us hl => match us, hl with | [_, _, _, _], _ => rfl, d_law.fun X G fun _ _ _ _ _ _ us hl => match us, hl with | [_], _ => rfl⟩
theorem all_mk {l : PySem.W.OpenLaw} {fa : Addr} {h : Heap} {bits : Int → Prop} (X : K.In h) (G : h.Ns mainGlobals mg) (hfa : mg "law" = some (.ref fa)) (hl : l.prog = PySem.Challenge.pw_leastplus_k58_whole_reduced_stacks)
    (lt : ∀ ns : List Int, ns.length ≤ 63 → (∀ z ∈ ns, bits z) → ∃ bs, F_law [.d (.list (ns.map PyData.int))] = some (.d (.bool true), bs))
    (z_abs : PySem.W.nsIn K mainGlobals "abs" = some none) (z_bool : PySem.W.nsIn K mainGlobals "bool" = some none) (z_enumerate : PySem.W.nsIn K mainGlobals "enumerate" = some none) (z_int : PySem.W.nsIn K mainGlobals "int" = some none) (z_isinstance : PySem.W.nsIn K mainGlobals "isinstance" = some none) (z_len : PySem.W.nsIn K mainGlobals "len" = some none) (z_list : PySem.W.nsIn K mainGlobals "list" = some none) (z_max : PySem.W.nsIn K mainGlobals "max" = some none) (z_min : PySem.W.nsIn K mainGlobals "min" = some none) (z_range : PySem.W.nsIn K mainGlobals "range" = some none) (z_sorted : PySem.W.nsIn K mainGlobals "sorted" = some none) (z_str : PySem.W.nsIn K mainGlobals "str" = some none) (z_sum : PySem.W.nsIn K mainGlobals "sum" = some none) (z_tuple : PySem.W.nsIn K mainGlobals "tuple" = some none) (d_fired : IsDef K "fired" (topS 1)) (d_edges_to : IsDef K "edges_to" (topS 2)) (d_burnt : IsDef K "burnt" (topS 3)) (d_burning : IsDef K "burning" (topS 4)) (d_layers : IsDef K "layers" (topS 5)) (d_reducing : IsDef K "reducing" (topS 6)) (d_reduced : IsDef K "reduced" (topS 7)) (d_are_equivalent : IsDef K "are_equivalent" (topS 8)) (d__law_same : IsDef K "_law_same" (topS 10)) (d__law_is_integer : IsDef K "_law_is_integer" (topS 11)) (d__law_pool : IsDef K "_law_pool" (topS 12)) (d__law_spread : IsDef K "_law_spread" (topS 13)) (d__law_draw : IsDef K "_law_draw" (topS 14)) (d__law_graph : IsDef K "_law_graph" (topS 15)) (d__law_fired : IsDef K "_law_fired" (topS 16)) (d__law_out : IsDef K "_law_out" (topS 17)) (d__law_reduced_for : IsDef K "_law_reduced_for" (topS 18)) (d__law_burns : IsDef K "_law_burns" (topS 19)) (d__law_stack : IsDef K "_law_stack" (topS 20)) (d_law : IsDef K "law" (topS 21)) :
    ∃ fd : FuncData, (∀ (s : Shared) (v : Value), BindsTo s fd ⟨[v], []⟩ [("script", v)]) ∧ ∀ base : Heap, K.In base → base.Ns mainGlobals mg → FnOk l.prog w K mg base CX0 8 fa fd ["script"] (spLaw K bits) := by
  obtain ⟨f, oc, od, an, osl, kV, doc, pm, cdv, ct, a, l1, c, k⟩ := id d_law
  have e := hfa.symm.trans (PySem.W.mg_of X G a)
  cases e
  have F := fun_mk (st := topS 21) l1 c k
  refine ⟨_, fun s v => .of_eq rfl, fun base _ _ => (fn_ok F sc_law (by decide) (p_law (md_of X G z_abs z_bool z_enumerate z_int z_isinstance z_len z_list z_max z_min z_range z_sorted z_str z_sum z_tuple d_fired d_edges_to d_burnt d_burning d_layers d_reducing d_reduced d_are_equivalent d__law_same d__law_is_integer d__law_pool d__law_spread d__law_draw d__law_graph d__law_fired d__law_out d__law_reduced_for d__law_burns d__law_stack d_law))).imp (law_sp lt)⟩
end
end G

set_option Elab.async false
set_option linter.all false
set_option maxRecDepth 100000
set_option maxHeartbeats 4000000
/-! how the mirrors are computed -/
namespace G
open PySem PySem.Spec PyProof.Rows L2
theorem forL_run {B : D → Env → Option Env} {g : SF} (I : Nat → Env → Prop) : ∀ (xs : List D) (k : Nat) (ρ : Env), I k ρ →
    (∀ (i : Nat) (x : D) (ρ : Env), xs[i]? = some x → I (k + i) ρ → ∃ ρ1 ρ2, B x ρ = some ρ1 ∧ g ρ1 = some (.nx ρ2) ∧ I (k + i + 1) ρ2) → ∃ ρ', forL B g xs ρ = some (.nx ρ') ∧ I (k + xs.length) ρ'
  | [], k, ρ, h, _ => ⟨ρ, rfl, h⟩
  | x :: xs, k, ρ, h, st => by
    obtain ⟨ρ1, ρ2, e1, e2, h2⟩ := st 0 x ρ rfl h
    obtain ⟨ρ', e3, h3⟩ := forL_run I xs (k + 1) ρ2 h2 fun i y ρ hy hi => by
      have := st (i + 1) y ρ hy (by rw [show k + (i + 1) = k + 1 + i by omega]; exact hi)
      rw [show k + (i + 1) + 1 = k + 1 + i + 1 by omega] at this
      exact this
    refine ⟨ρ', ?_, by rw [show k + (x :: xs).length = k + 1 + xs.length by simp; omega]; exact h3⟩
    unfold forL
    rw [e1]
    show (match g ρ1 with | some (.nx ρ2) => forL B g xs ρ2 | some (.ct ρ2) => forL B g xs ρ2 | some (.bk ρ2) => some (.nx ρ2) | r => r) = _
    rw [e2]
    exact e3
/-- a loop without exits -/
theorem forS_run {it : LF} {B : D → Env → Option Env} {g : SF} {ρ ρ1 : Env} {xs : List D} (I : Nat → Env → Prop) (hi : it ρ = some (xs, ρ1)) (h : I 0 ρ1)
    (st : ∀ (i : Nat) (x : D) (ρ : Env), xs[i]? = some x → I i ρ → ∃ ρ1 ρ2, B x ρ = some ρ1 ∧ g ρ1 = some (.nx ρ2) ∧ I (i + 1) ρ2) : ∃ ρ', forS it B g ρ = some (.nx ρ') ∧ I xs.length ρ' := by
  obtain ⟨ρ', e, h'⟩ := forL_run I xs 0 ρ1 h fun i x ρ hx hi => by
    rw [Nat.zero_add] at hi ⊢
    exact st i x ρ hx hi
  rw [Nat.zero_add] at h'
  refine ⟨ρ', ?_, h'⟩
  unfold forS
  rw [hi]
  exact e
theorem forL_exit {B : D → Env → Option Env} {g : SF} {R : Sl → Env → Prop} (I : Nat → Env → Prop) : ∀ (xs : List D) (k : Nat) (ρ : Env), I k ρ →
    (∀ (i : Nat) (x : D) (ρ : Env), xs[i]? = some x → I (k + i) ρ → ∃ ρ1, B x ρ = some ρ1 ∧ ((∃ ρ2, g ρ1 = some (.nx ρ2) ∧ I (k + i + 1) ρ2) ∨ ∃ s ρ2, g ρ1 = some (.rt s ρ2) ∧ R s ρ2)) →
    (∃ ρ', forL B g xs ρ = some (.nx ρ') ∧ I (k + xs.length) ρ') ∨ ∃ s ρ', forL B g xs ρ = some (.rt s ρ') ∧ R s ρ'
  | [], k, ρ, h, _ => .inl ⟨ρ, rfl, h⟩
  | x :: xs, k, ρ, h, st => by
    obtain ⟨ρ1, e1, h2⟩ := st 0 x ρ rfl h
    unfold forL
    rw [e1]
    show (∃ ρ', (match g ρ1 with | some (.nx ρ2) => forL B g xs ρ2 | some (.ct ρ2) => forL B g xs ρ2 | some (.bk ρ2) => some (.nx ρ2) | r => r) = some (.nx ρ') ∧ _) ∨ ∃ s ρ', (match g ρ1 with | some (.nx ρ2) => forL B g xs ρ2 | some (.ct ρ2) => forL B g xs ρ2 | some (.bk ρ2) => some (.nx ρ2) | r => r) = some (.rt s ρ') ∧ _
    rcases h2 with ⟨ρ2, e2, h2⟩ | ⟨s, ρ2, e2, h2⟩
    · rw [e2]
      have := forL_exit (R := R) I xs (k + 1) ρ2 h2 fun i y ρ hy hi => by
        have := st (i + 1) y ρ hy (by rw [show k + (i + 1) = k + 1 + i by omega]; exact hi)
        rw [show k + (i + 1) + 1 = k + 1 + i + 1 by omega] at this
        exact this
      rw [show k + (x :: xs).length = k + 1 + xs.length by simp; omega]
      exact this
    · rw [e2]
      exact .inr ⟨s, ρ2, rfl, h2⟩
theorem forS_exit {it : LF} {B : D → Env → Option Env} {g : SF} {ρ ρ1 : Env} {xs : List D} {R : Sl → Env → Prop} (I : Nat → Env → Prop) (hi : it ρ = some (xs, ρ1)) (h : I 0 ρ1)
    (st : ∀ (i : Nat) (x : D) (ρ : Env), xs[i]? = some x → I i ρ → ∃ ρ1, B x ρ = some ρ1 ∧ ((∃ ρ2, g ρ1 = some (.nx ρ2) ∧ I (i + 1) ρ2) ∨ ∃ s ρ2, g ρ1 = some (.rt s ρ2) ∧ R s ρ2)) :
    (∃ ρ', forS it B g ρ = some (.nx ρ') ∧ I xs.length ρ') ∨ ∃ s ρ', forS it B g ρ = some (.rt s ρ') ∧ R s ρ' := by
  have := forL_exit (R := R) I xs 0 ρ1 h fun i x ρ hx hi => by
    rw [Nat.zero_add] at hi ⊢
    exact st i x ρ hx hi
  rw [Nat.zero_add] at this
  unfold forS
  rw [hi]
  exact this
/-- while, with a measure; it may end by its test or by return -/
theorem whileS_run {c : TF} {g : SF} (I : Env → Prop) (m : Env → Nat) (P : Env → Prop) (R : Sl → Env → Prop)
    (st : ∀ ρ, I ρ → ∃ b ρ1, c ρ = some (b, ρ1) ∧ (b = false → P ρ1) ∧ (b = true → (∃ ρ2, g ρ1 = some (.nx ρ2) ∧ I ρ2 ∧ m ρ2 < m ρ) ∨ ∃ s ρ2, g ρ1 = some (.rt s ρ2) ∧ R s ρ2)) :
    ∀ (n : Nat) (ρ : Env), m ρ ≤ n → I ρ → (∃ ρ', whileS c g ρ = some (.nx ρ') ∧ P ρ') ∨ ∃ s ρ', whileS c g ρ = some (.rt s ρ') ∧ R s ρ' := by
  intro n
  induction n with
  | zero =>
    intro ρ hm h
    obtain ⟨b, ρ1, e1, h1, h2⟩ := st ρ h
    rw [whileS]
    rw [e1]
    cases b with
    | false => exact .inl ⟨ρ1, rfl, h1 rfl⟩
    | true =>
      rcases h2 rfl with ⟨ρ2, e2, _, h3⟩ | ⟨s, ρ2, e2, h3⟩
      · omega
      · exact .inr ⟨s, ρ2, by simp [e2], h3⟩
  | succ n ih =>
    intro ρ hm h
    obtain ⟨b, ρ1, e1, h1, h2⟩ := st ρ h
    rw [whileS]
    rw [e1]
    cases b with
    | false => exact .inl ⟨ρ1, rfl, h1 rfl⟩
    | true =>
      rcases h2 rfl with ⟨ρ2, e2, h4, h3⟩ | ⟨s, ρ2, e2, h3⟩
      · have := ih ρ2 (by omega) h4
        simpa [e2] using this
      · exact .inr ⟨s, ρ2, by simp [e2], h3⟩
/-- a comprehension whose parts leave the slots as they are -/
theorem lcL_run {B : D → Env → Option Env} {t : TF} {f : EF} {own : List Nat} {ρ : Env} (T : D → Bool) (F : D → D) (hw : wipeE ρ own = ρ) : ∀ xs : List D,
    (∀ x ∈ xs, ∃ ρ1 ρ2, B x ρ = some ρ1 ∧ t ρ1 = some (T x, ρ2) ∧ (T x = false → okOwn ρ2 own = true ∧ wipeE ρ2 own = ρ) ∧ (T x = true → ∃ ρ3, f ρ2 = some (F x, ρ3) ∧ okOwn ρ3 own = true ∧ wipeE ρ3 own = ρ)) →
    lcL B t f own xs ρ = some ((xs.filter T).map F, ρ)
  | [], _ => rfl
  | x :: xs, h => by
    obtain ⟨ρ1, ρ2, e1, e2, h1, h2⟩ := h x List.mem_cons_self
    have ih := lcL_run T F hw xs fun y hy => h y (List.mem_cons_of_mem _ hy)
    unfold lcL
    rw [e1]
    dsimp only
    rw [e2]
    cases hT : T x with
    | false =>
      obtain ⟨k1, k2⟩ := h1 hT
      dsimp only
      rw [if_pos k1, k2, ih, List.filter_cons_of_neg (by rw [hT]; simp)]
    | true =>
      obtain ⟨ρ3, e3, k1, k2⟩ := h2 hT
      dsimp only
      rw [e3]
      dsimp only
      rw [if_pos k1, k2, ih, List.filter_cons_of_pos (by rw [hT])]
      rfl
theorem lcF_run {it : LF} {B : D → Env → Option Env} {t : TF} {f : EF} {own : List Nat} {ρ ρ1 : Env} {xs : List D} (T : D → Bool) (F : D → D) (hi : it ρ = some (xs, ρ1)) (ok : okOwn ρ1 own = true) (ok2 : okOwn (wipeE ρ1 own) own = true) (hw : wipeE (wipeE ρ1 own) own = wipeE ρ1 own)
    (h : ∀ x ∈ xs, ∃ ρ2 ρ3, B x (wipeE ρ1 own) = some ρ2 ∧ t ρ2 = some (T x, ρ3) ∧ (T x = false → okOwn ρ3 own = true ∧ wipeE ρ3 own = wipeE ρ1 own) ∧ (T x = true → ∃ ρ4, f ρ3 = some (F x, ρ4) ∧ okOwn ρ4 own = true ∧ wipeE ρ4 own = wipeE ρ1 own)) :
    lcF it B t f own ρ = some (.lst ((xs.filter T).map F), resE ρ1 (wipeE ρ1 own) own) := by
  unfold lcF
  rw [hi]
  dsimp only
  rw [if_pos ok, lcL_run T F hw xs h]
  dsimp only
  rw [if_pos ok2]
end G

set_option Elab.async false
set_option linter.all false
set_option maxRecDepth 100000
set_option maxHeartbeats 4000000
namespace G
open PySem PySem.Spec PyProof.Rows L2
theorem light_d {x : D} : light (some (.d x)) = true := rfl
theorem light_un : light (some .un) = true := rfl
theorem setSl_l {i : Nat} {s a : Sl} {ρ : Env} (e : ρ[i]? = some a) (h : light (some a) = true) : setSl i s ρ = some (ρ.set i s) := by
  unfold setSl
  rw [e]
  cases a with
  | ow b o => cases h
  | _ => rfl
theorem setSl_q {i : Nat} {s : Sl} {ρ : Env} (h : light ρ[i]? = true) (hl : i < ρ.length) : setSl i s ρ = some (ρ.set i s) := by
  rw [List.getElem?_eq_getElem hl] at h
  exact setSl_l (List.getElem?_eq_getElem hl) h
theorem setSl_o {i : Nat} {s : Sl} {o : O} {ρ : Env} (e : ρ[i]? = some (.ow false o)) : setSl i s ρ = some (ρ.set i s) := by
  unfold setSl
  rw [e]
/-! ### stacks as functions -/
def tk (n : Nat) (s : Nat → Int) : List D := (List.range n).map fun v => PyData.int (s v)
theorem tk_len {n : Nat} {s : Nat → Int} : (tk n s).length = n := by simp [tk]
theorem tk_get {n v : Nat} {s : Nat → Int} (h : v < n) : (tk n s)[v]? = some (.int (s v)) := by
  unfold tk
  rw [List.getElem?_map, List.getElem?_range h]
  rfl
theorem tk_congr {n : Nat} {s t : Nat → Int} (h : ∀ v < n, s v = t v) : tk n s = tk n t := by
  unfold tk
  refine List.map_congr_left fun v hv => ?_
  rw [h v (List.mem_range.mp hv)]
theorem ixN_nat {n v : Nat} (h : v < n) : ixN n (v : Int) = some v := by
  unfold ixN
  simp
  omega
theorem atI_tk {n v : Nat} {s : Nat → Int} (h : v < n) : atI (tk n s) (v : Int) = some (.int (s v)) := by
  unfold atI
  rw [tk_len, ixN_nat h]
  exact tk_get h
def up (s : Nat → Int) (i : Nat) (x : Int) : Nat → Int := fun v => if v = i then x else s v
theorem tk_set {n i : Nat} {s : Nat → Int} {x : Int} : (tk n s).set i (.int x) = tk n (up s i x) := by
  apply List.ext_getElem?
  intro v
  by_cases hv : v < n
  · rw [tk_get hv]
    by_cases e : i = v
    · subst e
      rw [List.getElem?_set_self (by rw [tk_len]; exact hv)]
      simp [up]
    · rw [List.getElem?_set_ne e, tk_get hv]
      simp [up, Ne.symm e]
  · rw [List.getElem?_eq_none (by rw [List.length_set, tk_len]; omega), List.getElem?_eq_none (by rw [tk_len]; omega)]
theorem gIx_tk {n v : Nat} {s : Nat → Int} (h : v < n) : gIx (.tuple (tk n s)) (.int v) = some (.int (s v)) := atI_tk h
theorem gIx_lk {n v : Nat} {s : Nat → Int} (h : v < n) : gIx (.list (tk n s)) (.int v) = some (.int (s v)) := atI_tk h
/-! ### graphs -/
def encE (e : Nat × Nat) : D := .tuple [.int e.1, .int e.2]
def encG (n : Nat) (es : List (Nat × Nat)) : D := .tuple [.int n, .tuple (es.map encE)]
structure GOk (n : Nat) (es : List (Nat × Nat)) : Prop where
  pos : 0 < n
  five : n ≤ 5
  lt : ∀ e ∈ es, e.1 < e.2 ∧ e.2 < n
  tree : ∀ v, 0 < v → v < n → ∃ e ∈ es, e.2 = v
  few : es.length ≤ 100
theorem gIx_G0 {n : Nat} {es : List (Nat × Nat)} : gIx (encG n es) (.int 0) = some (.int n) := rfl
theorem gIx_G1 {n : Nat} {es : List (Nat × Nat)} : gIx (encG n es) (.int 1) = some (.tuple (es.map encE)) := rfl
/-- what a firing does at a vertex -/
def lapE (F : Nat → Int) (v : Nat) (e : Nat × Nat) : Int := if v = e.1 then F e.2 - F e.1 else if v = e.2 then F e.1 - F e.2 else 0
def lap (es : List (Nat × Nat)) (F : Nat → Int) (v : Nat) : Int := (es.map (lapE F v)).sum
theorem lap_take {es : List (Nat × Nat)} {F : Nat → Int} {v k : Nat} {e : Nat × Nat} (h : es[k]? = some e) : lap (es.take (k + 1)) F v = lap (es.take k) F v + lapE F v e := by
  unfold lap
  rw [List.take_add_one, h]
  simp
theorem atI_lt {n v : Nat} {s : Nat → Int} (h : v < n) : ixN (tk n s).length (v : Int) = some v := by
  rw [tk_len]
  exact ixN_nat h
theorem lapE_1 {F : Nat → Int} {e : Nat × Nat} (h : e.1 < e.2) (s : Nat → Int) :
    up (up s e.1 (s e.1 + (F e.2 - F e.1))) e.2 (up s e.1 (s e.1 + (F e.2 - F e.1)) e.2 + (F e.1 - F e.2)) = fun v => s v + lapE F v e := by
  funext v
  unfold up lapE
  by_cases h1 : v = e.1
  · subst h1
    rw [if_neg (by omega), if_pos rfl, if_pos rfl]
  · by_cases h2 : v = e.2
    · subst h2
      rw [if_pos rfl, if_neg (by omega), if_neg h1, if_pos rfl]
    · rw [if_neg h2, if_neg h1, if_neg h1, if_neg h2]
      omega
theorem fired_body {n : Nat} {es : List (Nat × Nat)} {s F t : Nat → Int} {fd : D} {e : Nat × Nat} (h : e.1 < e.2) (h2 : e.2 < n) (hF : ∀ v < n, gIx fd (.int (v : Nat)) = some (.int (F v))) {G S : D} :
    b_fired_1 [.d G, .d S, .d fd, .ow false (.lst (tk n t)), .d (.int e.1), .d (.int e.2)] = some (.nx [.d G, .d S, .d fd, .ow false (.lst (tk n fun v => t v + lapE F v e)), .d (.int e.1), .d (.int e.2)]) := by
  have h1 : e.1 < n := by omega
  simp [b_fired_1, seqS, augIxF, nmF, opF, hF _ h1, hF _ h2, gSub, iiI, atI_tk h1, atI_tk h2, atI_lt h1, atI_lt h2, tk_set, lapE_1 h]
theorem fired_loop {n : Nat} {es : List (Nat × Nat)} {s F : Nat → Int} {fd : D} (g : GOk n es) (hF : ∀ v < n, gIx fd (.int (v : Nat)) = some (.int (F v))) {S : D} :
    ∃ a b, l_fired_1 [.d (encG n es), .d S, .d fd, .ow false (.lst (tk n s)), .un, .un] = some (.nx [.d (encG n es), .d S, .d fd, .ow false (.lst (tk n fun v => s v + lap es F v)), a, b]) := by
  have fw := g.few
  obtain ⟨ρ', e, a, b, _, _, rfl⟩ := forS_run (it := itF (opF gIx (nmF 0) (kF (.int 1)))) (B := bT 2 (bCons (bN 4) (bCons (bN 5) bNil))) (g := b_fired_1)
    (ρ := [.d (encG n es), .d S, .d fd, .ow false (.lst (tk n s)), .un, .un]) (ρ1 := [.d (encG n es), .d S, .d fd, .ow false (.lst (tk n s)), .un, .un]) (xs := es.map encE)
    (fun k ρ => ∃ a b, light (some a) = true ∧ light (some b) = true ∧ ρ = [.d (encG n es), .d S, .d fd, .ow false (.lst (tk n fun v => s v + lap (es.take k) F v)), a, b])
    (by simp [itF, opF, nmF, kF, gIx_G1, seqItems]; omega) ⟨.un, .un, rfl, rfl, by simp [lap]⟩ (fun i x ρ hx hi => by
      obtain ⟨a, b, la, lb, rfl⟩ := hi
      rw [List.getElem?_map] at hx
      obtain ⟨e, he, rfl⟩ := Option.map_eq_some_iff.mp hx
      obtain ⟨h1, h2⟩ := g.lt e (List.mem_of_getElem? he)
      refine ⟨[.d (encG n es), .d S, .d fd, .ow false (.lst (tk n fun v => s v + lap (es.take i) F v)), .d (.int e.1), .d (.int e.2)], _, ?_, fired_body (es := es) (s := s) h1 h2 hF, .d (.int e.1), .d (.int e.2), rfl, rfl, ?_⟩
      · simp [bT, encE, bCons, bN, bNil, setSl_q, la, lb]
      · simp only [lap_take he, Int.add_assoc])
  refine ⟨a, b, ?_⟩
  have z : (es.map encE).length = es.length := List.length_map _
  rw [z, List.take_length] at e
  exact e
theorem fired_spec {n : Nat} {es : List (Nat × Nat)} {s F : Nat → Int} {fd : D} (g : GOk n es) (hF : ∀ v < n, gIx fd (.int (v : Nat)) = some (.int (F v))) :
    F_fired [.d (encG n es), .d (.tuple (tk n s)), .d fd] = some (.d (.tuple (tk n fun v => s v + lap es F v)), [.un, .un, .un]) := by
  obtain ⟨a, b, e⟩ := fired_loop (s := s) g hF (S := .tuple (tk n s))
  simp [F_fired, runF, f_fired, seqS, setOF, callOF, consF, nmF, nilF, gList, setSl, e, retF, callF, gTup, backA]
end G

set_option Elab.async false
set_option linter.all false
set_option maxRecDepth 100000
set_option maxHeartbeats 4000000
namespace G
open PySem PySem.Spec PyProof.Rows L2
/-! ### lists of numbers -/
def encL (L : List Nat) : List D := L.map fun v => PyData.int (v : Nat)
theorem encL_len {L : List Nat} : (encL L).length = L.length := by simp [encL]
theorem canLay_ints : ∀ ns : List Int, PyData.canLayAll0 (ns.map PyData.int) = true
  | [] => rfl
  | i :: r => by
    show (PyData.canLay0 (.int i) && PyData.canLayAll0 (r.map PyData.int)) = true
    rw [canLay_ints r]
    rfl
theorem depth_ints : ∀ ns : List Int, PyData.depthAll (ns.map PyData.int) ≤ 2
  | [] => by simp [PyData.depthAll]
  | i :: r => by
    have := depth_ints r
    simp only [List.map_cons, PyData.depthAll, PyData.depth]
    omega
theorem shaped_int {i : Int} : SeqAt.shaped (.int i) = true := by simp [SeqAt.shaped, PyData.canLay0, PyData.depth]
theorem shaped_lint {ns : List Int} : SeqAt.shaped (.list (ns.map PyData.int)) = true := by
  have h := depth_ints ns
  simp [SeqAt.shaped, PyData.canLay0, PyData.depth, canLay_ints]
  omega
theorem shaped_tint {ns : List Int} : SeqAt.shaped (.tuple (ns.map PyData.int)) = true := by
  have h := depth_ints ns
  simp [SeqAt.shaped, PyData.canLay0, PyData.depth, canLay_ints]
  omega
theorem anyE_ints {x : Int} : ∀ ns : List Int, anyE (.int x) (ns.map PyData.int) = decide (x ∈ ns)
  | [] => rfl
  | i :: r => by
    have ih := anyE_ints (x := x) r
    unfold anyE at ih ⊢
    rw [List.map_cons, List.any_cons, ih]
    simp [PyData.eqv]
    by_cases h : i = x
    · simp [h]
    · simp [h, Ne.symm h]
theorem encL_ints (L : List Nat) : encL L = (L.map fun (v : Nat) => (v : Int)).map PyData.int := by
  unfold encL
  rw [List.map_map]
  rfl
theorem gIn_L {x : Int} {L : List Nat} : gIn (.int x) (.list (encL L)) = some (.bool (decide (x ∈ L.map fun (v : Nat) => (v : Int)))) := by
  unfold gIn
  rw [encL_ints]
  dsimp only
  rw [shaped_int, shaped_lint, anyE_ints]
  rfl
theorem gNotIn_L {x : Int} {L : List Nat} : gNotIn (.int x) (.list (encL L)) = some (.bool (!decide (x ∈ L.map fun (v : Nat) => (v : Int)))) := by
  unfold gNotIn
  rw [encL_ints]
  dsimp only
  rw [shaped_int, shaped_lint, anyE_ints]
  rfl
theorem gIn_T {x : Int} {ns : List Int} : gIn (.int x) (.tuple (ns.map PyData.int)) = some (.bool (decide (x ∈ ns))) := by
  unfold gIn
  dsimp only
  rw [shaped_int, shaped_tint, anyE_ints]
  rfl
theorem gNotIn_T {x : Int} {ns : List Int} : gNotIn (.int x) (.tuple (ns.map PyData.int)) = some (.bool (!decide (x ∈ ns))) := by
  unfold gNotIn
  dsimp only
  rw [shaped_int, shaped_tint, anyE_ints]
  rfl
theorem gIn_E {x : Int} {e : Nat × Nat} : gIn (.int x) (encE e) = some (.bool (decide (x = e.1 ∨ x = e.2))) := by
  have := gIn_T (x := x) (ns := [(e.1 : Int), (e.2 : Int)])
  simp only [List.map_cons, List.map_nil, List.mem_cons, List.not_mem_nil, or_false] at this
  exact this
theorem ex_cast {v : Nat} {L : List Nat} : (∃ a, a ∈ L ∧ (a : Int) = (v : Int)) ↔ v ∈ L :=
  ⟨fun ⟨a, h, e⟩ => by
    have : a = v := by omega
    rw [← this]
    exact h, fun h => ⟨v, h, rfl⟩⟩
theorem mem_cast {v : Nat} {L : List Nat} : ((v : Int) ∈ L.map fun (v : Nat) => (v : Int)) ↔ v ∈ L := by
  rw [List.mem_map]
  exact ex_cast
/-! ### edges to -/
def hasE (v : Nat) (L : List Nat) (e : Nat × Nat) : Bool := (decide (e.1 = v) && decide (e.2 ∈ L)) || (decide (e.2 = v) && decide (e.1 ∈ L))
def eT (es : List (Nat × Nat)) (v : Nat) (L : List Nat) : Nat := (es.filter (hasE v L)).length
/-- an edge's datum, read back -/
def decE : D → Nat × Nat
  | .tuple [.int a, .int b] => (a.toNat, b.toNat)
  | _ => (0, 0)
theorem decE_enc (e : Nat × Nat) : decE (encE e) = e := rfl
theorem filter_enc (es : List (Nat × Nat)) (T : Nat × Nat → Bool) : ((es.map encE).filter fun x => T (decE x)) = (es.filter T).map encE := by
  rw [List.filter_map]
  rfl
theorem edges_spec {n : Nat} {es : List (Nat × Nat)} (g : GOk n es) (v : Nat) (L : List Nat) :
    F_edges_to [.d (encG n es), .d (.int v), .ow true (.lst (encL L))] = some (.d (.int (eT es v L : Nat)), [.un, .un, .ow true (.lst (encL L))]) := by
  have fw := g.few
  have hc : c_edges_to_1 [.d (encG n es), .d (.int v), .ow true (.lst (encL L)), .un] = some (.lst ((es.filter (hasE v L)).map encE), [.d (encG n es), .d (.int v), .ow true (.lst (encL L)), .un]) := by
    have := lcF_run (it := itF (opF gIx (nmF 0) (kF (.int 1)))) (B := bN 3) (t := andF (tsF (opF gIn (nmF 1) (nmF 3))) (tsF (opVF gIn (opF gSub (callF gSum (consF (nmF 3) (nilF))) (nmF 1)) 2))) (f := nmF 3) (own := [3])
      (ρ := [.d (encG n es), .d (.int v), .ow true (.lst (encL L)), .un]) (ρ1 := [.d (encG n es), .d (.int v), .ow true (.lst (encL L)), .un]) (xs := es.map encE) (fun x => hasE v L (decE x)) id
      (by simp [itF, opF, nmF, kF, gIx_G1, seqItems]; omega) (by rfl) (by rfl) (by rfl) (fun x hx => by
        obtain ⟨e, he, rfl⟩ := List.mem_map.mp hx
        obtain ⟨h1, h2⟩ := g.lt e he
        refine ⟨[.d (encG n es), .d (.int v), .ow true (.lst (encL L)), .d (encE e)], [.d (encG n es), .d (.int v), .ow true (.lst (encL L)), .d (encE e)], by simp [bN, setSl, wipeE], ?_, fun _ => ⟨by rfl, by rfl⟩, fun _ => ⟨_, by simp [nmF]; rfl, by rfl, by rfl⟩⟩
        have hs : gSum [encE e] = some (.int (e.1 + e.2)) := by simp [gSum, encE, intsOf]
        simp only [andF, tsF, opF, nmF, gIn_E, List.getElem?_cons_succ, List.getElem?_cons_zero, decE_enc]
        by_cases q1 : v = e.1
        · have q2 : ¬ v = e.2 := by omega
          subst q1
          have z : ((e.1 : Int) + e.2 - e.1) = (e.2 : Int) := by omega
          simp [opVF, opF, callF, consF, nilF, nmF, hs, gSub, iiI, vwF, vw, gIn_L, z, sca, hasE, ex_cast, show ¬ e.2 = e.1 by omega]
        · by_cases q2 : v = e.2
          · subst q2
            have z : ((e.1 : Int) + e.2 - e.2) = (e.1 : Int) := by omega
            simp [opVF, opF, callF, consF, nilF, nmF, hs, gSub, iiI, vwF, vw, gIn_L, z, sca, hasE, ex_cast, show ¬ e.1 = e.2 by omega]
          · have q1' : ¬ (v : Int) = e.1 := by omega
            have q2' : ¬ (v : Int) = e.2 := by omega
            simp [q1', q2', hasE, Ne.symm q1, Ne.symm q2])
    rw [filter_enc, List.map_id] at this
    exact this
  simp [F_edges_to, runF, f_edges_to, retF, callF, consF, frF, nilF, hc, gLen, backA, eT]
/-! ### Dhar's burning -/
theorem nodup_le : ∀ (n : Nat) (L : List Nat), L.Nodup → (∀ x ∈ L, x < n) → L.length ≤ n
  | 0, L, _, h => by
    cases L with
    | nil => exact Nat.le_refl _
    | cons x r => exact absurd (h x List.mem_cons_self) (by omega)
  | n + 1, L, nd, h => by
    by_cases hn : n ∈ L
    · have h1 := nodup_le n (L.erase n) (nd.erase n) fun x hx => by
        have := (nd.mem_erase_iff).mp hx
        have := h x this.2
        omega
      rw [List.length_erase_of_mem hn] at h1
      omega
    · have := nodup_le n L nd fun x hx => by
        have h2 := h x hx
        have : x ≠ n := fun e => hn (e ▸ hx)
        omega
      omega
theorem nodup_all {n : Nat} {L : List Nat} (nd : L.Nodup) (h : ∀ x ∈ L, x < n) (e : L.length = n) {v : Nat} (hv : v < n) : v ∈ L := by
  by_cases q : v ∈ L
  · exact q
  · have := nodup_le n (v :: L) (List.nodup_cons.mpr ⟨q, nd⟩) fun x hx => by
      rcases List.mem_cons.mp hx with rfl | hx
      · exact hv
      · exact h x hx
    simp at this
    omega
structure BI (n : Nat) (es : List (Nat × Nat)) (s : Nat → Int) (q : Nat) (L : List Nat) : Prop where
  hd : L[0]? = some q
  nd : L.Nodup
  lt : ∀ x ∈ L, x < n
  ord : ∀ (k v : Nat), 0 < k → L[k]? = some v → s v < (eT es v (L.take k) : Nat)
def Clo (n : Nat) (es : List (Nat × Nat)) (s : Nat → Int) (L : List Nat) : Prop := ∀ v < n, v ∉ L → ¬ s v < (eT es v L : Nat)
theorem BI.snoc {n : Nat} {es : List (Nat × Nat)} {s : Nat → Int} {q : Nat} {L : List Nat} (b : BI n es s q L) {v : Nat} (hv : v < n) (hn : v ∉ L) (h : s v < (eT es v L : Nat)) : BI n es s q (L ++ [v]) := by
  have pos : 0 < L.length := (List.getElem?_eq_some_iff.mp b.hd).1
  refine ⟨by rw [List.getElem?_append_left pos]; exact b.hd, ?_, fun x hx => ?_, fun k w hk e => ?_⟩
  · rw [List.nodup_append]
    refine ⟨b.nd, by simp, fun x hx y hy e => ?_⟩
    have e2 : y = v := by simpa using hy
    subst e2
    subst e
    exact hn hx
  · rcases List.mem_append.mp hx with hx | hx
    · exact b.lt x hx
    · have e2 : x = v := by simpa using hx
      rw [e2]
      exact hv
  · rcases Nat.lt_or_ge k L.length with hl | hl
    · rw [List.getElem?_append_left hl] at e
      rw [List.take_append_of_le_length (by omega)]
      exact b.ord k w hk e
    · have hl2 := (List.getElem?_eq_some_iff.mp e).1
      have e3 : k = L.length := by
        simp at hl2
        omega
      subst e3
      rw [List.getElem?_append_right (Nat.le_refl _)] at e
      simp at e
      subst e
      rw [List.take_append_of_le_length (Nat.le_refl _), List.take_length]
      exact h
end G

set_option Elab.async false
set_option linter.all false
set_option maxRecDepth 100000
set_option maxHeartbeats 4000000
namespace G
open PySem PySem.Spec PyProof.Rows L2
theorem rngD_get {n i : Nat} (h : i < n) : (rngD 0 1 n)[i]? = some (.int (i : Nat)) := by
  unfold rngD
  rw [List.getElem?_map, List.getElem?_range h]
  simp
theorem rngD_len {n : Nat} : (rngD 0 1 n).length = n := by simp [rngD]
theorem rngD_at {n i : Nat} {x : D} (h : (rngD 0 1 n)[i]? = some x) : i < n ∧ x = .int (i : Nat) := by
  have hi : i < n := by
    have := (List.getElem?_eq_some_iff.mp h).1
    rw [rngD_len] at this
    exact this
  rw [rngD_get hi] at h
  exact ⟨hi, (Option.some.inj h).symm⟩
section
variable {n : Nat} {es : List (Nat × Nat)} {s : Nat → Int} {q : Nat}
/-- the slots of burnt -/
def eB (n : Nat) (es : List (Nat × Nat)) (s : Nat → Int) (q : Nat) (L : List Nat) (b : Bool) (a : Sl) : Env := [.d (encG n es), .d (.tuple (tk n s)), .d (.int q), .ow false (.lst (encL L)), .d (.bool b), a]
theorem edges_call (g : GOk n es) (L : List Nat) (b : Bool) (v : Nat) :
    callD F_edges_to (adF (nmF 0) (adF (nmF 5) (aborF 3 (anilF)))) (eB n es s q L b (.d (.int v))) = some (.int (eT es v L : Nat), eB n es s q L b (.d (.int v))) := by
  simp [eB, callD, resS, adF, aborF, anilF, isSet, borKs, argSl, toSl, nmF, edges_spec g, putBack]
theorem encL_snoc {L : List Nat} {v : Nat} : encL L ++ [.int (v : Nat)] = encL (L ++ [v]) := by simp [encL]
theorem burnt_body (g : GOk n es) {L : List Nat} (hl : L.length ≤ 5) (b : Bool) {v : Nat} (hv : v < n) :
    b_burnt_1 (eB n es s q L b (.d (.int v))) = some (.nx (if v ∉ L ∧ s v < (eT es v L : Nat) then eB n es s q (L ++ [v]) true (.d (.int v)) else eB n es s q L b (.d (.int v)))) := by
  have h1 : nmF 5 (eB n es s q L b (.d (.int v))) = some (.int v, eB n es s q L b (.d (.int v))) := by simp [eB, nmF]
  have h2 : vwF 3 (eB n es s q L b (.d (.int v))) = some (.list (encL L)) := by simp [eB, vwF, vw]
  have h3 : nmF 1 (eB n es s q L b (.d (.int v))) = some (.tuple (tk n s), eB n es s q L b (.d (.int v))) := by simp [eB, nmF]
  have t1 : opVF gNotIn (nmF 5) 3 (eB n es s q L b (.d (.int v))) = some (.bool (!decide (v ∈ L)), eB n es s q L b (.d (.int v))) := by
    simp only [opVF, h1, h2, gNotIn_L, mem_cast, sca, if_true]
  have t2 : opF gLt (opF gIx (nmF 1) (nmF 5)) (callD F_edges_to (adF (nmF 0) (adF (nmF 5) (aborF 3 (anilF))))) (eB n es s q L b (.d (.int v))) = some (.bool (decide (s v < (eT es v L : Nat))), eB n es s q L b (.d (.int v))) := by
    have c3 : gLt (.int (s v)) (.int (eT es v L : Nat)) = some (.bool (decide (s v < (eT es v L : Nat)))) := by simp [gLt, orG, iiB]
    simp only [opF, h1, h3, gIx_tk hv, edges_call g, c3]
  have t3 : seqS (dropS (appF 3 (nmF 5))) (setF 4 (kF (.bool true))) (eB n es s q L b (.d (.int v))) = some (.nx (eB n es s q (L ++ [v]) true (.d (.int v)))) := by
    have hz : L.length < 10000000 := by omega
    simp [eB, seqS, dropS, appF, nmF, setF, kF, setSl, encL_snoc, encL_len, hz]
  have t : andF (tsF (opVF gNotIn (nmF 5) 3)) (tsF (opF gLt (opF gIx (nmF 1) (nmF 5)) (callD F_edges_to (adF (nmF 0) (adF (nmF 5) (aborF 3 (anilF))))))) (eB n es s q L b (.d (.int v))) = some (decide (v ∉ L ∧ s v < (eT es v L : Nat)), eB n es s q L b (.d (.int v))) := by
    unfold andF tsF
    rw [t1]
    by_cases c1 : v ∈ L
    · simp [c1]
    · simp [c1, t2]
  unfold b_burnt_1 ifS
  rw [t]
  by_cases c : v ∉ L ∧ s v < (eT es v L : Nat)
  · rw [decide_eq_true c, if_pos c]
    exact t3
  · rw [decide_eq_false c, if_neg c]
    rfl
theorem BI.len (g : GOk n es) {L : List Nat} (b : BI n es s q L) : L.length ≤ n := nodup_le n L b.nd b.lt
theorem burnt_for (g : GOk n es) {L : List Nat} {a : Sl} (la : light (some a) = true) (bi : BI n es s q L) :
    ∃ L' b' a', light (some a') = true ∧ l_burnt_1 (eB n es s q L false a) = some (.nx (eB n es s q L' b' a')) ∧ BI n es s q L' ∧ (b' = false → L' = L ∧ Clo n es s L) ∧ (b' = true → L.length < L'.length) := by
  have g5 := g.five
  obtain ⟨ρ', e, L', b', a', la', rfl, h1, h2, h3, h4⟩ := forS_run (it := rng1F (consF (opF gIx (nmF 0) (kF (.int 0))) (nilF))) (B := bN 5) (g := b_burnt_1) (ρ := eB n es s q L false a) (ρ1 := eB n es s q L false a) (xs := rngD 0 1 n)
    (fun i ρ => ∃ L' b' a', light (some a') = true ∧ ρ = eB n es s q L' b' a' ∧ BI n es s q L' ∧ L.length ≤ L'.length ∧ (b' = false → L' = L ∧ ∀ v < i, v ∉ L → ¬ s v < (eT es v L : Nat)) ∧ (b' = true → L.length < L'.length))
    (by simp [rng1F, consF, opF, nmF, kF, nilF, eB, gIx_G0]; omega) ⟨L, false, a, la, rfl, bi, Nat.le_refl _, fun _ => ⟨rfl, fun v h => absurd h (Nat.not_lt_zero v)⟩, fun z => nomatch z⟩ (fun i x ρ hx hi => by
      obtain ⟨L1, b1, a1, la1, rfl, k1, k2, k3, k4⟩ := hi
      obtain ⟨hi, rfl⟩ := rngD_at hx
      have hl := k1.len g
      refine ⟨eB n es s q L1 b1 (.d (.int i)), _, by simp [bN, eB, setSl_q, la1], burnt_body g (by omega) b1 hi, ?_⟩
      by_cases c : i ∉ L1 ∧ s i < (eT es i L1 : Nat)
      · rw [if_pos c]
        refine ⟨L1 ++ [i], true, _, rfl, rfl, k1.snoc hi c.1 c.2, by simp; omega, fun z => (nomatch z), fun _ => by simp; omega⟩
      · rw [if_neg c]
        refine ⟨L1, b1, _, rfl, rfl, k1, k2, fun z => ?_, k4⟩
        obtain ⟨z1, z2⟩ := k3 z
        refine ⟨z1, fun v hv hn => ?_⟩
        subst z1
        rcases Nat.lt_or_ge v i with h | h
        · exact z2 v h hn
        · have : v = i := by omega
          subst this
          exact fun z => c ⟨hn, z⟩)
  refine ⟨L', b', a', la', e, h1, fun z => ?_, h4⟩
  obtain ⟨z1, z2⟩ := h3 z
  rw [rngD_len] at z2
  exact ⟨z1, z2⟩
def mB (n : Nat) (ρ : Env) : Nat := match ρ with
  | [_, _, _, .ow _ (.lst xs), .d (.bool b), _] => 2 * (n - xs.length) + (if b then 1 else 0)
  | _ => 0
theorem burnt_spec (g : GOk n es) (hq : q < n) : ∃ L, F_burnt [.d (encG n es), .d (.tuple (tk n s)), .d (.int q)] = some (.ow false (.lst (encL L)), [.un, .un, .un]) ∧ BI n es s q L ∧ Clo n es s L := by
  have b0 : BI n es s q [q] := ⟨rfl, by simp, fun x hx => by rw [List.mem_singleton.mp hx]; exact hq, fun k v hk e => by
    cases k with
    | zero => omega
    | succ k => simp at e⟩
  have w := whileS_run (c := w_burnt_1) (g := b_burnt_2) (fun ρ => ∃ L b a, light (some a) = true ∧ ρ = eB n es s q L b a ∧ BI n es s q L ∧ (b = false → Clo n es s L)) (mB n)
    (fun ρ => ∃ L a, light (some a) = true ∧ ρ = eB n es s q L false a ∧ BI n es s q L ∧ Clo n es s L) (fun _ _ => False) (fun ρ h => by
      obtain ⟨L, b, a, la, rfl, k1, k2⟩ := h
      refine ⟨b, eB n es s q L b a, by simp [w_burnt_1, tsF, nmF, eB], fun z => ?_, fun z => .inl ?_⟩
      · subst z
        exact ⟨L, a, la, rfl, k1, k2 rfl⟩
      · subst z
        obtain ⟨L', b', a', la', e, m1, m2, m3⟩ := burnt_for g la k1
        refine ⟨eB n es s q L' b' a', ?_, ⟨L', b', a', la', rfl, m1, fun z => ?_⟩, ?_⟩
        · have z : setF 4 (kF (.bool false)) (eB n es s q L true a) = some (.nx (eB n es s q L false a)) := by simp [setF, kF, eB, setSl]
          simp [b_burnt_2, seqS, z, e]
        · obtain ⟨z1, z2⟩ := m2 z
          rw [z1]
          exact z2
        · have l1 := k1.len g
          have l2 := m1.len g
          cases b' with
          | false =>
            obtain ⟨z1, _⟩ := m2 rfl
            rw [z1]
            simp [mB, eB]
          | true =>
            have := m3 rfl
            simp only [mB, eB, encL_len, if_true]
            omega) _ (eB n es s q [q] true .un) (Nat.le_refl _) ⟨[q], true, .un, rfl, rfl, b0, fun z => nomatch z⟩
  rcases w with ⟨ρ', e, L, a, la, rfl, k1, k2⟩ | ⟨_, _, _, z⟩
  · refine ⟨L, ?_, k1, k2⟩
    have e' : l_burnt_2 (eB n es s q [q] true .un) = _ := e
    have e1 : encL [q] = [.int q] := rfl
    simp only [eB, e1] at e'
    simp [F_burnt, runF, f_burnt, seqS, setOF, lstF, consF, nmF, nilF, setSl, setF, kF, e', retNF, backA]
  · exact z.elim
theorem gEq_nat {a b : Nat} : gEq (.int (a : Nat)) (.int (b : Nat)) = some (.bool (decide (a = b))) := by
  show some (PyData.bool (decide ((a : Int) = b))) = _
  rw [show decide ((a : Int) = b) = decide (a = b) from decide_eq_decide.mpr (by omega)]
theorem burning_spec (g : GOk n es) (hq : q < n) : ∃ L, BI n es s q L ∧ Clo n es s L ∧ F_burning [.d (encG n es), .d (.tuple (tk n s)), .d (.int q)] = some (.d (if L.length = n then .tuple (encL L) else .none), [.un, .un, .un]) := by
  obtain ⟨L, e, k1, k2⟩ := burnt_spec (s := s) g hq
  refine ⟨L, k1, k2, ?_⟩
  have hgl : gLen [.list (encL L)] = some (.int (L.length : Nat)) := by simp [gLen, encL_len]
  have h1 : setF 3 (callD F_burnt (adF (nmF 0) (adF (nmF 1) (adF (nmF 2) (anilF))))) [.d (encG n es), .d (.tuple (tk n s)), .d (.int q), .un] = some (.nx [.d (encG n es), .d (.tuple (tk n s)), .d (.int q), .d (.list (encL L))]) := by
    simp [setF, callD, resS, adF, nmF, anilF, borKs, argSl, toSl, e, putBack, setSl]
  have h2 : tsF (opF gEq (callF gLen (consF (nmF 3) (nilF))) (opF gIx (nmF 0) (kF (.int 0)))) [.d (encG n es), .d (.tuple (tk n s)), .d (.int q), .d (.list (encL L))] = some (decide (L.length = n), [.d (encG n es), .d (.tuple (tk n s)), .d (.int q), .d (.list (encL L))]) := by
    simp [tsF, opF, callF, consF, nmF, nilF, hgl, gIx_G0, kF, gEq_nat]
  by_cases c : L.length = n
  · rw [decide_eq_true c] at h2
    rw [if_pos c]
    simp [F_burning, runF, f_burning, seqS, h1, retF, ifF, h2, callF, consF, nilF, nmF, gTup, backA]
  · rw [decide_eq_false c] at h2
    rw [if_neg c]
    simp [F_burning, runF, f_burning, seqS, h1, retF, ifF, h2, kF, backA]
end
end G

set_option Elab.async false
set_option linter.all false
set_option maxRecDepth 100000
set_option maxHeartbeats 4000000
namespace G
open PySem PySem.Spec PyProof.Rows L2
/-! ### layers -/
def encK (K : List (Nat × Nat)) : List (D × D) := K.map fun p => (PyData.int (p.1 : Nat), PyData.int (p.2 : Nat))
theorem kEq_nat {a b : Nat} : kEq (.int (a : Nat)) (.int (b : Nat)) = decide (a = b) := by
  show decide ((a : Int) = b) = _
  exact decide_eq_decide.mpr (by omega)
theorem dfind_K {v : Nat} : ∀ K : List (Nat × Nat), dfind (.int (v : Nat)) (encK K) = (K.lookup v).map fun (d : Nat) => PyData.int (d : Nat)
  | [] => rfl
  | p :: K => by
    have ih := dfind_K (v := v) K
    show (if kEq (.int (p.1 : Nat)) (.int (v : Nat)) then some (PyData.int (p.2 : Nat)) else dfind _ (encK K)) = _
    rw [kEq_nat, ih, List.lookup_cons]
    by_cases h : p.1 = v
    · subst h
      simp
    · have : (v == p.1) = false := by simpa using Ne.symm h
      simp [h, this]
theorem lookup_snoc {v w d : Nat} : ∀ K : List (Nat × Nat), K.lookup w = none → (K ++ [(w, d)]).lookup v = if v = w then some d else K.lookup v
  | [], _ => by
    show (match v == w with | true => some d | false => none) = _
    by_cases h : v = w
    · simp [h]
    · have : (v == w) = false := by simpa using h
      simp [h, this]
  | p :: K, hn => by
    rw [List.lookup_cons] at hn
    have hw : (w == p.1) = false := by
      cases q : (w == p.1) with
      | true => rw [q] at hn; cases hn
      | false => rfl
    rw [hw] at hn
    have ih := lookup_snoc (v := v) (d := d) K hn
    rw [List.cons_append, List.lookup_cons, List.lookup_cons, ih]
    by_cases h : v = p.1
    · have h2 : v ≠ w := fun e => by
        rw [← e, h] at hw
        simp at hw
      have : (v == p.1) = true := by simpa using h
      simp [this, h2]
    · have : (v == p.1) = false := by simpa using h
      simp [this]
def adj (es : List (Nat × Nat)) (v w : Nat) : Prop := (v, w) ∈ es ∨ (w, v) ∈ es
/-- what the search knows -/
structure LI (n : Nat) (es : List (Nat × Nat)) (q : Nat) (K : List (Nat × Nat)) : Prop where
  nd : (K.map (·.1)).Nodup
  lt : ∀ p ∈ K, p.1 < n
  q0 : K.lookup q = some 0
  back : ∀ v d, K.lookup v = some d → v ≠ q → ∃ u, adj es v u ∧ K.lookup u = some (d - 1) ∧ 1 ≤ d
  sm : ∀ v d, K.lookup v = some d → d < K.length
theorem lookup_none {v : Nat} : ∀ {K : List (Nat × Nat)}, K.lookup v = none → v ∉ K.map (·.1)
  | [], _ => by simp
  | p :: K, h => by
    rw [List.lookup_cons] at h
    cases q : (v == p.1) with
    | true => rw [q] at h; cases h
    | false =>
      rw [q] at h
      have := lookup_none h
      simp only [List.map_cons, List.mem_cons, not_or]
      exact ⟨by simpa using q, this⟩
theorem LI.len {n : Nat} {es : List (Nat × Nat)} {q : Nat} {K : List (Nat × Nat)} (l : LI n es q K) : K.length ≤ n := by
  have := nodup_le n (K.map (·.1)) l.nd fun x hx => by
    obtain ⟨p, hp, rfl⟩ := List.mem_map.mp hx
    exact l.lt p hp
  simpa using this
theorem LI.snoc {n : Nat} {es : List (Nat × Nat)} {q : Nat} {K : List (Nat × Nat)} (l : LI n es q K) {v w d : Nat} (hv : K.lookup v = some d) (hw : K.lookup w = none) (hn : w < n) (ha : adj es w v) : LI n es q (K ++ [(w, d + 1)]) := by
  refine ⟨?_, fun p hp => ?_, ?_, fun x e hx hq => ?_, fun x e hx => ?_⟩
  · rw [List.map_append, List.nodup_append]
    refine ⟨l.nd, by simp, fun a ha' b hb e => ?_⟩
    have : b = w := by simpa using hb
    subst this
    subst e
    exact lookup_none hw ha'
  · rcases List.mem_append.mp hp with hp | hp
    · exact l.lt p hp
    · have : p = (w, d + 1) := by simpa using hp
      rw [this]
      exact hn
  · rw [lookup_snoc K hw]
    have : q ≠ w := fun e => by
      have := l.q0
      rw [e, hw] at this
      cases this
    rw [if_neg this]
    exact l.q0
  · rw [lookup_snoc K hw] at hx
    by_cases h : x = w
    · rw [if_pos h] at hx
      cases hx
      refine ⟨v, by rw [h]; exact ha, ?_, by omega⟩
      rw [lookup_snoc K hw, if_neg (fun e => by rw [e, hw] at hv; cases hv)]
      simpa using hv
    · rw [if_neg h] at hx
      obtain ⟨u, h1, h2, h3⟩ := l.back x e hx hq
      refine ⟨u, h1, ?_, h3⟩
      rw [lookup_snoc K hw, if_neg (fun e => by rw [e, hw] at h2; cases h2)]
      exact h2
  · rw [lookup_snoc K hw] at hx
    have h1 := l.sm v d hv
    rw [List.length_append]
    by_cases h : x = w
    · rw [if_pos h] at hx
      cases hx
      simp
      omega
    · rw [if_neg h] at hx
      have := l.sm x e hx
      simp
      omega
section
variable {n : Nat} {es : List (Nat × Nat)} {q : Nat}
def eL (n : Nat) (es : List (Nat × Nat)) (q : Nat) (K : List (Nat × Nat)) (W : List Nat) (v : Sl) (a b c : Sl) : Env := [.d (encG n es), .d (.int q), .ow false (.dct false (encK K)), .ow false (.lst (encL W)), v, a, b, c]
theorem gIn_ij {x : Int} {i j : Nat} : gIn (.int x) (.tuple [.int i, .int j]) = some (.bool (decide (x = i ∨ x = j))) := gIn_E (e := (i, j))
theorem encK_snoc {K : List (Nat × Nat)} {w d : Nat} : encK K ++ [(.int (w : Nat), .int (d : Nat))] = encK (K ++ [(w, d)]) := by simp [encK]
/-- one edge -/
theorem layers_body (g : GOk n es) {K : List (Nat × Nat)} {W : List Nat} {v dv : Nat} (hv : K.lookup v = some dv) (hK : K.length ≤ 5) (hW : W.length ≤ 1000) {e : Nat × Nat} {c : Sl} (lc : light (some c) = true) :
    ∃ c', light (some c') = true ∧ b_layers_1 (eL n es q K W (.d (.int v)) (.d (.int e.1)) (.d (.int e.2)) c) = some (.nx (
      if e.1 = v ∧ K.lookup e.2 = none then eL n es q (K ++ [(e.2, dv + 1)]) (W ++ [e.2]) (.d (.int v)) (.d (.int e.1)) (.d (.int e.2)) c'
      else if e.2 = v ∧ K.lookup e.1 = none then eL n es q (K ++ [(e.1, dv + 1)]) (W ++ [e.1]) (.d (.int v)) (.d (.int e.1)) (.d (.int e.2)) c'
      else eL n es q K W (.d (.int v)) (.d (.int e.1)) (.d (.int e.2)) c')) := by
  have hz : W.length < 10000000 := by omega
  have hz2 : (encK K).length < 10000000 := by simp [encK]; omega
  have hget : dfind (.int (v : Nat)) (encK K) = some (.int (dv : Nat)) := by rw [dfind_K, hv]; rfl
  have set7 : setF 7 (opF gSub (opF gAdd (nmF 5) (nmF 6)) (nmF 4)) (eL n es q K W (.d (.int v)) (.d (.int e.1)) (.d (.int e.2)) c) = some (.nx (eL n es q K W (.d (.int v)) (.d (.int e.1)) (.d (.int e.2)) (.d (.int ((e.1 : Int) + e.2 - v))))) := by
    simp [setF, opF, nmF, eL, gAdd, gSub, orG, iiI, setSl_q, lc]
  refine ⟨.d (.int ((e.1 : Int) + e.2 - v)), rfl, ?_⟩
  unfold b_layers_1 seqS
  rw [set7]
  dsimp only
  have t1 : tsF (opF gIn (nmF 4) (tupF (consF (nmF 5) (consF (nmF 6) (nilF))))) (eL n es q K W (.d (.int v)) (.d (.int e.1)) (.d (.int e.2)) (.d (.int ((e.1 : Int) + e.2 - v)))) = some (decide ((v : Int) = e.1 ∨ (v : Int) = e.2), eL n es q K W (.d (.int v)) (.d (.int e.1)) (.d (.int e.2)) (.d (.int ((e.1 : Int) + e.2 - v)))) := by
    simp [tsF, opF, tupF, consF, nmF, nilF, eL, gIn_ij]
  have put : ∀ w : Nat, (e.1 : Int) + e.2 - v = w → K.lookup w = none → (fun ρ => match dputF 2 (nmF 7) (opF gAdd (dixF 2 (nmF 4)) (kF (.int 1))) ρ with
      | some (.nx ρ1) => dropS (appF 3 (nmF 7)) ρ1
      | r => r) (eL n es q K W (.d (.int v)) (.d (.int e.1)) (.d (.int e.2)) (.d (.int ((e.1 : Int) + e.2 - v)))) = some (.nx (eL n es q (K ++ [(w, dv + 1)]) (W ++ [w]) (.d (.int v)) (.d (.int e.1)) (.d (.int e.2)) (.d (.int ((e.1 : Int) + e.2 - v))))) := fun w hw hn => by
    have hd : dfind (.int (w : Nat)) (encK K) = none := by rw [dfind_K, hn]; rfl
    have hp : dput (.int (w : Nat)) (.int ((dv : Int) + 1)) (encK K) = encK (K ++ [(w, dv + 1)]) := by
      unfold dput
      rw [hd]
      simp [encK]
    rw [hw]
    simp [dputF, opF, dixF, nmF, kF, eL, keyOf, hget, gAdd, orG, iiI, hz2, hp, dropS, appF, encL_len, hz, encL_snoc]
  have din : ∀ w : Nat, (e.1 : Int) + e.2 - v = w → tsF (dinF true (nmF 7) 2) (eL n es q K W (.d (.int v)) (.d (.int e.1)) (.d (.int e.2)) (.d (.int ((e.1 : Int) + e.2 - v)))) = some (!(K.lookup w).isSome, eL n es q K W (.d (.int v)) (.d (.int e.1)) (.d (.int e.2)) (.d (.int ((e.1 : Int) + e.2 - v)))) := fun w hw => by
    rw [hw]
    simp [tsF, dinF, nmF, eL, keyOf, dfind_K]
  unfold ifS andF
  rw [t1]
  have one : ∀ w : Nat, (e.1 : Int) + e.2 - v = w → ((v : Int) = e.1 ∨ (v : Int) = e.2) → (match (match (some (decide ((v : Int) = e.1 ∨ (v : Int) = e.2), eL n es q K W (.d (.int v)) (.d (.int e.1)) (.d (.int e.2)) (.d (.int ((e.1 : Int) + e.2 - v)))) : Option (Bool × Env)) with
      | none => none
      | some (true, ρ1) => tsF (dinF true (nmF 7) 2) ρ1
      | some (false, ρ1) => some (false, ρ1)) with
      | none => none
      | some (true, ρ1) => (match dputF 2 (nmF 7) (opF gAdd (dixF 2 (nmF 4)) (kF (.int 1))) ρ1 with
        | some (.nx ρ1) => dropS (appF 3 (nmF 7)) ρ1
        | r => r)
      | some (false, ρ1) => nxS ρ1) = some (.nx (if K.lookup w = none then eL n es q (K ++ [(w, dv + 1)]) (W ++ [w]) (.d (.int v)) (.d (.int e.1)) (.d (.int e.2)) (.d (.int ((e.1 : Int) + e.2 - v))) else eL n es q K W (.d (.int v)) (.d (.int e.1)) (.d (.int e.2)) (.d (.int ((e.1 : Int) + e.2 - v))))) := fun w hw hc => by
    rw [decide_eq_true hc]
    dsimp only
    rw [din w hw]
    by_cases hn : K.lookup w = none
    · rw [hn, if_pos rfl]
      exact put w hw hn
    · rw [if_neg hn]
      obtain ⟨d, hd⟩ := Option.ne_none_iff_exists'.mp hn
      rw [hd]
      rfl
  by_cases c1 : e.1 = v
  · have h := one e.2 (by omega) (.inl (by omega))
    refine h.trans ?_
    by_cases c2 : K.lookup e.2 = none
    · rw [if_pos c2, if_pos ⟨c1, c2⟩]
    · rw [if_neg c2, if_neg fun z => c2 z.2, if_neg]
      rintro ⟨z1, z2⟩
      rw [c1, hv] at z2
      cases z2
  · by_cases c2 : e.2 = v
    · have h := one e.1 (by omega) (.inr (by omega))
      refine h.trans ?_
      by_cases c3 : K.lookup e.1 = none
      · rw [if_pos c3, if_neg fun z => c1 z.1, if_pos ⟨c2, c3⟩]
      · rw [if_neg c3, if_neg fun z => c1 z.1, if_neg fun z => c3 z.2]
    · rw [decide_eq_false (by omega), if_neg fun z => c1 z.1, if_neg fun z => c2 z.1]
      rfl
end
end G

set_option Elab.async false
set_option linter.all false
set_option maxRecDepth 100000
set_option maxHeartbeats 4000000
namespace G
open PySem PySem.Spec PyProof.Rows L2
theorem GOk.reach {n : Nat} {es : List (Nat × Nat)} (g : GOk n es) {A : Nat → Prop} (cl : ∀ x y, A x → adj es x y → A y) {q : Nat} (hq : q < n) (ha : A q) : ∀ v < n, A v := by
  have down : ∀ m v, v ≤ m → v < n → A v → A 0 := by
    intro m
    induction m with
    | zero =>
      intro v h _ hv
      have : v = 0 := by omega
      rw [← this]
      exact hv
    | succ m ih =>
      intro v h hn hv
      by_cases z : v = 0
      · rw [← z]; exact hv
      · obtain ⟨e, he, e2⟩ := g.tree v (by omega) hn
        have h1 := (g.lt e he).1
        exact ih e.1 (by omega) (by omega) (cl v e.1 hv (.inr (by rw [← e2]; exact he)))
  have h0 := down q q (Nat.le_refl _) hq ha
  have upw : ∀ m v, v ≤ m → v < n → A v := by
    intro m
    induction m with
    | zero =>
      intro v h _
      have : v = 0 := by omega
      rw [this]
      exact h0
    | succ m ih =>
      intro v h hn
      by_cases z : v = 0
      · rw [z]; exact h0
      · obtain ⟨e, he, e2⟩ := g.tree v (by omega) hn
        have h1 := (g.lt e he).1
        exact cl e.1 v (ih e.1 (by omega) (by omega)) (.inl (by rw [← e2]; exact he))
  exact fun v hv => upw v v (Nat.le_refl _) hv
section
variable {n : Nat} {es : List (Nat × Nat)} {q : Nat}
theorem lookup_some_mem {v : Nat} : ∀ {K : List (Nat × Nat)}, v ∈ K.map (·.1) → K.lookup v ≠ none
  | K, h, e => lookup_none e h
structure FI (n : Nat) (es : List (Nat × Nat)) (q v : Nat) (K0 : List (Nat × Nat)) (W0 : List Nat) (i : Nat) (K : List (Nat × Nat)) (W : List Nat) : Prop where
  li : LI n es q K
  ext : ∀ x d, K0.lookup x = some d → K.lookup x = some d
  new : ∀ x, K.lookup x ≠ none → K0.lookup x ≠ none ∨ x ∈ W
  sub : ∀ x ∈ W0, x ∈ W
  inK : ∀ x ∈ W, K.lookup x ≠ none
  ms : 2 * (n - K.length) + W.length ≤ 2 * (n - K0.length) + W0.length
  seen : ∀ (j : Nat) (e : Nat × Nat), j < i → es[j]? = some e → (e.1 = v → K.lookup e.2 ≠ none) ∧ (e.2 = v → K.lookup e.1 ≠ none)
theorem FI.add {v dv i w : Nat} {K0 K : List (Nat × Nat)} {W0 W : List Nat} {e : Nat × Nat} (f : FI n es q v K0 W0 i K W) (he : es[i]? = some e) (hv : K.lookup v = some dv) (hw : K.lookup w = none) (hn : w < n) (ha : adj es w v) (hz : (e.1 = v → e.2 = w) ∧ (e.2 = v → e.1 = w)) :
    FI n es q v K0 W0 (i + 1) (K ++ [(w, dv + 1)]) (W ++ [w]) := by
  have li := f.li.snoc hv hw hn ha
  have l1 := li.len
  have keep : ∀ x, K.lookup x ≠ none → (K ++ [(w, dv + 1)]).lookup x ≠ none := fun x hx => by
    rw [lookup_snoc K hw]
    by_cases h : x = w
    · rw [if_pos h]; simp
    · rw [if_neg h]; exact hx
  have at_w : (K ++ [(w, dv + 1)]).lookup w ≠ none := by
    rw [lookup_snoc K hw, if_pos rfl]; simp
  refine ⟨li, fun x d hx => ?_, fun x hx => ?_, fun x hx => List.mem_append_left _ (f.sub x hx), fun x hx => ?_, ?_, fun j e' hj he' => ?_⟩
  · rw [lookup_snoc K hw]
    have := f.ext x d hx
    rw [if_neg fun z => by rw [z, hw] at this; cases this]
    exact this
  · rw [lookup_snoc K hw] at hx
    by_cases h : x = w
    · exact .inr (by rw [h]; simp)
    · rw [if_neg h] at hx
      exact (f.new x hx).imp id fun z => List.mem_append_left _ z
  · rcases List.mem_append.mp hx with hx | hx
    · exact keep x (f.inK x hx)
    · have : x = w := by simpa using hx
      rw [this]; exact at_w
  · have := f.ms
    simp at l1 ⊢
    omega
  · rcases Nat.lt_or_ge j i with h | h
    · obtain ⟨s1, s2⟩ := f.seen j e' h he'
      exact ⟨fun z => keep _ (s1 z), fun z => keep _ (s2 z)⟩
    · have : j = i := by omega
      subst this
      rw [he] at he'
      cases he'
      exact ⟨fun z => by rw [hz.1 z]; exact at_w, fun z => by rw [hz.2 z]; exact at_w⟩
theorem FI.skip {v i : Nat} {K0 K : List (Nat × Nat)} {W0 W : List Nat} {e : Nat × Nat} (f : FI n es q v K0 W0 i K W) (he : es[i]? = some e) (h1 : e.1 = v → K.lookup e.2 ≠ none) (h2 : e.2 = v → K.lookup e.1 ≠ none) : FI n es q v K0 W0 (i + 1) K W := by
  refine ⟨f.li, f.ext, f.new, f.sub, f.inK, f.ms, fun j e' hj he' => ?_⟩
  rcases Nat.lt_or_ge j i with h | h
  · exact f.seen j e' h he'
  · have : j = i := by omega
    subst this
    rw [he] at he'
    cases he'
    exact ⟨h1, h2⟩
theorem layers_for (g : GOk n es) {K0 : List (Nat × Nat)} {W0 : List Nat} {v dv : Nat} {a b c : Sl} (hv : K0.lookup v = some dv) (l0 : LI n es q K0) (w0 : ∀ x ∈ W0, K0.lookup x ≠ none) (hm : 2 * (n - K0.length) + W0.length ≤ 1000)
    (la : light (some a) = true) (lb : light (some b) = true) (lc : light (some c) = true) :
    ∃ K W a' b' c', light (some a') = true ∧ light (some b') = true ∧ light (some c') = true ∧ l_layers_1 (eL n es q K0 W0 (.d (.int v)) a b c) = some (.nx (eL n es q K W (.d (.int v)) a' b' c')) ∧ FI n es q v K0 W0 es.length K W := by
  have fw := g.few
  have g5 := g.five
  obtain ⟨ρ', e, K, W, a', b', c', la', lb', lc', rfl, f⟩ := forS_run (it := itF (opF gIx (nmF 0) (kF (.int 1)))) (B := bT 2 (bCons (bN 5) (bCons (bN 6) bNil))) (g := b_layers_1) (ρ := eL n es q K0 W0 (.d (.int v)) a b c) (ρ1 := eL n es q K0 W0 (.d (.int v)) a b c) (xs := es.map encE)
    (fun i ρ => ∃ K W a' b' c', light (some a') = true ∧ light (some b') = true ∧ light (some c') = true ∧ ρ = eL n es q K W (.d (.int v)) a' b' c' ∧ FI n es q v K0 W0 i K W)
    (by simp [itF, opF, nmF, kF, eL, gIx_G1, seqItems]; omega) ⟨K0, W0, a, b, c, la, lb, lc, rfl, ⟨l0, fun _ _ h => h, fun x h => .inl h, fun _ h => h, w0, Nat.le_refl _, fun j _ h => absurd h (Nat.not_lt_zero j)⟩⟩ (fun i x ρ hx hi => by
      obtain ⟨K, W, a1, b1, c1, la1, lb1, lc1, rfl, f⟩ := hi
      rw [List.getElem?_map] at hx
      obtain ⟨e, he, rfl⟩ := Option.map_eq_some_iff.mp hx
      have hmem := List.mem_of_getElem? he
      obtain ⟨h1, h2⟩ := g.lt e hmem
      have hvK := f.ext v dv hv
      have lK := f.li.len
      have ms := f.ms
      obtain ⟨c2, lc2, hb⟩ := layers_body (q := q) (W := W) (e := e) (c := c1) g hvK (by omega) (by omega) lc1
      refine ⟨eL n es q K W (.d (.int v)) (.d (.int e.1)) (.d (.int e.2)) c1, _, by simp [bT, encE, bCons, bN, bNil, eL, setSl_q, la1, lb1], hb, ?_⟩
      by_cases k1 : e.1 = v ∧ K.lookup e.2 = none
      · rw [if_pos k1]
        exact ⟨_, _, .d (.int e.1), .d (.int e.2), c2, rfl, rfl, lc2, rfl, f.add he hvK k1.2 h2 (.inr (by rw [← k1.1]; exact hmem)) ⟨fun _ => rfl, fun z => by have := k1.1; omega⟩⟩
      · rw [if_neg k1]
        by_cases k2 : e.2 = v ∧ K.lookup e.1 = none
        · rw [if_pos k2]
          exact ⟨_, _, .d (.int e.1), .d (.int e.2), c2, rfl, rfl, lc2, rfl, f.add he hvK k2.2 (by omega) (.inl (by rw [← k2.1]; exact hmem)) ⟨fun z => by have := k2.1; omega, fun _ => rfl⟩⟩
        · rw [if_neg k2]
          exact ⟨_, _, .d (.int e.1), .d (.int e.2), c2, rfl, rfl, lc2, rfl, f.skip he (fun z w => k1 ⟨z, w⟩) (fun z w => k2 ⟨z, w⟩)⟩)
  refine ⟨K, W, a', b', c', la', lb', lc', e, ?_⟩
  rw [List.length_map] at f
  exact f
def mL (n : Nat) (ρ : Env) : Nat := match ρ with
  | [_, _, .ow _ (.dct _ ks), .ow _ (.lst xs), _, _, _, _] => 2 * (n - ks.length) + xs.length
  | _ => 0
/-- what layers tells -/
structure Lay (n : Nat) (es : List (Nat × Nat)) (q : Nat) (K : List (Nat × Nat)) (far : Nat → Nat) : Prop where
  all : ∀ v < n, K.lookup v = some (far v)
  lt : ∀ p ∈ K, p.1 < n ∧ p.2 = far p.1
  q0 : far q = 0
  back : ∀ v < n, v ≠ q → ∃ u, u < n ∧ adj es v u ∧ far u + 1 = far v
  len : K.length ≤ n
  sm : ∀ v < n, far v < n
theorem lookup_mem : ∀ {K : List (Nat × Nat)} {p : Nat × Nat}, (K.map (·.1)).Nodup → p ∈ K → K.lookup p.1 = some p.2
  | [], p, _, h => nomatch h
  | r :: K, p, nd, h => by
    rw [List.map_cons, List.nodup_cons] at nd
    rw [List.lookup_cons]
    rcases List.mem_cons.mp h with e | h
    · rw [e]
      simp
    · have : (p.1 == r.1) = false := by
        have : p.1 ≠ r.1 := fun z => nd.1 (by rw [← z]; exact List.mem_map.mpr ⟨p, h, rfl⟩)
        simpa using this
      rw [this]
      exact lookup_mem nd.2 h
theorem layers_spec (g : GOk n es) (hq : q < n) : ∃ K far, F_layers [.d (encG n es), .d (.int q)] = some (.ow false (.dct false (encK K)), [.un, .un]) ∧ Lay n es q K far := by
  have g5 := g.five
  have w := whileS_run (c := w_layers_1) (g := b_layers_2) (fun ρ => ∃ K W v a b c, light (some v) = true ∧ light (some a) = true ∧ light (some b) = true ∧ light (some c) = true ∧ ρ = eL n es q K W v a b c ∧ LI n es q K ∧ (∀ x ∈ W, K.lookup x ≠ none) ∧
      (∀ x, K.lookup x ≠ none → x ∉ W → ∀ y, adj es x y → K.lookup y ≠ none) ∧ 2 * (n - K.length) + W.length ≤ 1000) (mL n)
    (fun ρ => ∃ K v a b c, ρ = eL n es q K [] v a b c ∧ LI n es q K ∧ ∀ x, K.lookup x ≠ none → ∀ y, adj es x y → K.lookup y ≠ none) (fun _ _ => False) (fun ρ h => by
      obtain ⟨K, W, v, a, b, c, lv, la, lb, lc, rfl, li, h1, h2, h3⟩ := h
      cases W with
      | nil =>
        refine ⟨false, eL n es q K [] v a b c, ?_, fun _ => ⟨K, v, a, b, c, rfl, li, fun x hx y hy => h2 x hx (by simp) y hy⟩, fun z => nomatch z⟩
        simp [w_layers_1, tsF, opF, callVF, eL, vwF, vw, encL, gLen, sca, kF, gGt, iiB]
      | cons x W =>
        have hx := h1 x List.mem_cons_self
        obtain ⟨dx, hdx⟩ := Option.ne_none_iff_exists'.mp hx
        refine ⟨true, eL n es q K (x :: W) v a b c, ?_, fun z => (nomatch z), fun _ => .inl ?_⟩
        · have : ((0 : Int) < (W.length : Int) + 1) := by omega
          simp [w_layers_1, tsF, opF, callVF, eL, vwF, vw, encL, gLen, sca, kF, gGt, iiB, this]
        · have pop : setF 4 (popAtF 3 (kF (.int 0))) (eL n es q K (x :: W) v a b c) = some (.nx (eL n es q K W (.d (.int x)) a b c)) := by
            have hi : ixN (W.length + 1) (0 : Int) = some 0 := ixN_nat (v := 0) (by omega)
            simp [setF, popAtF, kF, eL, encL, hi, setSl_q, lv]
          obtain ⟨K2, W2, a', b', c', la', lb', lc', e, f⟩ := layers_for (c := c) g hdx li (fun y hy => h1 y (List.mem_cons_of_mem _ hy)) (by simp at h3; omega) la lb lc
          refine ⟨_, by unfold b_layers_2 seqS; rw [pop]; exact e, ⟨K2, W2, .d (.int x), a', b', c', rfl, la', lb', lc', rfl, f.li, f.inK, fun y hy hn z hz => ?_, by have := f.ms; simp at h3; omega⟩, ?_⟩
          · by_cases hyx : y = x
            · subst hyx
              rcases hz with hz | hz
              · obtain ⟨j, hj, e2⟩ := List.mem_iff_getElem.mp hz
                exact (f.seen j (y, z) hj (by rw [List.getElem?_eq_getElem hj, e2])).1 rfl
              · obtain ⟨j, hj, e2⟩ := List.mem_iff_getElem.mp hz
                exact (f.seen j (z, y) hj (by rw [List.getElem?_eq_getElem hj, e2])).2 rfl
            · rcases f.new y hy with o | o
              · have := h2 y o (fun m => by
                  rcases List.mem_cons.mp m with m | m
                  · exact hyx m
                  · exact hn (f.sub y m)) z hz
                obtain ⟨d, hd⟩ := Option.ne_none_iff_exists'.mp this
                rw [f.ext z d hd]
                simp
              · exact absurd o hn
          · have := f.ms
            simp only [mL, eL, encK, encL, List.length_map, List.length_cons]
            omega) _ (eL n es q [(q, 0)] [q] .un .un .un .un) (Nat.le_refl _) ⟨[(q, 0)], [q], .un, .un, .un, .un, rfl, rfl, rfl, rfl, rfl, ⟨by simp, by simp [hq], by simp, fun v d h hn => (by
        rw [List.lookup_cons] at h
        have : (v == q) = false := by simpa using hn
        rw [this] at h
        cases h), fun v d h => (by
        rw [List.lookup_cons] at h
        split at h
        · cases h
          simp
        · cases h)⟩, by simp, fun x hx hn => by
        simp at hn
        rw [List.lookup_cons] at hx
        have : (x == q) = false := by simpa using hn
        rw [this] at hx
        exact absurd rfl hx, by simp; omega⟩
  rcases w with ⟨ρ', e, K, v, a, b, c, rfl, li, cl⟩ | ⟨_, _, _, z⟩
  · refine ⟨K, fun v => (K.lookup v).getD 0, ?_, ?_⟩
    · have e' : l_layers_2 (eL n es q [(q, 0)] [q] .un .un .un .un) = _ := e
      have e1 : encL [q] = [.int q] := rfl
      have e2 : encK [(q, 0)] = [(.int q, .int 0)] := rfl
      simp only [eL, e1, e2] at e'
      simp [F_layers, runF, f_layers, seqS, setOF, dsp1F, nmF, kF, keyOf, setSl, lstF, consF, nilF, e', retNF, backA]
    · have all := g.reach (A := fun v => K.lookup v ≠ none) (fun x y hx hy => cl x hx y hy) hq (by rw [li.q0]; simp)
      have at' : ∀ v < n, K.lookup v = some ((K.lookup v).getD 0) := fun v hv => by
        obtain ⟨d, hd⟩ := Option.ne_none_iff_exists'.mp (all v hv)
        rw [hd]
        rfl
      refine ⟨at', fun p hp => ⟨li.lt p hp, by rw [lookup_mem li.nd hp]; rfl⟩, by rw [li.q0]; rfl, fun v hv hn => ?_, li.len, fun v hv => Nat.lt_of_lt_of_le (li.sm v _ (at' v hv)) li.len⟩
      obtain ⟨u, h1, h2, h3⟩ := li.back v _ (at' v hv) hn
      refine ⟨u, ?_, h1, by rw [h2]; show (K.lookup v).getD 0 - 1 + 1 = _; omega⟩
      rcases h1 with h1 | h1
      · exact (g.lt _ h1).2
      · have := g.lt _ h1
        exact Nat.lt_trans this.1 this.2
  · exact z.elim
end
end G

set_option Elab.async false
set_option linter.all false
set_option maxRecDepth 100000
set_option maxHeartbeats 4000000
namespace G
open PySem PySem.Spec PyProof.Rows L2
section
variable {n : Nat} {es : List (Nat × Nat)} {q : Nat} {s F : Nat → Int} {K : List (Nat × Nat)} {far : Nat → Nat}
def eR (n : Nat) (es : List (Nat × Nat)) (s : Nat → Int) (q : Nat) (K : List (Nat × Nat)) (F : Nat → Int) (l h f v a : Sl) : Env :=
  [.d (encG n es), .d (.tuple (tk n s)), .d (.int q), .d (.int n), .ow false (.dct false (encK K)), .d (.list (tk n F)), l, h, f, v, a]
theorem fired_call (g : GOk n es) {l h f v a : Sl} :
    callD F_fired (adF (nmF 0) (adF (nmF 1) (adF (nmF 5) (anilF)))) (eR n es s q K F l h f v a) = some (.tuple (tk n fun v => s v + lap es F v), eR n es s q K F l h f v a) := by
  have e := fired_spec (s := s) (F := F) (fd := .list (tk n F)) g fun v hv => gIx_lk hv
  simp [callD, resS, adF, nmF, anilF, eR, borKs, argSl, toSl, e, putBack]
theorem dix_K (ly : Lay n es q K far) {v : Nat} (hv : v < n) : dfind (.int (v : Nat)) (encK K) = some (.int (far v : Nat)) := by
  rw [dfind_K, ly.all v hv]
  rfl
/-- the stacks of a layer -/
def layS (n : Nat) (es : List (Nat × Nat)) (s F : Nat → Int) (far : Nat → Nat) (d : Nat) : List Int := ((List.range n).filter fun v => decide (far v = d)).map fun v => s v + lap es F v
theorem c2_spec (g : GOk n es) (ly : Lay n es q K far) {d : Nat} {h f v a : Sl} (lv : light (some v) = true) :
    c_reducing_2 (eR n es s q K F (.d (.int (d : Nat))) h f v a) = some (.lst ((layS n es s F far d).map PyData.int), eR n es s q K F (.d (.int (d : Nat))) h f v a) := by
  have g5 := g.five
  have key := lcF_run (it := rng1F (consF (nmF 3) (nilF))) (B := bN 9) (t := tsF (opF gEq (dixF 4 (nmF 9)) (nmF 6))) (f := opF gIx (callD F_fired (adF (nmF 0) (adF (nmF 1) (adF (nmF 5) (anilF))))) (nmF 9)) (own := [9])
    (ρ := eR n es s q K F (.d (.int (d : Nat))) h f v a) (ρ1 := eR n es s q K F (.d (.int (d : Nat))) h f v a) (xs := rngD 0 1 n)
    (fun x => match x with | .int i => decide (far i.toNat = d) | _ => false) (fun x => match x with | .int i => .int (s i.toNat + lap es F i.toNat) | _ => .none)
    (by simp [rng1F, consF, nmF, nilF, eR]; omega) (by simp [okOwn, eR, lv]) (by rfl) (by rfl) (fun x hx => by
      obtain ⟨i, hi, e⟩ := List.mem_iff_getElem.mp hx
      obtain ⟨hin, rfl⟩ := rngD_at (by rw [List.getElem?_eq_getElem hi, e])
      have hw : wipeE (eR n es s q K F (.d (.int (d : Nat))) h f v a) [9] = eR n es s q K F (.d (.int (d : Nat))) h f .un a := rfl
      rw [hw]
      refine ⟨eR n es s q K F (.d (.int (d : Nat))) h f (.d (.int (i : Nat))) a, eR n es s q K F (.d (.int (d : Nat))) h f (.d (.int (i : Nat))) a, by simp [bN, eR, setSl], ?_, fun _ => ⟨rfl, rfl⟩, fun _ => ⟨eR n es s q K F (.d (.int (d : Nat))) h f (.d (.int (i : Nat))) a, ?_, rfl, rfl⟩⟩
      · have e1 : dixF 4 (nmF 9) (eR n es s q K F (.d (.int (d : Nat))) h f (.d (.int (i : Nat))) a) = some (.int (far i : Nat), eR n es s q K F (.d (.int (d : Nat))) h f (.d (.int (i : Nat))) a) := by
          simp [dixF, eR, nmF, keyOf, dix_K ly hin]
        have e2 : nmF 6 (eR n es s q K F (.d (.int (d : Nat))) h f (.d (.int (i : Nat))) a) = some (.int (d : Nat), eR n es s q K F (.d (.int (d : Nat))) h f (.d (.int (i : Nat))) a) := by simp [eR, nmF]
        simp only [tsF, opF, e1, e2, gEq_nat]
        simp
      · have e2 : nmF 9 (eR n es s q K F (.d (.int (d : Nat))) h f (.d (.int (i : Nat))) a) = some (.int (i : Nat), eR n es s q K F (.d (.int (d : Nat))) h f (.d (.int (i : Nat))) a) := by simp [eR, nmF]
        simp only [opF, fired_call g, e2, gIx_tk hin]
        simp)
  have hl : ((rngD 0 1 n).filter (fun x : D => match x with | .int i => decide (far i.toNat = d) | _ => false)).map (fun x : D => match x with | .int i => PyData.int (s i.toNat + lap es F i.toNat) | _ => .none) = (layS n es s F far d).map PyData.int := by
    unfold rngD layS
    rw [List.filter_map, List.map_map, List.map_map]
    have e1 : ((fun x : D => match x with | .int i => decide (far i.toNat = d) | _ => false) ∘ fun i : Nat => PyData.int (0 + (i : Int) * 1)) = fun v => decide (far v = d) := by
      funext i
      simp
    rw [e1]
    refine List.map_congr_left fun v _ => ?_
    simp
  rw [hl] at key
  have hr : resE (eR n es s q K F (.d (.int (d : Nat))) h f v a) (wipeE (eR n es s q K F (.d (.int (d : Nat))) h f v a) [9]) [9] = eR n es s q K F (.d (.int (d : Nat))) h f v a := rfl
  rw [hr] at key
  exact key
theorem foldl_min_neg : ∀ (ns : List Int) (m : Int), (ns.foldl min m < 0) ↔ ∃ x ∈ m :: ns, x < 0
  | [], m => by simp
  | k :: r, m => by
    rw [List.foldl_cons, foldl_min_neg r (min m k)]
    constructor
    · rintro ⟨x, hx, h⟩
      rcases List.mem_cons.mp hx with e | hx
      · by_cases c : m ≤ k
        · exact ⟨m, List.mem_cons_self, by omega⟩
        · exact ⟨k, by simp, by omega⟩
      · exact ⟨x, by simp [hx], h⟩
    · rintro ⟨x, hx, h⟩
      rcases List.mem_cons.mp hx with e | hx
      · exact ⟨min m k, List.mem_cons_self, by omega⟩
      · rcases List.mem_cons.mp hx with e | hx
        · exact ⟨min m k, List.mem_cons_self, by omega⟩
        · exact ⟨x, List.mem_cons_of_mem _ hx, h⟩
theorem w2_spec (g : GOk n es) (ly : Lay n es q K far) {d u : Nat} (hu : u < n) (hd : far u = d) {h f v a : Sl} (lv : light (some v) = true) :
    w_reducing_2 (eR n es s q K F (.d (.int (d : Nat))) h f v a) = some (decide (∃ v, v < n ∧ far v = d ∧ s v + lap es F v < 0), eR n es s q K F (.d (.int (d : Nat))) h f v a) := by
  have hne : layS n es s F far d ≠ [] := fun e => by
    have : (s u + lap es F u) ∈ layS n es s F far d := List.mem_map.mpr ⟨u, by simp [hu, hd], rfl⟩
    rw [e] at this
    cases this
  obtain ⟨m, ns, e⟩ := List.exists_cons_of_ne_nil hne
  have hm : gMin [.list ((layS n es s F far d).map PyData.int)] = some (.int (ns.foldl min m)) := by
    rw [e]
    have : intsOf ((m :: ns).map PyData.int) = some (m :: ns) := intsOf_map _
    simp only [List.map_cons] at this
    simp [gMin, orC, gMin2, gMinL, this]
  have hp : (ns.foldl min m < 0) ↔ ∃ v, v < n ∧ far v = d ∧ s v + lap es F v < 0 := by
    rw [foldl_min_neg, ← e]
    constructor
    · rintro ⟨x, hx, hlt⟩
      obtain ⟨v, hv, rfl⟩ := List.mem_map.mp hx
      simp at hv
      exact ⟨v, hv.1, hv.2, hlt⟩
    · rintro ⟨v, hv, h1, h2⟩
      exact ⟨_, List.mem_map.mpr ⟨v, by simp [hv, h1], rfl⟩, h2⟩
  have hc : callF gMin (consF (frF (c_reducing_2)) (nilF)) (eR n es s q K F (.d (.int (d : Nat))) h f v a) = some (.int (ns.foldl min m), eR n es s q K F (.d (.int (d : Nat))) h f v a) := by
    simp [callF, consF, frF, c2_spec g ly lv, nilF, hm]
  simp only [w_reducing_2, tsF, opF, hc, kF]
  have : gLt (.int (ns.foldl min m)) (.int 0) = some (.bool (decide (∃ v, v < n ∧ far v = d ∧ s v + lap es F v < 0))) := by
    show some (PyData.bool (decide (ns.foldl min m < 0))) = _
    rw [decide_eq_decide.mpr hp]
  rw [this]
theorem enum_map {n : Nat} {F : Nat → Int} {R : Nat → Int → Int} : ((enumD 0 (tk n F)).map fun x : D => match x with | .tuple [.int i, .int a] => PyData.int (R i.toNat a) | _ => .none) = tk n fun v => R v (F v) := by
  apply List.ext_getElem?
  intro i
  rw [List.getElem?_map, enumD_get]
  by_cases h : i < n
  · rw [tk_get h, tk_get h]
    simp
  · rw [List.getElem?_eq_none (by rw [tk_len]; omega), List.getElem?_eq_none (by rw [tk_len]; omega)]
    rfl
theorem enum_mem {n : Nat} {F : Nat → Int} {x : D} (h : x ∈ enumD 0 (tk n F)) : ∃ i, i < n ∧ x = .tuple [.int (i : Nat), .int (F i)] := by
  obtain ⟨i, hi, e⟩ := List.mem_iff_getElem.mp h
  have hn : i < n := by
    rw [enumD_len, tk_len] at hi
    exact hi
  refine ⟨i, hn, ?_⟩
  have := enumD_get (xs := tk n F) (k := 0) (i := i)
  rw [List.getElem?_eq_getElem hi, e, tk_get hn] at this
  simpa using this
theorem filter_true {xs : List D} : xs.filter (fun _ => true) = xs := List.filter_eq_self.mpr fun _ _ => rfl
theorem c3_spec (g : GOk n es) (ly : Lay n es q K far) {d : Nat} {h f v a : Sl} (lv : light (some v) = true) (la : light (some a) = true) :
    c_reducing_3 (eR n es s q K F (.d (.int (d : Nat))) h f v a) = some (.lst (tk n fun v => F v + if far v < d then 1 else 0), eR n es s q K F (.d (.int (d : Nat))) h f v a) := by
  have g5 := g.five
  have key := lcF_run (it := enF (consF (nmF 5) (nilF))) (B := bT 2 (bCons (bN 9) (bCons (bN 10) (bNil)))) (t := yesF) (f := opF gAdd (nmF 10) (callF gInt (consF (opF gLt (dixF 4 (nmF 9)) (nmF 6)) (nilF)))) (own := [9, 10])
    (ρ := eR n es s q K F (.d (.int (d : Nat))) h f v a) (ρ1 := eR n es s q K F (.d (.int (d : Nat))) h f v a) (xs := enumD 0 (tk n F))
    (fun _ => true) (fun x => match x with | .tuple [.int i, .int a] => .int (a + if far i.toNat < d then 1 else 0) | _ => .none)
    (by simp [enF, consF, nmF, nilF, eR, tk_len]; omega) (by simp [okOwn, eR, lv, la]) (by rfl) (by rfl) (fun x hx => by
      obtain ⟨i, hi, rfl⟩ := enum_mem hx
      have hw : wipeE (eR n es s q K F (.d (.int (d : Nat))) h f v a) [9, 10] = eR n es s q K F (.d (.int (d : Nat))) h f .un .un := rfl
      rw [hw]
      refine ⟨eR n es s q K F (.d (.int (d : Nat))) h f (.d (.int (i : Nat))) (.d (.int (F i))), eR n es s q K F (.d (.int (d : Nat))) h f (.d (.int (i : Nat))) (.d (.int (F i))), by simp [bT, bCons, bN, bNil, eR, setSl], rfl, fun z => (nomatch z), fun _ => ⟨eR n es s q K F (.d (.int (d : Nat))) h f (.d (.int (i : Nat))) (.d (.int (F i))), ?_, rfl, rfl⟩⟩
      have e1 : dixF 4 (nmF 9) (eR n es s q K F (.d (.int (d : Nat))) h f (.d (.int (i : Nat))) (.d (.int (F i)))) = some (.int (far i : Nat), eR n es s q K F (.d (.int (d : Nat))) h f (.d (.int (i : Nat))) (.d (.int (F i)))) := by
        simp [dixF, eR, nmF, keyOf, dix_K ly hi]
      have e2 : nmF 6 (eR n es s q K F (.d (.int (d : Nat))) h f (.d (.int (i : Nat))) (.d (.int (F i)))) = some (.int (d : Nat), eR n es s q K F (.d (.int (d : Nat))) h f (.d (.int (i : Nat))) (.d (.int (F i)))) := by simp [eR, nmF]
      have e3 : nmF 10 (eR n es s q K F (.d (.int (d : Nat))) h f (.d (.int (i : Nat))) (.d (.int (F i)))) = some (.int (F i), eR n es s q K F (.d (.int (d : Nat))) h f (.d (.int (i : Nat))) (.d (.int (F i)))) := by simp [eR, nmF]
      have e4 : gLt (.int (far i : Nat)) (.int (d : Nat)) = some (.bool (decide (far i < d))) := by
        show some (PyData.bool (decide ((far i : Int) < d))) = _
        rw [show decide ((far i : Int) < d) = decide (far i < d) from decide_eq_decide.mpr (by omega)]
      simp only [opF, callF, consF, nilF, e1, e2, e3, e4, gInt]
      by_cases c : far i < d
      · simp [c, gAdd, orG, iiI]
      · simp [c, gAdd, orG, iiI])
  rw [filter_true] at key
  have := enum_map (n := n) (F := F) (R := fun v a => a + if far v < d then 1 else 0)
  rw [this] at key
  exact key
theorem c1_spec (g : GOk n es) {L : List Nat} {l h v a : Sl} (lv : light (some v) = true) (la : light (some a) = true) :
    c_reducing_1 (eR n es s q K F l h (.d (.list (encL L))) v a) = some (.lst (tk n fun v => F v + if v ∈ L then 0 else 1), eR n es s q K F l h (.d (.list (encL L))) v a) := by
  have g5 := g.five
  have key := lcF_run (it := enF (consF (nmF 5) (nilF))) (B := bT 2 (bCons (bN 9) (bCons (bN 10) (bNil)))) (t := yesF) (f := opF gAdd (nmF 10) (callF gInt (consF (opF gNotIn (nmF 9) (nmF 8)) (nilF)))) (own := [9, 10])
    (ρ := eR n es s q K F l h (.d (.list (encL L))) v a) (ρ1 := eR n es s q K F l h (.d (.list (encL L))) v a) (xs := enumD 0 (tk n F))
    (fun _ => true) (fun x => match x with | .tuple [.int i, .int a] => .int (a + if i.toNat ∈ L then 0 else 1) | _ => .none)
    (by simp [enF, consF, nmF, nilF, eR, tk_len]; omega) (by simp [okOwn, eR, lv, la]) (by rfl) (by rfl) (fun x hx => by
      obtain ⟨i, hi, rfl⟩ := enum_mem hx
      have hw : wipeE (eR n es s q K F l h (.d (.list (encL L))) v a) [9, 10] = eR n es s q K F l h (.d (.list (encL L))) .un .un := rfl
      rw [hw]
      refine ⟨eR n es s q K F l h (.d (.list (encL L))) (.d (.int (i : Nat))) (.d (.int (F i))), eR n es s q K F l h (.d (.list (encL L))) (.d (.int (i : Nat))) (.d (.int (F i))), by simp [bT, bCons, bN, bNil, eR, setSl], rfl, fun z => (nomatch z), fun _ => ⟨eR n es s q K F l h (.d (.list (encL L))) (.d (.int (i : Nat))) (.d (.int (F i))), ?_, rfl, rfl⟩⟩
      have e1 : nmF 9 (eR n es s q K F l h (.d (.list (encL L))) (.d (.int (i : Nat))) (.d (.int (F i)))) = some (.int (i : Nat), eR n es s q K F l h (.d (.list (encL L))) (.d (.int (i : Nat))) (.d (.int (F i)))) := by simp [eR, nmF]
      have e2 : nmF 8 (eR n es s q K F l h (.d (.list (encL L))) (.d (.int (i : Nat))) (.d (.int (F i)))) = some (.list (encL L), eR n es s q K F l h (.d (.list (encL L))) (.d (.int (i : Nat))) (.d (.int (F i)))) := by simp [eR, nmF]
      have e3 : nmF 10 (eR n es s q K F l h (.d (.list (encL L))) (.d (.int (i : Nat))) (.d (.int (F i)))) = some (.int (F i), eR n es s q K F l h (.d (.list (encL L))) (.d (.int (i : Nat))) (.d (.int (F i)))) := by simp [eR, nmF]
      simp only [opF, callF, consF, nilF, e1, e2, e3, gNotIn_L, mem_cast, gInt]
      by_cases c : i ∈ L
      · simp [c, gAdd, orG, iiI]
      · simp [c, gAdd, orG, iiI])
  rw [filter_true] at key
  have := enum_map (n := n) (F := F) (R := fun v a => a + if v ∈ L then 0 else 1)
  rw [this] at key
  exact key
end
end G

set_option Elab.async false
set_option linter.all false
set_option maxRecDepth 100000
set_option maxHeartbeats 4000000
namespace G
open PySem PySem.Spec PyProof.Rows L2
/-! ### sums -/
def sumN : Nat → (Nat → Int) → Int
  | 0, _ => 0
  | k + 1, f => sumN k f + f k
theorem sumN_add (f g : Nat → Int) : ∀ n, sumN n (fun v => f v + g v) = sumN n f + sumN n g
  | 0 => rfl
  | k + 1 => by
    simp only [sumN]
    rw [sumN_add f g k]
    omega
theorem sumN_le {f g : Nat → Int} : ∀ n, (∀ v < n, f v ≤ g v) → sumN n f ≤ sumN n g
  | 0, _ => Int.le_refl _
  | k + 1, h => by
    have h1 := sumN_le k fun v hv => h v (by omega)
    have h2 := h k (by omega)
    simp only [sumN]
    omega
theorem sumN_congr {f g : Nat → Int} (n : Nat) (h : ∀ v < n, f v = g v) : sumN n f = sumN n g :=
  Int.le_antisymm (sumN_le n fun v hv => by rw [h v hv]; exact Int.le_refl _) (sumN_le n fun v hv => by rw [h v hv]; exact Int.le_refl _)
theorem sumN_zero : ∀ n, sumN n (fun _ => 0) = 0
  | 0 => rfl
  | k + 1 => by
    simp only [sumN]
    rw [sumN_zero k]
    rfl
theorem sumN_one {u : Nat} {x : Int} : ∀ n, sumN n (fun v => if v = u then x else 0) = if u < n then x else 0
  | 0 => by simp [sumN]
  | k + 1 => by
    simp only [sumN]
    rw [sumN_one k]
    by_cases h : u < k
    · rw [if_pos h, if_neg (by omega), if_pos (by omega)]
      omega
    · by_cases h2 : k = u
      · rw [if_neg h, if_pos h2, if_pos (by omega)]
        omega
      · rw [if_neg h, if_neg h2, if_neg (by omega)]
        omega
theorem sumN_const {x : Int} : ∀ n, sumN n (fun _ => x) = n * x
  | 0 => by simp [sumN]
  | k + 1 => by
    simp only [sumN]
    rw [sumN_const k]
    have : ((k + 1 : Nat) : Int) * x = k * x + x := by
      rw [show ((k + 1 : Nat) : Int) = (k : Int) + 1 by omega, Int.add_mul, Int.one_mul]
    rw [this]
/-! ### the firing's effect -/
theorem lapE_add (F H : Nat → Int) (v : Nat) (e : Nat × Nat) : lapE (fun w => F w + H w) v e = lapE F v e + lapE H v e := by
  unfold lapE
  dsimp only
  split
  · omega
  · split
    · omega
    · omega
theorem lap_add (F H : Nat → Int) (v : Nat) : ∀ es : List (Nat × Nat), lap es (fun w => F w + H w) v = lap es F v + lap es H v
  | [] => rfl
  | e :: es => by
    have ih := lap_add F H v es
    unfold lap at ih ⊢
    rw [List.map_cons, List.map_cons, List.map_cons, List.sum_cons, List.sum_cons, List.sum_cons, ih, lapE_add]
    omega
theorem lap_congr {F H : Nat → Int} {n : Nat} {v : Nat} (h : ∀ w < n, F w = H w) : ∀ es : List (Nat × Nat), (∀ e ∈ es, e.1 < e.2 ∧ e.2 < n) → lap es F v = lap es H v
  | [], _ => rfl
  | e :: es, g => by
    have ih := lap_congr (v := v) h es fun e he => g e (List.mem_cons_of_mem _ he)
    obtain ⟨g1, g2⟩ := g e List.mem_cons_self
    unfold lap at ih ⊢
    rw [List.map_cons, List.map_cons, List.sum_cons, List.sum_cons, ih]
    unfold lapE
    rw [h e.1 (by omega), h e.2 g2]
theorem lap_neg (F : Nat → Int) (v : Nat) : ∀ es : List (Nat × Nat), lap es (fun w => - F w) v = - lap es F v
  | [] => rfl
  | e :: es => by
    have ih := lap_neg F v es
    unfold lap at ih ⊢
    rw [List.map_cons, List.map_cons, List.sum_cons, List.sum_cons, ih]
    unfold lapE
    dsimp only
    split
    · omega
    · split
      · omega
      · omega
theorem lap_const (c : Int) (v : Nat) : ∀ es : List (Nat × Nat), lap es (fun _ => c) v = 0
  | [] => rfl
  | e :: es => by
    have ih := lap_const c v es
    unfold lap at ih ⊢
    rw [List.map_cons, List.sum_cons, ih]
    unfold lapE
    dsimp only
    split
    · omega
    · split
      · omega
      · omega
theorem lap_sum {F : Nat → Int} {n : Nat} : ∀ es : List (Nat × Nat), (∀ e ∈ es, e.1 < e.2 ∧ e.2 < n) → sumN n (lap es F) = 0
  | [], _ => sumN_zero n
  | e :: es, g => by
    have ih := lap_sum (F := F) es fun e he => g e (List.mem_cons_of_mem _ he)
    obtain ⟨g1, g2⟩ := g e List.mem_cons_self
    have h1 : sumN n (lapE F · e) = 0 := by
      have : sumN n (lapE F · e) = sumN n (fun v => (if v = e.1 then F e.2 - F e.1 else 0) + (if v = e.2 then F e.1 - F e.2 else 0)) := sumN_congr n fun v _ => by
        unfold lapE
        by_cases c1 : v = e.1
        · rw [if_pos c1, if_pos c1, if_neg (by omega)]
          omega
        · rw [if_neg c1, if_neg c1]
          omega
      rw [this, sumN_add, sumN_one, sumN_one, if_pos (by omega), if_pos g2]
      omega
    have h2 : sumN n (lap (e :: es) F) = sumN n (lapE F · e) + sumN n (lap es F) := by
      rw [← sumN_add]
      exact sumN_congr n fun v _ => by
        unfold lap
        rw [List.map_cons, List.sum_cons]
    rw [h2, h1, ih]
    rfl
theorem lap_ge0 {F : Nat → Int} {v : Nat} : ∀ es : List (Nat × Nat), (∀ w, 0 ≤ F w - F v) → 0 ≤ lap es F v
  | [], _ => Int.le_refl _
  | e :: es, h => by
    have ih := lap_ge0 es h
    unfold lap at ih ⊢
    rw [List.map_cons, List.sum_cons]
    have h1 := h e.1
    have h2 := h e.2
    have : 0 ≤ lapE F v e := by
      unfold lapE
      split
      · rename_i c; subst c; omega
      · split
        · rename_i c; subst c; omega
        · omega
    omega
theorem lap_ge {F : Nat → Int} {v u : Nat} : ∀ es : List (Nat × Nat), (∀ e ∈ es, e.1 < e.2) → (∀ w, 0 ≤ F w - F v) → adj es v u → F u - F v ≤ lap es F v
  | [], _, _, a => by rcases a with a | a <;> cases a
  | e :: es, g, h, a => by
    have h0 := lap_ge0 es h
    have ge := g e List.mem_cons_self
    have h1 := h e.1
    have h2 := h e.2
    have hE : 0 ≤ lapE F v e := by
      unfold lapE
      split
      · rename_i c; subst c; omega
      · split
        · rename_i c; subst c; omega
        · omega
    by_cases c : adj es v u
    · have ih := lap_ge es (fun e he => g e (List.mem_cons_of_mem _ he)) h c
      unfold lap at ih ⊢
      rw [List.map_cons, List.sum_cons]
      omega
    · unfold lap at h0 ⊢
      rw [List.map_cons, List.sum_cons]
      have : lapE F v e = F u - F v := by
        rcases a with a | a
        · rcases List.mem_cons.mp a with a | a
          · subst a
            simp [lapE]
          · exact absurd (.inl a) c
        · rcases List.mem_cons.mp a with a | a
          · subst a
            have ge' : u < v := ge
            unfold lapE
            rw [if_neg (by show ¬ v = u; omega), if_pos rfl]
          · exact absurd (.inr a) c
      omega
/-- firing all but L: what a vertex outside loses -/
def chi (L : List Nat) (v : Nat) : Int := if v ∈ L then 0 else 1
theorem lap_out {L : List Nat} {v : Nat} (hv : v ∉ L) : ∀ es : List (Nat × Nat), (∀ e ∈ es, e.1 < e.2) → lap es (chi L) v = - (eT es v L : Nat)
  | [], _ => rfl
  | e :: es, g => by
    have ih := lap_out hv es fun e he => g e (List.mem_cons_of_mem _ he)
    have ge := g e List.mem_cons_self
    have hx : lapE (chi L) v e = - (if hasE v L e then 1 else 0) := by
      unfold lapE hasE chi
      by_cases c1 : e.1 = v
      · subst c1
        rw [if_pos rfl, if_neg hv]
        have : ¬ e.2 = e.1 := by omega
        by_cases c2 : e.2 ∈ L
        · simp [c2, this]
        · simp [c2, this]
      · rw [if_neg (Ne.symm c1)]
        by_cases c2 : e.2 = v
        · subst c2
          rw [if_pos rfl, if_neg hv]
          by_cases c3 : e.1 ∈ L
          · simp [c1, c3]
          · simp [c1, c3]
        · rw [if_neg (Ne.symm c2)]
          simp [c1, c2]
    unfold lap eT at ih ⊢
    rw [List.map_cons, List.sum_cons, ih, hx, List.filter_cons]
    by_cases c : hasE v L e = true
    · rw [if_pos c, if_pos c, List.length_cons]
      omega
    · rw [if_neg c, if_neg c]
      omega
end G

set_option Elab.async false
set_option linter.all false
set_option maxRecDepth 100000
set_option maxHeartbeats 4000000
namespace G
open PySem PySem.Spec PyProof.Rows L2
/-- while, with a ghost that gets smaller -/
theorem whileS_ghost {α : Type} {c : TF} {g : SF} (I : α → Env → Prop) (m : α → Nat) (P : Env → Prop) (R : Sl → Env → Prop)
    (st : ∀ x ρ, I x ρ → ∃ b ρ1, c ρ = some (b, ρ1) ∧ (b = false → P ρ1) ∧ (b = true → (∃ y ρ2, g ρ1 = some (.nx ρ2) ∧ I y ρ2 ∧ m y < m x) ∨ ∃ s ρ2, g ρ1 = some (.rt s ρ2) ∧ R s ρ2)) :
    ∀ (n : Nat) (x : α) (ρ : Env), m x ≤ n → I x ρ → (∃ ρ', whileS c g ρ = some (.nx ρ') ∧ P ρ') ∨ ∃ s ρ', whileS c g ρ = some (.rt s ρ') ∧ R s ρ' := by
  intro n
  induction n with
  | zero =>
    intro x ρ hm h
    obtain ⟨b, ρ1, e1, h1, h2⟩ := st x ρ h
    rw [whileS]
    rw [e1]
    cases b with
    | false => exact .inl ⟨ρ1, rfl, h1 rfl⟩
    | true =>
      rcases h2 rfl with ⟨y, ρ2, e2, _, h3⟩ | ⟨s, ρ2, e2, h3⟩
      · omega
      · exact .inr ⟨s, ρ2, by simp [e2], h3⟩
  | succ n ih =>
    intro x ρ hm h
    obtain ⟨b, ρ1, e1, h1, h2⟩ := st x ρ h
    rw [whileS]
    rw [e1]
    cases b with
    | false => exact .inl ⟨ρ1, rfl, h1 rfl⟩
    | true =>
      rcases h2 rfl with ⟨y, ρ2, e2, h4, h3⟩ | ⟨s, ρ2, e2, h3⟩
      · have := ih y ρ2 (by omega) h4
        simpa [e2] using this
      · exact .inr ⟨s, ρ2, by simp [e2], h3⟩
def tot (es : List (Nat × Nat)) (s F : Nat → Int) (v : Nat) : Int := s v + lap es F v
section
variable {n : Nat} {es : List (Nat × Nat)} {q : Nat} {s F : Nat → Int} {K : List (Nat × Nat)} {far : Nat → Nat}
/-- how much a layer lacks -/
def lack (n : Nat) (t : Nat → Int) (far : Nat → Nat) (d : Nat) : Nat := (sumN n fun v => if far v = d then ((-(t v)).toNat : Nat) else 0).toNat
theorem lack_lt {t t' : Nat → Int} {d u : Nat} (hu : u < n) (hd : far u = d) (ht : t u < 0) (h : ∀ v < n, far v = d → t v + 1 ≤ t' v) : lack n t' far d < lack n t far d := by
  have h1 : sumN n (fun v => if far v = d then (((-(t' v)).toNat : Nat) : Int) else 0) ≤ sumN n (fun v => (if far v = d then (((-(t v)).toNat : Nat) : Int) else 0) + if v = u then -1 else 0) := sumN_le n fun v hv => by
    by_cases c : far v = d
    · rw [if_pos c, if_pos c]
      have := h v hv c
      by_cases c2 : v = u
      · rw [if_pos c2]
        subst c2
        omega
      · rw [if_neg c2]
        omega
    · rw [if_neg c, if_neg c]
      by_cases c2 : v = u
      · exact absurd (by rw [c2]; exact hd) c
      · rw [if_neg c2]
        omega
  rw [sumN_add, sumN_one, if_pos hu] at h1
  have h0 : 0 ≤ sumN n (fun v => if far v = d then (((-(t' v)).toNat : Nat) : Int) else 0) := by
    have := sumN_le (f := fun _ => 0) (g := fun v => if far v = d then (((-(t' v)).toNat : Nat) : Int) else 0) n fun v hv => by
      by_cases c : far v = d
      · rw [if_pos c]; omega
      · rw [if_neg c]; exact Int.le_refl _
    rw [sumN_zero] at this
    exact this
  unfold lack
  omega
theorem Lay.near (g : GOk n es) (ly : Lay n es q K far) {v : Nat} (hv : v < n) (h : 0 < far v) : ∃ u, u < n ∧ adj es v u ∧ far u + 1 = far v :=
  ly.back v hv fun e => by rw [e, ly.q0] at h; omega
theorem Lay.level (g : GOk n es) (ly : Lay n es q K far) : ∀ (k u : Nat), u < n → ∀ d, d + k = far u → ∃ w, w < n ∧ far w = d
  | 0, u, hu, d, h => ⟨u, hu, by omega⟩
  | k + 1, u, hu, d, h => by
    obtain ⟨w, hw, _, h2⟩ := ly.near g hu (by omega)
    exact ly.level g k w hw d (by omega)
def layC (far : Nat → Nat) (d : Nat) (v : Nat) : Int := if far v < d then 1 else 0
theorem lay_step (g : GOk n es) (ly : Lay n es q K far) {d v : Nat} (hd : 0 < d) (hv : v < n) (h : d ≤ far v) : 0 ≤ lap es (layC far d) v ∧ (far v = d → 1 ≤ lap es (layC far d) v) := by
  have z : layC far d v = 0 := by unfold layC; rw [if_neg (by omega)]
  have pos : ∀ w, 0 ≤ layC far d w - layC far d v := fun w => by
    rw [z]
    unfold layC
    split <;> omega
  refine ⟨lap_ge0 es pos, fun e => ?_⟩
  obtain ⟨u, hu, ha, h2⟩ := ly.near g hv (by omega)
  have := lap_ge es (fun e he => (g.lt e he).1) pos ha
  have hc : layC far d u = 1 := by unfold layC; rw [if_pos (by omega)]
  rw [z, hc] at this
  omega
theorem tot_add (H : Nat → Int) (v : Nat) : tot es s (fun w => F w + H w) v = tot es s F v + lap es H v := by
  unfold tot
  rw [lap_add]
  omega
/-- one layer made good -/
theorem layer_loop (g : GOk n es) (ly : Lay n es q K far) {d u : Nat} (hd : 0 < d) (hu : u < n) (hdu : far u = d) {h f v a : Sl} (lv : light (some v) = true) (la : light (some a) = true) (hF : ∀ w < n, d < far w → 0 ≤ tot es s F w) :
    ∃ F', l_reducing_2 (eR n es s q K F (.d (.int (d : Nat))) h f v a) = some (.nx (eR n es s q K F' (.d (.int (d : Nat))) h f v a)) ∧ ∀ w < n, d ≤ far w → 0 ≤ tot es s F' w := by
  have w := whileS_ghost (c := w_reducing_2) (g := b_reducing_2) (fun (F : Nat → Int) ρ => ρ = eR n es s q K F (.d (.int (d : Nat))) h f v a ∧ ∀ w < n, d < far w → 0 ≤ tot es s F w) (fun F => lack n (tot es s F) far d)
    (fun ρ => ∃ F, ρ = eR n es s q K F (.d (.int (d : Nat))) h f v a ∧ ∀ w < n, d ≤ far w → 0 ≤ tot es s F w) (fun _ _ => False) (fun F ρ hI => by
      obtain ⟨rfl, hF⟩ := hI
      refine ⟨_, _, w2_spec g ly hu hdu lv, fun z => ⟨F, rfl, fun w hw hdw => ?_⟩, fun z => .inl ?_⟩
      · have z := of_decide_eq_false z
        rcases Nat.lt_or_ge d (far w) with c | c
        · exact hF w hw c
        · exact Int.not_lt.mp fun neg => z ⟨w, hw, by omega, neg⟩
      · obtain ⟨u', hu', hd', neg⟩ := of_decide_eq_true z
        refine ⟨fun w => F w + layC far d w, eR n es s q K (fun w => F w + layC far d w) (.d (.int (d : Nat))) h f v a, ?_, ⟨rfl, fun w hw hdw => ?_⟩, ?_⟩
        · have := c3_spec (s := s) (F := F) (h := h) (f := f) (d := d) g ly lv la
          simp only [b_reducing_2, setF, frF, this]
          simp [eR, setSl, layC]
        · rw [tot_add]
          have := (lay_step g ly hd hw (by omega)).1
          have := hF w hw hdw
          omega
        · refine lack_lt hu' hd' neg fun w hw hdw => ?_
          rw [tot_add]
          have := (lay_step g ly hd hw (by omega)).2 hdw
          omega) _ F _ (Nat.le_refl _) ⟨rfl, hF⟩
  rcases w with ⟨ρ', e, F', rfl, k⟩ | ⟨_, _, _, z⟩
  · exact ⟨F', e, k⟩
  · exact z.elim
theorem foldl_max_is : ∀ (ns : List Int) (m : Int), (ns.foldl max m) ∈ m :: ns ∧ ∀ y ∈ m :: ns, y ≤ ns.foldl max m
  | [], m => ⟨by simp, by simp⟩
  | k :: r, m => by
    obtain ⟨h1, h2⟩ := foldl_max_is r (max m k)
    rw [List.foldl_cons]
    refine ⟨?_, fun y hy => ?_⟩
    · rcases List.mem_cons.mp h1 with e | h1
      · rw [e]
        by_cases c : m ≤ k
        · rw [show max m k = k by omega]; simp
        · rw [show max m k = m by omega]; simp
      · exact List.mem_cons_of_mem _ (List.mem_cons_of_mem _ h1)
    · have h3 := h2 (max m k) List.mem_cons_self
      rcases List.mem_cons.mp hy with e | hy
      · omega
      · rcases List.mem_cons.mp hy with e | hy
        · omega
        · exact h2 y (List.mem_cons_of_mem _ hy)
theorem maxV_spec (g : GOk n es) (hq : q < n) (ly : Lay n es q K far) {l h f v a : Sl} : ∃ M u, u < n ∧ far u = M ∧ (∀ w < n, far w ≤ M) ∧ maxVF 4 (eR n es s q K F l h f v a) = some (.int (M : Nat), eR n es s q K F l h f v a) := by
  have hne : K ≠ [] := fun e => by
    have := ly.all q hq
    rw [e] at this
    cases this
  have hv : intsOf ((encK K).map (·.2)) = some (K.map fun p => (p.2 : Int)) := by
    have : (encK K).map (·.2) = (K.map fun p => (p.2 : Int)).map PyData.int := by simp [encK]
    rw [this]
    exact intsOf_map _
  obtain ⟨m, ns, e⟩ := List.exists_cons_of_ne_nil (l := K.map fun p => (p.2 : Int)) (by simpa using hne)
  obtain ⟨h1, h2⟩ := foldl_max_is ns m
  rw [← e] at h1 h2
  obtain ⟨p, hp, e2⟩ := List.mem_map.mp h1
  obtain ⟨p1, p2⟩ := ly.lt p hp
  refine ⟨p.2, p.1, p1, p2.symm, fun w hw => ?_, ?_⟩
  · have hw2 := ly.all w hw
    have : (w, far w) ∈ K := by
      clear hne hv e h1 h2
      have key : ∀ K : List (Nat × Nat), K.lookup w = some (far w) → (w, far w) ∈ K := by
        intro K
        induction K with
        | nil => intro h; cases h
        | cons r K ih =>
          intro h
          rw [List.lookup_cons] at h
          split at h
          · rename_i c
            have h2 := Option.some.inj h
            have c : w = r.1 := by simpa using c
            have z : (w, far w) = r := Prod.ext c h2.symm
            rw [z]
            exact List.mem_cons_self
          · exact List.mem_cons_of_mem _ (ih h)
      exact key K hw2
    have := h2 (far w : Int) (List.mem_map.mpr ⟨_, this, rfl⟩)
    rw [← e2] at this
    omega
  · rw [e] at hv
    simp only [maxVF, eR, List.getElem?_cons_succ, List.getElem?_cons_zero, hv]
    rw [← e2]
theorem rng3_at {M i : Nat} {x : D} (h : (rngD (M : Int) (-1) M)[i]? = some x) : i < M ∧ x = .int ((M - i : Nat) : Int) := by
  have hi : i < M := by
    have := (List.getElem?_eq_some_iff.mp h).1
    simpa [rngD] using this
  unfold rngD at h
  rw [List.getElem?_map, List.getElem?_range hi] at h
  refine ⟨hi, ?_⟩
  have e := Option.some.inj h
  rw [← e]
  have z : ((M : Int) + (i : Nat) * (-1)) = ((M - i : Nat) : Int) := by omega
  show PyData.int ((M : Int) + (i : Nat) * (-1)) = _
  rw [z]
/-- the first loop: no vertex but q is in debt -/
theorem first_loop (g : GOk n es) (hq : q < n) (ly : Lay n es q K far) {l h f v a : Sl} (ll : light (some l) = true) (lv : light (some v) = true) (la : light (some a) = true) :
    ∃ F' l', light (some l') = true ∧ l_reducing_3 (eR n es s q K F l h f v a) = some (.nx (eR n es s q K F' l' h f v a)) ∧ ∀ w < n, w ≠ q → 0 ≤ tot es s F' w := by
  obtain ⟨M, u, hu, hM, hle, hmax⟩ := maxV_spec (s := s) (F := F) (l := l) (h := h) (f := f) (v := v) (a := a) g hq ly
  have g5 := g.five
  have hMn := ly.sm u hu
  obtain ⟨ρ', e, F', l', ll', rfl, k⟩ := forS_run (it := rng3F (consF (maxVF 4) (consF (kF (.int 0)) (consF (negF (kF (.int 1))) (nilF))))) (B := bN 6) (g := b_reducing_3) (ρ := eR n es s q K F l h f v a) (ρ1 := eR n es s q K F l h f v a) (xs := rngD (M : Int) (-1) M)
    (fun i ρ => ∃ F' l', light (some l') = true ∧ ρ = eR n es s q K F' l' h f v a ∧ ∀ w < n, M < far w + i → 0 ≤ tot es s F' w)
    (by
      simp only [rng3F, consF, hmax, kF, negF, nilF]
      rw [if_pos ⟨by trivial, by omega, by omega, by omega, by omega⟩]
      simp) ⟨F, l, ll, rfl, fun w hw c => by have := hle w hw; omega⟩ (fun i x ρ hx hi => by
      obtain ⟨F1, l1, ll1, rfl, k⟩ := hi
      obtain ⟨hiM, rfl⟩ := rng3_at hx
      obtain ⟨w0, hw0, hd0⟩ := ly.level g (far u - (M - i)) u hu (M - i) (by omega)
      obtain ⟨F2, e2, k2⟩ := layer_loop (s := s) (F := F1) (h := h) (f := f) g ly (d := M - i) (by omega) hw0 hd0 lv la (fun w hw c => k w hw (by omega))
      refine ⟨eR n es s q K F1 (.d (.int ((M - i : Nat) : Int))) h f v a, _, by simp [bN, eR, setSl_q, ll1], e2, F2, .d (.int ((M - i : Nat) : Int)), rfl, rfl, fun w hw c => k2 w hw (by omega)⟩)
  refine ⟨F', l', ll', e, fun w hw hn => ?_⟩
  have hlen : (rngD (M : Int) (-1) M).length = M := by simp [rngD]
  rw [hlen] at k
  refine k w hw ?_
  obtain ⟨_, _, _, h2⟩ := ly.back w hw hn
  omega
end
end G

set_option Elab.async false
set_option linter.all false
set_option maxRecDepth 100000
set_option maxHeartbeats 4000000
namespace G
open PySem PySem.Spec PyProof.Rows L2
theorem all_le : ∀ (n : Nat) (L : List Nat), (∀ x < n, x ∈ L) → n ≤ L.length
  | 0, _, _ => Nat.zero_le _
  | n + 1, L, h => by
    have hn := h n (by omega)
    have := all_le n (L.erase n) fun x hx => (List.mem_erase_of_ne (by omega)).mpr (h x (by omega))
    rw [List.length_erase_of_mem hn] at this
    have : 0 < L.length := List.length_pos_of_mem hn
    omega
def pw (B k : Nat) : Int := ((B ^ k : Nat) : Int)
theorem pw_pos {B k : Nat} (h : 0 < B) : 1 ≤ pw B k := by
  have := Nat.pow_pos (n := k) h
  unfold pw
  omega
theorem pw_mono {B j k : Nat} (h : 0 < B) (l : j ≤ k) : pw B j ≤ pw B k := by
  have := Nat.pow_le_pow_right h l
  unfold pw
  omega
theorem pw_succ {B k : Nat} : pw B (k + 1) = pw B k * B := by
  unfold pw
  rw [Nat.pow_succ]
  exact Int.natCast_mul _ _
section
variable {n : Nat} {es : List (Nat × Nat)} {q : Nat} {s F : Nat → Int} {K : List (Nat × Nat)} {far : Nat → Nat}
theorem tot_sum (g : GOk n es) : sumN n (tot es s F) = sumN n s := by
  have : sumN n (tot es s F) = sumN n s + sumN n (lap es F) := sumN_add _ _ n
  rw [this, lap_sum es g.lt]
  omega
/-- how much may lie on a vertex -/
theorem tot_le (g : GOk n es) (hq : q < n) {c0 : Int} (h0 : c0 ≤ tot es s F q) (hn : ∀ w < n, w ≠ q → 0 ≤ tot es s F w) {v : Nat} (hv : v < n) (hvq : v ≠ q) : tot es s F v ≤ sumN n s - c0 := by
  have h1 : sumN n (fun w => (if w = q then tot es s F q else 0) + (if w = v then tot es s F v else 0)) ≤ sumN n (tot es s F) := sumN_le n fun w hw => by
    by_cases c1 : w = q
    · subst c1
      rw [if_pos rfl, if_neg (Ne.symm hvq)]
      omega
    · rw [if_neg c1]
      by_cases c2 : w = v
      · subst c2
        rw [if_pos rfl]
        omega
      · rw [if_neg c2]
        have := hn w hw c1
        omega
  rw [sumN_add, sumN_one, sumN_one, if_pos hq, if_pos hv, tot_sum g] at h1
  omega
theorem tot_q (g : GOk n es) (hq : q < n) (hn : ∀ w < n, w ≠ q → 0 ≤ tot es s F w) : tot es s F q ≤ sumN n s := by
  have h1 : sumN n (fun w => if w = q then tot es s F q else 0) ≤ sumN n (tot es s F) := sumN_le n fun w hw => by
    by_cases c1 : w = q
    · rw [if_pos c1, c1]
      exact Int.le_refl _
    · rw [if_neg c1]
      exact hn w hw c1
  rw [sumN_one, if_pos hq, tot_sum g] at h1
  exact h1
/-- the weight -/
def wt (n : Nat) (es : List (Nat × Nat)) (s F : Nat → Int) (far : Nat → Nat) (B : Nat) : Int := sumN n fun v => tot es s F v * pw B (n - far v)
theorem wt_grow (g : GOk n es) (ly : Lay n es q K far) {C : Nat} {L : List Nat} (hC : ∀ v < n, v ≠ q → tot es s F v ≤ C) (hql : q ∈ L) {v0 : Nat} (hv0 : v0 < n) (hn0 : v0 ∉ L)
    (hpos : ∀ v < n, v ∉ L → 0 ≤ tot es s (fun w => F w + chi L w) v) : wt n es s F far (n * C + 1) + 1 ≤ wt n es s (fun w => F w + chi L w) far (n * C + 1) := by
  -- the nearest vertex that did not burn
  have near : ∀ k v, v < n → v ∉ L → far v ≤ k → ∃ w, w < n ∧ w ∉ L ∧ ∀ u < n, u ∉ L → far w ≤ far u := by
    intro k
    induction k with
    | zero => exact fun v hv hn hk => ⟨v, hv, hn, fun u _ _ => by omega⟩
    | succ k ih =>
      intro v hv hn hk
      by_cases c : ∃ u, u < n ∧ u ∉ L ∧ far u ≤ k
      · obtain ⟨u, h1, h2, h3⟩ := c
        exact ih u h1 h2 h3
      · refine ⟨v, hv, hn, fun u hu hnu => ?_⟩
        have : ¬ far u ≤ k := fun z => c ⟨u, hu, hnu, z⟩
        omega
  obtain ⟨w, hw, hnw, hmin⟩ := near _ v0 hv0 hn0 (Nat.le_refl _)
  have hwq : w ≠ q := fun e => hnw (by rw [e]; exact hql)
  obtain ⟨u, hu, ha, hf⟩ := ly.back w hw hwq
  have huL : u ∈ L := by
    by_cases c : u ∈ L
    · exact c
    · have := hmin u hu c
      omega
  have hwn := ly.sm w hw
  have hB : 0 < n * C + 1 := Nat.succ_pos _
  generalize hBB : n * C + 1 = B at *
  generalize hd : far w = d at *
  have hpd : (1 : Int) ≤ pw B (n - d) := pw_pos hB
  -- what each vertex adds
  have each : ∀ v < n, (if v = u then pw B (n - d + 1) else 0) + (-(C * pw B (n - d))) ≤ lap es (chi L) v * pw B (n - far v) := by
    intro v hv
    have hpv : (1 : Int) ≤ pw B (n - far v) := pw_pos hB
    have hcp : 0 ≤ (C : Int) * pw B (n - d) := Int.mul_nonneg (by omega) (by omega)
    by_cases c : v ∈ L
    · have z : chi L v = 0 := by unfold chi; rw [if_pos c]
      have pos : ∀ x, 0 ≤ chi L x - chi L v := fun x => by
        rw [z]
        unfold chi
        split <;> omega
      by_cases c2 : v = u
      · subst c2
        rw [if_pos rfl]
        have h1 := lap_ge es (fun e he => (g.lt e he).1) pos (v := v) (u := w) (ha.elim .inr .inl)
        have z2 : chi L w = 1 := by unfold chi; rw [if_neg hnw]
        rw [z, z2] at h1
        have e1 : n - far v = n - d + 1 := by omega
        rw [e1] at hpv ⊢
        have : 1 * pw B (n - d + 1) ≤ lap es (chi L) v * pw B (n - d + 1) := Int.mul_le_mul_of_nonneg_right (by omega) (by omega)
        omega
      · rw [if_neg c2]
        have h1 := lap_ge0 es pos
        have : 0 ≤ lap es (chi L) v * pw B (n - far v) := Int.mul_nonneg h1 (by omega)
        omega
    · have c2 : v ≠ u := fun e => c (by rw [e]; exact huL)
      rw [if_neg c2]
      have hvq : v ≠ q := fun e => c (by rw [e]; exact hql)
      have h1 := hpos v hv c
      rw [tot_add] at h1
      have h2 := hC v hv hvq
      have h3 := hmin v hv c
      have h4 : pw B (n - far v) ≤ pw B (n - d) := pw_mono hB (by omega)
      have h5 : (-(C : Int)) * pw B (n - far v) ≤ lap es (chi L) v * pw B (n - far v) := Int.mul_le_mul_of_nonneg_right (by omega) (by omega)
      have h6 : (C : Int) * pw B (n - far v) ≤ C * pw B (n - d) := Int.mul_le_mul_of_nonneg_left h4 (by omega)
      rw [Int.neg_mul] at h5
      omega
  have h1 := sumN_le n each
  rw [sumN_add, sumN_one, if_pos hu, sumN_const, pw_succ] at h1
  have e1 : wt n es s (fun w => F w + chi L w) far B = wt n es s F far B + sumN n (fun v => lap es (chi L) v * pw B (n - far v)) := by
    unfold wt
    rw [← sumN_add]
    exact sumN_congr n fun v _ => by
      rw [tot_add, Int.add_mul]
  have e2 : (B : Int) = (n : Int) * C + 1 := by
    rw [← hBB]
    rw [Int.natCast_add, Int.natCast_mul]
    rfl
  rw [e2, Int.mul_add, Int.mul_one, Int.mul_neg] at h1
  have e3 : pw B (n - d) * ((n : Int) * C) = (n : Int) * (C * pw B (n - d)) := by
    rw [Int.mul_comm, Int.mul_assoc]
  rw [e3] at h1
  omega
theorem wt_le {C B : Nat} (hB : 0 < B) (h : ∀ v < n, tot es s F v ≤ C) : wt n es s F far B ≤ n * (C * pw B n) := by
  have := sumN_le (f := fun v => tot es s F v * pw B (n - far v)) (g := fun _ => (C : Int) * pw B n) n fun v hv => by
    have h1 : (1 : Int) ≤ pw B (n - far v) := pw_pos hB
    have h2 : pw B (n - far v) ≤ pw B n := pw_mono hB (by omega)
    have h3 : tot es s F v * pw B (n - far v) ≤ C * pw B (n - far v) := Int.mul_le_mul_of_nonneg_right (h v hv) (by omega)
    have h4 : (C : Int) * pw B (n - far v) ≤ C * pw B n := Int.mul_le_mul_of_nonneg_left h2 (by omega)
    omega
  rw [sumN_const] at this
  exact this
/-- r is what s is reduced to -/
structure Red (n : Nat) (es : List (Nat × Nat)) (q : Nat) (s r : Nat → Int) : Prop where
  eqv : ∃ F, ∀ v < n, r v = tot es s F v
  pos : ∀ v < n, v ≠ q → 0 ≤ r v
  full : ∃ L, BI n es r q L ∧ L.length = n
theorem second_loop (g : GOk n es) (hq : q < n) (ly : Lay n es q K far) {l h f v a : Sl} (ll : light (some l) = true) (lh : light (some h) = true) (lf : light (some f) = true) (lv : light (some v) = true) (la : light (some a) = true) (hF : ∀ w < n, w ≠ q → 0 ≤ tot es s F w) :
    ∃ F' h' f', l_reducing_1 (eR n es s q K F l h f v a) = some (.rt (.d (.tuple (tk n F'))) (eR n es s q K F' l h' f' v a)) ∧ Red n es q s (tot es s F') := by
  have hqw := tot_q g hq hF
  obtain ⟨C, hC⟩ : ∃ C : Nat, (C : Int) = sumN n s - tot es s F q := ⟨(sumN n s - tot es s F q).toNat, by omega⟩
  obtain ⟨C2, hC2⟩ : ∃ C2 : Nat, sumN n s ≤ (C2 : Int) ∧ C ≤ C2 := ⟨(sumN n s).toNat + C, by omega⟩
  have hB : 0 < n * C + 1 := Nat.succ_pos _
  have w := whileS_ghost (c := w_reducing_1) (g := b_reducing_1) (fun (F' : Nat → Int) ρ => ∃ h f, light (some h) = true ∧ light (some f) = true ∧ ρ = eR n es s q K F' l h f v a ∧ (∀ w < n, w ≠ q → 0 ≤ tot es s F' w) ∧ tot es s F q ≤ tot es s F' q)
    (fun F' => ((n : Int) * (C2 * pw (n * C + 1) n) - wt n es s F' far (n * C + 1)).toNat) (fun _ => False) (fun sl ρ => ∃ F' h' f', sl = .d (.tuple (tk n F')) ∧ ρ = eR n es s q K F' l h' f' v a ∧ Red n es q s (tot es s F')) (fun F' ρ hI => by
      obtain ⟨h, f, lh, lf, rfl, h1, h2⟩ := hI
      refine ⟨true, eR n es s q K F' l h f v a, rfl, fun z => (nomatch z), fun _ => ?_⟩
      obtain ⟨L, eB, bi, clo⟩ := burnt_spec (s := fun v => s v + lap es F' v) g hq
      have st1 : setF 7 (callD F_fired (adF (nmF 0) (adF (nmF 1) (adF (nmF 5) (anilF))))) (eR n es s q K F' l h f v a) = some (.nx (eR n es s q K F' l (.d (.tuple (tk n fun v => s v + lap es F' v))) f v a)) := by
        simp only [setF, fired_call g]
        simp [eR, setSl_q, lh]
      have st2 : setF 8 (callD F_burnt (adF (nmF 0) (adF (nmF 7) (adF (nmF 2) (anilF))))) (eR n es s q K F' l (.d (.tuple (tk n fun v => s v + lap es F' v))) f v a) = some (.nx (eR n es s q K F' l (.d (.tuple (tk n fun v => s v + lap es F' v))) (.d (.list (encL L))) v a)) := by
        simp [setF, callD, resS, adF, nmF, anilF, eR, borKs, argSl, toSl, eB, putBack, setSl_q, lf]
      have tst : tsF (opF gEq (callF gLen (consF (nmF 8) (nilF))) (nmF 3)) (eR n es s q K F' l (.d (.tuple (tk n fun v => s v + lap es F' v))) (.d (.list (encL L))) v a) = some (decide (L.length = n), eR n es s q K F' l (.d (.tuple (tk n fun v => s v + lap es F' v))) (.d (.list (encL L))) v a) := by
        simp [tsF, opF, callF, consF, nmF, nilF, eR, gLen, encL_len, gEq_nat]
      by_cases c : L.length = n
      · rw [decide_eq_true c] at tst
        refine .inr ⟨.d (.tuple (tk n F')), eR n es s q K F' l (.d (.tuple (tk n fun v => s v + lap es F' v))) (.d (.list (encL L))) v a, ?_, F', _, _, rfl, rfl, ⟨F', fun _ _ => rfl⟩, h1, L, bi, c⟩
        unfold b_reducing_1 seqS
        rw [st1]
        dsimp only
        rw [st2]
        dsimp only
        unfold ifS
        rw [tst]
        simp [retF, callF, consF, nmF, nilF, eR, gTup]
      · rw [decide_eq_false c] at tst
        have hlen := bi.len g
        obtain ⟨v0, hv0, hn0⟩ : ∃ v0, v0 < n ∧ v0 ∉ L := by
          by_cases z : ∃ v0, v0 < n ∧ v0 ∉ L
          · exact z
          · exfalso
            have all : ∀ x < n, x ∈ L := fun x hx => by
              by_cases m : x ∈ L
              · exact m
              · exact absurd ⟨x, hx, m⟩ z
            have := all_le n L all
            omega
        have hql : q ∈ L := List.mem_of_getElem? bi.hd
        have npos : ∀ w < n, w ∉ L → 0 ≤ tot es s (fun x => F' x + chi L x) w := fun w hw hnw => by
          rw [tot_add, lap_out hnw es fun e he => (g.lt e he).1]
          have z : ¬ (s w + lap es F' w < (eT es w L : Nat)) := clo w hw hnw
          unfold tot
          omega
        have gain : ∀ w, w ∈ L → 0 ≤ lap es (chi L) w := fun w hw => lap_ge0 es fun x => by
          have z : chi L w = 0 := by unfold chi; rw [if_pos hw]
          rw [z]
          unfold chi
          split <;> omega
        refine .inl ⟨fun x => F' x + chi L x, eR n es s q K (fun x => F' x + chi L x) l (.d (.tuple (tk n fun v => s v + lap es F' v))) (.d (.list (encL L))) v a, ?_, ⟨_, _, rfl, rfl, rfl, fun w hw hwq => ?_, ?_⟩, ?_⟩
        · unfold b_reducing_1 seqS
          rw [st1]
          dsimp only
          rw [st2]
          dsimp only
          unfold ifS
          rw [tst]
          have := c1_spec (s := s) (F := F') (L := L) (q := q) (K := K) (l := l) (h := .d (.tuple (tk n fun v => s v + lap es F' v))) g lv la
          simp only [nxS, setF, frF, this]
          simp [eR, setSl, chi]
        · by_cases m : w ∈ L
          · rw [tot_add]
            have := h1 w hw hwq
            have := gain w m
            omega
          · exact npos w hw m
        · rw [tot_add]
          have := gain q hql
          omega
        · have hCC : ∀ v < n, v ≠ q → tot es s F' v ≤ C := fun v hv hvq => by
            have := tot_le (c0 := tot es s F q) g hq h2 h1 hv hvq
            omega
          have hgrow := wt_grow (C := C) g ly hCC hql hv0 hn0 npos
          have hnew : ∀ v < n, tot es s (fun x => F' x + chi L x) v ≤ C2 := fun v hv => by
            have p1 : ∀ w < n, w ≠ q → 0 ≤ tot es s (fun x => F' x + chi L x) w := fun w hw hwq => by
              by_cases m : w ∈ L
              · rw [tot_add]
                have := h1 w hw hwq
                have := gain w m
                omega
              · exact npos w hw m
            have p2 : tot es s F q ≤ tot es s (fun x => F' x + chi L x) q := by
              rw [tot_add]
              have := gain q hql
              omega
            by_cases z : v = q
            · rw [z]
              have := tot_q g hq p1
              omega
            · have := tot_le (c0 := tot es s F q) g hq p2 p1 hv z
              omega
          have := wt_le (C := C2) (far := far) hB hnew
          omega) _ F _ (Nat.le_refl _) ⟨h, f, lh, lf, rfl, hF, Int.le_refl _⟩
  rcases w with ⟨_, _, z⟩ | ⟨sl, ρ', e, F', h', f', rfl, rfl, k⟩
  · exact z.elim
  · exact ⟨F', h', f', e, k⟩
end
end G

set_option Elab.async false
set_option linter.all false
set_option maxRecDepth 100000
set_option maxHeartbeats 4000000
namespace G
open PySem PySem.Spec PyProof.Rows L2
section
variable {n : Nat} {es : List (Nat × Nat)} {q : Nat} {s : Nat → Int}
theorem rep0 : List.replicate n (PyData.int 0) = tk n fun _ => 0 := by
  apply List.ext_getElem?
  intro i
  by_cases h : i < n
  · rw [tk_get h, List.getElem?_replicate, if_pos h]
  · rw [List.getElem?_replicate, if_neg h, List.getElem?_eq_none (by rw [tk_len]; omega)]
theorem reducing_spec (g : GOk n es) (hq : q < n) : ∃ F, F_reducing [.d (encG n es), .d (.tuple (tk n s)), .d (.int q)] = some (.d (.tuple (tk n F)), [.un, .un, .un]) ∧ Red n es q s (tot es s F) := by
  have g5 := g.five
  obtain ⟨K, far, eK, ly⟩ := layers_spec g hq
  obtain ⟨F1, l1, ll1, e1, h1⟩ := first_loop (s := s) (F := fun _ => 0) (l := .un) (h := .un) (f := .un) (v := .un) (a := .un) g hq ly rfl rfl rfl
  obtain ⟨F2, h2, f2, e2, k2⟩ := second_loop (s := s) (F := F1) (l := l1) (h := .un) (f := .un) (v := .un) (a := .un) g hq ly ll1 rfl rfl rfl rfl h1
  refine ⟨F2, ?_, k2⟩
  have s3 : setF 3 (opF gIx (nmF 0) (kF (.int 0))) [.d (encG n es), .d (.tuple (tk n s)), .d (.int q), .un, .un, .un, .un, .un, .un, .un, .un] = some (.nx [.d (encG n es), .d (.tuple (tk n s)), .d (.int q), .d (.int n), .un, .un, .un, .un, .un, .un, .un]) := by
    simp [setF, opF, nmF, kF, gIx_G0, setSl]
  have s4 : setOF 4 (callO F_layers (adF (nmF 0) (adF (nmF 2) (anilF)))) [.d (encG n es), .d (.tuple (tk n s)), .d (.int q), .d (.int n), .un, .un, .un, .un, .un, .un, .un] = some (.nx [.d (encG n es), .d (.tuple (tk n s)), .d (.int q), .d (.int n), .ow false (.dct false (encK K)), .un, .un, .un, .un, .un, .un]) := by
    simp [setOF, callO, resS, adF, nmF, anilF, borKs, argSl, toSl, eK, putBack, setSl]
  have s5 : setF 5 (frF (repOF (lstF (consF (kF (.int 0)) (nilF))) (nmF 3))) [.d (encG n es), .d (.tuple (tk n s)), .d (.int q), .d (.int n), .ow false (.dct false (encK K)), .un, .un, .un, .un, .un, .un] = some (.nx (eR n es s q K (fun _ => 0) .un .un .un .un .un)) := by
    have c : ((n : Int) ≤ 1000000 ∧ (-1000000 : Int) ≤ n) := by omega
    simp [setF, frF, repOF, lstF, consF, kF, nilF, nmF, c, setSl, eR, rep0]
  simp [F_reducing, runF, f_reducing, seqS, s3, s4, s5, e1, e2]
  simp [eR, backA]
theorem reduced_spec (g : GOk n es) (hq : q < n) : ∃ r, F_reduced [.d (encG n es), .d (.tuple (tk n s)), .d (.int q)] = some (.d (.tuple (tk n r)), [.un, .un, .un]) ∧ Red n es q s r := by
  obtain ⟨F, e, k⟩ := reducing_spec (s := s) g hq
  refine ⟨tot es s F, ?_, k⟩
  have e2 := fired_spec (s := s) (F := F) (fd := .tuple (tk n F)) g fun v hv => gIx_tk hv
  simp [F_reduced, runF, f_reduced, retF, callD, resS, adF, nmF, anilF, borKs, argSl, toSl, e, putBack, e2, backA]
  rfl
/-! ### there is one reduced stack -/
theorem exists_max (H : Nat → Int) : ∀ n, 0 < n → ∃ m, m < n ∧ ∀ w < n, H w ≤ H m
  | 0, h => absurd h (by omega)
  | 1, _ => ⟨0, by omega, fun w hw => by rw [show w = 0 by omega]; exact Int.le_refl _⟩
  | n + 2, _ => by
    obtain ⟨m, h1, h2⟩ := exists_max H (n + 1) (by omega)
    by_cases c : H m ≤ H (n + 1)
    · refine ⟨n + 1, by omega, fun w hw => ?_⟩
      by_cases z : w = n + 1
      · rw [z]; exact Int.le_refl _
      · have := h2 w (by omega)
        omega
    · refine ⟨m, by omega, fun w hw => ?_⟩
      by_cases z : w = n + 1
      · rw [z]; omega
      · exact h2 w (by omega)
/-- the first burnt vertex of a set -/
theorem full_hit {r : Nat → Int} {L : List Nat} (b : BI n es r q L) (e : L.length = n) (A : Nat → Prop) {v0 : Nat} (h0 : v0 < n) (ha : A v0) (hq : ¬ A q) : ∃ k v, L[k]? = some v ∧ v < n ∧ A v ∧ r v < (eT es v (L.take k) : Nat) ∧ ∀ x ∈ L.take k, ¬ A x := by
  have mem := nodup_all b.nd b.lt e h0
  obtain ⟨k0, hk0, e0⟩ := List.mem_iff_getElem.mp mem
  have key : ∀ (m k : Nat), k ≤ m → ∀ v : Nat, L[k]? = some v → A v → ∃ (k v : Nat), L[k]? = some v ∧ A v ∧ ∀ x ∈ L.take k, ¬ A x := by
    intro m
    induction m with
    | zero =>
      intro k hk v hv hav
      have : k = 0 := by omega
      subst this
      exact ⟨0, v, hv, hav, fun x hx => by simp at hx⟩
    | succ m ih =>
      intro k hk v hv hav
      by_cases c : ∃ x ∈ L.take k, A x
      · obtain ⟨x, hx, hax⟩ := c
        obtain ⟨j, hj, ej⟩ := List.mem_iff_getElem.mp hx
        rw [List.length_take] at hj
        have ej' : L[j]? = some x := by
          rw [List.getElem_take] at ej
          rw [List.getElem?_eq_getElem (by omega), ej]
        exact ih j (by omega) x ej' hax
      · exact ⟨k, v, hv, hav, fun x hx hax => c ⟨x, hx, hax⟩⟩
  obtain ⟨k, v, hv, hav, h⟩ := key k0 k0 (Nat.le_refl _) v0 (by rw [List.getElem?_eq_getElem hk0, e0]) ha
  have kpos : 0 < k := by
    cases k with
    | zero =>
      rw [b.hd] at hv
      cases hv
      exact absurd hav hq
    | succ k => omega
  exact ⟨k, v, hv, b.lt v (List.mem_of_getElem? hv), hav, b.ord k v kpos hv, h⟩
theorem lap_le {H : Nat → Int} {v : Nat} {P : List Nat} (hP : ∀ x ∈ P, H x < H v) : ∀ es : List (Nat × Nat), (∀ e ∈ es, e.1 < e.2 ∧ H e.1 ≤ H v ∧ H e.2 ≤ H v) → lap es H v ≤ - (eT es v P : Nat)
  | [], _ => Int.le_refl _
  | e :: es, g => by
    have ih := lap_le hP es fun e he => g e (List.mem_cons_of_mem _ he)
    obtain ⟨g1, g2, g3⟩ := g e List.mem_cons_self
    have hx : lapE H v e ≤ - (if hasE v P e then 1 else 0) := by
      unfold lapE hasE
      by_cases c1 : e.1 = v
      · rw [if_pos c1.symm]
        have c0 : ¬ e.2 = v := by omega
        by_cases c2 : e.2 ∈ P
        · have := hP _ c2
          simp [c1, c2]
          omega
        · simp [c1, c2, c0]
          omega
      · rw [if_neg (Ne.symm c1)]
        by_cases c2 : e.2 = v
        · rw [if_pos c2.symm]
          by_cases c3 : e.1 ∈ P
          · have := hP _ c3
            simp [c1, c2, c3]
            omega
          · simp [c1, c2, c3]
            omega
        · rw [if_neg (Ne.symm c2)]
          simp [c1, c2]
    unfold lap eT at ih ⊢
    rw [List.map_cons, List.sum_cons, List.filter_cons]
    by_cases c : hasE v P e = true
    · rw [if_pos c] at hx ⊢
      rw [List.length_cons]
      omega
    · rw [if_neg c] at hx ⊢
      omega
theorem max_at_q (g : GOk n es) {r r' H : Nat → Int} (hp : ∀ v < n, v ≠ q → 0 ≤ r' v) (hf : ∃ L, BI n es r q L ∧ L.length = n) (e : ∀ v < n, r' v = r v + lap es H v) : ∀ w < n, H w ≤ H q := by
  intro w hw
  obtain ⟨m, hm, hmax⟩ := exists_max H n g.pos
  rcases Int.lt_or_le (H q) (H m) with c | c
  · exfalso
    obtain ⟨L, bi, hl⟩ := hf
    obtain ⟨k, v, _, hv, hA, hlt, hout⟩ := full_hit bi hl (fun v => v < n ∧ H v = H m) hm ⟨hm, rfl⟩ (fun z => by omega)
    have hvq : v ≠ q := fun z => by rw [z] at hA; omega
    have hP : ∀ x ∈ L.take k, H x < H v := fun x hx => by
      have h1 := hout x hx
      have h2 := bi.lt x (List.mem_of_mem_take hx)
      have h3 := hmax x h2
      have h4 : H x ≠ H m := fun z => h1 ⟨h2, z⟩
      have h5 := hA.2
      omega
    have h1 := lap_le hP es fun e he => by
      obtain ⟨g1, g2⟩ := g.lt e he
      have := hmax e.1 (by omega)
      have := hmax e.2 g2
      have := hA.2
      exact ⟨g1, by omega, by omega⟩
    have h2 := hp v hv hvq
    rw [e v hv] at h2
    omega
  · have := hmax w hw
    omega
theorem red_unique (g : GOk n es) (hq : q < n) {r r' H : Nat → Int} (hp : ∀ v < n, v ≠ q → 0 ≤ r v) (hp' : ∀ v < n, v ≠ q → 0 ≤ r' v) (hf : ∃ L, BI n es r q L ∧ L.length = n) (hf' : ∃ L, BI n es r' q L ∧ L.length = n)
    (e : ∀ v < n, r' v = r v + lap es H v) : ∀ v < n, r' v = r v := by
  have h1 := max_at_q g hp' hf e
  have h2 := max_at_q (H := fun w => - H w) g hp hf' fun v hv => by
    rw [lap_neg, e v hv]
    omega
  intro v hv
  rw [e v hv, lap_congr (H := fun _ => H q) (n := n) (fun w hw => by
    have a := h1 w hw
    have b := h2 w hw
    omega) es g.lt, lap_const]
  omega
theorem Red.same (g : GOk n es) (hq : q < n) {s s' r r' : Nat → Int} (a : Red n es q s r) (b : Red n es q s' r') {G : Nat → Int} (e : ∀ v < n, s' v = s v + lap es G v) : ∀ v < n, r' v = r v := by
  obtain ⟨F, hF⟩ := a.eqv
  obtain ⟨F', hF'⟩ := b.eqv
  refine red_unique (H := fun w => (F' w + G w) + (- F w)) g hq a.pos b.pos a.full b.full fun v hv => ?_
  rw [lap_add, lap_add, lap_neg, hF v hv, hF' v hv]
  unfold tot
  rw [e v hv]
  omega
theorem Red.back {s s' r r' : Nat → Int} (a : Red n es q s r) (b : Red n es q s' r') (e : ∀ v < n, r' v = r v) : ∃ G, ∀ v < n, s' v = s v + lap es G v := by
  obtain ⟨F, hF⟩ := a.eqv
  obtain ⟨F', hF'⟩ := b.eqv
  refine ⟨fun w => F w + (- F' w), fun v hv => ?_⟩
  rw [lap_add, lap_neg]
  have h := e v hv
  rw [hF v hv, hF' v hv] at h
  unfold tot at h
  omega
/-- whether two stacks are the same up to firing -/
def Equ (n : Nat) (es : List (Nat × Nat)) (s s' : Nat → Int) : Prop := ∃ G, ∀ v < n, s' v = s v + lap es G v
theorem tk_inj {r r' : Nat → Int} (h : tk n r = tk n r') : ∀ v < n, r v = r' v := fun v hv => by
  have h1 := tk_get (s := r) hv
  rw [h, tk_get hv] at h1
  have := Option.some.inj h1
  injection this with h2
  exact h2.symm
theorem Red.tk_eq (g : GOk n es) (hq : q < n) {s s' r r' : Nat → Int} (a : Red n es q s r) (b : Red n es q s' r') : tk n r = tk n r' ↔ Equ n es s s' :=
  ⟨fun h => a.back b fun v hv => (tk_inj h v hv).symm, fun ⟨_, e⟩ => tk_congr fun v hv => (a.same g hq b e v hv).symm⟩
theorem tk_ints {r : Nat → Int} : tk n r = ((List.range n).map r).map PyData.int := by
  unfold tk
  rw [List.map_map]
  rfl
theorem eqv_ints : ∀ as bs : List Int, PyData.eqvAll (as.map PyData.int) (bs.map PyData.int) = decide (as = bs)
  | [], [] => by simp [PyData.eqvAll]
  | [], b :: bs => by simp [PyData.eqvAll]
  | a :: as, [] => by simp [PyData.eqvAll]
  | a :: as, b :: bs => by
    have ih := eqv_ints as bs
    simp only [List.map_cons, PyData.eqvAll, PyData.eqv, ih]
    by_cases c : a = b
    · simp [c]
    · simp [c]
def same (n : Nat) (r r' : Nat → Int) : Bool := decide ((List.range n).map r = (List.range n).map r')
theorem same_iff {r r' : Nat → Int} : same n r r' = true ↔ tk n r = tk n r' := by
  unfold same
  rw [decide_eq_true_iff, tk_ints, tk_ints]
  exact ⟨fun h => by rw [h], fun h => by
    have := congrArg intsOf h
    rw [intsOf_map, intsOf_map] at this
    exact Option.some.inj this⟩
theorem gEq_tk {r r' : Nat → Int} : gEq (.tuple (tk n r)) (.tuple (tk n r')) = some (.bool (same n r r')) := by
  have h1 : SeqAt.shaped (.tuple (tk n r)) = true := by rw [tk_ints]; exact shaped_tint
  have h2 : SeqAt.shaped (.tuple (tk n r')) = true := by rw [tk_ints]; exact shaped_tint
  have h3 : PyData.eqv (.tuple (tk n r)) (.tuple (tk n r')) = same n r r' := by
    rw [PyData.eqv, tk_ints, tk_ints, eqv_ints]
    rfl
  simp only [gEq, orG, gEqI, iiB, gEqD, h1, h2, h3, Bool.and_self, if_true]
theorem equiv_spec (g : GOk n es) {s s' : Nat → Int} : ∃ b : Bool, F_are_equivalent [.d (encG n es), .d (.tuple (tk n s)), .d (.tuple (tk n s'))] = some (.d (.bool b), [.un, .un, .un]) ∧ (b = true ↔ Equ n es s s') := by
  obtain ⟨r, e, k⟩ := reduced_spec (q := 0) (s := s) g g.pos
  obtain ⟨r', e', k'⟩ := reduced_spec (q := 0) (s := s') g g.pos
  refine ⟨same n r r', ?_, by rw [same_iff]; exact k.tk_eq g g.pos k'⟩
  have e0 : ((0 : Nat) : Int) = 0 := rfl
  rw [e0] at e e'
  simp [F_are_equivalent, runF, f_are_equivalent, retF, opF, callD, resS, adF, nmF, kF, anilF, borKs, argSl, toSl, e, e', putBack, gEq_tk, backA]
end
end G

set_option Elab.async false
set_option linter.all false
set_option maxRecDepth 100000
set_option maxHeartbeats 4000000
namespace G
open PySem PySem.Spec PyProof.Rows L2
/-! ### draws -/
theorem gMul_c {a b : Int} (h : -(2 ^ 64) < b ∧ b < 2 ^ 64) : gMulI (.int a) (.int b) = some (.int (a * b)) := by
  unfold gMulI orG iiC
  dsimp only
  rw [if_pos (.inr h)]
theorem gMod_c {a b : Int} (h : 0 < b) : gMod (.int a) (.int b) = some (.int (a % b)) := by
  unfold gMod iiC
  dsimp only
  rw [if_pos h]
theorem gDiv_c {a b : Int} (h : 0 < b) (h2 : b < 9000) : gDiv (.int a) (.int b) = some (.int (a / b)) := by
  unfold gDiv orG iiC
  dsimp only
  have : b.natAbs.log2 < 9000 := by
    have := Nat.log2_le_self b.natAbs
    omega
  rw [if_pos ⟨h, this⟩]
theorem gAdd_i {a b : Int} : gAdd (.int a) (.int b) = some (.int (a + b)) := rfl
theorem gSub_i {a b : Int} : gSub (.int a) (.int b) = some (.int (a - b)) := rfl
theorem gInt_i {a : Int} : gInt [.int a] = some (.int a) := rfl
theorem spread_spec (z : Int) : ∃ r, F__law_spread [.d (.int z)] = some (.d (.int r), [.un]) := by
  obtain ⟨ρ', e, m, t, k, _, rfl⟩ := forS_run (it := rng1F (consF (kF (.int 4)) (nilF))) (B := bN 3) (g := b__law_spread_1) (ρ := [.d (.int z), .d (.int (z % 2147483647)), .d (.int 1), .un]) (ρ1 := [.d (.int z), .d (.int (z % 2147483647)), .d (.int 1), .un]) (xs := rngD 0 1 4)
    (fun i ρ => ∃ m t k, light (some k) = true ∧ ρ = [.d (.int z), .d (.int m), .d (.int t), k]) (by rfl) ⟨_, _, .un, rfl, rfl⟩ (fun i x ρ hx hi => by
      obtain ⟨m, t, k, lk, rfl⟩ := hi
      obtain ⟨_, rfl⟩ := rngD_at hx
      refine ⟨[.d (.int z), .d (.int m), .d (.int t), .d (.int (i : Nat))], [.d (.int z), .d (.int ((m * 48271 + 12345 + i) % 2147483647)), .d (.int (t * 2147483647 + (m * 48271 + 12345 + i) % 2147483647)), .d (.int (i : Nat))], by simp [bN, setSl_q, lk], ?_, _, _, .d (.int (i : Nat)), rfl, rfl⟩
      simp [b__law_spread_1, seqS, setF, opF, callF, consF, nmF, kF, nilF, gMul_c, gAdd_i, gInt_i, gMod_c, setSl])
  refine ⟨t, ?_⟩
  have e' : l__law_spread_1 [.d (.int z), .d (.int (z % 2147483647)), .d (.int 1), .un] = _ := e
  simp [F__law_spread, runF, f__law_spread, seqS, setF, opF, callF, consF, nmF, kF, nilF, gInt_i, gMod_c, setSl, e', retF, backA]
def isPool (P : List D) : Prop := ∃ (ns : List Int) (a : Nat) (b c d : Int), P = [.list (ns.map PyData.int), .int a, .int b, .int c, .int d]
def pool (ns : List Int) (a : Nat) (b c d : Int) : List D := [.list (ns.map PyData.int), .int a, .int b, .int c, .int d]
def dA : SF := ifS (andF (tsF (opF gLe (ixVF 0 (kF (.int 2))) (kF (.int 0)))) (tsF (opF gLt (ixVF 0 (kF (.int 1))) (callF gLen (consF (ixVF 0 (kF (.int 0))) (nilF)))))) (seqS (setF 2 (opF gIx (ixVF 0 (kF (.int 0))) (ixVF 0 (kF (.int 1))))) (seqS (setIxF 0 (kF (.int 1)) (opF gAdd (ixVF 0 (kF (.int 1))) (kF (.int 1)))) (seqS (setIxF 0 (kF (.int 2)) (nmF 2)) (ifS (tsF (opF gLt (nmF 2) (kF (.int 1000000000000000000)))) (setIxF 0 (kF (.int 2)) (callD F__law_spread (adF (nmF 2) (anilF)))) (nxS))))) (nxS)
def dB : SF := setIxF 0 (kF (.int 3)) (opF gAdd (ixVF 0 (kF (.int 3))) (kF (.int 1)))
def dC : SF := ifS (tsF (opF gLe (ixVF 0 (kF (.int 2))) (kF (.int 0)))) (seqS (setF 3 (opF gMod (callF gInt (consF (opF gAdd (opF gAdd (opF gMulI (ixVF 0 (kF (.int 4))) (kF (.int 48271))) (opF gMulI (ixVF 0 (kF (.int 3))) (kF (.int 69621)))) (kF (.int 1))) (nilF))) (kF (.int 2147483647)))) (seqS (setF 3 (opF gMod (callF gInt (consF (opF gAdd (opF gMulI (nmF 3) (kF (.int 16807))) (ixVF 0 (kF (.int 3)))) (nilF))) (kF (.int 2147483629)))) (retF (opF gMod (opF gDiv (nmF 3) (kF (.int 5))) (nmF 1))))) (nxS)
def dD : SF := seqS (setF 4 (opF gMod (callF gInt (consF (ixVF 0 (kF (.int 2))) (nilF))) (nmF 1))) (seqS (setIxF 0 (kF (.int 2)) (opF gDiv (ixVF 0 (kF (.int 2))) (nmF 1))) (retF (nmF 4)))
theorem draw_is : f__law_draw = seqS dA (seqS dB (seqS dC dD)) := rfl
section
variable {ns : List Int} {a : Nat} {b c d m : Int} {x y z w : Sl}
theorem p_ix0 : ixVF 0 (kF (.int 0)) [.ow true (.lst (pool ns a b c d)), x, y, z, w] = some (.list (ns.map PyData.int), [.ow true (.lst (pool ns a b c d)), x, y, z, w]) := rfl
theorem p_ix1 : ixVF 0 (kF (.int 1)) [.ow true (.lst (pool ns a b c d)), x, y, z, w] = some (.int a, [.ow true (.lst (pool ns a b c d)), x, y, z, w]) := rfl
theorem p_ix2 : ixVF 0 (kF (.int 2)) [.ow true (.lst (pool ns a b c d)), x, y, z, w] = some (.int b, [.ow true (.lst (pool ns a b c d)), x, y, z, w]) := rfl
theorem p_ix3 : ixVF 0 (kF (.int 3)) [.ow true (.lst (pool ns a b c d)), x, y, z, w] = some (.int c, [.ow true (.lst (pool ns a b c d)), x, y, z, w]) := rfl
theorem p_ix4 : ixVF 0 (kF (.int 4)) [.ow true (.lst (pool ns a b c d)), x, y, z, w] = some (.int d, [.ow true (.lst (pool ns a b c d)), x, y, z, w]) := rfl
theorem p_set1 {f : EF} {k : Nat} (h : f [.ow true (.lst (pool ns a b c d)), x, y, z, w] = some (.int k, [.ow true (.lst (pool ns a b c d)), x, y, z, w])) : setIxF 0 (kF (.int 1)) f [.ow true (.lst (pool ns a b c d)), x, y, z, w] = some (.nx [.ow true (.lst (pool ns k b c d)), x, y, z, w]) := by
  unfold setIxF
  rw [h]
  rfl
theorem p_set2 {f : EF} {k : Int} (h : f [.ow true (.lst (pool ns a b c d)), x, y, z, w] = some (.int k, [.ow true (.lst (pool ns a b c d)), x, y, z, w])) : setIxF 0 (kF (.int 2)) f [.ow true (.lst (pool ns a b c d)), x, y, z, w] = some (.nx [.ow true (.lst (pool ns a k c d)), x, y, z, w]) := by
  unfold setIxF
  rw [h]
  rfl
theorem p_set3 {f : EF} {k : Int} (h : f [.ow true (.lst (pool ns a b c d)), x, y, z, w] = some (.int k, [.ow true (.lst (pool ns a b c d)), x, y, z, w])) : setIxF 0 (kF (.int 3)) f [.ow true (.lst (pool ns a b c d)), x, y, z, w] = some (.nx [.ow true (.lst (pool ns a b k d)), x, y, z, w]) := by
  unfold setIxF
  rw [h]
  rfl
theorem dA_spec (ly : light (some y) = true) : ∃ a' b' y', light (some y') = true ∧ dA [.ow true (.lst (pool ns a b c d)), x, y, z, w] = some (.nx [.ow true (.lst (pool ns a' b' c d)), x, y', z, w]) := by
  have t1 : opF gLe (ixVF 0 (kF (.int 2))) (kF (.int 0)) [.ow true (.lst (pool ns a b c d)), x, y, z, w] = some (.bool (decide (b ≤ 0)), [.ow true (.lst (pool ns a b c d)), x, y, z, w]) := by
    unfold opF
    rw [p_ix2]
    rfl
  have t2 : opF gLt (ixVF 0 (kF (.int 1))) (callF gLen (consF (ixVF 0 (kF (.int 0))) (nilF))) [.ow true (.lst (pool ns a b c d)), x, y, z, w] = some (.bool (decide (a < ns.length)), [.ow true (.lst (pool ns a b c d)), x, y, z, w]) := by
    have : gLt (.int (a : Nat)) (.int ((ns.map PyData.int).length : Nat)) = some (.bool (decide (a < ns.length))) := by
      show some (PyData.bool (decide ((a : Int) < ((ns.map PyData.int).length : Nat)))) = _
      rw [List.length_map, show decide ((a : Int) < (ns.length : Nat)) = decide (a < ns.length) from decide_eq_decide.mpr (by omega)]
    simp only [opF, p_ix1, callF, consF, p_ix0, nilF, gLen, this]
  have tt : andF (tsF (opF gLe (ixVF 0 (kF (.int 2))) (kF (.int 0)))) (tsF (opF gLt (ixVF 0 (kF (.int 1))) (callF gLen (consF (ixVF 0 (kF (.int 0))) (nilF))))) [.ow true (.lst (pool ns a b c d)), x, y, z, w] = some (decide (b ≤ 0 ∧ a < ns.length), [.ow true (.lst (pool ns a b c d)), x, y, z, w]) := by
    unfold andF tsF
    rw [t1]
    by_cases c1 : b ≤ 0
    · simp [c1, t2]
    · simp [c1]
  unfold dA ifS
  rw [tt]
  by_cases c1 : b ≤ 0 ∧ a < ns.length
  · rw [decide_eq_true c1]
    have ha : gIx (.list (ns.map PyData.int)) (.int (a : Nat)) = some (.int ns[a]) := by
      show atI (ns.map PyData.int) (a : Int) = _
      unfold atI
      rw [List.length_map, ixN_nat c1.2]
      show (ns.map PyData.int)[a]? = _
      rw [List.getElem?_map, List.getElem?_eq_getElem c1.2]
      rfl
    have s1 : setF 2 (opF gIx (ixVF 0 (kF (.int 0))) (ixVF 0 (kF (.int 1)))) [.ow true (.lst (pool ns a b c d)), x, y, z, w] = some (.nx [.ow true (.lst (pool ns a b c d)), x, .d (.int ns[a]), z, w]) := by
      simp only [setF, opF, p_ix0, p_ix1, ha]
      simp [setSl_q, ly]
    have s2 : setIxF 0 (kF (.int 1)) (opF gAdd (ixVF 0 (kF (.int 1))) (kF (.int 1))) [.ow true (.lst (pool ns a b c d)), x, .d (.int ns[a]), z, w] = some (.nx [.ow true (.lst (pool ns (a + 1) b c d)), x, .d (.int ns[a]), z, w]) := p_set1 (by
      simp only [opF, p_ix1, kF, gAdd_i]
      rfl)
    have s3 : setIxF 0 (kF (.int 2)) (nmF 2) [.ow true (.lst (pool ns (a + 1) b c d)), x, .d (.int ns[a]), z, w] = some (.nx [.ow true (.lst (pool ns (a + 1) ns[a] c d)), x, .d (.int ns[a]), z, w]) := p_set2 rfl
    obtain ⟨r, er⟩ := spread_spec ns[a]
    have s4 : setIxF 0 (kF (.int 2)) (callD F__law_spread (adF (nmF 2) (anilF))) [.ow true (.lst (pool ns (a + 1) ns[a] c d)), x, .d (.int ns[a]), z, w] = some (.nx [.ow true (.lst (pool ns (a + 1) r c d)), x, .d (.int ns[a]), z, w]) := p_set2 (by
      simp [callD, resS, adF, nmF, anilF, borKs, argSl, toSl, er, putBack])
    have s5 : opF gLt (nmF 2) (kF (.int 1000000000000000000)) [.ow true (.lst (pool ns (a + 1) ns[a] c d)), x, .d (.int ns[a]), z, w] = some (.bool (decide (ns[a] < 1000000000000000000)), [.ow true (.lst (pool ns (a + 1) ns[a] c d)), x, .d (.int ns[a]), z, w]) := rfl
    by_cases c2 : ns[a] < 1000000000000000000
    · refine ⟨a + 1, r, .d (.int ns[a]), rfl, ?_⟩
      simp only [seqS, s1, s2, s3, tsF, s5, decide_eq_true c2, s4]
    · refine ⟨a + 1, ns[a], .d (.int ns[a]), rfl, ?_⟩
      simp only [seqS, s1, s2, s3, tsF, s5, decide_eq_false c2, nxS]
  · rw [decide_eq_false c1]
    exact ⟨a, b, y, ly, rfl⟩
theorem draw_spec {P : List D} (hP : isPool P) {m : Int} (h0 : 0 < m) (h1 : m < 1000) : ∃ P' v, F__law_draw [.ow true (.lst P), .d (.int m)] = some (.d (.int v), [.ow true (.lst P'), .un]) ∧ isPool P' ∧ 0 ≤ v ∧ v < m := by
  obtain ⟨ns, a, b, c, d, rfl⟩ := hP
  obtain ⟨a', b', y', ly, e1⟩ := dA_spec (ns := ns) (a := a) (b := b) (c := c) (d := d) (x := .d (.int m)) (y := .un) (z := .un) (w := .un) rfl
  have e2 : dB [.ow true (.lst (pool ns a' b' c d)), .d (.int m), y', .un, .un] = some (.nx [.ow true (.lst (pool ns a' b' (c + 1) d)), .d (.int m), y', .un, .un]) := p_set3 (by
    simp only [opF, p_ix3, kF, gAdd_i])
  have t : tsF (opF gLe (ixVF 0 (kF (.int 2))) (kF (.int 0))) [.ow true (.lst (pool ns a' b' (c + 1) d)), .d (.int m), y', .un, .un] = some (decide (b' ≤ 0), [.ow true (.lst (pool ns a' b' (c + 1) d)), .d (.int m), y', .un, .un]) := rfl
  have e1' : dA [.ow true (.lst [.list (ns.map PyData.int), .int a, .int b, .int c, .int d]), .d (.int m), .un, .un, .un] = _ := e1
  by_cases k : b' ≤ 0
  · rw [decide_eq_true k] at t
    have e3 : dC [.ow true (.lst (pool ns a' b' (c + 1) d)), .d (.int m), y', .un, .un] = some (.rt (.d (.int ((((d * 48271 + (c + 1) * 69621 + 1) % 2147483647) * 16807 + (c + 1)) % 2147483629 / 5 % m))) [.ow true (.lst (pool ns a' b' (c + 1) d)), .d (.int m), y', .d (.int ((((d * 48271 + (c + 1) * 69621 + 1) % 2147483647) * 16807 + (c + 1)) % 2147483629)), .un]) := by
      unfold dC ifS
      rw [t]
      simp [seqS, setF, opF, callF, consF, nilF, p_ix4, p_ix3, kF, gMul_c, gAdd_i, gInt_i, gMod_c, setSl, nmF, retF, gDiv_c, h0]
    refine ⟨pool ns a' b' (c + 1) d, (((d * 48271 + (c + 1) * 69621 + 1) % 2147483647) * 16807 + (c + 1)) % 2147483629 / 5 % m, ?_, ⟨ns, a', b', c + 1, d, rfl⟩, Int.emod_nonneg _ (by omega), Int.emod_lt_of_pos _ h0⟩
    simp [F__law_draw, runF, draw_is, seqS, e1', e2, e3, backA]
  · rw [decide_eq_false k] at t
    have e3 : dC [.ow true (.lst (pool ns a' b' (c + 1) d)), .d (.int m), y', .un, .un] = some (.nx [.ow true (.lst (pool ns a' b' (c + 1) d)), .d (.int m), y', .un, .un]) := by
      unfold dC ifS
      rw [t]
      rfl
    have s1 : setF 4 (opF gMod (callF gInt (consF (ixVF 0 (kF (.int 2))) (nilF))) (nmF 1)) [.ow true (.lst (pool ns a' b' (c + 1) d)), .d (.int m), y', .un, .un] = some (.nx [.ow true (.lst (pool ns a' b' (c + 1) d)), .d (.int m), y', .un, .d (.int (b' % m))]) := by
      simp [setF, opF, callF, consF, p_ix2, nilF, gInt_i, nmF, gMod_c h0, setSl]
    have s2 : setIxF 0 (kF (.int 2)) (opF gDiv (ixVF 0 (kF (.int 2))) (nmF 1)) [.ow true (.lst (pool ns a' b' (c + 1) d)), .d (.int m), y', .un, .d (.int (b' % m))] = some (.nx [.ow true (.lst (pool ns a' (b' / m) (c + 1) d)), .d (.int m), y', .un, .d (.int (b' % m))]) := p_set2 (by
      simp [opF, p_ix2, nmF, gDiv_c h0 (show m < 9000 by omega)])
    refine ⟨pool ns a' (b' / m) (c + 1) d, b' % m, ?_, ⟨ns, a', b' / m, c + 1, d, rfl⟩, Int.emod_nonneg _ (by omega), Int.emod_lt_of_pos _ h0⟩
    simp [F__law_draw, runF, draw_is, seqS, e1', e2, e3, dD, s1, s2, retF, nmF, backA]
end
end G

set_option Elab.async false
set_option linter.all false
set_option maxRecDepth 100000
set_option maxHeartbeats 4000000
namespace G
open PySem PySem.Spec PyProof.Rows L2
theorem opF_eq {g : D → D → Option D} {fa fb : EF} {ρ ρ1 ρ2 : Env} {x y z : D} (h1 : fa ρ = some (x, ρ1)) (h2 : fb ρ1 = some (y, ρ2)) (h3 : g x y = some z) : opF g fa fb ρ = some (z, ρ2) := by
  simp [opF, h1, h2, h3]
theorem draw_call {i : Nat} {fx : Bool} {P : List D} {ρ : Env} {f : EF} {m : Int} (hP : isPool P) (h : ρ[i]? = some (.ow fx (.lst P))) (hf : f ρ = some (.int m, ρ)) (h0 : 0 < m) (h1 : m < 1000) :
    ∃ P' v, callD F__law_draw (aborF i (adF f (anilF))) ρ = some (.int v, ρ.set i (.ow fx (.lst P'))) ∧ isPool P' ∧ 0 ≤ v ∧ v < m := by
  obtain ⟨P', v, e, p, v0, v1⟩ := draw_spec hP h0 h1
  refine ⟨P', v, ?_, p, v0, v1⟩
  have a1 : adF f (anilF) ρ = some ([.d (.int m)], ρ) := by simp [adF, hf, anilF]
  have a2 : aborF i (adF f (anilF)) ρ = some ([.bor i, .d (.int m)], ρ) := by simp [aborF, isSet, h, a1]
  have a3 : argSl ρ [.bor i, .d (.int m)] = some [.ow true (.lst P), .d (.int m)] := by simp [argSl, toSl, h]
  simp [callD, resS, a2, borKs, a3, e, putBack, h]
/-! ### the pool -/
theorem pool_spec (ns : List Int) (hl : ns.length ≤ 63) : ∃ P, F__law_pool [.d (.list (ns.map PyData.int))] = some (.ow false (.lst P), [.un]) ∧ isPool P := by
  have hc : cutD (ns.map PyData.int) none (some 63) = (ns.map PyData.int) := by
    unfold cutD
    rw [HT.sIx_none]
    have : HT.sIx (ns.map PyData.int).length (ns.map PyData.int).length (some ((63 : Nat) : Int)) = min 63 (ns.map PyData.int).length := HT.sIx_nat _ _ 63
    rw [show ((63 : Nat) : Int) = 63 from rfl] at this
    have hl2 : (ns.map PyData.int).length ≤ 63 := by rw [List.length_map]; exact hl
    rw [this, Nat.min_eq_right hl2]
    simp
    exact List.take_of_length_le (by simp)
  obtain ⟨ρ', e, t, k, lk, rfl⟩ := forS_run (it := itF (slF (nmF 0) (ptNo) (ptAt (kF (.int 63))))) (B := bN 2) (g := b__law_pool_1) (ρ := [.d (.list (ns.map PyData.int)), .d (.int 7), .un]) (ρ1 := [.d (.list (ns.map PyData.int)), .d (.int 7), .un]) (xs := ns.map PyData.int)
    (fun i ρ => ∃ t k, light (some k) = true ∧ ρ = [.d (.list (ns.map PyData.int)), .d (.int t), k]) (by
      have : ns.length ≤ 10000000 := by omega
      simp [itF, slF, nmF, ptNo, ptAt, kF, gSl, hc, seqItems, this]) ⟨_, .un, rfl, rfl⟩ (fun i x ρ hx hi => by
      obtain ⟨t, k, lk, rfl⟩ := hi
      rw [List.getElem?_map] at hx
      obtain ⟨z, _, rfl⟩ := Option.map_eq_some_iff.mp hx
      refine ⟨[.d (.list (ns.map PyData.int)), .d (.int t), .d (.int z)], [.d (.list (ns.map PyData.int)), .d (.int ((t * 31 + z) % 1000003)), .d (.int z)], by simp [bN, setSl_q, lk], ?_, _, .d (.int z), rfl, rfl⟩
      simp [b__law_pool_1, setF, opF, callF, consF, nmF, kF, nilF, gMul_c, gAdd_i, gInt_i, gMod_c, setSl])
  have e' : l__law_pool_1 [.d (.list (ns.map PyData.int)), .d (.int 7), .un] = _ := e
  refine ⟨[.list (ns.map PyData.int), .int 0, .int 0, .int 0, .int t], ?_, ns, 0, 0, 0, t, rfl⟩
  simp [F__law_pool, runF, f__law_pool, seqS, setF, kF, setSl, e', retOF, lstF, consF, frF, callOF, nmF, nilF, gList, backA]
/-! ### lists whose parts change the pool -/
theorem lcL_all {B : D → Env → Option Env} {f : EF} {own : List Nat} (I : Env → Prop) (T : D → Prop) : ∀ (xs : List D) (ρ : Env), I ρ →
    (∀ x ∈ xs, ∀ ρ, I ρ → ∃ ρ1 y ρ2, B x ρ = some ρ1 ∧ f ρ1 = some (y, ρ2) ∧ T y ∧ okOwn ρ2 own = true ∧ I (wipeE ρ2 own)) → ∃ ys ρ', lcL B yesF f own xs ρ = some (ys, ρ') ∧ ys.length = xs.length ∧ (∀ y ∈ ys, T y) ∧ I ρ'
  | [], ρ, h, _ => ⟨[], ρ, rfl, rfl, by simp, h⟩
  | x :: xs, ρ, h, st => by
    obtain ⟨ρ1, y, ρ2, e1, e2, hy, ok, h2⟩ := st x List.mem_cons_self ρ h
    obtain ⟨ys, ρ', e3, l, k1, k2⟩ := lcL_all I T xs _ h2 fun z hz => st z (List.mem_cons_of_mem _ hz)
    refine ⟨y :: ys, ρ', ?_, by simp [l], fun z hz => ?_, k2⟩
    · unfold lcL
      rw [e1]
      dsimp only [yesF]
      rw [e2]
      dsimp only
      rw [if_pos ok, e3]
    · rcases List.mem_cons.mp hz with rfl | hz
      · exact hy
      · exact k1 z hz
theorem ints_tk {n : Nat} {ys : List D} (hl : ys.length = n) (h : ∀ y ∈ ys, ∃ i, y = .int i) : ∃ s, ys = tk n s := by
  refine ⟨fun v => match ys[v]? with | some (.int i) => i | _ => 0, ?_⟩
  apply List.ext_getElem?
  intro i
  by_cases c : i < n
  · obtain ⟨z, hz⟩ := h ys[i] (List.getElem_mem (by omega))
    have e : ys[i]? = some (.int z) := by rw [List.getElem?_eq_getElem (by omega), hz]
    rw [tk_get c, e]
  · rw [List.getElem?_eq_none (by omega), List.getElem?_eq_none (by rw [tk_len]; omega)]
section
variable {n : Nat} {es : List (Nat × Nat)}
theorem stack_spec (g : GOk n es) {P : List D} (hP : isPool P) {lo hi : Int} (h0 : lo ≤ hi) (h1 : hi - lo < 900) :
    ∃ P' s, F__law_stack [.ow true (.lst P), .d (encG n es), .d (.int lo), .d (.int hi)] = some (.d (.tuple (tk n s)), [.ow true (.lst P'), .un, .un, .un]) ∧ isPool P' := by
  have g5 := g.five
  obtain ⟨ys, ρ', e, l, ht, P', p', rfl⟩ := lcL_all (B := bN 4) (f := opF gAdd (nmF 2) (callD F__law_draw (aborF 0 (adF (opF gAdd (opF gSub (nmF 3) (nmF 2)) (kF (.int 1))) (anilF))))) (own := [4])
    (fun ρ => ∃ P, isPool P ∧ ρ = [.ow true (.lst P), .d (encG n es), .d (.int lo), .d (.int hi), .un]) (fun y => ∃ i, y = .int i) (rngD 0 1 n) [.ow true (.lst P), .d (encG n es), .d (.int lo), .d (.int hi), .un] ⟨P, hP, rfl⟩ (fun x hx ρ hI => by
      obtain ⟨P, hP, rfl⟩ := hI
      obtain ⟨i, hi', e⟩ := List.mem_iff_getElem.mp hx
      obtain ⟨hin, rfl⟩ := rngD_at (by rw [List.getElem?_eq_getElem hi', e])
      obtain ⟨P', v, e2, p', _, _⟩ := draw_call (i := 0) (fx := true) (ρ := [.ow true (.lst P), .d (encG n es), .d (.int lo), .d (.int hi), .d (.int (i : Nat))]) (f := opF gAdd (opF gSub (nmF 3) (nmF 2)) (kF (.int 1))) (m := hi - lo + 1) hP rfl (by simp [opF, nmF, kF, gSub_i, gAdd_i]) (by omega) (by omega)
      refine ⟨[.ow true (.lst P), .d (encG n es), .d (.int lo), .d (.int hi), .d (.int (i : Nat))], .int (lo + v), [.ow true (.lst P'), .d (encG n es), .d (.int lo), .d (.int hi), .d (.int (i : Nat))], by simp [bN, setSl], ?_, ⟨_, rfl⟩, rfl, P', p', rfl⟩
      have e0 : nmF 2 [.ow true (.lst P), .d (encG n es), .d (.int lo), .d (.int hi), .d (.int (i : Nat))] = some (.int lo, [.ow true (.lst P), .d (encG n es), .d (.int lo), .d (.int hi), .d (.int (i : Nat))]) := rfl
      exact opF_eq e0 e2 rfl)
  obtain ⟨s, rfl⟩ := ints_tk (by rw [l, rngD_len]) ht
  refine ⟨P', s, ?_, p'⟩
  have hc : c__law_stack_1 [.ow true (.lst P), .d (encG n es), .d (.int lo), .d (.int hi), .un] = some (.lst (tk n s), [.ow true (.lst P'), .d (encG n es), .d (.int lo), .d (.int hi), .un]) := by
    have it : rng1F (consF (opF gIx (nmF 1) (kF (.int 0))) (nilF)) [.ow true (.lst P), .d (encG n es), .d (.int lo), .d (.int hi), .un] = some (rngD 0 1 n, [.ow true (.lst P), .d (encG n es), .d (.int lo), .d (.int hi), .un]) := by
      simp [rng1F, consF, opF, nmF, kF, nilF, gIx_G0]
      omega
    unfold c__law_stack_1 lcF
    rw [it]
    dsimp only
    have w : wipeE [.ow true (.lst P), .d (encG n es), .d (.int lo), .d (.int hi), .un] [4] = [.ow true (.lst P), .d (encG n es), .d (.int lo), .d (.int hi), .un] := rfl
    rw [w, e]
    rfl
  simp [F__law_stack, runF, f__law_stack, retF, callF, consF, frF, hc, nilF, gTup, backA]
end
end G

set_option Elab.async false
set_option linter.all false
set_option maxRecDepth 100000
set_option maxHeartbeats 4000000
namespace G
open PySem PySem.Spec PyProof.Rows L2
section
variable {n : Nat} {es : List (Nat × Nat)}
/-! ### the law's own firing -/
theorem gIx_e0 {e : Nat × Nat} : gIx (encE e) (.int 0) = some (.int (e.1 : Nat)) := rfl
theorem gIx_e1 {e : Nat × Nat} : gIx (encE e) (.int 1) = some (.int (e.2 : Nat)) := rfl
theorem lapE_2 {F : Nat → Int} {e : Nat × Nat} (h : e.1 < e.2) (s : Nat → Int) :
    up (up s e.1 (s e.1 - (F e.1 - F e.2))) e.2 (up s e.1 (s e.1 - (F e.1 - F e.2)) e.2 + (F e.1 - F e.2)) = fun v => s v + lapE F v e := by
  have : s e.1 - (F e.1 - F e.2) = s e.1 + (F e.2 - F e.1) := by omega
  rw [this]
  exact lapE_1 h s
theorem lfired_spec (g : GOk n es) {s F : Nat → Int} : F__law_fired [.d (encG n es), .d (.tuple (tk n s)), .d (.tuple (tk n F))] = some (.d (.tuple (tk n fun v => s v + lap es F v)), [.un, .un, .un]) := by
  have fw := g.few
  obtain ⟨ρ', e, a, b, _, _, rfl⟩ := forS_run (it := itF (opF gIx (nmF 0) (kF (.int 1)))) (B := bN 4) (g := b__law_fired_1)
    (ρ := [.d (encG n es), .d (.tuple (tk n s)), .d (.tuple (tk n F)), .ow false (.lst (tk n s)), .un, .un]) (ρ1 := [.d (encG n es), .d (.tuple (tk n s)), .d (.tuple (tk n F)), .ow false (.lst (tk n s)), .un, .un]) (xs := es.map encE)
    (fun k ρ => ∃ a b, light (some a) = true ∧ light (some b) = true ∧ ρ = [.d (encG n es), .d (.tuple (tk n s)), .d (.tuple (tk n F)), .ow false (.lst (tk n fun v => s v + lap (es.take k) F v)), a, b])
    (by simp [itF, opF, nmF, kF, gIx_G1, seqItems]; omega) ⟨.un, .un, rfl, rfl, by simp [lap]⟩ (fun i x ρ hx hi => by
      obtain ⟨a, b, la, lb, rfl⟩ := hi
      rw [List.getElem?_map] at hx
      obtain ⟨e, he, rfl⟩ := Option.map_eq_some_iff.mp hx
      obtain ⟨h1, h2⟩ := g.lt e (List.mem_of_getElem? he)
      have h3 : e.1 < n := by omega
      refine ⟨[.d (encG n es), .d (.tuple (tk n s)), .d (.tuple (tk n F)), .ow false (.lst (tk n fun v => s v + lap (es.take i) F v)), .d (encE e), b], [.d (encG n es), .d (.tuple (tk n s)), .d (.tuple (tk n F)), .ow false (.lst (tk n fun v => s v + lap (es.take (i + 1)) F v)), .d (encE e), .d (.int (F e.1 - F e.2))], by simp [bN, setSl_q, la], ?_, .d (encE e), .d (.int (F e.1 - F e.2)), rfl, rfl, rfl⟩
      generalize ht : (fun v => s v + lap (es.take i) F v) = t
      have hn : (fun v => s v + lap (es.take (i + 1)) F v) = fun v => t v + lapE F v e := by
        rw [← ht]
        funext v
        show s v + lap (es.take (i + 1)) F v = s v + lap (es.take i) F v + lapE F v e
        rw [lap_take he]
        omega
      rw [hn]
      simp [b__law_fired_1, seqS, setF, opF, nmF, kF, gIx_e0, gIx_e1, gIx_tk h2, gIx_tk h3, gSub_i, setSl_q, lb, setIxF, ixVF, atI_tk h3, atI_tk h2, atI_lt h3, atI_lt h2, tk_set, gAdd_i, lapE_2 h1])
  have z : (es.map encE).length = es.length := List.length_map _
  rw [z, List.take_length] at e
  have e' : l__law_fired_1 [.d (encG n es), .d (.tuple (tk n s)), .d (.tuple (tk n F)), .ow false (.lst (tk n s)), .un, .un] = _ := e
  simp [F__law_fired, runF, f__law_fired, seqS, setOF, callOF, consF, nmF, nilF, gList, setSl, e', retF, callF, gTup, backA]
/-! ### graphs drawn -/
theorem sort_es (es : List (Nat × Nat)) (h : es.length ≤ 100) : ∃ es' : List (Nat × Nat), gSort [.list (es.map encE)] = some (es'.map encE) ∧ es'.Perm es := by
  have lay : ∀ es : List (Nat × Nat), PyData.canLayAll0 (es.map encE) = true := by
    intro es
    induction es with
    | nil => rfl
    | cons e es ih =>
      show (PyData.canLay0 (encE e) && PyData.canLayAll0 (es.map encE)) = true
      rw [ih]
      rfl
  have ok : sortOk (es.map encE) = true := by
    unfold sortOk
    rw [lay]
    simp only [Bool.and_eq_true, Bool.or_eq_true, List.all_eq_true, decide_eq_true_eq, true_and]
    refine ⟨⟨⟨fun x hx y hy => ?_, .inl fun x hx => ?_⟩, fun x hx => ?_⟩, by simp; omega⟩
    · obtain ⟨e, _, rfl⟩ := List.mem_map.mp hx
      obtain ⟨e', _, rfl⟩ := List.mem_map.mp hy
      rfl
    · obtain ⟨e, _, rfl⟩ := List.mem_map.mp hx
      rfl
    · obtain ⟨e, _, rfl⟩ := List.mem_map.mp hx
      simp [encE, PyData.depth, PyData.depthAll]
  have pm : (sortD (es.map encE)).Perm (es.map encE) := List.mergeSort_perm _ _
  refine ⟨(sortD (es.map encE)).map decE, ?_, ?_⟩
  · have : ((sortD (es.map encE)).map decE).map encE = sortD (es.map encE) := by
      rw [List.map_map]
      have : ∀ x ∈ sortD (es.map encE), (encE ∘ decE) x = x := fun x hx => by
        obtain ⟨e, _, rfl⟩ := List.mem_map.mp (pm.mem_iff.mp hx)
        rfl
      exact (List.map_congr_left this).trans (List.map_id _)
    rw [this]
    simp [gSort, ok]
  · have := pm.map decE
    rw [List.map_map] at this
    have e : es.map (decE ∘ encE) = es := (List.map_congr_left fun e _ => decE_enc e).trans (List.map_id _)
    rw [e] at this
    exact this
structure EI (n : Nat) (es : List (Nat × Nat)) (i : Nat) : Prop where
  lt : ∀ e ∈ es, e.1 < e.2 ∧ e.2 < n
  tree : ∀ v, 0 < v → v < i → ∃ e ∈ es, e.2 = v
theorem EI.snoc {i : Nat} (b : EI n es i) {e : Nat × Nat} (h : e.1 < e.2) (h2 : e.2 < n) (j : Nat) (hj : j = i ∨ (j = i + 1 ∧ e.2 = i)) : EI n (es ++ [e]) j := by
  refine ⟨fun x hx => ?_, fun v h0 hv => ?_⟩
  · rcases List.mem_append.mp hx with hx | hx
    · exact b.lt x hx
    · have : x = e := by simpa using hx
      rw [this]
      exact ⟨h, h2⟩
  · rcases Nat.lt_or_ge v i with c | c
    · obtain ⟨x, hx, hv⟩ := b.tree v h0 c
      exact ⟨x, List.mem_append_left _ hx, hv⟩
    · rcases hj with rfl | ⟨rfl, hj⟩
      · omega
      · exact ⟨e, by simp, by omega⟩
def eG (P : List D) (n : Nat) (es : List (Nat × Nat)) (v k i j : Sl) : Env := [.ow true (.lst P), .d (.int 5), .d (.int n), .ow false (.lst (es.map encE)), v, k, i, j]
theorem app_edge {P : List D} {v k i j : Sl} {e : Nat × Nat} (h : es.length ≤ 100) {f : EF} (hf : f (eG P n es v k i j) = some (encE e, eG P' n es v k i j)) :
    dropS (appF 3 f) (eG P n es v k i j) = some (.nx (eG P' n (es ++ [e]) v k i j)) := by
  have hz : es.length < 10000000 := by omega
  unfold dropS appF
  have e1 : (eG P n es v k i j)[3]? = some (.ow false (.lst (es.map encE))) := rfl
  rw [e1]
  dsimp only
  rw [hf]
  simp [eG, hz]
theorem graph_one {P : List D} (hP : isPool P) {v i : Nat} {k i' j' : Sl} (b : EI n es v) (hv : 0 < v) (hn : v < n) (hn5 : n ≤ 5) (h : es.length ≤ 50) :
    ∃ P' d, d < v ∧ b__law_graph_2 (eG P n es (.d (.int v)) k i' j') = some (.nx (eG P' n (es ++ [(d, v)]) (.d (.int v)) k i' j')) ∧ isPool P' := by
  obtain ⟨P', d, e, p, d0, d1⟩ := draw_call (i := 0) (fx := true) (ρ := eG P n es (.d (.int v)) k i' j') (f := nmF 4) (m := v) hP rfl (by simp [eG, nmF]) (by omega) (by omega)
  refine ⟨P', d.toNat, by omega, ?_, p⟩
  refine app_edge (e := (d.toNat, v)) (by omega) ?_
  have e' : callD F__law_draw (aborF 0 (adF (nmF 4) (anilF))) (eG P n es (.d (.int v)) k i' j') = some (.int d, eG P' n es (.d (.int v)) k i' j') := e
  have e2 : nmF 4 (eG P' n es (.d (.int v)) k i' j') = some (.int v, eG P' n es (.d (.int v)) k i' j') := rfl
  have ed : ((d.toNat : Nat) : Int) = d := by omega
  simp only [tupF, consF, e', e2, nilF, encE, List.length_cons, List.length_nil, ed]
  simp
theorem graph_two {P : List D} (hP : isPool P) {v k i' j' : Sl} (li : light (some i') = true) (lj : light (some j') = true) {m : Nat} (b : EI n es m) (hn : 0 < n) (hn5 : n ≤ 5) (h : es.length ≤ 50) :
    ∃ P' es' i'' j'', light (some i'') = true ∧ light (some j'') = true ∧ b__law_graph_1 (eG P n es v k i' j') = some (.nx (eG P' n es' v k i'' j'')) ∧ isPool P' ∧ EI n es' m ∧ es'.length ≤ es.length + 1 := by
  have t : tsF (opF gGt (nmF 2) (kF (.int 1))) (eG P n es v k i' j') = some (decide (1 < n), eG P n es v k i' j') := by
    show some (decide ((1 : Int) < n), _) = _
    rw [show decide ((1 : Int) < n) = decide (1 < n) from decide_eq_decide.mpr (by omega)]
  unfold b__law_graph_1 ifS
  rw [t]
  by_cases c : 1 < n
  · rw [decide_eq_true c]
    obtain ⟨P1, x, e1, p1, x0, x1⟩ := draw_call (i := 0) (fx := true) (ρ := eG P n es v k i' j') (f := nmF 2) (m := n) hP rfl (by simp [eG, nmF]) (by omega) (by omega)
    have s1 : setF 6 (callD F__law_draw (aborF 0 (adF (nmF 2) (anilF)))) (eG P n es v k i' j') = some (.nx (eG P1 n es v k (.d (.int x)) j')) := by
      have e1' : callD F__law_draw (aborF 0 (adF (nmF 2) (anilF))) (eG P n es v k i' j') = some (.int x, eG P1 n es v k i' j') := e1
      simp only [setF, e1']
      simp [eG, setSl_q, li]
    obtain ⟨P2, y, e2, p2, y0, y1⟩ := draw_call (i := 0) (fx := true) (ρ := eG P1 n es v k (.d (.int x)) j') (f := opF gSub (nmF 2) (kF (.int 1))) (m := n - 1) p1 rfl (by simp [eG, opF, nmF, kF, gSub_i]) (by omega) (by omega)
    have e2' : callD F__law_draw (aborF 0 (adF (opF gSub (nmF 2) (kF (.int 1))) (anilF))) (eG P1 n es v k (.d (.int x)) j') = some (.int y, eG P2 n es v k (.d (.int x)) j') := e2
    have s2 : setF 7 (opF gMod (opF gAdd (opF gAdd (nmF 6) (kF (.int 1))) (callD F__law_draw (aborF 0 (adF (opF gSub (nmF 2) (kF (.int 1))) (anilF))))) (nmF 2)) (eG P1 n es v k (.d (.int x)) j') = some (.nx (eG P2 n es v k (.d (.int x)) (.d (.int ((x + 1 + y) % n))))) := by
      have a1 : opF gAdd (nmF 6) (kF (.int 1)) (eG P1 n es v k (.d (.int x)) j') = some (.int (x + 1), eG P1 n es v k (.d (.int x)) j') := rfl
      have a2 := opF_eq a1 e2' (gAdd_i)
      have a3 : nmF 2 (eG P2 n es v k (.d (.int x)) j') = some (.int n, eG P2 n es v k (.d (.int x)) j') := rfl
      have a4 := opF_eq a2 a3 (gMod_c (a := x + 1 + y) (b := n) (by omega))
      simp only [setF, a4]
      simp [eG, setSl_q, lj]
    generalize hz : (x + 1 + y) % (n : Int) = z at *
    have z0 : 0 ≤ z := by rw [← hz]; exact Int.emod_nonneg _ (by omega)
    have z1 : z < n := by rw [← hz]; exact Int.emod_lt_of_pos _ (by omega)
    have zx : z ≠ x := fun e => by
      have h1 : (x + 1 + y) % (n : Int) = x + 1 + y ∨ (x + 1 + y) % (n : Int) = x + 1 + y - n := by
        rcases Int.lt_or_le (x + 1 + y) n with c | c
        · exact .inl (Int.emod_eq_of_lt (by omega) c)
        · refine .inr ?_
          rw [← Int.sub_emod_right]
          exact Int.emod_eq_of_lt (by omega) (by omega)
      omega
    have ex : gMin [.int x, .int z] = some (.int (min x z)) := by
      show some (PyData.int (if z < x then z else x)) = _
      by_cases q : z < x
      · rw [if_pos q, show min x z = z by omega]
      · rw [if_neg q, show min x z = x by omega]
    have ey : gMax [.int x, .int z] = some (.int (max x z)) := by
      show some (PyData.int (if z > x then z else x)) = _
      by_cases q : z > x
      · rw [if_pos q, show max x z = z by omega]
      · rw [if_neg q, show max x z = x by omega]
    have m0 : (((min x z).toNat : Nat) : Int) = min x z := by omega
    have m1 : (((max x z).toNat : Nat) : Int) = max x z := by omega
    have s3 : dropS (appF 3 (tupF (consF (callF gMin (consF (nmF 6) (consF (nmF 7) (nilF)))) (consF (callF gMax (consF (nmF 6) (consF (nmF 7) (nilF)))) (nilF))))) (eG P2 n es v k (.d (.int x)) (.d (.int z))) = some (.nx (eG P2 n (es ++ [((min x z).toNat, (max x z).toNat)]) v k (.d (.int x)) (.d (.int z)))) := by
      refine app_edge (by omega) ?_
      have a6 : nmF 6 (eG P2 n es v k (.d (.int x)) (.d (.int z))) = some (.int x, eG P2 n es v k (.d (.int x)) (.d (.int z))) := rfl
      have a7 : nmF 7 (eG P2 n es v k (.d (.int x)) (.d (.int z))) = some (.int z, eG P2 n es v k (.d (.int x)) (.d (.int z))) := rfl
      simp only [tupF, consF, callF, a6, a7, nilF, ex, ey, encE, List.length_cons, List.length_nil, m0, m1]
      simp
    refine ⟨P2, _, .d (.int x), .d (.int z), rfl, rfl, ?_, p2, b.snoc (e := ((min x z).toNat, (max x z).toNat)) (by show (min x z).toNat < (max x z).toNat; omega) (by show (max x z).toNat < n; omega) m (.inl rfl), by simp⟩
    simp only [seqS, s1, s2, s3]
  · rw [decide_eq_false c]
    exact ⟨P, es, i', j', li, lj, rfl, hP, b, by omega⟩
end
end G

set_option Elab.async false
set_option linter.all false
set_option maxRecDepth 100000
set_option maxHeartbeats 4000000
namespace G
open PySem PySem.Spec PyProof.Rows L2
theorem rng2_at {m i : Nat} {x : D} (h : (rngD 1 1 m)[i]? = some x) : i < m ∧ x = .int ((i + 1 : Nat) : Int) := by
  have hi : i < m := by
    have := (List.getElem?_eq_some_iff.mp h).1
    simpa [rngD] using this
  unfold rngD at h
  rw [List.getElem?_map, List.getElem?_range hi] at h
  refine ⟨hi, ?_⟩
  have e := Option.some.inj h
  rw [← e]
  have z : ((1 : Int) + (i : Nat) * 1) = ((i + 1 : Nat) : Int) := by omega
  show PyData.int ((1 : Int) + (i : Nat) * 1) = _
  rw [z]
theorem graph_spec {P : List D} (hP : isPool P) : ∃ P' n es, F__law_graph [.ow true (.lst P), .d (.int 5)] = some (.d (encG n es), [.ow true (.lst P'), .un]) ∧ GOk n es ∧ isPool P' := by
  -- n
  obtain ⟨P1, x, e1, p1, x0, x1⟩ := draw_call (i := 0) (fx := true) (ρ := [.ow true (.lst P), .d (.int 5), .un, .un, .un, .un, .un, .un]) (f := nmF 1) (m := 5) hP rfl rfl (by omega) (by omega)
  obtain ⟨n, hn⟩ : ∃ n : Nat, (n : Int) = 1 + x := ⟨(1 + x).toNat, by omega⟩
  have npos : 0 < n := by omega
  have n5 : n ≤ 5 := by omega
  have s1 : setF 2 (opF gAdd (kF (.int 1)) (callD F__law_draw (aborF 0 (adF (nmF 1) (anilF))))) [.ow true (.lst P), .d (.int 5), .un, .un, .un, .un, .un, .un] = some (.nx [.ow true (.lst P1), .d (.int 5), .d (.int n), .un, .un, .un, .un, .un]) := by
    have a1 : kF (.int 1) [.ow true (.lst P), .d (.int 5), .un, .un, .un, .un, .un, .un] = some (.int 1, [.ow true (.lst P), .d (.int 5), .un, .un, .un, .un, .un, .un]) := rfl
    have a2 := opF_eq a1 e1 (gAdd_i)
    rw [← hn] at a2
    simp only [setF, a2]
    rfl
  have s2 : setOF 3 (lstF (nilF)) [.ow true (.lst P1), .d (.int 5), .d (.int n), .un, .un, .un, .un, .un] = some (.nx (eG P1 n [] .un .un .un .un)) := by
    simp [setOF, lstF, nilF, setSl, eG]
  -- a tree
  obtain ⟨ρ2, e2, P2, es2, v2, lv2, rfl, p2, i2, l2⟩ := forS_run (it := rng2F (consF (kF (.int 1)) (consF (nmF 2) (nilF)))) (B := bN 4) (g := b__law_graph_2) (ρ := eG P1 n [] .un .un .un .un) (ρ1 := eG P1 n [] .un .un .un .un) (xs := rngD 1 1 (n - 1))
    (fun i ρ => ∃ P es v, light (some v) = true ∧ ρ = eG P n es v .un .un .un ∧ isPool P ∧ EI n es (i + 1) ∧ es.length ≤ i)
    (by
      have c : (n : Int) ≤ 1000000 := by omega
      have z : ((n : Int) - 1).toNat = n - 1 := by omega
      simp only [rng2F, consF, kF, nilF, nmF, eG, List.getElem?_cons_succ, List.getElem?_cons_zero]
      rw [if_pos ⟨by omega, by omega, by omega, c⟩, z]) ⟨P1, [], .un, rfl, rfl, p1, ⟨fun e he => absurd he (by simp), fun v h h2 => by omega⟩, by simp⟩ (fun i y ρ hy hI => by
      obtain ⟨Q, es, v, lv, rfl, pQ, ei, le⟩ := hI
      obtain ⟨hi, rfl⟩ := rng2_at hy
      obtain ⟨Q', d, hd, e, pQ'⟩ := graph_one (v := i + 1) (k := .un) (i' := .un) (j' := .un) (i := i) pQ ei (by omega) (by omega) n5 (by omega)
      refine ⟨eG Q n es (.d (.int ((i + 1 : Nat) : Int))) .un .un .un, _, by simp [bN, eG, setSl_q, lv], e, Q', es ++ [(d, i + 1)], .d (.int ((i + 1 : Nat) : Int)), rfl, rfl, pQ', ei.snoc (e := (d, i + 1)) hd (by show i + 1 < n; omega) _ (.inr ⟨rfl, rfl⟩), by simp; omega⟩)
  have hl2 : (rngD 1 1 (n - 1)).length = n - 1 := by simp [rngD]
  rw [hl2] at i2 l2
  rw [show n - 1 + 1 = n by omega] at i2
  -- more edges
  obtain ⟨P3, y, e3, p3, y0, y1⟩ := draw_call (i := 0) (fx := true) (ρ := eG P2 n es2 v2 .un .un .un) (f := kF (.int 4)) (m := 4) p2 rfl rfl (by omega) (by omega)
  have e3' : callD F__law_draw (aborF 0 (adF (kF (.int 4)) (anilF))) (eG P2 n es2 v2 .un .un .un) = some (.int y, eG P3 n es2 v2 .un .un .un) := e3
  obtain ⟨ρ4, e4, P4, es4, k4, i4, j4, lk4, li4, lj4, rfl, p4, ei4, l4⟩ := forS_run (it := rng1F (consF (callD F__law_draw (aborF 0 (adF (kF (.int 4)) (anilF)))) (nilF))) (B := bN 5) (g := b__law_graph_1) (ρ := eG P2 n es2 v2 .un .un .un) (ρ1 := eG P3 n es2 v2 .un .un .un) (xs := rngD 0 1 y.toNat)
    (fun i ρ => ∃ P es k i' j', light (some k) = true ∧ light (some i') = true ∧ light (some j') = true ∧ ρ = eG P n es v2 k i' j' ∧ isPool P ∧ EI n es n ∧ es.length ≤ 5 + i)
    (by
      simp only [rng1F, consF, e3', nilF]
      rw [if_pos ⟨by omega, by omega⟩]) ⟨P3, es2, .un, .un, .un, rfl, rfl, rfl, rfl, p3, i2, by omega⟩ (fun i z ρ hz hI => by
      obtain ⟨Q, es, k, i', j', lk, li, lj, rfl, pQ, ei, le⟩ := hI
      obtain ⟨hi, rfl⟩ := rngD_at hz
      obtain ⟨Q', es', i'', j'', li', lj', e, pQ', ei', le'⟩ := graph_two (v := v2) (k := .d (.int (i : Nat))) pQ li lj ei npos n5 (by omega)
      exact ⟨eG Q n es v2 (.d (.int (i : Nat))) i' j', _, by simp [bN, eG, setSl_q, lk], e, Q', es', .d (.int (i : Nat)), i'', j'', rfl, li', lj', rfl, pQ', ei', by omega⟩)
  have hl4 : (rngD 0 1 y.toNat).length = y.toNat := rngD_len
  rw [hl4] at l4
  -- sorted
  obtain ⟨es, eS, pm⟩ := sort_es es4 (by omega)
  refine ⟨P4, n, es, ?_, ⟨npos, n5, fun e he => ei4.lt e (pm.mem_iff.mp he), fun v h0 h => ?_, by rw [pm.length_eq]; omega⟩, p4⟩
  · have e2' : l__law_graph_2 (eG P1 n [] .un .un .un .un) = _ := e2
    have e4' : l__law_graph_1 (eG P2 n es2 v2 .un .un .un) = _ := e4
    have r : retF (tupF (consF (nmF 2) (consF (callF gTup (consF (frF (callOF gSort (consF (nmF 3) (nilF)))) (nilF))) (nilF)))) (eG P4 n es4 v2 k4 i4 j4) = some (.rt (.d (encG n es)) [.ow true (.lst P4), .d (.int 5), .d (.int n), .d (.list (es4.map encE)), v2, k4, i4, j4]) := by
      simp [retF, tupF, consF, nmF, nilF, callF, frF, callOF, eG, eS, gTup, encG]
    simp [F__law_graph, runF, f__law_graph, seqS, s1, s2, e2', e4', r, backA]
  · obtain ⟨e, he, h2⟩ := ei4.tree v h0 h
    exact ⟨e, pm.mem_iff.mpr he, h2⟩
end G

set_option Elab.async false
set_option linter.all false
set_option maxRecDepth 100000
set_option maxHeartbeats 4000000
namespace G
open PySem PySem.Spec PyProof.Rows L2
/-! ### kinds -/
theorem k_ti : kitB "int" "tuple" = some false := by decide +kernel
theorem k_li : kitB "int" "list" = some false := by decide +kernel
theorem k_bi : kitB "int" "bool" = some false := by decide +kernel
theorem k_ii : kitB "int" "int" = some true := by decide +kernel
theorem k_tb : kitB "bool" "tuple" = some false := by decide +kernel
theorem k_lb : kitB "bool" "list" = some false := by decide +kernel
theorem k_bb : kitB "bool" "bool" = some true := by decide +kernel
theorem k_tt : kitB "tuple" "tuple" = some true := by decide +kernel
theorem k_lt : kitB "tuple" "list" = some false := by decide +kernel
theorem is_int {z : Int} : F__law_is_integer [.d (.int z)] = some (.d (.bool true), [.un]) := by
  simp [F__law_is_integer, runF, f__law_is_integer, retF, boolF, andF, notF, tsF, isiF, nmF, isT, tyD, k_ii, k_bi, backA]
theorem same_int {z : Int} : ∀ j, F__law_same (j + 1) [.d (.int z), .d (.int z)] = some (.d (.bool true), [.un, .un]) := fun j => by
  have h : gEq (.int z) (.int z) = some (.bool true) := by
    show some (PyData.bool (decide (z = z))) = _
    simp
  simp [F__law_same, runF, f__law_same, seqS, ifS, orF, tsF, isiF, nmF, isT, tyD, k_ti, k_li, nxS, opF, kF, gIs, isNone, k_bi, k_ii, retF, boolF, andF, notF, h, backA]
theorem same_bool {b : Bool} : ∀ j, F__law_same (j + 1) [.d (.bool b), .d (.bool b)] = some (.d (.bool true), [.un, .un]) := fun j => by
  have h : gEq (.bool b) (.bool b) = some (.bool true) := by cases b <;> simp [gEq, orG, gEqI, iiB, gEqD, SeqAt.shaped, PyData.canLay0, PyData.depth, PyData.eqv]
  simp [F__law_same, runF, f__law_same, seqS, ifS, orF, tsF, isiF, nmF, isT, tyD, k_tb, k_lb, nxS, opF, kF, gIs, isNone, k_bb, retF, boolF, andF, h, backA]
theorem gNe_same (b : Bool) : gNe (.bool b) (.bool b) = some (.bool false) := by cases b <;> simp [gNe, orG, gNeI, iiB, gNeD, SeqAt.shaped, PyData.canLay0, PyData.depth, PyData.eqv]
theorem gNe_nat {a b : Nat} : gNe (.int (a : Nat)) (.int (b : Nat)) = some (.bool (!decide (a = b))) := by
  show some (PyData.bool (!decide ((a : Int) = b))) = _
  rw [show decide ((a : Int) = b) = decide (a = b) from decide_eq_decide.mpr (by omega)]
section
variable {n : Nat} {es : List (Nat × Nat)} {q : Nat}
theorem same_tuple {r : Nat → Int} (hn : n ≤ 5) : F__law_same 6 [.d (.tuple (tk n r)), .d (.tuple (tk n r))] = some (.d (.bool true), [.un, .un]) := by
  obtain ⟨ρ', e, a, _, rfl⟩ := forS_run (it := rng1F (consF (callF gLen (consF (nmF 1) (nilF))) (nilF))) (B := bN 2) (g := b__law_same_1 (F__law_same 5)) (ρ := [.d (.tuple (tk n r)), .d (.tuple (tk n r)), .un]) (ρ1 := [.d (.tuple (tk n r)), .d (.tuple (tk n r)), .un]) (xs := rngD 0 1 n)
    (fun i ρ => ∃ a, light (some a) = true ∧ ρ = [.d (.tuple (tk n r)), .d (.tuple (tk n r)), a]) (by
      simp [rng1F, consF, callF, nmF, nilF, gLen, tk_len]
      omega) ⟨.un, rfl, rfl⟩ (fun i x ρ hx hi => by
      obtain ⟨a, la, rfl⟩ := hi
      obtain ⟨hin, rfl⟩ := rngD_at hx
      refine ⟨[.d (.tuple (tk n r)), .d (.tuple (tk n r)), .d (.int (i : Nat))], [.d (.tuple (tk n r)), .d (.tuple (tk n r)), .d (.int (i : Nat))], by simp [bN, setSl_q, la], ?_, .d (.int (i : Nat)), rfl, rfl⟩
      simp [b__law_same_1, ifS, notF, tsF, callD, resS, adF, opF, nmF, gIx_tk hin, anilF, borKs, argSl, toSl, same_int, putBack, nxS])
  have e' : l__law_same_1 (F__law_same 5) [.d (.tuple (tk n r)), .d (.tuple (tk n r)), .un] = _ := e
  show runF 3 (f__law_same (F__law_same 5)) _ = _
  simp [runF, f__law_same, seqS, ifS, orF, tsF, isiF, nmF, isT, tyD, k_tt, opF, gNe_same, k_lt, nxS, callF, consF, nilF, gLen, tk_len, gNe_nat, e', retF, kF, backA]
/-! ### a set's edges out -/
def hasO (v : Nat) (A : List Nat) (e : Nat × Nat) : Bool := (decide (e.1 = v) && !decide (e.2 ∈ A)) || (decide (e.2 = v) && !decide (e.1 ∈ A))
def oT (es : List (Nat × Nat)) (v : Nat) (A : List Nat) : Nat := (es.filter (hasO v A)).length
theorem out_spec (g : GOk n es) (v : Nat) (A : List Nat) : F__law_out [.d (encG n es), .d (.int v), .d (.list (encL A))] = some (.d (.int (oT es v A : Nat)), [.un, .un, .un]) := by
  have fw := g.few
  have hc : c__law_out_1 [.d (encG n es), .d (.int v), .d (.list (encL A)), .un] = some (.lst ((es.filter (hasO v A)).map encE), [.d (encG n es), .d (.int v), .d (.list (encL A)), .un]) := by
    have := lcF_run (it := itF (opF gIx (nmF 0) (kF (.int 1)))) (B := bN 3) (t := andF (tsF (opF gIn (nmF 1) (nmF 3))) (tsF (opF gNotIn (opF gSub (opF gAdd (opF gIx (nmF 3) (kF (.int 0))) (opF gIx (nmF 3) (kF (.int 1)))) (nmF 1)) (nmF 2)))) (f := nmF 3) (own := [3])
      (ρ := [.d (encG n es), .d (.int v), .d (.list (encL A)), .un]) (ρ1 := [.d (encG n es), .d (.int v), .d (.list (encL A)), .un]) (xs := es.map encE) (fun x => hasO v A (decE x)) id
      (by simp [itF, opF, nmF, kF, gIx_G1, seqItems]; omega) (by rfl) (by rfl) (by rfl) (fun x hx => by
        obtain ⟨e, he, rfl⟩ := List.mem_map.mp hx
        obtain ⟨h1, h2⟩ := g.lt e he
        refine ⟨[.d (encG n es), .d (.int v), .d (.list (encL A)), .d (encE e)], [.d (encG n es), .d (.int v), .d (.list (encL A)), .d (encE e)], by simp [bN, setSl, wipeE], ?_, fun _ => ⟨by rfl, by rfl⟩, fun _ => ⟨_, by simp [nmF]; rfl, by rfl, by rfl⟩⟩
        simp only [andF, tsF, opF, nmF, gIn_E, List.getElem?_cons_succ, List.getElem?_cons_zero, decE_enc]
        by_cases q1 : v = e.1
        · have q2 : ¬ v = e.2 := by omega
          subst q1
          have z : ((e.1 : Int) + e.2 - e.1) = (e.2 : Int) := by omega
          simp [opF, kF, nmF, gIx_e0, gIx_e1, gAdd_i, gSub_i, gNotIn_L, z, hasO, ex_cast, show ¬ e.2 = e.1 by omega]
        · by_cases q2 : v = e.2
          · subst q2
            have z : ((e.1 : Int) + e.2 - e.2) = (e.1 : Int) := by omega
            simp [opF, kF, nmF, gIx_e0, gIx_e1, gAdd_i, gSub_i, gNotIn_L, z, hasO, ex_cast, show ¬ e.1 = e.2 by omega]
          · have q1' : ¬ (v : Int) = e.1 := by omega
            have q2' : ¬ (v : Int) = e.2 := by omega
            simp [q1', q2', hasO, Ne.symm q1, Ne.symm q2])
    rw [filter_enc, List.map_id] at this
    exact this
  simp [F__law_out, runF, f__law_out, retF, callF, consF, frF, nilF, hc, gLen, backA, oT]
theorem eT_le_oT {v : Nat} {P A : List Nat} (h : ∀ x ∈ P, x ∉ A) : eT es v P ≤ oT es v A := by
  unfold eT oT
  rw [← List.countP_eq_length_filter, ← List.countP_eq_length_filter]
  refine List.countP_mono_left fun e _ he => ?_
  unfold hasE at he
  unfold hasO
  simp only [Bool.or_eq_true, Bool.and_eq_true, decide_eq_true_eq, Bool.not_eq_true', decide_eq_false_iff_not] at he ⊢
  exact he.imp (fun z => ⟨z.1, h _ z.2⟩) fun z => ⟨z.1, h _ z.2⟩
/-! ### sets by their numbers -/
def bits (n i : Nat) : List Nat := (List.range n).filter fun v => i.testBit v
def decI : D → Nat
  | .int i => i.toNat
  | _ => 0
theorem rngD_encL : rngD 0 1 n = encL (List.range n) := by
  unfold rngD encL
  refine List.map_congr_left fun v _ => ?_
  have : (0 : Int) + (v : Nat) * 1 = (v : Nat) := by omega
  rw [this]
theorem filter_encL (T : Nat → Bool) (A : List Nat) : ((encL A).filter fun x => T (decI x)) = encL (A.filter T) := by
  unfold encL
  rw [List.filter_map]
  rfl
theorem mem_encL {x : D} {A : List Nat} (h : x ∈ encL A) : ∃ v ∈ A, x = .int (v : Nat) := by
  obtain ⟨v, hv, rfl⟩ := List.mem_map.mp h
  exact ⟨v, hv, rfl⟩
def eF (n : Nat) (es : List (Nat × Nat)) (r : Nat → Int) (q : Nat) (i m v : Sl) : Env := [.d (encG n es), .d (.tuple (tk n r)), .d (.int q), .d (.int n), i, m, v]
theorem gLt_i {a b : Int} : gLt (.int a) (.int b) = some (.bool (decide (a < b))) := rfl
theorem cf3_spec (g : GOk n es) {r : Nat → Int} {i m v : Sl} (lv : light (some v) = true) : c__law_reduced_for_3 (eF n es r q i m v) = some (.lst (encL ((List.range n).filter fun v => decide (v ≠ q ∧ r v < 0))), eF n es r q i m v) := by
  have g5 := g.five
  have key := lcF_run (it := rng1F (consF (nmF 3) (nilF))) (B := bN 6) (t := andF (tsF (opF gNe (nmF 6) (nmF 2))) (tsF (opF gLt (opF gIx (nmF 1) (nmF 6)) (kF (.int 0))))) (f := nmF 6) (own := [6]) (ρ := eF n es r q i m v) (ρ1 := eF n es r q i m v) (xs := encL (List.range n)) (fun x => decide (decI x ≠ q ∧ r (decI x) < 0)) id
    (by
      rw [← rngD_encL]
      simp [rng1F, consF, nmF, nilF, eF]
      omega) (by simp [okOwn, eF, lv]) (by rfl) (by rfl) (fun x hx => by
      obtain ⟨w, hw, rfl⟩ := mem_encL hx
      have hw := List.mem_range.mp hw
      have hwp : wipeE (eF n es r q i m v) [6] = eF n es r q i m .un := rfl
      rw [hwp]
      refine ⟨eF n es r q i m (.d (.int (w : Nat))), eF n es r q i m (.d (.int (w : Nat))), by simp [bN, eF, setSl], ?_, fun _ => ⟨rfl, rfl⟩, fun _ => ⟨_, rfl, rfl, rfl⟩⟩
      have a6 : nmF 6 (eF n es r q i m (.d (.int (w : Nat)))) = some (.int (w : Nat), eF n es r q i m (.d (.int (w : Nat)))) := rfl
      have a2 : nmF 2 (eF n es r q i m (.d (.int (w : Nat)))) = some (.int (q : Nat), eF n es r q i m (.d (.int (w : Nat)))) := rfl
      have a1 : nmF 1 (eF n es r q i m (.d (.int (w : Nat)))) = some (.tuple (tk n r), eF n es r q i m (.d (.int (w : Nat)))) := rfl
      have hd : decI (.int (w : Nat)) = w := rfl
      rw [hd]
      simp only [andF, tsF, opF, a6, a2, a1, gNe_nat, gIx_tk hw, kF, gLt_i]
      by_cases c : w = q
      · simp [c]
      · simp [c, a1, a6, gIx_tk hw, gLt_i])
  have hf := filter_encL (fun v => decide (v ≠ q ∧ r v < 0)) (List.range n)
  rw [hf, List.map_id] at key
  exact key
theorem cf2_spec (g : GOk n es) {r : Nat → Int} {k : Nat} {m v : Sl} (lv : light (some v) = true) : c__law_reduced_for_2 (eF n es r q (.d (.int (k : Nat))) m v) = some (.lst (encL (bits n k)), eF n es r q (.d (.int (k : Nat))) m v) := by
  have g5 := g.five
  have key := lcF_run (it := rng1F (consF (nmF 3) (nilF))) (B := bN 6) (t := tsF (opF gEq (opF gAnd (opF gShr (nmF 4) (nmF 6)) (kF (.int 1))) (kF (.int 1)))) (f := nmF 6) (own := [6]) (ρ := eF n es r q (.d (.int (k : Nat))) m v) (ρ1 := eF n es r q (.d (.int (k : Nat))) m v) (xs := encL (List.range n)) (fun x => k.testBit (decI x)) id
    (by
      rw [← rngD_encL]
      simp [rng1F, consF, nmF, nilF, eF]
      omega) (by simp [okOwn, eF, lv]) (by rfl) (by rfl) (fun x hx => by
      obtain ⟨w, hw, rfl⟩ := mem_encL hx
      have hw := List.mem_range.mp hw
      have hwp : wipeE (eF n es r q (.d (.int (k : Nat))) m v) [6] = eF n es r q (.d (.int (k : Nat))) m .un := rfl
      rw [hwp]
      refine ⟨eF n es r q (.d (.int (k : Nat))) m (.d (.int (w : Nat))), eF n es r q (.d (.int (k : Nat))) m (.d (.int (w : Nat))), by simp [bN, eF, setSl], ?_, fun _ => ⟨rfl, rfl⟩, fun _ => ⟨_, rfl, rfl, rfl⟩⟩
      have a6 : nmF 6 (eF n es r q (.d (.int (k : Nat))) m (.d (.int (w : Nat)))) = some (.int (w : Nat), eF n es r q (.d (.int (k : Nat))) m (.d (.int (w : Nat)))) := rfl
      have a4 : nmF 4 (eF n es r q (.d (.int (k : Nat))) m (.d (.int (w : Nat)))) = some (.int (k : Nat), eF n es r q (.d (.int (k : Nat))) m (.d (.int (w : Nat)))) := rfl
      have hd : decI (.int (w : Nat)) = w := rfl
      have sh : gShr (.int (k : Nat)) (.int (w : Nat)) = some (.int ((k / 2 ^ w : Nat) : Int)) := by
        unfold gShr iiC
        dsimp only
        rw [if_pos (by omega)]
        have : ((k : Int) / 2 ^ (w : Int).toNat) = ((k / 2 ^ w : Nat) : Int) := by
          rw [Int.toNat_natCast]
          rw [Int.natCast_ediv, Int.natCast_pow]
          rfl
        rw [this]
      have an : gAnd (.int ((k / 2 ^ w : Nat) : Int)) (.int 1) = some (.int ((k / 2 ^ w % 2 : Nat) : Int)) := by
        show some (PyData.int (Builtin.bitAnd ((k / 2 ^ w : Nat) : Int) 1)) = _
        first | rw [PySem.W.bitAnd_m1] | rw [PySem.bitAnd_m1] | rw [bitAnd_m1]
        rfl
      have eq1 : gEq (.int ((k / 2 ^ w % 2 : Nat) : Int)) (.int 1) = some (.bool (k.testBit w)) := by
        have : gEq (.int ((k / 2 ^ w % 2 : Nat) : Int)) (.int ((1 : Nat) : Int)) = _ := gEq_nat
        rw [show ((1 : Nat) : Int) = 1 from rfl] at this
        rw [this, Nat.testBit_eq_decide_div_mod_eq]
      rw [hd]
      simp only [tsF, opF, a6, a4, kF, sh, an, eq1])
  have hf := filter_encL (fun v => k.testBit v) (List.range n)
  rw [hf, List.map_id] at key
  exact key
theorem cf1_spec (g : GOk n es) {r : Nat → Int} {A : List Nat} (hA : ∀ x ∈ A, x < n) (hl : A.length ≤ 100) {i v : Sl} (lv : light (some v) = true) : c__law_reduced_for_1 (eF n es r q i (.d (.list (encL A))) v) = some (.lst (encL (A.filter fun v => decide (r v < (oT es v A : Nat)))), eF n es r q i (.d (.list (encL A))) v) := by
  have g5 := g.five
  have key := lcF_run (it := itF (nmF 5)) (B := bN 6) (t := tsF (opF gLt (opF gIx (nmF 1) (nmF 6)) (callD F__law_out (adF (nmF 0) (adF (nmF 6) (adF (nmF 5) (anilF))))))) (f := nmF 6) (own := [6]) (ρ := eF n es r q i (.d (.list (encL A))) v) (ρ1 := eF n es r q i (.d (.list (encL A))) v) (xs := encL A) (fun x => decide (r (decI x) < (oT es (decI x) A : Nat))) id
    (by
      have : (encL A).length ≤ 10000000 := by rw [encL_len]; omega
      simp [itF, nmF, eF, seqItems, this]) (by simp [okOwn, eF, lv]) (by rfl) (by rfl) (fun x hx => by
      obtain ⟨w, hw, rfl⟩ := mem_encL hx
      have hw := hA w hw
      have hwp : wipeE (eF n es r q i (.d (.list (encL A))) v) [6] = eF n es r q i (.d (.list (encL A))) .un := rfl
      rw [hwp]
      refine ⟨eF n es r q i (.d (.list (encL A))) (.d (.int (w : Nat))), eF n es r q i (.d (.list (encL A))) (.d (.int (w : Nat))), by simp [bN, eF, setSl], ?_, fun _ => ⟨rfl, rfl⟩, fun _ => ⟨_, rfl, rfl, rfl⟩⟩
      have a6 : nmF 6 (eF n es r q i (.d (.list (encL A))) (.d (.int (w : Nat)))) = some (.int (w : Nat), eF n es r q i (.d (.list (encL A))) (.d (.int (w : Nat)))) := rfl
      have a1 : nmF 1 (eF n es r q i (.d (.list (encL A))) (.d (.int (w : Nat)))) = some (.tuple (tk n r), eF n es r q i (.d (.list (encL A))) (.d (.int (w : Nat)))) := rfl
      have cl : callD F__law_out (adF (nmF 0) (adF (nmF 6) (adF (nmF 5) (anilF)))) (eF n es r q i (.d (.list (encL A))) (.d (.int (w : Nat)))) = some (.int (oT es w A : Nat), eF n es r q i (.d (.list (encL A))) (.d (.int (w : Nat)))) := by
        simp [callD, resS, adF, nmF, anilF, eF, borKs, argSl, toSl, out_spec g, putBack]
      have hd : decI (.int (w : Nat)) = w := rfl
      rw [hd]
      simp only [tsF, opF, a6, a1, gIx_tk hw, cl, gLt_i])
  have hf := filter_encL (fun v => decide (r v < (oT es v A : Nat))) A
  rw [hf, List.map_id] at key
  exact key
end
end G

set_option Elab.async false
set_option linter.all false
set_option maxRecDepth 100000
set_option maxHeartbeats 4000000
namespace G
open PySem PySem.Spec PyProof.Rows L2
/-! ### the number of a set -/
def code : Nat → (Nat → Bool) → Nat
  | 0, _ => 0
  | k + 1, p => if p k then 2 ^ k + code k p else code k p
theorem code_lt (p : Nat → Bool) : ∀ k, code k p < 2 ^ k
  | 0 => by simp [code]
  | k + 1 => by
    have := code_lt p k
    unfold code
    rw [Nat.pow_succ]
    split <;> omega
theorem code_bit (p : Nat → Bool) : ∀ (k v : Nat), v < k → (code k p).testBit v = p v
  | 0, v, h => absurd h (Nat.not_lt_zero v)
  | k + 1, v, h => by
    have lt := code_lt p k
    unfold code
    by_cases e : v = k
    · subst e
      by_cases c : p v = true
      · rw [if_pos c, Nat.testBit_two_pow_add_eq, Nat.testBit_lt_two_pow lt, c]
        rfl
      · rw [if_neg c, Nat.testBit_lt_two_pow lt]
        simpa using c
    · have ih := code_bit p k v (by omega)
      split
      · rw [Nat.testBit_two_pow_add_gt (by omega), ih]
      · exact ih
section
variable {n : Nat} {es : List (Nat × Nat)} {q : Nat}
theorem bits_mem {i v : Nat} : v ∈ bits n i ↔ v < n ∧ i.testBit v = true := by
  unfold bits
  rw [List.mem_filter, List.mem_range]
theorem bits_some {i : Nat} (h0 : 0 < i) (h : i < 2 ^ n) : ∃ v, v ∈ bits n i := by
  obtain ⟨v, hv⟩ := Nat.exists_testBit_of_ne_zero (x := i) (by omega)
  refine ⟨v, bits_mem.mpr ⟨?_, hv⟩⟩
  rcases Nat.lt_or_ge v n with c | c
  · exact c
  · rw [Nat.testBit_lt_two_pow (Nat.lt_of_lt_of_le h (Nat.pow_le_pow_right (by omega) c))] at hv
    cases hv
def Bad (es : List (Nat × Nat)) (q : Nat) (r : Nat → Int) (A : List Nat) : Prop := q ∉ A ∧ ∀ v ∈ A, ¬ r v < (oT es v A : Nat)
theorem full_not_bad {r : Nat → Int} {L : List Nat} (b : BI n es r q L) (e : L.length = n) {A : List Nat} {v : Nat} (hv : v ∈ A) (hn : v < n) : ¬ Bad es q r A := fun ⟨h1, h2⟩ => by
  obtain ⟨k, w, _, hw, hA, hlt, hout⟩ := full_hit b e (fun v => v ∈ A) hn hv h1
  have := eT_le_oT (es := es) (v := w) hout
  exact h2 w hA (by omega)
theorem not_full_bad (g : GOk n es) {r : Nat → Int} {L : List Nat} (b : BI n es r q L) (clo : Clo n es r L) (h : L.length ≠ n) : ∃ i, 0 < i ∧ i < 2 ^ n ∧ Bad es q r (bits n i) := by
  have mem : ∀ v, v ∈ bits n (code n fun v => decide (v ∉ L)) ↔ v < n ∧ v ∉ L := fun v => by
    rw [bits_mem]
    constructor
    · rintro ⟨h1, h2⟩
      rw [code_bit _ n v h1] at h2
      exact ⟨h1, of_decide_eq_true h2⟩
    · rintro ⟨h1, h2⟩
      exact ⟨h1, by rw [code_bit _ n v h1]; exact decide_eq_true h2⟩
  obtain ⟨v0, hv0, hn0⟩ : ∃ v0, v0 < n ∧ v0 ∉ L := by
    by_cases z : ∃ v0, v0 < n ∧ v0 ∉ L
    · exact z
    · exfalso
      have := all_le n L fun x hx => by
        by_cases m : x ∈ L
        · exact m
        · exact absurd ⟨x, hx, m⟩ z
      have := b.len g
      omega
  refine ⟨code n fun v => decide (v ∉ L), ?_, code_lt _ n, fun hq => ?_, fun v hv => ?_⟩
  · rcases Nat.eq_zero_or_pos (code n fun v => decide (v ∉ L)) with z | z
    · have := ((mem v0).mpr ⟨hv0, hn0⟩)
      rw [bits_mem, z] at this
      simp at this
    · exact z
  · exact ((mem q).mp hq).2 (List.mem_of_getElem? b.hd)
  · obtain ⟨h1, h2⟩ := (mem v).mp hv
    have h3 := clo v h1 h2
    have h4 : oT es v (bits n (code n fun v => decide (v ∉ L))) = eT es v L := by
      unfold oT eT
      congr 1
      refine List.filter_congr fun e he => ?_
      obtain ⟨g1, g2⟩ := g.lt e he
      have m1 := mem e.1
      have m2 := mem e.2
      have z1 : (!decide (e.1 ∈ bits n (code n fun v => decide (v ∉ L)))) = decide (e.1 ∈ L) := by
        by_cases c : e.1 ∈ L
        · have : ¬ e.1 ∈ bits n (code n fun v => decide (v ∉ L)) := fun z => (m1.mp z).2 c
          rw [decide_eq_true c, decide_eq_false this]
          rfl
        · have : e.1 ∈ bits n (code n fun v => decide (v ∉ L)) := m1.mpr ⟨by omega, c⟩
          rw [decide_eq_false c, decide_eq_true this]
          rfl
      have z2 : (!decide (e.2 ∈ bits n (code n fun v => decide (v ∉ L)))) = decide (e.2 ∈ L) := by
        by_cases c : e.2 ∈ L
        · have : ¬ e.2 ∈ bits n (code n fun v => decide (v ∉ L)) := fun z => (m2.mp z).2 c
          rw [decide_eq_true c, decide_eq_false this]
          rfl
        · have : e.2 ∈ bits n (code n fun v => decide (v ∉ L)) := m2.mpr ⟨g2, c⟩
          rw [decide_eq_false c, decide_eq_true this]
          rfl
      unfold hasO hasE
      rw [z1, z2]
    rw [h4]
    exact h3
theorem rf_body (g : GOk n es) {r : Nat → Int} {k : Nat} {m v : Sl} (lm : light (some m) = true) (lv : light (some v) = true) :
    ∃ m', light (some m') = true ∧ ((Bad es q r (bits n k) ∧ ∃ ρ, b__law_reduced_for_1 (eF n es r q (.d (.int (k : Nat))) m v) = some (.rt (.d (.bool false)) ρ) ∧ ρ = eF n es r q (.d (.int (k : Nat))) m' v) ∨
      (¬ Bad es q r (bits n k) ∧ b__law_reduced_for_1 (eF n es r q (.d (.int (k : Nat))) m v) = some (.nx (eF n es r q (.d (.int (k : Nat))) m' v)))) := by
  have g5 := g.five
  have bl : ∀ x ∈ bits n k, x < n := fun x hx => (bits_mem.mp hx).1
  have bz : (bits n k).length ≤ 100 := by
    have := List.length_filter_le (fun v => k.testBit v) (List.range n)
    unfold bits
    simp at this
    omega
  have s1 : setF 5 (frF (c__law_reduced_for_2)) (eF n es r q (.d (.int (k : Nat))) m v) = some (.nx (eF n es r q (.d (.int (k : Nat))) (.d (.list (encL (bits n k)))) v)) := by
    simp only [setF, frF, cf2_spec g lv]
    simp [eF, setSl_q, lm]
  have t1 : tsF (opF gNotIn (nmF 2) (nmF 5)) (eF n es r q (.d (.int (k : Nat))) (.d (.list (encL (bits n k)))) v) = some (!decide (q ∈ bits n k), eF n es r q (.d (.int (k : Nat))) (.d (.list (encL (bits n k)))) v) := by
    have a2 : nmF 2 (eF n es r q (.d (.int (k : Nat))) (.d (.list (encL (bits n k)))) v) = some (.int (q : Nat), eF n es r q (.d (.int (k : Nat))) (.d (.list (encL (bits n k)))) v) := rfl
    have a5 : nmF 5 (eF n es r q (.d (.int (k : Nat))) (.d (.list (encL (bits n k)))) v) = some (.list (encL (bits n k)), eF n es r q (.d (.int (k : Nat))) (.d (.list (encL (bits n k)))) v) := rfl
    simp only [tsF, opF, a2, a5, gNotIn_L, mem_cast]
  have t2 : tsF (opF gEq (callF gLen (consF (frF (c__law_reduced_for_1)) (nilF))) (kF (.int 0))) (eF n es r q (.d (.int (k : Nat))) (.d (.list (encL (bits n k)))) v) = some (decide (((bits n k).filter fun v => decide (r v < (oT es v (bits n k) : Nat))).length = 0), eF n es r q (.d (.int (k : Nat))) (.d (.list (encL (bits n k)))) v) := by
    have := cf1_spec (q := q) (i := .d (.int (k : Nat))) g (r := r) bl bz lv
    have e0 : gEq (.int (((bits n k).filter fun v => decide (r v < (oT es v (bits n k) : Nat))).length : Nat)) (.int ((0 : Nat) : Int)) = _ := gEq_nat
    rw [show ((0 : Nat) : Int) = 0 from rfl] at e0
    simp only [tsF, opF, callF, consF, frF, this, nilF, gLen, encL_len, kF, e0]
  have hb : (decide (q ∈ bits n k) = false ∧ decide (((bits n k).filter fun v => decide (r v < (oT es v (bits n k) : Nat))).length = 0) = true) ↔ Bad es q r (bits n k) := by
    rw [decide_eq_false_iff_not, decide_eq_true_iff]
    unfold Bad
    rw [List.length_eq_zero_iff, List.filter_eq_nil_iff]
    simp
  refine ⟨.d (.list (encL (bits n k))), rfl, ?_⟩
  unfold b__law_reduced_for_1 seqS
  rw [s1]
  dsimp only
  unfold ifS andF
  rw [t1]
  by_cases c1 : q ∈ bits n k
  · refine .inr ⟨fun z => z.1 c1, ?_⟩
    simp [c1, nxS]
  · by_cases c2 : ((bits n k).filter fun v => decide (r v < (oT es v (bits n k) : Nat))).length = 0
    · refine .inl ⟨hb.mp ⟨decide_eq_false c1, decide_eq_true c2⟩, _, ?_, rfl⟩
      rw [decide_eq_true c2] at t2
      rw [decide_eq_false c1]
      simp only [Bool.not_false, t2]
      rfl
    · refine .inr ⟨fun z => c2 (of_decide_eq_true (hb.mpr z).2), ?_⟩
      rw [decide_eq_false c2] at t2
      rw [decide_eq_false c1]
      simp only [Bool.not_false, t2]
      rfl
theorem rf_spec (g : GOk n es) (hq : q < n) {r : Nat → Int} {L : List Nat} (bi : BI n es r q L) (clo : Clo n es r L) :
    ∃ b : Bool, F__law_reduced_for [.d (encG n es), .d (.tuple (tk n r)), .d (.int q)] = some (.d (.bool b), [.un, .un, .un]) ∧ (b = true ↔ (∀ v < n, v ≠ q → 0 ≤ r v) ∧ L.length = n) := by
  have g5 := g.five
  have s3 : setF 3 (opF gIx (nmF 0) (kF (.int 0))) [.d (encG n es), .d (.tuple (tk n r)), .d (.int q), .un, .un, .un, .un] = some (.nx (eF n es r q .un .un .un)) := by
    simp [setF, opF, nmF, kF, gIx_G0, setSl, eF]
  have c3 := cf3_spec (q := q) (r := r) (i := .un) (m := .un) (v := .un) g rfl
  have t3 : tsF (opF gGt (callF gLen (consF (frF (c__law_reduced_for_3)) (nilF))) (kF (.int 0))) (eF n es r q .un .un .un) = some (decide (0 < ((List.range n).filter fun v => decide (v ≠ q ∧ r v < 0)).length), eF n es r q .un .un .un) := by
    have e0 : gGt (.int (((List.range n).filter fun v => decide (v ≠ q ∧ r v < 0)).length : Nat)) (.int 0) = some (.bool (decide (0 < ((List.range n).filter fun v => decide (v ≠ q ∧ r v < 0)).length))) := by
      show some (PyData.bool (decide ((0 : Int) < (((List.range n).filter fun v => decide (v ≠ q ∧ r v < 0)).length : Nat)))) = _
      rw [show decide ((0 : Int) < (((List.range n).filter fun v => decide (v ≠ q ∧ r v < 0)).length : Nat)) = decide (0 < ((List.range n).filter fun v => decide (v ≠ q ∧ r v < 0)).length) from decide_eq_decide.mpr (by omega)]
    simp only [tsF, opF, callF, consF, frF, c3, nilF, gLen, encL_len, kF, e0]
  have hpos : (0 < ((List.range n).filter fun v => decide (v ≠ q ∧ r v < 0)).length) ↔ ¬ ∀ v < n, v ≠ q → 0 ≤ r v := by
    rw [List.length_pos_iff]
    constructor
    · intro h hp
      obtain ⟨v, hv⟩ := List.exists_mem_of_ne_nil _ h
      rw [List.mem_filter, List.mem_range, decide_eq_true_iff] at hv
      have := hp v hv.1 hv.2.1
      omega
    · intro h e
      refine h fun v hv hvq => Int.not_lt.mp fun neg => ?_
      have : v ∈ (List.range n).filter fun v => decide (v ≠ q ∧ r v < 0) := by
        rw [List.mem_filter, List.mem_range, decide_eq_true_iff]
        exact ⟨hv, hvq, neg⟩
      rw [e] at this
      cases this
  by_cases cp : ∀ v < n, v ≠ q → 0 ≤ r v
  · rw [decide_eq_false (fun z => hpos.mp z cp)] at t3
    have p2 : (2 : Nat) ^ n ≤ 32 := by
      have := Nat.pow_le_pow_right (n := 2) (by omega) g5
      simpa using this
    have p0 : 0 < (2 : Nat) ^ n := Nat.pow_pos (by omega)
    have loop := forS_exit (it := rng2F (consF (kF (.int 1)) (consF (opF gShl (kF (.int 1)) (nmF 3)) (nilF)))) (B := bN 4) (g := b__law_reduced_for_1) (ρ := eF n es r q .un .un .un) (ρ1 := eF n es r q .un .un .un) (xs := rngD 1 1 (2 ^ n - 1))
      (R := fun s ρ => s = .d (.bool false) ∧ (∃ i m v, ρ = eF n es r q i m v) ∧ ∃ j, 0 < j ∧ j < 2 ^ n ∧ Bad es q r (bits n j))
      (fun i ρ => (∃ a m v, light (some a) = true ∧ light (some m) = true ∧ light (some v) = true ∧ ρ = eF n es r q a m v) ∧ ∀ j, 0 < j → j < i + 1 → ¬ Bad es q r (bits n j))
      (by
        have sh : gShl (.int 1) (.int (n : Nat)) = some (.int ((2 ^ n : Nat) : Int)) := by
          unfold gShl iiC
          dsimp only
          rw [if_pos ⟨by omega, by
            have : Builtin.Int.intBits 1 = 1 := by decide +kernel
            rw [this]
            omega⟩]
          rw [Int.toNat_natCast, Int.one_mul, Int.natCast_pow]
          rfl
        have a3 : nmF 3 (eF n es r q .un .un .un) = some (.int (n : Nat), eF n es r q .un .un .un) := rfl
        simp only [rng2F, consF, kF, opF, a3, sh, nilF]
        rw [if_pos ⟨by omega, by omega, by omega, by omega⟩]
        rw [show (((2 ^ n : Nat) : Int) - 1).toNat = 2 ^ n - 1 by omega]) ⟨⟨.un, .un, .un, rfl, rfl, rfl, rfl⟩, fun j h1 h2 => by omega⟩ (fun i x ρ hx hI => by
        obtain ⟨⟨a, m, v, la, lm, lv, rfl⟩, hno⟩ := hI
        obtain ⟨hi, rfl⟩ := rng2_at hx
        refine ⟨eF n es r q (.d (.int ((i + 1 : Nat) : Int))) m v, by simp [bN, eF, setSl_q, la], ?_⟩
        obtain ⟨m', lm', h | h⟩ := rf_body (q := q) (r := r) (k := i + 1) g lm lv
        · obtain ⟨hb, ρ, e, rfl⟩ := h
          exact .inr ⟨_, _, e, rfl, ⟨_, _, _, rfl⟩, i + 1, by omega, by omega, hb⟩
        · obtain ⟨hb, e⟩ := h
          refine .inl ⟨_, e, ⟨_, _, _, rfl, lm', lv, rfl⟩, fun j h1 h2 => ?_⟩
          rcases Nat.lt_or_ge j (i + 1) with c | c
          · exact hno j h1 c
          · have : j = i + 1 := by omega
            rw [this]
            exact hb)
    have hl : (rngD 1 1 (2 ^ n - 1)).length = 2 ^ n - 1 := by simp [rngD]
    rcases loop with ⟨ρ', e, ⟨a, m, v, _, _, _, rfl⟩, hno⟩ | ⟨s, ρ', e, rfl, ⟨a, m, v, rfl⟩, j, h1, h2, hb⟩
    · rw [hl] at hno
      refine ⟨true, ?_, fun _ => ⟨cp, ?_⟩, fun _ => rfl⟩
      · have e' : l__law_reduced_for_1 (eF n es r q .un .un .un) = _ := e
        simp [F__law_reduced_for, runF, f__law_reduced_for, seqS, s3, ifS, t3, nxS, e', retF, kF]
        simp [eF, backA]
      · by_cases z : L.length = n
        · exact z
        · obtain ⟨j, h1, h2, hb⟩ := not_full_bad g bi clo z
          exact absurd hb (hno j h1 (by omega))
    · refine ⟨false, ?_, fun z => (nomatch z), fun z => ?_⟩
      · have e' : l__law_reduced_for_1 (eF n es r q .un .un .un) = _ := e
        simp [F__law_reduced_for, runF, f__law_reduced_for, seqS, s3, ifS, t3, nxS, e', retF, kF]
        simp [eF, backA]
      · obtain ⟨w, hw⟩ := bits_some h1 h2
        exact absurd hb (full_not_bad bi z.2 hw (bits_mem.mp hw).1)
  · rw [decide_eq_true (hpos.mpr cp)] at t3
    refine ⟨false, ?_, fun z => (nomatch z), fun z => absurd z.1 cp⟩
    simp [F__law_reduced_for, runF, f__law_reduced_for, seqS, s3, ifS, t3, retF, kF]
    simp [eF, backA]
end
end G

set_option Elab.async false
set_option linter.all false
set_option maxRecDepth 100000
set_option maxHeartbeats 4000000
namespace G
open PySem PySem.Spec PyProof.Rows L2
section
variable {n : Nat} {es : List (Nat × Nat)} {q : Nat}
theorem sort_perm {L : List Nat} (nd : L.Nodup) (lt : ∀ x ∈ L, x < n) (e : L.length = n) : L.mergeSort (fun a b => decide (a ≤ b)) = List.range n := by
  refine List.Perm.eq_of_pairwise (le := fun a b : Nat => a ≤ b) (fun a b _ _ h1 h2 => Nat.le_antisymm h1 h2) ?_ ?_ ?_
  · have := List.pairwise_mergeSort (le := fun a b : Nat => decide (a ≤ b)) (fun a b c h1 h2 => by
      rw [decide_eq_true_iff] at h1 h2 ⊢
      omega) (fun a b => by
      rw [Bool.or_eq_true, decide_eq_true_iff, decide_eq_true_iff]
      omega) L
    exact this.imp fun h => of_decide_eq_true h
  · exact List.pairwise_lt_range.imp fun h => Nat.le_of_lt h
  · refine (List.mergeSort_perm _ _).trans ((List.perm_ext_iff_of_nodup nd List.nodup_range).mpr fun a => ?_)
    rw [List.mem_range]
    exact ⟨lt a, fun h => nodup_all nd lt e h⟩
theorem sort_L {L : List Nat} (nd : L.Nodup) (lt : ∀ x ∈ L, x < n) (e : L.length = n) (h5 : n ≤ 5) : gSort [.tuple (encL L)] = some (encL (List.range n)) := by
  have ok : sortOk (encL L) = true := by
    unfold sortOk
    have : PyData.canLayAll0 (encL L) = true := by rw [encL_ints]; exact canLay_ints _
    rw [this]
    simp only [Bool.and_eq_true, Bool.or_eq_true, List.all_eq_true, decide_eq_true_eq, true_and]
    refine ⟨⟨⟨fun x hx y hy => ?_, .inr fun x hx => ?_⟩, fun x hx => ?_⟩, by rw [encL_len]; omega⟩
    · obtain ⟨v, _, rfl⟩ := mem_encL hx
      obtain ⟨w, _, rfl⟩ := mem_encL hy
      rfl
    · obtain ⟨v, _, rfl⟩ := mem_encL hx
      rfl
    · obtain ⟨v, _, rfl⟩ := mem_encL hx
      simp [PyData.depth]
  have hs : sortD (encL L) = encL (List.range n) := by
    unfold sortD encL
    rw [← List.map_mergeSort (r := fun a b : Nat => decide (a ≤ b)) (f := fun v : Nat => PyData.int (v : Nat)), sort_perm nd lt e]
    intro a _ b _
    have h1 : PySem.W.dataLe false id (PyData.int (a : Nat)) (PyData.int (b : Nat)) = PySem.W.dataLe false (fun z : Int => PyData.int z) (a : Int) (b : Int) := rfl
    have h2 := congrFun (congrFun (PySem.W.dataLe_int (fun z : Int => z)) (a : Int)) (b : Int)
    rw [h1, h2]
    exact decide_eq_decide.mpr (by omega)
  simp [gSort, ok, hs]
theorem gIn_TL {x : Int} {L : List Nat} : gIn (.int x) (.tuple (encL L)) = some (.bool (decide (x ∈ L.map fun (v : Nat) => (v : Int)))) := by
  rw [encL_ints]
  exact gIn_T
theorem gNe_L {L : List Nat} : gNe (.list (encL L)) (.list (encL L)) = some (.bool false) := by
  have h1 : SeqAt.shaped (.list (encL L)) = true := by rw [encL_ints]; exact shaped_lint
  have h3 : PyData.eqv (.list (encL L)) (.list (encL L)) = true := by
    rw [PyData.eqv, encL_ints, eqv_ints]
    simp
  simp only [gNe, orG, gNeI, iiB, gNeD, h1, h3, Bool.and_self, if_true, Bool.not_true]
theorem gIx_TL {L : List Nat} {k v : Nat} (h : L[k]? = some v) : gIx (.tuple (encL L)) (.int (k : Nat)) = some (.int (v : Nat)) := by
  show atI (encL L) (k : Int) = _
  unfold atI
  have hk := (List.getElem?_eq_some_iff.mp h).1
  rw [encL_len, ixN_nat hk]
  show (encL L)[k]? = _
  unfold encL
  rw [List.getElem?_map, h]
  rfl
theorem cut_L {L : List Nat} {k : Nat} (h : k ≤ L.length) : cutD (encL L) none (some (k : Int)) = encL (L.take k) := by
  unfold cutD
  rw [HT.sIx_none, HT.sIx_nat, encL_len, Nat.min_eq_left h]
  unfold encL
  simp [List.map_take]
def eU (n : Nat) (es : List (Nat × Nat)) (r : Nat → Int) (q : Nat) (L : List Nat) (k b m e v : Sl) : Env := [.d (encG n es), .d (.tuple (tk n r)), .d (.int q), .d (.tuple (encL L)), .d (.int n), k, b, m, e, v]
theorem cb2_spec {r : Nat → Int} {L : List Nat} (hl : L.length ≤ 5) {k b m e v : Sl} (lv : light (some v) = true) : c__law_burns_2 (eU n es r q L k b m e v) = some (.lst [], eU n es r q L k b m e v) := by
  have key := lcF_run (it := itF (nmF 3)) (B := bN 9) (t := notF (tsF (callD F__law_is_integer (adF (nmF 9) (anilF))))) (f := nmF 9) (own := [9]) (ρ := eU n es r q L k b m e v) (ρ1 := eU n es r q L k b m e v) (xs := encL L) (fun _ => false) id
    (by
      have : (encL L).length ≤ 10000000 := by rw [encL_len]; omega
      simp [itF, nmF, eU, seqItems, this]) (by simp [okOwn, eU, lv]) (by rfl) (by rfl) (fun x hx => by
      obtain ⟨w, hw, rfl⟩ := mem_encL hx
      have hwp : wipeE (eU n es r q L k b m e v) [9] = eU n es r q L k b m e .un := rfl
      rw [hwp]
      refine ⟨eU n es r q L k b m e (.d (.int (w : Nat))), eU n es r q L k b m e (.d (.int (w : Nat))), by simp [bN, eU, setSl], ?_, fun _ => ⟨rfl, rfl⟩, fun z => (nomatch z)⟩
      simp [notF, tsF, callD, resS, adF, nmF, anilF, eU, borKs, argSl, toSl, is_int, putBack])
  rw [show (encL L).filter (fun _ => false) = [] from List.filter_eq_nil_iff.mpr fun _ _ => by simp] at key
  exact key
theorem dec_cast {v : Nat} {L : List Nat} : decide ((v : Int) ∈ L.map fun (v : Nat) => (v : Int)) = decide (v ∈ L) := decide_eq_decide.mpr mem_cast
theorem cb1_spec (g : GOk n es) {r : Nat → Int} {L : List Nat} {k w : Nat} (hw : L[k]? = some w) {P : List Nat} {m e v : Sl} (le : light (some e) = true) :
    c__law_burns_1 (eU n es r q L (.d (.int (k : Nat))) (.d (.tuple (encL P))) m e v) = some (.lst ((es.filter (hasE w P)).map encE), eU n es r q L (.d (.int (k : Nat))) (.d (.tuple (encL P))) m e v) := by
  have fw := g.few
  have key := lcF_run (it := itF (opF gIx (nmF 0) (kF (.int 1)))) (B := bN 8) (t := andF (tsF (opF gIn (opF gIx (nmF 3) (nmF 5)) (nmF 8))) (tsF (opF gIn (opF gSub (opF gAdd (opF gIx (nmF 8) (kF (.int 0))) (opF gIx (nmF 8) (kF (.int 1)))) (opF gIx (nmF 3) (nmF 5))) (nmF 6)))) (f := nmF 8) (own := [8])
    (ρ := eU n es r q L (.d (.int (k : Nat))) (.d (.tuple (encL P))) m e v) (ρ1 := eU n es r q L (.d (.int (k : Nat))) (.d (.tuple (encL P))) m e v) (xs := es.map encE) (fun x => hasE w P (decE x)) id
    (by simp [itF, opF, nmF, kF, eU, gIx_G1, seqItems]; omega) (by simp [okOwn, eU, le]) (by rfl) (by rfl) (fun x hx => by
      obtain ⟨d, hd, rfl⟩ := List.mem_map.mp hx
      obtain ⟨h1, h2⟩ := g.lt d hd
      have hwp : wipeE (eU n es r q L (.d (.int (k : Nat))) (.d (.tuple (encL P))) m e v) [8] = eU n es r q L (.d (.int (k : Nat))) (.d (.tuple (encL P))) m .un v := rfl
      rw [hwp]
      refine ⟨eU n es r q L (.d (.int (k : Nat))) (.d (.tuple (encL P))) m (.d (encE d)) v, eU n es r q L (.d (.int (k : Nat))) (.d (.tuple (encL P))) m (.d (encE d)) v, by simp [bN, eU, setSl], ?_, fun _ => ⟨rfl, rfl⟩, fun _ => ⟨_, rfl, rfl, rfl⟩⟩
      generalize hρ : eU n es r q L (.d (.int (k : Nat))) (.d (.tuple (encL P))) m (.d (encE d)) v = ρ
      have a3 : opF gIx (nmF 3) (nmF 5) ρ = some (.int (w : Nat), ρ) := opF_eq (y := .int (k : Nat)) (by rw [← hρ]; rfl) (by rw [← hρ]; rfl) (gIx_TL hw)
      have a8 : nmF 8 ρ = some (encE d, ρ) := by rw [← hρ]; rfl
      have a6 : nmF 6 ρ = some (.tuple (encL P), ρ) := by rw [← hρ]; rfl
      have t1 : opF gIn (opF gIx (nmF 3) (nmF 5)) (nmF 8) ρ = some (.bool (decide ((w : Int) = d.1 ∨ (w : Int) = d.2)), ρ) := opF_eq a3 a8 gIn_E
      have a0 : opF gIx (nmF 8) (kF (.int 0)) ρ = some (.int (d.1 : Nat), ρ) := opF_eq a8 rfl rfl
      have a1 : opF gIx (nmF 8) (kF (.int 1)) ρ = some (.int (d.2 : Nat), ρ) := opF_eq a8 rfl rfl
      have t2 := opF_eq (opF_eq (opF_eq a0 a1 gAdd_i) a3 gSub_i) a6 (gIn_TL (x := (d.1 : Int) + d.2 - w) (L := P))
      simp only [andF, tsF, t1, decE_enc]
      by_cases q1 : w = d.1
      · have z : ((d.1 : Int) + d.2 - w) = (d.2 : Int) := by omega
        rw [z, dec_cast] at t2
        have q2 : ¬ d.2 = d.1 := by omega
        rw [decide_eq_true (.inl (by omega))]
        simp only [t2]
        subst q1
        simp [hasE, q2]
      · by_cases q2 : w = d.2
        · have z : ((d.1 : Int) + d.2 - w) = (d.1 : Int) := by omega
          rw [z, dec_cast] at t2
          have q3 : ¬ d.1 = d.2 := by omega
          rw [decide_eq_true (.inr (by omega))]
          simp only [t2]
          subst q2
          simp [hasE, q3]
        · rw [decide_eq_false (by omega)]
          simp [hasE, Ne.symm q1, Ne.symm q2])
  rw [filter_enc, List.map_id] at key
  exact key
theorem burns_spec (g : GOk n es) {r : Nat → Int} {L : List Nat} (bi : BI n es r q L) (hL : L.length = n) : F__law_burns [.d (encG n es), .d (.tuple (tk n r)), .d (.int q), .d (.tuple (encL L))] = some (.d (.bool true), [.un, .un, .un, .un]) := by
  have g5 := g.five
  have gp := g.pos
  have s1 : setF 4 (opF gIx (nmF 0) (kF (.int 0))) [.d (encG n es), .d (.tuple (tk n r)), .d (.int q), .d (.tuple (encL L)), .un, .un, .un, .un, .un, .un] = some (.nx (eU n es r q L .un .un .un .un .un)) := by
    simp [setF, opF, nmF, kF, gIx_G0, setSl, eU]
  have t1 : orF (notF (tsF (isiF "tuple" (nmF 3)))) (orF (tsF (opF gGt (callF gLen (consF (frF (c__law_burns_2)) (nilF))) (kF (.int 0)))) (tsF (opF gNe (frF (callOF gSort (consF (nmF 3) (nilF)))) (frF (lrg1F (nmF 4)))))) (eU n es r q L .un .un .un .un .un) = some (false, eU n es r q L .un .un .un .un .un) := by
    have a3 : nmF 3 (eU n es r q L .un .un .un .un .un) = some (.tuple (encL L), eU n es r q L .un .un .un .un .un) := rfl
    have a4 : nmF 4 (eU n es r q L .un .un .un .un .un) = some (.int (n : Nat), eU n es r q L .un .un .un .un .un) := rfl
    have c2 := cb2_spec (n := n) (es := es) (q := q) (r := r) (L := L) (k := .un) (b := .un) (m := .un) (e := .un) (v := .un) (by omega) rfl
    have lr : lrg1F (nmF 4) (eU n es r q L .un .un .un .un .un) = some (.lst (encL (List.range n)), eU n es r q L .un .un .un .un .un) := by
      unfold lrg1F
      rw [a4]
      dsimp only
      rw [if_pos ⟨by omega, by omega⟩, Int.toNat_natCast, rngD_encL]
    have gz : gGt (.int ((([] : List D).length : Nat) : Int)) (.int 0) = some (.bool false) := rfl
    simp only [orF, notF, tsF, isiF, a3, isT, tyD, k_tt, opF, callF, consF, frF, c2, nilF, gLen, kF, gz, callOF, sort_L bi.nd bi.lt hL g5, lr, gNe_L, Bool.not_true]
  have t2 : tsF (opF gNe (opF gIx (nmF 3) (kF (.int 0))) (nmF 2)) (eU n es r q L .un .un .un .un .un) = some (false, eU n es r q L .un .un .un .un .un) := by
    have a : opF gNe (opF gIx (nmF 3) (kF (.int 0))) (nmF 2) (eU n es r q L .un .un .un .un .un) = some (.bool false, eU n es r q L .un .un .un .un .un) := by
      refine opF_eq (opF_eq (x := .tuple (encL L)) (y := .int 0) rfl rfl (gIx_TL (k := 0) bi.hd)) (y := .int (q : Nat)) rfl ?_
      rw [gNe_nat]
      simp
    simp only [tsF, a]
  obtain ⟨ρ', e, k, b, m, x, _, _, _, _, rfl⟩ := forS_run (it := rng2F (consF (kF (.int 1)) (consF (nmF 4) (nilF)))) (B := bN 5) (g := b__law_burns_1) (ρ := eU n es r q L .un .un .un .un .un) (ρ1 := eU n es r q L .un .un .un .un .un) (xs := rngD 1 1 (n - 1))
    (fun i ρ => ∃ k b m e, light (some k) = true ∧ light (some b) = true ∧ light (some m) = true ∧ light (some e) = true ∧ ρ = eU n es r q L k b m e .un) (by
      have a4 : nmF 4 (eU n es r q L .un .un .un .un .un) = some (.int (n : Nat), eU n es r q L .un .un .un .un .un) := rfl
      simp only [rng2F, consF, kF, a4, nilF]
      rw [if_pos ⟨by omega, by omega, by omega, by omega⟩, show ((n : Int) - 1).toNat = n - 1 by omega]) ⟨.un, .un, .un, .un, rfl, rfl, rfl, rfl, rfl⟩ (fun i x ρ hx hI => by
      obtain ⟨k, b, m, e, lk, lb, lm, le, rfl⟩ := hI
      obtain ⟨hi, rfl⟩ := rng2_at hx
      have hk : i + 1 < L.length := by omega
      have hw : L[i + 1]? = some L[i + 1] := List.getElem?_eq_getElem hk
      generalize hwv : L[i + 1] = w at hw
      have hwn := bi.lt w (List.mem_of_getElem? hw)
      have hlt := bi.ord (i + 1) w (by omega) hw
      refine ⟨eU n es r q L (.d (.int ((i + 1 : Nat) : Int))) b m e .un, eU n es r q L (.d (.int ((i + 1 : Nat) : Int))) (.d (.tuple (encL (L.take (i + 1))))) (.d (.int (eT es w (L.take (i + 1)) : Nat))) e .un, by simp [bN, eU, setSl_q, lk], ?_, _, _, _, e, rfl, rfl, rfl, le, rfl⟩
      have s6 : setF 6 (slF (nmF 3) (ptNo) (ptAt (nmF 5))) (eU n es r q L (.d (.int ((i + 1 : Nat) : Int))) b m e .un) = some (.nx (eU n es r q L (.d (.int ((i + 1 : Nat) : Int))) (.d (.tuple (encL (L.take (i + 1))))) m e .un)) := by
        have a3 : nmF 3 (eU n es r q L (.d (.int ((i + 1 : Nat) : Int))) b m e .un) = some (.tuple (encL L), eU n es r q L (.d (.int ((i + 1 : Nat) : Int))) b m e .un) := rfl
        have a5 : nmF 5 (eU n es r q L (.d (.int ((i + 1 : Nat) : Int))) b m e .un) = some (.int ((i + 1 : Nat) : Int), eU n es r q L (.d (.int ((i + 1 : Nat) : Int))) b m e .un) := rfl
        simp only [setF, slF, a3, ptNo, ptAt, a5, gSl, cut_L (L := L) (k := i + 1) (by omega)]
        simp [eU, setSl_q, lb]
      have s7 : setF 7 (callF gLen (consF (frF (c__law_burns_1)) (nilF))) (eU n es r q L (.d (.int ((i + 1 : Nat) : Int))) (.d (.tuple (encL (L.take (i + 1))))) m e .un) = some (.nx (eU n es r q L (.d (.int ((i + 1 : Nat) : Int))) (.d (.tuple (encL (L.take (i + 1))))) (.d (.int (eT es w (L.take (i + 1)) : Nat))) e .un)) := by
        have c1 := cb1_spec (n := n) (q := q) (r := r) (m := m) (v := .un) (P := L.take (i + 1)) g hw le
        simp only [setF, callF, consF, frF, c1, nilF, gLen, List.length_map]
        simp [eU, setSl_q, lm, eT]
      have tt : tsF (opF gGe (opF gIx (nmF 1) (opF gIx (nmF 3) (nmF 5))) (nmF 7)) (eU n es r q L (.d (.int ((i + 1 : Nat) : Int))) (.d (.tuple (encL (L.take (i + 1))))) (.d (.int (eT es w (L.take (i + 1)) : Nat))) e .un) = some (false, eU n es r q L (.d (.int ((i + 1 : Nat) : Int))) (.d (.tuple (encL (L.take (i + 1))))) (.d (.int (eT es w (L.take (i + 1)) : Nat))) e .un) := by
        generalize hρ : eU n es r q L (.d (.int ((i + 1 : Nat) : Int))) (.d (.tuple (encL (L.take (i + 1))))) (.d (.int (eT es w (L.take (i + 1)) : Nat))) e .un = ρ
        have a3 : opF gIx (nmF 3) (nmF 5) ρ = some (.int (w : Nat), ρ) := opF_eq (x := .tuple (encL L)) (y := .int ((i + 1 : Nat) : Int)) (by rw [← hρ]; rfl) (by rw [← hρ]; rfl) (gIx_TL hw)
        have a1 : opF gIx (nmF 1) (opF gIx (nmF 3) (nmF 5)) ρ = some (.int (r w), ρ) := opF_eq (x := .tuple (tk n r)) (by rw [← hρ]; rfl) a3 (gIx_tk hwn)
        have a : opF gGe (opF gIx (nmF 1) (opF gIx (nmF 3) (nmF 5))) (nmF 7) ρ = some (.bool false, ρ) := by
          refine opF_eq a1 (y := .int (eT es w (L.take (i + 1)) : Nat)) (by rw [← hρ]; rfl) ?_
          show some (PyData.bool (decide (((eT es w (L.take (i + 1)) : Nat) : Int) ≤ r w))) = _
          rw [decide_eq_false (by omega)]
        simp only [tsF, a]
      unfold b__law_burns_1 seqS
      rw [s6]
      dsimp only
      rw [s7]
      dsimp only
      unfold ifS
      rw [tt]
      rfl)
  have e' : l__law_burns_1 (eU n es r q L .un .un .un .un .un) = _ := e
  simp [F__law_burns, runF, f__law_burns, seqS, s1, ifS, t1, t2, nxS, e', retF, kF]
  simp [eU, backA]
end
end G

set_option Elab.async false
set_option linter.all false
set_option maxRecDepth 100000
set_option maxHeartbeats 4000000
namespace G
open PySem PySem.Spec PyProof.Rows L2
section
variable {F : Fn} {f1 f2 f3 f4 : EF} {ρ : Env} {x1 x2 x3 x4 y : D} {i : Nat} {fx : Bool} {P P' : List D}
theorem call_dd (h1 : f1 ρ = some (x1, ρ)) (h2 : f2 ρ = some (x2, ρ)) (e : F [.d x1, .d x2] = some (.d y, [.un, .un])) : callD F (adF f1 (adF f2 (anilF))) ρ = some (y, ρ) := by
  simp [callD, resS, adF, h1, h2, anilF, borKs, argSl, toSl, e, putBack]
theorem call_ddd (h1 : f1 ρ = some (x1, ρ)) (h2 : f2 ρ = some (x2, ρ)) (h3 : f3 ρ = some (x3, ρ)) (e : F [.d x1, .d x2, .d x3] = some (.d y, [.un, .un, .un])) : callD F (adF f1 (adF f2 (adF f3 (anilF)))) ρ = some (y, ρ) := by
  simp [callD, resS, adF, h1, h2, h3, anilF, borKs, argSl, toSl, e, putBack]
theorem call_ddx {ρ' : Env} (h1 : f1 ρ = some (x1, ρ)) (h2 : f2 ρ = some (x2, ρ)) (h3 : f3 ρ = some (x3, ρ')) (e : F [.d x1, .d x2, .d x3] = some (.d y, [.un, .un, .un])) : callD F (adF f1 (adF f2 (adF f3 (anilF)))) ρ = some (y, ρ') := by
  simp [callD, resS, adF, h1, h2, h3, anilF, borKs, argSl, toSl, e, putBack]
theorem call_dddd (h1 : f1 ρ = some (x1, ρ)) (h2 : f2 ρ = some (x2, ρ)) (h3 : f3 ρ = some (x3, ρ)) (h4 : f4 ρ = some (x4, ρ)) (e : F [.d x1, .d x2, .d x3, .d x4] = some (.d y, [.un, .un, .un, .un])) : callD F (adF f1 (adF f2 (adF f3 (adF f4 (anilF))))) ρ = some (y, ρ) := by
  simp [callD, resS, adF, h1, h2, h3, h4, anilF, borKs, argSl, toSl, e, putBack]
theorem call_p1 (h : ρ[i]? = some (.ow fx (.lst P))) (h1 : f1 ρ = some (x1, ρ)) (e : F [.ow true (.lst P), .d x1] = some (.d y, [.ow true (.lst P'), .un])) : callD F (aborF i (adF f1 (anilF))) ρ = some (y, ρ.set i (.ow fx (.lst P'))) := by
  have a1 : adF f1 (anilF) ρ = some ([.d x1], ρ) := by simp [adF, h1, anilF]
  have a2 : aborF i (adF f1 (anilF)) ρ = some ([.bor i, .d x1], ρ) := by simp [aborF, isSet, h, a1]
  have a3 : argSl ρ [.bor i, .d x1] = some [.ow true (.lst P), .d x1] := by simp [argSl, toSl, h]
  simp [callD, resS, a2, borKs, a3, e, putBack, h]
theorem call_p3 (h : ρ[i]? = some (.ow fx (.lst P))) (h1 : f1 ρ = some (x1, ρ)) (h2 : f2 ρ = some (x2, ρ)) (h3 : f3 ρ = some (x3, ρ)) (e : F [.ow true (.lst P), .d x1, .d x2, .d x3] = some (.d y, [.ow true (.lst P'), .un, .un, .un])) :
    callD F (aborF i (adF f1 (adF f2 (adF f3 (anilF))))) ρ = some (y, ρ.set i (.ow fx (.lst P'))) := by
  have a1 : adF f1 (adF f2 (adF f3 (anilF))) ρ = some ([.d x1, .d x2, .d x3], ρ) := by simp [adF, h1, h2, h3, anilF]
  have a2 : aborF i (adF f1 (adF f2 (adF f3 (anilF)))) ρ = some ([.bor i, .d x1, .d x2, .d x3], ρ) := by simp [aborF, isSet, h, a1]
  have a3 : argSl ρ [.bor i, .d x1, .d x2, .d x3] = some [.ow true (.lst P), .d x1, .d x2, .d x3] := by simp [argSl, toSl, h]
  simp [callD, resS, a2, borKs, a3, e, putBack, h]
theorem ts_of {f : EF} {b : Bool} {ρ1 : Env} (h : f ρ = some (.bool b, ρ1)) : tsF f ρ = some (b, ρ1) := by simp [tsF, h]
theorem setF_of {f : EF} {ρ1 : Env} {k : Nat} (h : f ρ = some (y, ρ1)) (l : light ρ1[k]? = true) (hk : k < ρ1.length) : setF k f ρ = some (.nx (ρ1.set k (.d y))) := by
  simp [setF, h, setSl_q l hk]
end
section
variable {n : Nat} {es : List (Nat × Nat)} {q : Nat}
theorem sum_tk {r : Nat → Int} : gSum [.tuple (tk n r)] = some (.int (sumN n r)) := by
  have h : ∀ n, ((List.range n).map r).sum = sumN n r := by
    intro n
    induction n with
    | zero => rfl
    | succ k ih =>
      rw [List.range_succ, List.map_append, List.sum_append, ih]
      simp [sumN]
  unfold gSum
  dsimp only
  rw [tk_ints, intsOf_map]
  show some (PyData.int ((List.range n).map r).sum) = _
  rw [h]
def eW (S : D) (P : List D) (n : Nat) (es : List (Nat × Nat)) (s : Nat → Int) (q : Nat) (r : Nat → Int) (t o d b a : Sl) : Env :=
  [.d S, .ow false (.lst P), .d (encG n es), .d (.int n), .d (.tuple (tk n s)), .d (.int q), .d (.tuple (tk n r)), t, o, d, b, a]
variable {S : D} {P : List D} {s r : Nat → Int} {t o d b a : Sl}
theorem w2 : nmF 2 (eW S P n es s q r t o d b a) = some (encG n es, eW S P n es s q r t o d b a) := rfl
theorem w3 : nmF 3 (eW S P n es s q r t o d b a) = some (.int n, eW S P n es s q r t o d b a) := rfl
theorem w4 : nmF 4 (eW S P n es s q r t o d b a) = some (.tuple (tk n s), eW S P n es s q r t o d b a) := rfl
theorem w5 : nmF 5 (eW S P n es s q r t o d b a) = some (.int q, eW S P n es s q r t o d b a) := rfl
theorem w6 : nmF 6 (eW S P n es s q r t o d b a) = some (.tuple (tk n r), eW S P n es s q r t o d b a) := rfl
theorem w8 {x : D} : nmF 8 (eW S P n es s q r t (.d x) d b a) = some (x, eW S P n es s q r t (.d x) d b a) := rfl
theorem w9 {x : D} : nmF 9 (eW S P n es s q r t o (.d x) b a) = some (x, eW S P n es s q r t o (.d x) b a) := rfl
theorem w10 {x : D} : nmF 10 (eW S P n es s q r t o d (.d x) a) = some (x, eW S P n es s q r t o d (.d x) a) := rfl
theorem wP : (eW S P n es s q r t o d b a)[1]? = some (.ow false (.lst P)) := rfl
/-- a turn of the law's first loop -/
theorem turn_a (g : GOk n es) (hq : q < n) (hP : isPool P) (k : Red n es q s r) (lo : light (some o) = true) : ∃ P' o', light (some o') = true ∧ isPool P' ∧ b_law_2 (eW S P n es s q r t o d b a) = some (.nx (eW S P' n es s q r t o' d b a)) := by
  obtain ⟨P', Fi, eS, p'⟩ := stack_spec (lo := -3) (hi := 3) g hP (by omega) (by omega)
  have c1 := call_p3 (ρ := eW S P n es s q r t o d b a) (f1 := nmF 2) (f2 := negF (kF (.int 3))) (f3 := kF (.int 3)) wP w2 rfl rfl eS
  have c1' : callD F__law_stack (aborF 1 (adF (nmF 2) (adF (negF (kF (.int 3))) (adF (kF (.int 3)) (anilF))))) (eW S P n es s q r t o d b a) = some (.tuple (tk n Fi), eW S P' n es s q r t o d b a) := c1
  have lf := lfired_spec (s := s) (F := Fi) g
  have c2 := call_ddx (w2 (t := t) (o := o) (d := d) (b := b) (a := a) (S := S) (P := P) (r := r) (s := s) (q := q) (n := n) (es := es)) w4 c1' lf
  generalize hs' : (fun v => s v + lap es Fi v) = s' at *
  have s8 : setF 8 (callD F__law_fired (adF (nmF 2) (adF (nmF 4) (adF (callD F__law_stack (aborF 1 (adF (nmF 2) (adF (negF (kF (.int 3))) (adF (kF (.int 3)) (anilF)))))) (anilF))))) (eW S P n es s q r t o d b a) = some (.nx (eW S P' n es s q r t (.d (.tuple (tk n s'))) d b a)) := setF_of c2 (by simpa [eW] using lo) (by simp [eW])
  obtain ⟨r', er, kr⟩ := reduced_spec (q := q) (s := s') g hq
  have same : tk n r' = tk n r := tk_congr fun v hv => k.same g hq kr (G := Fi) (fun w _ => by rw [← hs']) v hv
  rw [same] at er
  obtain ⟨bb, eb, hb⟩ := equiv_spec (s := s) (s' := s') g
  have hbt : bb = true := hb.mpr ⟨Fi, fun w _ => by rw [← hs']⟩
  subst hbt
  have h1 := call_ddd (w2 (t := t) (o := .d (.tuple (tk n s'))) (d := d) (b := b) (a := a) (S := S) (P := P') (r := r) (s := s) (q := q) (n := n) (es := es)) w8 w5 er
  have h2 := ts_of (call_dd h1 w6 (same_tuple g.five))
  have h3 := call_ddd (w2 (t := t) (o := .d (.tuple (tk n s'))) (d := d) (b := b) (a := a) (S := S) (P := P') (r := r) (s := s) (q := q) (n := n) (es := es)) w4 w8 eb
  have h4 := ts_of (call_dd h3 (f2 := kF (.bool true)) rfl (same_bool 5))
  refine ⟨P', .d (.tuple (tk n s')), rfl, p', ?_⟩
  unfold b_law_2 seqS
  rw [s8]
  dsimp only
  simp only [ifS, orF, notF, h2, h4, Bool.not_true, nxS]
theorem abs_tk {s : Nat → Int} : ((tk n s).map fun x : D => match x with | .int i => PyData.int (if i < 0 then -i else i) | _ => .none) = tk n fun v => if s v < 0 then - s v else s v := by
  unfold tk
  rw [List.map_map]
  rfl
theorem mem_tk {x : D} {s : Nat → Int} (h : x ∈ tk n s) : ∃ z, x = .int z := by
  obtain ⟨v, _, rfl⟩ := List.mem_map.mp h
  exact ⟨_, rfl⟩
/-- a turn of the law's second loop -/
theorem turn_b (g : GOk n es) (hq : q < n) (hP : isPool P) (k : Red n es q s r) (lo : light (some o) = true) (ld : light (some d) = true) (lb : light (some b) = true) (la : light (some a) = true) :
    ∃ P' o' d' b', light (some o') = true ∧ light (some d') = true ∧ light (some b') = true ∧ isPool P' ∧ b_law_1 (eW S P n es s q r t o d b a) = some (.nx (eW S P' n es s q r t o' d' b' a)) := by
  have g5 := g.five
  obtain ⟨P', z, eS, p'⟩ := stack_spec (lo := -2) (hi := 3) g hP (by omega) (by omega)
  have c1 := call_p3 (ρ := eW S P n es s q r t o d b a) (f1 := nmF 2) (f2 := negF (kF (.int 2))) (f3 := kF (.int 3)) wP w2 rfl rfl eS
  have c1' : callD F__law_stack (aborF 1 (adF (nmF 2) (adF (negF (kF (.int 2))) (adF (kF (.int 3)) (anilF))))) (eW S P n es s q r t o d b a) = some (.tuple (tk n z), eW S P' n es s q r t o d b a) := c1
  have key := lcF_run (it := itF (callD F__law_stack (aborF 1 (adF (nmF 2) (adF (negF (kF (.int 2))) (adF (kF (.int 3)) (anilF))))))) (B := bN 11) (t := yesF) (f := callF gAbs (consF (nmF 11) (nilF))) (own := [11]) (ρ := eW S P n es s q r t o d b a) (ρ1 := eW S P' n es s q r t o d b a) (xs := tk n z) (fun _ => true) (fun x : D => match x with | .int i => PyData.int (if i < 0 then -i else i) | _ => .none)
    (by
      have : (tk n z).length ≤ 10000000 := by rw [tk_len]; omega
      simp only [itF, c1', seqItems, this, if_true]) (by simp [okOwn, eW, la]) (by rfl) (by rfl) (fun x hx => by
      obtain ⟨y, rfl⟩ := mem_tk hx
      exact ⟨eW S P' n es s q r t o d b (.d (.int y)), eW S P' n es s q r t o d b (.d (.int y)), by simp [bN, eW, setSl, wipeE], rfl, fun z => (nomatch z), fun _ => ⟨eW S P' n es s q r t o d b (.d (.int y)), rfl, rfl, rfl⟩⟩)
  rw [filter_true, abs_tk] at key
  generalize ho : (fun v => if z v < 0 then - z v else z v) = s' at *
  have c2 : c_law_1 (eW S P n es s q r t o d b a) = some (.lst (tk n s'), eW S P' n es s q r t o d b a) := key
  have c3 : callF gTup (consF (frF (c_law_1)) (nilF)) (eW S P n es s q r t o d b a) = some (.tuple (tk n s'), eW S P' n es s q r t o d b a) := by
    simp only [callF, consF, frF, c2, nilF, gTup]
  have s8 : setF 8 (callF gTup (consF (frF (c_law_1)) (nilF))) (eW S P n es s q r t o d b a) = some (.nx (eW S P' n es s q r t (.d (.tuple (tk n s'))) d b a)) := setF_of c3 (by simpa [eW] using lo) (by simp [eW])
  obtain ⟨L, bi, clo, eB⟩ := burning_spec (s := s') g hq
  obtain ⟨rf, eF, hrf⟩ := rf_spec g hq bi clo
  have npos : ∀ v < n, v ≠ q → 0 ≤ s' v := fun v _ _ => by
    rw [← ho]
    dsimp only
    split <;> omega
  generalize hord : (if L.length = n then PyData.tuple (encL L) else PyData.none) = ord at *
  have h9 := call_ddd (w2 (t := t) (o := .d (.tuple (tk n s'))) (d := d) (b := b) (a := a) (S := S) (P := P') (r := r) (s := s) (q := q) (n := n) (es := es)) w8 w5 eB
  have s9 : setF 9 (callD F_burning (adF (nmF 2) (adF (nmF 8) (adF (nmF 5) (anilF))))) (eW S P' n es s q r t (.d (.tuple (tk n s'))) d b a) = some (.nx (eW S P' n es s q r t (.d (.tuple (tk n s'))) (.d ord) b a)) := setF_of h9 (by simpa [eW] using ld) (by simp [eW])
  have hrfc := call_ddd (w2 (t := t) (o := .d (.tuple (tk n s'))) (d := .d ord) (b := b) (a := a) (S := S) (P := P') (r := r) (s := s) (q := q) (n := n) (es := es)) w8 w5 eF
  have isn : opF gIsNot (nmF 9) (kF .none) (eW S P' n es s q r t (.d (.tuple (tk n s'))) (.d ord) b a) = some (.bool (decide (L.length = n)), eW S P' n es s q r t (.d (.tuple (tk n s'))) (.d ord) b a) := by
    refine opF_eq w9 rfl ?_
    rw [← hord]
    by_cases c : L.length = n
    · rw [if_pos c, decide_eq_true c]
      rfl
    · rw [if_neg c, decide_eq_false c]
      rfl
  have hrfe : rf = decide (L.length = n) := by
    by_cases c : L.length = n
    · rw [decide_eq_true c]
      exact hrf.mpr ⟨npos, c⟩
    · rw [decide_eq_false c]
      cases rf with
      | false => rfl
      | true => exact absurd (hrf.mp rfl).2 c
  have ne := ts_of (opF_eq isn hrfc (g := gNe) (by rw [hrfe]; exact gNe_same _))
  have tst : orF (tsF (opF gNe (opF gIsNot (nmF 9) (kF .none)) (callD F__law_reduced_for (adF (nmF 2) (adF (nmF 8) (adF (nmF 5) (anilF))))))) (andF (tsF (opF gIsNot (nmF 9) (kF .none))) (notF (tsF (callD F__law_burns (adF (nmF 2) (adF (nmF 8) (adF (nmF 5) (adF (nmF 9) (anilF))))))))) (eW S P' n es s q r t (.d (.tuple (tk n s'))) (.d ord) b a) = some (false, eW S P' n es s q r t (.d (.tuple (tk n s'))) (.d ord) b a) := by
    have isn' := ts_of isn
    by_cases c : L.length = n
    · rw [decide_eq_true c] at isn'
      have hbu := burns_spec (q := q) g bi c
      rw [if_pos c] at hord
      have h4 := ts_of (call_dddd (w2 (t := t) (o := .d (.tuple (tk n s'))) (d := .d ord) (b := b) (a := a) (S := S) (P := P') (r := r) (s := s) (q := q) (n := n) (es := es)) w8 w5 w9 (by rw [← hord]; exact hbu))
      simp only [orF, ne, andF, isn', notF, h4, Bool.not_true]
    · rw [decide_eq_false c] at isn'
      simp only [orF, ne, andF, isn']
  obtain ⟨r', er, kr⟩ := reduced_spec (q := q) (s := s') g hq
  have hre := call_ddd (w2 (t := t) (o := .d (.tuple (tk n s'))) (d := .d ord) (b := b) (a := a) (S := S) (P := P') (r := r) (s := s) (q := q) (n := n) (es := es)) w8 w5 er
  have s10 : setF 10 (opF gEq (callD F_reduced (adF (nmF 2) (adF (nmF 8) (adF (nmF 5) (anilF))))) (nmF 6)) (eW S P' n es s q r t (.d (.tuple (tk n s'))) (.d ord) b a) = some (.nx (eW S P' n es s q r t (.d (.tuple (tk n s'))) (.d ord) (.d (.bool (same n r' r))) a)) :=
    setF_of (opF_eq hre w6 gEq_tk) (by simpa [eW] using lb) (by simp [eW])
  obtain ⟨bb, eb, hb⟩ := equiv_spec (s := s) (s' := s') g
  have hbb : bb = same n r' r := by
    have h1 : same n r' r = true ↔ Equ n es s s' := by
      rw [same_iff]
      have := k.tk_eq g hq kr
      exact ⟨fun h => this.mp h.symm, fun h => (this.mpr h).symm⟩
    cases bb with
    | true => exact (h1.mpr (hb.mp rfl)).symm
    | false =>
      cases hh : same n r' r with
      | false => rfl
      | true => exact absurd (hb.mpr (h1.mp hh)) (by simp)
  subst hbb
  have h3 := call_ddd (w2 (t := t) (o := .d (.tuple (tk n s'))) (d := .d ord) (b := .d (.bool (same n r' r))) (a := a) (S := S) (P := P') (r := r) (s := s) (q := q) (n := n) (es := es)) w4 w8 eb
  have h4 := ts_of (call_dd h3 w10 (same_bool 5))
  refine ⟨P', .d (.tuple (tk n s')), .d ord, .d (.bool (same n r' r)), rfl, rfl, rfl, p', ?_⟩
  unfold b_law_1 seqS
  rw [s8]
  dsimp only
  rw [s9]
  dsimp only
  unfold ifS
  rw [tst]
  dsimp only [nxS]
  rw [s10]
  simp only [notF, h4, Bool.not_true, nxS]
end
end G

set_option Elab.async false
set_option linter.all false
set_option maxRecDepth 100000
set_option maxHeartbeats 4000000
namespace G
open PySem PySem.Spec PyProof.Rows L2
section
variable {n : Nat} {es : List (Nat × Nat)} {q : Nat} {S : D} {P : List D} {s r : Nat → Int} {t o d b a : Sl}
theorem loop_a (g : GOk n es) (hq : q < n) (hP : isPool P) (k : Red n es q s r) (lt : light (some t) = true) (lo : light (some o) = true) : ∃ P' t' o', light (some t') = true ∧ light (some o') = true ∧ isPool P' ∧ l_law_2 (eW S P n es s q r t o d b a) = some (.nx (eW S P' n es s q r t' o' d b a)) := by
  obtain ⟨ρ', e, P', t', o', lt', lo', p', rfl⟩ := forS_run (it := rng1F (consF (kF (.int 3)) (nilF))) (B := bN 7) (g := b_law_2) (ρ := eW S P n es s q r t o d b a) (ρ1 := eW S P n es s q r t o d b a) (xs := rngD 0 1 3)
    (fun i ρ => ∃ P t o, light (some t) = true ∧ light (some o) = true ∧ isPool P ∧ ρ = eW S P n es s q r t o d b a) (by rfl) ⟨P, t, o, lt, lo, hP, rfl⟩ (fun i x ρ hx hI => by
      obtain ⟨P, t, o, lt, lo, hP, rfl⟩ := hI
      obtain ⟨_, rfl⟩ := rngD_at hx
      obtain ⟨P', o', lo', p', e⟩ := turn_a (S := S) (t := .d (.int (i : Nat))) (d := d) (b := b) (a := a) g hq hP k lo
      exact ⟨eW S P n es s q r (.d (.int (i : Nat))) o d b a, _, by simp [bN, eW, setSl_q, lt], e, P', .d (.int (i : Nat)), o', rfl, lo', p', rfl⟩)
  exact ⟨P', t', o', lt', lo', p', e⟩
theorem loop_b (g : GOk n es) (hq : q < n) (hP : isPool P) (k : Red n es q s r) (lt : light (some t) = true) (lo : light (some o) = true) (ld : light (some d) = true) (lb : light (some b) = true) (la : light (some a) = true) :
    ∃ ρ, l_law_1 (eW S P n es s q r t o d b a) = some (.nx ρ) ∧ ∃ P' t' o' d' b', ρ = eW S P' n es s q r t' o' d' b' a := by
  obtain ⟨ρ', e, P', t', o', d', b', _, _, _, _, _, rfl⟩ := forS_run (it := rng1F (consF (kF (.int 3)) (nilF))) (B := bN 7) (g := b_law_1) (ρ := eW S P n es s q r t o d b a) (ρ1 := eW S P n es s q r t o d b a) (xs := rngD 0 1 3)
    (fun i ρ => ∃ P t o d b, light (some t) = true ∧ light (some o) = true ∧ light (some d) = true ∧ light (some b) = true ∧ isPool P ∧ ρ = eW S P n es s q r t o d b a) (by rfl) ⟨P, t, o, d, b, lt, lo, ld, lb, hP, rfl⟩ (fun i x ρ hx hI => by
      obtain ⟨P, t, o, d, b, lt, lo, ld, lb, hP, rfl⟩ := hI
      obtain ⟨_, rfl⟩ := rngD_at hx
      obtain ⟨P', o', d', b', lo', ld', lb', p', e⟩ := turn_b (S := S) (t := .d (.int (i : Nat))) g hq hP k lo ld lb la
      exact ⟨eW S P n es s q r (.d (.int (i : Nat))) o d b a, _, by simp [bN, eW, setSl_q, lt], e, P', .d (.int (i : Nat)), o', d', b', rfl, lo', ld', lb', p', rfl⟩)
  exact ⟨_, e, P', t', o', d', b', rfl⟩
theorem cl2_spec (hn : n ≤ 5) (la : light (some a) = true) : c_law_2 (eW S P n es s q r t o d b a) = some (.lst [], eW S P n es s q r t o d b a) := by
  have key := lcF_run (it := itF (nmF 6)) (B := bN 11) (t := notF (tsF (callD F__law_is_integer (adF (nmF 11) (anilF))))) (f := nmF 11) (own := [11]) (ρ := eW S P n es s q r t o d b a) (ρ1 := eW S P n es s q r t o d b a) (xs := tk n r) (fun _ => false) id
    (by
      have : (tk n r).length ≤ 10000000 := by rw [tk_len]; omega
      simp only [itF, w6, seqItems, this, if_true]) (by simp [okOwn, eW, la]) (by rfl) (by rfl) (fun x hx => by
      obtain ⟨y, rfl⟩ := mem_tk hx
      refine ⟨eW S P n es s q r t o d b (.d (.int y)), eW S P n es s q r t o d b (.d (.int y)), by simp [bN, eW, setSl, wipeE], ?_, fun _ => ⟨rfl, rfl⟩, fun z => (nomatch z)⟩
      have h : callD F__law_is_integer (adF (nmF 11) (anilF)) (eW S P n es s q r t o d b (.d (.int y))) = some (.bool true, eW S P n es s q r t o d b (.d (.int y))) := by
        simp [callD, resS, adF, nmF, anilF, eW, borKs, argSl, toSl, is_int, putBack]
      simp only [notF, ts_of h, Bool.not_true])
  rw [show (tk n r).filter (fun _ => false) = [] from List.filter_eq_nil_iff.mpr fun _ _ => by simp] at key
  exact key
end
def lawBits (z : Int) : Prop := PySem.Builtin.Int.intBits z ≤ 1048576
theorem gNe_int {z : Int} : gNe (.int z) (.int z) = some (.bool false) := by
  show some (PyData.bool (!decide (z = z))) = _
  simp
theorem law_true : ∀ ns : List Int, ns.length ≤ 63 → (∀ z ∈ ns, lawBits z) → ∃ bs, F_law [.d (.list (ns.map PyData.int))] = some (.d (.bool true), bs) := by
  intro ns hl _
  generalize hS : PyData.list (ns.map PyData.int) = S
  obtain ⟨P0, e0, p0⟩ := pool_spec ns hl
  rw [hS] at e0
  have s1 : setOF 1 (callO F__law_pool (adF (nmF 0) (anilF))) [.d S, .un, .un, .un, .un, .un, .un, .un, .un, .un, .un, .un] = some (.nx [.d S, .ow false (.lst P0), .un, .un, .un, .un, .un, .un, .un, .un, .un, .un]) := by
    simp [setOF, callO, resS, adF, nmF, anilF, borKs, argSl, toSl, e0, putBack, setSl]
  obtain ⟨P1, n, es, e1, g, p1⟩ := graph_spec p0
  have g5 := g.five
  have gp := g.pos
  have c2 := call_p1 (i := 1) (fx := false) (ρ := [.d S, .ow false (.lst P0), .un, .un, .un, .un, .un, .un, .un, .un, .un, .un]) (f1 := kF (.int 5)) rfl rfl e1
  have s2 : setF 2 (callD F__law_graph (aborF 1 (adF (kF (.int 5)) (anilF)))) [.d S, .ow false (.lst P0), .un, .un, .un, .un, .un, .un, .un, .un, .un, .un] = some (.nx [.d S, .ow false (.lst P1), .d (encG n es), .un, .un, .un, .un, .un, .un, .un, .un, .un]) := setF_of c2 rfl (by simp)
  have s3 : setF 3 (opF gIx (nmF 2) (kF (.int 0))) [.d S, .ow false (.lst P1), .d (encG n es), .un, .un, .un, .un, .un, .un, .un, .un, .un] = some (.nx [.d S, .ow false (.lst P1), .d (encG n es), .d (.int n), .un, .un, .un, .un, .un, .un, .un, .un]) := by
    simp [setF, opF, nmF, kF, gIx_G0, setSl]
  obtain ⟨P2, s, e2, p2⟩ := stack_spec (lo := -4) (hi := 5) g p1 (by omega) (by omega)
  have c4 := call_p3 (i := 1) (fx := false) (ρ := [.d S, .ow false (.lst P1), .d (encG n es), .d (.int n), .un, .un, .un, .un, .un, .un, .un, .un]) (f1 := nmF 2) (f2 := negF (kF (.int 4))) (f3 := kF (.int 5)) rfl rfl rfl rfl e2
  have s4 : setF 4 (callD F__law_stack (aborF 1 (adF (nmF 2) (adF (negF (kF (.int 4))) (adF (kF (.int 5)) (anilF)))))) [.d S, .ow false (.lst P1), .d (encG n es), .d (.int n), .un, .un, .un, .un, .un, .un, .un, .un] = some (.nx [.d S, .ow false (.lst P2), .d (encG n es), .d (.int n), .d (.tuple (tk n s)), .un, .un, .un, .un, .un, .un, .un]) := setF_of c4 rfl (by simp)
  obtain ⟨P3, v, c5, p3, v0, v1⟩ := draw_call (i := 1) (fx := false) (ρ := [.d S, .ow false (.lst P2), .d (encG n es), .d (.int n), .d (.tuple (tk n s)), .un, .un, .un, .un, .un, .un, .un]) (f := nmF 3) (m := n) p2 rfl rfl (by omega) (by omega)
  obtain ⟨q, hqv⟩ : ∃ q : Nat, (q : Int) = v := ⟨v.toNat, by omega⟩
  have hq : q < n := by omega
  subst hqv
  have s5 : setF 5 (callD F__law_draw (aborF 1 (adF (nmF 3) (anilF)))) [.d S, .ow false (.lst P2), .d (encG n es), .d (.int n), .d (.tuple (tk n s)), .un, .un, .un, .un, .un, .un, .un] = some (.nx [.d S, .ow false (.lst P3), .d (encG n es), .d (.int n), .d (.tuple (tk n s)), .d (.int q), .un, .un, .un, .un, .un, .un]) := setF_of c5 rfl (by simp)
  obtain ⟨r, er, k⟩ := reduced_spec (q := q) (s := s) g hq
  have c6 := call_ddd (ρ := [.d S, .ow false (.lst P3), .d (encG n es), .d (.int n), .d (.tuple (tk n s)), .d (.int q), .un, .un, .un, .un, .un, .un]) (f1 := nmF 2) (f2 := nmF 4) (f3 := nmF 5) rfl rfl rfl er
  have s6 : setF 6 (callD F_reduced (adF (nmF 2) (adF (nmF 4) (adF (nmF 5) (anilF))))) [.d S, .ow false (.lst P3), .d (encG n es), .d (.int n), .d (.tuple (tk n s)), .d (.int q), .un, .un, .un, .un, .un, .un] = some (.nx (eW S P3 n es s q r .un .un .un .un .un)) := setF_of c6 rfl (by simp)
  -- its shape
  have t1 : orF (notF (tsF (isiF "tuple" (nmF 6)))) (orF (tsF (opF gNe (callF gLen (consF (nmF 6) (nilF))) (nmF 3))) (tsF (opF gGt (callF gLen (consF (frF (c_law_2)) (nilF))) (kF (.int 0))))) (eW S P3 n es s q r .un .un .un .un .un) = some (false, eW S P3 n es s q r .un .un .un .un .un) := by
    have c2 := cl2_spec (n := n) (es := es) (q := q) (S := S) (P := P3) (s := s) (r := r) (t := .un) (o := .un) (d := .un) (b := .un) (a := .un) g5 rfl
    have gz : gGt (.int ((([] : List D).length : Nat) : Int)) (.int 0) = some (.bool false) := rfl
    have gl : gLen [.tuple (tk n r)] = some (.int (n : Nat)) := by simp [gLen, tk_len]
    simp only [tk_len, orF, notF, tsF, isiF, w6, isT, tyD, k_tt, opF, callF, consF, nilF, gl, w3, gNe_int, frF, c2, gLen, kF, gz, Bool.not_true]
  -- its sum; it is reduced; reduced again
  obtain ⟨Lf, bi0, hlf⟩ := k.full
  obtain ⟨L, bi, clo, eB⟩ := burning_spec (s := r) g hq
  obtain ⟨rf, eF, hrf⟩ := rf_spec g hq bi clo
  have hL : L.length = n := by
    by_cases z : L.length = n
    · exact z
    · obtain ⟨j, h1, h2, hb⟩ := not_full_bad g bi clo z
      obtain ⟨w, hw⟩ := bits_some h1 h2
      exact absurd hb (full_not_bad bi0 hlf hw (bits_mem.mp hw).1)
  have hrt : rf = true := hrf.mpr ⟨k.pos, hL⟩
  subst hrt
  obtain ⟨r2, er2, k2⟩ := reduced_spec (q := q) (s := r) g hq
  have hsame : tk n r2 = tk n r := by
    obtain ⟨F, hF⟩ := k.eqv
    exact tk_congr fun v hv => k.same g hq k2 (G := F) (fun w hw => hF w hw) v hv
  rw [hsame] at er2
  have hsum : sumN n r = sumN n s := by
    obtain ⟨F, hF⟩ := k.eqv
    rw [sumN_congr n hF, tot_sum g]
  have t2 : orF (tsF (opF gNe (callF gSum (consF (nmF 6) (nilF))) (callF gSum (consF (nmF 4) (nilF))))) (orF (notF (tsF (callD F__law_reduced_for (adF (nmF 2) (adF (nmF 6) (adF (nmF 5) (anilF))))))) (notF (tsF (callD (F__law_same 6) (adF (callD F_reduced (adF (nmF 2) (adF (nmF 6) (adF (nmF 5) (anilF))))) (adF (nmF 6) (anilF))))))) (eW S P3 n es s q r .un .un .un .un .un) = some (false, eW S P3 n es s q r .un .un .un .un .un) := by
    have a1 : callF gSum (consF (nmF 6) (nilF)) (eW S P3 n es s q r .un .un .un .un .un) = some (.int (sumN n r), eW S P3 n es s q r .un .un .un .un .un) := by simp only [callF, consF, w6, nilF, sum_tk]
    have a2 : callF gSum (consF (nmF 4) (nilF)) (eW S P3 n es s q r .un .un .un .un .un) = some (.int (sumN n r), eW S P3 n es s q r .un .un .un .un .un) := by simp only [callF, consF, w4, nilF, sum_tk, hsum]
    have h1 := ts_of (opF_eq a1 a2 gNe_int)
    have h2 := ts_of (call_ddd (w2 (S := S) (P := P3) (n := n) (es := es) (s := s) (q := q) (r := r) (t := .un) (o := .un) (d := .un) (b := .un) (a := .un)) w6 w5 eF)
    have h3 := ts_of (call_dd (call_ddd (w2 (S := S) (P := P3) (n := n) (es := es) (s := s) (q := q) (r := r) (t := .un) (o := .un) (d := .un) (b := .un) (a := .un)) w6 w5 er2) w6 (same_tuple g5))
    simp only [orF, h1, notF, h2, h3, Bool.not_true]
  obtain ⟨P4, t4, o4, lt4, lo4, p4, ea⟩ := loop_a (S := S) (t := .un) (o := .un) (d := .un) (b := .un) (a := .un) g hq p3 k rfl rfl
  rw [if_pos hL] at eB
  have s9 : setF 9 (callD F_burning (adF (nmF 2) (adF (nmF 6) (adF (nmF 5) (anilF))))) (eW S P4 n es s q r t4 o4 .un .un .un) = some (.nx (eW S P4 n es s q r t4 o4 (.d (.tuple (encL L))) .un .un)) := setF_of (call_ddd w2 w6 w5 eB) rfl (by simp [eW])
  have t3 : notF (tsF (callD F__law_burns (adF (nmF 2) (adF (nmF 6) (adF (nmF 5) (adF (nmF 9) (anilF))))))) (eW S P4 n es s q r t4 o4 (.d (.tuple (encL L))) .un .un) = some (false, eW S P4 n es s q r t4 o4 (.d (.tuple (encL L))) .un .un) := by
    have h := ts_of (call_dddd (w2 (S := S) (P := P4) (n := n) (es := es) (s := s) (q := q) (r := r) (t := t4) (o := o4) (d := .d (.tuple (encL L))) (b := .un) (a := .un)) w6 w5 w9 (burns_spec g bi hL))
    simp only [notF, h, Bool.not_true]
  obtain ⟨ρ, eb, P5, t5, o5, d5, b5, rfl⟩ := loop_b (S := S) (t := t4) (o := o4) (d := .d (.tuple (encL L))) (b := .un) (a := .un) g hq p4 k lt4 lo4 rfl rfl rfl
  refine ⟨[.un], ?_⟩
  simp [F_law, runF, f_law, seqS, s1, s2, s3, s4, s5, s6, ifS, t1, t2, nxS, ea, s9, t3, eb, retF, kF]
  simp [eW, backA]
end G

set_option Elab.async false
set_option linter.all false
set_option maxRecDepth 100000
open PySem PySem.W PyProof.Rows
set_option maxHeartbeats 0 in
theorem PySem.Challenge.cw_leastplus_k58_whole_reduced_stacks_holds : PySem.Challenge.rw_leastplus_k58_whole_reduced_stacks.Holds := by
  w_on; o_law; k_head; (case hw => w_witness2)
  k_fill
  refine L2.walk_ofB (l := PySem.Challenge.rw_leastplus_k58_whole_reduced_stacks) (n := 63) (k := 8) (x := "script") (CX := fun _ => L2.CX0) (sp := fun w => G.spLaw _ G.lawBits) rfl (by decide) rfl ⟨rfl, by decide, by decide⟩ (fun w h Y => PySem.W.kIn_of Y) ?F (fun _ _ a ns hl hb _ hS => ⟨a, ns, rfl, hS, hl, hb, fun _ => rfl⟩) (fun _ _ _ _ _ h => h)
  case F =>
    intro w mg fa h KX GX hmg
    refine' G.all_mk KX GX hmg rfl G.law_true ?z_abs ?z_bool ?z_enumerate ?z_int ?z_isinstance ?z_len ?z_list ?z_max ?z_min ?z_range ?z_sorted ?z_str ?z_sum ?z_tuple (G.isDef_mk ?a_fired ?l_fired ?c_fired ?k_fired) (G.isDef_mk ?a_edges_to ?l_edges_to ?c_edges_to ?k_edges_to) (G.isDef_mk ?a_burnt ?l_burnt ?c_burnt ?k_burnt) (G.isDef_mk ?a_burning ?l_burning ?c_burning ?k_burning) (G.isDef_mk ?a_layers ?l_layers ?c_layers ?k_layers) (G.isDef_mk ?a_reducing ?l_reducing ?c_reducing ?k_reducing) (G.isDef_mk ?a_reduced ?l_reduced ?c_reduced ?k_reduced) (G.isDef_mk ?a_are_equivalent ?l_are_equivalent ?c_are_equivalent ?k_are_equivalent) (G.isDef_mk ?a__law_same ?l__law_same ?c__law_same ?k__law_same) (G.isDef_mk ?a__law_is_integer ?l__law_is_integer ?c__law_is_integer ?k__law_is_integer) (G.isDef_mk ?a__law_pool ?l__law_pool ?c__law_pool ?k__law_pool) (G.isDef_mk ?a__law_spread ?l__law_spread ?c__law_spread ?k__law_spread) (G.isDef_mk ?a__law_draw ?l__law_draw ?c__law_draw ?k__law_draw) (G.isDef_mk ?a__law_graph ?l__law_graph ?c__law_graph ?k__law_graph) (G.isDef_mk ?a__law_fired ?l__law_fired ?c__law_fired ?k__law_fired) (G.isDef_mk ?a__law_out ?l__law_out ?c__law_out ?k__law_out) (G.isDef_mk ?a__law_reduced_for ?l__law_reduced_for ?c__law_reduced_for ?k__law_reduced_for) (G.isDef_mk ?a__law_burns ?l__law_burns ?c__law_burns ?k__law_burns) (G.isDef_mk ?a__law_stack ?l__law_stack ?c__law_stack ?k__law_stack) (G.isDef_mk ?a_law ?l_law ?c_law ?k_law)
    (case z_abs => k_is)
    (case z_bool => k_is)
    (case z_enumerate => k_is)
    (case z_int => k_is)
    (case z_isinstance => k_is)
    (case z_len => k_is)
    (case z_list => k_is)
    (case z_max => k_is)
    (case z_min => k_is)
    (case z_range => k_is)
    (case z_sorted => k_is)
    (case z_str => k_is)
    (case z_sum => k_is)
    (case z_tuple => k_is)
    (case a_fired => k_is); (case l_fired => k_is); (case c_fired => k_is); (case k_fired => k_is)
    (case a_edges_to => k_is); (case l_edges_to => k_is); (case c_edges_to => k_is); (case k_edges_to => k_is)
    (case a_burnt => k_is); (case l_burnt => k_is); (case c_burnt => k_is); (case k_burnt => k_is)
    (case a_burning => k_is); (case l_burning => k_is); (case c_burning => k_is); (case k_burning => k_is)
    (case a_layers => k_is); (case l_layers => k_is); (case c_layers => k_is); (case k_layers => k_is)
    (case a_reducing => k_is); (case l_reducing => k_is); (case c_reducing => k_is); (case k_reducing => k_is)
    (case a_reduced => k_is); (case l_reduced => k_is); (case c_reduced => k_is); (case k_reduced => k_is)
    (case a_are_equivalent => k_is); (case l_are_equivalent => k_is); (case c_are_equivalent => k_is); (case k_are_equivalent => k_is)
    (case a__law_same => k_is); (case l__law_same => k_is); (case c__law_same => k_is); (case k__law_same => k_is)
    (case a__law_is_integer => k_is); (case l__law_is_integer => k_is); (case c__law_is_integer => k_is); (case k__law_is_integer => k_is)
    (case a__law_pool => k_is); (case l__law_pool => k_is); (case c__law_pool => k_is); (case k__law_pool => k_is)
    (case a__law_spread => k_is); (case l__law_spread => k_is); (case c__law_spread => k_is); (case k__law_spread => k_is)
    (case a__law_draw => k_is); (case l__law_draw => k_is); (case c__law_draw => k_is); (case k__law_draw => k_is)
    (case a__law_graph => k_is); (case l__law_graph => k_is); (case c__law_graph => k_is); (case k__law_graph => k_is)
    (case a__law_fired => k_is); (case l__law_fired => k_is); (case c__law_fired => k_is); (case k__law_fired => k_is)
    (case a__law_out => k_is); (case l__law_out => k_is); (case c__law_out => k_is); (case k__law_out => k_is)
    (case a__law_reduced_for => k_is); (case l__law_reduced_for => k_is); (case c__law_reduced_for => k_is); (case k__law_reduced_for => k_is)
    (case a__law_burns => k_is); (case l__law_burns => k_is); (case c__law_burns => k_is); (case k__law_burns => k_is)
    (case a__law_stack => k_is); (case l__law_stack => k_is); (case c__law_stack => k_is); (case k__law_stack => k_is)
    (case a_law => k_is); (case l_law => k_is); (case c_law => k_is); (case k_law => k_is)

