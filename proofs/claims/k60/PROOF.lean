import PyProof.Rows.All
import Wide.All
import OpenK.AllK
import Wide.FinOn
import HandS.ForExc
import HandS.ForMost
import HandS.IsInst
import HandS.SortInts
import PyProof.Rows.SeqMore
import PyProof.ReprRoads
import HandS.SetFor
import HandS.Iter
import PySem.Challenge.RW_nobodywaits_k60_whole_chances_in_auditio
set_option Elab.async false
set_option linter.all false
set_option maxRecDepth 100000
set_option maxHeartbeats 4000000
/-! NW1: values as data, owned trees, the data state of a frame, big-step judgements over data. -/
namespace NW
open PySem PySem.Spec PyProof.Rows L2
/-! ### data in a heap -/
section
variable {K : PySem.W.Frag} {G G' H H' : Hp}
theorem sqT_mono {a : Addr} {xs : List V} (e : Same G G') (h : SqT K G a xs) : SqT K G' a xs := by
  rcases h with (h | ⟨o, h⟩) | h
  · exact .inl (.inl (e _ _ h))
  · exact .inl (.inr ⟨o, e _ _ h⟩)
  · exact .inr h
mutual
theorem Dp_mono (e : Same G G') : ∀ (d : PyData) (v : V), Dp K G v d → Dp K G' v d
  | .none, _, h => by cases h; exact .non
  | .bool b, _, h => by cases h; exact .bl b
  | .int i, _, h => by cases h; exact .int i
  | .str x, _, h => by cases h; exact .str x
  | .list ds, _, h => by
    cases h with
    | lst hs ha => exact .lst (e.seq hs) (DpAll_mono e ds _ ha)
  | .tuple ds, _, h => by
    cases h with
    | tup hs ha => exact .tup (sqT_mono e hs) (DpAll_mono e ds _ ha)
  | .dict _, _, h => by cases h
theorem DpAll_mono (e : Same G G') : ∀ (ds : List PyData) (vs : List V), DpAll K G vs ds → DpAll K G' vs ds
  | [], _, h => by cases h; exact .nil
  | d :: ds, _, h => by
    cases h with
    | cons h1 h2 => exact .cons (Dp_mono e d _ h1) (DpAll_mono e ds _ h2)
end
end
/-- scalars stand in no heap -/
def scalarD : PyData → Bool
  | .none => true | .bool _ => true | .int _ => true | .str _ => true | _ => false
end NW
namespace L2
open PySem PySem.Spec PyProof.Rows
section
variable {K : PySem.W.Frag} {G G' H H' : Hp}
theorem Dp.mono {v : V} {d : PyData} (h : Dp K G v d) (e : Same G G') : Dp K G' v d := NW.Dp_mono e d v h
theorem DpAll.mono {vs : List V} {ds : List PyData} (h : DpAll K G vs ds) (e : Same G G') : DpAll K G' vs ds := NW.DpAll_mono e ds vs h
theorem DpAll.length : ∀ {vs : List V} {ds : List PyData}, DpAll K G vs ds → vs.length = ds.length
  | _, [], h => by cases h; rfl
  | _, d :: ds, h => by
    cases h with
    | cons h1 h2 => rw [List.length_cons, List.length_cons, DpAll.length h2]
theorem DpAll.get : ∀ {vs : List V} {ds : List PyData} {i : Nat} {d : PyData}, DpAll K G vs ds → ds[i]? = some d → ∃ v, vs[i]? = some v ∧ Dp K G v d
  | _, [], _, _, _, e => by simp at e
  | _, d :: ds, 0, _, h, e => by
    cases h with
    | cons h1 h2 => simp at e; subst e; exact ⟨_, rfl, h1⟩
  | _, d :: ds, i + 1, _, h, e => by
    cases h with
    | cons h1 h2 =>
      obtain ⟨v, q1, q2⟩ := DpAll.get (i := i) h2 (by simpa using e)
      exact ⟨v, by simpa using q1, q2⟩
theorem DpAll.append : ∀ {vs ws : List V} {ds es : List PyData}, DpAll K G vs ds → DpAll K G ws es → DpAll K G (vs ++ ws) (ds ++ es)
  | _, _, [], _, h, h' => by cases h; exact h'
  | _, _, d :: ds, _, h, h' => by
    cases h with
    | cons h1 h2 => exact .cons h1 (DpAll.append h2 h')
theorem DpAll.of_get : ∀ {vs : List V} {ds : List PyData}, vs.length = ds.length → (∀ (i : Nat) v d, vs[i]? = some v → ds[i]? = some d → Dp K G v d) → DpAll K G vs ds
  | [], [], _, _ => .nil
  | v :: vs, d :: ds, hl, h => .cons (h 0 v d rfl rfl) (DpAll.of_get (by simpa using hl) fun i v' d' e1 e2 => h (i + 1) v' d' (by simpa using e1) (by simpa using e2))
  | [], _ :: _, hl, _ => by simp at hl
  | _ :: _, [], hl, _ => by simp at hl
theorem Dp.scalar {v : V} {d : PyData} (h : Dp K G v d) (hs : NW.scalarD d = true) : Dp K G' v d := by
  cases h with
  | non => exact .non
  | bl b => exact .bl b
  | int i => exact .int i
  | str x => exact .str x
  | lst _ _ => cases hs
  | tup _ _ => cases hs
theorem Dp.int_eq {v : V} {i : Int} (h : Dp K G v (.int i)) : v = .int i := by cases h; rfl
theorem Dp.bl_eq {v : V} {b : Bool} (h : Dp K G v (.bool b)) : v = .bl b := by cases h; rfl
theorem Dp.str_eq {v : V} {x : Str} (h : Dp K G v (.str x)) : v = .str x := by cases h; rfl
theorem Dp.non_eq {v : V} (h : Dp K G v .none) : v = .non := by cases h; rfl
theorem Dp.lst_eq {v : V} {ds : List PyData} (h : Dp K G v (.list ds)) : ∃ a xs, v = .ref a ∧ SqL K G a xs ∧ DpAll K G xs ds := by
  cases h with
  | lst a b => exact ⟨_, _, rfl, a, b⟩
theorem Dp.tup_eq {v : V} {ds : List PyData} (h : Dp K G v (.tuple ds)) : ∃ a xs, v = .ref a ∧ SqT K G a xs ∧ DpAll K G xs ds := by
  cases h with
  | tup a b => exact ⟨_, _, rfl, a, b⟩
end
end L2
namespace NW
open PySem PySem.Spec PyProof.Rows L2
/-! ### owned trees: lists (and tuples) that the frame alone holds, down to frozen data -/
inductive OD where
  | fz (d : PyData)
  | ls (ts : List OD)
  | tp (ts : List OD)
  /-- a list that lives at a told address -/
  | la (b : Addr) (ts : List OD)
  /-- (as a slot's cell alone) another name of the object at b -/
  | at (b : Addr)
mutual
def OD.data : OD → PyData
  | .fz d => d
  | .ls ts => .list (OD.datas ts)
  | .tp ts => .tuple (OD.datas ts)
  | .la _ ts => .list (OD.datas ts)
  | .at _ => .none
def OD.datas : List OD → List PyData
  | [] => []
  | t :: ts => OD.data t :: OD.datas ts
end
mutual
/-- the frozen leaves are scalars -/
def OD.flat : OD → Bool
  | .fz d => scalarD d
  | .ls ts => OD.flats ts
  | .tp ts => OD.flats ts
  | .la _ ts => OD.flats ts
  | .at _ => false
def OD.flats : List OD → Bool
  | [] => true
  | t :: ts => OD.flat t && OD.flats ts
end
theorem datas_map (ts : List OD) : OD.datas ts = ts.map OD.data := by
  induction ts with
  | nil => simp [OD.datas]
  | cons t ts ih => simp [OD.datas, ih]
theorem datas_fz (ds : List PyData) : OD.datas (ds.map .fz) = ds := by
  induction ds with
  | nil => simp [OD.datas]
  | cons t ts ih => simp [OD.datas, OD.data, ih]
/-- the owner of an address: the path of the node that lives there (its index first, the root's name last) -/
abbrev Ow := Addr → Option (List Nat)
mutual
inductive OAt (K : PySem.W.Frag) (G H : Hp) (ow : Ow) : List Nat → V → OD → Prop
  | fz {π : List Nat} {v : V} {d : PyData} : Dp K G v d → OAt K G H ow π v (.fz d)
  | ls {π : List Nat} {a : Addr} {vs : List V} {ts : List OD} : ow a = some π → H a = some (.lst vs) → OAll K G H ow π 0 vs ts → OAt K G H ow π (.ref a) (.ls ts)
  | tp {π : List Nat} {a : Addr} {vs : List V} {ts : List OD} : ow a = some π → H a = some (.tup vs) → OAll K G H ow π 0 vs ts → OAt K G H ow π (.ref a) (.tp ts)
  | la {π : List Nat} {a : Addr} {vs : List V} {ts : List OD} : ow a = some π → H a = some (.lst vs) → OAll K G H ow π 0 vs ts → OAt K G H ow π (.ref a) (.la a ts)
inductive OAll (K : PySem.W.Frag) (G H : Hp) (ow : Ow) : List Nat → Nat → List V → List OD → Prop
  | nil {π : List Nat} {k : Nat} : OAll K G H ow π k [] []
  | cons {π : List Nat} {k : Nat} {v : V} {vs : List V} {t : OD} {ts : List OD} : OAt K G H ow (k :: π) v t → OAll K G H ow π (k + 1) vs ts → OAll K G H ow π k (v :: vs) (t :: ts)
end
section
variable {K : PySem.W.Frag} {G G' H H' : Hp} {ow ow' : Ow}
-- the general move of an owned tree: its frozen part grows, its addresses are renamed by f and keep their objects
mutual
theorem OAt_move (f : List Nat → List Nat) (hf : ∀ k π, f (k :: π) = k :: f π) (e : Same G G') (hH : ∀ a π o, ow a = some π → H a = some o → H' a = some o) (ho : ∀ a π, ow a = some π → ow' a = some (f π)) :
    ∀ (t : OD) (π : List Nat) (v : V), OAt K G H ow π v t → OAt K G' H' ow' (f π) v t
  | .fz d, _, _, h => by
    cases h with
    | fz h => exact .fz (h.mono e)
  | .ls ts, π, _, h => by
    cases h with
    | ls h1 h2 h3 => exact .ls (ho _ _ h1) (hH _ _ _ h1 h2) (OAll_move f hf e hH ho ts π 0 _ h3)
  | .tp ts, π, _, h => by
    cases h with
    | tp h1 h2 h3 => exact .tp (ho _ _ h1) (hH _ _ _ h1 h2) (OAll_move f hf e hH ho ts π 0 _ h3)
  | .la b ts, π, _, h => by
    cases h with
    | la h1 h2 h3 => exact .la (ho _ _ h1) (hH _ _ _ h1 h2) (OAll_move f hf e hH ho ts π 0 _ h3)
  | .at b, _, _, h => by cases h
theorem OAll_move (f : List Nat → List Nat) (hf : ∀ k π, f (k :: π) = k :: f π) (e : Same G G') (hH : ∀ a π o, ow a = some π → H a = some o → H' a = some o) (ho : ∀ a π, ow a = some π → ow' a = some (f π)) :
    ∀ (ts : List OD) (π : List Nat) (k : Nat) (vs : List V), OAll K G H ow π k vs ts → OAll K G' H' ow' (f π) k vs ts
  | [], _, _, _, h => by cases h; exact .nil
  | t :: ts, π, k, _, h => by
    cases h with
    | cons h1 h2 =>
      refine .cons ?_ (OAll_move f hf e hH ho ts π (k + 1) _ h2)
      rw [← hf]
      exact OAt_move f hf e hH ho t (k :: π) _ h1
end
-- below a path: only addresses whose path ends with it matter
mutual
theorem OAt_under (s : List Nat) (e : Same G G') (hH : ∀ a π o, ow a = some π → s <:+ π → H a = some o → H' a = some o ∧ ow' a = some π) :
    ∀ (t : OD) (π : List Nat) (v : V), s <:+ π → OAt K G H ow π v t → OAt K G' H' ow' π v t
  | .fz d, _, _, _, h => by
    cases h with
    | fz h => exact .fz (h.mono e)
  | .ls ts, π, _, hs, h => by
    cases h with
    | ls h1 h2 h3 => exact .ls (hH _ _ _ h1 hs h2).2 (hH _ _ _ h1 hs h2).1 (OAll_under s e hH ts π 0 _ hs h3)
  | .tp ts, π, _, hs, h => by
    cases h with
    | tp h1 h2 h3 => exact .tp (hH _ _ _ h1 hs h2).2 (hH _ _ _ h1 hs h2).1 (OAll_under s e hH ts π 0 _ hs h3)
  | .la b ts, π, _, hs, h => by
    cases h with
    | la h1 h2 h3 => exact .la (hH _ _ _ h1 hs h2).2 (hH _ _ _ h1 hs h2).1 (OAll_under s e hH ts π 0 _ hs h3)
  | .at b, _, _, _, h => by cases h
theorem OAll_under (s : List Nat) (e : Same G G') (hH : ∀ a π o, ow a = some π → s <:+ π → H a = some o → H' a = some o ∧ ow' a = some π) :
    ∀ (ts : List OD) (π : List Nat) (k : Nat) (vs : List V), s <:+ π → OAll K G H ow π k vs ts → OAll K G' H' ow' π k vs ts
  | [], _, _, _, _, h => by cases h; exact .nil
  | t :: ts, π, k, _, hs, h => by
    cases h with
    | cons h1 h2 => exact .cons (OAt_under s e hH t (k :: π) _ (hs.trans (List.suffix_cons k π)) h1) (OAll_under s e hH ts π (k + 1) _ hs h2)
end
theorem OAll.length : ∀ {ts : List OD} {π : List Nat} {k : Nat} {vs : List V}, OAll K G H ow π k vs ts → vs.length = ts.length
  | [], _, _, _, h => by cases h; rfl
  | t :: ts, _, _, _, h => by
    cases h with
    | cons h1 h2 => rw [List.length_cons, List.length_cons, OAll.length h2]
theorem OAll.append : ∀ {ts us : List OD} {π : List Nat} {k : Nat} {vs ws : List V}, OAll K G H ow π k vs ts → OAll K G H ow π (k + ts.length) ws us → OAll K G H ow π k (vs ++ ws) (ts ++ us)
  | [], _, _, _, _, _, h, h' => by cases h; exact h'
  | t :: ts, us, π, k, _, ws, h, h' => by
    cases h with
    | cons h1 h2 =>
      refine .cons h1 (OAll.append h2 ?_)
      rw [List.length_cons] at h'
      rw [show k + 1 + ts.length = k + (ts.length + 1) by omega]
      exact h'
theorem OAll.get : ∀ {ts : List OD} {π : List Nat} {k : Nat} {vs : List V} {i : Nat} {t : OD}, OAll K G H ow π k vs ts → ts[i]? = some t → ∃ v, vs[i]? = some v ∧ OAt K G H ow ((k + i) :: π) v t
  | [], _, _, _, _, _, _, e => by simp at e
  | t :: ts, π, k, _, 0, _, h, e => by
    cases h with
    | cons h1 h2 => simp at e; subst e; exact ⟨_, rfl, h1⟩
  | t :: ts, π, k, _, i + 1, _, h, e => by
    cases h with
    | cons h1 h2 =>
      obtain ⟨v, q1, q2⟩ := OAll.get (i := i) h2 (by simpa using e)
      refine ⟨v, by simpa using q1, ?_⟩
      rw [show k + (i + 1) = k + 1 + i by omega]
      exact q2
theorem OAll.set : ∀ {ts : List OD} {π : List Nat} {k : Nat} {vs : List V} {i : Nat} {v : V} {t : OD}, OAll K G H ow π k vs ts → OAt K G H ow ((k + i) :: π) v t → OAll K G H ow π k (vs.set i v) (ts.set i t)
  | [], _, _, _, _, _, _, h, _ => by cases h; exact .nil
  | u :: ts, π, k, _, 0, _, _, h, h' => by
    cases h with
    | cons h1 h2 => exact .cons h' h2
  | u :: ts, π, k, _, i + 1, _, _, h, h' => by
    cases h with
    | cons h1 h2 =>
      refine .cons h1 (OAll.set (i := i) h2 ?_)
      rw [show k + 1 + i = k + (i + 1) by omega]
      exact h'
/-- frozen items -/
theorem OAll.of_fz : ∀ {ds : List PyData} {π : List Nat} {k : Nat} {vs : List V}, DpAll K G vs ds → OAll K G H ow π k vs (ds.map .fz)
  | [], _, _, _, h => by cases h; exact .nil
  | d :: ds, _, _, _, h => by
    cases h with
    | cons h1 h2 => exact .cons (.fz h1) (OAll.of_fz h2)
theorem OAll.to_fz : ∀ {ds : List PyData} {π : List Nat} {k : Nat} {vs : List V}, OAll K G H ow π k vs (ds.map .fz) → DpAll K G vs ds
  | [], _, _, _, h => by cases h; exact .nil
  | d :: ds, _, _, _, h => by
    cases h with
    | cons h1 h2 =>
      cases h1 with
      | fz h1 => exact .cons h1 (OAll.to_fz h2)
/-- all that is owned, laid to the frozen part -/
def allFz (G H : Hp) (ow : Ow) : Hp := fun a => if (ow a).isSome then H a else G a
theorem allFz_same (h : ∀ a π, ow a = some π → G a = none) : Same G (allFz G H ow) := fun a o e => by
  unfold allFz
  cases q : ow a with
  | none => exact e
  | some π => rw [h a π q] at e; cases e
theorem allFz_sub (e : Same G H) : Same (allFz G H ow) H := fun a o q => by
  unfold allFz at q
  split at q
  · exact q
  · exact e a o q
mutual
theorem OAt_freeze (h : ∀ a π, ow a = some π → G a = none) : ∀ (t : OD) (π : List Nat) (v : V), OAt K G H ow π v t → Dp K (allFz G H ow) v t.data
  | .fz d, _, _, q => by
    cases q with
    | fz q => exact q.mono (allFz_same h)
  | .ls ts, _, _, q => by
    cases q with
    | ls h1 h2 h3 =>
      simp only [OD.data]
      refine .lst (SqL.of (xs := _) ?_) (OAll_freeze h ts _ _ _ h3)
      unfold allFz
      rw [h1]
      exact h2
  | .tp ts, _, _, q => by
    cases q with
    | tp h1 h2 h3 =>
      simp only [OD.data]
      refine .tup (SqT.of (xs := _) ?_) (OAll_freeze h ts _ _ _ h3)
      unfold allFz
      rw [h1]
      exact h2
  | .la b ts, _, _, q => by
    cases q with
    | la h1 h2 h3 =>
      simp only [OD.data]
      refine .lst (SqL.of (xs := _) ?_) (OAll_freeze h ts _ _ _ h3)
      unfold allFz
      rw [h1]
      exact h2
  | .at b, _, _, q => by cases q
theorem OAll_freeze (h : ∀ a π, ow a = some π → G a = none) : ∀ (ts : List OD) (π : List Nat) (k : Nat) (vs : List V), OAll K G H ow π k vs ts → DpAll K (allFz G H ow) vs (OD.datas ts)
  | [], _, _, _, q => by cases q; exact .nil
  | t :: ts, _, _, _, q => by
    cases q with
    | cons h1 h2 =>
      simp only [OD.datas]
      exact .cons (OAt_freeze h t _ _ h1) (OAll_freeze h ts _ _ _ h2)
end
-- a flat tree leans on no frozen part
mutual
theorem OAt_flat : ∀ (t : OD) (π : List Nat) (v : V), t.flat = true → OAt K G H ow π v t → OAt K G' H ow π v t
  | .fz d, _, _, hs, h => by
    cases h with
    | fz h => exact .fz (h.scalar (by simpa [OD.flat] using hs))
  | .ls ts, π, _, hs, h => by
    cases h with
    | ls h1 h2 h3 => exact .ls h1 h2 (OAll_flat ts π 0 _ (by simpa [OD.flat] using hs) h3)
  | .tp ts, π, _, hs, h => by
    cases h with
    | tp h1 h2 h3 => exact .tp h1 h2 (OAll_flat ts π 0 _ (by simpa [OD.flat] using hs) h3)
  | .la b ts, π, _, hs, h => by
    cases h with
    | la h1 h2 h3 => exact .la h1 h2 (OAll_flat ts π 0 _ (by simpa [OD.flat] using hs) h3)
  | .at b, _, _, _, h => by cases h
theorem OAll_flat : ∀ (ts : List OD) (π : List Nat) (k : Nat) (vs : List V), OD.flats ts = true → OAll K G H ow π k vs ts → OAll K G' H ow π k vs ts
  | [], _, _, _, _, h => by cases h; exact .nil
  | t :: ts, π, k, _, hs, h => by
    simp only [OD.flats, Bool.and_eq_true] at hs
    cases h with
    | cons h1 h2 => exact .cons (OAt_flat t _ _ hs.1 h1) (OAll_flat ts π (k + 1) _ hs.2 h2)
end
end
end NW
namespace NW
open PySem PySem.Spec L2
open PyProof.Rows hiding St
/-! ### steps of the two heaps: the frozen view G, all H -/
structure Step (G H G' H' : Hp) : Prop where
  g : Same G G'
  h : Same H H'
  gh : Same G' H'
  nw : ∀ a, G' a ≠ none → G a = none → H a = none
theorem Step.refl {G H : Hp} (e : Same G H) : Step G H G H := ⟨Same.refl _, Same.refl _, e, fun _ h h' => absurd h' h⟩
theorem Step.trans {G H G1 H1 G2 H2 : Hp} (a : Step G H G1 H1) (b : Step G1 H1 G2 H2) : Step G H G2 H2 :=
  ⟨a.g.trans b.g, a.h.trans b.h, b.gh, fun x h h' => by
    by_cases q : G1 x = none
    · exact a.h.free (b.nw x h q)
    · exact a.nw x q h'⟩
/-- addresses that were free at H -/
def OwN (G' H H' : Hp) (ow : Ow) : Prop := ∀ a π, ow a = some π → H a = none ∧ G' a = none ∧ H' a ≠ none
def ow0 : Ow := fun _ => none
theorem owN0 {G' H H' : Hp} : OwN G' H H' ow0 := fun _ _ e => by cases e
theorem Step.freeze {G H G' H' : Hp} {ow : Ow} (s : Step G H G' H') (n : OwN G' H H' ow) : Step G H (allFz G' H' ow) H' :=
  ⟨s.g.trans (allFz_same fun a π e => (n a π e).2.1), s.h, allFz_sub s.gh, fun a h h' => by
    unfold allFz at h
    cases q : ow a with
    | none =>
      rw [q] at h
      exact s.nw a h h'
    | some π => exact (n a π q).1⟩
/-- what a caller wants of the value t -/
def Fin (K : PySem.W.Frag) (G H : Hp) (t : OD) (Q : VK) : Prop :=
  ∀ v G' H' ow, Step G H G' H' → OwN G' H H' ow → OAt K G' H' ow [] v t → Q v H'
section
variable {K : PySem.W.Frag} {G H G1 H1 : Hp} {t : OD} {Q : VK}
theorem Fin.step (f : Fin K G H t Q) (s : Step G H G1 H1) : Fin K G1 H1 t Q := fun v G' H' ow s' n o =>
  f v G' H' ow (s.trans s') (fun a π e => ⟨s.h.free (n a π e).1, (n a π e).2.1, (n a π e).2.2⟩) o
theorem Fin.fz {d : PyData} {v : V} (f : Fin K G H (.fz d) Q) (e : Same G H) (h : Dp K G v d) : Q v H := f v G H ow0 (Step.refl e) owN0 (.fz h)
theorem Fin.fz' {d : PyData} {v : V} {G' H' : Hp} (f : Fin K G H (.fz d) Q) (e : Step G H G' H') (h : Dp K G' v d) : Q v H' := f v G' H' ow0 e owN0 (.fz h)
/-- a new list of frozen items -/
theorem Fin.newL {ds : List PyData} {vs : List V} {p : Addr} (f : Fin K G H (.ls (ds.map .fz)) Q) (e : Same G H) (hp : H p = none) (h : DpAll K G vs ds) : Q (.ref p) (upd H p (.lst vs)) := by
  refine f _ G _ (fun a => if a = p then some [] else none) ⟨Same.refl _, fun b o q => ?_, fun b o q => ?_, fun _ a b => absurd b a⟩ (fun a π q => ?_) (.ls (if_pos rfl) upd_same (OAll.of_fz h))
  · rw [upd_ne (ne_of_none q hp)]; exact q
  · rw [upd_ne (ne_of_none (e _ _ q) hp)]; exact e _ _ q
  · by_cases z : a = p
    · subst z
      refine ⟨hp, e.free hp, ?_⟩
      rw [upd_same]
      exact fun z => nomatch z
    · dsimp only at q
      rw [if_neg z] at q; cases q
/-- a new tuple of frozen items -/
theorem Fin.newT {ds : List PyData} {vs : List V} {p : Addr} (f : Fin K G H (.fz (.tuple ds)) Q) (e : Same G H) (hp : H p = none) (h : DpAll K G vs ds) : Q (.ref p) (upd H p (.tup vs)) := by
  have s1 : Same G (upd G p (.tup vs)) := fun b o q => by
    rw [upd_ne (ne_of_none (e _ _ q) hp)]; exact q
  refine f.fz' (G' := upd G p (.tup vs)) ⟨s1, fun b o q => ?_, fun b o q => ?_, fun a h h' => ?_⟩ (.tup (SqT.of upd_same) (h.mono s1))
  · rw [upd_ne (ne_of_none q hp)]; exact q
  · by_cases z : b = p
    · subst z; rw [upd_same] at q ⊢; exact q
    · rw [upd_ne z] at q ⊢; exact e _ _ q
  · by_cases z : a = p
    · subst z; exact hp
    · rw [upd_ne z] at h; exact absurd h' h
end
/-! ### the frame's slots as data -/
abbrev Rho := List (Option OD)
/-- what a slot's cell says of its value -/
inductive Cel (K : PySem.W.Frag) (G H : Hp) (ow : Ow) (π : List Nat) : V → OD → Prop
  | nom (b : Addr) : Cel K G H ow π (.ref b) (.at b)
  | of {v : V} {t : OD} : OAt K G H ow π v t → Cel K G H ow π v t
def OD.isAt : OD → Bool
  | .at _ => true
  | _ => false
theorem Cel.to {K : PySem.W.Frag} {G H : Hp} {ow : Ow} {π : List Nat} {v : V} {t : OD} (o : Cel K G H ow π v t) (h : t.isAt = false) : OAt K G H ow π v t := by
  cases o with
  | nom b => cases h
  | of o => exact o
theorem Cel.ref {K : PySem.W.Frag} {G H : Hp} {ow : Ow} {π : List Nat} {v : V} {b : Addr} (o : Cel K G H ow π v (.at b)) : v = .ref b := by
  cases o with
  | nom b => rfl
  | of o => cases o
theorem Cel.map {K : PySem.W.Frag} {G H G' H' : Hp} {ow ow' : Ow} {π : List Nat} {v : V} {t : OD} (o : Cel K G H ow π v t) (f : OAt K G H ow π v t → OAt K G' H' ow' π v t) : Cel K G' H' ow' π v t := by
  cases o with
  | nom b => exact .nom b
  | of o => exact .of (f o)
structure Sl (K : PySem.W.Frag) (G H : Hp) (σ : St) (ρ : Rho) : Prop where
  gh : Same G H
  len : ρ.length = σ.length
  own : ∃ ow : Ow, (∀ a π, ow a = some π → G a = none ∧ H a ≠ none) ∧ ∀ (i : Nat) t, ρ[i]? = some (some t) → ∃ v, σ[i]? = some (some v) ∧ Cel K G H ow [i] v t
structure Env (K : PySem.W.Frag) (G0 H0 G H : Hp) (σ : St) (ρ : Rho) : Prop where
  st : Step G0 H0 G H
  len : ρ.length = σ.length
  own : ∃ ow : Ow, (∀ a π, ow a = some π → H0 a = none ∧ G a = none ∧ H a ≠ none) ∧ ∀ (i : Nat) t, ρ[i]? = some (some t) → ∃ v, σ[i]? = some (some v) ∧ Cel K G H ow [i] v t
def OD.frz (t : OD) : OD := .fz t.data
def OD.frzC : OD → Option OD
  | .at _ => none
  | .fz d => some (.fz d)
  | .ls ts => some (OD.frz (.ls ts))
  | .tp ts => some (OD.frz (.tp ts))
  | .la b ts => some (OD.frz (.la b ts))
def frzAll (ρ : Rho) : Rho := ρ.map (·.bind OD.frzC)
theorem frzC_some {t u : OD} (h : t.frzC = some u) : t.isAt = false ∧ u = t.frz := by
  cases t with
  | «at» b => cases h
  | fz d => cases h; exact ⟨rfl, by simp only [OD.frz, OD.data]⟩
  | ls ts => cases h; exact ⟨rfl, rfl⟩
  | tp ts => cases h; exact ⟨rfl, rfl⟩
  | la b ts => cases h; exact ⟨rfl, rfl⟩
section
variable {K : PySem.W.Frag} {G0 H0 G H G' H' : Hp} {σ : St} {ρ : Rho}
theorem Env.sl (e : Env K G0 H0 G H σ ρ) : Sl K G H σ ρ :=
  ⟨e.st.gh, e.len, let ⟨ow, h1, h2⟩ := e.own; ⟨ow, fun a π q => (h1 a π q).2, h2⟩⟩
theorem ow_keep {ow : Ow} (s : Step G H G' H') (h : ∀ a π, ow a = some π → G a = none ∧ H a ≠ none) : ∀ a π, ow a = some π → G' a = none ∧ H' a ≠ none := fun a π q => by
  obtain ⟨h1, h2⟩ := h a π q
  refine ⟨?_, fun z => h2 (s.h.free z)⟩
  by_cases z : G' a = none
  · exact z
  · exact absurd (s.nw a z h1) h2
theorem OAt.step {ow : Ow} {π : List Nat} {v : V} {t : OD} (s : Step G H G' H') (o : OAt K G H ow π v t) : OAt K G' H' ow π v t :=
  OAt_under [] s.g (fun _ _ _ e _ q => ⟨s.h _ _ q, e⟩) t π v (List.nil_suffix) o
theorem Sl.step (e : Sl K G H σ ρ) (s : Step G H G' H') : Sl K G' H' σ ρ :=
  ⟨s.gh, e.len, let ⟨ow, h1, h2⟩ := e.own; ⟨ow, ow_keep s h1, fun i t q => let ⟨v, q1, q2⟩ := h2 i t q; ⟨v, q1, q2.map (·.step s)⟩⟩⟩
theorem Env.step (e : Env K G0 H0 G H σ ρ) (s : Step G H G' H') : Env K G0 H0 G' H' σ ρ :=
  ⟨e.st.trans s, e.len, let ⟨ow, h1, h2⟩ := e.own; ⟨ow, fun a π q => ⟨(h1 a π q).1, ow_keep s (fun a π q => (h1 a π q).2) a π q⟩, fun i t q => let ⟨v, q1, q2⟩ := h2 i t q; ⟨v, q1, q2.map (·.step s)⟩⟩⟩
theorem frzAll_get {i : Nat} {t : OD} (h : (frzAll ρ)[i]? = some (some t)) : ∃ u, ρ[i]? = some (some u) ∧ u.isAt = false ∧ t = u.frz := by
  unfold frzAll at h
  rw [List.getElem?_map] at h
  cases q : ρ[i]? with
  | none => rw [q] at h; cases h
  | some o =>
    cases o with
    | none => rw [q] at h; cases h
    | some u =>
      rw [q] at h
      have h' : u.frzC = some t := Option.some.inj h
      exact ⟨u, rfl, (frzC_some h').1, (frzC_some h').2⟩
/-- all is frozen for a while -/
theorem Sl.frozen (e : Sl K G H σ ρ) : ∃ G1, Same G G1 ∧ Sl K G1 H σ (frzAll ρ) := by
  obtain ⟨ow, h1, h2⟩ := e.own
  have hn : ∀ a π, ow a = some π → G a = none := fun a π q => (h1 a π q).1
  refine ⟨allFz G H ow, allFz_same hn, allFz_sub e.gh, by unfold frzAll; rw [List.length_map]; exact e.len, ow0, fun _ _ q => (by cases q), fun i t q => ?_⟩
  obtain ⟨u, q1, q0, rfl⟩ := frzAll_get q
  obtain ⟨v, q2, q3⟩ := h2 i u q1
  exact ⟨v, q2, .of (.fz (OAt_freeze hn u [i] v (q3.to q0)))⟩
/-- the slots that are not of use are forgotten -/
def Le (ρ' ρ : Rho) : Prop := ρ'.length = ρ.length ∧ ∀ (i : Nat) t, ρ'[i]? = some (some t) → ρ[i]? = some (some t)
theorem Le.refl (ρ : Rho) : Le ρ ρ := ⟨rfl, fun _ _ h => h⟩
theorem Le.nil : Le [] [] := ⟨rfl, fun _ _ h => h⟩
theorem Le.cons {o : Option OD} {ρ' ρ : Rho} (h : Le ρ' ρ) : Le (o :: ρ') (o :: ρ) := ⟨by simp [h.1], fun i t e => by
  cases i with
  | zero => simpa using e
  | succ i => simpa using h.2 i t (by simpa using e)⟩
theorem Le.skip {o : Option OD} {ρ' ρ : Rho} (h : Le ρ' ρ) : Le (none :: ρ') (o :: ρ) := ⟨by simp [h.1], fun i t e => by
  cases i with
  | zero => simp at e
  | succ i => simpa using h.2 i t (by simpa using e)⟩
theorem Env.le {ρ' : Rho} (e : Env K G0 H0 G H σ ρ) (l : Le ρ' ρ) : Env K G0 H0 G H σ ρ' :=
  ⟨e.st, l.1.trans e.len, let ⟨ow, h1, h2⟩ := e.own; ⟨ow, h1, fun i t q => h2 i t (l.2 i t q)⟩⟩
theorem Sl.le {ρ' : Rho} (e : Sl K G H σ ρ) (l : Le ρ' ρ) : Sl K G H σ ρ' :=
  ⟨e.gh, l.1.trans e.len, let ⟨ow, h1, h2⟩ := e.own; ⟨ow, h1, fun i t q => h2 i t (l.2 i t q)⟩⟩
end
/-! ### the widest readings -/
section
variable (X : Cx)
def wpE (e : Expr) : TE := fun σ H Q => ∀ pins s, Inv X pins σ H s → wpAny (model X.prog X.w) X.A (eval e X.env) (EP X pins σ Q) X.xe s
def wpT (e : Expr) : TT := fun σ H Q => ∀ pins s, Inv X pins σ H s → wpAny (model X.prog X.w) X.A (isTrue e X.env (eval e X.env)) (TP X pins σ Q) X.xe s
def wpA (es : List Expr) : TA := fun σ H Q => ∀ pos pins s, Inv X pins σ H s → wpAny (model X.prog X.w) X.A (spliced (backTo pos (starEach es X.env))) (AP X pins σ Q) X.xe s
def wpS (st : Stmt) : TS := fun D σ H => ∀ pins s, Inv X pins σ H s → wpAny (model X.prog X.w) X.A (exec st X.env) (SP X pins D) X.xe s
def wpSs (st : List Stmt) : TS := fun D σ H => ∀ pins s, Inv X pins σ H s → wpAny (model X.prog X.w) X.A (execs st X.env) (SP X pins D) X.xe s
def wpI (tg e : Expr) : TI := fun σ H R => ∀ pins s, Inv X pins σ H s → wpAny (model X.prog X.w) X.A (eval e X.env) (fun v s1 => wpAny (model X.prog X.w) X.A (pyIter v) (PIE X pins σ tg R) X.xe s1) X.xe s
end
section
variable {X : Cx} {e tg : Expr} {es : List Expr} {st : Stmt} {sts : List Stmt}
theorem pe_wp : PE X e (wpE X e) := ⟨fun pins s _ _ _ I h => h pins s I⟩
theorem pt_wp : PT X e (wpT X e) := ⟨fun pins s _ _ _ I h => h pins s I⟩
theorem pa_wp : PA X es (wpA X es) := ⟨fun pos pins s _ _ _ I h => h pos pins s I⟩
theorem ps_wp : PS X st (wpS X st) := ⟨fun pins s _ _ _ I h => h pins s I⟩
theorem pss_wp : PSs X sts (wpSs X sts) := ⟨fun pins s _ _ _ I h => h pins s I⟩
theorem pi_wp : PI X tg e (wpI X tg e) := ⟨fun pins s _ _ _ I h => h pins s I⟩
theorem toE {t : TE} {σ : St} {H : Hp} {Q : VK} (h : PE X e t) (q : t σ H Q) : wpE X e σ H Q := fun pins s I => h.run pins s σ H Q I q
theorem toT {t : TT} {σ : St} {H : Hp} {Q : Bool → Hp → Prop} (h : PT X e t) (q : t σ H Q) : wpT X e σ H Q := fun pins s I => h.run pins s σ H Q I q
theorem toA {t : TA} {σ : St} {H : Hp} {Q : List V → Hp → Prop} (h : PA X es t) (q : t σ H Q) : wpA X es σ H Q := fun pos pins s I => h.run pos pins s σ H Q I q
theorem toS {t : TS} {σ : St} {H : Hp} {D : Ends} (h : PS X st t) (q : t D σ H) : wpS X st D σ H := fun pins s I => h.run pins s σ H D I q
theorem toSs {t : TS} {σ : St} {H : Hp} {D : Ends} (h : PSs X sts t) (q : t D σ H) : wpSs X sts D σ H := fun pins s I => h.run pins s σ H D I q
theorem toI {t : TI} {σ : St} {H : Hp} {R : It → Hp → Prop} (h : PI X tg e t) (q : t σ H R) : wpI X tg e σ H R := fun pins s I => h.run pins s σ H R I q
theorem mono_wpE {σ : St} {H : Hp} {Q Q' : VK} (h : wpE X e σ H Q) (hq : ∀ v H', Q v H' → Q' v H') : wpE X e σ H Q' := fun pins s I =>
  wpAny_mono (h pins s I) (fun _ _ ⟨v, H', I', r, q⟩ => ⟨v, H', I', r, hq v H' q⟩) fun _ _ z => z
theorem mono_wpT {σ : St} {H : Hp} {Q Q' : Bool → Hp → Prop} (h : wpT X e σ H Q) (hq : ∀ v H', Q v H' → Q' v H') : wpT X e σ H Q' := fun pins s I =>
  wpAny_mono (h pins s I) (fun _ _ ⟨H', I', q⟩ => ⟨H', I', hq _ H' q⟩) fun _ _ z => z
end
/-! ### what is fixed of a context -/
structure Pg where
  P : Program
  w : World
  K : PySem.W.Frag
  mg : Str → Option Value
  base : Heap
structure Cn extends Pg where
  N : List Str
  k : Nat
/-- a scope that runs, and the names whose cells it has made -/
structure Scp where
  sc : Scope
  fn : Str → Bool
def Scp.blk (s : Scp) (scope : Scope) : Scp := ⟨relS scope s.sc, fun x => scope.names.lookup x == some .cell⟩
def Scp.top (sc : Scope) : Scp := ⟨sc, fun _ => true⟩
structure Fits (C : Cn) (sc : Scp) (X : Cx) : Prop where
  prog : X.prog = C.P
  w : X.w = C.w
  K : X.K = C.K
  mg : X.mg = C.mg
  base : X.base = C.base
  N : X.N = C.N
  scq : X.env.scope = sc.sc
  fn : ∀ x, sc.fn x = true → X.fn x = true
  nd : X.N.Nodup
  calm : X.calm = true
  room : Room C.k X.A
  gd : X.A.guards = some []
/-! ### big steps over data -/
/-- e gives t -/
def Eo (C : Cn) (sc : Scp) (e : Expr) (ρ : Rho) (t : OD) : Prop := ∀ X, Fits C sc X → ∀ σ G H Q, Sl C.K G H σ ρ → Fin C.K G H t Q → wpE X e σ H Q
/-- the arguments give ts -/
def FinA (K : PySem.W.Frag) (G H : Hp) (k : Nat) (ts : List OD) (Q : List V → Hp → Prop) : Prop :=
  ∀ vs G' H' ow, Step G H G' H' → OwN G' H H' ow → OAll K G' H' ow [] k vs ts → Q vs H'
def Ea (C : Cn) (sc : Scp) (es : List Expr) (k : Nat) (ρ : Rho) (ts : List OD) : Prop := ∀ X, Fits C sc X → ∀ σ G H Q, Sl C.K G H σ ρ → FinA C.K G H k ts Q → wpA X es σ H Q
/-- the test gives b -/
def Et (C : Cn) (sc : Scp) (e : Expr) (ρ : Rho) (b : Bool) : Prop := ∀ X, Fits C sc X → ∀ σ G H (Q : Bool → Hp → Prop), Sl C.K G H σ ρ → (∀ G' H', Step G H G' H' → Q b H') → wpT X e σ H Q
/-- how a statement ends -/
inductive Out where
  | nx (ρ : Rho) | rt (t : OD) | bk (ρ : Rho) | ct (ρ : Rho)
def Post (K : PySem.W.Frag) (G0 H0 : Hp) (D : Ends) : Out → Prop
  | .nx ρ => ∀ σ G H, Env K G0 H0 G H σ ρ → D.nx σ H
  | .bk ρ => ∀ σ G H, Env K G0 H0 G H σ ρ → D.bk σ H
  | .ct ρ => ∀ σ G H, Env K G0 H0 G H σ ρ → D.ct σ H
  | .rt t => Fin K G0 H0 t D.rt
def Sx (C : Cn) (sc : Scp) (st : Stmt) (ρ : Rho) (o : Out) : Prop := ∀ X, Fits C sc X → PassesOwn (model X.prog X.w) X.A X.env X.xe → ∀ G0 H0 σ G H D, Env C.K G0 H0 G H σ ρ → Post C.K G0 H0 D o → wpS X st D σ H
def Ss (C : Cn) (sc : Scp) (st : List Stmt) (ρ : Rho) (o : Out) : Prop := ∀ X, Fits C sc X → PassesOwn (model X.prog X.w) X.A X.env X.xe → ∀ G0 H0 σ G H D, Env C.K G0 H0 G H σ ρ → Post C.K G0 H0 D o → wpSs X st D σ H
section
variable {C : Cn} {sc : Scp} {ρ : Rho}
/-! #### names, constants -/
theorem Eo.var (i : Nat) {d : PyData} {x : Str} {pos : Pos} (h : ρ[i]? = some (some (.fz d)) := by rfl) (hN : C.N[i]? = some x := by rfl) (hv : Vis sc.sc x := by first | exact Or.inl rfl | exact Or.inr (Or.inl rfl) | exact Or.inr (Or.inr rfl))
    (hd : (x == ("__debug__" : Str)) = false := by decide) (hcd : (x == ("__classdict__" : Str)) = false := by decide) : Eo C sc (.Name x pos) ρ (.fz d) := by
  intro X F σ G H Q S f
  obtain ⟨ow, h1, h2⟩ := S.own
  obtain ⟨v, q1, q2⟩ := h2 i _ h
  refine toE (pe_var (i := i) (by rw [F.N]; exact hN) (by rw [F.scq]; exact hv) hd hcd) ⟨v, q1, ?_⟩
  cases q2.to rfl with
  | fz q2 => exact f.fz S.gh q2
theorem Eo.int {i : Int} {j : Nat} {pos : Pos} : Eo C sc (.Constant (.int i) j pos) ρ (.fz (.int i)) := fun X F σ G H Q S f => toE pe_int (f.fz S.gh (.int i))
theorem Eo.bl {b : Bool} {j : Nat} {pos : Pos} : Eo C sc (.Constant (.bool b) j pos) ρ (.fz (.bool b)) := fun X F σ G H Q S f => toE pe_bl (f.fz S.gh (.bl b))
theorem Eo.non {j : Nat} {pos : Pos} : Eo C sc (.Constant .none j pos) ρ (.fz .none) := fun X F σ G H Q S f => toE pe_non (f.fz S.gh .non)
theorem Eo.str {x : Str} {j : Nat} {pos : Pos} : Eo C sc (.Constant (.str x) j pos) ρ (.fz (.str x)) := fun X F σ G H Q S f => toE pe_str (f.fz S.gh (.str x))
/-- what is owned may be read as frozen, where the value is flat -/
theorem Eo.borrow {e : Expr} {t : OD} (h : Eo C sc e (frzAll ρ) t) (hf : t.flat = true := by rfl) : Eo C sc e ρ t := by
  intro X F σ G H Q S f
  obtain ⟨G1, s1, S1⟩ := S.frozen
  refine h X F σ G1 H Q S1 fun v G' H' ow st n o => ?_
  refine f v G H' ow ⟨Same.refl _, st.h, S.gh.trans st.h, fun _ a b => absurd b a⟩ (fun a π e => ⟨(n a π e).1, S.gh.free (n a π e).1, (n a π e).2.2⟩) (OAt_flat t [] v hf o)
/-- a value that is frozen at once -/
theorem Eo.fr {e : Expr} {t : OD} (h : Eo C sc e ρ t) : Eo C sc e ρ (.fz t.data) := by
  intro X F σ G H Q S f
  refine h X F σ G H Q S fun v G' H' ow st n o => ?_
  exact f.fz' (st.freeze n) (OAt_freeze (fun a π e => (n a π e).2.1) t [] v o)
theorem Eo.le {e : Expr} {t : OD} {ρ' : Rho} (h : Eo C sc e ρ' t) (l : Le ρ' ρ) : Eo C sc e ρ t := fun X F σ G H Q S f => h X F σ G H Q (S.le l) f
theorem Eo.cast {e : Expr} {t t' : OD} (h : Eo C sc e ρ t) (q : t = t') : Eo C sc e ρ t' := q ▸ h
/-! #### operators, by values -/
def R2o (K : PySem.W.Frag) (r : R2) (d1 d2 : PyData) (t : OD) : Prop := ∀ v w G H Q, Same G H → Dp K G v d1 → Dp K G w d2 → Fin K G H t Q → r v w H Q
theorem two {a b : Expr} {d1 d2 : PyData} {t : OD} {r : R2} (ha : Eo C sc a ρ (.fz d1)) (hb : Eo C sc b ρ (.fz d2)) {X : Cx} (F : Fits C sc X) (hr : R2o C.K r d1 d2 t) {σ : St} {G H : Hp} {Q : VK} (S : Sl C.K G H σ ρ) (f : Fin C.K G H t Q) :
    tOp r (wpE X a) (wpE X b) σ H Q := by
  refine ha X F σ G H _ S fun v G1 H1 ow1 s1 n1 o1 => ?_
  refine hb X F σ G1 H1 _ (S.step s1) fun w G2 H2 ow2 s2 n2 o2 => ?_
  cases o1 with
  | fz o1 =>
    cases o2 with
    | fz o2 => exact hr v w G2 H2 Q s2.gh (o1.mono s2.g) o2 (f.step (s1.trans s2))
theorem Eo.bin {a b : Expr} {op : Operator} {pos : Pos} {d1 d2 : PyData} {t : OD} {r : Cx → R2} (ho : ∀ X, Fits C sc X → OpR X (binaryOp op) (r X)) (hr : ∀ X, Fits C sc X → R2o C.K (r X) d1 d2 t) (ha : Eo C sc a ρ (.fz d1)) (hb : Eo C sc b ρ (.fz d2)) :
    Eo C sc (.BinOp a op b pos) ρ t := fun X F σ G H Q S f => toE (pe_op (ho X F) pe_wp pe_wp) (two ha hb F (hr X F) S f)
theorem Eo.cmp {a b : Expr} {op : CmpOp} {pos : Pos} {d1 d2 : PyData} {t : OD} {r : Cx → R2} (ho : ∀ X, Fits C sc X → OpR X (compareOp op) (r X)) (hr : ∀ X, Fits C sc X → R2o C.K (r X) d1 d2 t) (ha : Eo C sc a ρ (.fz d1)) (hb : Eo C sc b ρ (.fz d2))
    (hm : behindInMarks op b = false) : Eo C sc (.Compare a [op] [b] pos) ρ t := fun X F σ G H Q S f => toE (pe_cmpR (ho X F) pe_wp pe_wp hm) (two ha hb F (hr X F) S f)
theorem Et.cmp {a b : Expr} {op : CmpOp} {pos : Pos} {d1 d2 : PyData} {k : Bool} {r : Cx → R2} (ho : ∀ X, Fits C sc X → OpR X (compareOp op) (r X)) (hr : ∀ X, Fits C sc X → R2o C.K (r X) d1 d2 (.fz (.bool k))) (ha : Eo C sc a ρ (.fz d1)) (hb : Eo C sc b ρ (.fz d2))
    (hm : behindInMarks op b = false) : Et C sc (.Compare a [op] [b] pos) ρ k := fun X F σ G H Q S f => toT (pt_cmpR (ho X F) pe_wp pe_wp hm) (two ha hb F (hr X F) S fun v G' H' ow s n o => by
      cases o with
      | fz o => exact ⟨k, o.bl_eq, f G' H' s⟩)
theorem Eo.un {a : Expr} {op : UnaryOp} {pos : Pos} {d : PyData} {t : OD} {r : V → Hp → VK → Prop} (ho : ∀ X, UnR X (unaryOp op) r) (hr : ∀ v G H Q, Same G H → Dp C.K G v d → Fin C.K G H t Q → r v H Q) (ha : Eo C sc a ρ (.fz d)) :
    Eo C sc (.UnaryOp op a pos) ρ t := fun X F σ G H Q S f => toE (pe_un (ho X) pe_wp) (ha X F σ G H _ S fun v G1 H1 ow1 s1 n1 o1 => by
      cases o1 with
      | fz o1 => exact hr v G1 H1 Q s1.gh o1 (f.step s1))
section
variable {K : PySem.W.Frag} {i j : Int}
theorem r_int0 {g : Int → Int → V} {d : PyData} (h : ∀ G, Dp K G (g i j) d) : R2o K (rI0 g) (.int i) (.int j) (.fz d) := fun v w G H Q e h1 h2 f => ⟨i, j, h1.int_eq, h2.int_eq, f.fz e (h G)⟩
theorem r_int {c : Int → Int → Prop} {g : Int → Int → V} {d : PyData} (hc : c i j) (h : ∀ G, Dp K G (g i j) d) : R2o K (rI c g) (.int i) (.int j) (.fz d) := fun v w G H Q e h1 h2 f => ⟨i, j, h1.int_eq, h2.int_eq, hc, f.fz e (h G)⟩
end
variable {a b : Expr} {pos : Pos} {i j : Int}
theorem Eo.add (ha : Eo C sc a ρ (.fz (.int i))) (hb : Eo C sc b ρ (.fz (.int j))) : Eo C sc (.BinOp a .Add b pos) ρ (.fz (.int (i + j))) := Eo.bin (fun _ _ => op_add) (fun _ _ => r_int0 fun _ => .int _) ha hb
theorem Eo.sub (ha : Eo C sc a ρ (.fz (.int i))) (hb : Eo C sc b ρ (.fz (.int j))) : Eo C sc (.BinOp a .Sub b pos) ρ (.fz (.int (i - j))) := Eo.bin (fun _ _ => op_sub) (fun _ _ => r_int0 fun _ => .int _) ha hb
theorem Eo.mul (ha : Eo C sc a ρ (.fz (.int i))) (hb : Eo C sc b ρ (.fz (.int j))) (h : CMul i j) : Eo C sc (.BinOp a .Mult b pos) ρ (.fz (.int (i * j))) := Eo.bin (fun _ _ => op_mul) (fun _ _ => r_int h fun _ => .int _) ha hb
theorem Eo.fdiv (ha : Eo C sc a ρ (.fz (.int i))) (hb : Eo C sc b ρ (.fz (.int j))) (h : 0 < j ∧ j < 1073741824) : Eo C sc (.BinOp a .FloorDiv b pos) ρ (.fz (.int (i / j))) := Eo.bin (fun _ _ => op_fdiv) (fun _ _ => r_int (c := CDiv) h fun _ => .int _) ha hb
theorem Eo.mod (ha : Eo C sc a ρ (.fz (.int i))) (hb : Eo C sc b ρ (.fz (.int j))) (h : 0 < j) : Eo C sc (.BinOp a .Mod b pos) ρ (.fz (.int (i % j))) := Eo.bin (fun _ _ => op_mod) (fun _ _ => r_int (c := fun _ j => 0 < j) h fun _ => .int _) ha hb
theorem Eo.pow (ha : Eo C sc a ρ (.fz (.int i))) (hb : Eo C sc b ρ (.fz (.int j))) (h : 0 ≤ j ∧ j ≤ 1000000 ∧ i.natAbs < 2 ^ 64) : Eo C sc (.BinOp a .Pow b pos) ρ (.fz (.int (i ^ j.toNat))) := Eo.bin (fun _ _ => op_pow) (fun _ _ => r_int (c := CPow) h fun _ => .int _) ha hb
theorem Eo.neg (ha : Eo C sc a ρ (.fz (.int i))) : Eo C sc (.UnaryOp .USub a pos) ρ (.fz (.int (-i))) := Eo.un (fun _ => un_neg) (fun v G H Q e h f => ⟨i, h.int_eq, f.fz e (.int _)⟩) ha
theorem Eo.lt (ha : Eo C sc a ρ (.fz (.int i))) (hb : Eo C sc b ρ (.fz (.int j))) : Eo C sc (.Compare a [.Lt] [b] pos) ρ (.fz (.bool (decide (i < j)))) := Eo.cmp (fun _ _ => op_lt) (fun _ _ => r_int0 fun _ => .bl _) ha hb (nomark _)
theorem Eo.lle (ha : Eo C sc a ρ (.fz (.int i))) (hb : Eo C sc b ρ (.fz (.int j))) : Eo C sc (.Compare a [.LtE] [b] pos) ρ (.fz (.bool (decide (i ≤ j)))) := Eo.cmp (fun _ _ => op_le) (fun _ _ => r_int0 fun _ => .bl _) ha hb (nomark _)
theorem Eo.gt (ha : Eo C sc a ρ (.fz (.int i))) (hb : Eo C sc b ρ (.fz (.int j))) : Eo C sc (.Compare a [.Gt] [b] pos) ρ (.fz (.bool (decide (j < i)))) := Eo.cmp (fun _ _ => op_gt) (fun _ _ => r_int0 fun _ => .bl _) ha hb (nomark _)
theorem Eo.ge (ha : Eo C sc a ρ (.fz (.int i))) (hb : Eo C sc b ρ (.fz (.int j))) : Eo C sc (.Compare a [.GtE] [b] pos) ρ (.fz (.bool (decide (j ≤ i)))) := Eo.cmp (fun _ _ => op_ge) (fun _ _ => r_int0 fun _ => .bl _) ha hb (nomark _)
theorem Et.lt (ha : Eo C sc a ρ (.fz (.int i))) (hb : Eo C sc b ρ (.fz (.int j))) : Et C sc (.Compare a [.Lt] [b] pos) ρ (decide (i < j)) := Et.cmp (fun _ _ => op_lt) (fun _ _ => r_int0 fun _ => .bl _) ha hb (nomark _)
theorem Et.lle (ha : Eo C sc a ρ (.fz (.int i))) (hb : Eo C sc b ρ (.fz (.int j))) : Et C sc (.Compare a [.LtE] [b] pos) ρ (decide (i ≤ j)) := Et.cmp (fun _ _ => op_le) (fun _ _ => r_int0 fun _ => .bl _) ha hb (nomark _)
theorem Et.gt (ha : Eo C sc a ρ (.fz (.int i))) (hb : Eo C sc b ρ (.fz (.int j))) : Et C sc (.Compare a [.Gt] [b] pos) ρ (decide (j < i)) := Et.cmp (fun _ _ => op_gt) (fun _ _ => r_int0 fun _ => .bl _) ha hb (nomark _)
theorem Et.ge (ha : Eo C sc a ρ (.fz (.int i))) (hb : Eo C sc b ρ (.fz (.int j))) : Et C sc (.Compare a [.GtE] [b] pos) ρ (decide (j ≤ i)) := Et.cmp (fun _ _ => op_ge) (fun _ _ => r_int0 fun _ => .bl _) ha hb (nomark _)
/-- == of any data of moderate depth -/
theorem r_eqD {K : PySem.W.Frag} {d e : PyData} (sd : SeqAt.shaped d = true) (se : SeqAt.shaped e = true) : R2o K (rEqD K) d e (.fz (.bool (PyData.eqv d e))) := fun v w G H Q s h1 h2 f => ⟨d, e, h1.mono s, h2.mono s, sd, se, f.fz s (.bl _)⟩
theorem r_neD {K : PySem.W.Frag} {d e : PyData} (sd : SeqAt.shaped d = true) (se : SeqAt.shaped e = true) : R2o K (rNeD K) d e (.fz (.bool (!PyData.eqv d e))) := fun v w G H Q s h1 h2 f => ⟨d, e, h1.mono s, h2.mono s, sd, se, f.fz s (.bl _)⟩
variable {d e : PyData}
theorem fit_eqD (X : Cx) (F : Fits C sc X) : OpR X (compareOp .Eq) (rEqD C.K) := by rw [← F.K]; exact op_eqD F.room.units
theorem fit_neD (X : Cx) (F : Fits C sc X) : OpR X (compareOp .NotEq) (rNeD C.K) := by rw [← F.K]; exact op_neD F.room.units
theorem Eo.eqD (ha : Eo C sc a ρ (.fz d)) (hb : Eo C sc b ρ (.fz e)) (sd : SeqAt.shaped d = true := by rfl) (se : SeqAt.shaped e = true := by rfl) : Eo C sc (.Compare a [.Eq] [b] pos) ρ (.fz (.bool (PyData.eqv d e))) := Eo.cmp fit_eqD (fun _ _ => r_eqD sd se) ha hb (nomark _)
theorem Et.eqD (ha : Eo C sc a ρ (.fz d)) (hb : Eo C sc b ρ (.fz e)) (sd : SeqAt.shaped d = true := by rfl) (se : SeqAt.shaped e = true := by rfl) : Et C sc (.Compare a [.Eq] [b] pos) ρ (PyData.eqv d e) := Et.cmp fit_eqD (fun _ _ => r_eqD sd se) ha hb (nomark _)
theorem Eo.neD (ha : Eo C sc a ρ (.fz d)) (hb : Eo C sc b ρ (.fz e)) (sd : SeqAt.shaped d = true := by rfl) (se : SeqAt.shaped e = true := by rfl) : Eo C sc (.Compare a [.NotEq] [b] pos) ρ (.fz (.bool (!PyData.eqv d e))) := Eo.cmp fit_neD (fun _ _ => r_neD sd se) ha hb (nomark _)
theorem Et.neD (ha : Eo C sc a ρ (.fz d)) (hb : Eo C sc b ρ (.fz e)) (sd : SeqAt.shaped d = true := by rfl) (se : SeqAt.shaped e = true := by rfl) : Et C sc (.Compare a [.NotEq] [b] pos) ρ (!PyData.eqv d e) := Et.cmp fit_neD (fun _ _ => r_neD sd se) ha hb (nomark _)
end
end NW
namespace NW
open PySem PySem.Spec L2
open PyProof.Rows hiding St
/-! ### tests -/
section
variable {C : Cn} {sc : Scp} {ρ : Rho} {a b c e : Expr} {rest : List Expr} {pos : Pos} {k l : Bool} {t : OD}
theorem Et.val (h : Eo C sc e ρ (.fz (.bool k))) (he : ∀ env whole, isTrue e env whole = (do let v ← whole; standAt e.pos; holding [v] (truthy v)) := by intro _ _; rfl) : Et C sc e ρ k := fun X F σ G H Q S f =>
  toT (pt_val pe_wp (he _)) (h X F σ G H _ S fun v G' H' ow s n o => by
    cases o with
    | fz o => exact ⟨k, o.bl_eq, f G' H' s⟩)
theorem Et.not (h : Et C sc a ρ k) : Et C sc (.UnaryOp .Not a pos) ρ (!k) := fun X F σ G H Q S f => toT (pt_not pt_wp) (h X F σ G H _ S fun G' H' s => f G' H' s)
theorem Et.le {ρ' : Rho} (h : Et C sc e ρ' k) (l : Le ρ' ρ) : Et C sc e ρ k := fun X F σ G H Q S f => h X F σ G H Q (S.le l) f
theorem Et.cast (h : Et C sc e ρ k) (q : k = l) : Et C sc e ρ l := q ▸ h
theorem Et.borrow (h : Et C sc e (frzAll ρ) k) : Et C sc e ρ k := by
  intro X F σ G H Q S f
  obtain ⟨G1, s1, S1⟩ := S.frozen
  exact h X F σ G1 H Q S1 fun G' H' st => f G H' ⟨Same.refl _, st.h, S.gh.trans st.h, fun _ a b => absurd b a⟩
/-- and, or: the chain's parts -/
def Ew (C : Cn) (sc : Scp) (e : Expr) (ρ : Rho) (b : Bool) : Prop := ∀ X, Fits C sc X → ∃ t, PW X e t ∧ ∀ σ G H (Q : Bool → Hp → Prop), Sl C.K G H σ ρ → (∀ G' H', Step G H G' H' → Q b H') → t σ H Q
theorem Ew.et (h : Ew C sc e ρ k) : Et C sc e ρ k := fun X F σ G H Q S f => by
  obtain ⟨t, p, q⟩ := h X F
  exact toT p.pt (q σ G H Q S f)
theorem Ew.and1 (h : Et C sc a ρ k) : Ew C sc (.BoolOp .And [a] pos) ρ k := fun X F => ⟨_, pw_and1 pt_wp, fun σ G H Q S f => h X F σ G H Q S f⟩
theorem Ew.or1 (h : Et C sc a ρ k) : Ew C sc (.BoolOp .Or [a] pos) ρ k := fun X F => ⟨_, pw_or1 pt_wp, fun σ G H Q S f => h X F σ G H Q S f⟩
theorem Ew.and (h : Et C sc a ρ k) (h2 : k = true → Ew C sc (.BoolOp .And (b :: rest) pos) ρ l) : Ew C sc (.BoolOp .And (a :: b :: rest) pos) ρ (k && l) := fun X F => by
  cases k with
  | true =>
    obtain ⟨t, p, q⟩ := h2 rfl X F
    refine ⟨_, pw_and pt_wp p, fun σ G H Q S f => h X F σ G H _ S fun G1 H1 s1 => ?_⟩
    exact iteT (q σ G1 H1 Q (S.step s1) fun G2 H2 s2 => f G2 H2 (s1.trans s2))
  | false =>
    have never : PW X (.BoolOp .And (b :: rest) pos) (fun _ _ _ => False) := ⟨fun _ _ _ _ _ _ _ z => z.elim⟩
    refine ⟨_, pw_and pt_wp never, fun σ G H Q S f => h X F σ G H _ S fun G1 H1 s1 => ?_⟩
    exact iteF (f G1 H1 s1)
theorem Ew.or (h : Et C sc a ρ k) (h2 : k = false → Ew C sc (.BoolOp .Or (b :: rest) pos) ρ l) : Ew C sc (.BoolOp .Or (a :: b :: rest) pos) ρ (k || l) := fun X F => by
  cases k with
  | false =>
    obtain ⟨t, p, q⟩ := h2 rfl X F
    refine ⟨_, pw_or pt_wp p, fun σ G H Q S f => h X F σ G H _ S fun G1 H1 s1 => ?_⟩
    exact iteF (q σ G1 H1 Q (S.step s1) fun G2 H2 s2 => f G2 H2 (s1.trans s2))
  | true =>
    have never : PW X (.BoolOp .Or (b :: rest) pos) (fun _ _ _ => False) := ⟨fun _ _ _ _ _ _ _ z => z.elim⟩
    refine ⟨_, pw_or pt_wp never, fun σ G H Q S f => h X F σ G H _ S fun G1 H1 s1 => ?_⟩
    exact iteT (f G1 H1 s1)
/-- .. as values: all parts True or False -/
theorem Eo.one {op : BoolOp} (h : Eo C sc a ρ t) : Eo C sc (.BoolOp op [a] pos) ρ t := fun X F σ G H Q S f => toE (pe_one pe_wp) (h X F σ G H Q S f)
theorem Eo.and (h : Eo C sc a ρ (.fz (.bool k))) (h2 : k = true → Eo C sc (.BoolOp .And (b :: rest) pos) ρ (.fz (.bool l))) : Eo C sc (.BoolOp .And (a :: b :: rest) pos) ρ (.fz (.bool (k && l))) := fun X F σ G H Q S f =>
  toE (pe_and pe_wp pe_wp) (h X F σ G H _ S fun v G1 H1 ow s1 n o => by
    cases o with
    | fz o =>
      refine ⟨k, o.bl_eq, ?_⟩
      cases k with
      | true => exact iteT (h2 rfl X F σ G1 H1 Q (S.step s1) (f.step s1))
      | false => exact iteF (f.fz' s1 (.bl _)))
theorem Eo.or (h : Eo C sc a ρ (.fz (.bool k))) (h2 : k = false → Eo C sc (.BoolOp .Or (b :: rest) pos) ρ (.fz (.bool l))) : Eo C sc (.BoolOp .Or (a :: b :: rest) pos) ρ (.fz (.bool (k || l))) := fun X F σ G H Q S f =>
  toE (pe_or pe_wp pe_wp) (h X F σ G H _ S fun v G1 H1 ow s1 n o => by
    cases o with
    | fz o =>
      refine ⟨k, o.bl_eq, ?_⟩
      cases k with
      | false => exact iteF (h2 rfl X F σ G1 H1 Q (S.step s1) (f.step s1))
      | true => exact iteT (f.fz' s1 (.bl _)))
theorem Eo.not (h : Eo C sc a ρ (.fz (.bool k))) : Eo C sc (.UnaryOp .Not a pos) ρ (.fz (.bool (!k))) := fun X F σ G H Q S f =>
  toE (pe_not pe_wp) (h X F σ G H _ S fun v G1 H1 ow s1 n o => by
    cases o with
    | fz o => exact ⟨k, o.bl_eq, f.fz' s1 (.bl _)⟩)
theorem Eo.ifE {u : OD} (h : Et C sc c ρ k) (h1 : k = true → Eo C sc a ρ t) (h2 : k = false → Eo C sc b ρ u) : Eo C sc (.IfExp c a b pos) ρ (if k = true then t else u) := fun X F σ G H Q S f =>
  toE (pe_ifExp pt_wp pe_wp pe_wp) (h X F σ G H _ S fun G1 H1 s1 => by
    cases k with
    | true => exact iteT (h1 rfl X F σ G1 H1 Q (S.step s1) (f.step s1))
    | false => exact iteF (h2 rfl X F σ G1 H1 Q (S.step s1) (f.step s1)))
end
/-! ### argument lists, displays, calls of built-ins -/
section
variable {C : Cn} {sc : Scp} {ρ : Rho} {a b c e : Expr} {es : List Expr} {pos : Pos} {t : OD} {ts : List OD} {n : Nat}
theorem Ea.nil : Ea C sc [] n ρ [] := fun X F σ G H Q S f => toA pa_nil (f [] G H ow0 (Step.refl S.gh) owN0 .nil)
theorem Ea.cons (h : Eo C sc e ρ t) (hr : Ea C sc es (n + 1) ρ ts) (hs : ∀ env, starEach (e :: es) env = (false, eval e env) :: starEach es env := by intro _; rfl) : Ea C sc (e :: es) n ρ (t :: ts) := by
  intro X F σ G H Q S f
  refine toA (pa_cons pe_wp pa_wp (hs _)) (h X F σ G H _ S fun v G1 H1 ow1 s1 n1 o1 => ?_)
  refine hr X F σ G1 H1 _ (S.step s1) fun vs G2 H2 ow2 s2 n2 o2 => ?_
  refine f (v :: vs) G2 H2 (fun a => match ow1 a with | some π => some (π ++ [n]) | none => ow2 a) (s1.trans s2) (fun a π q => ?_) (.cons ?_ ?_)
  · dsimp only at q
    cases q1 : ow1 a with
    | some π1 =>
      obtain ⟨p1, p2, p3⟩ := n1 a π1 q1
      refine ⟨p1, ?_, fun z => p3 (s2.h.free z)⟩
      by_cases z : G2 a = none
      · exact z
      · exact absurd (s2.nw a z p2) p3
    | none =>
      rw [q1] at q
      obtain ⟨p1, p2, p3⟩ := n2 a π q
      exact ⟨s1.h.free p1, p2, p3⟩
  · refine OAt_move (· ++ [n]) (fun _ _ => rfl) s2.g (fun a π o q1 q2 => s2.h _ _ q2) (fun a π q1 => ?_) t [] v o1
    try dsimp only
    rw [q1]
  · refine OAll_move id (fun _ _ => rfl) (Same.refl _) (fun a π o q1 q2 => q2) (fun a π q1 => ?_) ts [] (n + 1) vs o2
    try dsimp only
    cases q2 : ow1 a with
    | none => exact q1
    | some π1 => exact absurd (n2 a π q1).1 (n1 a π1 q2).2.2
theorem FinA.toAll {K : PySem.W.Frag} {G H : Hp} {ts : List OD} {Q : VK} (mk : List V → HO) (tt : OD) (hmk : ∀ (G' H' : Hp) (ow : Ow) (p : Addr) (vs : List V), ow p = some [] → H' p = some (mk vs) → OAll K G' H' ow [] 0 vs ts → OAt K G' H' ow [] (.ref p) tt)
    (f : Fin K G H tt Q) : FinA K G H 0 ts fun vs H1 => ∀ p, H1 p = none → Q (.ref p) (upd H1 p (mk vs)) := fun vs G' H' ow s n o p hp => by
  have e1 : ∀ b o', H' b = some o' → upd H' p (mk vs) b = some o' := fun b o' q => by rw [upd_ne (ne_of_none q hp)]; exact q
  have hop : ow p = none := by
    cases q : ow p with
    | none => rfl
    | some π => exact absurd hp (n p π q).2.2
  refine f (.ref p) G' (upd H' p (mk vs)) (fun a => if a = p then some [] else ow a) ⟨s.g, fun b o' q => e1 b o' (s.h _ _ q), fun b o' q => e1 b o' (s.gh _ _ q), s.nw⟩ (fun a π q => ?_) (hmk _ _ _ _ _ (if_pos rfl) upd_same ?_)
  · dsimp only at q
    by_cases z : a = p
    · subst z
      refine ⟨s.h.free hp, s.gh.free hp, ?_⟩
      rw [upd_same]
      exact fun z => nomatch z
    · rw [if_neg z] at q
      obtain ⟨p1, p2, p3⟩ := n a π q
      exact ⟨p1, p2, by rw [upd_ne z]; exact p3⟩
  · refine OAll_move id (fun _ _ => rfl) (Same.refl _) (fun a π o' q1 q2 => e1 _ _ q2) (fun a π q1 => ?_) ts [] 0 vs o
    try dsimp only
    rw [if_neg (fun z => by rw [z, hop] at q1; cases q1)]
    exact q1
theorem Eo.lst (h : Ea C sc es 0 ρ ts) (hz : ts.length ≤ sizeLine := by first | decide | (simp only [List.length_cons, List.length_nil]; decide)) : Eo C sc (.List es pos) ρ (.ls ts) := fun X F σ G H Q S f =>
  toE (pe_lst pa_wp) (h X F σ G H _ S fun vs G' H' ow s n o => ⟨by rw [o.length]; exact hz, FinA.toAll .lst (.ls ts) (fun _ _ _ _ _ a b c => .ls a b c) f vs G' H' ow s n o⟩)
theorem Eo.tup {x1 : Nat} (h : Ea C sc es 0 ρ ts) (hz : ts.length ≤ sizeLine := by first | decide | (simp only [List.length_cons, List.length_nil]; decide)) : Eo C sc (.Tuple es x1 pos) ρ (.tp ts) := fun X F σ G H Q S f =>
  toE (pe_tup pa_wp) (h X F σ G H _ S fun vs G' H' ow s n o => ⟨by rw [o.length]; exact hz, FinA.toAll .tup (.tp ts) (fun _ _ _ _ _ a b c => .tp a b c) f vs G' H' ow s n o⟩)
/-- frozen arguments, by values -/
def RAo (K : PySem.W.Frag) (r : List V → Hp → VK → Prop) (ds : List PyData) (t : OD) : Prop := ∀ vs G H Q, Same G H → DpAll K G vs ds → Fin K G H t Q → r vs H Q
theorem Eo.callB {x : Str} {p : Pos} {id : String} {r : Cx → List V → Hp → VK → Prop} {ds : List PyData} (hc : ∀ X, Fits C sc X → CallR X (.builtin id) (r X)) (hr : ∀ X, Fits C sc X → RAo C.K (r X) ds t) (hg : sc.sc.names.lookup x = some .globalImplicit) (hm : C.mg x = none) (hv : bootBuiltins x = some (.builtin id)) (ha : Ea C sc (e :: es) 0 ρ (ds.map .fz))
    (hn : x ≠ "__name__" := by decide) (hdb : (x == ("__debug__" : Str)) = false := by decide) (he : ∀ env, starEach (e :: es) env = (false, eval e env) :: starEach es env := by intro _; rfl) (hpl : ∀ env, (backTo pos (starEach es env)).any (·.1) = false := by intro _; rfl) :
    Eo C sc (.Call (.Name x p) (e :: es) [] pos) ρ t := fun X F σ G H Q S f =>
  toE (pe_callB (hc X F) (show X.env.scope.names.lookup x = _ by rw [F.scq]; exact hg) (by rw [F.mg]; exact hm) hv pa_wp hn hdb (he _) (hpl _)) (ha X F σ G H _ S fun vs G' H' ow s n o => hr X F vs G' H' Q s.gh o.to_fz (f.step s))
theorem Eo.callTy {x : Str} {p : Pos} {T : String} {r : Cx → List V → Hp → VK → Prop} {ds : List PyData} (hc : ∀ X, Fits C sc X → CallR X (.type T) (r X)) (hr : ∀ X, Fits C sc X → RAo C.K (r X) ds t) (hg : sc.sc.names.lookup x = some .globalImplicit) (hm : C.mg x = none) (hv : bootBuiltins x = some (.type T)) (ha : Ea C sc (e :: es) 0 ρ (ds.map .fz))
    (hn : x ≠ "__name__" := by decide) (hdb : (x == ("__debug__" : Str)) = false := by decide) (he : ∀ env, starEach (e :: es) env = (false, eval e env) :: starEach es env := by intro _; rfl) (hpl : ∀ env, (backTo pos (starEach es env)).any (·.1) = false := by intro _; rfl) :
    Eo C sc (.Call (.Name x p) (e :: es) [] pos) ρ t := fun X F σ G H Q S f =>
  toE (pe_callTy (hc X F) (show X.env.scope.names.lookup x = _ by rw [F.scq]; exact hg) (by rw [F.mg]; exact hm) hv pa_wp hn hdb (he _) (hpl _)) (ha X F σ G H _ S fun vs G' H' ow s n o => hr X F vs G' H' Q s.gh o.to_fz (f.step s))
end
/-! ### targets -/
def wpG (X : Cx) (tg : Expr) : TG := fun v σ H Q => ∀ pins s u, Inv X pins σ H s → RelV v u → wpAny (model X.prog X.w) X.A (assign tg X.env u) (fun _ s' => ∃ σ' H', Inv X pins σ' H' s' ∧ Q σ' H') X.xe s
theorem pg_wp {X : Cx} {tg : Expr} : PG X tg (wpG X tg) := ⟨fun pins s _ _ _ u _ I r h => h pins s u I r⟩
theorem toG {X : Cx} {tg : Expr} {t : TG} {v : V} {σ : St} {H : Hp} {Q : St → Hp → Prop} (h : PG X tg t) (q : t v σ H Q) : wpG X tg v σ H Q := fun pins s u I r => h.run pins s σ H v u Q I r q
def setAll (σ : St) : List Nat → List V → St
  | i :: is, v :: vs => setAll (σ.set i (some v)) is vs
  | _, _ => σ
def setR (ρ : Rho) : List (Nat × PyData) → Rho
  | [] => ρ
  | (i, d) :: r => setR (ρ.set i (some (.fz d))) r
/-- the target takes data d: the slots that it sets -/
def Gt (C : Cn) (sc : Scp) (tg : Expr) (d : PyData) (as : List (Nat × PyData)) : Prop := ∀ X, Fits C sc X → ∀ v σ G H (Q : St → Hp → Prop), Same G H → Dp C.K G v d →
  (∀ vs, DpAll C.K G vs (as.map (·.2)) → Q (setAll σ (as.map (·.1)) vs) H) → wpG X tg v σ H Q
section
variable {C : Cn} {sc : Scp} {pos : Pos}
theorem Gt.name (i : Nat) {x : Str} {d : PyData} (hi : C.N[i]? = some x := by rfl) (hx : Loc sc.sc x := by first | exact Or.inl rfl | exact Or.inr rfl)
    (hfn : sc.fn x = true ∨ sc.sc.names.lookup x = some .local := by first | exact Or.inl rfl | exact Or.inr rfl) : Gt C sc (.Name x pos) d [(i, d)] :=
  fun X F v σ G H Q e h f => toG (pg_name (i := i) F.nd (by rw [F.N]; exact hi) (by rw [F.scq]; exact hx) (hfn.imp (F.fn x) fun z => by rw [F.scq]; exact z)) (f [v] (.cons h .nil))
/-- several targets -/
def wpGs (X : Cx) (ts : List Expr) : TGs := fun vs σ H Q => ∀ pins s us, Inv X pins σ H s → Vals vs us → wpAny (model X.prog X.w) X.A (assignInOrder ((assignEach ts X.env).map (·.2)) us) (fun _ s' => ∃ σ' H', Inv X pins σ' H' s' ∧ Q σ' H') X.xe s
theorem pgs_wp {X : Cx} {ts : List Expr} : PGs X ts (wpGs X ts) := ⟨fun pins s _ _ _ us _ I r h => h pins s us I r⟩
def Gts (C : Cn) (sc : Scp) (tgs : List Expr) (ds : List PyData) (as : List (Nat × PyData)) : Prop := ∀ X, Fits C sc X → ∀ vs σ G H (Q : St → Hp → Prop), Same G H → DpAll C.K G vs ds →
  (∀ vs', DpAll C.K G vs' (as.map (·.2)) → Q (setAll σ (as.map (·.1)) vs') H) → wpGs X tgs vs σ H Q
theorem Gts.nil : Gts C sc [] [] [] := fun X F vs σ G H Q e h f pins s us I r => by
  cases h
  exact pgs_nil.run pins s σ H [] us Q I r ⟨rfl, f [] .nil⟩
theorem setAll_append : ∀ {is js : List Nat} {vs ws : List V} {σ : St}, is.length = vs.length → setAll σ (is ++ js) (vs ++ ws) = setAll (setAll σ is vs) js ws
  | [], _, [], _, _, _ => rfl
  | _ :: _, _, [], _, _, h => by simp at h
  | [], _, _ :: _, _, _, h => by simp at h
  | i :: is, js, v :: vs, ws, σ, h => by
    show setAll (σ.set i (some v)) (is ++ js) (vs ++ ws) = setAll (setAll (σ.set i (some v)) is vs) js ws
    exact setAll_append (by simpa using h)
theorem Gts.cons {e : Expr} {es : List Expr} {d : PyData} {ds : List PyData} {as bs : List (Nat × PyData)} (h1 : Gt C sc e d as) (h2 : Gts C sc es ds bs)
    (hs : ∀ env, (assignEach (e :: es) env).map (·.2) = assign e env :: (assignEach es env).map (·.2) := by intro _; rfl) : Gts C sc (e :: es) (d :: ds) (as ++ bs) := fun X F vs σ G H Q q h f pins s us I r => by
  cases h with
  | cons p1 p2 =>
    refine (pgs_cons pg_wp pgs_wp (hs _)).run pins s σ H _ us Q I r ⟨_, _, rfl, h1 X F _ σ G H _ q p1 fun ws hw => h2 X F _ _ G H Q q p2 fun ws' hw' => ?_⟩
    have hh := f (ws ++ ws') (by rw [List.map_append]; exact hw.append hw')
    rw [List.map_append, setAll_append (by rw [hw.length, List.length_map, List.length_map])] at hh
    exact hh
theorem Gt.tup {es : List Expr} {k : Nat} {ds : List PyData} {as : List (Nat × PyData)} (h : Gts C sc es ds as) (hn : ∀ env, (assignEach es env).length = ds.length := by intro _; rfl) (hst : ∀ env, (assignEach es env).findIdx? (·.1) = none := by intro _; rfl) :
    Gt C sc (.Tuple es k pos) (.tuple ds) as := fun X F v σ G H Q e h' f => by
  obtain ⟨a, xs, rfl, q1, q2⟩ := h'.tup_eq
  refine toG (pg_tup (n := ds.length) F.calm pgs_wp (hn _) (hst _)) ⟨a, xs, rfl, ?_, q2.length, h X F xs σ G H Q e q2 f⟩
  rw [F.K]
  exact sqT_mono e q1
end
theorem setR_length (ρ : Rho) : ∀ as : List (Nat × PyData), (setR ρ as).length = ρ.length
  | [] => rfl
  | (i, d) :: r => by
    show (setR (ρ.set i (some (.fz d))) r).length = ρ.length
    rw [setR_length, List.length_set]
section
variable {K : PySem.W.Frag} {G0 H0 G H : Hp} {σ : St} {ρ : Rho}
/-- a slot takes a value that the frame has not owned -/
theorem own_set {ow ow1 : Ow} {i : Nat} {v : V} {t : OD} (hl : ρ.length ≤ σ.length) (hd : ∀ a π, ow1 a = some π → ow a = none)
    (h : ∀ (j : Nat) u, ρ[j]? = some (some u) → ∃ w, σ[j]? = some (some w) ∧ Cel K G H ow [j] w u) (o : OAt K G H ow1 [] v t) :
    ∀ (j : Nat) u, (ρ.set i (some t))[j]? = some (some u) → ∃ w, (σ.set i (some v))[j]? = some (some w) ∧
      Cel K G H (fun a => match ow1 a with | some π => some (π ++ [i]) | none => match ow a with | some π => if [i] <:+ π then none else some π | none => none) [j] w u := by
  intro j u e
  by_cases z : i = j
  · subst z
    by_cases hi : i < ρ.length
    · rw [List.getElem?_set_self hi] at e
      cases e
      refine ⟨v, by rw [List.getElem?_set_self (by omega)], ?_⟩
      refine .of (OAt_move (· ++ [i]) (fun _ _ => rfl) (Same.refl _) (fun a π o' q1 q2 => q2) (fun a π q1 => ?_) t [] v o)
      try dsimp only
      rw [q1]
    · rw [List.getElem?_eq_none (by simpa using hi)] at e; cases e
  · rw [List.getElem?_set_ne z] at e
    obtain ⟨w, q1, q2⟩ := h j u e
    refine ⟨w, by rw [List.getElem?_set_ne z]; exact q1, ?_⟩
    refine q2.map fun q2 => OAt_under [j] (Same.refl _) (fun a π o' p1 p2 p3 => ⟨p3, ?_⟩) u [j] w (List.suffix_refl _) q2
    try dsimp only
    have e1 : ow1 a = none := by
      cases q : ow1 a with
      | none => rfl
      | some π1 => rw [hd a π1 q] at p1; cases p1
    rw [e1, p1]
    try dsimp only
    rw [if_neg]
    intro p4
    obtain ⟨x, hx⟩ := p2
    obtain ⟨y, hy⟩ := p4
    have e2 := congrArg List.getLast? (hx.trans hy.symm)
    rw [List.getLast?_append, List.getLast?_append] at e2
    simp at e2
    exact z e2.symm
theorem Env.set {i : Nat} {v : V} {t : OD} {G' H' : Hp} {ow1 : Ow} (e : Env K G0 H0 G H σ ρ) (s : Step G H G' H') (n : OwN G' H H' ow1) (o : OAt K G' H' ow1 [] v t) : Env K G0 H0 G' H' (σ.set i (some v)) (ρ.set i (some t)) := by
  have e' := e.step s
  refine ⟨e'.st, by rw [List.length_set, List.length_set]; exact e.len, ?_⟩
  obtain ⟨ow, h1, h2⟩ := e.own
  have hk := ow_keep s (fun a π q => (h1 a π q).2)
  refine ⟨_, fun a π q => ?_, own_set (ow := ow) (ow1 := ow1) (Nat.le_of_eq e.len) (fun a π q => ?_) (fun j u q => let ⟨w, q1, q2⟩ := h2 j u q; ⟨w, q1, q2.map (·.step s)⟩) o⟩
  · try dsimp only at q
    cases q1 : ow1 a with
    | some π1 =>
      obtain ⟨p1, p2, p3⟩ := n a π1 q1
      exact ⟨e.st.h.free p1, p2, p3⟩
    | none =>
      rw [q1] at q
      try dsimp only at q
      cases q2 : ow a with
      | none => rw [q2] at q; cases q
      | some π2 => exact ⟨(h1 a π2 q2).1, hk a π2 q2⟩
  · cases q1 : ow a with
    | none => rfl
    | some π1 => exact absurd (n a π q).1 (h1 a π1 q1).2.2
theorem Env.setFz {i : Nat} {v : V} {d : PyData} (e : Env K G0 H0 G H σ ρ) (h : Dp K G v d) : Env K G0 H0 G H (σ.set i (some v)) (ρ.set i (some (.fz d))) :=
  e.set (Step.refl e.st.gh) owN0 (.fz h)
theorem Env.setAll : ∀ {as : List (Nat × PyData)} {vs : List V} {σ : St} {ρ : Rho}, Env K G0 H0 G H σ ρ → DpAll K G vs (as.map (·.2)) → Env K G0 H0 G H (NW.setAll σ (as.map (·.1)) vs) (setR ρ as)
  | [], _, _, _, e, h => by cases h; exact e
  | (i, d) :: r, _, σ, ρ, e, h => by
    cases h with
    | cons h1 h2 => exact Env.setAll (as := r) (e.setFz (i := i) h1) h2
theorem Sl.setFz {i : Nat} {v : V} {d : PyData} (e : Sl K G H σ ρ) (h : Dp K G v d) : Sl K G H (σ.set i (some v)) (ρ.set i (some (.fz d))) := by
  obtain ⟨ow, h1, h2⟩ := e.own
  refine ⟨e.gh, by rw [List.length_set, List.length_set]; exact e.len, _, fun a π q => ?_, own_set (ow := ow) (ow1 := ow0) (Nat.le_of_eq e.len) (fun a π q => by cases q) h2 (.fz h)⟩
  try dsimp only [ow0] at q
  cases q2 : ow a with
  | none => rw [q2] at q; cases q
  | some π2 => exact h1 a π2 q2
theorem Sl.setAll : ∀ {as : List (Nat × PyData)} {vs : List V} {σ : St} {ρ : Rho}, Sl K G H σ ρ → DpAll K G vs (as.map (·.2)) → Sl K G H (NW.setAll σ (as.map (·.1)) vs) (setR ρ as)
  | [], _, _, _, e, h => by cases h; exact e
  | (i, d) :: r, _, σ, ρ, e, h => by
    cases h with
    | cons h1 h2 => exact Sl.setAll (as := r) (e.setFz (i := i) h1) h2
end
end NW
namespace NW
open PySem PySem.Spec L2
open PyProof.Rows hiding St
/-! ### defs: a promise that also knows that no repr is under way -/
structure FnG (P : Program) (w : World) (K : PySem.W.Frag) (mg : Str → Option Value) (base : Heap) (CX : CXT) (k : Nat) (f : Addr) (fd : FuncData) (ps : List Str) (sp : Sp) : Prop where
  len : ∀ vs H Q E, sp vs H Q E → vs.length = ps.length
  run : ∀ (A : Around) (outer : List PySem.Env) (s : Shared) (H : Hp) (args : Args) (us : List Value) (vs : List V) (Q : VK) (E : XK), A.guards = some [] → Room k A → Env0 P w K mg base A outer s H →
    BindsTo s fd args (ps.zip us) → Vals vs us → sp vs H Q E → codeAny (model P w) A (.call (.ref f) args) (CR CX outer P w H s Q E) s
theorem FnG.mono {P : Program} {w : World} {K : PySem.W.Frag} {mg : Str → Option Value} {base : Heap} {CX : CXT} {j k : Nat} {f : Addr} {fd : FuncData} {ps : List Str} {sp : Sp} (F : FnG P w K mg base CX j f fd ps sp) (h : j ≤ k) :
    FnG P w K mg base CX k f fd ps sp := ⟨F.len, fun A outer s H args us vs Q E hg hr => F.run A outer s H args us vs Q E hg (hr.mono h)⟩
section
variable {P : Program} {w : World} {K : PySem.W.Frag} {mg : Str → Option Value} {base : Heap}
theorem fnG_of {CX : CXT} {x qual : Str} {st : Stmt} {f : Addr} {fd : FuncData} {N ps : List Str} {k : Nat} {sp : Sp} (F : Fun K x qual st f fd) (S : FnScope N ps (defScope st)) (len : ∀ vs H Q E, sp vs H Q E → vs.length = ps.length)
    (hbody : ∀ (cdv : Value) (A : Around) (outer : List PySem.Env) (s : Shared) (H : Hp) (vs : List V) (Q : VK) (E : XK), A.guards = some [] → Room k (A.deeper (envOfC qual (defScope st) s.heap.objs.size f cdv)) → sp vs H Q E →
      ∃ t, PSs (cxOf CX P w K mg base N qual (defScope st) f cdv A outer s H E) (defBody st) t ∧ t { nx := fun _ H' => Q .non H', rt := Q } (start N vs) H) : FnG P w K mg base CX (k + 1) f fd ps sp := by
  obtain ⟨oc, od, kV, doc, pm, an, cdv, ct, osl, rfl, lk, hcd⟩ := F.ex
  refine ⟨len, fun A outer s H args us vs Q E hg hr e0 hb rv hsp => ?_⟩
  have inK : K.In s.heap := e0.mod.kin.keeps fun b o q => (e0.bs b o q).1
  have noL : s.heap.NoLimit := e0.mod.nolimit.keeps fun b o q => (e0.bs b o q).1
  refine codeAny_call_function hr.depth (inK _ _ lk) rfl S.co S.gen rfl (PySem.W.codeRec_of inK hcd) (hb _ _ _ _ ?_)
  refine wpAny_newFunctionEnv_cells S.kind (fun y hy => ?_) fun env he s1 ic => ?_
  · obtain ⟨n, u⟩ := y
    exact (S.par n (List.of_mem_zip hy).1).imp id fun q => ⟨q, PySem.W.cellsFrom_some _ _ _ (.inl q)⟩
  subst he
  refine ⟨noL.keeps ic.toInCall.keep, codeAny_func ?_⟩
  obtain ⟨t, ht, hq⟩ := hbody cdv A outer s H vs Q E hg (hr.deeper _) hsp
  have I := inv_start (CX := CX) (E := E) S hr.hd e0 (len _ _ _ _ hsp) rv ic
  refine wpAny_mono (ht.run [] s1 (start N vs) H _ I hq) (fun fl s' hs => ?_) fun _ _ z => z
  cases fl with
  | ret u =>
    obtain ⟨v, σ', H', J, r1, q⟩ := hs
    exact ⟨v, H', J.os, J.bare, J.base, J.hok, r1, q⟩
  | next =>
    obtain ⟨σ', H', J, q⟩ := hs
    exact ⟨V.non, H', J.os, J.bare, J.base, J.hok, rfl, q⟩
  | brk =>
    obtain ⟨_, _, _, z⟩ := hs
    exact z.elim
  | cont =>
    obtain ⟨_, _, _, z⟩ := hs
    exact z.elim
end
section
variable {X : Cx} {CX : CXT} {k : Nat} {f : Addr} {fd : FuncData} {ps : List Str} {sp : Sp} {dvs : List V} {ds : List Value} {E : XK} {x : Str} {p pos : Pos} {e : Expr} {es : List Expr} {t : TA}
theorem runG {pins : List (Addr × Obj)} {σ : St} {H : Hp} {s : Shared} {Q : VK} {us : List Value} {vs : List V} (F : FnG X.prog X.w X.K X.mg X.base CX k f fd ps sp) (hg : X.A.guards = some []) (hr : Room k X.A) (hb : Binds X.K fd ps ds) (hd : Vals dvs ds) (hx : Passes CX X E)
    (I : Inv X pins σ H s) (r : Vals vs us) (h : sp (vs ++ dvs) H Q E) : wpAny (model X.prog X.w) X.A (call (.ref f) us) (EP X pins σ Q) X.xe s := by
  have rr : Vals (vs ++ dvs) (us ++ ds) := r.append hd
  have hl := F.len _ _ _ _ h
  rw [rr.length] at hl
  refine wpAny_call (codeAny_mono (F.run X.A X.stack s H ⟨us, []⟩ (us ++ ds) (vs ++ dvs) Q E hg hr I.env0 (hb s us I.kIn hl) rr h) fun res s' hq => ?_)
  match res, hq with
  | .error e, hq => exact hx pins σ H s e s' I hq
  | .ok (.ret u), hq => exact I.after hq
  | .ok .next, hq => exact False.elim hq
  | .ok .brk, hq => exact False.elim hq
  | .ok .cont, hq => exact False.elim hq
theorem pe_callG (F : FnG X.prog X.w X.K X.mg X.base CX k f fd ps sp) (hgd : X.A.guards = some []) (hr : Room k X.A) (hg : Gl X x) (hm : X.mg x = some (.ref f)) (hk : PySem.W.keepIn X.K (.ref f) = true) (hb : Binds X.K fd ps ds) (hd : Vals dvs ds) (hx : Passes CX X E)
    (ha : PA X (e :: es) t) (hdb : (x == ("__debug__" : Str)) = false) (he : starEach (e :: es) X.env = (false, eval e X.env) :: starEach es X.env) (hpl : (backTo pos (starEach es X.env)).any (·.1) = false) :
    PE X (.Call (.Name x p) (e :: es) [] pos) (tCall sp dvs E t) := ⟨fun pins s σ H Q I h =>
  wpAny_Call_Name_kw (ld_glob I hg hm (PySem.W.callWith_K (h₀ := X.base) I.ok.mod.kin hk (thn (ha.run pos pins s σ H _ I h) fun us s1 ⟨vs, H1, I1, r, q⟩ => ⟨I1.kIn, runG F hgd hr hb hd hx I1 r q⟩) he hpl) hdb)⟩
theorem pe_callG0 (F : FnG X.prog X.w X.K X.mg X.base CX k f fd ps sp) (hgd : X.A.guards = some []) (hr : Room k X.A) (hg : Gl X x) (hm : X.mg x = some (.ref f)) (hk : PySem.W.keepIn X.K (.ref f) = true) (hb : Binds X.K fd ps ds) (hd : Vals dvs ds) (hx : Passes CX X E)
    (hdb : (x == ("__debug__" : Str)) = false) : PE X (.Call (.Name x p) [] [] pos) (tCall sp dvs E tNil) := ⟨fun pins s σ H Q I h =>
  wpAny_Call_Name_kw (ld_glob I hg hm (PySem.W.callWith_K0 I.kIn hk (runG (us := []) F hgd hr hb hd hx I .nil h)) hdb)⟩
end
/-! ### promises over data -/
def spO (K : PySem.W.Frag) (R : List PyData → OD → Prop) : Sp := fun vs H Q _ => ∃ G ds t, Same G H ∧ DpAll K G vs ds ∧ R ds t ∧ Fin K G H t Q
/-- the module's name x is a def that takes data as R says -/
structure Def (g : Pg) (k : Nat) (x : Str) (R : List PyData → OD → Prop) : Prop where
  ex : ∃ f fd ps, g.mg x = some (.ref f) ∧ PySem.W.keepIn g.K (.ref f) = true ∧ Binds g.K fd ps [] ∧ FnG g.P g.w g.K g.mg g.base CX0 k f fd ps (spO g.K R)
theorem Def.mono {g : Pg} {j k : Nat} {x : Str} {R : List PyData → OD → Prop} (D : Def g j x R) (h : j ≤ k) : Def g k x R :=
  let ⟨f, fd, ps, a, b, c, d⟩ := D.ex; ⟨f, fd, ps, a, b, c, d.mono h⟩
section
variable {C : Cn} {sc : Scp} {ρ : Rho} {e : Expr} {es : List Expr} {x : Str} {p pos : Pos} {t : OD} {ds : List PyData} {R : List PyData → OD → Prop}
theorem Eo.call (D : Def C.toPg C.k x R) (hR : R ds t) (ha : Ea C sc (e :: es) 0 ρ (ds.map .fz)) (hg : sc.sc.names.lookup x = some .globalImplicit := by rfl)
    (hdb : (x == ("__debug__" : Str)) = false := by decide) (he : ∀ env, starEach (e :: es) env = (false, eval e env) :: starEach es env := by intro _; rfl) (hpl : ∀ env, (backTo pos (starEach es env)).any (·.1) = false := by intro _; rfl) :
    Eo C sc (.Call (.Name x p) (e :: es) [] pos) ρ t := by
  intro X F σ G H Q S f
  obtain ⟨a, fd, ps, hm, hk, hb, FF⟩ := D.ex
  obtain ⟨⟨P, w, K, mg, base⟩, N, k⟩ := C
  obtain ⟨rfl, rfl, rfl, rfl, rfl, e6, e7, e8, e9, e10, e11, e12⟩ := id F
  refine toE (pe_callG FF e12 e11 (show X.env.scope.names.lookup x = _ by rw [e7]; exact hg) hm hk hb .nil pass0 pa_wp hdb (he _) (hpl _)) (ha X F σ G H _ S fun vs G' H' ow s n o => ?_)
  exact ⟨G', ds, t, s.gh, by rw [List.append_nil]; exact o.to_fz, hR, f.step s⟩
theorem Eo.call0 (D : Def C.toPg C.k x R) (hR : R [] t) (hg : sc.sc.names.lookup x = some .globalImplicit := by rfl) (hdb : (x == ("__debug__" : Str)) = false := by decide) :
    Eo C sc (.Call (.Name x p) [] [] pos) ρ t := by
  intro X F σ G H Q S f
  obtain ⟨a, fd, ps, hm, hk, hb, FF⟩ := D.ex
  obtain ⟨⟨P, w, K, mg, base⟩, N, k⟩ := C
  obtain ⟨rfl, rfl, rfl, rfl, rfl, e6, e7, e8, e9, e10, e11, e12⟩ := id F
  exact toE (pe_callG0 FF e12 e11 (show X.env.scope.names.lookup x = _ by rw [e7]; exact hg) hm hk hb .nil pass0 hdb) ⟨G, [], t, S.gh, .nil, hR, f⟩
end
/-- the slots at a def's entry -/
def startR (N : List Str) (ds : List PyData) : Rho := ds.map (fun d => some (.fz d)) ++ List.replicate (N.length - ds.length) none
theorem env_start {K : PySem.W.Frag} {G H : Hp} {N : List Str} {vs : List V} {ds : List PyData} (e : Same G H) (h : DpAll K G vs ds) : Env K G H G H (start N vs) (startR N ds) := by
  have hl := h.length
  refine ⟨Step.refl e, by unfold L2.start startR; simp [hl], ow0, fun _ _ (q : none = some _) => (nomatch q), fun i t q => ?_⟩
  unfold startR at q
  by_cases hi : i < ds.length
  · rw [List.getElem?_append_left (by simpa using hi), List.getElem?_map] at q
    rw [List.getElem?_eq_getElem hi] at q
    cases q
    obtain ⟨v, q1, q2⟩ := h.get (List.getElem?_eq_getElem hi)
    refine ⟨v, ?_, .of (.fz q2)⟩
    unfold L2.start
    rw [List.getElem?_append_left (by rw [List.length_map]; omega), List.getElem?_map, q1]
    rfl
  · rw [List.getElem?_append_right (by simpa using hi), List.getElem?_replicate] at q
    split at q <;> cases q
/-- THE RULE of a def -/
theorem Def.of {g : Pg} {x qual : Str} {st : Stmt} {f : Addr} {fd : FuncData} {N ps : List Str} {k : Nat} {R : List PyData → OD → Prop} (F : Fun g.K x qual st f fd) (S : FnScope N ps (defScope st)) (hm : g.mg x = some (.ref f)) (hb : Binds g.K fd ps [])
    (hlen : ∀ ds t, R ds t → ds.length = ps.length) (body : ∀ ds t, R ds t → Ss ⟨g, N, k⟩ (.top (defScope st)) (defBody st) (startR N ds) (.rt t)) : Def g (k + 1) x R := by
  refine ⟨f, fd, ps, hm, F.kp, hb, fnG_of F S (fun vs H Q E ⟨G, ds, t, _, h, r, _⟩ => h.length.trans (hlen _ _ r)) fun cdv A outer s H vs Q E hg hr ⟨G, ds, t, e, h, r, fin⟩ => ?_⟩
  refine ⟨_, (pss_wp (X := (cxOf CX0 g.P g.w g.K g.mg g.base N qual (defScope st) f cdv A outer s H E).nox)).nox, ?_⟩
  exact body ds t r _ ⟨rfl, rfl, rfl, rfl, rfl, rfl, rfl, fun _ _ => rfl, S.nd, rfl, hr, hg⟩ PassesOwn.never G H _ G H _ (env_start e h) fin
end NW
namespace NW
open PySem PySem.Spec L2
open PyProof.Rows hiding St
section
variable {K : PySem.W.Frag} {G G' H H' : Hp} {ow ow' : Ow}
-- the most general move: paths go along a relation that grows downwards
mutual
theorem OAt_rel (r : List Nat → List Nat → Prop) (hr : ∀ k π π', r π π' → r (k :: π) (k :: π')) (e : Same G G') (hH : ∀ a π π' o, ow a = some π → r π π' → H a = some o → H' a = some o ∧ ow' a = some π') :
    ∀ (t : OD) (π π' : List Nat) (v : V), r π π' → OAt K G H ow π v t → OAt K G' H' ow' π' v t
  | .fz d, _, _, _, _, h => by
    cases h with
    | fz h => exact .fz (h.mono e)
  | .ls ts, π, π', _, hp, h => by
    cases h with
    | ls h1 h2 h3 => exact .ls (hH _ _ _ _ h1 hp h2).2 (hH _ _ _ _ h1 hp h2).1 (OAll_rel r hr e hH ts π π' 0 _ hp h3)
  | .tp ts, π, π', _, hp, h => by
    cases h with
    | tp h1 h2 h3 => exact .tp (hH _ _ _ _ h1 hp h2).2 (hH _ _ _ _ h1 hp h2).1 (OAll_rel r hr e hH ts π π' 0 _ hp h3)
  | .la b ts, π, π', _, hp, h => by
    cases h with
    | la h1 h2 h3 => exact .la (hH _ _ _ _ h1 hp h2).2 (hH _ _ _ _ h1 hp h2).1 (OAll_rel r hr e hH ts π π' 0 _ hp h3)
  | .at b, _, _, _, _, h => by cases h
theorem OAll_rel (r : List Nat → List Nat → Prop) (hr : ∀ k π π', r π π' → r (k :: π) (k :: π')) (e : Same G G') (hH : ∀ a π π' o, ow a = some π → r π π' → H a = some o → H' a = some o ∧ ow' a = some π') :
    ∀ (ts : List OD) (π π' : List Nat) (k : Nat) (vs : List V), r π π' → OAll K G H ow π k vs ts → OAll K G' H' ow' π' k vs ts
  | [], _, _, _, _, _, h => by cases h; exact .nil
  | t :: ts, π, π', k, _, hp, h => by
    cases h with
    | cons h1 h2 => exact .cons (OAt_rel r hr e hH t (k :: π) (k :: π') _ (hr k _ _ hp) h1) (OAll_rel r hr e hH ts π π' (k + 1) _ hp h2)
end
end
/-! ### statements -/
theorem sw_cell {elt : Expr} {gs : List Comprehension} {scope : Scope} {pos py : Pos} {y : Str} {l : Nat} {env : PySem.Env} (hy : env.scope.names.lookup y = some .cell) : swapsWith (.ListComp elt gs scope pos) (some (.Name y py)) l env = pure false := by
  have ky : env.kindOf y = some .cell := hy
  unfold swapsWith
  simp only [ky]
  have e : ((some NameKind.cell == some NameKind.local) : Bool) = false := by decide
  rw [e, Bool.and_false, Bool.false_and, Bool.false_and]
section
variable {C : Cn} {sc : Scp} {ρ ρ1 : Rho} {st : Stmt} {rest body body2 : List Stmt} {e c tg : Expr} {pos : Pos} {t : OD} {o : Out} {k : Bool}
theorem Ss.nil : Ss C sc [] ρ (.nx ρ) := fun X F po G0 H0 σ G H D E p => toSs pss_nil (p σ G H E)
theorem Ss.cons (h : Sx C sc st ρ (.nx ρ1)) (h2 : Ss C sc rest ρ1 o) : Ss C sc (st :: rest) ρ o := fun X F po G0 H0 σ G H D E p =>
  toSs (pss_cons ps_wp pss_wp) (h X F po G0 H0 σ G H _ E fun σ1 G1 H1 E1 => h2 X F po G0 H0 σ1 G1 H1 D E1 p)
def Out.ends : Out → Bool
  | .nx _ => false
  | _ => true
theorem Ss.stop (h : Sx C sc st ρ o) (hs : o.ends = true := by rfl) : Ss C sc (st :: rest) ρ o := fun X F po G0 H0 σ G H D E p =>
  toSs (pss_cons ps_wp pss_wp) (h X F po G0 H0 σ G H { D with nx := wpSs X rest D } E (by
    cases o with
    | nx _ => cases hs
    | rt _ => exact p
    | bk _ => exact p
    | ct _ => exact p))
theorem Ss.one (h : Sx C sc st ρ o) : Ss C sc [st] ρ o := fun X F po G0 H0 σ G H D E p => toSs (pss_one ps_wp) (h X F po G0 H0 σ G H D E p)
/-- weaker outcomes -/
def OutLe : Out → Out → Prop
  | .nx ρ', .nx ρ => Le ρ' ρ
  | .bk ρ', .bk ρ => Le ρ' ρ
  | .ct ρ', .ct ρ => Le ρ' ρ
  | .rt t', .rt t => t' = t
  | _, _ => False
theorem Post.le {K : PySem.W.Frag} {G0 H0 : Hp} {D : Ends} : ∀ {o' o : Out}, OutLe o' o → Post K G0 H0 D o' → Post K G0 H0 D o
  | .nx _, .nx _, l, p => fun σ G H E => p σ G H (E.le l)
  | .bk _, .bk _, l, p => fun σ G H E => p σ G H (E.le l)
  | .ct _, .ct _, l, p => fun σ G H E => p σ G H (E.le l)
  | .rt _, .rt _, l, p => by
    have l' : _ = _ := l
    subst l'
    exact p
  | .nx _, .bk _, l, _ => l.elim
  | .nx _, .ct _, l, _ => l.elim
  | .nx _, .rt _, l, _ => l.elim
  | .bk _, .nx _, l, _ => l.elim
  | .bk _, .ct _, l, _ => l.elim
  | .bk _, .rt _, l, _ => l.elim
  | .ct _, .nx _, l, _ => l.elim
  | .ct _, .bk _, l, _ => l.elim
  | .ct _, .rt _, l, _ => l.elim
  | .rt _, .nx _, l, _ => l.elim
  | .rt _, .bk _, l, _ => l.elim
  | .rt _, .ct _, l, _ => l.elim
theorem Ss.weak {o' : Out} (h : Ss C sc rest ρ o) (l : OutLe o' o) : Ss C sc rest ρ o' := fun X F po G0 H0 σ G H D E p => h X F po G0 H0 σ G H D E (p.le l)
theorem Sx.weak {o' : Out} (h : Sx C sc st ρ o) (l : OutLe o' o) : Sx C sc st ρ o' := fun X F po G0 H0 σ G H D E p => h X F po G0 H0 σ G H D E (p.le l)
theorem Ss.le {ρ' : Rho} (h : Ss C sc rest ρ' o) (l : Le ρ' ρ) : Ss C sc rest ρ o := fun X F po G0 H0 σ G H D E p => h X F po G0 H0 σ G H D (E.le l) p
theorem Sx.le {ρ' : Rho} (h : Sx C sc st ρ' o) (l : Le ρ' ρ) : Sx C sc st ρ o := fun X F po G0 H0 σ G H D E p => h X F po G0 H0 σ G H D (E.le l) p
theorem Ss.cast {o' : Out} (h : Ss C sc rest ρ o) (q : o = o') : Ss C sc rest ρ o' := q ▸ h
theorem Sx.cast {o' : Out} (h : Sx C sc st ρ o) (q : o = o') : Sx C sc st ρ o' := q ▸ h
theorem Sx.pass : Sx C sc (.Pass pos) ρ (.nx ρ) := fun X F po G0 H0 σ G H D E p => toS ps_pass (p σ G H E)
theorem Sx.brk : Sx C sc (.Break pos) ρ (.bk ρ) := fun X F po G0 H0 σ G H D E p => toS ps_break (p σ G H E)
theorem Sx.cont : Sx C sc (.Continue pos) ρ (.ct ρ) := fun X F po G0 H0 σ G H D E p => toS ps_continue (p σ G H E)
theorem Sx.expr (h : Eo C sc e ρ t) (hs : ∀ env, swapsWith e none pos.line env = pure false := by intro _; rfl) : Sx C sc (.Expr e pos) ρ (.nx ρ) := fun X F po G0 H0 σ G H D E p =>
  toS (ps_expr pe_wp (hs _)) (h X F σ G H _ E.sl fun v G' H' ow s n o => p σ G' H' (E.step s))
theorem Sx.ret (h : Eo C sc e ρ t) : Sx C sc (.Return (some e) pos) ρ (.rt t) := fun X F po G0 H0 σ G H D E p => toS (ps_ret pe_wp) (h X F σ G H _ E.sl (Fin.step (show Fin C.K G0 H0 t D.rt from p) E.st))
theorem Sx.retN : Sx C sc (.Return none pos) ρ (.rt (.fz .none)) := fun X F po G0 H0 σ G H D E p => toS ps_retN (Fin.fz' (show Fin C.K G0 H0 _ D.rt from p) E.st .non)
theorem Sx.set (i : Nat) {x : Str} {pos' : Pos} (h : Eo C sc e ρ t) (hi : C.N[i]? = some x := by rfl) (hx : Loc sc.sc x := by first | exact Or.inl rfl | exact Or.inr rfl)
    (hfn : sc.fn x = true ∨ sc.sc.names.lookup x = some .local := by first | exact Or.inl rfl | exact Or.inr rfl)
    (hs : ∀ env : PySem.Env, env.scope = sc.sc → swapsWith e (some (.Name x pos')) pos.line env = pure false := by intro env h; first | rfl | exact sw_cell (by rw [h]; rfl)) : Sx C sc (.Assign [.Name x pos'] e pos) ρ (.nx (ρ.set i (some t))) := fun X F po G0 H0 σ G H D E p =>
  toS (ps_set (i := i) F.nd (by rw [F.N]; exact hi) (by rw [F.scq]; exact hx) pe_wp (hs _ F.scq) (hfn.imp (F.fn x) fun z => by rw [F.scq]; exact z)) (h X F σ G H _ E.sl fun v G' H' ow s n o => p _ _ _ (E.set s n o))
theorem Sx.asg {d : PyData} {as : List (Nat × PyData)} (h : Eo C sc e ρ (.fz d)) (g : Gt C sc tg d as) (hs : ∀ env, swapsWithSole [tg] e pos.line env = pure false := by intro _; rfl) (hw : ∀ env, swappedStores [tg] e env = pure none := by intro _; rfl)
    (h1 : ∀ env, (assignEach [tg] env).map (·.2) = [assign tg env] := by intro _; rfl) : Sx C sc (.Assign [tg] e pos) ρ (.nx (setR ρ as)) := fun X F po G0 H0 σ G H D E p =>
  toS (ps_asg pe_wp pg_wp (hs _) (hw _) (h1 _)) (h X F σ G H _ E.sl fun v G' H' ow s n o => by
    cases o with
    | fz o => exact g X F v σ G' H' _ s.gh o fun vs hv => p _ _ _ ((E.step s).setAll hv))
theorem Sx.if_ (h : Et C sc c ρ k) (h1 : k = true → Ss C sc body ρ o) (h2 : k = false → Ss C sc body2 ρ o) : Sx C sc (.If c body body2 pos) ρ o := fun X F po G0 H0 σ G H D E p =>
  toS (ps_if pt_wp pss_wp pss_wp) (h X F σ G H _ E.sl fun G' H' s => by
    cases k with
    | true => exact iteT (h1 rfl X F po G0 H0 σ G' H' D (E.step s) p)
    | false => exact iteF (h2 rfl X F po G0 H0 σ G' H' D (E.step s) p))
/-- name op= whole number -/
theorem Sx.augAdd (i : Nat) {x : Str} {pos' : Pos} {a b : Int} (hv : ρ[i]? = some (some (.fz (.int a)))) (h : Eo C sc e ρ (.fz (.int b))) (hi : C.N[i]? = some x := by rfl) (hx : Loc sc.sc x := by first | exact Or.inl rfl | exact Or.inr rfl)
    (hfn : sc.fn x = true ∨ sc.sc.names.lookup x = some .local := by first | exact Or.inl rfl | exact Or.inr rfl) : Sx C sc (.AugAssign (.Name x pos') .Add e pos) ρ (.nx (ρ.set i (some (.fz (.int (a + b)))))) := fun X F po G0 H0 σ G H D E p => by
  obtain ⟨ow, h1, h2⟩ := E.own
  obtain ⟨v, q1, q2⟩ := h2 i _ hv
  cases q2.to rfl with
  | fz q2 =>
    refine toS (ps_aug (i := i) F.nd (by rw [F.N]; exact hi) (by rw [F.scq]; exact hx) pe_wp ip_add (hfn.imp (F.fn x) fun z => by rw [F.scq]; exact z)) ⟨v, q1, h X F σ G H _ E.sl fun w G' H' ow s n o => ?_⟩
    cases o with
    | fz o => exact ⟨a, b, q2.int_eq, o.int_eq, p _ _ _ ((E.step s).setFz (.int _))⟩
theorem Sx.augSub (i : Nat) {x : Str} {pos' : Pos} {a b : Int} (hv : ρ[i]? = some (some (.fz (.int a)))) (h : Eo C sc e ρ (.fz (.int b))) (hi : C.N[i]? = some x := by rfl) (hx : Loc sc.sc x := by first | exact Or.inl rfl | exact Or.inr rfl)
    (hfn : sc.fn x = true ∨ sc.sc.names.lookup x = some .local := by first | exact Or.inl rfl | exact Or.inr rfl) : Sx C sc (.AugAssign (.Name x pos') .Sub e pos) ρ (.nx (ρ.set i (some (.fz (.int (a - b)))))) := fun X F po G0 H0 σ G H D E p => by
  obtain ⟨ow, h1, h2⟩ := E.own
  obtain ⟨v, q1, q2⟩ := h2 i _ hv
  cases q2.to rfl with
  | fz q2 =>
    refine toS (ps_aug (i := i) F.nd (by rw [F.N]; exact hi) (by rw [F.scq]; exact hx) pe_wp ip_sub (hfn.imp (F.fn x) fun z => by rw [F.scq]; exact z)) ⟨v, q1, h X F σ G H _ E.sl fun w G' H' ow s n o => ?_⟩
    cases o with
    | fz o => exact ⟨a, b, q2.int_eq, o.int_eq, p _ _ _ ((E.step s).setFz (.int _))⟩
end
/-! ### owned slots -/
section
variable {K : PySem.W.Frag} {G0 H0 G H : Hp} {σ : St} {ρ : Rho}
/-- an owned slot as the value of a return -/
theorem Env.give {i : Nat} {t : OD} (E : Env K G0 H0 G H σ ρ) (h : ρ[i]? = some (some t)) (ha : t.isAt = false) : ∃ v ow, σ[i]? = some (some v) ∧ OwN G H0 H ow ∧ OAt K G H ow [] v t := by
  obtain ⟨ow, h1, h2⟩ := E.own
  obtain ⟨v, q1, q2⟩ := h2 i t h
  refine ⟨v, fun a => match ow a with | some π => if [i] <:+ π then some π.dropLast else none | none => none, q1, fun a π q => ?_, ?_⟩
  · try dsimp only at q
    cases q3 : ow a with
    | none => rw [q3] at q; cases q
    | some π1 => exact ⟨(h1 a π1 q3).1, (h1 a π1 q3).2.1, (h1 a π1 q3).2.2⟩
  · refine OAt_rel (fun π π' => π = π' ++ [i]) (fun k π π' r => by rw [r]; rfl) (Same.refl _) (fun a π π' o p1 p2 p3 => ⟨p3, ?_⟩) t [i] [] v rfl (q2.to ha)
    try dsimp only
    rw [p1]
    subst p2
    try dsimp only
    rw [if_pos (List.suffix_append _ _), List.dropLast_concat]
/-- a slot is frozen for good -/
theorem Env.freeze (i : Nat) {t : OD} (E : Env K G0 H0 G H σ ρ) (h : ρ[i]? = some (some t)) (ha : t.isAt = false) : ∃ G', Env K G0 H0 G' H σ (ρ.set i (some (.fz t.data))) := by
  obtain ⟨ow, h1, h2⟩ := E.own
  obtain ⟨v, q1, q2⟩ := h2 i t h
  -- what the slot owns goes to the frozen part
  let ow1 : Ow := fun a => match ow a with | some π => if [i] <:+ π then some π else none | none => none
  let ow2 : Ow := fun a => match ow a with | some π => if [i] <:+ π then none else some π | none => none
  have hn1 : ∀ a π, ow1 a = some π → ow a = some π := fun a π q => by
    change (match ow a with | some π => if [i] <:+ π then some π else none | none => none) = some π at q
    cases q3 : ow a with
    | none => rw [q3] at q; cases q
    | some π1 =>
      rw [q3] at q
      dsimp only at q
      split at q
      · exact q
      · cases q
  have hn2 : ∀ a π, ow2 a = some π → ow a = some π ∧ ow1 a = none := fun a π q => by
    change (match ow a with | some π => if [i] <:+ π then none else some π | none => none) = some π at q
    show _ ∧ (match ow a with | some π => if [i] <:+ π then some π else none | none => none) = none
    cases q3 : ow a with
    | none => rw [q3] at q; cases q
    | some π1 =>
      rw [q3] at q
      dsimp only at q ⊢
      split at q
      · cases q
      · rename_i hs
        rw [if_neg hs]
        exact ⟨q, rfl⟩
  have hG : ∀ a π, ow1 a = some π → G a = none := fun a π q => (h1 a π (hn1 a π q)).2.1
  have o1 : OAt K G H ow1 [i] v t := OAt_under [i] (Same.refl _) (fun a π o p1 p2 p3 => ⟨p3, by
    show (match ow a with | some π => if [i] <:+ π then some π else none | none => none) = some π
    rw [p1]
    dsimp only
    rw [if_pos p2]⟩) t [i] v (List.suffix_refl _) (q2.to ha)
  have d1 := OAt_freeze hG t [i] v o1
  have s1 := allFz_same (H := H) hG
  refine ⟨allFz G H ow1, ⟨E.st.g.trans s1, E.st.h, allFz_sub E.st.gh, fun a p q => ?_⟩, by rw [List.length_set]; exact E.len, ow2, fun a π q => ?_, fun j u q => ?_⟩
  · unfold allFz at p
    cases q3 : ow1 a with
    | none => rw [q3] at p; exact E.st.nw a p q
    | some π => exact (h1 a π (hn1 a π q3)).1
  · obtain ⟨p1, p2⟩ := hn2 a π q
    refine ⟨(h1 a π p1).1, ?_, (h1 a π p1).2.2⟩
    unfold allFz
    rw [p2]
    exact (h1 a π p1).2.1
  · by_cases z : i = j
    · subst z
      by_cases hi : i < ρ.length
      · rw [List.getElem?_set_self hi] at q
        cases q
        exact ⟨v, q1, .of (.fz d1)⟩
      · rw [List.getElem?_eq_none (by simpa using hi)] at q; cases q
    · rw [List.getElem?_set_ne z] at q
      obtain ⟨w, r1, r2⟩ := h2 j u q
      refine ⟨w, r1, r2.map fun r2 => OAt_under [j] s1 (fun a π o p1 p2 p3 => ⟨p3, ?_⟩) u [j] w (List.suffix_refl _) r2⟩
      show (match ow a with | some π => if [i] <:+ π then none else some π | none => none) = some π
      rw [p1]
      dsimp only
      rw [if_neg]
      intro p4
      obtain ⟨x, hx⟩ := p2
      obtain ⟨y, hy⟩ := p4
      have e2 := congrArg List.getLast? (hx.trans hy.symm)
      rw [List.getLast?_append, List.getLast?_append] at e2
      simp at e2
      exact z e2.symm
theorem OAll.imp {G' H' : Hp} {ow ow' : Ow} {π : List Nat} (f : ∀ (j : Nat) v t, OAt K G H ow (j :: π) v t → OAt K G' H' ow' (j :: π) v t) : ∀ {ts : List OD} {k : Nat} {vs : List V}, OAll K G H ow π k vs ts → OAll K G' H' ow' π k vs ts
  | [], _, _, h => by cases h; exact .nil
  | t :: ts, k, _, h => by
    cases h with
    | cons a b => exact .cons (f _ _ _ a) (OAll.imp f b)
/-- an owned list of a slot is written -/
theorem Env.write {i : Nat} {a : Addr} {ow ow1 : Ow} {vs' : List V} {ts' : List OD} {G1 H1 : Hp} (E : Env K G0 H0 G H σ ρ) (hi : i < ρ.length) (hσ : σ[i]? = some (some (.ref a))) (h1 : ∀ a π, ow a = some π → H0 a = none ∧ G a = none ∧ H a ≠ none)
    (h2 : ∀ (i : Nat) t, ρ[i]? = some (some t) → ∃ v, σ[i]? = some (some v) ∧ Cel K G H ow [i] v t) (ha : ow a = some [i]) (s : Step G H G1 H1)
    (hx : ∀ b π, ow1 b = some π → H b = none ∧ G1 b = none ∧ H1 b ≠ none)
    (hn : OAll K G1 H1 (fun b => match ow1 b with | some π => some π | none => ow b) [i] 0 vs' ts') :
    Env K G0 H0 G1 (upd H1 a (.lst vs')) σ (ρ.set i (some (.ls ts'))) := by
  have hk := ow_keep s (fun a π q => (h1 a π q).2)
  have hH0 := (h1 a _ ha).1
  have hGa := (hk a _ ha).1
  have hx1 : ∀ b, ow1 b ≠ none → ow b = none := fun b q => by
    cases q1 : ow b with
    | none => rfl
    | some π1 =>
      cases q2 : ow1 b with
      | none => exact absurd q2 q
      | some π2 => exact absurd (hx b π2 q2).1 (h1 b π1 q1).2.2
  have owa : ow1 a = none := by
    cases q1 : ow1 a with
    | none => rfl
    | some π1 => rw [hx1 a (by rw [q1]; simp)] at ha; cases ha
  refine ⟨⟨E.st.g.trans s.g, fun b o q => ?_, fun b o q => ?_, fun b p q => ?_⟩, by rw [List.length_set]; exact E.len, fun b => match ow1 b with | some π => some π | none => ow b, fun b π q => ?_, fun j u q => ?_⟩
  · rw [upd_ne (ne_of_none q hH0)]; exact s.h _ _ (E.st.h _ _ q)
  · rw [upd_ne (ne_of_none q hGa)]; exact s.gh _ _ q
  · by_cases z : G b = none
    · exact E.st.h.free (s.nw b p z)
    · exact E.st.nw b z q
  · try dsimp only at q
    cases q1 : ow1 b with
    | some π1 =>
      obtain ⟨p1, p2, p3⟩ := hx b π1 q1
      refine ⟨E.st.h.free p1, p2, ?_⟩
      by_cases z : b = a
      · subst z; rw [upd_same]; simp
      · rw [upd_ne z]; exact p3
    | none =>
      rw [q1] at q
      refine ⟨(h1 b π q).1, (hk b π q).1, ?_⟩
      by_cases z : b = a
      · subst z; rw [upd_same]; simp
      · rw [upd_ne z]; exact (hk b π q).2
  · by_cases z : i = j
    · subst z
      rw [List.getElem?_set_self hi] at q
      cases q
      refine ⟨.ref a, hσ, .of (.ls ?_ upd_same ?_)⟩
      · try dsimp only
        rw [owa]
        exact ha
      · -- the children do not live at a: their paths are longer
        refine OAll.imp (fun j v t q => OAt_rel (fun π π' => π = π' ∧ 2 ≤ π.length) (fun k π π' r => ⟨by rw [r.1], Nat.le_succ_of_le r.2⟩) (Same.refl _) (fun b π π' o p1 p2 p3 => ?_) t (j :: [i]) (j :: [i]) v ⟨rfl, Nat.le_refl 2⟩ q) hn
        obtain ⟨rfl, p2⟩ := p2
        refine ⟨?_, p1⟩
        rw [upd_ne]
        · exact p3
        · rintro rfl
          try dsimp only at p1
          rw [owa, ha] at p1
          cases p1
          simp at p2
    · rw [List.getElem?_set_ne z] at q
      obtain ⟨w, r1, r2⟩ := h2 j u q
      refine ⟨w, r1, r2.map fun r2 => OAt_under [j] s.g (fun b π o p1 p2 p3 => ?_) u [j] w (List.suffix_refl _) r2⟩
      refine ⟨?_, ?_⟩
      · rw [upd_ne]
        · exact s.h _ _ p3
        · rintro rfl
          rw [ha] at p1
          cases p1
          obtain ⟨x, hx⟩ := p2
          have e2 := congrArg List.getLast? hx
          rw [List.getLast?_append] at e2
          simp at e2
          exact z e2.symm
      · try dsimp only
        cases q1 : ow1 b with
        | none => exact p1
        | some π1 => rw [hx1 b (by rw [q1]; simp)] at p1; cases p1
end
/-! ### statements about owned slots -/
section
variable {C : Cn} {sc : Scp} {ρ : Rho} {rest : List Stmt} {e : Expr} {pos pos' apos cpos : Pos} {o : Out} {t : OD} {x : Str}
theorem Vis.of_loc {sc : Scope} {x : Str} (h : Loc sc x) : Vis sc x := h.imp id fun z => .inl z
/-- return of an owned name -/
theorem Sx.retOwn (i : Nat) (h : ρ[i]? = some (some t)) (ha : t.isAt = false) (hN : C.N[i]? = some x := by rfl) (hv : Vis sc.sc x := by first | exact Or.inl rfl | exact Or.inr (Or.inl rfl) | exact Or.inr (Or.inr rfl))
    (hd : (x == ("__debug__" : Str)) = false := by decide) (hcd : (x == ("__classdict__" : Str)) = false := by decide) : Sx C sc (.Return (some (.Name x pos')) pos) ρ (.rt t) := fun X F po G0 H0 σ G H D E p => by
  obtain ⟨v, ow, q1, q2, q3⟩ := E.give h ha
  exact toS (ps_ret (pe_var (i := i) (by rw [F.N]; exact hN) (by rw [F.scq]; exact hv) hd hcd)) ⟨v, q1, (show Fin C.K G0 H0 t D.rt from p) v G H ow E.st q2 q3⟩
/-- from here on a slot is frozen -/
theorem Ss.freeze (i : Nat) (h : ρ[i]? = some (some t)) (ha : t.isAt = false) (q : Ss C sc rest (ρ.set i (some (.fz t.data))) o) : Ss C sc rest ρ o := fun X F po G0 H0 σ G H D E p => by
  obtain ⟨G', E'⟩ := E.freeze i h ha
  exact q X F po G0 H0 σ G' H D E' p
/-- x.append(e), x an owned list -/
theorem Sx.append (i : Nat) {ts : List OD} (h : ρ[i]? = some (some (.ls ts))) (he : Eo C sc e ρ t) (hz : ts.length < sizeLine) (hN : C.N[i]? = some x := by rfl) (hv : Vis sc.sc x := by first | exact Or.inl rfl | exact Or.inr (Or.inl rfl) | exact Or.inr (Or.inr rfl))
    (hd : (x == ("__debug__" : Str)) = false := by decide) (hcd : (x == ("__classdict__" : Str)) = false := by decide)
    (hbase : ∀ env, attributeBase (.Name x pos') "append" env (eval (.Name x pos') env) = eval (.Name x pos') env := by intro _; rfl)
    (hfew : ∀ env, ((backTo cpos (starEach [e] env)).all (fun x => !x.1) && (backToKw cpos (keywordEach [] env)).all (fun x => x.1.isSome)
      && decide (([e] : List Expr).length + ([] : List Keyword).length + (if ([] : List Keyword).isEmpty then 0 else 1) < 30)) = true := by intro _; rfl)
    (hline : (apos.endLine == cpos.line) = true := by rfl) (hs : ∀ env, starEach [e] env = (false, eval e env) :: starEach [] env := by intro _; rfl)
    (hsw : ∀ env, swapsWith (.Call (.Attribute (.Name x pos') "append" apos) [e] [] cpos) none pos.line env = pure false := by intro _; rfl) :
    Sx C sc (.Expr (.Call (.Attribute (.Name x pos') "append" apos) [e] [] cpos) pos) ρ (.nx (ρ.set i (some (.ls (ts ++ [t]))))) := fun X F po G0 H0 σ G H D E p => by
  obtain ⟨ow, h1, h2⟩ := E.own
  obtain ⟨v, q1, q2⟩ := h2 i _ h
  have hi : i < ρ.length := (List.getElem?_eq_some_iff.mp h).1
  cases q2.to rfl with
  | ls a1 a2 a3 =>
    rename_i a vs
    refine toS (ps_expr (pe_bm PySem.F.plainAttrs_list PySem.F.slot_list_append PySem.F.type_list_append mt_append (pe_var (i := i) (by rw [F.N]; exact hN) (by rw [F.scq]; exact hv) hd hcd) (pa_cons pe_wp pa_nil (hs _)) (hbase _) (hfew _) hline (hs _) rfl) (hsw _)) ?_
    refine ⟨_, q1, .inl ⟨rfl, _, .inl (.inl a2)⟩, he X F σ G H _ E.sl fun w G1 H1 ow1 s n o => ?_⟩
    refine ⟨a, vs, w, rfl, rfl, s.h _ _ a2, by rw [a3.length]; exact hz, ?_⟩
    refine p _ _ _ (Env.write (ow1 := fun b => (ow1 b).map (· ++ [ts.length, i])) E hi q1 h1 h2 a1 s (fun b π q => ?_) (OAll.append ?_ (.cons ?_ .nil)))
    · cases q3 : ow1 b with
      | none => rw [q3] at q; cases q
      | some π1 => exact n b π1 q3
    · refine OAll_rel (fun π π' => π = π') (fun k π π' r => by rw [r]) s.g (fun b π π' o' p1 p2 p3 => ⟨s.h _ _ p3, ?_⟩) ts [i] [i] 0 vs rfl a3
      subst p2
      try dsimp only
      cases q3 : ow1 b with
      | none => exact p1
      | some π1 => exact absurd (n b π1 q3).1 (h1 b _ p1).2.2
    · rw [Nat.zero_add]
      refine OAt_rel (fun π π' => π' = π ++ [ts.length, i]) (fun k π π' r => by rw [r]; rfl) (Same.refl _) (fun b π π' o' p1 p2 p3 => ⟨p3, ?_⟩) t [] [ts.length, i] w rfl o
      try dsimp only
      rw [p1, p2]
      rfl
end
end NW
namespace NW
open PySem PySem.Spec L2
open PyProof.Rows hiding St
/-! ### what is walked -/
structure Walks (K : PySem.W.Frag) (J : It) (ds : List PyData) (G : Hp) : Prop where
  go : ∀ G2 H2, Same G G2 → Same G2 H2 → ∀ (i : Nat) d, ds[i]? = some d → J.go i H2 ∧ ∀ x H3, J.yld i H2 x H3 → ∃ G3, Step G2 H2 G3 H3 ∧ Dp K G3 x d
  stop : ∀ G2 H2, Same G G2 → Same G2 H2 → ∀ i, ds.length ≤ i → J.stop i H2
def Ei (C : Cn) (sc : Scp) (tg iter : Expr) (ρ : Rho) (ds : List PyData) : Prop := ∀ X, Fits C sc X → ∀ σ G H (R : It → Hp → Prop), Sl C.K G H σ ρ → (∀ J G' H', Step G H G' H' → Walks C.K J ds G' → R J H') → wpI X tg iter σ H R
section
variable {C : Cn} {sc : Scp} {ρ : Rho} {tg a b c : Expr} {ds es : List PyData} {pos p : Pos}
theorem Ei.list (h : Eo C sc a ρ (.fz (.list ds))) : Ei C sc tg a ρ ds := fun X F σ G H R S f =>
  toI (pi_list pe_wp) (h X F σ G H _ S fun v G' H' ow s n o => by
    cases o with
    | fz o =>
      obtain ⟨l, xs, rfl, q1, q2⟩ := o.lst_eq
      rw [F.K]
      refine ⟨l, rfl, ⟨xs, s.gh.seq q1⟩, f _ G' H' s ⟨fun G2 H2 s1 s2 i d e => ?_, fun G2 H2 s1 s2 i e => ⟨xs, s2.seq (s1.seq q1), by rw [q2.length]; exact e⟩⟩⟩
      obtain ⟨v, r1, r2⟩ := q2.get e
      refine ⟨⟨xs, v, s2.seq (s1.seq q1), r1⟩, fun x H3 ⟨e1, e2⟩ => ?_⟩
      subst e1
      have e3 := e2 xs (s2.seq (s1.seq q1))
      rw [r1] at e3
      cases e3
      exact ⟨G2, Step.refl s2, r2.mono s1⟩)
theorem Ei.tup (h : Eo C sc a ρ (.fz (.tuple ds))) : Ei C sc tg a ρ ds := fun X F σ G H R S f =>
  toI (pi_tup pe_wp) (h X F σ G H _ S fun v G' H' ow s n o => by
    cases o with
    | fz o =>
      obtain ⟨l, xs, rfl, q1, q2⟩ := o.tup_eq
      rw [F.K]
      refine ⟨l, rfl, ⟨xs, sqT_mono s.gh q1⟩, f _ G' H' s ⟨fun G2 H2 s1 s2 i d e => ?_, fun G2 H2 s1 s2 i e => ⟨xs, sqT_mono s2 (sqT_mono s1 q1), by rw [q2.length]; exact e⟩⟩⟩
      obtain ⟨v, r1, r2⟩ := q2.get e
      refine ⟨⟨xs, v, sqT_mono s2 (sqT_mono s1 q1), r1⟩, fun x H3 ⟨e1, e2⟩ => ?_⟩
      subst e1
      have e3 := e2 xs (sqT_mono s2 (sqT_mono s1 q1))
      rw [r1] at e3
      cases e3
      exact ⟨G2, Step.refl s2, r2.mono s1⟩)
/-- lo, lo + 1, .. n of them -/
def rangeI (lo : Int) (n : Nat) : List Int := (List.range n).map fun k => lo + (k : Nat)
theorem rangeI_length (lo : Int) (n : Nat) : (rangeI lo n).length = n := by simp [rangeI]
theorem walks_range {K : PySem.W.Frag} {lo : Int} {n : Nat} {G : Hp} : Walks K (Itr lo n) ((rangeI lo n).map PyData.int) G := by
  refine ⟨fun G2 H2 s1 s2 i d e => ?_, fun G2 H2 s1 s2 i e => ?_⟩
  · have hi : i < n := by
      have z := (List.getElem?_eq_some_iff.mp e).1
      simpa [rangeI_length] using z
    refine ⟨hi, fun x H3 ⟨e1, e2⟩ => ?_⟩
    subst e1 e2
    refine ⟨G2, Step.refl s2, ?_⟩
    unfold rangeI at e
    rw [List.getElem?_map, List.getElem?_map, List.getElem?_range hi] at e
    cases e
    exact .int _
  · show n ≤ i
    simpa [rangeI_length] using e
theorem Ei.range1 {n : Int} (hm : C.mg "range" = none) (h : Eo C sc a ρ (.fz (.int n))) (hn : n < 2 ^ 62) (hlo : -(2 ^ 62) ≤ n) (hg : sc.sc.names.lookup ("range" : Str) = some .globalImplicit := by rfl) (hs : ∀ env, starEach [a] env = (false, eval a env) :: starEach [] env := by intro _; rfl) :
    Ei C sc tg (.Call (.Name "range" p) [a] [] pos) ρ ((rangeI 0 n.toNat).map PyData.int) := fun X F σ G H R S f =>
  toI (pi_range1 (show X.env.scope.names.lookup ("range" : Str) = _ by rw [F.scq]; exact hg) (by rw [F.mg]; exact hm) pa_wp (hs _)) (Ea.cons (n := 0) h Ea.nil hs X F σ G H _ S fun vs G' H' ow s n' o => by
    cases o with
    | cons o1 o2 =>
      cases o2
      cases o1 with
      | fz o1 => exact ⟨n, by rw [o1.int_eq], hlo, hn, f _ G' H' s walks_range⟩)
theorem Ei.range2 {m n : Int} (hm : C.mg "range" = none) (ha : Eo C sc a ρ (.fz (.int m))) (hb : Eo C sc b ρ (.fz (.int n))) (hz : -(2 ^ 62) ≤ m ∧ m < 2 ^ 62 ∧ -(2 ^ 62) ≤ n ∧ n < 2 ^ 62) (hg : sc.sc.names.lookup ("range" : Str) = some .globalImplicit := by rfl)
    (hs : ∀ env, starEach [a, b] env = (false, eval a env) :: starEach [b] env := by intro _; rfl) (hs2 : ∀ env, starEach [b] env = (false, eval b env) :: starEach [] env := by intro _; rfl) :
    Ei C sc tg (.Call (.Name "range" p) [a, b] [] pos) ρ ((rangeI m (n - m).toNat).map PyData.int) := fun X F σ G H R S f =>
  toI (pi_range2 (show X.env.scope.names.lookup ("range" : Str) = _ by rw [F.scq]; exact hg) (by rw [F.mg]; exact hm) pa_wp (by rw [hs, hs2]; rfl) (by rw [hs2]; rfl)) (Ea.cons (n := 0) ha (Ea.cons hb Ea.nil hs2) hs X F σ G H _ S fun vs G' H' ow s n' o => by
    cases o with
    | cons o1 o2 =>
      cases o2 with
      | cons o2 o3 =>
        cases o3
        cases o1 with
        | fz o1 =>
          cases o2 with
          | fz o2 => exact ⟨m, n, by rw [o1.int_eq, o2.int_eq], hz, f _ G' H' s walks_range⟩)
/-- the pairs of an enumerate -/
def enumD (ds : List PyData) : List PyData := (List.range ds.length).map fun i => .tuple [.int (i : Nat), ds.getD i .none]
theorem Ei.enum {elts : List Expr} {kk : Nat} {tpos : Pos} (hm : C.mg "enumerate" = none) (h : Eo C sc a ρ (.fz (.list ds))) (hg : sc.sc.names.lookup ("enumerate" : Str) = some .globalImplicit := by rfl) (hs : ∀ env, starEach [a] env = (false, eval a env) :: starEach [] env := by intro _; rfl) :
    Ei C sc (.Tuple elts kk tpos) (.Call (.Name "enumerate" p) [a] [] pos) ρ (enumD ds) := fun X F σ G H R S f =>
  toI (pi_enum (show X.env.scope.names.lookup ("enumerate" : Str) = _ by rw [F.scq]; exact hg) (by rw [F.mg]; exact hm) pa_wp (hs _)) (Ea.cons (n := 0) h Ea.nil hs X F σ G H _ S fun vs G' H' ow s n' o => by
    cases o with
    | cons o1 o2 =>
      cases o2
      cases o1 with
      | fz o1 =>
        obtain ⟨l, xs, rfl, q1, q2⟩ := o1.lst_eq
        rw [F.K]
        refine ⟨l, xs, rfl, s.gh.seq q1, f _ G' H' s ⟨fun G2 H2 s1 s2 i d e => ?_, fun G2 H2 s1 s2 i e => ⟨xs, s2.seq (s1.seq q1), by rw [q2.length]; simpa [enumD] using e⟩⟩⟩
        have hi : i < ds.length := by
          have z := (List.getElem?_eq_some_iff.mp e).1
          simpa [enumD] using z
        obtain ⟨v, r1, r2⟩ := q2.get (List.getElem?_eq_getElem hi)
        refine ⟨⟨xs, v, s2.seq (s1.seq q1), r1⟩, fun y H3 ⟨T, x, e1, e2, e3, e4⟩ => ?_⟩
        subst e1 e3
        have e5 := e4 xs (s2.seq (s1.seq q1))
        rw [r1] at e5
        cases e5
        unfold enumD at e
        rw [List.getElem?_map, List.getElem?_range hi] at e
        cases e
        have e6 : ds.getD i .none = ds[i] := by rw [List.getD_eq_getElem?_getD, List.getElem?_eq_getElem hi]; rfl
        show ∃ G3, Step G2 H2 G3 (upd H2 T (.tup [V.int (i : Nat), v])) ∧ Dp C.K G3 (.ref T) (.tuple [.int (i : Nat), ds.getD i .none])
        rw [e6]
        have st : Same G2 (upd G2 T (.tup [.int (i : Nat), v])) := fun b o q => by
          rw [upd_ne (ne_of_none (s2 _ _ q) e2)]; exact q
        refine ⟨upd G2 T (.tup [.int (i : Nat), v]), ⟨st, fun b o q => ?_, fun b o q => ?_, fun b q1 q2 => ?_⟩, .tup (SqT.of upd_same) (.cons (.int _) (.cons ((r2.mono s1).mono st) .nil))⟩
        · rw [upd_ne (ne_of_none q e2)]; exact q
        · by_cases z : b = T
          · subst z; rw [upd_same] at q ⊢; exact q
          · rw [upd_ne z] at q ⊢; exact s2 _ _ q
        · by_cases z : b = T
          · subst z; exact e2
          · rw [upd_ne z] at q1; exact absurd q2 q1)
end
/-! ### list comprehensions -/
def wipeR (ρ : Rho) : List Nat → Rho
  | [] => ρ
  | v :: vs => (wipeR ρ vs).set v none
theorem wipeR_length (ρ : Rho) : ∀ vs : List Nat, (wipeR ρ vs).length = ρ.length
  | [] => rfl
  | v :: vs => by unfold wipeR; rw [List.length_set, wipeR_length ρ vs]
theorem wipeR_some {ρ : Rho} {i : Nat} {t : OD} : ∀ {vs : List Nat}, (wipeR ρ vs)[i]? = some (some t) → ρ[i]? = some (some t) ∧ i ∉ vs
  | [], h => ⟨h, by simp⟩
  | v :: vs, h => by
    unfold wipeR at h
    by_cases hi : v = i
    · subst hi
      by_cases hv : v < (wipeR ρ vs).length
      · rw [List.getElem?_set_self hv] at h; cases h
      · rw [List.getElem?_eq_none (by simpa using hv)] at h; cases h
    · rw [List.getElem?_set_ne hi] at h
      obtain ⟨h1, h2⟩ := wipeR_some h
      exact ⟨h1, by simp only [List.mem_cons, not_or]; exact ⟨fun e => hi e.symm, h2⟩⟩
theorem Sl.wipe {K : PySem.W.Frag} {G H : Hp} {σ : St} {ρ : Rho} (S : Sl K G H σ ρ) (vs : List Nat) : Sl K G H (L2.wipe σ vs) (wipeR ρ vs) := by
  refine ⟨S.gh, by rw [wipeR_length, wipe_length]; exact S.len, ?_⟩
  obtain ⟨ow, h1, h2⟩ := S.own
  refine ⟨ow, h1, fun i t q => ?_⟩
  obtain ⟨q1, q2⟩ := wipeR_some q
  obtain ⟨v, r1, r2⟩ := h2 i t q1
  exact ⟨v, by rw [wipe_out q2]; exact r1, r2⟩
theorem wipe_set {σ : St} {i : Nat} {v : Option V} : ∀ {vs : List Nat}, i ∈ vs → L2.wipe (σ.set i v) vs = L2.wipe σ vs
  | [], h => by simp at h
  | w :: vs, h => by
    unfold L2.wipe
    by_cases z : i ∈ vs
    · rw [wipe_set z]
    · have e : i = w := by simpa [z] using h
      subst e
      have aux : ∀ ws : List Nat, i ∉ ws → L2.wipe (σ.set i v) ws = (L2.wipe σ ws).set i v := fun ws => by
        induction ws with
        | nil => intro _; rfl
        | cons u us ih =>
          intro hu
          simp only [List.mem_cons, not_or] at hu
          unfold L2.wipe
          rw [ih hu.2, List.set_comm _ _ hu.1]
      rw [aux vs z, List.set_set]
theorem wipe_setAll : ∀ {is : List Nat} {ws : List V} {σ : St} {vs : List Nat}, (∀ i ∈ is, i ∈ vs) → L2.wipe (setAll σ is ws) vs = L2.wipe σ vs
  | [], _, _, _, _ => rfl
  | _ :: _, [], _, _, _ => rfl
  | i :: is, w :: ws, σ, vs, h => by
    show L2.wipe (setAll (σ.set i (some w)) is ws) vs = _
    rw [wipe_setAll fun j hj => h j (List.mem_cons_of_mem _ hj), wipe_set (h i List.mem_cons_self)]
/-- a clause's tests -/
def wpTs (X : Cx) (ifs : List Expr) : TT := fun σ H Q => ∀ pins s, Inv X pins σ H s → wpAny (model X.prog X.w) X.A (forIn ifs true fun c r => if r = true then do let ok ← isTrue c X.env (eval c X.env); pure (ForInStep.yield ok) else pure (ForInStep.yield r)) (TP X pins σ Q) X.xe s
theorem pts_wp {X : Cx} {ifs : List Expr} : PTs X ifs (wpTs X ifs) := ⟨fun pins s _ _ _ I h => h pins s I⟩
theorem toTs {X : Cx} {ifs : List Expr} {t : TT} {σ : St} {H : Hp} {Q : Bool → Hp → Prop} (h : PTs X ifs t) (q : t σ H Q) : wpTs X ifs σ H Q := fun pins s I => h.run pins s σ H Q I q
def Ets (C : Cn) (sc : Scp) (ifs : List Expr) (ρ : Rho) (b : Bool) : Prop := ∀ X, Fits C sc X → ∀ σ G H (Q : Bool → Hp → Prop), Sl C.K G H σ ρ → (∀ G' H', Step G H G' H' → Q b H') → wpTs X ifs σ H Q
theorem Ets.nil {C : Cn} {sc : Scp} {ρ : Rho} : Ets C sc [] ρ true := fun X F σ G H Q S f => toTs pts_nil (f G H (Step.refl S.gh))
theorem Ets.one {C : Cn} {sc : Scp} {ρ : Rho} {c : Expr} {b : Bool} (h : Et C sc c ρ b) : Ets C sc [c] ρ b := fun X F σ G H Q S f => toTs (pts_one pt_wp) (h X F σ G H Q S f)
theorem Fits.blk {C : Cn} {sc : Scp} {X : Cx} (F : Fits C sc X) (scope : Scope) (s : Shared) (H : Hp) (Cc : Addr) (cl : List (Str × Addr)) (fp : List Addr) : Fits C (sc.blk scope) (X.blk s H scope (compEnvC scope cl Cc X.env) fp) :=
  ⟨F.prog, F.w, F.K, F.mg, F.base, F.N, by show relS scope X.env.scope = relS scope sc.sc; rw [F.scq], fun _ h => h, F.nd, F.calm, F.room, F.gd⟩
section
variable {C : Cn} {sc : Scp} {ρ : Rho} {tg iter elt : Expr} {ifs : List Expr} {pos : Pos}
/-- what a comprehension's turns ask -/
def LcTurn (C : Cn) (sc : Scp) (ρ : Rho) (scope : Scope) (own : List (Str × Nat)) (tg elt : Expr) (ifs : List Expr) (d : PyData) (k : Bool) (t : OD) : Prop :=
  ∃ as, Gt C (sc.blk scope) tg d as ∧ (∀ i ∈ as.map (·.1), i ∈ own.map (·.2)) ∧ Ets C (sc.blk scope) ifs (setR (wipeR ρ (own.map (·.2))) as) k ∧ (k = true → Eo C (sc.blk scope) elt (setR (wipeR ρ (own.map (·.2))) as) t)
theorem lc_reads {β : Type} (xs : List β) (en : β → PyData) (p : β → Bool) (g : β → OD) {scope : Scope} {own : List (Str × Nat)} (hi : Ei C sc tg iter ρ (xs.map en)) (hz : xs.length ≤ sizeLine)
    (h : ∀ x ∈ xs, LcTurn C sc ρ scope own tg elt ifs (en x) (p x) (g x)) {X : Cx} (F : Fits C sc X) {σ : St} {G H : Hp} {Q : VK} (S : Sl C.K G H σ ρ) (f : Fin C.K G H (.ls ((xs.filter p).map g)) Q) :
    tLc (wpI X tg iter) (fun v σ' H' Q' => ∀ s Hs Cc cl fp, wpG (X.blk s Hs scope (compEnvC scope cl Cc X.env) fp) tg v σ' H' Q') (fun σ' H' Q' => ∀ s Hs Cc cl fp, wpTs (X.blk s Hs scope (compEnvC scope cl Cc X.env) fp) ifs σ' H' Q')
      (fun σ' H' Q' => ∀ s Hs Cc cl fp, wpE (X.blk s Hs scope (compEnvC scope cl Cc X.env) fp) elt σ' H' Q') (own.map (·.2)) σ H Q := by
  refine hi X F σ G H _ S fun J G1 H1 s1 wk D hD => ?_
  refine ⟨fun i m Hc => m = xs.length - i ∧ i ≤ xs.length ∧ ∃ Gc ow acc, Step G1 H1 Gc Hc ∧ (∀ a π, ow a = some π → H1 a = none ∧ Gc a = none ∧ Hc a ≠ none ∧ a ≠ D) ∧ Gc D = none ∧ Hc D = some (.lst acc) ∧ OAll C.K Gc Hc ow [] 0 acc (((xs.take i).filter p).map g),
    ⟨xs.length, by simp, Nat.zero_le _, G1, ow0, [], ⟨Same.refl _, fun b o q => ?_, fun b o q => ?_, fun _ a b => absurd b a⟩, fun a π (q : none = some π) => (nomatch q), s1.gh.free hD, upd_same, .nil⟩, ?_⟩
  · rw [upd_ne (ne_of_none q hD)]; exact q
  · rw [upd_ne (ne_of_none (s1.gh _ _ q) hD)]; exact s1.gh _ _ q
  rintro i m Hc ⟨rfl, hle, Gc, ow, acc, st, hown, hGD, hHD, hacc⟩
  by_cases hlt : i < xs.length
  · have hx : xs[i]? = some xs[i] := List.getElem?_eq_getElem hlt
    have hin : xs[i] ∈ xs := List.getElem_mem hlt
    obtain ⟨as, hg, hin2, ht, hel⟩ := h _ hin
    obtain ⟨go, yl⟩ := wk.go Gc Hc st.g st.gh i (en xs[i]) (by rw [List.getElem?_map, hx]; rfl)
    have htk : xs.take (i + 1) = xs.take i ++ [xs[i]] := by rw [List.take_add_one, hx]; rfl
    refine .inr ⟨go, fun H' => ∃ Gc ow acc, Step G1 H1 Gc H' ∧ (∀ a π, ow a = some π → H1 a = none ∧ Gc a = none ∧ H' a ≠ none ∧ a ≠ D) ∧ Gc D = none ∧ H' D = some (.lst acc) ∧ OAll C.K Gc H' ow [] 0 acc (((xs.take (i + 1)).filter p).map g),
      fun H' hN => ⟨xs.length - (i + 1), by omega, rfl, hlt, hN⟩, fun x H' hy => ?_⟩
    obtain ⟨G3, s3, d3⟩ := yl x H' hy
    intro s Hs Cc cl fp
    have F' := F.blk scope s Hs Cc cl fp
    have S3 : Sl C.K G3 H' σ ρ := ((S.step s1).step st).step s3
    refine hg _ F' x _ G3 H' _ s3.gh d3 fun vs hvs => ⟨wipe_setAll hin2 |>.trans ?_, fun s Hs Cc cl fp => ?_⟩
    · -- wiped twice
      have aux : ∀ (us : List Nat) (τ : St), L2.wipe (L2.wipe τ us) us = L2.wipe τ us := fun us τ => by
        apply List.ext_getElem?
        intro j
        by_cases z : j ∈ us
        · have e1 : ∀ τ : St, (L2.wipe τ us)[j]? = if j < τ.length then some none else none := fun τ => by
            by_cases hj : j < τ.length
            · rw [if_pos hj]
              cases q : (L2.wipe τ us)[j]? with
              | none => rw [List.getElem?_eq_none_iff, wipe_length] at q; omega
              | some o =>
                cases o with
                | none => rfl
                | some u => exact absurd z (wipe_some q).2
            · rw [if_neg hj, List.getElem?_eq_none_iff, wipe_length]; omega
          rw [e1, e1, wipe_length]
        · rw [wipe_out z]
      exact aux _ _
    have F' := F.blk scope s Hs Cc cl fp
    have S4 : Sl C.K G3 H' (setAll (L2.wipe σ (own.map (·.2))) (as.map (·.1)) vs) (setR (wipeR ρ (own.map (·.2))) as) := (S3.wipe _).setAll hvs
    refine ht _ F' _ G3 H' _ S4 fun G4 H4 s4 => ?_
    -- what is known behind the tests
    have hkeep : ∀ {Ga Ha : Hp}, Step Gc Hc Ga Ha → (∀ a π, ow a = some π → H1 a = none ∧ Ga a = none ∧ Ha a ≠ none ∧ a ≠ D) ∧ Ga D = none ∧ Ha D = some (.lst acc) := fun {Ga Ha} sa =>
      ⟨fun a π q => ⟨(hown a π q).1, (ow_keep sa (fun a π q => ⟨(hown a π q).2.1, (hown a π q).2.2.1⟩) a π q).1, fun z => (hown a π q).2.2.1 (sa.h.free z), (hown a π q).2.2.2⟩, (by
        by_cases z : Ga D = none
        · exact z
        · have zz := sa.nw D z hGD
          rw [zz] at hHD
          cases hHD), sa.h _ _ hHD⟩
    cases hp : p xs[i] with
    | false =>
      refine iteF ?_
      obtain ⟨k1, k2, k3⟩ := hkeep (s3.trans s4)
      refine ⟨G4, ow, acc, (st.trans s3).trans s4, k1, k2, k3, ?_⟩
      rw [htk, List.filter_append, show List.filter p [xs[i]] = [] by simp [hp], List.append_nil]
      exact OAll_under [] (s3.trans s4).g (fun a π o q _ q2 => ⟨(s3.trans s4).h _ _ q2, q⟩) _ [] 0 acc List.nil_suffix hacc
    | true =>
      refine iteT fun s Hs Cc cl fp => ?_
      refine hel hp _ (F.blk scope s Hs Cc cl fp) _ G4 H4 _ (S4.step s4) fun y G5 H5 ow5 s5 n5 o5 => ?_
      have s35 := (s3.trans s4).trans s5
      obtain ⟨k1, k2, k3⟩ := hkeep s35
      refine ⟨acc, k3, ?_, ?_⟩
      · have e1 := hacc.length
        have e2 : (((xs.take i).filter p).map g).length ≤ i := by
          rw [List.length_map]
          exact Nat.le_trans (List.length_filter_le _ _) (by rw [List.length_take]; exact Nat.min_le_left _ _)
        omega
      · have hH4D : H4 D = some (.lst acc) := (hkeep (s3.trans s4)).2.2
        have n5D : ∀ b π, ow5 b = some π → b ≠ D := fun b π q e => by
          rw [e] at q
          rw [(n5 D π q).1] at hH4D; cases hH4D
        have n5o : ∀ b π, ow5 b = some π → ow b = none := fun b π q => by
          cases q1 : ow b with
          | none => rfl
          | some π1 => exact absurd (n5 b π q).1 ((hkeep (s3.trans s4)).1 b π1 q1).2.2.1
        refine ⟨G5, fun b => match ow5 b with | some π => some (π ++ [(((xs.take i).filter p).map g).length]) | none => ow b, acc ++ [y], ⟨st.g.trans s35.g, fun b o q => ?_, fun b o q => ?_, fun b q1 q2 => ?_⟩, fun b π q => ?_, k2, upd_same, ?_⟩
        · rw [upd_ne (ne_of_none q hD)]; exact s35.h _ _ (st.h _ _ q)
        · rw [upd_ne (ne_of_none q k2)]; exact s35.gh _ _ q
        · by_cases z : Gc b = none
          · exact st.h.free (s35.nw b q1 z)
          · exact st.nw b z q2
        · try dsimp only at q
          cases q1 : ow5 b with
          | some π1 =>
            refine ⟨(st.trans (s3.trans s4)).h.free (n5 b π1 q1).1, (n5 b π1 q1).2.1, ?_, n5D b π1 q1⟩
            rw [upd_ne (n5D b π1 q1)]
            exact (n5 b π1 q1).2.2
          | none =>
            rw [q1] at q
            obtain ⟨r1, r2, r3, r4⟩ := k1 b π q
            exact ⟨r1, r2, by rw [upd_ne r4]; exact r3, r4⟩
        · rw [htk, List.filter_append, show List.filter p [xs[i]] = [xs[i]] by simp [hp], List.map_append]
          refine OAll.append ?_ (.cons ?_ .nil)
          · refine OAll_under [] s35.g (fun a π o q _ q2 => ⟨?_, ?_⟩) _ [] 0 acc List.nil_suffix hacc
            · rw [upd_ne (hown a π q).2.2.2]; exact s35.h _ _ q2
            · try dsimp only
              cases q1 : ow5 a with
              | none => exact q
              | some π1 => rw [n5o a π1 q1] at q; cases q
          · rw [Nat.zero_add]
            refine OAt_rel (fun π π' => π' = π ++ [(((xs.take i).filter p).map g).length]) (fun k π π' r => by rw [r]; rfl) (Same.refl _) (fun b π π' o' p1 p2 p3 => ⟨?_, ?_⟩) _ [] _ y rfl o5
            · rw [upd_ne (n5D b π p1)]; exact p3
            · try dsimp only
              rw [p1, p2]
  · have e : i = xs.length := by omega
    subst e
    refine .inl ⟨wk.stop Gc Hc st.g st.gh _ (by simp), ?_⟩
    rw [List.take_length] at hacc
    have s0 := s1.trans st
    refine f (.ref D) Gc Hc (fun a => if a = D then some [] else ow a) s0 (fun a π q => ?_) (.ls (if_pos rfl) hHD ?_)
    · try dsimp only at q
      by_cases z : a = D
      · subst z
        exact ⟨s1.h.free hD, hGD, by rw [hHD]; simp⟩
      · rw [if_neg z] at q
        exact ⟨s1.h.free (hown a π q).1, (hown a π q).2.1, (hown a π q).2.2.1⟩
    · refine OAll_under [] (Same.refl _) (fun a π o q _ q2 => ⟨q2, ?_⟩) _ [] 0 acc List.nil_suffix hacc
      try dsimp only
      rw [if_neg (hown a π q).2.2.2]
      exact q
theorem Eo.lc {β : Type} (xs : List β) (en : β → PyData) (p : β → Bool) (g : β → OD) {scope : Scope} (own : List (Str × Nat)) (hi : Ei C sc tg iter ρ (xs.map en)) (hz : xs.length ≤ sizeLine)
    (h : ∀ x ∈ xs, LcTurn C sc ρ scope own tg elt ifs (en x) (p x) (g x)) (ok : blkC C.N sc.sc scope own = true := by first | decide +kernel | (dsimp only; decide +kernel)) (hs : ∀ env x, foldedSetIterable iter env x = pure x := by intro _ _; rfl) :
    Eo C sc (.ListComp elt [⟨tg, iter, ifs, 0⟩] scope pos) ρ (.ls ((xs.filter p).map g)) := fun X F σ G H Q S f =>
  toE (pe_lc F.calm F.nd pi_wp (by rw [F.N, F.scq]; exact blkOk_by ok) (fun s Hs Cc cl fp => ⟨fun pins s' σ' H' v u Q' I r h' => h' s Hs Cc cl fp pins s' u I r⟩) (fun s Hs Cc cl fp => ⟨fun pins s' σ' H' Q' I h' => h' s Hs Cc cl fp pins s' I⟩)
    (fun s Hs Cc cl fp => ⟨fun pins s' σ' H' Q' I h' => h' s Hs Cc cl fp pins s' I⟩) (hs _)) (lc_reads xs en p g hi hz h F S f)
/-- name = [..] of a local name on one line -/
theorem Sx.setLc {β : Type} (i : Nat) {y : Str} {py spos : Pos} (xs : List β) (en : β → PyData) (p : β → Bool) (g : β → OD) {scope : Scope} (own : List (Str × Nat)) (hi : Ei C sc tg iter ρ (xs.map en)) (hz : xs.length ≤ sizeLine)
    (h : ∀ x ∈ xs, LcTurn C sc ρ scope own tg elt ifs (en x) (p x) (g x)) (ok : blkC C.N sc.sc scope own = true := by first | decide +kernel | (dsimp only; decide +kernel)) (hN : C.N[i]? = some y := by rfl) (hyl : sc.sc.names.lookup y = some .local := by rfl)
    (hk : sc.sc.kind = .function := by rfl) (hl : (py.line == pos.line) = true := by rfl) (ha : (scope.names.any fun (n, k) => n == y && (k == .local || k == .cell)) = false := by decide +kernel) (hs : ∀ env x, foldedSetIterable iter env x = pure x := by intro _ _; rfl) :
    Sx C sc (.Assign [.Name y py] (.ListComp elt [⟨tg, iter, ifs, 0⟩] scope pos) spos) ρ (.nx (ρ.set i (some (.ls ((xs.filter p).map g))))) := fun X F po G0 H0 σ G H D E P =>
  toS (ps_setLc (i := i) F.calm F.nd (by rw [F.N]; exact hN) (by rw [F.scq]; exact hyl) (sw_true (by rw [F.scq]; exact hk) (by rw [F.scq]; exact hyl) hl ha) pi_wp (by rw [F.N, F.scq]; exact blkOk_by ok) (fun s Hs Cc cl fp => ⟨fun pins s' σ' H' v u Q' I r h' => h' s Hs Cc cl fp pins s' u I r⟩) (fun s Hs Cc cl fp => ⟨fun pins s' σ' H' Q' I h' => h' s Hs Cc cl fp pins s' I⟩)
    (fun s Hs Cc cl fp => ⟨fun pins s' σ' H' Q' I h' => h' s Hs Cc cl fp pins s' I⟩) (hs _)) (lc_reads xs en p g hi hz h F E.sl fun v G' H' ow s n o => P _ _ _ (E.set s n o))
end
end NW
namespace NW
open PySem PySem.Spec L2
open PyProof.Rows hiding St
/-! ### loops -/
inductive Fl (α γ : Type) where
  | nx (s : α) | bk (s : α) | rt (r : γ)
def forE {α β γ : Type} (step : α → β → Fl α γ) : List β → α → Fl α γ
  | [], s => .nx s
  | x :: xs, s => match step s x with
    | .nx s' => forE step xs s'
    | .bk s' => .bk s'
    | .rt r => .rt r
theorem forE_nil {α β γ : Type} (step : α → β → Fl α γ) (s : α) : forE step [] s = .nx s := rfl
theorem forE_cons {α β γ : Type} (step : α → β → Fl α γ) (x : β) (xs : List β) (s : α) : forE step (x :: xs) s = match step s x with
    | .nx s' => forE step xs s'
    | .bk s' => .bk s'
    | .rt r => .rt r := rfl
theorem forE_foldl {α β γ : Type} (f : α → β → α) : ∀ (xs : List β) (s : α), forE (γ := γ) (fun s x => .nx (f s x)) xs s = .nx (xs.foldl f s)
  | [], _ => rfl
  | x :: xs, s => by
    show forE (γ := γ) (fun s x => .nx (f s x)) xs (f s x) = _
    rw [forE_foldl f xs]
    rfl
/-- a body's outcome, a loop's outcome -/
def Fl.body {α γ : Type} (R B : α → Rho) (T : γ → OD) : Fl α γ → Out
  | .nx s => .nx (R s)
  | .bk s => .bk (B s)
  | .rt r => .rt (T r)
def Fl.loop {α γ : Type} (R B : α → Rho) (T : γ → OD) : Fl α γ → Out
  | .nx s => .nx (R s)
  | .bk s => .nx (B s)
  | .rt r => .rt (T r)
def Out.norm : Out → Out
  | .ct ρ => .nx ρ
  | o => o
section
variable {K : PySem.W.Frag} {G0 H0 G1 H1 : Hp}
theorem Step.base {G' H' : Hp} (a : Step G0 H0 G1 H1) (b : Step G1 H0 G' H') : Step G0 H0 G' H' :=
  ⟨a.g.trans b.g, b.h, b.gh, fun x h h' => by
    by_cases q : G1 x = none
    · exact b.nw x h q
    · exact a.nw x q h'⟩
theorem Step.rebase {G' H' : Hp} (a : Step G0 H0 G' H') (g : Same G0 G1) (e : Same G1 G') : Step G1 H0 G' H' :=
  ⟨e, a.h, a.gh, fun x h h' => a.nw x h (g.free h')⟩
theorem Env.rebase {G H : Hp} {σ : St} {ρ : Rho} (E : Env K G0 H0 G H σ ρ) : Env K G H0 G H σ ρ := ⟨E.st.rebase E.st.g (Same.refl _), E.len, E.own⟩
theorem Env.base {G H : Hp} {σ : St} {ρ : Rho} (a : Step G0 H0 G1 H1) (E : Env K G1 H0 G H σ ρ) : Env K G0 H0 G H σ ρ := ⟨a.base E.st, E.len, E.own⟩
theorem Post.rebase {D : Ends} (a : Step G0 H0 G1 H1) : ∀ {o : Out}, Post K G0 H0 D o → Post K G1 H0 D o
  | .nx _, p => fun σ G H E => p σ G H (E.base a)
  | .bk _, p => fun σ G H E => p σ G H (E.base a)
  | .ct _, p => fun σ G H E => p σ G H (E.base a)
  | .rt _, p => fun v G' H' ow s n o => (show Fin K G0 H0 _ D.rt from p) v G' H' ow (a.base s) n o
end
section
variable {C : Cn} {sc : Scp} {ρ : Rho} {tg iter c : Expr} {body : List Stmt} {pos : Pos}
/-- one turn of a for -/
def ForTurn {α γ : Type} (C : Cn) (sc : Scp) (tg : Expr) (body : List Stmt) (ρ : Rho) (d : PyData) (R B : α → Rho) (T : γ → OD) (r : Fl α γ) : Prop :=
  ∃ as o, Gt C sc tg d as ∧ Ss C sc body (setR ρ as) o ∧ OutLe (r.body R B T) o.norm
theorem Sx.forE {α β γ : Type} (xs : List β) (en : β → PyData) (step : α → β → Fl α γ) (s0 : α) (R B : α → Rho) (T : γ → OD) (Iv : Nat → α → Prop) (hi : Ei C sc tg iter ρ (xs.map en)) (h0 : Le (R s0) ρ) (i0 : Iv 0 s0)
    (hs : ∀ i s x, xs[i]? = some x → Iv i s → ForTurn C sc tg body (R s) (en x) R B T (step s x) ∧ ∀ s', step s x = .nx s' → Iv (i + 1) s')
    (hfs : ∀ env x, foldedSetIterable iter env x = pure x := by intro _ _; rfl) : Sx C sc (.For tg iter body [] pos) ρ ((NW.forE step xs s0).loop R B T) := by
  intro X F po G0 H0 σ G H D E p
  refine toS (ps_for po F.calm pi_wp pg_wp pss_wp (hfs _)) (hi X F σ G H _ E.sl fun J G1 H1 s1 wk => ?_)
  have E1 := E.step s1
  have p1 := Post.rebase E1.st p
  refine ⟨fun i m σ' H' => m = xs.length - i ∧ i ≤ xs.length ∧ ∃ s Gc, Env C.K G1 H0 Gc H' σ' (R s) ∧ Iv i s ∧ NW.forE step (xs.drop i) s = NW.forE step xs s0,
    ⟨xs.length, by simp, Nat.zero_le _, s0, G1, E1.rebase.le h0, i0, rfl⟩, ?_⟩
  rintro i m σ' H' ⟨rfl, hle, s, Gc, Ec, iv, he⟩
  by_cases hlt : i < xs.length
  · have hx : xs[i]? = some xs[i] := List.getElem?_eq_getElem hlt
    obtain ⟨⟨as, o, hg, hb, hol⟩, hnext⟩ := hs i s _ hx iv
    obtain ⟨go, yl⟩ := wk.go Gc H' Ec.st.g Ec.st.gh i (en xs[i]) (by rw [List.getElem?_map, hx]; rfl)
    have hdr : xs.drop i = xs[i] :: xs.drop (i + 1) := List.drop_eq_getElem_cons hlt
    rw [hdr, forE_cons] at he
    refine .inr ⟨go, fun σ2 H2 => ∃ s' Gd, step s xs[i] = .nx s' ∧ Env C.K G1 H0 Gd H2 σ2 (R s'), ?_, ?_⟩
    · rintro σ2 H2 ⟨s', Gd, q1, q2⟩
      refine ⟨xs.length - (i + 1), by omega, rfl, hlt, s', Gd, q2, hnext s' q1, ?_⟩
      rw [q1] at he
      exact he
    · intro x H2 hy
      obtain ⟨G3, s3, d3⟩ := yl x H2 hy
      have E3 := Ec.step s3
      refine hg X F x σ' G3 H2 _ E3.st.gh d3 fun vs hvs => ?_
      refine hb X F po G1 H0 _ G3 H2 _ (E3.setAll hvs) ?_
      -- what the body's outcome gives
      have hnorm : Post C.K G1 H0 { D with nx := fun σ2 H2 => ∃ s' Gd, step s xs[i] = .nx s' ∧ Env C.K G1 H0 Gd H2 σ2 (R s'), ct := fun σ2 H2 => ∃ s' Gd, step s xs[i] = .nx s' ∧ Env C.K G1 H0 Gd H2 σ2 (R s'), bk := D.nx } o.norm := by
        refine Post.le hol ?_
        cases hst : step s xs[i] with
        | nx s' => exact fun σ2 G2 H2 E2 => ⟨s', G2, rfl, E2⟩
        | bk s' =>
          rw [hst] at he
          rw [← he] at p1
          exact p1
        | rt r =>
          rw [hst] at he
          rw [← he] at p1
          exact p1
      cases o with
      | nx _ => exact hnorm
      | rt _ => exact hnorm
      | bk _ => exact hnorm
      | ct _ => exact hnorm
  · have e : i = xs.length := by omega
    subst e
    refine .inl ⟨wk.stop Gc H' Ec.st.g Ec.st.gh _ (by simp), ?_⟩
    rw [List.drop_length, forE_nil] at he
    rw [← he] at p1
    exact p1 σ' Gc H' Ec
/-- a while, with so many turns at most -/
def whileE {α γ : Type} (c : α → Bool) (step : α → Fl α γ) : Nat → α → Option (Fl α γ)
  | 0, s => if c s = true then none else some (.nx s)
  | n + 1, s => if c s = true then (match step s with
    | .nx s' => whileE c step n s'
    | .bk s' => some (.bk s')
    | .rt r => some (.rt r)) else some (.nx s)
theorem mono_wpT' {X : Cx} {e : Expr} : ∀ σ H (Q Q' : Bool → Hp → Prop), (∀ b H1, Q b H1 → Q' b H1) → wpT X e σ H Q → wpT X e σ H Q' := fun _ _ _ _ h q => mono_wpT q h
theorem Sx.whileE {α γ : Type} (cf : α → Bool) (step : α → Fl α γ) (n : Nat) (s0 : α) (r : Fl α γ) (R B : α → Rho) (T : γ → OD) (Iv : α → Prop) (hr : NW.whileE cf step n s0 = some r) (h0 : Le (R s0) ρ) (i0 : Iv s0)
    (hs : ∀ s, Iv s → Et C sc c (R s) (cf s) ∧ (cf s = true → (∃ o, Ss C sc body (R s) o ∧ OutLe ((step s).body R B T) o.norm) ∧ ∀ s', step s = .nx s' → Iv s')) :
    Sx C sc (.While c body [] pos) ρ (r.loop R B T) := by
  intro X F po G0 H0 σ G H D E p
  refine toS (ps_while po pt_wp pss_wp) ⟨fun m σ' H' => ∃ s Gc, Env C.K G0 H0 Gc H' σ' (R s) ∧ Iv s ∧ NW.whileE cf step m s = some r, ⟨n, s0, G, E.le h0, i0, hr⟩, ?_⟩
  rintro m σ' H' ⟨s, Gc, Ec, iv, he⟩
  obtain ⟨ht, hb⟩ := hs s iv
  refine ht X F σ' Gc H' _ Ec.sl fun G2 H2 s2 => ?_
  have E2 := Ec.step s2
  cases hc : cf s with
  | false =>
    refine iteF ?_
    have e2 : r = .nx s := by
      cases m with
      | zero => unfold NW.whileE at he; rw [hc] at he; exact (Option.some.inj he).symm
      | succ m => unfold NW.whileE at he; rw [hc] at he; exact (Option.some.inj he).symm
    subst e2
    exact p σ' G2 H2 E2
  | true =>
    refine iteT ?_
    cases m with
    | zero => unfold NW.whileE at he; rw [hc, if_pos rfl] at he; cases he
    | succ m =>
      unfold NW.whileE at he
      rw [hc, if_pos rfl] at he
      obtain ⟨⟨o, hbo, hol⟩, hnext⟩ := hb hc
      refine ⟨fun σ3 H3 => ∃ s' Gd, step s = .nx s' ∧ Env C.K G0 H0 Gd H3 σ3 (R s'), fun σ3 H3 ⟨s', Gd, q1, q2⟩ => ⟨m, Nat.lt_succ_self _, s', Gd, q2, hnext s' q1, by rw [q1] at he; exact he⟩, ?_⟩
      refine hbo X F po G0 H0 σ' G2 H2 _ E2 ?_
      have hnorm : Post C.K G0 H0 { D with nx := fun σ3 H3 => ∃ s' Gd, step s = .nx s' ∧ Env C.K G0 H0 Gd H3 σ3 (R s'), ct := fun σ3 H3 => ∃ s' Gd, step s = .nx s' ∧ Env C.K G0 H0 Gd H3 σ3 (R s'), bk := D.nx } o.norm := by
        refine Post.le hol ?_
        cases hst : step s with
        | nx s' => exact fun σ2 G2 H2 E2 => ⟨s', G2, rfl, E2⟩
        | bk s' =>
          rw [hst] at he
          have e3 := Option.some.inj he
          rw [← e3] at p
          exact p
        | rt q =>
          rw [hst] at he
          have e3 := Option.some.inj he
          rw [← e3] at p
          exact p
      cases o with
      | nx _ => exact hnorm
      | rt _ => exact hnorm
      | bk _ => exact hnorm
      | ct _ => exact hnorm
end
/-! ### data of one kind -/
section
variable {K : PySem.W.Frag} {G H : Hp}
theorem dpall_ints : ∀ {ns : List Int} {vs : List V}, DpAll K G vs (ns.map PyData.int) → vs = ns.map V.int
  | [], _, h => by cases h; rfl
  | n :: ns, _, h => by
    cases h with
    | cons h1 h2 => rw [h1.int_eq, dpall_ints h2]; rfl
theorem dpall_bools : ∀ {ns : List Bool} {vs : List V}, DpAll K G vs (ns.map PyData.bool) → vs = ns.map V.bl
  | [], _, h => by cases h; rfl
  | n :: ns, _, h => by
    cases h with
    | cons h1 h2 => rw [h1.bl_eq, dpall_bools h2]; rfl
theorem dpall_strs : ∀ {ns : List Str} {vs : List V}, DpAll K G vs (ns.map PyData.str) → vs = ns.map V.str
  | [], _, h => by cases h; rfl
  | n :: ns, _, h => by
    cases h with
    | cons h1 h2 => rw [h1.str_eq, dpall_strs h2]; rfl
theorem ints_dpall : ∀ (ns : List Int), DpAll K G (ns.map V.int) (ns.map PyData.int)
  | [] => .nil
  | n :: ns => .cons (.int n) (ints_dpall ns)
/-- flat data, as == sees it -/
def eqF : PyData → PyData → Bool
  | .none, .none => true
  | .bool a, .bool b => a == b
  | .bool a, .int b => (if a then 1 else 0) == b
  | .int a, .bool b => a == (if b then 1 else 0)
  | .int a, .int b => a == b
  | .str a, .str b => a == b
  | _, _ => false
theorem dp_flat {v : V} {d : PyData} (h : Dp K G v d) (hs : scalarD d = true) : flatV v = true := by
  cases h with
  | lst _ _ => cases hs
  | tup _ _ => cases hs
  | _ => rfl
theorem dp_eqV {v w : V} {d e : PyData} (h1 : Dp K G v d) (h2 : Dp K G w e) (hd : scalarD d = true) (he : scalarD e = true) : eqV v w = eqF d e := by
  cases h1 with
  | lst _ _ => cases hd
  | tup _ _ => cases hd
  | non => cases h2 <;> first | rfl | cases he
  | bl _ => cases h2 <;> first | rfl | cases he
  | int _ => cases h2 <;> first | rfl | cases he
  | str _ => cases h2 <;> first | rfl | cases he
theorem dpall_any : ∀ {ds : List PyData} {vs : List V} {w : V} {e : PyData}, DpAll K G vs ds → Dp K G w e → ds.all scalarD = true → scalarD e = true → vs.all flatV = true ∧ (vs.any fun y => eqV y w) = ds.any fun y => eqF y e
  | [], _, _, _, h, _, _, _ => by cases h; exact ⟨rfl, rfl⟩
  | d :: ds, _, w, e, h, h2, hs, he => by
    cases h with
    | cons h1 ht =>
      simp only [List.all_cons, Bool.and_eq_true] at hs
      obtain ⟨r1, r2⟩ := dpall_any ht h2 hs.2 he
      refine ⟨by simp only [List.all_cons, Bool.and_eq_true]; exact ⟨dp_flat h1 hs.1, r1⟩, ?_⟩
      rw [List.any_cons, List.any_cons, r2, dp_eqV h1 h2 hs.1 he]
end
/-! ### built-in operations on data -/
section
variable {C : Cn} {sc : Scp} {ρ : Rho} {a b c : Expr} {es : List Expr} {pos p : Pos} {ds : List PyData} {d e : PyData} {i j : Int} {ns : List Int}
/-- l + b of lists that are read -/
theorem op_catS {X : Cx} : OpR X (binaryOp .Add) (fun x y H Q => ∃ l b xs zs, x = .ref l ∧ y = .ref b ∧ SqL X.K H l xs ∧ SqL X.K H b zs ∧ xs.length + zs.length ≤ sizeLine ∧ ∀ p, H p = none → Q (.ref p) (upd H p (.lst (xs ++ zs)))) := by
  intro pins s σ H x y v u Q I rx ry h
  obtain ⟨l, b, xs, zs, rfl, rfl, hl, hb, hz, q⟩ := h
  cases rx
  cases ry
  obtain ⟨its, r, ⟨o, n, e1, c1, _, d1⟩, _⟩ := I.list hl
  obtain ⟨its2, r2, ⟨o2, n2, e2, c2, _, d2⟩, _⟩ := I.list hb
  obtain ⟨cls, dd, data, sl⟩ := o
  obtain ⟨cls2, dd2, data2, sl2⟩ := o2
  simp only at c1 d1 c2 d2
  subst c1 d1 c2 d2
  refine concat_meets ⟨_, e1, rfl⟩ ⟨_, e2, rfl⟩ noFill_list_add seq_list_add PySem.F.slot_list_add PySem.F.entry_list_add (PySem.F.args_list_add_2 _ _)
    (list_addW l b its.toArray its2.toArray n n2 dd dd2 sl sl2 (by rw [List.size_toArray, List.size_toArray, ← r.length, ← r2.length]; exact hz)) ⟨e1, e2, ?_⟩
  have ea : its.toArray ++ its2.toArray = (its ++ its2).toArray := by simp
  rw [ea]
  exact ⟨.ref _, _, I.lnew (t' := s.toks) (r.append r2) (by rw [List.length_append]; omega), rfl, q _ I.fresh⟩
theorem Eo.cat {xs ys : List PyData} (ha : Eo C sc a ρ (.fz (.list xs))) (hb : Eo C sc b ρ (.fz (.list ys))) (hz : xs.length + ys.length ≤ sizeLine) : Eo C sc (.BinOp a .Add b pos) ρ (.ls ((xs ++ ys).map .fz)) :=
  Eo.bin (fun X F => op_catS) (fun X F v w G H Q s h1 h2 f => by
    obtain ⟨l, vs, rfl, q1, q2⟩ := h1.lst_eq
    obtain ⟨l2, ws, rfl, q3, q4⟩ := h2.lst_eq
    rw [F.K]
    exact ⟨l, l2, vs, ws, rfl, rfl, s.seq q1, s.seq q3, by rw [q2.length, q4.length]; exact hz, fun p hp => f.newL s hp (q2.append q4)⟩) ha hb
/-- x[i] of a list, of a tuple -/
theorem dp_at {K : PySem.W.Frag} {G : Hp} {vs : List V} (h : DpAll K G vs ds) (q : atI ds i = some d) : ∃ v, atI vs i = some v ∧ Dp K G v d := by
  unfold atI at q ⊢
  rw [h.length]
  cases e : ixN ds.length i with
  | none => rw [e] at q; cases q
  | some j =>
    rw [e] at q
    exact h.get q
theorem Eo.ix (ha : Eo C sc a ρ (.fz (.list ds))) (hb : Eo C sc b ρ (.fz (.int i))) (h : atI ds i = some d) (hs : PlainIx b := by exact fun _ _ => rfl) : Eo C sc (.Subscript a b pos) ρ (.fz d) := fun X F σ G H Q S f =>
  toE (pe_ix ix_list pe_wp pe_wp hs) (two ha hb F (fun v w G H Q s h1 h2 f => by
    obtain ⟨l, vs, rfl, q1, q2⟩ := h1.lst_eq
    obtain ⟨u, q3, q4⟩ := dp_at q2 h
    rw [F.K]
    exact ⟨l, vs, i, u, rfl, h2.int_eq, s.seq q1, q3, f.fz s q4⟩) S f)
theorem Eo.ixT (ha : Eo C sc a ρ (.fz (.tuple ds))) (hb : Eo C sc b ρ (.fz (.int i))) (h : atI ds i = some d) (hs : PlainIx b := by exact fun _ _ => rfl) : Eo C sc (.Subscript a b pos) ρ (.fz d) := fun X F σ G H Q S f =>
  toE (pe_ix ix_tup pe_wp pe_wp hs) (two ha hb F (fun v w G H Q s h1 h2 f => by
    obtain ⟨l, vs, rfl, q1, q2⟩ := h1.tup_eq
    obtain ⟨u, q3, q4⟩ := dp_at q2 h
    rw [F.K]
    exact ⟨l, vs, i, u, rfl, h2.int_eq, sqT_mono s q1, q3, f.fz s q4⟩) S f)
/-- parts of slices -/
def Ep (C : Cn) (sc : Scp) (e : Option Expr) (ρ : Rho) (o : Option Int) : Prop := ∀ X, Fits C sc X → ∃ t : TO, PO X e t ∧ ∀ σ G H (Q : Option Int → Hp → Prop), Sl C.K G H σ ρ → (∀ G' H', Step G H G' H' → Q o H') → t σ H Q
theorem Ep.none : Ep C sc none ρ none := fun X F => ⟨_, po_none, fun σ G H Q S f => f G H (Step.refl S.gh)⟩
theorem Ep.some (h : Eo C sc a ρ (.fz (.int i))) : Ep C sc (some a) ρ (some i) := fun X F => ⟨_, po_some pe_wp, fun σ G H Q S f => h X F σ G H _ S fun v G' H' ow s n o => by
  cases o with
  | fz o => exact ⟨i, o.int_eq, f G' H' s⟩⟩
def cutD (xs : List PyData) (lo hi : Option Int) : List PyData := (xs.drop (HT.sIx xs.length 0 lo)).take (HT.sIx xs.length xs.length hi - HT.sIx xs.length 0 lo)
theorem dpall_cut {K : PySem.W.Frag} {G : Hp} {vs : List V} {lo hi : Option Int} (h : DpAll K G vs ds) : DpAll K G (cutV vs lo hi) (cutD ds lo hi) := by
  unfold cutV cutD
  rw [h.length]
  refine .of_get ?_ fun k v d q1 q2 => ?_
  · rw [List.length_take, List.length_take, List.length_drop, List.length_drop, h.length]
  · rw [List.getElem?_take] at q1 q2
    split at q1
    · rename_i hk
      rw [if_pos hk, List.getElem?_drop] at q2
      rw [List.getElem?_drop] at q1
      obtain ⟨w, r1, r2⟩ := h.get q2
      rw [r1] at q1
      cases q1
      exact r2
    · cases q1
theorem Eo.slice {lo hi : Option Expr} {x y : Option Int} {p2 : Pos} (ha : Eo C sc a ρ (.fz (.list ds))) (hl : Ep C sc lo ρ x) (hu : Ep C sc hi ρ y) : Eo C sc (.Subscript a (.Slice lo hi none p2) pos) ρ (.ls ((cutD ds x y).map .fz)) := fun X F σ G H Q S f => by
  obtain ⟨tl, pl, ql⟩ := hl X F
  obtain ⟨tu, pu, qu⟩ := hu X F
  refine toE (pe_slice sl_list pe_wp pl pu) (ha X F σ G H _ S fun v G1 H1 ow s1 n o => ?_)
  cases o with
  | fz o =>
    refine ql σ G1 H1 _ (S.step s1) fun G2 H2 s2 => qu σ G2 H2 _ ((S.step s1).step s2) fun G3 H3 s3 => ?_
    obtain ⟨l, vs, rfl, q1, q2⟩ := o.lst_eq
    rw [F.K]
    have g13 := (s2.trans s3).g
    exact ⟨l, vs, rfl, s3.gh.seq (g13.seq q1), fun p hp => (f.step (s1.trans (s2.trans s3))).newL s3.gh hp (dpall_cut (q2.mono g13))⟩
/-- len -/
theorem Eo.len (hm : C.mg "len" = none) (ha : Eo C sc a ρ (.fz (.list ds))) (hg : sc.sc.names.lookup ("len" : Str) = some .globalImplicit := by rfl) (he : ∀ env, starEach [a] env = (false, eval a env) :: starEach [] env := by intro _; rfl) :
    Eo C sc (.Call (.Name "len" p) [a] [] pos) ρ (.fz (.int ds.length)) := Eo.callB (ds := [.list ds]) (fun X F => call_len_seq) (fun X F vs G H Q s h f => by
  cases h with
  | cons h1 h2 =>
    cases h2
    obtain ⟨l, ws, rfl, q1, q2⟩ := h1.lst_eq
    rw [F.K]
    exact ⟨l, ws, rfl, .inl (s.seq q1), by rw [q2.length]; exact f.fz s (.int _)⟩) hg hm PySem.boot_len (.cons ha .nil he) (he := he)
theorem Eo.lenT (hm : C.mg "len" = none) (ha : Eo C sc a ρ (.fz (.tuple ds))) (hg : sc.sc.names.lookup ("len" : Str) = some .globalImplicit := by rfl) (he : ∀ env, starEach [a] env = (false, eval a env) :: starEach [] env := by intro _; rfl) :
    Eo C sc (.Call (.Name "len" p) [a] [] pos) ρ (.fz (.int ds.length)) := Eo.callB (ds := [.tuple ds]) (fun X F => call_len_seq) (fun X F vs G H Q s h f => by
  cases h with
  | cons h1 h2 =>
    cases h2
    obtain ⟨l, ws, rfl, q1, q2⟩ := h1.tup_eq
    rw [F.K]
    exact ⟨l, ws, rfl, .inr (sqT_mono s q1), by rw [q2.length]; exact f.fz s (.int _)⟩) hg hm PySem.boot_len (.cons ha .nil he) (he := he)
/-- int(..) of a whole number, of a truth value -/
theorem Eo.intI (hm : C.mg "int" = none) (ha : Eo C sc a ρ (.fz (.int i))) (hg : sc.sc.names.lookup ("int" : Str) = some .globalImplicit := by rfl) (he : ∀ env, starEach [a] env = (false, eval a env) :: starEach [] env := by intro _; rfl) :
    Eo C sc (.Call (.Name "int" p) [a] [] pos) ρ (.fz (.int i)) := Eo.callTy (ds := [.int i]) (fun X F => call_int1) (fun X F vs G H Q s h f => by
  cases h with
  | cons h1 h2 =>
    cases h2
    exact .inl ⟨i, by rw [h1.int_eq], f.fz s (.int _)⟩) hg hm (by decide +kernel) (.cons ha .nil he) (he := he)
theorem Eo.intB {k : Bool} (hm : C.mg "int" = none) (ha : Eo C sc a ρ (.fz (.bool k))) (hg : sc.sc.names.lookup ("int" : Str) = some .globalImplicit := by rfl) (he : ∀ env, starEach [a] env = (false, eval a env) :: starEach [] env := by intro _; rfl) :
    Eo C sc (.Call (.Name "int" p) [a] [] pos) ρ (.fz (.int (if k then 1 else 0))) := Eo.callTy (ds := [.bool k]) (fun X F => call_int1) (fun X F vs G H Q s h f => by
  cases h with
  | cons h1 h2 =>
    cases h2
    exact .inr ⟨k, by rw [h1.bl_eq], f.fz s (.int _)⟩) hg hm (by decide +kernel) (.cons ha .nil he) (he := he)
/-- sum, max, min, sorted of whole numbers -/
theorem Eo.sum (hm : C.mg "sum" = none) (ha : Eo C sc a ρ (.fz (.list (ns.map .int)))) (hg : sc.sc.names.lookup ("sum" : Str) = some .globalImplicit := by rfl) (he : ∀ env, starEach [a] env = (false, eval a env) :: starEach [] env := by intro _; rfl) :
    Eo C sc (.Call (.Name "sum" p) [a] [] pos) ρ (.fz (.int ns.sum)) := Eo.callB (ds := [.list (ns.map .int)]) (fun X F => cr_sum F.calm) (fun X F vs G H Q s h f => by
  cases h with
  | cons h1 h2 =>
    cases h2
    obtain ⟨l, ws, rfl, q1, q2⟩ := h1.lst_eq
    rw [F.K]
    rw [dpall_ints q2] at q1
    exact ⟨l, ns, rfl, s.seq q1, f.fz s (.int _)⟩) hg hm (by decide +kernel) (.cons ha .nil he) (he := he)
theorem Eo.max1 {m : Int} (hm : C.mg "max" = none) (ha : Eo C sc a ρ (.fz (.list (ns.map .int)))) (hn : m ∈ ns) (hle : ∀ y ∈ ns, y ≤ m) (hg : sc.sc.names.lookup ("max" : Str) = some .globalImplicit := by rfl) (he : ∀ env, starEach [a] env = (false, eval a env) :: starEach [] env := by intro _; rfl) :
    Eo C sc (.Call (.Name "max" p) [a] [] pos) ρ (.fz (.int m)) := Eo.callB (ds := [.list (ns.map .int)]) (fun X F => cr_max F.calm) (fun X F vs G H Q s h f => by
  cases h with
  | cons h1 h2 =>
    cases h2
    obtain ⟨l, ws, rfl, q1, q2⟩ := h1.lst_eq
    rw [F.K]
    rw [dpall_ints q2] at q1
    refine ⟨l, ns, rfl, s.seq q1, List.length_pos_of_mem hn, fun m' h1 h2 => ?_⟩
    have e : m' = m := Int.le_antisymm (hle _ h1) (h2 _ hn)
    rw [e]
    exact f.fz s (.int _)) hg hm (by decide +kernel) (.cons ha .nil he) (he := he)
theorem Eo.min1 {m : Int} (hm : C.mg "min" = none) (ha : Eo C sc a ρ (.fz (.list (ns.map .int)))) (hn : m ∈ ns) (hle : ∀ y ∈ ns, m ≤ y) (hg : sc.sc.names.lookup ("min" : Str) = some .globalImplicit := by rfl) (he : ∀ env, starEach [a] env = (false, eval a env) :: starEach [] env := by intro _; rfl) :
    Eo C sc (.Call (.Name "min" p) [a] [] pos) ρ (.fz (.int m)) := Eo.callB (ds := [.list (ns.map .int)]) (fun X F => cr_min F.calm) (fun X F vs G H Q s h f => by
  cases h with
  | cons h1 h2 =>
    cases h2
    obtain ⟨l, ws, rfl, q1, q2⟩ := h1.lst_eq
    rw [F.K]
    rw [dpall_ints q2] at q1
    refine ⟨l, ns, rfl, s.seq q1, List.length_pos_of_mem hn, fun m' h1 h2 => ?_⟩
    have e : m' = m := Int.le_antisymm (h2 _ hn) (hle _ h1)
    rw [e]
    exact f.fz s (.int _)) hg hm (by decide +kernel) (.cons ha .nil he) (he := he)
theorem Eo.max2 (hm : C.mg "max" = none) (ha : Eo C sc a ρ (.fz (.int i))) (hb : Eo C sc b ρ (.fz (.int j))) (hg : sc.sc.names.lookup ("max" : Str) = some .globalImplicit := by rfl) (he : ∀ env, starEach [a, b] env = (false, eval a env) :: starEach [b] env := by intro _; rfl) (he2 : ∀ env, starEach [b] env = (false, eval b env) :: starEach [] env := by intro _; rfl) (hpl : ∀ env, (backTo pos (starEach [b] env)).any (·.1) = false := by intro _; rfl) :
    Eo C sc (.Call (.Name "max" p) [a, b] [] pos) ρ (.fz (.int (if j > i then j else i))) := Eo.callB (ds := [.int i, .int j]) (fun X F => call_max2 F.calm) (fun X F vs G H Q s h f => by
  cases h with
  | cons h1 h2 =>
    cases h2 with
    | cons h2 h3 =>
      cases h3
      exact ⟨i, j, by rw [h1.int_eq, h2.int_eq], f.fz s (.int _)⟩) hg hm (by decide +kernel) (.cons ha (.cons hb .nil he2) he) (he := he) (hpl := hpl)
theorem Eo.min2 (hm : C.mg "min" = none) (ha : Eo C sc a ρ (.fz (.int i))) (hb : Eo C sc b ρ (.fz (.int j))) (hg : sc.sc.names.lookup ("min" : Str) = some .globalImplicit := by rfl) (he : ∀ env, starEach [a, b] env = (false, eval a env) :: starEach [b] env := by intro _; rfl) (he2 : ∀ env, starEach [b] env = (false, eval b env) :: starEach [] env := by intro _; rfl) (hpl : ∀ env, (backTo pos (starEach [b] env)).any (·.1) = false := by intro _; rfl) :
    Eo C sc (.Call (.Name "min" p) [a, b] [] pos) ρ (.fz (.int (if j < i then j else i))) := Eo.callB (ds := [.int i, .int j]) (fun X F => call_min2 F.calm) (fun X F vs G H Q s h f => by
  cases h with
  | cons h1 h2 =>
    cases h2 with
    | cons h2 h3 =>
      cases h3
      exact ⟨i, j, by rw [h1.int_eq, h2.int_eq], f.fz s (.int _)⟩) hg hm (by decide +kernel) (.cons ha (.cons hb .nil he2) he) (he := he) (hpl := hpl)
theorem Eo.abs (hm : C.mg "abs" = none) (ha : Eo C sc a ρ (.fz (.int i))) (hg : sc.sc.names.lookup ("abs" : Str) = some .globalImplicit := by rfl) (he : ∀ env, starEach [a] env = (false, eval a env) :: starEach [] env := by intro _; rfl) :
    Eo C sc (.Call (.Name "abs" p) [a] [] pos) ρ (.fz (.int (if i < 0 then -i else i))) := Eo.callB (ds := [.int i]) (fun X F => call_abs) (fun X F vs G H Q s h f => by
  cases h with
  | cons h1 h2 =>
    cases h2
    exact ⟨i, by rw [h1.int_eq], f.fz s (.int _)⟩) hg hm (by decide +kernel) (.cons ha .nil he) (he := he)
theorem Eo.sortedI {ms : List Int} (hm : C.mg "sorted" = none) (ha : Eo C sc a ρ (.fz (.list (ns.map .int)))) (hq : ∀ ks : List Int, ks.Perm ns → ks.Pairwise (· ≤ ·) → ks = ms) (hg : sc.sc.names.lookup ("sorted" : Str) = some .globalImplicit := by rfl) (he : ∀ env, starEach [a] env = (false, eval a env) :: starEach [] env := by intro _; rfl) :
    Eo C sc (.Call (.Name "sorted" p) [a] [] pos) ρ (.ls ((ms.map PyData.int).map .fz)) := Eo.callB (ds := [.list (ns.map .int)]) (fun X F => cr_sortedI) (fun X F vs G H Q s h f => by
  cases h with
  | cons h1 h2 =>
    cases h2
    obtain ⟨l, ws, rfl, q1, q2⟩ := h1.lst_eq
    rw [F.K]
    rw [dpall_ints q2] at q1
    refine ⟨l, ns, rfl, s.seq q1, fun ks p hp hs hpn => ?_⟩
    rw [hq ks hp hs]
    exact f.newL s hpn (ints_dpall _)) hg hm (by decide +kernel) (.cons ha .nil he) (he := he)
/-- list(xs) -/
theorem Eo.listL (hm : C.mg "list" = none) (ha : Eo C sc a ρ (.fz (.list ds))) (hg : sc.sc.names.lookup ("list" : Str) = some .globalImplicit := by rfl) (he : ∀ env, starEach [a] env = (false, eval a env) :: starEach [] env := by intro _; rfl) :
    Eo C sc (.Call (.Name "list" p) [a] [] pos) ρ (.ls (ds.map .fz)) := Eo.callTy (ds := [.list ds]) (fun X F => call_list_of) (fun X F vs G H Q s h f => by
  cases h with
  | cons h1 h2 =>
    cases h2
    obtain ⟨l, ws, rfl, q1, q2⟩ := h1.lst_eq
    rw [F.K]
    exact ⟨l, ws, rfl, .inl (s.seq q1), fun p hp => f.newL s hp q2⟩) hg hm (by decide +kernel) (.cons ha .nil he) (he := he)
theorem Eo.listT (hm : C.mg "list" = none) (ha : Eo C sc a ρ (.fz (.tuple ds))) (hg : sc.sc.names.lookup ("list" : Str) = some .globalImplicit := by rfl) (he : ∀ env, starEach [a] env = (false, eval a env) :: starEach [] env := by intro _; rfl) :
    Eo C sc (.Call (.Name "list" p) [a] [] pos) ρ (.ls (ds.map .fz)) := Eo.callTy (ds := [.tuple ds]) (fun X F => call_list_of) (fun X F vs G H Q s h f => by
  cases h with
  | cons h1 h2 =>
    cases h2
    obtain ⟨l, ws, rfl, q1, q2⟩ := h1.tup_eq
    rw [F.K]
    exact ⟨l, ws, rfl, .inr (sqT_mono s q1), fun p hp => f.newL s hp q2⟩) hg hm (by decide +kernel) (.cons ha .nil he) (he := he)
/-- in, not in, of scalars -/
theorem r_inD {K : PySem.W.Frag} (hs : ds.all scalarD = true) (hd : scalarD e = true) : R2o K (rIn K false) e (.list ds) (.fz (.bool (ds.any fun y => eqF y e))) := fun v w G H Q s h1 h2 f => by
  obtain ⟨l, vs, rfl, q1, q2⟩ := h2.lst_eq
  obtain ⟨r1, r2⟩ := dpall_any q2 h1 hs hd
  refine ⟨l, vs, rfl, .inl (s.seq q1), dp_flat h1 hd, r1, ?_⟩
  rw [if_neg Bool.false_ne_true]
  unfold inV
  rw [r2]
  exact f.fz s (.bl _)
theorem r_inDT {K : PySem.W.Frag} (hs : ds.all scalarD = true) (hd : scalarD e = true) : R2o K (rIn K false) e (.tuple ds) (.fz (.bool (ds.any fun y => eqF y e))) := fun v w G H Q s h1 h2 f => by
  obtain ⟨l, vs, rfl, q1, q2⟩ := h2.tup_eq
  obtain ⟨r1, r2⟩ := dpall_any q2 h1 hs hd
  refine ⟨l, vs, rfl, .inr (sqT_mono s q1), dp_flat h1 hd, r1, ?_⟩
  rw [if_neg Bool.false_ne_true]
  unfold inV
  rw [r2]
  exact f.fz s (.bl _)
theorem r_ninD {K : PySem.W.Frag} (hs : ds.all scalarD = true) (hd : scalarD e = true) : R2o K (rIn K true) e (.list ds) (.fz (.bool (!ds.any fun y => eqF y e))) := fun v w G H Q s h1 h2 f => by
  obtain ⟨l, vs, rfl, q1, q2⟩ := h2.lst_eq
  obtain ⟨r1, r2⟩ := dpall_any q2 h1 hs hd
  refine ⟨l, vs, rfl, .inl (s.seq q1), dp_flat h1 hd, r1, ?_⟩
  rw [if_pos rfl]
  unfold inV
  rw [r2]
  exact f.fz s (.bl _)
theorem r_ninDT {K : PySem.W.Frag} (hs : ds.all scalarD = true) (hd : scalarD e = true) : R2o K (rIn K true) e (.tuple ds) (.fz (.bool (!ds.any fun y => eqF y e))) := fun v w G H Q s h1 h2 f => by
  obtain ⟨l, vs, rfl, q1, q2⟩ := h2.tup_eq
  obtain ⟨r1, r2⟩ := dpall_any q2 h1 hs hd
  refine ⟨l, vs, rfl, .inr (sqT_mono s q1), dp_flat h1 hd, r1, ?_⟩
  rw [if_pos rfl]
  unfold inV
  rw [r2]
  exact f.fz s (.bl _)
theorem fit_in (X : Cx) (F : Fits C sc X) : OpR X (compareOp .In) (rIn C.K false) := by rw [← F.K]; exact op_in_seq
theorem fit_nin (X : Cx) (F : Fits C sc X) : OpR X (compareOp .NotIn) (rIn C.K true) := by rw [← F.K]; exact op_notIn_seq
theorem Eo.inL (ha : Eo C sc a ρ (.fz e)) (hb : Eo C sc b ρ (.fz (.list ds))) (hs : ds.all scalarD = true) (hd : scalarD e = true := by rfl) (hk : behindInMarks .In b = false := by rfl) : Eo C sc (.Compare a [.In] [b] pos) ρ (.fz (.bool (ds.any fun y => eqF y e))) := Eo.cmp fit_in (fun _ _ => r_inD hs hd) ha hb hk
theorem Et.inL (ha : Eo C sc a ρ (.fz e)) (hb : Eo C sc b ρ (.fz (.list ds))) (hs : ds.all scalarD = true) (hd : scalarD e = true := by rfl) (hk : behindInMarks .In b = false := by rfl) : Et C sc (.Compare a [.In] [b] pos) ρ (ds.any fun y => eqF y e) := Et.cmp fit_in (fun _ _ => r_inD hs hd) ha hb hk
theorem Eo.inT (ha : Eo C sc a ρ (.fz e)) (hb : Eo C sc b ρ (.fz (.tuple ds))) (hs : ds.all scalarD = true) (hd : scalarD e = true := by rfl) (hk : behindInMarks .In b = false := by rfl) : Eo C sc (.Compare a [.In] [b] pos) ρ (.fz (.bool (ds.any fun y => eqF y e))) := Eo.cmp fit_in (fun _ _ => r_inDT hs hd) ha hb hk
theorem Et.inT (ha : Eo C sc a ρ (.fz e)) (hb : Eo C sc b ρ (.fz (.tuple ds))) (hs : ds.all scalarD = true) (hd : scalarD e = true := by rfl) (hk : behindInMarks .In b = false := by rfl) : Et C sc (.Compare a [.In] [b] pos) ρ (ds.any fun y => eqF y e) := Et.cmp fit_in (fun _ _ => r_inDT hs hd) ha hb hk
theorem Eo.ninL (ha : Eo C sc a ρ (.fz e)) (hb : Eo C sc b ρ (.fz (.list ds))) (hs : ds.all scalarD = true) (hd : scalarD e = true := by rfl) (hk : behindInMarks .NotIn b = false := by rfl) : Eo C sc (.Compare a [.NotIn] [b] pos) ρ (.fz (.bool (!ds.any fun y => eqF y e))) := Eo.cmp fit_nin (fun _ _ => r_ninD hs hd) ha hb hk
theorem Et.ninL (ha : Eo C sc a ρ (.fz e)) (hb : Eo C sc b ρ (.fz (.list ds))) (hs : ds.all scalarD = true) (hd : scalarD e = true := by rfl) (hk : behindInMarks .NotIn b = false := by rfl) : Et C sc (.Compare a [.NotIn] [b] pos) ρ (!ds.any fun y => eqF y e) := Et.cmp fit_nin (fun _ _ => r_ninD hs hd) ha hb hk
theorem Et.ninT (ha : Eo C sc a ρ (.fz e)) (hb : Eo C sc b ρ (.fz (.tuple ds))) (hs : ds.all scalarD = true) (hd : scalarD e = true := by rfl) (hk : behindInMarks .NotIn b = false := by rfl) : Et C sc (.Compare a [.NotIn] [b] pos) ρ (!ds.any fun y => eqF y e) := Et.cmp fit_nin (fun _ _ => r_ninDT hs hd) ha hb hk
/-- is None, is not None -/
def isNon : PyData → Bool
  | .none => true
  | _ => false
theorem dp_isNon {K : PySem.W.Frag} {G : Hp} {v : V} (h : Dp K G v d) : decide (v = .non) = isNon d := by
  cases h <;> rfl
theorem r_isN {K : PySem.W.Frag} : R2o K (fun x y H Q => y = .non ∧ Q (.bl (decide (x = .non))) H) d .none (.fz (.bool (isNon d))) := fun v w G H Q s h1 h2 f => ⟨h2.non_eq, by rw [dp_isNon h1]; exact f.fz s (.bl _)⟩
theorem r_notN {K : PySem.W.Frag} : R2o K (fun x y H Q => y = .non ∧ Q (.bl (!decide (x = .non))) H) d .none (.fz (.bool (!isNon d))) := fun v w G H Q s h1 h2 f => ⟨h2.non_eq, by rw [dp_isNon h1]; exact f.fz s (.bl _)⟩
theorem Eo.isN (ha : Eo C sc a ρ (.fz d)) (hb : Eo C sc b ρ (.fz .none)) : Eo C sc (.Compare a [.Is] [b] pos) ρ (.fz (.bool (isNon d))) := Eo.cmp (fun _ _ => op_isN) (fun _ _ => r_isN) ha hb (nomark _)
theorem Et.isN (ha : Eo C sc a ρ (.fz d)) (hb : Eo C sc b ρ (.fz .none)) : Et C sc (.Compare a [.Is] [b] pos) ρ (isNon d) := Et.cmp (fun _ _ => op_isN) (fun _ _ => r_isN) ha hb (nomark _)
theorem Eo.notN (ha : Eo C sc a ρ (.fz d)) (hb : Eo C sc b ρ (.fz .none)) : Eo C sc (.Compare a [.IsNot] [b] pos) ρ (.fz (.bool (!isNon d))) := Eo.cmp (fun _ _ => op_notN) (fun _ _ => r_notN) ha hb (nomark _)
theorem Et.notN (ha : Eo C sc a ρ (.fz d)) (hb : Eo C sc b ρ (.fz .none)) : Et C sc (.Compare a [.IsNot] [b] pos) ρ (!isNon d) := Et.cmp (fun _ _ => op_notN) (fun _ _ => r_notN) ha hb (nomark _)
/-- isinstance(x, T) for a built-in type's name -/
def tyD : PyData → String
  | .none => "NoneType" | .bool _ => "bool" | .int _ => "int" | .str _ => "str" | .list _ => "list" | .tuple _ => "tuple" | .dict _ => "dict"
theorem tyX_of {K : PySem.W.Frag} {H : Hp} {v : V} (h : Dp K H v d) : TyX K H v (.type (tyD d)) := by
  cases h with
  | non => exact .base .non
  | bl b => exact .base (.bl b)
  | int i => exact .base (.int i)
  | str x => exact .base (.str x)
  | lst hs _ =>
    rcases hs with (hs | ⟨o, hs⟩) | ⟨o, its, n, hk, hc, _⟩
    · exact .base (.lst hs)
    · exact .base (.frz hs)
    · exact .kList hk hc
  | tup hs _ =>
    rcases hs with (hs | ⟨o, hs⟩) | ⟨o, its, n, hk, hc, _⟩
    · exact .base (.tup hs)
    · exact .fTuple hs
    · exact .kTuple hk hc
/-- the name of a built-in type as a value -/
theorem Eo.isi {x : Str} {T : String} {k : Bool} {px : Pos} (hm : C.mg "isinstance" = none) (hmT : C.mg x = none) (ha : Eo C sc a ρ (.fz d)) (hvT : bootBuiltins x = some (.type T)) (hk : kitB (tyD d) T = some k)
    (hgT : sc.sc.names.lookup x = some .globalImplicit := by rfl) (hg : sc.sc.names.lookup ("isinstance" : Str) = some .globalImplicit := by rfl) (he : ∀ env, starEach [a, .Name x px] env = (false, eval a env) :: starEach [.Name x px] env := by intro _; rfl)
    (hnT : x ≠ "__name__" := by decide) (hdT : (x == ("__debug__" : Str)) = false := by decide) (hpl : ∀ env, (backTo pos (starEach [.Name x px] env)).any (·.1) = false := by intro _; rfl) :
    Eo C sc (.Call (.Name "isinstance" p) [a, .Name x px] [] pos) ρ (.fz (.bool k)) := fun X F σ G H Q S f => by
  refine toE (pe_callB (call_isi (X := X)) (show X.env.scope.names.lookup ("isinstance" : Str) = _ by rw [F.scq]; exact hg) (by rw [F.mg]; exact hm) (by decide +kernel) (pa_cons pe_wp (pa_cons (pe_bltn (v := .ty T) (show X.env.scope.names.lookup x = _ by rw [F.scq]; exact hgT) (by rw [F.mg]; exact hmT) hvT rfl hnT hdT) pa_nil) (he _)) (by decide) (by decide) (he _) (hpl _)) ?_
  refine ha X F σ G H _ S fun v G1 H1 ow s n o => ?_
  cases o with
  | fz o => exact ⟨v, .ty T, _, _, k, rfl, .ty T, by rw [F.K]; exact tyX_of (o.mono s.gh), hk, f.fz' s (.bl _)⟩
/-- repr of data -/
theorem call_reprD {X : Cx} (hg : X.A.guards = some []) : CallR X (.builtin "repr") (fun xs H Q => ∃ a d, xs = [.ref a] ∧ Dp X.K H (.ref a) d ∧ d.showable = true ∧ d.hasDict = false ∧ X.A.units + (d.depth + 1) < cLine ∧ d.shown.length ≤ sizeLine ∧ Q (.str d.shown) H) := by
  intro pins s σ H xs us Q I r h
  obtain ⟨a, d, rfl, hd, hs, hx, hu, hz, q⟩ := h
  obtain ⟨u, rfl, ru⟩ := vals1 r
  cases (show u = Value.ref a from ru)
  obtain ⟨as, rd⟩ := Dp.reads I d _ _ hd ru
  exact repr_of_reads' rd hs (PyData.noDict_hsm hx) hg hu (fun _ _ e => e) (fun h' u tk hk => ⟨.str d.shown, H, I.kept (t' := tk) hk, ⟨_, rfl⟩, q⟩) hz
theorem Eo.repr (hm : C.mg "repr" = none) (ha : Eo C sc a ρ (.fz d)) (hr : scalarD d = false) (hs : d.showable = true) (hx : d.hasDict = false) (hdp : d.depth ≤ 60) (hz : d.shown.length ≤ sizeLine) (hg : sc.sc.names.lookup ("repr" : Str) = some .globalImplicit := by rfl) (he : ∀ env, starEach [a] env = (false, eval a env) :: starEach [] env := by intro _; rfl) :
    Eo C sc (.Call (.Name "repr" p) [a] [] pos) ρ (.fz (.str d.shown)) := Eo.callB (ds := [d]) (fun X F => call_reprD F.gd) (fun X F vs G H Q s h f => by
  cases h with
  | cons h1 h2 =>
    cases h2
    rename_i v
    have hv : ∃ l, v = .ref l := by
      cases h1 with
      | lst _ _ => exact ⟨_, rfl⟩
      | tup _ _ => exact ⟨_, rfl⟩
      | _ => cases hr
    obtain ⟨l, rfl⟩ := hv
    rw [F.K]
    exact ⟨l, d, rfl, h1.mono s, hs, hx, by have := F.room.units; omega, hz, f.fz s (.str _)⟩) hg hm (by decide +kernel) (.cons ha .nil he) (he := he)
end
end NW
namespace NW
open PySem PySem.Spec L2
open PyProof.Rows hiding St
/-! ### typed data -/
class Enc (α : Type) where
  enc : α → PyData
open Enc (enc)
instance : Enc Int := ⟨.int⟩
instance : Enc Bool := ⟨.bool⟩
instance : Enc Str := ⟨.str⟩
instance : Enc PyData := ⟨id⟩
instance : Enc Unit := ⟨fun _ => .none⟩
instance {α : Type} [Enc α] : Enc (List α) := ⟨fun xs => .list (xs.map enc)⟩
instance {α β : Type} [Enc α] [Enc β] : Enc (α × β) := ⟨fun p => .tuple [enc p.1, enc p.2]⟩
def encOpt {α : Type} [Enc α] : Option α → PyData
  | none => .none
  | some x => enc x
instance {α : Type} [Enc α] : Enc (Option α) := ⟨encOpt⟩
structure T3 (α β γ : Type) where
  a : α
  b : β
  c : γ
  deriving DecidableEq
structure T4 (α β γ δ : Type) where
  a : α
  b : β
  c : γ
  d : δ
  deriving DecidableEq
instance {α β γ : Type} [Enc α] [Enc β] [Enc γ] : Enc (T3 α β γ) := ⟨fun p => .tuple [enc p.a, enc p.b, enc p.c]⟩
instance {α β γ δ : Type} [Enc α] [Enc β] [Enc γ] [Enc δ] : Enc (T4 α β γ δ) := ⟨fun p => .tuple [enc p.a, enc p.b, enc p.c, enc p.d]⟩
abbrev F {α : Type} [Enc α] (x : α) : OD := .fz (enc x)
/-- an owned list of frozen items -/
def oL {α : Type} [Enc α] (xs : List α) : OD := .ls (xs.map fun x => .fz (enc x))
theorem oL_eq {α : Type} [Enc α] (xs : List α) : OD.ls ((xs.map enc).map .fz) = oL xs := by
  unfold oL
  rw [List.map_map]
  rfl
theorem oL_data {α : Type} [Enc α] (xs : List α) : (oL xs).data = enc xs := by
  rw [← oL_eq]
  simp only [OD.data, datas_fz]
  rfl
/-- x[i] with a floor -/
def getI {α : Type} [Inhabited α] (xs : List α) (i : Int) : α := (atI xs i).getD default
def InB {α : Type} (xs : List α) (i : Int) : Prop := -(xs.length : Int) ≤ i ∧ i < xs.length
theorem atI_some {α : Type} [Inhabited α] {xs : List α} {i : Int} (h : InB xs i) : atI xs i = some (getI xs i) := by
  unfold InB at h
  have e : ∃ v, atI xs i = some v := by
    unfold atI ixN
    by_cases h0 : 0 ≤ i
    · rw [if_pos h0, if_pos h.2]
      exact ⟨xs[i.toNat]'(by omega), List.getElem?_eq_getElem (by omega)⟩
    · rw [if_neg h0, if_pos h.1]
      exact ⟨xs[(i + xs.length).toNat]'(by omega), List.getElem?_eq_getElem (by omega)⟩
  obtain ⟨v, e⟩ := e
  unfold getI
  rw [e]
  rfl
theorem getI_nat {α : Type} [Inhabited α] {xs : List α} {k : Nat} (h : k < xs.length) : getI xs (k : Int) = xs[k] := by
  unfold getI
  rw [atI_nat (List.getElem?_eq_getElem h)]
  rfl
theorem getI_of {α : Type} [Inhabited α] {xs : List α} {i : Int} (h0 : 0 ≤ i) (h : i < xs.length) : getI xs i = xs[i.toNat]'(by omega) := by
  obtain ⟨k, rfl⟩ : ∃ k : Nat, i = (k : Int) := ⟨i.toNat, by omega⟩
  rw [getI_nat (by omega)]
  simp
theorem getI_mem {α : Type} [Inhabited α] {xs : List α} {i : Int} (h : InB xs i) : getI xs i ∈ xs := by
  have e := atI_some h
  unfold atI at e
  cases q : ixN xs.length i with
  | none => rw [q] at e; cases e
  | some j =>
    rw [q] at e
    exact List.mem_of_getElem? e
theorem getI_all {α : Type} [Inhabited α] {P : α → Prop} {xs : List α} {i : Int} (h : ∀ x ∈ xs, P x) (hb : InB xs i) : P (getI xs i) := h _ (getI_mem hb)
theorem atI_map {α β : Type} (f : α → β) (xs : List α) (i : Int) : atI (xs.map f) i = (atI xs i).map f := by
  unfold atI
  rw [List.length_map]
  cases ixN xs.length i with
  | none => rfl
  | some j => simp
theorem ix_ok {α : Type} [Enc α] [Inhabited α] {xs : List α} {i : Int} (h : InB xs i) : atI (xs.map enc) i = some (enc (getI xs i)) := by
  rw [atI_map, atI_some h]
  rfl
/-- greatest, least -/
def lmax : List Int → Int
  | [] => 0
  | x :: xs => xs.foldl (fun m y => if m < y then y else m) x
def lmin : List Int → Int
  | [] => 0
  | x :: xs => xs.foldl (fun m y => if y < m then y else m) x
theorem lmax_aux : ∀ (xs : List Int) (m : Int), (xs.foldl (fun m y => if m < y then y else m) m = m ∨ xs.foldl (fun m y => if m < y then y else m) m ∈ xs) ∧ m ≤ xs.foldl (fun m y => if m < y then y else m) m ∧ ∀ y ∈ xs, y ≤ xs.foldl (fun m y => if m < y then y else m) m
  | [], m => ⟨.inl rfl, Int.le_refl _, fun y h => by simp at h⟩
  | x :: xs, m => by
    simp only [List.foldl_cons]
    obtain ⟨h1, h2, h3⟩ := lmax_aux xs (if m < x then x else m)
    refine ⟨?_, ?_, fun y hy => ?_⟩
    · rcases h1 with h1 | h1
      · rw [h1]
        split
        · exact .inr List.mem_cons_self
        · exact .inl rfl
      · exact .inr (List.mem_cons_of_mem _ h1)
    · refine Int.le_trans ?_ h2
      split <;> omega
    · rcases List.mem_cons.mp hy with e | hy
      · subst e
        refine Int.le_trans ?_ h2
        split <;> omega
      · exact h3 y hy
theorem lmin_aux : ∀ (xs : List Int) (m : Int), (xs.foldl (fun m y => if y < m then y else m) m = m ∨ xs.foldl (fun m y => if y < m then y else m) m ∈ xs) ∧ xs.foldl (fun m y => if y < m then y else m) m ≤ m ∧ ∀ y ∈ xs, xs.foldl (fun m y => if y < m then y else m) m ≤ y
  | [], m => ⟨.inl rfl, Int.le_refl _, fun y h => by simp at h⟩
  | x :: xs, m => by
    simp only [List.foldl_cons]
    obtain ⟨h1, h2, h3⟩ := lmin_aux xs (if x < m then x else m)
    refine ⟨?_, ?_, fun y hy => ?_⟩
    · rcases h1 with h1 | h1
      · rw [h1]
        split
        · exact .inr List.mem_cons_self
        · exact .inl rfl
      · exact .inr (List.mem_cons_of_mem _ h1)
    · refine Int.le_trans h2 ?_
      split <;> omega
    · rcases List.mem_cons.mp hy with e | hy
      · subst e
        refine Int.le_trans h2 ?_
        split <;> omega
      · exact h3 y hy
theorem lmax_mem {xs : List Int} (h : xs ≠ []) : lmax xs ∈ xs := by
  cases xs with
  | nil => exact absurd rfl h
  | cons x xs =>
    rcases (lmax_aux xs x).1 with e | e
    · show xs.foldl (fun m y => if m < y then y else m) x ∈ _
      rw [e]; exact List.mem_cons_self
    · exact List.mem_cons_of_mem _ e
theorem lmax_le {xs : List Int} {y : Int} (h : y ∈ xs) : y ≤ lmax xs := by
  cases xs with
  | nil => simp at h
  | cons x xs =>
    rcases List.mem_cons.mp h with e | e
    · subst e; exact (lmax_aux xs y).2.1
    · exact (lmax_aux xs x).2.2 y e
theorem lmin_mem {xs : List Int} (h : xs ≠ []) : lmin xs ∈ xs := by
  cases xs with
  | nil => exact absurd rfl h
  | cons x xs =>
    rcases (lmin_aux xs x).1 with e | e
    · show xs.foldl (fun m y => if y < m then y else m) x ∈ _
      rw [e]; exact List.mem_cons_self
    · exact List.mem_cons_of_mem _ e
theorem lmin_le {xs : List Int} {y : Int} (h : y ∈ xs) : lmin xs ≤ y := by
  cases xs with
  | nil => simp at h
  | cons x xs =>
    rcases List.mem_cons.mp h with e | e
    · subst e; exact (lmin_aux xs y).2.1
    · exact (lmin_aux xs x).2.2 y e
/-- in rising order -/
def insI (x : Int) : List Int → List Int
  | [] => [x]
  | y :: ys => if x ≤ y then x :: y :: ys else y :: insI x ys
def isort : List Int → List Int
  | [] => []
  | x :: xs => insI x (isort xs)
theorem insI_perm (x : Int) : ∀ ys : List Int, (insI x ys).Perm (x :: ys)
  | [] => .refl _
  | y :: ys => by
    unfold insI
    split
    · exact .refl _
    · exact ((insI_perm x ys).cons y).trans (.swap x y ys)
theorem isort_perm : ∀ xs : List Int, (isort xs).Perm xs
  | [] => .refl _
  | x :: xs => (insI_perm x (isort xs)).trans ((isort_perm xs).cons x)
theorem insI_sorted (x : Int) : ∀ ys : List Int, ys.Pairwise (· ≤ ·) → (insI x ys).Pairwise (· ≤ ·)
  | [], _ => by simp [insI]
  | y :: ys, h => by
    unfold insI
    obtain ⟨h1, h2⟩ := List.pairwise_cons.mp h
    split
    · rename_i hx
      refine List.pairwise_cons.mpr ⟨fun z hz => ?_, h⟩
      rcases List.mem_cons.mp hz with e | e
      · subst e; exact hx
      · exact Int.le_trans hx (h1 z e)
    · rename_i hx
      refine List.pairwise_cons.mpr ⟨fun z hz => ?_, insI_sorted x ys h2⟩
      rcases List.mem_cons.mp ((insI_perm x ys).mem_iff.mp hz) with e | e
      · subst e; omega
      · exact h1 z e
theorem isort_sorted : ∀ xs : List Int, (isort xs).Pairwise (· ≤ ·)
  | [] => .nil
  | x :: xs => insI_sorted x _ (isort_sorted xs)
theorem sorted_unique : ∀ (xs ys : List Int), xs.Perm ys → xs.Pairwise (· ≤ ·) → ys.Pairwise (· ≤ ·) → xs = ys
  | [], ys, h, _, _ => by rw [List.Perm.nil_eq h]
  | x :: xs, [], h, _, _ => by
    have := h.length_eq
    simp at this
  | x :: xs, y :: ys, h, h1, h2 => by
    obtain ⟨a1, a2⟩ := List.pairwise_cons.mp h1
    obtain ⟨b1, b2⟩ := List.pairwise_cons.mp h2
    have e : x = y := by
      have hx : x ∈ y :: ys := h.mem_iff.mp List.mem_cons_self
      have hy : y ∈ x :: xs := h.mem_iff.mpr List.mem_cons_self
      rcases List.mem_cons.mp hx with q | q
      · exact q
      · rcases List.mem_cons.mp hy with r | r
        · exact r.symm
        · have := a1 y r
          have := b1 x q
          omega
    subst e
    rw [sorted_unique xs ys (List.Perm.cons_inv h) a2 b2]
/-- the pairs of an enumerate -/
def enumL {α : Type} (xs : List α) : List (Int × α) := xs.zipIdx.map fun p => ((p.2 : Int), p.1)
theorem enumL_length {α : Type} (xs : List α) : (enumL xs).length = xs.length := by simp [enumL]
theorem enumL_get {α : Type} {xs : List α} {i : Nat} {x : α} (h : xs[i]? = some x) : (enumL xs)[i]? = some ((i : Int), x) := by
  unfold enumL
  rw [List.getElem?_map, List.getElem?_zipIdx, h]
  simp
theorem enumD_eq {α : Type} [Enc α] (xs : List α) : enumD (xs.map enc) = (enumL xs).map enc := by
  apply List.ext_getElem?
  intro i
  by_cases hi : i < xs.length
  · have hx : xs[i]? = some xs[i] := List.getElem?_eq_getElem hi
    rw [List.getElem?_map, enumL_get hx]
    unfold enumD
    rw [List.getElem?_map, List.getElem?_range (by simpa using hi)]
    have e : (xs.map enc).getD i .none = enc xs[i] := by
      rw [List.getD_eq_getElem?_getD, List.getElem?_map, hx]
      rfl
    show some (PyData.tuple [.int (i : Nat), (xs.map enc).getD i .none]) = some (enc ((i : Int), xs[i]))
    rw [e]
    rfl
  · rw [List.getElem?_eq_none (by simp [enumD]; omega), List.getElem?_eq_none (by simp [enumL_length]; omega)]
/-- a slice -/
def cutL {α : Type} (xs : List α) (lo hi : Option Int) : List α := (xs.drop (HT.sIx xs.length 0 lo)).take (HT.sIx xs.length xs.length hi - HT.sIx xs.length 0 lo)
theorem cutD_map {α : Type} [Enc α] (xs : List α) (lo hi : Option Int) : cutD (xs.map enc) lo hi = (cutL xs lo hi).map enc := by
  unfold cutD cutL
  rw [List.length_map, List.map_take, List.map_drop]
theorem mem_rangeI {lo : Int} {n : Nat} {x : Int} : x ∈ rangeI lo n ↔ lo ≤ x ∧ x < lo + n := by
  unfold rangeI
  rw [List.mem_map]
  constructor
  · rintro ⟨k, hk, rfl⟩
    rw [List.mem_range] at hk
    omega
  · rintro ⟨h1, h2⟩
    exact ⟨(x - lo).toNat, by rw [List.mem_range]; omega, by omega⟩
theorem rangeI_get {lo : Int} {n i : Nat} {x : Int} (h : (rangeI lo n)[i]? = some x) : i < n ∧ x = lo + i := by
  have hi := (List.getElem?_eq_some_iff.mp h).1
  rw [rangeI_length] at hi
  unfold rangeI at h
  rw [List.getElem?_map, List.getElem?_range hi] at h
  exact ⟨hi, (Option.some.inj h).symm⟩
/-! ### equality of data -/
class EncOk (α : Type) [Enc α] [DecidableEq α] where
  dep : Nat
  eqv : ∀ a b : α, PyData.eqv (enc a) (enc b) = decide (a = b)
  lay : ∀ a : α, (enc a).canLay0 = true
  depth : ∀ a : α, (enc a).depth ≤ dep
instance : EncOk Int := ⟨0, fun a b => by simp [enc, PyData.eqv, Bool.beq_eq_decide_eq], fun _ => rfl, fun _ => by simp [enc, PyData.depth]⟩
instance : EncOk Bool := ⟨0, fun a b => by simp [enc, PyData.eqv, Bool.beq_eq_decide_eq], fun _ => rfl, fun _ => by simp [enc, PyData.depth]⟩
theorem eqvAll_enc {α : Type} [Enc α] [DecidableEq α] [EncOk α] : ∀ xs ys : List α, PyData.eqvAll (xs.map enc) (ys.map enc) = decide (xs = ys)
  | [], [] => by simp [PyData.eqvAll]
  | [], _ :: _ => by simp [PyData.eqvAll]
  | _ :: _, [] => by simp [PyData.eqvAll]
  | x :: xs, y :: ys => by
    simp only [List.map_cons, PyData.eqvAll]
    rw [EncOk.eqv, eqvAll_enc xs ys]
    simp
theorem canLayAll_enc {α : Type} [Enc α] [DecidableEq α] [EncOk α] : ∀ xs : List α, PyData.canLayAll0 (xs.map enc) = true
  | [] => by simp [PyData.canLayAll0]
  | x :: xs => by
    simp only [List.map_cons, PyData.canLayAll0, Bool.and_eq_true]
    exact ⟨EncOk.lay x, canLayAll_enc xs⟩
theorem depthAll_enc {α : Type} [Enc α] [DecidableEq α] [EncOk α] : ∀ xs : List α, PyData.depthAll (xs.map enc) ≤ EncOk.dep α
  | [] => by simp [PyData.depthAll]
  | x :: xs => by
    simp only [List.map_cons, PyData.depthAll]
    exact Nat.max_le.mpr ⟨EncOk.depth x, depthAll_enc xs⟩
instance {α : Type} [Enc α] [DecidableEq α] [EncOk α] : EncOk (List α) :=
  ⟨EncOk.dep α + 1, fun a b => by simp only [enc, PyData.eqv]; exact eqvAll_enc a b, fun a => by simp only [enc, PyData.canLay0]; exact canLayAll_enc a, fun a => by simp only [enc, PyData.depth]; exact Nat.succ_le_succ (depthAll_enc a)⟩
instance {α β : Type} [Enc α] [DecidableEq α] [EncOk α] [Enc β] [DecidableEq β] [EncOk β] : EncOk (α × β) :=
  ⟨max (EncOk.dep α) (EncOk.dep β) + 1, fun a b => by
      obtain ⟨a1, a2⟩ := a
      obtain ⟨b1, b2⟩ := b
      simp only [enc, PyData.eqv, PyData.eqvAll]
      rw [show PyData.eqv (Enc.enc a1) (Enc.enc b1) = decide (a1 = b1) from EncOk.eqv a1 b1, show PyData.eqv (Enc.enc a2) (Enc.enc b2) = decide (a2 = b2) from EncOk.eqv a2 b2]
      simp,
    fun a => by simp only [enc, PyData.canLay0, PyData.canLayAll0, Bool.and_eq_true]; exact ⟨EncOk.lay a.1, EncOk.lay a.2, trivial⟩,
    fun a => by
      simp only [enc, PyData.depth, PyData.depthAll]
      have h1 : (Enc.enc a.1).depth ≤ EncOk.dep α := EncOk.depth a.1
      have h2 : (Enc.enc a.2).depth ≤ EncOk.dep β := EncOk.depth a.2
      omega⟩
theorem shaped_enc {α : Type} [Enc α] [DecidableEq α] [EncOk α] (a : α) (h : EncOk.dep α ≤ 64 := by decide) : SeqAt.shaped (enc a) = true := by
  unfold SeqAt.shaped
  rw [Bool.and_eq_true]
  exact ⟨EncOk.lay a, decide_eq_true (Nat.le_trans (EncOk.depth a) h)⟩
end NW
namespace NW
open PySem PySem.Spec L2
open PyProof.Rows hiding St
open Enc (enc)
section
variable {C : Cn} {sc : Scp} {ρ : Rho} {a b c e : Expr} {es : List Expr} {pos p : Pos} {α β : Type} [Enc α] [Enc β]
theorem Eo.frO {xs : List α} (h : Eo C sc e ρ (oL xs)) : Eo C sc e ρ (F xs) := (Eo.fr h).cast (by rw [oL_data])
theorem Eo.toO {xs : List α} (h : Eo C sc e ρ (.ls ((xs.map enc).map .fz))) : Eo C sc e ρ (oL xs) := h.cast (oL_eq xs)
theorem Eo.idx [Inhabited α] {xs : List α} {i : Int} (ha : Eo C sc a ρ (F xs)) (hb : Eo C sc b ρ (F i)) (h : InB xs i) (hs : PlainIx b := by exact fun _ _ => rfl) : Eo C sc (.Subscript a b pos) ρ (F (getI xs i)) := Eo.ix ha hb (ix_ok h) hs
theorem Eo.fst {x : α × β} {j : Nat} {q : Pos} (ha : Eo C sc a ρ (F x)) : Eo C sc (.Subscript a (.Constant (.int 0) j q) pos) ρ (F x.1) := Eo.ixT (ds := [enc x.1, enc x.2]) ha Eo.int rfl
theorem Eo.snd {x : α × β} {j : Nat} {q : Pos} (ha : Eo C sc a ρ (F x)) : Eo C sc (.Subscript a (.Constant (.int 1) j q) pos) ρ (F x.2) := Eo.ixT (ds := [enc x.1, enc x.2]) ha Eo.int rfl
theorem Eo.lenL {xs : List α} (hm : C.mg "len" = none) (ha : Eo C sc a ρ (F xs)) (hg : sc.sc.names.lookup ("len" : Str) = some .globalImplicit := by rfl) (he : ∀ env, starEach [a] env = (false, eval a env) :: starEach [] env := by intro _; rfl) :
    Eo C sc (.Call (.Name "len" p) [a] [] pos) ρ (F (xs.length : Int)) := (Eo.len (ds := xs.map enc) hm ha hg he).cast (by rw [List.length_map]; rfl)
theorem Eo.sumL {ns : List Int} (hm : C.mg "sum" = none) (ha : Eo C sc a ρ (F ns)) (hg : sc.sc.names.lookup ("sum" : Str) = some .globalImplicit := by rfl) (he : ∀ env, starEach [a] env = (false, eval a env) :: starEach [] env := by intro _; rfl) :
    Eo C sc (.Call (.Name "sum" p) [a] [] pos) ρ (F ns.sum) := Eo.sum hm ha hg he
theorem Eo.maxL {ns : List Int} (hm : C.mg "max" = none) (ha : Eo C sc a ρ (F ns)) (hn : ns ≠ []) (hg : sc.sc.names.lookup ("max" : Str) = some .globalImplicit := by rfl) (he : ∀ env, starEach [a] env = (false, eval a env) :: starEach [] env := by intro _; rfl) :
    Eo C sc (.Call (.Name "max" p) [a] [] pos) ρ (F (lmax ns)) := Eo.max1 hm ha (lmax_mem hn) (fun _ h => lmax_le h) hg he
theorem Eo.minL {ns : List Int} (hm : C.mg "min" = none) (ha : Eo C sc a ρ (F ns)) (hn : ns ≠ []) (hg : sc.sc.names.lookup ("min" : Str) = some .globalImplicit := by rfl) (he : ∀ env, starEach [a] env = (false, eval a env) :: starEach [] env := by intro _; rfl) :
    Eo C sc (.Call (.Name "min" p) [a] [] pos) ρ (F (lmin ns)) := Eo.min1 hm ha (lmin_mem hn) (fun _ h => lmin_le h) hg he
theorem Eo.sortL {ns : List Int} (hm : C.mg "sorted" = none) (ha : Eo C sc a ρ (F ns)) (hg : sc.sc.names.lookup ("sorted" : Str) = some .globalImplicit := by rfl) (he : ∀ env, starEach [a] env = (false, eval a env) :: starEach [] env := by intro _; rfl) :
    Eo C sc (.Call (.Name "sorted" p) [a] [] pos) ρ (oL (isort ns)) := Eo.toO (Eo.sortedI hm ha (fun ks h1 h2 => sorted_unique ks (isort ns) (h1.trans (isort_perm ns).symm) h2 (isort_sorted ns)) hg he)
theorem Eo.catL {xs ys : List α} (ha : Eo C sc a ρ (F xs)) (hb : Eo C sc b ρ (F ys)) (hz : xs.length + ys.length ≤ sizeLine) : Eo C sc (.BinOp a .Add b pos) ρ (oL (xs ++ ys)) :=
  Eo.toO ((Eo.cat (xs := xs.map enc) (ys := ys.map enc) ha hb (by rw [List.length_map, List.length_map]; exact hz)).cast (by rw [List.map_append, List.map_append, List.map_append]))
theorem Eo.sliceL {xs : List α} {lo hi : Option Expr} {x y : Option Int} {p2 : Pos} (ha : Eo C sc a ρ (F xs)) (hl : Ep C sc lo ρ x) (hu : Ep C sc hi ρ y) : Eo C sc (.Subscript a (.Slice lo hi none p2) pos) ρ (oL (cutL xs x y)) :=
  Eo.toO ((Eo.slice (ds := xs.map enc) ha hl hu).cast (by rw [cutD_map]))
theorem Eo.listO {xs : List α} (hm : C.mg "list" = none) (ha : Eo C sc a ρ (F xs)) (hg : sc.sc.names.lookup ("list" : Str) = some .globalImplicit := by rfl) (he : ∀ env, starEach [a] env = (false, eval a env) :: starEach [] env := by intro _; rfl) :
    Eo C sc (.Call (.Name "list" p) [a] [] pos) ρ (oL xs) := Eo.toO (Eo.listL hm ha hg he)
/-- list(range(..)): by a walked thing -/
theorem scal_int {i j : Int} : scal (.int i) (.int j) = true := rfl
theorem r_eqI {K : PySem.W.Frag} {i j : Int} : R2o K rEq (.int i) (.int j) (.fz (.bool (decide (i = j)))) := fun v w G H Q s h1 h2 f => by
  rw [h1.int_eq, h2.int_eq]
  refine ⟨rfl, ?_⟩
  rw [dec_int, Bool.beq_eq_decide_eq]
  exact f.fz s (.bl _)
theorem r_neI {K : PySem.W.Frag} {i j : Int} : R2o K rNe (.int i) (.int j) (.fz (.bool (!decide (i = j)))) := fun v w G H Q s h1 h2 f => by
  rw [h1.int_eq, h2.int_eq]
  refine ⟨rfl, ?_⟩
  rw [dec_int, Bool.beq_eq_decide_eq]
  exact f.fz s (.bl _)
theorem r_eqS {K : PySem.W.Frag} {i j : Str} : R2o K rEq (.str i) (.str j) (.fz (.bool (decide (i = j)))) := fun v w G H Q s h1 h2 f => by
  rw [h1.str_eq, h2.str_eq]
  refine ⟨rfl, ?_⟩
  rw [show decide (V.str i = V.str j) = decide (i = j) by simp]
  exact f.fz s (.bl _)
theorem r_neS {K : PySem.W.Frag} {i j : Str} : R2o K rNe (.str i) (.str j) (.fz (.bool (!decide (i = j)))) := fun v w G H Q s h1 h2 f => by
  rw [h1.str_eq, h2.str_eq]
  refine ⟨rfl, ?_⟩
  rw [show decide (V.str i = V.str j) = decide (i = j) by simp]
  exact f.fz s (.bl _)
variable {i j : Int} {x y : Str}
theorem Eo.eqI (ha : Eo C sc a ρ (F i)) (hb : Eo C sc b ρ (F j)) : Eo C sc (.Compare a [.Eq] [b] pos) ρ (F (decide (i = j))) := Eo.cmp (fun _ _ => op_eq) (fun _ _ => r_eqI) ha hb (nomark _)
theorem Et.eqI (ha : Eo C sc a ρ (F i)) (hb : Eo C sc b ρ (F j)) : Et C sc (.Compare a [.Eq] [b] pos) ρ (decide (i = j)) := Et.cmp (fun _ _ => op_eq) (fun _ _ => r_eqI) ha hb (nomark _)
theorem Eo.neI (ha : Eo C sc a ρ (F i)) (hb : Eo C sc b ρ (F j)) : Eo C sc (.Compare a [.NotEq] [b] pos) ρ (F (!decide (i = j))) := Eo.cmp (fun _ _ => op_ne) (fun _ _ => r_neI) ha hb (nomark _)
theorem Et.neI (ha : Eo C sc a ρ (F i)) (hb : Eo C sc b ρ (F j)) : Et C sc (.Compare a [.NotEq] [b] pos) ρ (!decide (i = j)) := Et.cmp (fun _ _ => op_ne) (fun _ _ => r_neI) ha hb (nomark _)
theorem Eo.eqS (ha : Eo C sc a ρ (F x)) (hb : Eo C sc b ρ (F y)) : Eo C sc (.Compare a [.Eq] [b] pos) ρ (F (decide (x = y))) := Eo.cmp (fun _ _ => op_eq) (fun _ _ => r_eqS) ha hb (nomark _)
theorem Et.eqS (ha : Eo C sc a ρ (F x)) (hb : Eo C sc b ρ (F y)) : Et C sc (.Compare a [.Eq] [b] pos) ρ (decide (x = y)) := Et.cmp (fun _ _ => op_eq) (fun _ _ => r_eqS) ha hb (nomark _)
theorem Eo.neS (ha : Eo C sc a ρ (F x)) (hb : Eo C sc b ρ (F y)) : Eo C sc (.Compare a [.NotEq] [b] pos) ρ (F (!decide (x = y))) := Eo.cmp (fun _ _ => op_ne) (fun _ _ => r_neS) ha hb (nomark _)
theorem Et.neS (ha : Eo C sc a ρ (F x)) (hb : Eo C sc b ρ (F y)) : Et C sc (.Compare a [.NotEq] [b] pos) ρ (!decide (x = y)) := Et.cmp (fun _ _ => op_ne) (fun _ _ => r_neS) ha hb (nomark _)
section
variable [DecidableEq α] [EncOk α] {u v : α}
theorem Eo.eqT (ha : Eo C sc a ρ (F u)) (hb : Eo C sc b ρ (F v)) (h : EncOk.dep α ≤ 64 := by decide) : Eo C sc (.Compare a [.Eq] [b] pos) ρ (F (decide (u = v))) := (Eo.eqD ha hb (shaped_enc u h) (shaped_enc v h)).cast (by rw [EncOk.eqv]; rfl)
theorem Et.eqT (ha : Eo C sc a ρ (F u)) (hb : Eo C sc b ρ (F v)) (h : EncOk.dep α ≤ 64 := by decide) : Et C sc (.Compare a [.Eq] [b] pos) ρ (decide (u = v)) := (Et.eqD ha hb (shaped_enc u h) (shaped_enc v h)).cast (by rw [EncOk.eqv])
theorem Eo.neT (ha : Eo C sc a ρ (F u)) (hb : Eo C sc b ρ (F v)) (h : EncOk.dep α ≤ 64 := by decide) : Eo C sc (.Compare a [.NotEq] [b] pos) ρ (F (!decide (u = v))) := (Eo.neD ha hb (shaped_enc u h) (shaped_enc v h)).cast (by rw [EncOk.eqv]; rfl)
theorem Et.neT (ha : Eo C sc a ρ (F u)) (hb : Eo C sc b ρ (F v)) (h : EncOk.dep α ≤ 64 := by decide) : Et C sc (.Compare a [.NotEq] [b] pos) ρ (!decide (u = v)) := (Et.neD ha hb (shaped_enc u h) (shaped_enc v h)).cast (by rw [EncOk.eqv])
end
theorem any_eqF_int {i : Int} (ns : List Int) : ((ns.map (enc : Int → PyData)).any fun y => eqF y (enc i)) = decide (i ∈ ns) := by
  induction ns with
  | nil => simp
  | cons n ns ih =>
    rw [List.map_cons, List.any_cons, ih]
    show ((n == i) || decide (i ∈ ns)) = decide (i ∈ n :: ns)
    rw [Bool.eq_iff_iff, Bool.or_eq_true, decide_eq_true_iff, decide_eq_true_iff, List.mem_cons, beq_iff_eq]
    exact ⟨fun h => h.imp Eq.symm id, fun h => h.imp Eq.symm id⟩
theorem any_eqF_str {x : Str} (ns : List Str) : ((ns.map (enc : Str → PyData)).any fun y => eqF y (enc x)) = decide (x ∈ ns) := by
  induction ns with
  | nil => simp
  | cons n ns ih =>
    rw [List.map_cons, List.any_cons, ih]
    show ((n == x) || decide (x ∈ ns)) = decide (x ∈ n :: ns)
    rw [Bool.eq_iff_iff, Bool.or_eq_true, decide_eq_true_iff, decide_eq_true_iff, List.mem_cons, beq_iff_eq]
    exact ⟨fun h => h.imp Eq.symm id, fun h => h.imp Eq.symm id⟩
theorem scal_ints (ns : List Int) : (ns.map (enc : Int → PyData)).all scalarD = true := by
  rw [List.all_map, List.all_eq_true]
  intro _ _
  rfl
theorem scal_strs (ns : List Str) : (ns.map (enc : Str → PyData)).all scalarD = true := by
  rw [List.all_map, List.all_eq_true]
  intro _ _
  rfl
variable {ns : List Int} {ss : List Str}
theorem Eo.inI (ha : Eo C sc a ρ (F i)) (hb : Eo C sc b ρ (F ns)) (hk : behindInMarks .In b = false := by rfl) : Eo C sc (.Compare a [.In] [b] pos) ρ (F (decide (i ∈ ns))) := (Eo.inL ha hb (scal_ints ns) rfl hk).cast (by rw [any_eqF_int]; rfl)
theorem Et.inI (ha : Eo C sc a ρ (F i)) (hb : Eo C sc b ρ (F ns)) (hk : behindInMarks .In b = false := by rfl) : Et C sc (.Compare a [.In] [b] pos) ρ (decide (i ∈ ns)) := (Et.inL ha hb (scal_ints ns) rfl hk).cast (by rw [any_eqF_int])
theorem Eo.ninI (ha : Eo C sc a ρ (F i)) (hb : Eo C sc b ρ (F ns)) (hk : behindInMarks .NotIn b = false := by rfl) : Eo C sc (.Compare a [.NotIn] [b] pos) ρ (F (!decide (i ∈ ns))) := (Eo.ninL ha hb (scal_ints ns) rfl hk).cast (by rw [any_eqF_int]; rfl)
theorem Et.ninI (ha : Eo C sc a ρ (F i)) (hb : Eo C sc b ρ (F ns)) (hk : behindInMarks .NotIn b = false := by rfl) : Et C sc (.Compare a [.NotIn] [b] pos) ρ (!decide (i ∈ ns)) := (Et.ninL ha hb (scal_ints ns) rfl hk).cast (by rw [any_eqF_int])
theorem Eo.inS (ha : Eo C sc a ρ (F x)) (hb : Eo C sc b ρ (F ss)) (hk : behindInMarks .In b = false := by rfl) : Eo C sc (.Compare a [.In] [b] pos) ρ (F (decide (x ∈ ss))) := (Eo.inL ha hb (scal_strs ss) rfl hk).cast (by rw [any_eqF_str]; rfl)
theorem Et.inS (ha : Eo C sc a ρ (F x)) (hb : Eo C sc b ρ (F ss)) (hk : behindInMarks .In b = false := by rfl) : Et C sc (.Compare a [.In] [b] pos) ρ (decide (x ∈ ss)) := (Et.inL ha hb (scal_strs ss) rfl hk).cast (by rw [any_eqF_str])
theorem Et.ninS (ha : Eo C sc a ρ (F x)) (hb : Eo C sc b ρ (F ss)) (hk : behindInMarks .NotIn b = false := by rfl) : Et C sc (.Compare a [.NotIn] [b] pos) ρ (!decide (x ∈ ss)) := (Et.ninL ha hb (scal_strs ss) rfl hk).cast (by rw [any_eqF_str])
theorem Eo.ifF {u v : α} {k : Bool} (h : Et C sc c ρ k) (h1 : k = true → Eo C sc a ρ (F u)) (h2 : k = false → Eo C sc b ρ (F v)) : Eo C sc (.IfExp c a b pos) ρ (F (if k = true then u else v)) := (Eo.ifE h h1 h2).cast (by cases k <;> rfl)
theorem Eo.ifO {u v : List α} {k : Bool} (h : Et C sc c ρ k) (h1 : k = true → Eo C sc a ρ (oL u)) (h2 : k = false → Eo C sc b ρ (oL v)) : Eo C sc (.IfExp c a b pos) ρ (oL (if k = true then u else v)) := (Eo.ifE h h1 h2).cast (by cases k <;> rfl)
end
/-! ### comprehensions, loops: one-name and two-name targets -/
section
variable {C : Cn} {sc : Scp} {ρ : Rho} {tg iter elt : Expr} {ifs : List Expr} {body : List Stmt} {pos px py pt spos : Pos} {α β γ δ ε : Type} [Enc α] [Enc β] {scope : Scope} {own : List (Str × Nat)} {x y : Str} {k : Bool} {t : OD} {d d2 d3 : PyData}
theorem LcTurn.name (i : Nat) (ht : Ets C (sc.blk scope) ifs ((wipeR ρ (own.map (·.2))).set i (some (.fz d))) k) (he : k = true → Eo C (sc.blk scope) elt ((wipeR ρ (own.map (·.2))).set i (some (.fz d))) t)
    (ho : (own.map (·.2)).contains i = true := by rfl) (hi : C.N[i]? = some x := by rfl) (hx : Loc (sc.blk scope).sc x := by first | exact Or.inl rfl | exact Or.inr rfl)
    (hfn : (sc.blk scope).fn x = true ∨ (sc.blk scope).sc.names.lookup x = some .local := by first | exact Or.inl rfl | exact Or.inr rfl) : LcTurn C sc ρ scope own (.Name x px) elt ifs d k t :=
  ⟨[(i, d)], Gt.name i hi hx hfn, fun j hj => by
    have e : j = i := by simpa using hj
    subst e
    simpa using ho, ht, he⟩
theorem LcTurn.pair (i j : Nat) {q : Nat} (ht : Ets C (sc.blk scope) ifs (((wipeR ρ (own.map (·.2))).set i (some (.fz d))).set j (some (.fz d2))) k) (he : k = true → Eo C (sc.blk scope) elt (((wipeR ρ (own.map (·.2))).set i (some (.fz d))).set j (some (.fz d2))) t)
    (ho : (own.map (·.2)).contains i = true := by rfl) (ho2 : (own.map (·.2)).contains j = true := by rfl) (hi : C.N[i]? = some x := by rfl) (hj : C.N[j]? = some y := by rfl) (hx : Loc (sc.blk scope).sc x := by first | exact Or.inl rfl | exact Or.inr rfl) (hy : Loc (sc.blk scope).sc y := by first | exact Or.inl rfl | exact Or.inr rfl)
    (hfn : (sc.blk scope).fn x = true ∨ (sc.blk scope).sc.names.lookup x = some .local := by first | exact Or.inl rfl | exact Or.inr rfl) (hfn2 : (sc.blk scope).fn y = true ∨ (sc.blk scope).sc.names.lookup y = some .local := by first | exact Or.inl rfl | exact Or.inr rfl) :
    LcTurn C sc ρ scope own (.Tuple [.Name x px, .Name y py] q pt) elt ifs (.tuple [d, d2]) k t :=
  ⟨[(i, d), (j, d2)], Gt.tup (Gts.cons (Gt.name i hi hx hfn) (Gts.cons (Gt.name j hj hy hfn2) Gts.nil)), fun l hl => by
    have e : l = i ∨ l = j := by simpa using hl
    rcases e with e | e <;> subst e
    · simpa using ho
    · simpa using ho2, ht, he⟩
/-- one turn of a for, the target a name, a pair -/
def ForTurnO (C : Cn) (sc : Scp) (tg : Expr) (body : List Stmt) (ρ : Rho) (d : PyData) (o : Out) : Prop :=
  ∃ as o1, Gt C sc tg d as ∧ Ss C sc body (setR ρ as) o1 ∧ OutLe o o1.norm
theorem OutLe.norm_refl (o : Out) (h : ∀ ρ, o ≠ .ct ρ) : OutLe o o.norm := by
  cases o with
  | nx ρ => exact Le.refl ρ
  | bk ρ => exact Le.refl ρ
  | ct ρ => exact absurd rfl (h ρ)
  | rt t => rfl
def notCt : Out → Bool
  | .ct _ => false
  | _ => true
theorem ForTurn.name {o : Out} (i : Nat) (hb : Ss C sc body (ρ.set i (some (.fz d))) o) (hn : notCt o = true := by rfl) (hi : C.N[i]? = some x := by rfl) (hx : Loc sc.sc x := by first | exact Or.inl rfl | exact Or.inr rfl)
    (hfn : sc.fn x = true ∨ sc.sc.names.lookup x = some .local := by first | exact Or.inl rfl | exact Or.inr rfl) : ForTurnO C sc (.Name x px) body ρ d o :=
  ⟨[(i, d)], _, Gt.name i hi hx hfn, hb, OutLe.norm_refl o fun ρ e => by subst e; cases hn⟩
theorem ForTurn.pair {o : Out} (i j : Nat) {q : Nat} (hb : Ss C sc body ((ρ.set i (some (.fz d))).set j (some (.fz d2))) o) (hn : notCt o = true := by rfl) (hi : C.N[i]? = some x := by rfl) (hj : C.N[j]? = some y := by rfl) (hx : Loc sc.sc x := by first | exact Or.inl rfl | exact Or.inr rfl) (hy : Loc sc.sc y := by first | exact Or.inl rfl | exact Or.inr rfl)
    (hfn : sc.fn x = true ∨ sc.sc.names.lookup x = some .local := by first | exact Or.inl rfl | exact Or.inr rfl) (hfn2 : sc.fn y = true ∨ sc.sc.names.lookup y = some .local := by first | exact Or.inl rfl | exact Or.inr rfl) : ForTurnO C sc (.Tuple [.Name x px, .Name y py] q pt) body ρ (.tuple [d, d2]) o :=
  ⟨[(i, d), (j, d2)], _, Gt.tup (Gts.cons (Gt.name i hi hx hfn) (Gts.cons (Gt.name j hj hy hfn2) Gts.nil)), hb, OutLe.norm_refl o fun ρ e => by subst e; cases hn⟩
theorem notCt_body {R B : α → Rho} {T : γ → OD} (r : Fl α γ) : notCt (r.body R B T) = true := by cases r <;> rfl
/-- outcomes by name -/
def rtF (v : α) : Out := .rt (F v)
def rtO (v : List α) : Out := .rt (oL v)
def nxR (R : δ → Rho) (v : δ) : Out := .nx (R v)
/-- [e for x in xs], [e for x in xs if c], items frozen -/
theorem Eo.lcL (xs : List δ) (en : δ → PyData) (f : δ → α) (own : List (Str × Nat)) (hi : Ei C sc tg iter ρ (xs.map en)) (hz : xs.length ≤ sizeLine)
    (h : ∀ x ∈ xs, LcTurn C sc ρ scope own tg elt ifs (en x) true (F (f x))) (ok : blkC C.N sc.sc scope own = true := by first | decide +kernel | (dsimp only; decide +kernel)) (hs : ∀ env x, foldedSetIterable iter env x = pure x := by intro _ _; rfl) :
    Eo C sc (.ListComp elt [⟨tg, iter, ifs, 0⟩] scope pos) ρ (oL (xs.map f)) := (Eo.lc xs en (fun _ => true) (fun x => F (f x)) own hi hz h ok hs).cast (by
      unfold oL
      rw [List.filter_eq_self.mpr (fun _ _ => rfl), List.map_map]
      rfl)
theorem Eo.lcP (xs : List δ) (en : δ → PyData) (p : δ → Bool) (f : δ → α) (own : List (Str × Nat)) (hi : Ei C sc tg iter ρ (xs.map en)) (hz : xs.length ≤ sizeLine)
    (h : ∀ x ∈ xs, LcTurn C sc ρ scope own tg elt ifs (en x) (p x) (F (f x))) (ok : blkC C.N sc.sc scope own = true := by first | decide +kernel | (dsimp only; decide +kernel)) (hs : ∀ env x, foldedSetIterable iter env x = pure x := by intro _ _; rfl) :
    Eo C sc (.ListComp elt [⟨tg, iter, ifs, 0⟩] scope pos) ρ (oL ((xs.filter p).map f)) := (Eo.lc xs en p (fun x => F (f x)) own hi hz h ok hs).cast (by
      unfold oL
      rw [List.map_map]
      rfl)
theorem Sx.setLcL (i : Nat) (xs : List δ) (en : δ → PyData) (f : δ → α) (own : List (Str × Nat)) (hi : Ei C sc tg iter ρ (xs.map en)) (hz : xs.length ≤ sizeLine)
    (h : ∀ x ∈ xs, LcTurn C sc ρ scope own tg elt ifs (en x) true (F (f x))) (ok : blkC C.N sc.sc scope own = true := by first | decide +kernel | (dsimp only; decide +kernel)) (hN : C.N[i]? = some y := by rfl) (hyl : sc.sc.names.lookup y = some .local := by rfl)
    (hk : sc.sc.kind = .function := by rfl) (hl : (py.line == pos.line) = true := by rfl) (ha : (scope.names.any fun (n, k) => n == y && (k == .local || k == .cell)) = false := by decide +kernel) (hs : ∀ env x, foldedSetIterable iter env x = pure x := by intro _ _; rfl) :
    Sx C sc (.Assign [.Name y py] (.ListComp elt [⟨tg, iter, ifs, 0⟩] scope pos) spos) ρ (.nx (ρ.set i (some (oL (xs.map f))))) := (Sx.setLc i xs en (fun _ => true) (fun x => F (f x)) own hi hz h ok hN hyl hk hl ha hs).cast (by
      unfold oL
      rw [List.filter_eq_self.mpr (fun _ _ => rfl), List.map_map]
      rfl)
theorem Sx.setLcP (i : Nat) (xs : List δ) (en : δ → PyData) (p : δ → Bool) (f : δ → α) (own : List (Str × Nat)) (hi : Ei C sc tg iter ρ (xs.map en)) (hz : xs.length ≤ sizeLine)
    (h : ∀ x ∈ xs, LcTurn C sc ρ scope own tg elt ifs (en x) (p x) (F (f x))) (ok : blkC C.N sc.sc scope own = true := by first | decide +kernel | (dsimp only; decide +kernel)) (hN : C.N[i]? = some y := by rfl) (hyl : sc.sc.names.lookup y = some .local := by rfl)
    (hk : sc.sc.kind = .function := by rfl) (hl : (py.line == pos.line) = true := by rfl) (ha : (scope.names.any fun (n, k) => n == y && (k == .local || k == .cell)) = false := by decide +kernel) (hs : ∀ env x, foldedSetIterable iter env x = pure x := by intro _ _; rfl) :
    Sx C sc (.Assign [.Name y py] (.ListComp elt [⟨tg, iter, ifs, 0⟩] scope pos) spos) ρ (.nx (ρ.set i (some (oL ((xs.filter p).map f))))) := (Sx.setLc i xs en p (fun x => F (f x)) own hi hz h ok hN hyl hk hl ha hs).cast (by
      unfold oL
      rw [List.map_map]
      rfl)
theorem Ei.lst {xs : List α} (h : Eo C sc iter ρ (F xs)) : Ei C sc tg iter ρ (xs.map enc) := Ei.list h
theorem Ei.enumT {xs : List α} {elts : List Expr} {kk : Nat} {tpos p : Pos} (hm : C.mg "enumerate" = none) (h : Eo C sc iter ρ (F xs)) (hg : sc.sc.names.lookup ("enumerate" : Str) = some .globalImplicit := by rfl) (hs : ∀ env, starEach [iter] env = (false, eval iter env) :: starEach [] env := by intro _; rfl) :
    Ei C sc (.Tuple elts kk tpos) (.Call (.Name "enumerate" p) [iter] [] pos) ρ ((enumL xs).map enc) := by
  rw [← enumD_eq]
  exact Ei.enum hm h hg hs
/-- a for whose turns only pass on a state -/
theorem Sx.forF (xs : List γ) (en : γ → PyData) (f : δ → γ → δ) (s0 : δ) (R : δ → Rho) (Iv : Nat → δ → Prop) (hi : Ei C sc tg iter ρ (xs.map en)) (h0 : Le (R s0) ρ) (i0 : Iv 0 s0)
    (hs : ∀ i s x, xs[i]? = some x → Iv i s → ForTurnO C sc tg body (R s) (en x) (nxR R (f s x)) ∧ Iv (i + 1) (f s x))
    (hfs : ∀ env x, foldedSetIterable iter env x = pure x := by intro _ _; rfl) : Sx C sc (.For tg iter body [] pos) ρ (.nx (R (xs.foldl f s0))) := by
  have h := Sx.forE (γ := Unit) xs en (fun s x => .nx (f s x)) s0 R R (fun _ => .fz .none) Iv hi h0 i0 (fun i s x hx iv => ⟨(hs i s x hx iv).1, fun s' e => by cases e; exact (hs i s x hx iv).2⟩) hfs (body := body) (pos := pos)
  rw [forE_foldl] at h
  exact h
/-- a for that may leave -/
theorem Sx.forL (xs : List γ) (en : γ → PyData) (step : δ → γ → Fl δ ε) (s0 : δ) (R B : δ → Rho) (T : ε → OD) (Iv : Nat → δ → Prop) (hi : Ei C sc tg iter ρ (xs.map en)) (h0 : Le (R s0) ρ) (i0 : Iv 0 s0)
    (hs : ∀ i s x, xs[i]? = some x → Iv i s → ForTurnO C sc tg body (R s) (en x) ((step s x).body R B T) ∧ ∀ s', step s x = .nx s' → Iv (i + 1) s')
    (hfs : ∀ env x, foldedSetIterable iter env x = pure x := by intro _ _; rfl) : Sx C sc (.For tg iter body [] pos) ρ ((NW.forE step xs s0).loop R B T) :=
  Sx.forE xs en step s0 R B T Iv hi h0 i0 hs hfs
end
/-! ### blocks -/
section
variable {C : Cn} {sc : Scp} {ρ : Rho} {c : Expr} {a b rest : List Stmt} {pos : Pos} {k : Bool} {o : Out} {α : Type}
/-- a block, then the rest -/
def Then (C : Cn) (sc : Scp) (a rest : List Stmt) (ρ : Rho) (o : Out) : Prop := ∃ o1, Ss C sc a ρ o1 ∧ match o1 with
  | .nx ρ1 => Ss C sc rest ρ1 o
  | o1 => o1 = o
theorem Then.go {ρ1 : Rho} (h : Ss C sc a ρ (.nx ρ1)) (h2 : Ss C sc rest ρ1 o) : Then C sc a rest ρ o := ⟨_, h, h2⟩
theorem Then.rt {t : OD} (h : Ss C sc a ρ (.rt t)) : Then C sc a rest ρ (.rt t) := ⟨_, h, rfl⟩
theorem Then.bk {ρ1 : Rho} (h : Ss C sc a ρ (.bk ρ1)) : Then C sc a rest ρ (.bk ρ1) := ⟨_, h, rfl⟩
theorem Then.ends {o : Out} (h : Ss C sc a ρ o) (he : o.ends = true) : Then C sc a rest ρ o := ⟨_, h, by cases o <;> first | rfl | cases he⟩
theorem Ss.ifT (f : α → Out) {A B : α} (h : Et C sc c ρ k) (h1 : k = true → Then C sc a rest ρ (f A)) (h2 : k = false → Then C sc b rest ρ (f B)) : Ss C sc (.If c a b pos :: rest) ρ (f (if k = true then A else B)) := fun X F po G0 H0 σ G H D E p =>
  toSs (pss_cons (ps_if pt_wp pss_wp pss_wp) pss_wp) (h X F σ G H _ E.sl fun G' H' s => by
    have go : ∀ {l : List Stmt} {o : Out}, Then C sc l rest ρ o → Post C.K G0 H0 D o → wpSs X l { D with nx := wpSs X rest D } σ H' := fun {l o} ⟨o1, q1, q2⟩ p => by
      refine q1 X F po G0 H0 σ G' H' _ (E.step s) ?_
      cases o1 with
      | nx ρ1 => exact fun σ1 G1 H1 E1 => q2 X F po G0 H0 σ1 G1 H1 D E1 p
      | rt t => subst q2; exact p
      | bk t => subst q2; exact p
      | ct t => subst q2; exact p
    cases k with
    | true => exact iteT (go (h1 rfl) p)
    | false => exact iteF (go (h2 rfl) p))
end
end NW
namespace NW
open PySem PySem.Spec L2
open PyProof.Rows hiding St
open Enc (enc)
/-! ### rules for printed walks -/
def letv {α β : Type} (v : α) (f : α → β) : β := f v
def letv2 {α β γ : Type} (v : α × β) (f : α → β → γ) : γ := f v.1 v.2
def Fl.elim {α γ β : Type} (r : Fl α γ) (A B : α → β) (g : γ → β) : β := match r with
  | .nx s => A s
  | .bk s => B s
  | .rt q => g q
/-- a block, then blocks that wait behind it -/
def Sk (C : Cn) (sc : Scp) : List Stmt → List (List Stmt) → Rho → Out → Prop
  | a, [], ρ, o => Ss C sc a ρ o
  | a, k :: ks, ρ, o => ∃ o1, Ss C sc a ρ o1 ∧ match o1 with
    | .nx ρ1 => Sk C sc k ks ρ1 o
    | o1 => o1 = o
section
variable {C : Cn} {sc : Scp} {ρ ρ1 : Rho} {st : Stmt} {rest a b : List Stmt} {ks : List (List Stmt)} {o : Out} {c : Expr} {pos : Pos} {k : Bool} {ε : Type}
theorem Sk.cons (h : Sx C sc st ρ (.nx ρ1)) (h2 : Sk C sc rest ks ρ1 o) : Sk C sc (st :: rest) ks ρ o := by
  cases ks with
  | nil => exact Ss.cons h h2
  | cons l ks =>
    obtain ⟨o1, q1, q2⟩ := h2
    exact ⟨o1, Ss.cons h q1, q2⟩
theorem Sk.stop (h : Sx C sc st ρ o) (hs : o.ends = true := by rfl) : Sk C sc (st :: rest) ks ρ o := by
  cases ks with
  | nil => exact Ss.stop h hs
  | cons l ks => exact ⟨o, Ss.stop h hs, by cases o <;> first | rfl | cases hs⟩
theorem Sk.pop {l : List Stmt} (h : Sk C sc l ks ρ o) : Sk C sc [] (l :: ks) ρ o := ⟨_, Ss.nil, h⟩
theorem Sk.freeze (i : Nat) {t : OD} (h : ρ[i]? = some (some t)) (ha : t.isAt = false) (q : Sk C sc rest ks (ρ.set i (some (.fz t.data))) o) : Sk C sc rest ks ρ o := by
  cases ks with
  | nil => exact Ss.freeze i h ha q
  | cons l ks =>
    obtain ⟨o1, q1, q2⟩ := q
    exact ⟨o1, Ss.freeze i h ha q1, q2⟩
theorem Sk.ifT (f : ε → Out) {A B : ε} (h : Et C sc c ρ k) (h1 : k = true → Sk C sc a (rest :: ks) ρ (f A)) (h2 : k = false → Sk C sc b (rest :: ks) ρ (f B)) : Sk C sc (.If c a b pos :: rest) ks ρ (f (if k = true then A else B)) := by
  cases k with
  | true =>
    obtain ⟨o1, q1, q2⟩ := h1 rfl
    have sx : Sx C sc (.If c a b pos) ρ o1 := Sx.if_ h (fun _ => q1) (fun z => nomatch z)
    rw [if_pos rfl]
    cases o1 with
    | nx ρ1 => exact Sk.cons sx q2
    | rt t => rw [← q2]; exact Sk.stop sx
    | bk t => rw [← q2]; exact Sk.stop sx
    | ct t => rw [← q2]; exact Sk.stop sx
  | false =>
    obtain ⟨o1, q1, q2⟩ := h2 rfl
    have sx : Sx C sc (.If c a b pos) ρ o1 := Sx.if_ h (fun z => nomatch z) (fun _ => q1)
    rw [if_neg Bool.false_ne_true]
    cases o1 with
    | nx ρ1 => exact Sk.cons sx q2
    | rt t => rw [← q2]; exact Sk.stop sx
    | bk t => rw [← q2]; exact Sk.stop sx
    | ct t => rw [← q2]; exact Sk.stop sx
theorem Sk.ss (h : Sk C sc a [] ρ o) : Ss C sc a ρ o := h
end
section
variable {C : Cn} {sc : Scp} {ρ : Rho} {e c tg iter elt : Expr} {st : Stmt} {a b rest body : List Stmt} {ks : List (List Stmt)} {ifs : List Expr} {pos pos' px py pt spos apos cpos : Pos} {k : Bool} {o : Out} {α β γ δ ε : Type} [Enc α] [Enc β] {x y : Str} {scope : Scope}
theorem Eo.v (i : Nat) (v : α) (h : ρ[i]? = some (some (F v)) := by rfl) (hN : C.N[i]? = some x := by rfl) (hv : Vis sc.sc x := by first | exact Or.inl rfl | exact Or.inr (Or.inl rfl) | exact Or.inr (Or.inr rfl))
    (hd : (x == ("__debug__" : Str)) = false := by decide) (hcd : (x == ("__classdict__" : Str)) = false := by decide) : Eo C sc (.Name x pos) ρ (F v) := Eo.var i h hN hv hd hcd
/-- an owned name, read where all is frozen -/
theorem Eo.vz (i : Nat) (v : List α) (h : ρ[i]? = some (some (OD.frz (oL v))) := by rfl) (hN : C.N[i]? = some x := by rfl) (hv : Vis sc.sc x := by first | exact Or.inl rfl | exact Or.inr (Or.inl rfl) | exact Or.inr (Or.inr rfl))
    (hd : (x == ("__debug__" : Str)) = false := by decide) (hcd : (x == ("__classdict__" : Str)) = false := by decide) : Eo C sc (.Name x pos) ρ (F v) := (Eo.var (d := (oL v).data) i h hN hv hd hcd).cast (by rw [oL_data])
theorem Eo.I {i : Int} {j : Nat} : Eo C sc (.Constant (.int i) j pos) ρ (F i) := Eo.int
theorem Eo.B {i : Bool} {j : Nat} : Eo C sc (.Constant (.bool i) j pos) ρ (F i) := Eo.bl
theorem Eo.S {i : Str} {j : Nat} : Eo C sc (.Constant (.str i) j pos) ρ (F i) := Eo.str
theorem Eo.N {j : Nat} : Eo C sc (.Constant .none j pos) ρ (F ()) := Eo.non
/-- the end of a block -/
theorem Sk.nx {R : δ → Rho} {v : δ} (l : Le (R v) ρ) : Sk C sc [] [] ρ (nxR R v) := Ss.weak Ss.nil (show OutLe (.nx (R v)) (.nx ρ) from l)
/-- x = e -/
theorem Sk.setF (f : ε → Out) (i : Nat) {v : α} {B : α → ε} (h : Eo C sc e ρ (F v)) (hr : ∀ z, z = v → Sk C sc rest ks (ρ.set i (some (F z))) (f (B z))) (hi : C.N[i]? = some x := by rfl) (hx : Loc sc.sc x := by first | exact Or.inl rfl | exact Or.inr rfl)
    (hfn : sc.fn x = true ∨ sc.sc.names.lookup x = some .local := by first | exact Or.inl rfl | exact Or.inr rfl)
    (hs : ∀ env : PySem.Env, env.scope = sc.sc → swapsWith e (some (.Name x pos')) pos.line env = pure false := by intro env h; first | rfl | exact sw_cell (by rw [h]; rfl)) : Sk C sc (.Assign [.Name x pos'] e pos :: rest) ks ρ (f (letv v B)) :=
  Sk.cons (Sx.set i h hi hx hfn hs) (hr v rfl)
theorem Sk.setO (f : ε → Out) (i : Nat) {v : List α} {B : List α → ε} (h : Eo C sc e ρ (oL v)) (hr : ∀ z, z = v → Sk C sc rest ks (ρ.set i (some (oL z))) (f (B z))) (hi : C.N[i]? = some x := by rfl) (hx : Loc sc.sc x := by first | exact Or.inl rfl | exact Or.inr rfl)
    (hfn : sc.fn x = true ∨ sc.sc.names.lookup x = some .local := by first | exact Or.inl rfl | exact Or.inr rfl)
    (hs : ∀ env : PySem.Env, env.scope = sc.sc → swapsWith e (some (.Name x pos')) pos.line env = pure false := by intro env h; first | rfl | exact sw_cell (by rw [h]; rfl)) : Sk C sc (.Assign [.Name x pos'] e pos :: rest) ks ρ (f (letv v B)) :=
  Sk.cons (Sx.set i h hi hx hfn hs) (hr v rfl)
/-- x = e, e any owned tree -/
theorem Sk.setT (f : ε → Out) (i : Nat) {v : δ} {t : δ → OD} {B : δ → ε} (h : Eo C sc e ρ (t v)) (hr : ∀ z, z = v → Sk C sc rest ks (ρ.set i (some (t z))) (f (B z))) (hi : C.N[i]? = some x := by rfl) (hx : Loc sc.sc x := by first | exact Or.inl rfl | exact Or.inr rfl)
    (hfn : sc.fn x = true ∨ sc.sc.names.lookup x = some .local := by first | exact Or.inl rfl | exact Or.inr rfl)
    (hs : ∀ env : PySem.Env, env.scope = sc.sc → swapsWith e (some (.Name x pos')) pos.line env = pure false := by intro env h; first | rfl | exact sw_cell (by rw [h]; rfl)) : Sk C sc (.Assign [.Name x pos'] e pos :: rest) ks ρ (f (letv v B)) :=
  Sk.cons (Sx.set i h hi hx hfn hs) (hr v rfl)
/-- a statement that brings the slots to ρ1, where v is told -/
theorem Sk.step (f : ε → Out) {v : δ} {B : δ → ε} (R : δ → Rho) (h : Sx C sc st ρ (.nx (R v))) (hr : ∀ z, z = v → Sk C sc rest ks (R z) (f (B z))) : Sk C sc (st :: rest) ks ρ (f (letv v B)) := Sk.cons h (hr v rfl)
/-- x, y = e -/
theorem Sk.set2 (f : ε → Out) (i j : Nat) {q : Nat} {v : α × β} {B : α → β → ε} (h : Eo C sc e ρ (F v)) (hr : ∀ z w, (z, w) = v → Sk C sc rest ks ((ρ.set i (some (F z))).set j (some (F w))) (f (B z w))) (hi : C.N[i]? = some x := by rfl) (hj : C.N[j]? = some y := by rfl) (hx : Loc sc.sc x := by first | exact Or.inl rfl | exact Or.inr rfl) (hy : Loc sc.sc y := by first | exact Or.inl rfl | exact Or.inr rfl)
    (hfn : sc.fn x = true ∨ sc.sc.names.lookup x = some .local := by first | exact Or.inl rfl | exact Or.inr rfl) (hfn2 : sc.fn y = true ∨ sc.sc.names.lookup y = some .local := by first | exact Or.inl rfl | exact Or.inr rfl)
    (hs : ∀ env, swapsWithSole [.Tuple [.Name x px, .Name y py] q pt] e pos.line env = pure false := by intro _; rfl) (hw : ∀ env, swappedStores [.Tuple [.Name x px, .Name y py] q pt] e env = pure none := by intro _; rfl) :
    Sk C sc (.Assign [.Tuple [.Name x px, .Name y py] q pt] e pos :: rest) ks ρ (f (letv2 v B)) :=
  Sk.cons (Sx.asg (d := .tuple [enc v.1, enc v.2]) (as := [(i, enc v.1), (j, enc v.2)]) h (Gt.tup (Gts.cons (Gt.name i hi hx hfn) (Gts.cons (Gt.name j hj hy hfn2) Gts.nil))) hs hw) (hr v.1 v.2 rfl)
/-- return e -/
theorem Sk.retF {v : α} (h : Eo C sc e ρ (F v)) : Sk C sc (.Return (some e) pos :: rest) ks ρ (rtF v) := Sk.stop (Sx.ret h)
theorem Sk.retO {v : List α} (h : Eo C sc e ρ (oL v)) : Sk C sc (.Return (some e) pos :: rest) ks ρ (rtO v) := Sk.stop (Sx.ret h)
theorem Sk.retV (i : Nat) {v : List α} (h : ρ[i]? = some (some (oL v)) := by rfl) (hN : C.N[i]? = some x := by rfl) (hv : Vis sc.sc x := by first | exact Or.inl rfl | exact Or.inr (Or.inl rfl) | exact Or.inr (Or.inr rfl))
    (hd : (x == ("__debug__" : Str)) = false := by decide) (hcd : (x == ("__classdict__" : Str)) = false := by decide) : Sk C sc (.Return (some (.Name x pos')) pos :: rest) ks ρ (rtO v) := Sk.stop (Sx.retOwn i h rfl hN hv hd hcd)
/-- returns within a loop -/
theorem Sk.retLF {R B : δ → Rho} {v : α} (h : Eo C sc e ρ (F v)) : Sk C sc (.Return (some e) pos :: rest) ks ρ (Fl.body R B (fun z : α => F z) (.rt v)) := Sk.stop (Sx.ret h)
theorem Sk.retLO {R B : δ → Rho} {v : List α} (h : Eo C sc e ρ (oL v)) : Sk C sc (.Return (some e) pos :: rest) ks ρ (Fl.body R B (fun z : List α => oL z) (.rt v)) := Sk.stop (Sx.ret h)
theorem Sk.nxL {R B : δ → Rho} {T : γ → OD} {v : δ} (l : Le (R v) ρ) : Sk C sc [] [] ρ (Fl.body R B T (.nx v)) := Ss.weak Ss.nil (show OutLe (.nx (R v)) (.nx ρ) from l)
theorem Sk.bkL {R B : δ → Rho} {T : γ → OD} {v : δ} (l : Le (B v) ρ) : Sk C sc (.Break pos :: rest) ks ρ (Fl.body R B T (.bk v)) := Sk.stop (Sx.weak Sx.brk (show OutLe (.bk (B v)) (.bk ρ) from l))
/-- x.append(e) -/
theorem Sk.appO (f : ε → Out) (i : Nat) {v : List α} {w : α} {B : List α → ε} (he : Eo C sc e ρ (F w)) (hz : v.length < sizeLine) (hr : ∀ z, z = v ++ [w] → Sk C sc rest ks (ρ.set i (some (oL z))) (f (B z))) (h : ρ[i]? = some (some (oL v)) := by rfl) (hN : C.N[i]? = some x := by rfl) (hv : Vis sc.sc x := by first | exact Or.inl rfl | exact Or.inr (Or.inl rfl) | exact Or.inr (Or.inr rfl))
    (hd : (x == ("__debug__" : Str)) = false := by decide) (hcd : (x == ("__classdict__" : Str)) = false := by decide)
    (hbase : ∀ env, attributeBase (.Name x pos') "append" env (eval (.Name x pos') env) = eval (.Name x pos') env := by intro _; rfl)
    (hfew : ∀ env, ((backTo cpos (starEach [e] env)).all (fun x => !x.1) && (backToKw cpos (keywordEach [] env)).all (fun x => x.1.isSome)
      && decide (([e] : List Expr).length + ([] : List Keyword).length + (if ([] : List Keyword).isEmpty then 0 else 1) < 30)) = true := by intro _; rfl)
    (hline : (apos.endLine == cpos.line) = true := by rfl) (hs : ∀ env, starEach [e] env = (false, eval e env) :: starEach [] env := by intro _; rfl)
    (hsw : ∀ env, swapsWith (.Call (.Attribute (.Name x pos') "append" apos) [e] [] cpos) none pos.line env = pure false := by intro _; rfl) :
    Sk C sc (.Expr (.Call (.Attribute (.Name x pos') "append" apos) [e] [] cpos) pos :: rest) ks ρ (f (letv (v ++ [w]) B)) := by
  have e1 : oL (v ++ [w]) = .ls ((v.map fun x => OD.fz (enc x)) ++ [F w]) := by unfold oL; rw [List.map_append]; rfl
  have h2 := hr (v ++ [w]) rfl
  rw [e1] at h2
  exact Sk.cons (Sx.append i (ts := v.map fun x => OD.fz (enc x)) h he (by rw [List.length_map]; exact hz) hN hv hd hcd hbase hfew hline hs hsw) h2
/-- x = [..] of a local name -/
theorem Sk.setLcF (f : ε → Out) (i : Nat) {B : List α → ε} (xs : List δ) (en : δ → PyData) (p : δ → Bool) (g : δ → α) (own : List (Str × Nat)) (hi : Ei C sc tg iter ρ (xs.map en)) (hz : xs.length ≤ sizeLine)
    (h : ∀ x ∈ xs, LcTurn C sc ρ scope own tg elt ifs (en x) (p x) (F (g x))) (hr : ∀ z, z = (xs.filter p).map g → Sk C sc rest ks (ρ.set i (some (F z))) (f (B z))) (ok : blkC C.N sc.sc scope own = true := by first | decide +kernel | (dsimp only; decide +kernel)) (hN : C.N[i]? = some y := by rfl) (hyl : sc.sc.names.lookup y = some .local := by rfl)
    (hk : sc.sc.kind = .function := by rfl) (hl : (py.line == pos.line) = true := by rfl) (ha : (scope.names.any fun (n, k) => n == y && (k == .local || k == .cell)) = false := by decide +kernel) (hs : ∀ env x, foldedSetIterable iter env x = pure x := by intro _ _; rfl) :
    Sk C sc (.Assign [.Name y py] (.ListComp elt [⟨tg, iter, ifs, 0⟩] scope pos) spos :: rest) ks ρ (f (letv ((xs.filter p).map g) B)) := by
  refine Sk.cons (Sx.setLcP i xs en p g own hi hz h ok hN hyl hk hl ha hs) ?_
  by_cases hi : i < ρ.length
  · refine Sk.freeze i (t := oL ((xs.filter p).map g)) (List.getElem?_set_self hi) rfl ?_
    rw [List.set_set, oL_data]
    exact hr _ rfl
  · have e1 : ∀ o : Option OD, ρ.set i o = ρ := fun o => List.set_eq_of_length_le (by omega)
    have h2 := hr _ rfl
    rw [e1] at h2 ⊢
    exact h2
theorem Sk.setLcO (f : ε → Out) (i : Nat) {B : List α → ε} (xs : List δ) (en : δ → PyData) (p : δ → Bool) (g : δ → α) (own : List (Str × Nat)) (hi : Ei C sc tg iter ρ (xs.map en)) (hz : xs.length ≤ sizeLine)
    (h : ∀ x ∈ xs, LcTurn C sc ρ scope own tg elt ifs (en x) (p x) (F (g x))) (hr : ∀ z, z = (xs.filter p).map g → Sk C sc rest ks (ρ.set i (some (oL z))) (f (B z))) (ok : blkC C.N sc.sc scope own = true := by first | decide +kernel | (dsimp only; decide +kernel)) (hN : C.N[i]? = some y := by rfl) (hyl : sc.sc.names.lookup y = some .local := by rfl)
    (hk : sc.sc.kind = .function := by rfl) (hl : (py.line == pos.line) = true := by rfl) (ha : (scope.names.any fun (n, k) => n == y && (k == .local || k == .cell)) = false := by decide +kernel) (hs : ∀ env x, foldedSetIterable iter env x = pure x := by intro _ _; rfl) :
    Sk C sc (.Assign [.Name y py] (.ListComp elt [⟨tg, iter, ifs, 0⟩] scope pos) spos :: rest) ks ρ (f (letv ((xs.filter p).map g) B)) :=
  Sk.cons (Sx.setLcP i xs en p g own hi hz h ok hN hyl hk hl ha hs) (hr _ rfl)
/-- an owned slot is frozen -/
theorem Sk.frzO (i : Nat) (v : List α) (q : Sk C sc rest ks (ρ.set i (some (F v))) o) (h : ρ[i]? = some (some (oL v)) := by rfl) : Sk C sc rest ks ρ o := by
  refine Sk.freeze i (t := oL v) h rfl ?_
  rw [oL_data]
  exact q
/-- a for that may leave -/
theorem Sk.flT (f : ε → Out) (g : γ → ε) {A A2 : δ → ε} {R B : δ → Rho} {T : γ → OD} (r : Fl δ γ) (h : Sx C sc st ρ (r.loop R B T)) (h1 : ∀ s, r = .nx s → Sk C sc rest ks (R s) (f (A s))) (h2 : ∀ s, r = .bk s → Sk C sc rest ks (B s) (f (A2 s))) (hg : ∀ q, f (g q) = .rt (T q) := by intro _; rfl) :
    Sk C sc (st :: rest) ks ρ (f (r.elim A A2 g)) := by
  cases r with
  | nx s => exact Sk.cons h (h1 s rfl)
  | bk s => exact Sk.cons h (h2 s rfl)
  | rt q =>
    show Sk C sc (st :: rest) ks ρ (f (g q))
    rw [hg]
    exact Sk.stop h
/-- an if whose ways meet again -/
theorem Sk.ifJ (f : ε → Out) (R : δ → Rho) {A A2 : δ} {B : δ → ε} (h : Et C sc c ρ k) (h1 : k = true → Sk C sc a [] ρ (nxR R A)) (h2 : k = false → Sk C sc b [] ρ (nxR R A2)) (hr : ∀ z, z = (if k = true then A else A2) → Sk C sc rest ks (R z) (f (B z))) :
    Sk C sc (.If c a b pos :: rest) ks ρ (f (letv (if k = true then A else A2) B)) := by
  refine Sk.cons (ρ1 := R (if k = true then A else A2)) (Sx.if_ h (fun e => ?_) (fun e => ?_)) (hr _ rfl)
  · rw [if_pos e]; exact h1 e
  · rw [if_neg (by rw [e]; exact Bool.false_ne_true)]; exact h2 e
theorem Sk.exprD (h : Eo C sc e ρ t) (hr : Sk C sc rest ks ρ o) (hs : ∀ env, swapsWith e none pos.line env = pure false := by intro _; rfl) : Sk C sc (.Expr e pos :: rest) ks ρ o := Sk.cons (Sx.expr h hs) hr
end
/-- owned lists of scalars are flat -/
class EncSc (α : Type) [Enc α] : Prop where
  sc : ∀ x : α, scalarD (enc x) = true
instance : EncSc Int := ⟨fun _ => rfl⟩
instance : EncSc Bool := ⟨fun _ => rfl⟩
instance : EncSc Str := ⟨fun _ => rfl⟩
instance : EncSc Unit := ⟨fun _ => rfl⟩
instance {α : Type} [Enc α] [EncSc α] : EncSc (Option α) := ⟨fun x => by
  cases x with
  | none => rfl
  | some x => exact EncSc.sc x⟩
theorem flat_F {α : Type} [Enc α] [EncSc α] (x : α) : OD.flat (F x) = true := by
  simp only [OD.flat]
  exact EncSc.sc x
theorem flat_oL {α : Type} [Enc α] [EncSc α] (xs : List α) : OD.flat (oL xs) = true := by
  unfold oL
  simp only [OD.flat]
  induction xs with
  | nil => simp [OD.flats]
  | cons x xs ih =>
    simp only [List.map_cons, OD.flats, Bool.and_eq_true]
    exact ⟨flat_F x, ih⟩
section
variable {C : Cn} {sc : Scp} {ρ : Rho} {e c : Expr} {α : Type} [Enc α] [EncSc α]
theorem Eo.bwF {v : α} (h : Eo C sc e (frzAll ρ) (F v)) : Eo C sc e ρ (F v) := Eo.borrow h (flat_F v)
theorem Eo.bwO {v : List α} (h : Eo C sc e (frzAll ρ) (oL v)) : Eo C sc e ρ (oL v) := Eo.borrow h (flat_oL v)
end
end NW
namespace NW
open PySem PySem.Spec L2
open PyProof.Rows hiding St
open Enc (enc)
section
variable {C : Cn} {sc : Scp} {ρ : Rho} {tg iter elt : Expr} {rest : List Stmt} {ks : List (List Stmt)} {ifs : List Expr} {pos py spos : Pos} {α δ ε : Type} [Enc α] {y : Str} {scope : Scope}
theorem Sk.setLcMF (f : ε → Out) (i : Nat) {B : List α → ε} (xs : List δ) (en : δ → PyData) (g : δ → α) (own : List (Str × Nat)) (hi : Ei C sc tg iter ρ (xs.map en)) (hz : xs.length ≤ sizeLine)
    (h : ∀ x ∈ xs, LcTurn C sc ρ scope own tg elt ifs (en x) true (F (g x))) (hr : ∀ z, z = xs.map g → Sk C sc rest ks (ρ.set i (some (F z))) (f (B z))) (ok : blkC C.N sc.sc scope own = true := by first | decide +kernel | (dsimp only; decide +kernel)) (hN : C.N[i]? = some y := by rfl) (hyl : sc.sc.names.lookup y = some .local := by rfl)
    (hk : sc.sc.kind = .function := by rfl) (hl : (py.line == pos.line) = true := by rfl) (ha : (scope.names.any fun (n, k) => n == y && (k == .local || k == .cell)) = false := by decide +kernel) (hs : ∀ env x, foldedSetIterable iter env x = pure x := by intro _ _; rfl) :
    Sk C sc (.Assign [.Name y py] (.ListComp elt [⟨tg, iter, ifs, 0⟩] scope pos) spos :: rest) ks ρ (f (letv (xs.map g) B)) := by
  have q := Sk.setLcF (rest := rest) (ks := ks) (spos := spos) (B := B) f i xs en (fun _ => true) g own hi hz h (by rw [List.filter_eq_self.mpr (fun _ _ => rfl)]; exact hr) ok hN hyl hk hl ha hs
  rw [List.filter_eq_self.mpr (fun _ _ => rfl)] at q
  exact q
theorem Sk.setLcMO (f : ε → Out) (i : Nat) {B : List α → ε} (xs : List δ) (en : δ → PyData) (g : δ → α) (own : List (Str × Nat)) (hi : Ei C sc tg iter ρ (xs.map en)) (hz : xs.length ≤ sizeLine)
    (h : ∀ x ∈ xs, LcTurn C sc ρ scope own tg elt ifs (en x) true (F (g x))) (hr : ∀ z, z = xs.map g → Sk C sc rest ks (ρ.set i (some (oL z))) (f (B z))) (ok : blkC C.N sc.sc scope own = true := by first | decide +kernel | (dsimp only; decide +kernel)) (hN : C.N[i]? = some y := by rfl) (hyl : sc.sc.names.lookup y = some .local := by rfl)
    (hk : sc.sc.kind = .function := by rfl) (hl : (py.line == pos.line) = true := by rfl) (ha : (scope.names.any fun (n, k) => n == y && (k == .local || k == .cell)) = false := by decide +kernel) (hs : ∀ env x, foldedSetIterable iter env x = pure x := by intro _ _; rfl) :
    Sk C sc (.Assign [.Name y py] (.ListComp elt [⟨tg, iter, ifs, 0⟩] scope pos) spos :: rest) ks ρ (f (letv (xs.map g) B)) := by
  have q := Sk.setLcO (rest := rest) (ks := ks) (spos := spos) (B := B) f i xs en (fun _ => true) g own hi hz h (by rw [List.filter_eq_self.mpr (fun _ _ => rfl)]; exact hr) ok hN hyl hk hl ha hs
  rw [List.filter_eq_self.mpr (fun _ _ => rfl)] at q
  exact q
end
end NW
namespace NW
open PySem PySem.Spec L2
open PyProof.Rows hiding St
open Enc (enc)
section
variable {C : Cn} {sc : Scp} {ρ : Rho} {e a b c : Expr} {rest : List Stmt} {ks : List (List Stmt)} {pos pos' apos cpos p : Pos} {ε : Type} {x : Str} {α : Type} [Enc α]
theorem Sk.augAdd (f : ε → Out) (i : Nat) {a b : Int} {B : Int → ε} (h : Eo C sc e ρ (F b)) (hr : ∀ z, z = a + b → Sk C sc rest ks (ρ.set i (some (F z))) (f (B z))) (hv : ρ[i]? = some (some (F a)) := by rfl) (hi : C.N[i]? = some x := by rfl) (hx : Loc sc.sc x := by first | exact Or.inl rfl | exact Or.inr rfl)
    (hfn : sc.fn x = true ∨ sc.sc.names.lookup x = some .local := by first | exact Or.inl rfl | exact Or.inr rfl) : Sk C sc (.AugAssign (.Name x pos') .Add e pos :: rest) ks ρ (f (letv (a + b) B)) := Sk.cons (Sx.augAdd i hv h hi hx hfn) (hr _ rfl)
theorem Sk.augSub (f : ε → Out) (i : Nat) {a b : Int} {B : Int → ε} (h : Eo C sc e ρ (F b)) (hr : ∀ z, z = a - b → Sk C sc rest ks (ρ.set i (some (F z))) (f (B z))) (hv : ρ[i]? = some (some (F a)) := by rfl) (hi : C.N[i]? = some x := by rfl) (hx : Loc sc.sc x := by first | exact Or.inl rfl | exact Or.inr rfl)
    (hfn : sc.fn x = true ∨ sc.sc.names.lookup x = some .local := by first | exact Or.inl rfl | exact Or.inr rfl) : Sk C sc (.AugAssign (.Name x pos') .Sub e pos :: rest) ks ρ (f (letv (a - b) B)) := Sk.cons (Sx.augSub i hv h hi hx hfn) (hr _ rfl)
/-- is None, of an optional thing -/
class NonNone (α : Type) [Enc α] : Prop where
  nn : ∀ x : α, isNon (enc x) = false
instance : NonNone Int := ⟨fun _ => rfl⟩
instance : NonNone Bool := ⟨fun _ => rfl⟩
instance : NonNone Str := ⟨fun _ => rfl⟩
instance {α : Type} [Enc α] : NonNone (List α) := ⟨fun _ => rfl⟩
instance {α β : Type} [Enc α] [Enc β] : NonNone (α × β) := ⟨fun _ => rfl⟩
theorem isNon_opt [NonNone α] (o : Option α) : isNon (enc o) = o.isNone := by
  cases o with
  | none => rfl
  | some x => exact NonNone.nn x
theorem Eo.isNO [NonNone α] {o : Option α} (ha : Eo C sc a ρ (F o)) (hb : Eo C sc b ρ (F ())) : Eo C sc (.Compare a [.Is] [b] pos) ρ (F o.isNone) := (Eo.isN ha hb).cast (by rw [isNon_opt]; rfl)
theorem Et.isNO [NonNone α] {o : Option α} (ha : Eo C sc a ρ (F o)) (hb : Eo C sc b ρ (F ())) : Et C sc (.Compare a [.Is] [b] pos) ρ o.isNone := (Et.isN ha hb).cast (isNon_opt o)
theorem Eo.notNO [NonNone α] {o : Option α} (ha : Eo C sc a ρ (F o)) (hb : Eo C sc b ρ (F ())) : Eo C sc (.Compare a [.IsNot] [b] pos) ρ (F (!o.isNone)) := (Eo.notN ha hb).cast (by rw [isNon_opt]; rfl)
theorem Et.notNO [NonNone α] {o : Option α} (ha : Eo C sc a ρ (F o)) (hb : Eo C sc b ρ (F ())) : Et C sc (.Compare a [.IsNot] [b] pos) ρ (!o.isNone) := (Et.notN ha hb).cast (by rw [isNon_opt])
/-- repr -/
structure Shows (d : PyData) : Prop where
  nsc : scalarD d = false
  show_ : d.showable = true
  nodict : d.hasDict = false
  depth : d.depth ≤ 60
  len : d.shown.length ≤ sizeLine
theorem Eo.reprE {v : α} (hm : C.mg "repr" = none) (ha : Eo C sc a ρ (F v)) (h : Shows (enc v)) (hg : sc.sc.names.lookup ("repr" : Str) = some .globalImplicit := by rfl) (he : ∀ env, starEach [a] env = (false, eval a env) :: starEach [] env := by intro _; rfl) :
    Eo C sc (.Call (.Name "repr" p) [a] [] pos) ρ (F (enc v).shown) := Eo.repr hm ha h.nsc h.show_ h.nodict h.depth h.len hg he
end
end NW
namespace NW
open PySem PySem.Spec L2
open PyProof.Rows hiding St
open Enc (enc)
/-- what a list's method does to data -/
def MutOk (K : PySem.W.Frag) (r : V → List V → Hp → VK → Prop) (ds as ds' : List PyData) : Prop := ∀ l vs ws G H (Q : VK), H l = some (.lst vs) → Same G H → DpAll K G vs ds → DpAll K G ws as → (∀ u vs', DpAll K G vs' ds' → Q u (upd H l (.lst vs'))) → r (.ref l) ws H Q
section
variable {C : Cn} {sc : Scp} {ρ : Rho} {e a b c : Expr} {es : List Expr} {rest : List Stmt} {ks : List (List Stmt)} {pos pos' apos cpos p : Pos} {ε : Type} {x name : Str} {α : Type} [Enc α] {id : String}
theorem Sx.meth (i : Nat) {ds as ds' : List PyData} {r : Cx → V → List V → Hp → VK → Prop} (slot : Slot "list" name id) (hty : typeOf (.builtin id) = pure (.type "method_descriptor")) (hm : ∀ X, Fits C sc X → MtR X id (r X)) (hr : ∀ X, Fits C sc X → MutOk C.K (r X) ds as ds')
    (h : ρ[i]? = some (some (.ls (ds.map .fz)))) (he : Ea C sc (e :: es) 0 ρ (as.map .fz)) (hN : C.N[i]? = some x := by rfl) (hv : Vis sc.sc x := by first | exact Or.inl rfl | exact Or.inr (Or.inl rfl) | exact Or.inr (Or.inr rfl))
    (hd : (x == ("__debug__" : Str)) = false := by decide) (hcd : (x == ("__classdict__" : Str)) = false := by decide)
    (hbase : ∀ env, attributeBase (.Name x pos') name env (eval (.Name x pos') env) = eval (.Name x pos') env := by intro _; rfl)
    (hfew : ∀ env, ((backTo cpos (starEach (e :: es) env)).all (fun x => !x.1) && (backToKw cpos (keywordEach [] env)).all (fun x => x.1.isSome)
      && decide ((e :: es).length + ([] : List Keyword).length + (if ([] : List Keyword).isEmpty then 0 else 1) < 30)) = true := by intro _; rfl)
    (hline : (apos.endLine == cpos.line) = true := by rfl) (hs : ∀ env, starEach (e :: es) env = (false, eval e env) :: starEach es env := by intro _; rfl) (hpl : ∀ env, (backTo cpos (starEach es env)).any (·.1) = false := by intro _; rfl)
    (hsw : ∀ env, swapsWith (.Call (.Attribute (.Name x pos') name apos) (e :: es) [] cpos) none pos.line env = pure false := by intro _; rfl) :
    Sx C sc (.Expr (.Call (.Attribute (.Name x pos') name apos) (e :: es) [] cpos) pos) ρ (.nx (ρ.set i (some (.ls (ds'.map .fz))))) := fun X F po G0 H0 σ G H D E P => by
  obtain ⟨ow, h1, h2⟩ := E.own
  obtain ⟨v, q1, q2⟩ := h2 i _ h
  have hi : i < ρ.length := (List.getElem?_eq_some_iff.mp h).1
  cases q2.to rfl with
  | ls a1 a2 a3 =>
    rename_i a vs
    refine toS (ps_expr (pe_bm PySem.F.plainAttrs_list slot hty (hm X F) (pe_var (i := i) (by rw [F.N]; exact hN) (by rw [F.scq]; exact hv) hd hcd) pa_wp (hbase _) (hfew _) hline (hs _) (hpl _)) (hsw _)) ?_
    refine ⟨_, q1, .inl ⟨rfl, _, .inl (.inl a2)⟩, he X F σ G H _ E.sl fun ws G1 H1 ow1 s n o => ?_⟩
    refine hr X F a vs ws G1 H1 _ (s.h _ _ a2) s.gh (a3.to_fz.mono s.g) o.to_fz fun u vs' hv' => ?_
    refine P _ _ _ (Env.write (ow1 := ow0) E hi q1 h1 h2 a1 s (fun b π q => by cases q) ?_)
    exact OAll.of_fz hv'
theorem oL_fz (v : List α) : oL v = .ls ((v.map enc).map .fz) := (oL_eq v).symm
theorem Sk.meth1 (f : ε → Out) (i : Nat) {v v' : List α} {as : List PyData} {B : List α → ε} {r : Cx → V → List V → Hp → VK → Prop} (slot : Slot "list" name id) (hty : typeOf (.builtin id) = pure (.type "method_descriptor")) (hm : ∀ X, Fits C sc X → MtR X id (r X)) (hr : ∀ X, Fits C sc X → MutOk C.K (r X) (v.map enc) as (v'.map enc))
    (he : Ea C sc (e :: es) 0 ρ (as.map .fz)) (hk : ∀ z, z = v' → Sk C sc rest ks (ρ.set i (some (oL z))) (f (B z))) (h : ρ[i]? = some (some (oL v)) := by rfl) (hN : C.N[i]? = some x := by rfl) (hv : Vis sc.sc x := by first | exact Or.inl rfl | exact Or.inr (Or.inl rfl) | exact Or.inr (Or.inr rfl))
    (hd : (x == ("__debug__" : Str)) = false := by decide) (hcd : (x == ("__classdict__" : Str)) = false := by decide)
    (hbase : ∀ env, attributeBase (.Name x pos') name env (eval (.Name x pos') env) = eval (.Name x pos') env := by intro _; rfl)
    (hfew : ∀ env, ((backTo cpos (starEach (e :: es) env)).all (fun x => !x.1) && (backToKw cpos (keywordEach [] env)).all (fun x => x.1.isSome)
      && decide ((e :: es).length + ([] : List Keyword).length + (if ([] : List Keyword).isEmpty then 0 else 1) < 30)) = true := by intro _; rfl)
    (hline : (apos.endLine == cpos.line) = true := by rfl) (hs : ∀ env, starEach (e :: es) env = (false, eval e env) :: starEach es env := by intro _; rfl) (hpl : ∀ env, (backTo cpos (starEach es env)).any (·.1) = false := by intro _; rfl)
    (hsw : ∀ env, swapsWith (.Call (.Attribute (.Name x pos') name apos) (e :: es) [] cpos) none pos.line env = pure false := by intro _; rfl) :
    Sk C sc (.Expr (.Call (.Attribute (.Name x pos') name apos) (e :: es) [] cpos) pos :: rest) ks ρ (f (letv v' B)) := by
  have q := hk v' rfl
  rw [oL_fz] at q h
  exact Sk.cons (Sx.meth i slot hty hm hr h he hN hv hd hcd hbase hfew hline hs hpl hsw) q
theorem ints_of_dpall {K : PySem.W.Frag} {G : Hp} {ns : List Int} {vs : List V} (h : DpAll K G vs (ns.map enc)) : vs = ns.map V.int := dpall_ints h
theorem mut_remove {K : PySem.W.Frag} {v : List Int} {w : Int} (hw : w ∈ v) : MutOk K rRemI (v.map enc) [enc w] ((v.erase w).map enc) := fun l vs ws G H Q hl s h1 h2 q => by
  cases h2 with
  | cons h2 h3 =>
    cases h3
    have e1 := ints_of_dpall h1
    subst e1
    refine ⟨l, v, w, v.idxOf w, rfl, by rw [h2.int_eq], hl, ?_, fun m hm e => ?_, q _ _ ?_⟩
    · rw [List.getElem?_eq_getElem (List.idxOf_lt_length_iff.mpr hw), List.getElem_idxOf]
    · have h3 := (List.getElem?_eq_some_iff.mp e)
      obtain ⟨h4, h5⟩ := h3
      unfold List.idxOf at hm
      have := List.not_of_lt_findIdx hm
      rw [h5] at this
      simp at this
    · rw [← List.erase_eq_eraseIdx_of_idxOf rfl]
      exact ints_dpall _
/-- x.remove(w) -/
theorem Sk.remO (f : ε → Out) (i : Nat) {v : List Int} {w : Int} {B : List Int → ε} (he : Eo C sc e ρ (F w)) (hw : w ∈ v) (hk : ∀ z, z = v.erase w → Sk C sc rest ks (ρ.set i (some (oL z))) (f (B z))) (h : ρ[i]? = some (some (oL v)) := by rfl) (hN : C.N[i]? = some x := by rfl) (hv : Vis sc.sc x := by first | exact Or.inl rfl | exact Or.inr (Or.inl rfl) | exact Or.inr (Or.inr rfl))
    (hd : (x == ("__debug__" : Str)) = false := by decide) (hcd : (x == ("__classdict__" : Str)) = false := by decide)
    (hbase : ∀ env, attributeBase (.Name x pos') "remove" env (eval (.Name x pos') env) = eval (.Name x pos') env := by intro _; rfl)
    (hfew : ∀ env, ((backTo cpos (starEach [e] env)).all (fun x => !x.1) && (backToKw cpos (keywordEach [] env)).all (fun x => x.1.isSome)
      && decide (([e] : List Expr).length + ([] : List Keyword).length + (if ([] : List Keyword).isEmpty then 0 else 1) < 30)) = true := by intro _; rfl)
    (hline : (apos.endLine == cpos.line) = true := by rfl) (hs : ∀ env, starEach [e] env = (false, eval e env) :: starEach [] env := by intro _; rfl)
    (hsw : ∀ env, swapsWith (.Call (.Attribute (.Name x pos') "remove" apos) [e] [] cpos) none pos.line env = pure false := by intro _; rfl) :
    Sk C sc (.Expr (.Call (.Attribute (.Name x pos') "remove" apos) [e] [] cpos) pos :: rest) ks ρ (f (letv (v.erase w) B)) :=
  Sk.meth1 f i (as := [enc w]) PySem.F.slot_list_remove PySem.F.type_list_remove (fun X F => mt_remove) (fun X F => mut_remove hw) (.cons he .nil hs) hk h hN hv hd hcd hbase hfew hline hs (fun _ => rfl) hsw
end
end NW
namespace NW
open PySem PySem.Spec L2
open PyProof.Rows hiding St
open Enc (enc)
/-! ### nodes within owned trees -/
def OD.kids : OD → List OD
  | .ls ts => ts
  | .tp ts => ts
  | .la _ ts => ts
  | _ => []
def OD.withKids : OD → List OD → OD
  | .ls _, us => .ls us
  | .tp _, us => .tp us
  | .la b _, us => .la b us
  | t, _ => t
def OD.gt : OD → List Nat → Option OD
  | t, [] => some t
  | t, k :: p => match t.kids[k]? with
    | some u => u.gt p
    | none => none
def OD.st : OD → List Nat → OD → OD
  | _, [], u' => u'
  | t, k :: p, u' => match t.kids[k]? with
    | some u => t.withKids (t.kids.set k (u.st p u'))
    | none => t
/-- from the value v along p to the object at b -/
inductive PathV (H : Hp) : V → List Nat → Addr → Prop
  | here (b : Addr) : PathV H (.ref b) [] b
  | lst {a b : Addr} {vs : List V} {k : Nat} {w : V} {p : List Nat} : H a = some (.lst vs) → vs[k]? = some w → PathV H w p b → PathV H (.ref a) (k :: p) b
  | tup {a b : Addr} {vs : List V} {k : Nat} {w : V} {p : List Nat} : H a = some (.tup vs) → vs[k]? = some w → PathV H w p b → PathV H (.ref a) (k :: p) b
def listOf? : OD → Option (List OD)
  | .ls us => some us
  | .la _ us => some us
  | _ => none
section
variable {K : PySem.W.Frag} {G H G1 H1 H2 : Hp} {ow ow2 : Ow}
theorem OAt.kid {π : List Nat} {v : V} {t u : OD} {k : Nat} (o : OAt K G H ow π v t) (h : t.kids[k]? = some u) : ∃ a vs w, v = .ref a ∧ ow a = some π ∧ (H a = some (.lst vs) ∨ H a = some (.tup vs)) ∧ vs[k]? = some w ∧ OAt K G H ow (k :: π) w u := by
  cases o with
  | fz _ => simp [OD.kids] at h
  | ls h1 h2 h3 =>
    obtain ⟨w, q1, q2⟩ := h3.get h
    exact ⟨_, _, w, rfl, h1, .inl h2, q1, by simpa using q2⟩
  | tp h1 h2 h3 =>
    obtain ⟨w, q1, q2⟩ := h3.get h
    exact ⟨_, _, w, rfl, h1, .inr h2, q1, by simpa using q2⟩
  | la h1 h2 h3 =>
    obtain ⟨w, q1, q2⟩ := h3.get h
    exact ⟨_, _, w, rfl, h1, .inl h2, q1, by simpa using q2⟩
theorem OAt.path : ∀ {p : List Nat} {π : List Nat} {v : V} {t u : OD} {us : List OD}, OAt K G H ow π v t → t.gt p = some u → listOf? u = some us →
    ∃ b vs, PathV H v p b ∧ ow b = some (p.reverse ++ π) ∧ H b = some (.lst vs) ∧ OAll K G H ow (p.reverse ++ π) 0 vs us
  | [], π, v, t, u, us, o, h, hu => by
    have e : t = u := Option.some.inj h
    subst e
    cases o with
    | fz _ => cases hu
    | tp _ _ _ => cases hu
    | ls h1 h2 h3 =>
      cases hu
      exact ⟨_, _, .here _, h1, h2, h3⟩
    | la h1 h2 h3 =>
      cases hu
      exact ⟨_, _, .here _, h1, h2, h3⟩
  | k :: p, π, v, t, u, us, o, h, hu => by
    unfold OD.gt at h
    cases q : t.kids[k]? with
    | none => rw [q] at h; cases h
    | some w =>
      rw [q] at h
      obtain ⟨a, vs, x, rfl, r1, r2, r3, r4⟩ := o.kid q
      obtain ⟨b, ws, s1, s2, s3, s4⟩ := OAt.path (p := p) r4 h hu
      refine ⟨b, ws, ?_, by simpa using s2, s3, by simpa using s4⟩
      rcases r2 with r2 | r2
      · exact .lst r2 r3 s1
      · exact .tup r2 r3 s1
theorem OAll.imp_set {π : List Nat} {w : V} {u' : OD} : ∀ {ts : List OD} {k0 k : Nat} {vs : List V}, OAll K G H ow π k0 vs ts → vs[k]? = some w → (∀ (j : Nat) v t, j ≠ k0 + k → OAt K G H ow (j :: π) v t → OAt K G1 H2 ow2 (j :: π) v t) →
    OAt K G1 H2 ow2 ((k0 + k) :: π) w u' → OAll K G1 H2 ow2 π k0 vs (ts.set k u')
  | [], _, _, _, h, e, _, _ => by cases h; simp at e
  | t :: ts, k0, 0, _, h, e, f, hu => by
    cases h with
    | cons a b =>
      simp at e
      subst e
      refine .cons hu (OAll.of_ge b fun j v t hj q => f j v t (by omega) q)
  | t :: ts, k0, k + 1, _, h, e, f, hu => by
    cases h with
    | cons a b =>
      refine .cons (f _ _ _ (by omega) a) (OAll.imp_set b (by simpa using e) (fun j v t hj q => f j v t (by omega) q) ?_)
      rw [show k0 + 1 + k = k0 + (k + 1) by omega]
      exact hu
where
  OAll.of_ge {π : List Nat} : ∀ {ts : List OD} {k0 : Nat} {vs : List V}, OAll K G H ow π k0 vs ts → (∀ (j : Nat) v t, k0 ≤ j → OAt K G H ow (j :: π) v t → OAt K G1 H2 ow2 (j :: π) v t) → OAll K G1 H2 ow2 π k0 vs ts
  | [], _, _, h, _ => by cases h; exact .nil
  | t :: ts, k0, _, h, f => by
    cases h with
    | cons a b => exact .cons (f _ _ _ (Nat.le_refl _) a) (OAll.of_ge b fun j v t hj q => f j v t (by omega) q)
theorem suffix_head {j k : Nat} {π q x : List Nat} (h : j :: π <:+ x) (e : x = q ++ k :: π) : j = k := by
  obtain ⟨y, hy⟩ := h
  rw [e] at hy
  have h1 := List.append_inj' hy (by simp)
  exact (List.cons.inj h1.2).1
/-- one node is exchanged -/
theorem OAt_st {b : Addr} {u' : OD} (e : Same G G1) (hk : ∀ c π' o, ow c = some π' → c ≠ b → H c = some o → H2 c = some o ∧ ow2 c = some π') : ∀ (p : List Nat) (π : List Nat) (t : OD) (v : V), ow b = some (p.reverse ++ π) → PathV H v p b → OAt K G H ow π v t → (t.gt p).isSome = true →
    OAt K G1 H2 ow2 (p.reverse ++ π) (.ref b) u' → OAt K G1 H2 ow2 π v (t.st p u')
  | [], π, t, v, hb, hp, o, hg, hn => by
    cases hp
    exact hn
  | k :: p, π, t, v, hb, hp, o, hg, hn => by
    unfold OD.gt at hg
    cases q : t.kids[k]? with
    | none => rw [q] at hg; cases hg
    | some w =>
      rw [q] at hg
      have hbk : ow b = some (p.reverse ++ (k :: π)) := by simpa using hb
      have hnk : OAt K G1 H2 ow2 (p.reverse ++ (k :: π)) (.ref b) u' := by simpa using hn
      have est : t.st (k :: p) u' = t.withKids (t.kids.set k (w.st p u')) := by
        conv => lhs; unfold OD.st
        rw [q]
      rw [est]
      -- the other children
      have other : ∀ (j : Nat) x y, j ≠ 0 + k → OAt K G H ow (j :: π) x y → OAt K G1 H2 ow2 (j :: π) x y := fun j x y hj oo =>
        OAt_under (j :: π) e (fun c π' o' c1 c2 c3 => hk c π' o' c1 (by
          rintro rfl
          rw [hbk] at c1
          cases c1
          have := suffix_head c2 rfl
          omega) c3) y (j :: π) x (List.suffix_refl _) oo
      have nea : ∀ a, ow a = some π → a ≠ b := fun a ha z => by
        subst z
        rw [ha] at hbk
        have := congrArg List.length (Option.some.inj hbk)
        simp at this
        omega
      cases o with
      | fz _ => simp [OD.kids] at q
      | ls h1 h2 h3 =>
        rename_i a vs ts
        obtain ⟨x, r1, r2⟩ := h3.get q
        have r2' : OAt K G H ow (k :: π) x w := by simpa using r2
        have hpx : PathV H x p b := by
          cases hp with
          | lst p1 p2 p3 => rw [h2] at p1; cases p1; rw [r1] at p2; cases p2; exact p3
          | tup p1 p2 p3 => rw [h2] at p1; cases p1
        obtain ⟨m1, m2⟩ := hk a π _ h1 (nea a h1) h2
        refine .ls m2 m1 (OAll.imp_set h3 r1 other ?_)
        rw [Nat.zero_add]
        exact OAt_st e hk p (k :: π) w x hbk hpx r2' hg hnk
      | tp h1 h2 h3 =>
        rename_i a vs ts
        obtain ⟨x, r1, r2⟩ := h3.get q
        have r2' : OAt K G H ow (k :: π) x w := by simpa using r2
        have hpx : PathV H x p b := by
          cases hp with
          | lst p1 p2 p3 => rw [h2] at p1; cases p1
          | tup p1 p2 p3 => rw [h2] at p1; cases p1; rw [r1] at p2; cases p2; exact p3
        obtain ⟨m1, m2⟩ := hk a π _ h1 (nea a h1) h2
        refine .tp m2 m1 (OAll.imp_set h3 r1 other ?_)
        rw [Nat.zero_add]
        exact OAt_st e hk p (k :: π) w x hbk hpx r2' hg hnk
      | la h1 h2 h3 =>
        rename_i a vs ts
        obtain ⟨x, r1, r2⟩ := h3.get q
        have r2' : OAt K G H ow (k :: π) x w := by simpa using r2
        have hpx : PathV H x p b := by
          cases hp with
          | lst p1 p2 p3 => rw [h2] at p1; cases p1; rw [r1] at p2; cases p2; exact p3
          | tup p1 p2 p3 => rw [h2] at p1; cases p1
        obtain ⟨m1, m2⟩ := hk a π _ h1 (nea a h1) h2
        refine .la m2 m1 (OAll.imp_set h3 r1 other ?_)
        rw [Nat.zero_add]
        exact OAt_st e hk p (k :: π) w x hbk hpx r2' hg hnk
end
section
variable {K : PySem.W.Frag} {G0 H0 G H : Hp} {σ : St} {ρ : Rho}
/-- a list within an owned tree is written -/
theorem Env.writeP {i : Nat} {b : Addr} {p : List Nat} {v : V} {t u' : OD} {ow ow1 : Ow} {vs' : List V} {us' : List OD} {G1 H1 : Hp} (E : Env K G0 H0 G H σ ρ) (hρ : ρ[i]? = some (some t)) (hσ : σ[i]? = some (some v)) (h1 : ∀ a π, ow a = some π → H0 a = none ∧ G a = none ∧ H a ≠ none)
    (h2 : ∀ (i : Nat) t, ρ[i]? = some (some t) → ∃ v, σ[i]? = some (some v) ∧ Cel K G H ow [i] v t) (ho : OAt K G H ow [i] v t) (hb : ow b = some (p.reverse ++ [i])) (hp : PathV H v p b) (hg : (t.gt p).isSome = true) (s : Step G H G1 H1)
    (hx : ∀ c π, ow1 c = some π → H c = none ∧ G1 c = none ∧ H1 c ≠ none) (hn : OAll K G1 H1 (fun c => match ow1 c with | some π => some π | none => ow c) (p.reverse ++ [i]) 0 vs' us') (hu : u' = .ls us' ∨ u' = .la b us') :
    Env K G0 H0 G1 (upd H1 b (.lst vs')) σ (ρ.set i (some (t.st p u'))) := by
  have hk := ow_keep s (fun a π q => (h1 a π q).2)
  have hH0 := (h1 b _ hb).1
  have hGb := (hk b _ hb).1
  have hi : i < ρ.length := (List.getElem?_eq_some_iff.mp hρ).1
  have hx1 : ∀ c, ow1 c ≠ none → ow c = none := fun c q => by
    cases q1 : ow c with
    | none => rfl
    | some π1 =>
      cases q2 : ow1 c with
      | none => exact absurd q2 q
      | some π2 => exact absurd (hx c π2 q2).1 (h1 c π1 q1).2.2
  have owb : ow1 b = none := by
    cases q1 : ow1 b with
    | none => rfl
    | some π1 => rw [hx1 b (by rw [q1]; simp)] at hb; cases hb
  have keep : ∀ c π' o, ow c = some π' → c ≠ b → H c = some o → (upd H1 b (.lst vs')) c = some o ∧ (match ow1 c with | some π => some π | none => ow c) = some π' := fun c π' o c1 c2 c3 => by
    refine ⟨by rw [upd_ne c2]; exact s.h _ _ c3, ?_⟩
    cases q : ow1 c with
    | none => exact c1
    | some π1 => rw [hx1 c (by rw [q]; simp)] at c1; cases c1
  refine ⟨⟨E.st.g.trans s.g, fun c o q => ?_, fun c o q => ?_, fun c p q => ?_⟩, by rw [List.length_set]; exact E.len, fun c => match ow1 c with | some π => some π | none => ow c, fun c π q => ?_, fun j u q => ?_⟩
  · rw [upd_ne (ne_of_none q hH0)]; exact s.h _ _ (E.st.h _ _ q)
  · rw [upd_ne (ne_of_none q hGb)]; exact s.gh _ _ q
  · by_cases z : G c = none
    · exact E.st.h.free (s.nw c p z)
    · exact E.st.nw c z q
  · try dsimp only at q
    cases q1 : ow1 c with
    | some π1 =>
      obtain ⟨p1, p2, p3⟩ := hx c π1 q1
      refine ⟨E.st.h.free p1, p2, ?_⟩
      by_cases z : c = b
      · subst z; rw [upd_same]; simp
      · rw [upd_ne z]; exact p3
    | none =>
      rw [q1] at q
      refine ⟨(h1 c π q).1, (hk c π q).1, ?_⟩
      by_cases z : c = b
      · subst z; rw [upd_same]; simp
      · rw [upd_ne z]; exact (hk c π q).2
  · by_cases z : i = j
    · subst z
      rw [List.getElem?_set_self hi] at q
      cases q
      refine ⟨v, hσ, .of (OAt_st s.g keep p [i] t v hb hp ho hg ?_)⟩
      have kids : OAll K G1 (upd H1 b (.lst vs')) (fun c => match ow1 c with | some π => some π | none => ow c) (p.reverse ++ [i]) 0 vs' us' := by
        refine OAll.imp (fun j v t q => OAt_rel (fun π π' => π = π' ∧ p.length + 2 ≤ π.length) (fun k π π' r => ⟨by rw [r.1], Nat.le_succ_of_le r.2⟩) (Same.refl _) (fun c π π' o p1 p2 p3 => ?_) t (j :: (p.reverse ++ [i])) (j :: (p.reverse ++ [i])) v ⟨rfl, by simp⟩ q) hn
        obtain ⟨rfl, p2⟩ := p2
        refine ⟨?_, p1⟩
        rw [upd_ne]
        · exact p3
        · rintro rfl
          try dsimp only at p1
          rw [owb, hb] at p1
          cases p1
          simp at p2
      have own_b : (match ow1 b with | some π => some π | none => ow b) = some (p.reverse ++ [i]) := by rw [owb]; exact hb
      rcases hu with rfl | rfl
      · exact .ls own_b upd_same kids
      · exact .la own_b upd_same kids
    · rw [List.getElem?_set_ne z] at q
      obtain ⟨w, r1, r2⟩ := h2 j u q
      refine ⟨w, r1, r2.map fun r2 => OAt_under [j] s.g (fun c π o p1 p2 p3 => keep c π o p1 ?_ p3) u [j] w (List.suffix_refl _) r2⟩
      rintro rfl
      rw [hb] at p1
      cases p1
      obtain ⟨x, hx⟩ := p2
      have e2 := congrArg List.getLast? hx
      rw [List.getLast?_append, List.getLast?_append] at e2
      simp at e2
      exact z e2.symm
end
theorem la_addr {K : PySem.W.Frag} {G H : Hp} {ow : Ow} {b b' : Addr} {us : List OD} : ∀ (p : List Nat) {π : List Nat} {v : V} {t : OD}, OAt K G H ow π v t → t.gt p = some (.la b' us) → PathV H v p b → b' = b
  | [], π, v, t, oo, hh, pp => by
    have e1 : t = .la b' us := Option.some.inj hh
    subst e1
    cases oo
    cases pp
    rfl
  | k :: p, π, v, t, oo, hh, pp => by
    unfold OD.gt at hh
    cases q : t.kids[k]? with
    | none => rw [q] at hh; cases hh
    | some w =>
      rw [q] at hh
      obtain ⟨a, vs, x, rfl, m1, m2, m3, m4⟩ := oo.kid q
      cases pp with
      | lst p1 p2 p3 =>
        rcases m2 with m2 | m2
        · rw [m2] at p1; cases p1; rw [m3] at p2; cases p2; exact la_addr p m4 hh p3
        · rw [m2] at p1; cases p1
      | tup p1 p2 p3 =>
        rcases m2 with m2 | m2
        · rw [m2] at p1; cases p1
        · rw [m2] at p1; cases p1; rw [m3] at p2; cases p2; exact la_addr p m4 hh p3
section
variable {C : Cn} {sc : Scp} {ρ : Rho} {e a b ix : Expr} {rest : List Stmt} {ks : List (List Stmt)} {pos pos' apos cpos ipos : Pos} {ε : Type} {x y : Str} {t : OD} {o : Out}
theorem PathV.mono {H H' : Hp} (s : Same H H') : ∀ {p : List Nat} {v : V} {b : Addr}, PathV H v p b → PathV H' v p b
  | _, _, _, .here b => .here b
  | _, _, _, .lst h1 h2 h3 => .lst (s _ _ h1) h2 (PathV.mono s h3)
  | _, _, _, .tup h1 h2 h3 => .tup (s _ _ h1) h2 (PathV.mono s h3)
theorem PathV.snoc {H : Hp} {k : Nat} {a b : Addr} {vs : List V} (h : H a = some (.lst vs) ∨ H a = some (.tup vs)) (hk : vs[k]? = some (.ref b)) : ∀ {p : List Nat} {v : V}, PathV H v p a → PathV H v (p ++ [k]) b
  | _, _, .here a => by
    rcases h with h | h
    · exact .lst h hk (.here b)
    · exact .tup h hk (.here b)
  | _, _, .lst h1 h2 h3 => .lst h1 h2 (PathV.snoc h hk h3)
  | _, _, .tup h1 h2 h3 => .tup h1 h2 (PathV.snoc h hk h3)
theorem PathV.split {H : Hp} {k : Nat} {b : Addr} : ∀ {p : List Nat} {v : V}, PathV H v (p ++ [k]) b → ∃ a vs, PathV H v p a ∧ (H a = some (.lst vs) ∨ H a = some (.tup vs)) ∧ vs[k]? = some (.ref b)
  | [], _, h => by
    cases h with
    | lst h1 h2 h3 => cases h3; exact ⟨_, _, .here _, .inl h1, h2⟩
    | tup h1 h2 h3 => cases h3; exact ⟨_, _, .here _, .inr h1, h2⟩
  | j :: p, _, h => by
    cases h with
    | lst h1 h2 h3 =>
      obtain ⟨a, vs, r1, r2, r3⟩ := PathV.split h3
      exact ⟨a, vs, .lst h1 h2 r1, r2, r3⟩
    | tup h1 h2 h3 =>
      obtain ⟨a, vs, r1, r2, r3⟩ := PathV.split h3
      exact ⟨a, vs, .tup h1 h2 r1, r2, r3⟩
/-- e leads from the slot i along p -/
def Px (C : Cn) (sc : Scp) (e : Expr) (ρ : Rho) (i : Nat) (p : List Nat) : Prop := ∀ X, Fits C sc X → ∀ σ G H v b (Q : VK), Sl C.K G H σ ρ → σ[i]? = some (some v) → PathV H v p b → (∀ G' H', Step G H G' H' → Q (.ref b) H') → wpE X e σ H Q
theorem Px.name (i : Nat) (hN : C.N[i]? = some x := by rfl) (hv : Vis sc.sc x := by first | exact Or.inl rfl | exact Or.inr (Or.inl rfl) | exact Or.inr (Or.inr rfl))
    (hd : (x == ("__debug__" : Str)) = false := by decide) (hcd : (x == ("__classdict__" : Str)) = false := by decide) : Px C sc (.Name x pos) ρ i [] := fun X F σ G H v b Q S hσ hp f => by
  cases hp
  exact toE (pe_var (i := i) (by rw [F.N]; exact hN) (by rw [F.scq]; exact hv) hd hcd) ⟨_, hσ, f G H (Step.refl S.gh)⟩
theorem Px.sub {i k : Nat} {p : List Nat} (h : Px C sc a ρ i p) (hk : Eo C sc b ρ (F ((k : Nat) : Int))) (hs : PlainIx b := by exact fun _ _ => rfl) : Px C sc (.Subscript a b pos) ρ i (p ++ [k]) := fun X F σ G H v c Q S hσ hp f => by
  obtain ⟨d, vs, q1, q2, q3⟩ := hp.split
  refine toE (pe_ix (ix_seq (X := X)) pe_wp pe_wp hs) (h X F σ G H v d _ S hσ q1 fun G1 H1 s1 => hk X F σ G1 H1 _ (S.step s1) fun w G2 H2 ow s2 n o => ?_)
  cases o with
  | fz o =>
    have ei : w = .int k := o.int_eq
    have st := s1.trans s2
    rcases q2 with q2 | q2
    · exact .inl ⟨d, vs, k, .ref c, rfl, ei, .inl (.inl (st.h _ _ q2)), atI_nat q3, f G2 H2 st⟩
    · exact .inr (.inl ⟨d, vs, k, .ref c, rfl, ei, .inl (.inl (st.h _ _ q2)), atI_nat q3, f G2 H2 st⟩)
/-- path.append(e) -/
theorem Sx.appendP (i : Nat) (p : List Nat) {t u w : OD} {us : List OD} (h : ρ[i]? = some (some t)) (hat : t.isAt = false) (hg : t.gt p = some u) (hu : listOf? u = some us) (hp : Px C sc a ρ i p) (he : Eo C sc e ρ w) (hz : us.length < sizeLine)
    (hbase : ∀ env, attributeBase a "append" env (eval a env) = eval a env := by intro _; rfl)
    (hfew : ∀ env, ((backTo cpos (starEach [e] env)).all (fun x => !x.1) && (backToKw cpos (keywordEach [] env)).all (fun x => x.1.isSome)
      && decide (([e] : List Expr).length + ([] : List Keyword).length + (if ([] : List Keyword).isEmpty then 0 else 1) < 30)) = true := by intro _; rfl)
    (hline : (apos.endLine == cpos.line) = true := by rfl) (hs : ∀ env, starEach [e] env = (false, eval e env) :: starEach [] env := by intro _; rfl)
    (hsw : ∀ env, swapsWith (.Call (.Attribute a "append" apos) [e] [] cpos) none pos.line env = pure false := by intro _; rfl) :
    Sx C sc (.Expr (.Call (.Attribute a "append" apos) [e] [] cpos) pos) ρ (.nx (ρ.set i (some (t.st p (u.withKids (us ++ [w])))))) := fun X F po G0 H0 σ G H D E P => by
  obtain ⟨ow, h1, h2⟩ := E.own
  obtain ⟨v, q1, q2⟩ := h2 i _ h
  have o := q2.to hat
  obtain ⟨b, vs, r1, r2, r3, r4⟩ := o.path hg hu
  refine toS (ps_expr (pe_bm PySem.F.plainAttrs_list PySem.F.slot_list_append PySem.F.type_list_append mt_append pe_wp (pa_cons pe_wp pa_nil (hs _)) (hbase _) (hfew _) hline (hs _) rfl) (hsw _)) ?_
  refine hp X F σ G H v b _ E.sl q1 r1 fun G1 H1 s1 => ⟨.inl ⟨rfl, _, .inl (.inl (s1.h _ _ r3))⟩, he X F σ G1 H1 _ (E.sl.step s1) fun z G2 H2 ow1 s2 n oz => ?_⟩
  have s := s1.trans s2
  refine ⟨b, vs, z, rfl, rfl, s.h _ _ r3, by rw [r4.length]; exact hz, ?_⟩
  refine P _ _ _ (Env.writeP (ow1 := fun c => (ow1 c).map (· ++ us.length :: (p.reverse ++ [i]))) E h q1 h1 h2 o r2 r1 (by rw [hg]; rfl) s (fun c π q => ?_) (us' := us ++ [w]) (OAll.append ?_ (.cons ?_ .nil)) ?_)
  · cases q3 : ow1 c with
    | none => rw [q3] at q; cases q
    | some π1 => exact ⟨s1.h.free (n c π1 q3).1, (n c π1 q3).2.1, (n c π1 q3).2.2⟩
  · refine OAll_rel (fun π π' => π = π') (fun k π π' r => by rw [r]) s.g (fun c π π' o' p1 p2 p3 => ⟨s.h _ _ p3, ?_⟩) us _ _ 0 vs rfl r4
    subst p2
    try dsimp only
    cases q3 : ow1 c with
    | none => exact p1
    | some π1 => exact absurd (s1.h.free (n c π1 q3).1) (h1 c _ p1).2.2
  · rw [Nat.zero_add]
    refine OAt_rel (fun π π' => π' = π ++ us.length :: (p.reverse ++ [i])) (fun k π π' r => by rw [r]; rfl) (Same.refl _) (fun c π π' o' p1 p2 p3 => ⟨p3, ?_⟩) w [] _ z rfl oz
    try dsimp only
    rw [p1, p2]
    rfl
  · cases u with
    | ls us' => cases hu; exact .inl rfl
    | la b' us' =>
      cases hu
      -- the told address is the one that was found
      have eb : b' = b := by
        exact la_addr p o hg r1
      subst eb
      exact .inr rfl
    | fz d => cases hu
    | tp us' => cases hu
    | «at» b' => cases hu
/-- what a node becomes with other items -/
theorem node_kind {b : Addr} {p : List Nat} {K : PySem.W.Frag} {G H : Hp} {ow : Ow} {π : List Nat} {v : V} {t u : OD} {us us' : List OD} (o : OAt K G H ow π v t) (hg : t.gt p = some u) (hu : listOf? u = some us) (hp : PathV H v p b) : u.withKids us' = .ls us' ∨ u.withKids us' = .la b us' := by
  cases u with
  | ls us' => exact .inl rfl
  | la b' us' =>
    cases hu
    have eb := la_addr p o hg hp
    subst eb
    exact .inr rfl
  | fz d => cases hu
  | tp us' => cases hu
  | «at» b' => cases hu
/-- path[k] = e -/
theorem Sx.storeP (i : Nat) (p : List Nat) {t u w : OD} {us : List OD} {k : Int} {j : Nat} (h : ρ[i]? = some (some t)) (hat : t.isAt = false) (hg : t.gt p = some u) (hu : listOf? u = some us) (hp : Px C sc a ρ i p) (he : Eo C sc e ρ w) (hk : Eo C sc ix ρ (F k)) (hj : ixN us.length k = some j)
    (hs : ∀ env, swapsWithSole [.Subscript a ix ipos] e pos.line env = pure false := by intro _; rfl) (hw : ∀ env, swappedStores [.Subscript a ix ipos] e env = pure none := by intro _; rfl)
    (h1' : ∀ env, (assignEach [.Subscript a ix ipos] env).map (·.2) = [assign (.Subscript a ix ipos) env] := by intro _; rfl)
    (ha : ∀ env v, assign (.Subscript a ix ipos) env v = (do
      let ov ← holding [v] (eval a env)
      let iv ← holding [v, ov] (eval ix env)
      standAt ipos
      holding [v, ov, iv] (setItem ov iv v)
      release [v, ov, iv] []) := by intro _ _; rfl) :
    Sx C sc (.Assign [.Subscript a ix ipos] e pos) ρ (.nx (ρ.set i (some (t.st p (u.withKids (us.set j w)))))) := fun X F po G0 H0 σ G H D E P => by
  obtain ⟨ow, h1, h2⟩ := E.own
  obtain ⟨v, q1, q2⟩ := h2 i _ h
  have o := q2.to hat
  obtain ⟨b, vs, r1, r2, r3, r4⟩ := o.path hg hu
  refine toS (ps_asg pe_wp (pg_sub pe_wp pe_wp set_list (ha _)) (hs _) (hw _) (h1' _)) ?_
  refine he X F σ G H _ E.sl fun z G1 H1 ow1 s1 n oz => ?_
  refine hp X F σ G1 H1 v b _ (E.sl.step s1) q1 (r1.mono s1.h) fun G2 H2 s2 => ?_
  refine hk X F σ G2 H2 _ ((E.sl.step s1).step s2) fun w' G3 H3 ow3 s3 n3 o3 => ?_
  cases o3 with
  | fz o3 =>
    have s := (s1.trans s2).trans s3
    have s23 := s2.trans s3
    refine ⟨b, vs, k, j, rfl, o3.int_eq, s.h _ _ r3, by rw [r4.length]; exact hj, ?_⟩
    have hjl : j < us.length := (ixN_seq hj).2.1
    refine P _ _ _ (Env.writeP (ow1 := fun c => (ow1 c).map (· ++ j :: (p.reverse ++ [i]))) E h q1 h1 h2 o r2 r1 (by rw [hg]; rfl) s (fun c π q => ?_) (us' := us.set j w) (OAll.set ?_ ?_) (node_kind o hg hu r1))
    · cases q3 : ow1 c with
      | none => rw [q3] at q; cases q
      | some π1 =>
        obtain ⟨n1, n2, n4⟩ := n c π1 q3
        obtain ⟨m1, m2⟩ := ow_keep s23 (fun c π q => ⟨(n c π q).2.1, (n c π q).2.2⟩) c π1 q3
        exact ⟨n1, m1, m2⟩
    · refine OAll_rel (fun π π' => π = π') (fun k π π' r => by rw [r]) s.g (fun c π π' o' p1 p2 p3 => ⟨s.h _ _ p3, ?_⟩) us _ _ 0 vs rfl r4
      subst p2
      try dsimp only
      cases q3 : ow1 c with
      | none => exact p1
      | some π1 => exact absurd (n c π1 q3).1 (h1 c _ p1).2.2
    · rw [Nat.zero_add]
      refine OAt_rel (fun π π' => π' = π ++ j :: (p.reverse ++ [i])) (fun k π π' r => by rw [r]; rfl) s23.g (fun c π π' o' p1 p2 p3 => ⟨s23.h _ _ p3, ?_⟩) w [] _ z rfl oz
      try dsimp only
      rw [p1, p2]
      rfl
/-- y = path: another name of a node -/
theorem Ss.alias (i r : Nat) (p : List Nat) {t u : OD} {us : List OD} (h : ρ[i]? = some (some t)) (hat : t.isAt = false) (hg : t.gt p = some u) (hu : listOf? u = some us) (hp : Px C sc e ρ i p)
    (hr : ∀ b, Ss C sc rest ((ρ.set i (some (t.st p (.la b us)))).set r (some (.at b))) o) (hi : C.N[r]? = some x := by rfl) (hx : Loc sc.sc x := by first | exact Or.inl rfl | exact Or.inr rfl)
    (hfn : sc.fn x = true ∨ sc.sc.names.lookup x = some .local := by first | exact Or.inl rfl | exact Or.inr rfl)
    (hs : ∀ env : PySem.Env, env.scope = sc.sc → swapsWith e (some (.Name x pos')) pos.line env = pure false := by intro env h; first | rfl | exact sw_cell (by rw [h]; rfl)) : Ss C sc (.Assign [.Name x pos'] e pos :: rest) ρ o := fun X F po G0 H0 σ G H D E P => by
  obtain ⟨ow, h1, h2⟩ := E.own
  obtain ⟨v, q1, q2⟩ := h2 i _ h
  have oo := q2.to hat
  obtain ⟨b, vs, r1, r2, r3, r4⟩ := oo.path hg hu
  refine toSs (pss_cons (ps_set (i := r) F.nd (by rw [F.N]; exact hi) (by rw [F.scq]; exact hx) pe_wp (hs _ F.scq) (hfn.imp (F.fn x) fun z => by rw [F.scq]; exact z)) pss_wp) ?_
  refine hp X F σ G H v b _ E.sl q1 r1 fun G1 H1 s => ?_
  refine hr b X F po G0 H0 _ G1 H1 D ?_ P
  have E1 := E.step s
  have hi' : i < ρ.length := (List.getElem?_eq_some_iff.mp h).1
  -- the node's address is told, and the name
  have E2 : Env C.K G0 H0 G1 H1 σ (ρ.set i (some (t.st p (.la b us)))) := by
    refine ⟨E1.st, by rw [List.length_set]; exact E1.len, ow, fun a π q => ⟨(h1 a π q).1, ow_keep s (fun a π q => (h1 a π q).2) a π q⟩, fun j u' q => ?_⟩
    by_cases z : i = j
    · subst z
      rw [List.getElem?_set_self hi'] at q
      cases q
      refine ⟨v, q1, .of (OAt_st s.g (fun c π' o' c1 c2 c3 => ⟨s.h _ _ c3, c1⟩) p [i] t v r2 r1 oo (by rw [hg]; rfl) (.la r2 (s.h _ _ r3) ?_))⟩
      exact OAll_under [] s.g (fun c π o' c1 _ c3 => ⟨s.h _ _ c3, c1⟩) us _ 0 vs List.nil_suffix r4
    · rw [List.getElem?_set_ne z] at q
      obtain ⟨w, m1, m2⟩ := h2 j u' q
      exact ⟨w, m1, m2.map (·.step s)⟩
  obtain ⟨ow3, k1, k2⟩ := E2.own
  refine ⟨E2.st, by have := E2.len; simp only [List.length_set] at this ⊢; exact this, fun a => match ow3 a with | some π => if [r] <:+ π then none else some π | none => none, fun a π q => ?_, fun j u' q => ?_⟩
  · try dsimp only at q
    cases q3 : ow3 a with
    | none => rw [q3] at q; cases q
    | some π1 => exact k1 a π1 q3
  · by_cases z : r = j
    · subst z
      by_cases hr : r < (ρ.set i (some (t.st p (.la b us)))).length
      · rw [List.getElem?_set_self hr] at q
        cases q
        have hlen := E2.len
        exact ⟨_, List.getElem?_set_self (by omega), .nom b⟩
      · rw [List.getElem?_eq_none (by simpa using hr)] at q; cases q
    · rw [List.getElem?_set_ne z] at q
      obtain ⟨w, m1, m2⟩ := k2 j u' q
      refine ⟨w, by rw [List.getElem?_set_ne z]; exact m1, m2.map fun m2 => OAt_under [j] (Same.refl _) (fun c π o' p1 p2 p3 => ⟨p3, ?_⟩) u' [j] w (List.suffix_refl _) m2⟩
      try dsimp only
      rw [p1]
      try dsimp only
      rw [if_neg]
      intro p4
      obtain ⟨x1, hx1⟩ := p2
      obtain ⟨y1, hy1⟩ := p4
      have e2 := congrArg List.getLast? (hx1.trans hy1.symm)
      rw [List.getLast?_append, List.getLast?_append] at e2
      simp at e2
      exact z e2.symm
/-- a name of a node leads to it -/
theorem Sl.node {K : PySem.W.Frag} {G H : Hp} {σ : St} {i r : Nat} {p : List Nat} {t : OD} {b : Addr} {us : List OD} (S : Sl K G H σ ρ) (h : ρ[i]? = some (some t)) (hat : t.isAt = false) (hg : t.gt p = some (.la b us)) (hr : ρ[r]? = some (some (.at b))) :
    ∃ v, σ[i]? = some (some v) ∧ σ[r]? = some (some (.ref b)) ∧ PathV H v p b := by
  obtain ⟨ow, h1, h2⟩ := S.own
  obtain ⟨v, q1, q2⟩ := h2 i _ h
  obtain ⟨w, q3, q4⟩ := h2 r _ hr
  have e := q4.ref
  subst e
  obtain ⟨b', vs, r1, r2, r3, r4⟩ := (q2.to hat).path hg rfl
  have eb := la_addr p (q2.to hat) hg r1
  subst eb
  exact ⟨v, q1, q3, r1⟩
/-- y[k] = e, y another name of a node in the slot i -/
theorem Sx.storeA (i r : Nat) (p : List Nat) {t w : OD} {b : Addr} {us : List OD} {k : Int} {j : Nat} (h : ρ[i]? = some (some t)) (hat : t.isAt = false) (hg : t.gt p = some (.la b us)) (hr : ρ[r]? = some (some (.at b))) (he : Eo C sc e ρ w) (hk : Eo C sc ix ρ (F k)) (hj : ixN us.length k = some j) (hN : C.N[r]? = some x := by rfl) (hv : Vis sc.sc x := by first | exact Or.inl rfl | exact Or.inr (Or.inl rfl) | exact Or.inr (Or.inr rfl))
    (hd : (x == ("__debug__" : Str)) = false := by decide) (hcd : (x == ("__classdict__" : Str)) = false := by decide)
    (hs : ∀ env, swapsWithSole [.Subscript (.Name x pos') ix ipos] e pos.line env = pure false := by intro _; rfl) (hw : ∀ env, swappedStores [.Subscript (.Name x pos') ix ipos] e env = pure none := by intro _; rfl)
    (h1' : ∀ env, (assignEach [.Subscript (.Name x pos') ix ipos] env).map (·.2) = [assign (.Subscript (.Name x pos') ix ipos) env] := by intro _; rfl)
    (ha : ∀ env v, assign (.Subscript (.Name x pos') ix ipos) env v = (do
      let ov ← holding [v] (eval (.Name x pos') env)
      let iv ← holding [v, ov] (eval ix env)
      standAt ipos
      holding [v, ov, iv] (setItem ov iv v)
      release [v, ov, iv] []) := by intro _ _; rfl) :
    Sx C sc (.Assign [.Subscript (.Name x pos') ix ipos] e pos) ρ (.nx (ρ.set i (some (t.st p (.la b (us.set j w)))))) := fun X F po G0 H0 σ G H D E P => by
  obtain ⟨v, q1, q3, r1⟩ := E.sl.node h hat hg hr
  obtain ⟨ow, h1, h2⟩ := E.own
  obtain ⟨v', q1', q2⟩ := h2 i _ h
  rw [q1] at q1'
  cases q1'
  have o := q2.to hat
  obtain ⟨b', vs, r1', r2, r3, r4⟩ := o.path hg rfl
  have eb := la_addr p o hg r1'
  subst eb
  refine toS (ps_asg pe_wp (pg_sub (pe_var (i := r) (by rw [F.N]; exact hN) (by rw [F.scq]; exact hv) hd hcd) pe_wp set_list (ha _)) (hs _) (hw _) (h1' _)) ?_
  refine he X F σ G H _ E.sl fun z G1 H1 ow1 s1 n oz => ?_
  refine ⟨_, q3, hk X F σ G1 H1 _ (E.sl.step s1) fun w' G3 H3 ow3 s23 n3 o3 => ?_⟩
  cases o3 with
  | fz o3 =>
    have s := s1.trans s23
    refine ⟨b, vs, k, j, rfl, o3.int_eq, s.h _ _ r3, by rw [r4.length]; exact hj, ?_⟩
    refine P _ _ _ (Env.writeP (ow1 := fun c => (ow1 c).map (· ++ j :: (p.reverse ++ [i]))) E h q1 h1 h2 o r2 r1' (by rw [hg]; rfl) s (fun c π q => ?_) (us' := us.set j w) (OAll.set ?_ ?_) (.inr rfl))
    · cases q3 : ow1 c with
      | none => rw [q3] at q; cases q
      | some π1 =>
        obtain ⟨n1, n2, n4⟩ := n c π1 q3
        obtain ⟨m1, m2⟩ := ow_keep s23 (fun c π q => ⟨(n c π q).2.1, (n c π q).2.2⟩) c π1 q3
        exact ⟨n1, m1, m2⟩
    · refine OAll_rel (fun π π' => π = π') (fun k π π' r => by rw [r]) s.g (fun c π π' o' p1 p2 p3 => ⟨s.h _ _ p3, ?_⟩) us _ _ 0 vs rfl r4
      subst p2
      try dsimp only
      cases q3 : ow1 c with
      | none => exact p1
      | some π1 => exact absurd (n c π1 q3).1 (h1 c _ p1).2.2
    · rw [Nat.zero_add]
      refine OAt_rel (fun π π' => π' = π ++ j :: (p.reverse ++ [i])) (fun k π π' r => by rw [r]; rfl) s23.g (fun c π π' o' p1 p2 p3 => ⟨s23.h _ _ p3, ?_⟩) w [] _ z rfl oz
      try dsimp only
      rw [p1, p2]
      rfl
/-- all is frozen for a while, the node's other name too -/
theorem Sl.frozenA {K : PySem.W.Frag} {G H : Hp} {σ : St} {i r : Nat} {p : List Nat} {t : OD} {b : Addr} {us : List OD} (S : Sl K G H σ ρ) (h : ρ[i]? = some (some t)) (hat : t.isAt = false) (hg : t.gt p = some (.la b us)) (hr : ρ[r]? = some (some (.at b))) :
    ∃ G1, Same G G1 ∧ Sl K G1 H σ ((frzAll ρ).set r (some (.fz (.list (OD.datas us))))) := by
  obtain ⟨v, q1, q3, r1⟩ := S.node h hat hg hr
  obtain ⟨ow, h1, h2⟩ := S.own
  have hn : ∀ a π, ow a = some π → G a = none := fun a π q => (h1 a π q).1
  obtain ⟨v', q1', q2⟩ := h2 i _ h
  rw [q1] at q1'
  cases q1'
  obtain ⟨b', vs, r1', r2, r3, r4⟩ := (q2.to hat).path hg rfl
  have eb := la_addr p (q2.to hat) hg r1'
  subst eb
  have db : Dp K (allFz G H ow) (.ref b) (.list (OD.datas us)) := by
    have o : OAt K G H ow (p.reverse ++ [i]) (.ref b) (.la b us) := .la r2 r3 r4
    have := OAt_freeze hn _ _ _ o
    simpa only [OD.data] using this
  have hlr : r < ρ.length := (List.getElem?_eq_some_iff.mp hr).1
  refine ⟨allFz G H ow, allFz_same hn, allFz_sub S.gh, by unfold frzAll; rw [List.length_set, List.length_map]; exact S.len, ow0, fun _ _ q => (by cases q), fun j u q => ?_⟩
  by_cases z : r = j
  · subst z
    rw [List.getElem?_set_self (by unfold frzAll; rw [List.length_map]; exact hlr)] at q
    cases q
    exact ⟨_, q3, .of (.fz db)⟩
  · rw [List.getElem?_set_ne z] at q
    obtain ⟨u', q5, q0, rfl⟩ := frzAll_get q
    obtain ⟨w, q6, q7⟩ := h2 j u' q5
    exact ⟨w, q6, .of (.fz (OAt_freeze hn u' [j] w (q7.to q0)))⟩
theorem Eo.borrowA {w : OD} (i r : Nat) (p : List Nat) {b : Addr} {us : List OD} (h : ρ[i]? = some (some t)) (hat : t.isAt = false) (hg : t.gt p = some (.la b us)) (hr : ρ[r]? = some (some (.at b))) (he : Eo C sc e ((frzAll ρ).set r (some (.fz (.list (OD.datas us))))) w) (hf : w.flat = true) : Eo C sc e ρ w := by
  intro X F σ G H Q S f
  obtain ⟨G1, s1, S1⟩ := S.frozenA h hat hg hr
  refine he X F σ G1 H Q S1 fun v G' H' ow st n o => ?_
  refine f v G H' ow ⟨Same.refl _, st.h, S.gh.trans st.h, fun _ a b => absurd b a⟩ (fun a π e => ⟨(n a π e).1, S.gh.free (n a π e).1, (n a π e).2.2⟩) (OAt_flat w [] v hf o)
theorem Et.borrowA {k : Bool} (i r : Nat) (p : List Nat) {b : Addr} {us : List OD} (h : ρ[i]? = some (some t)) (hat : t.isAt = false) (hg : t.gt p = some (.la b us)) (hr : ρ[r]? = some (some (.at b))) (he : Et C sc e ((frzAll ρ).set r (some (.fz (.list (OD.datas us))))) k) : Et C sc e ρ k := by
  intro X F σ G H Q S f
  obtain ⟨G1, s1, S1⟩ := S.frozenA h hat hg hr
  exact he X F σ G1 H Q S1 fun G' H' st => f G H' ⟨Same.refl _, st.h, S.gh.trans st.h, fun _ a b => absurd b a⟩
/-- a told address is forgotten -/
theorem Ss.untell (i : Nat) (p : List Nat) {b : Addr} {us : List OD} (h : ρ[i]? = some (some t)) (hat : t.isAt = false) (hg : t.gt p = some (.la b us)) (q : Ss C sc rest (ρ.set i (some (t.st p (.ls us)))) o) : Ss C sc rest ρ o := fun X F po G0 H0 σ G H D E P => by
  refine q X F po G0 H0 σ G H D ?_ P
  obtain ⟨ow, h1, h2⟩ := E.own
  refine ⟨E.st, by rw [List.length_set]; exact E.len, ow, h1, fun j u q => ?_⟩
  by_cases z : i = j
  · subst z
    rw [List.getElem?_set_self (List.getElem?_eq_some_iff.mp h).1] at q
    cases q
    obtain ⟨v, q1, q2⟩ := h2 i _ h
    obtain ⟨b', vs, r1, r2, r3, r4⟩ := (q2.to hat).path hg rfl
    exact ⟨v, q1, .of (OAt_st (Same.refl _) (fun c π' o' c1 c2 c3 => ⟨c3, c1⟩) p [i] t v r2 r1 (q2.to hat) (by rw [hg]; rfl) (.ls r2 r3 r4))⟩
  · rw [List.getElem?_set_ne z] at q
    exact h2 j u q
end
end NW
namespace NW
open PySem PySem.Spec L2
open PyProof.Rows hiding St
open Enc (enc)
/-- a def of the module as the top has left it -/
theorem FnG.of {g : Pg} {x qual : Str} {st : Stmt} {f : Addr} {fd : FuncData} {N ps : List Str} {k : Nat} {R : List PyData → OD → Prop} (F : Fun g.K x qual st f fd) (S : FnScope N ps (defScope st))
    (hlen : ∀ ds t, R ds t → ds.length = ps.length) (body : ∀ ds t, R ds t → Ss ⟨g, N, k⟩ (.top (defScope st)) (defBody st) (startR N ds) (.rt t)) : FnG g.P g.w g.K g.mg g.base CX0 (k + 1) f fd ps (spO g.K R) := by
  refine fnG_of F S (fun vs H Q E ⟨G, ds, t, _, h, r, _⟩ => h.length.trans (hlen _ _ r)) fun cdv A outer s H vs Q E hg hr ⟨G, ds, t, e, h, r, fin⟩ => ?_
  refine ⟨_, (pss_wp (X := (cxOf CX0 g.P g.w g.K g.mg g.base N qual (defScope st) f cdv A outer s H E).nox)).nox, ?_⟩
  exact body ds t r _ ⟨rfl, rfl, rfl, rfl, rfl, rfl, rfl, fun _ _ => rfl, S.nd, rfl, hr, hg⟩ PassesOwn.never G H _ G H _ (env_start e h) fin
theorem FnG.of' {g : Pg} {x qual : Str} {st : Stmt} {f : Addr} {fd : FuncData} {N ps : List Str} {k : Nat} {R : List PyData → OD → Prop} (F : Fun g.K x qual st f fd) (S : FnScope N ps (defScope st))
    (hlen : ∀ ds t, R ds t → ds.length = ps.length) (body : ∀ ds t, R ds t → Ss ⟨g, N, k⟩ (.top (defScope st)) (defBody st) (startR N ds) (.rt t)) : FnG g.P g.w g.K g.mg g.base CX0 (k + 1) f fd ps (spO g.K R) := FnG.of F S hlen body
/-- what the law promises -/
def RLaw (n : Nat) : List PyData → OD → Prop := fun ds t => ∃ ns : List Int, ds = [enc ns] ∧ ns.length ≤ n ∧ t = F true
theorem lawG {P : Program} {w : World} {K : PySem.W.Frag} {mg mb : Str → Option Value} {k n : Nat} {fa a : Addr} {fd : FuncData} {x : Str} {s₁ : Shared} {vs : List Value} {ns : List Int}
    (KX : K.In s₁.heap) (hns : s₁.heap.Ns mainGlobals mg) (hb : s₁.heap.Ns builtinsNs mb) (hbb : ∀ x : Str, x ≠ "__name__" → mb x = bootBuiltins x) (hlim : s₁.heap.NoLimit) (hg : s₁.gens = #[])
    (ha : s₁.heap.get? a = some { cls := .type "list", data := .seq vs.toArray }) (hi : IntsAre vs ns) (hln : ns.length ≤ n) (hl : ns.length ≤ sizeLine) (hr : Room k callerA)
    (FF : ∀ base : Heap, K.In base → base.Ns mainGlobals mg → FnG P w K mg base CX0 k fa fd [x] (spO K (RLaw n))) (hbind : ∀ (s : Shared) (u : Value), BindsTo s fd ⟨[u], []⟩ [(x, u)]) :
    codeAny (model P w) callerA (.call (.ref fa) ⟨[.ref a], []⟩) (fun r s' => r = .ok (.ret (.bool true)) ∧ OldK s₁.heap s'.heap ∧ s'.os = s₁.os ∧ AllBare s'.gens) s₁ := by
  have rv := vals_ints hi
  -- the abstract heap tracks the script alone, or nothing
  have main : ∀ H : Hp, Only H → SqL K H a (ns.map V.int) → HOk P w H s₁.heap → (∀ b, H b ≠ none → b = a) → (H a ≠ none → K.lookup a = none) →
      codeAny (model P w) callerA (.call (.ref fa) ⟨[.ref a], []⟩) (fun r s' => r = .ok (.ret (.bool true)) ∧ OldK s₁.heap s'.heap ∧ s'.os = s₁.os ∧ AllBare s'.gens) s₁ := by
    intro H hO hS hok hA hK
    have untr : ∀ {b : Addr}, b ≠ a → H b = none := fun {b} hb => by
      cases q : H b with
      | none => rfl
      | some u => exact absurd (hA b (by rw [q]; simp)) hb
    have dicts : ∀ {b : Addr} {o : Obj} {es : Array DictEntry} {ep : Nat}, s₁.heap.get? b = some o → o.data = .dict es ep → H b = none := fun {b o es ep} e d => untr fun z => by
      subst z
      rw [ha] at e
      cases e
      cases d
    have nsK : ∀ {b : Addr} {m : Str → Option Value}, s₁.heap.Ns b m → (hidT s₁.heap H).Ns b m := fun {b m} ⟨o, es, ep, e, d, r⟩ => ⟨o, es, ep, hidT_get e (dicts e d), d, r⟩
    have inK : K.In (hidT s₁.heap H) := fun b o e => by
      refine hidT_get (KX b o e) ?_
      cases q : H b with
      | none => rfl
      | some u =>
        have z : b = a := hA b (by rw [q]; simp)
        subst z
        rw [hK (by rw [q]; simp)] at e
        cases e
    obtain ⟨mc, m1, m2⟩ := hlim
    have hM : Mod K mg (hidT s₁.heap H) := ⟨inK, nsK hns, ⟨mb, nsK hb, hbb⟩, ⟨mc, nsK m1, m2⟩⟩
    have noFr : ∀ b ∈ frs [], H b = none := fun b hb => by
      have hb' : b ∈ ([] : List Addr) := hb
      simp at hb'
    have e0 : Env0 P w K mg (hidT s₁.heap H) callerA [] s₁ H := ⟨rfl, hM, fun b o e => of_hidT e, Nat.le_of_eq (hidT_size _ _), trivial, noFr, hok, .of_eq hg⟩
    have hsp : spO K (RLaw n) [.ref a] H (fun v _ => v = .bl true) (fun _ _ _ => False) := ⟨H, [enc ns], _, Same.refl _, .cons (.lst hS (ints_dpall ns)) .nil, ⟨ns, rfl, hln, rfl⟩, fun v G' H' ow s n o => by
      cases o with
      | fz o => exact o.bl_eq⟩
    refine codeAny_mono ((FF _ inK (nsK hns)).run callerA [] s₁ H ⟨[.ref a], []⟩ [.ref a] [.ref a] _ _ rfl hr e0 (hbind s₁ (.ref a)) (.cons rfl .nil) hsp) fun r s' h => ?_
    match r, h with
    | .error e, h => exact False.elim h
    | .ok .next, h => exact False.elim h
    | .ok .brk, h => exact False.elim h
    | .ok .cont, h => exact False.elim h
    | .ok (.ret u), h =>
      obtain ⟨v, H', os, bare, un, hok', r', q⟩ := h
      have q' : v = .bl true := q
      subst q'
      obtain rfl : u = Value.bool true := r'
      refine ⟨rfl, OldK.of_keep fun b o e => ?_, os, bare⟩
      cases q1 : H b with
      | none => exact un.keep b o e q1 (fun z => by have z' : b ∈ ([] : List Addr) := z; simp at z') (by simp)
      | some u =>
        rcases hO b with z | ⟨ob, xs, z⟩
        · rw [q1] at z; cases z
        · obtain ⟨e1, _⟩ := hok b _ z
          obtain ⟨e2, _⟩ := hok' b _ (un.frzs b ob _ z)
          rw [e] at e1; cases e1
          exact e2
  cases hk : K.lookup a with
  | some o =>
    have e := KX a o hk
    rw [ha] at e
    cases e
    exact main (fun _ => none) (fun _ => .inl rfl) (.inr ⟨_, vs.toArray, _, hk, rfl, rfl, rfl, by rw [List.size_toArray, hi.length]; exact hl, by simpa using rv⟩) (fun b u (z : none = some u) => nomatch z) (fun b z => absurd rfl z) (fun z => absurd rfl z)
  | none =>
    let H1 : Hp := fun b => if b = a then some (.frz { cls := .type "list", data := .seq vs.toArray } (.lst (ns.map V.int))) else none
    have at_a : H1 a = some (.frz { cls := .type "list", data := .seq vs.toArray } (.lst (ns.map V.int))) := if_pos rfl
    have off : ∀ {b : Addr}, b ≠ a → H1 b = none := fun hb => if_neg hb
    refine main H1 (fun b => ?_) (.inl (.inr ⟨_, at_a⟩)) (fun b u z => ?_) (fun b z => ?_) fun _ => hk
    · by_cases hb : b = a
      · subst hb; exact .inr ⟨_, _, at_a⟩
      · exact .inl (off hb)
    · by_cases hb : b = a
      · subst hb
        rw [at_a] at z
        cases z
        exact ⟨ha, by rw [List.length_map]; exact hl, vs, _, rv, ha⟩
      · rw [off hb] at z; cases z
    · by_cases hb : b = a
      · exact hb
      · exact absurd (off hb) z
theorem walkG {l : PySem.W.OpenLaw} {n k : Nat} {q : Program} {loose : List Str} {XP : (Str → Option Value) → Heap → Prop} {YP : World → Heap → Prop} {d : DefRec} {K : Params → PySem.W.Frag} {x : Str}
    (hn : l.most = some n) (hn2 : n ≤ sizeLine) (hdf : d.params.defaults = []) (hr : Room k callerA) (hY : ∀ (w : World) (h : Heap), YP w h → (K w.params).In h)
    (FF : ∀ (w : World) (mg : Str → Option Value) (fa : Addr) (h : Heap), (K w.params).In h → h.Ns mainGlobals mg → mg d.name = some (.ref fa) →
      ∃ fd : FuncData, (∀ (s : Shared) (u : Value), BindsTo s fd ⟨[u], []⟩ [(x, u)]) ∧
        ∀ base : Heap, (K w.params).In base → base.Ns mainGlobals mg → FnG l.prog w (K w.params) mg base CX0 k fa fd [x] (spO (K w.params) (RLaw n))) :
    PySem.W.WalkO q loose XP YP l.row.toRowW d [] (fun f vs => PySem.call f vs) := by
  refine Att.attach_call hn hdf fun w s₀ s₁ mg mb fa o pm cd doc a vs ns G Y ho hd hcd hmg hobj hints hlen hg => ?_
  obtain ⟨fd, hb, hF⟩ := FF w mg fa _ (hY w _ Y) G.T.g hmg
  exact lawG (hY w _ Y) G.T.g G.T.b G.T.builtins G.T.nolimit hg hobj hints hlen (Nat.le_trans hlen hn2) hr hF hb
end NW
namespace NW
open PySem PySem.Spec L2
open PyProof.Rows hiding St
open Enc (enc)
/-! ### _law_same: the sameD data, of the sameD kinds -/
mutual
def sameD : PyData → PyData → Bool
  | .none, .none => true
  | .bool a, .bool b => decide (a = b)
  | .int a, .int b => decide (a = b)
  | .str a, .str b => decide (a = b)
  | .list xs, .list ys => sameAll xs ys
  | .tuple xs, .tuple ys => sameAll xs ys
  | _, _ => false
def sameAll : List PyData → List PyData → Bool
  | [], [] => true
  | x :: xs, y :: ys => sameD x y && sameAll xs ys
  | _, _ => false
end
theorem sameAll_len : ∀ {xs ys : List PyData}, xs.length ≠ ys.length → sameAll xs ys = false
  | [], [], h => absurd rfl h
  | [], _ :: _, _ => by simp [sameAll]
  | _ :: _, [], _ => by simp [sameAll]
  | x :: xs, y :: ys, h => by
    simp only [sameAll]
    rw [sameAll_len (xs := xs) (ys := ys) (by simpa using h), Bool.and_false]
theorem rangeI_succ (lo : Int) (n : Nat) : rangeI lo (n + 1) = lo :: rangeI (lo + 1) n := by
  unfold rangeI
  rw [List.range_succ_eq_map, List.map_cons, List.map_map]
  congr 1
  · simp
  · apply List.map_congr_left
    intro k _
    simp only [Function.comp]
    omega
def stepS (xs ys : List PyData) (_ : Unit) (k : Int) : Fl Unit Bool := match atI xs k, atI ys k with
  | some a, some b => if (!sameD a b) = true then .rt false else .nx ()
  | _, _ => .nx ()
theorem forE_same (xs ys : List PyData) (hl : xs.length = ys.length) : ∀ (n i : Nat), i + n = ys.length → forE (stepS xs ys) (rangeI (i : Nat) n) () = if sameAll (xs.drop i) (ys.drop i) = true then .nx () else .rt false
  | 0, i, h => by
    rw [List.drop_eq_nil_of_le (by omega), List.drop_eq_nil_of_le (by omega)]
    simp [rangeI, sameAll, forE]
  | n + 1, i, h => by
    have hx : i < xs.length := by omega
    have hy : i < ys.length := by omega
    rw [rangeI_succ, forE_cons]
    have e : stepS xs ys () (i : Nat) = if (!sameD xs[i] ys[i]) = true then .rt false else .nx () := by
      unfold stepS
      rw [atI_nat (List.getElem?_eq_getElem hx), atI_nat (List.getElem?_eq_getElem hy)]
    rw [e, List.drop_eq_getElem_cons hx, List.drop_eq_getElem_cons hy]
    have ih := forE_same xs ys hl n (i + 1) (by omega)
    rw [show ((i + 1 : Nat) : Int) = (i : Int) + 1 by omega] at ih
    by_cases q : sameD xs[i] ys[i] = true
    · have q2 : sameAll (xs[i] :: xs.drop (i + 1)) (ys[i] :: ys.drop (i + 1)) = sameAll (xs.drop (i + 1)) (ys.drop (i + 1)) := by simp only [sameAll, q, Bool.true_and]
      have q3 : (!sameD xs[i] ys[i]) = false := by rw [q]; rfl
      rw [q2, if_neg (by rw [q3]; exact Bool.false_ne_true)]
      exact ih
    · rw [Bool.not_eq_true] at q
      have q2 : sameAll (xs[i] :: xs.drop (i + 1)) (ys[i] :: ys.drop (i + 1)) = false := by simp only [sameAll, q, Bool.false_and]
      have q3 : (!sameD xs[i] ys[i]) = true := by rw [q]; rfl
      rw [q2, if_pos q3, if_neg Bool.false_ne_true]
/-- what it takes -/
def R_same (n : Nat) : List PyData → OD → Prop := fun ds t => ∃ a b, ds = [a, b] ∧ b.depth ≤ n ∧ b.hasDict = false ∧ t = F (sameD a b)
theorem depthAll_mem : ∀ {ds : List PyData} {d : PyData}, d ∈ ds → d.depth ≤ PyData.depthAll ds
  | e :: ds, d, h => by
    simp only [PyData.depthAll]
    rcases List.mem_cons.mp h with q | q
    · subst q; exact Nat.le_max_left _ _
    · exact Nat.le_trans (depthAll_mem q) (Nat.le_max_right _ _)
theorem noDictAll_mem : ∀ {ds : List PyData} {d : PyData}, PyData.hasDictAll ds = false → d ∈ ds → d.hasDict = false
  | e :: ds, d, h, hm => by
    simp only [PyData.hasDictAll, Bool.or_eq_false_iff] at h
    rcases List.mem_cons.mp hm with q | q
    · subst q; exact h.1
    · exact noDictAll_mem h.2 q
/-- the builtins that it calls -/
structure BiSame (g : Pg) : Prop where
  isi : g.mg "isinstance" = none
  len : g.mg "len" = none
  range : g.mg "range" = none
  list : g.mg "list" = none
  tuple : g.mg "tuple" = none
  bool : g.mg "bool" = none
  int : g.mg "int" = none
  str : g.mg "str" = none
theorem isiT : ∀ s ∈ ["NoneType", "bool", "int", "str", "list", "tuple", "dict"], ∀ T ∈ ["list", "tuple", "bool", "int", "str"], kitB s T = some ((kitB s T).getD false) := by decide +kernel
theorem tyD_mem (d : PyData) : tyD d ∈ ["NoneType", "bool", "int", "str", "list", "tuple", "dict"] := by cases d <;> simp [tyD]
/-- isinstance as a test and a value, of data -/
def isiB (d : PyData) (T : String) : Bool := (kitB (tyD d) T).getD false
theorem isiB_some (d : PyData) {T : String} (h : T ∈ ["list", "tuple", "bool", "int", "str"]) : kitB (tyD d) T = some (isiB d T) := isiT _ (tyD_mem d) _ h
theorem isiB_none {T : String} {k : Bool} (h : (kitB "NoneType" T).getD false = k) : isiB .none T = k := h
theorem isiB_bool {x : Bool} {T : String} {k : Bool} (h : (kitB "bool" T).getD false = k) : isiB (.bool x) T = k := h
theorem isiB_int {x : Int} {T : String} {k : Bool} (h : (kitB "int" T).getD false = k) : isiB (.int x) T = k := h
theorem isiB_str {x : Str} {T : String} {k : Bool} (h : (kitB "str" T).getD false = k) : isiB (.str x) T = k := h
theorem isiB_list {x : List PyData} {T : String} {k : Bool} (h : (kitB "list" T).getD false = k) : isiB (.list x) T = k := h
theorem isiB_tup {x : List PyData} {T : String} {k : Bool} (h : (kitB "tuple" T).getD false = k) : isiB (.tuple x) T = k := h
theorem isiB_dict {x} {T : String} {k : Bool} (h : (kitB "dict" T).getD false = k) : isiB (.dict x) T = k := h
theorem same_run (xs ys : List PyData) (hl : xs.length = ys.length) : (forE (stepS xs ys) (rangeI 0 ((ys.length : Int)).toNat) ()).elim (fun _ => true) (fun _ => true) (fun q => q) = sameAll xs ys := by
  have q := forE_same xs ys hl ys.length 0 (by omega)
  rw [List.drop_zero, List.drop_zero] at q
  rw [show ((ys.length : Int)).toNat = ys.length from Int.toNat_natCast _]
  have q' : forE (stepS xs ys) (rangeI 0 ys.length) () = if sameAll xs ys = true then .nx () else .rt false := q
  rw [q']
  cases h : sameAll xs ys with
  | true => rfl
  | false => rfl
section
variable {C : Cn} {sc : Scp} {ρ : Rho} {a b c : Expr} {ab : List Stmt} {bb rest : List Stmt} {ks : List (List Stmt)} {pos p : Pos} {d : PyData} {o : Out}
/-- a list that is told is no longer than the line -/
theorem Ss.sized (i : Nat) {ds : List PyData} (h : ρ[i]? = some (some (.fz (.list ds)))) (q : ds.length ≤ sizeLine → Ss C sc rest ρ o) : Ss C sc rest ρ o := fun X F po G0 H0 σ G H D E p => fun pins s I => by
  obtain ⟨ow, h1, h2⟩ := E.own
  obtain ⟨v, q1, q2⟩ := h2 i _ h
  cases q2.to rfl with
  | fz o =>
    obtain ⟨l, xs, rfl, r1, r2⟩ := o.lst_eq
    have r3 := E.st.gh.seq r1
    rw [← F.K] at r3
    obtain ⟨_, _, _, hz⟩ := I.list r3
    exact q (by rw [← r2.length]; exact hz) X F po G0 H0 σ G H D E p pins s I
theorem Ss.sizedT (i : Nat) {ds : List PyData} (h : ρ[i]? = some (some (.fz (.tuple ds)))) (q : ds.length ≤ sizeLine → Ss C sc rest ρ o) : Ss C sc rest ρ o := fun X F po G0 H0 σ G H D E p => fun pins s I => by
  obtain ⟨ow, h1, h2⟩ := E.own
  obtain ⟨v, q1, q2⟩ := h2 i _ h
  cases q2.to rfl with
  | fz o =>
    obtain ⟨l, xs, rfl, r1, r2⟩ := o.tup_eq
    have r3 := sqT_mono E.st.gh r1
    rw [← F.K] at r3
    obtain ⟨_, _, _, hz⟩ := I.tuple r3
    exact q (by rw [← r2.length]; exact hz) X F po G0 H0 σ G H D E p pins s I
theorem Sk.sized (i : Nat) {ds : List PyData} (h : ρ[i]? = some (some (.fz (.list ds)))) (q : ds.length ≤ sizeLine → Sk C sc rest [] ρ o) : Sk C sc rest [] ρ o := Ss.sized i h q
theorem Sk.sizedT (i : Nat) {ds : List PyData} (h : ρ[i]? = some (some (.fz (.tuple ds)))) (q : ds.length ≤ sizeLine → Sk C sc rest [] ρ o) : Sk C sc rest [] ρ o := Ss.sizedT i h q
theorem Sk.ifY (h : Et C sc c ρ true) (h1 : Sk C sc ab (rest :: ks) ρ o) : Sk C sc (.If c ab bb pos :: rest) ks ρ o := Sk.ifT (fun _ : Unit => o) (A := ()) (B := ()) h (fun _ => h1) (fun z => nomatch z)
theorem Sk.ifN (h : Et C sc c ρ false) (h1 : Sk C sc bb (rest :: ks) ρ o) : Sk C sc (.If c ab bb pos :: rest) ks ρ o := Sk.ifT (fun _ : Unit => o) (A := ()) (B := ()) h (fun z => nomatch z) (fun _ => h1)
theorem Eo.isiS {x : Str} {px : Pos} (T : String) (d : PyData) (hm : C.mg "isinstance" = none) (hmT : C.mg x = none) (ha : Eo C sc a ρ (.fz d)) (hvT : bootBuiltins x = some (.type T)) (hT : T ∈ ["list", "tuple", "bool", "int", "str"])
    (hgT : sc.sc.names.lookup x = some .globalImplicit := by rfl) (hg : sc.sc.names.lookup ("isinstance" : Str) = some .globalImplicit := by rfl) (he : ∀ env, starEach [a, .Name x px] env = (false, eval a env) :: starEach [.Name x px] env := by intro _; rfl)
    (hnT : x ≠ "__name__" := by decide) (hdT : (x == ("__debug__" : Str)) = false := by decide) (hpl : ∀ env, (backTo pos (starEach [.Name x px] env)).any (·.1) = false := by intro _; rfl) :
    Eo C sc (.Call (.Name "isinstance" p) [a, .Name x px] [] pos) ρ (.fz (.bool (isiB d T))) := Eo.isi hm hmT ha hvT (isiB_some d hT) hgT hg he hnT hdT hpl
end
end NW
namespace NW
open PySem PySem.Spec L2
open PyProof.Rows hiding St
open Enc (enc)
/-! ### lists of owned lists -/
def oLL {α : Type} [Enc α] (v : List (List α)) : OD := .ls (v.map oL)
theorem oLL_data {α : Type} [Enc α] (v : List (List α)) : (oLL v).data = enc v := by
  unfold oLL
  simp only [OD.data]
  rw [datas_map, List.map_map]
  show PyData.list (v.map (OD.data ∘ oL)) = .list (v.map enc)
  congr 1
  exact List.map_congr_left fun x _ => oL_data x
/-- x[i] := w -/
def setI {α : Type} (xs : List α) (i : Int) (w : α) : List α := xs.set ((ixN xs.length i).getD 0) w
theorem setI_length {α : Type} (xs : List α) (i : Int) (w : α) : (setI xs i w).length = xs.length := List.length_set
theorem ixN_some {α : Type} {xs : List α} {i : Int} (h : InB xs i) : ixN xs.length i = some ((ixN xs.length i).getD 0) := by
  unfold InB at h
  unfold ixN
  by_cases h0 : 0 ≤ i
  · rw [if_pos h0, if_pos h.2]; rfl
  · rw [if_neg h0, if_pos h.1]; rfl
theorem ixN_nat {n : Nat} {i : Int} (h0 : 0 ≤ i) (h : i < n) : ixN n i = some i.toNat := by
  unfold ixN
  rw [if_pos h0, if_pos h]
theorem setI_nat {α : Type} {xs : List α} {i : Int} (w : α) (h0 : 0 ≤ i) (h : i < xs.length) : setI xs i w = xs.set i.toNat w := by
  unfold setI
  rw [ixN_nat h0 h]
  rfl
section
variable {K : PySem.W.Frag} {G0 H0 G H : Hp} {σ : St} {ρ : Rho}
/-- a node with another name is frozen for good -/
theorem Env.freezeA (i r : Nat) (p : List Nat) {t : OD} {b : Addr} {us : List OD} (E : Env K G0 H0 G H σ ρ) (h : ρ[i]? = some (some t)) (ha : t.isAt = false) (hg : t.gt p = some (.la b us)) (hr : ρ[r]? = some (some (.at b))) :
    ∃ G', Env K G0 H0 G' H σ ((ρ.set i (some (.fz t.data))).set r (some (.fz (.list (OD.datas us))))) := by
  obtain ⟨v, q1, q3r, r1⟩ := E.sl.node h ha hg hr
  obtain ⟨ow, h1, h2⟩ := E.own
  obtain ⟨v', q1', q2⟩ := h2 i t h
  rw [q1] at q1'
  cases q1'
  obtain ⟨b', vs, r1', r2, r3, r4⟩ := (q2.to ha).path hg rfl
  have eb := la_addr p (q2.to ha) hg r1'
  subst eb
  let ow1 : Ow := fun a => match ow a with | some π => if [i] <:+ π then some π else none | none => none
  let ow2 : Ow := fun a => match ow a with | some π => if [i] <:+ π then none else some π | none => none
  have hn1 : ∀ a π, ow1 a = some π → ow a = some π := fun a π q => by
    change (match ow a with | some π => if [i] <:+ π then some π else none | none => none) = some π at q
    cases q3 : ow a with
    | none => rw [q3] at q; cases q
    | some π1 =>
      rw [q3] at q
      dsimp only at q
      split at q
      · exact q
      · cases q
  have hn2 : ∀ a π, ow2 a = some π → ow a = some π ∧ ow1 a = none := fun a π q => by
    change (match ow a with | some π => if [i] <:+ π then none else some π | none => none) = some π at q
    show _ ∧ (match ow a with | some π => if [i] <:+ π then some π else none | none => none) = none
    cases q3 : ow a with
    | none => rw [q3] at q; cases q
    | some π1 =>
      rw [q3] at q
      dsimp only at q ⊢
      split at q
      · cases q
      · rename_i hs
        rw [if_neg hs]
        exact ⟨q, rfl⟩
  have hG : ∀ a π, ow1 a = some π → G a = none := fun a π q => (h1 a π (hn1 a π q)).2.1
  have k1 : ∀ a π (o : _), ow a = some π → [i] <:+ π → H a = some o → H a = some o ∧ ow1 a = some π := fun a π o p1 p2 p3 => ⟨p3, by
    show (match ow a with | some π => if [i] <:+ π then some π else none | none => none) = some π
    rw [p1]
    dsimp only
    rw [if_pos p2]⟩
  have o1 : OAt K G H ow1 [i] v t := OAt_under [i] (Same.refl _) (fun a π o p1 p2 p3 => k1 a π o p1 p2 p3) t [i] v (List.suffix_refl _) (q2.to ha)
  have o0 : OAt K G H ow (p.reverse ++ [i]) (.ref b) (.la b us) := .la r2 r3 r4
  have o2 : OAt K G H ow1 (p.reverse ++ [i]) (.ref b) (.la b us) := OAt_under [i] (Same.refl _) (fun a π o p1 p2 p3 => k1 a π o p1 p2 p3) _ _ _ (List.suffix_append _ _) o0
  have d1 := OAt_freeze hG t [i] v o1
  have d2 : Dp K (allFz G H ow1) (.ref b) (.list (OD.datas us)) := by
    have := OAt_freeze hG _ _ _ o2
    simpa only [OD.data] using this
  have s1 := allFz_same (H := H) hG
  have hlr : r < ρ.length := (List.getElem?_eq_some_iff.mp hr).1
  refine ⟨allFz G H ow1, ⟨E.st.g.trans s1, E.st.h, allFz_sub E.st.gh, fun a p q => ?_⟩, by rw [List.length_set, List.length_set]; exact E.len, ow2, fun a π q => ?_, fun j u q => ?_⟩
  · unfold allFz at p
    cases q3 : ow1 a with
    | none => rw [q3] at p; exact E.st.nw a p q
    | some π => exact (h1 a π (hn1 a π q3)).1
  · obtain ⟨p1, p2⟩ := hn2 a π q
    refine ⟨(h1 a π p1).1, ?_, (h1 a π p1).2.2⟩
    unfold allFz
    rw [p2]
    exact (h1 a π p1).2.1
  · by_cases zr : r = j
    · subst zr
      rw [List.getElem?_set_self (by rw [List.length_set]; exact hlr)] at q
      cases q
      exact ⟨_, q3r, .of (.fz d2)⟩
    rw [List.getElem?_set_ne zr] at q
    by_cases z : i = j
    · subst z
      by_cases hi : i < ρ.length
      · rw [List.getElem?_set_self hi] at q
        cases q
        exact ⟨v, q1, .of (.fz d1)⟩
      · rw [List.getElem?_eq_none (by simpa using hi)] at q; cases q
    · rw [List.getElem?_set_ne z] at q
      obtain ⟨w, r1, r2⟩ := h2 j u q
      refine ⟨w, r1, r2.map fun r2 => OAt_under [j] s1 (fun a π o p1 p2 p3 => ⟨p3, ?_⟩) u [j] w (List.suffix_refl _) r2⟩
      show (match ow a with | some π => if [i] <:+ π then none else some π | none => none) = some π
      rw [p1]
      dsimp only
      rw [if_neg]
      intro p4
      obtain ⟨x, hx⟩ := p2
      obtain ⟨y, hy⟩ := p4
      have e2 := congrArg List.getLast? (hx.trans hy.symm)
      rw [List.getLast?_append, List.getLast?_append] at e2
      simp at e2
      exact z e2.symm
end
section
variable {C : Cn} {sc : Scp} {ρ : Rho} {e ix pe je tg iter elt : Expr} {es : List Expr} {st : Stmt} {rest : List Stmt} {ks : List (List Stmt)} {pos pos' ppos ipos pos2 qpos lpos apos cpos spos : Pos} {o : Out} {x y : Str} {α δ ε : Type} [Enc α] {scope : Scope}
theorem Ss.freezeA (i r : Nat) (p : List Nat) {t : OD} {b : Addr} {us : List OD} (h : ρ[i]? = some (some t)) (ha : t.isAt = false) (hg : t.gt p = some (.la b us)) (hr : ρ[r]? = some (some (.at b)))
    (q : Ss C sc rest ((ρ.set i (some (.fz t.data))).set r (some (.fz (.list (OD.datas us))))) o) : Ss C sc rest ρ o := fun X F po G0 H0 σ G H D E P => by
  obtain ⟨G', E'⟩ := E.freezeA i r p h ha hg hr
  exact q X F po G0 H0 σ G' H D E' P
/-- what a block that may leave gives -/
def Fl.out {γ : Type} (r : Fl δ γ) (A : δ → ε) (g : γ → ε) : ε := match r with
  | .nx s => A s
  | .bk s => A s
  | .rt q => g q
inductive Fr (δ γ : Type) where
  | nx (s : δ) | rt (q : γ)
def Fr.out {γ : Type} (r : Fr δ γ) (A : δ → ε) (g : γ → ε) : ε := match r with
  | .nx s => A s
  | .rt q => g q
def Fr.body {γ : Type} (R : δ → Rho) (T : γ → OD) : Fr δ γ → Out
  | .nx s => .nx (R s)
  | .rt q => .rt (T q)
theorem Sk.flE {γ : Type} (f : ε → Out) (g : γ → ε) {A : δ → ε} {R : δ → Rho} {T : γ → OD} (r : Fl δ γ) (h : Sx C sc st ρ (r.loop R R T)) (h1 : ∀ s, (r = .nx s ∨ r = .bk s) → Sk C sc rest ks (R s) (f (A s))) (hg : ∀ q, f (g q) = .rt (T q) := by intro _; rfl) :
    Sk C sc (st :: rest) ks ρ (f (r.out A g)) := by
  cases r with
  | nx s => exact Sk.cons h (h1 s (.inl rfl))
  | bk s => exact Sk.cons h (h1 s (.inr rfl))
  | rt q =>
    show Sk C sc (st :: rest) ks ρ (f (g q))
    rw [hg]
    exact Sk.stop h
/-- an if whose ways may leave -/
theorem Sk.ifR {γ : Type} {c : Expr} {a b : List Stmt} {k : Bool} (f : ε → Out) (g : γ → ε) {A : δ → ε} (R : δ → Rho) {T : γ → OD} {r1 r2 : Fr δ γ} (hc : Et C sc c ρ k) (ha : k = true → Sk C sc a [] ρ (r1.body R T)) (hb : k = false → Sk C sc b [] ρ (r2.body R T))
    (h1 : ∀ s, (if k = true then r1 else r2) = .nx s → Sk C sc rest ks (R s) (f (A s))) (hg : ∀ q, f (g q) = .rt (T q) := by intro _; rfl) :
    Sk C sc (.If c a b pos :: rest) ks ρ (f ((if k = true then r1 else r2).out A g)) := by
  cases k with
  | true =>
    rw [if_pos rfl] at h1 ⊢
    have sx : Sx C sc (.If c a b pos) ρ (r1.body R T) := Sx.if_ hc (fun _ => ha rfl) (fun z => nomatch z)
    cases r1 with
    | nx s => exact Sk.cons sx (h1 s rfl)
    | rt q =>
      show Sk C sc (_ :: rest) ks ρ (f (g q))
      rw [hg]
      exact Sk.stop sx
  | false =>
    rw [if_neg Bool.false_ne_true] at h1 ⊢
    have sx : Sx C sc (.If c a b pos) ρ (r2.body R T) := Sx.if_ hc (fun z => nomatch z) (fun _ => hb rfl)
    cases r2 with
    | nx s => exact Sk.cons sx (h1 s rfl)
    | rt q =>
      show Sk C sc (_ :: rest) ks ρ (f (g q))
      rw [hg]
      exact Sk.stop sx
theorem Sk.retRF {β : Type} [Enc β] {R : δ → Rho} {v : β} (h : Eo C sc e ρ (F v)) : Sk C sc (.Return (some e) pos :: rest) ks ρ (Fr.body R (fun z : β => F z) (.rt v)) := Sk.stop (Sx.ret h)
theorem Sk.retRO {β : Type} [Enc β] {R : δ → Rho} {v : List β} (h : Eo C sc e ρ (oL v)) : Sk C sc (.Return (some e) pos :: rest) ks ρ (Fr.body R (fun z : List β => oL z) (.rt v)) := Sk.stop (Sx.ret h)
theorem Sk.nxW {γ : Type} {R : δ → Rho} {T : γ → OD} {v : δ} (l : Le (R v) ρ) : Sk C sc [] [] ρ (Fr.body R T (.nx v)) := Ss.weak Ss.nil (show OutLe (.nx (R v)) (.nx ρ) from l)
/-- [e1, e2] of owned lists -/
theorem Eo.lstD {v : List (List α)} (h : Ea C sc es 0 ρ (v.map oL)) {pos : Pos}  (hz : (v.map oL).length ≤ sizeLine := by first | decide | (simp only [List.map_cons, List.map_nil, List.length_cons, List.length_nil]; decide)) : Eo C sc (.List es pos) ρ (oLL v) := Eo.lst h hz
theorem Sk.setD (f : ε → Out) (i : Nat) {v : List (List α)} {B : List (List α) → ε} (h : Eo C sc e ρ (oLL v)) (hr : ∀ z, z = v → Sk C sc rest ks (ρ.set i (some (oLL z))) (f (B z))) (hi : C.N[i]? = some x := by rfl) (hx : Loc sc.sc x := by first | exact Or.inl rfl | exact Or.inr rfl)
    (hfn : sc.fn x = true ∨ sc.sc.names.lookup x = some .local := by first | exact Or.inl rfl | exact Or.inr rfl)
    (hs : ∀ env : PySem.Env, env.scope = sc.sc → swapsWith e (some (.Name x pos')) pos.line env = pure false := by intro env h; first | rfl | exact sw_cell (by rw [h]; rfl)) : Sk C sc (.Assign [.Name x pos'] e pos :: rest) ks ρ (f (letv v B)) := Sk.setT (t := oLL) f i h hr hi hx hfn hs
theorem Sk.frzD (i : Nat) (v : List (List α)) (q : Sk C sc rest ks (ρ.set i (some (F v))) o) (h : ρ[i]? = some (some (oLL v)) := by rfl) : Sk C sc rest ks ρ o := by
  refine Sk.freeze i (t := oLL v) h rfl ?_
  rw [oLL_data]
  exact q
theorem Eo.vzD (i : Nat) (v : List (List α)) (h : ρ[i]? = some (some (OD.frz (oLL v))) := by rfl) (hN : C.N[i]? = some x := by rfl) (hv : Vis sc.sc x := by first | exact Or.inl rfl | exact Or.inr (Or.inl rfl) | exact Or.inr (Or.inr rfl))
    (hd : (x == ("__debug__" : Str)) = false := by decide) (hcd : (x == ("__classdict__" : Str)) = false := by decide) : Eo C sc (.Name x pos) ρ (F v) := (Eo.var (d := (oLL v).data) i h hN hv hd hcd).cast (by rw [oLL_data])
theorem oLL_gt {v : List (List α)} {k : Nat} (h : k < v.length) : (oLL v).gt [k] = some (oL v[k]) := by
  unfold oLL
  simp only [OD.gt, OD.kids]
  rw [List.getElem?_map, List.getElem?_eq_getElem h]
  rfl
theorem oLL_st {v : List (List α)} {k : Nat} (h : k < v.length) (w : OD) : (oLL v).st [k] w = .ls ((v.map oL).set k w) := by
  unfold oLL
  simp only [OD.st, OD.kids, OD.withKids]
  rw [List.getElem?_map, List.getElem?_eq_getElem h]
  rfl
theorem oL_fzm (xs : List α) : oL xs = .ls (xs.map fun x => .fz (enc x)) := rfl
theorem Eo.frD {v : List (List α)} (h : Eo C sc e ρ (oLL v)) : Eo C sc e ρ (F v) := (Eo.fr h).cast (by rw [oLL_data])
/-- [owned list for x in xs] -/
theorem Eo.lcD {ifs : List Expr} {pos : Pos} (xs : List δ) (en : δ → PyData) (p : δ → Bool) (g : δ → List α) (own : List (Str × Nat)) (hi : Ei C sc tg iter ρ (xs.map en)) (hz : xs.length ≤ sizeLine)
    (h : ∀ x ∈ xs, LcTurn C sc ρ scope own tg elt ifs (en x) (p x) (oL (g x))) (ok : blkC C.N sc.sc scope own = true := by first | decide +kernel | (dsimp only; decide +kernel)) (hs : ∀ env x, foldedSetIterable iter env x = pure x := by intro _ _; rfl) :
    Eo C sc (.ListComp elt [⟨tg, iter, ifs, 0⟩] scope pos) ρ (oLL ((xs.filter p).map g)) := (Eo.lc xs en p (fun x => oL (g x)) own hi hz h ok hs).cast (by
      unfold oLL
      rw [List.map_map]
      rfl)
theorem Sk.setLcD {ifs : List Expr} {py : Pos} (f : ε → Out) (i : Nat) {B : List (List α) → ε} (xs : List δ) (en : δ → PyData) (p : δ → Bool) (g : δ → List α) (own : List (Str × Nat)) (hi : Ei C sc tg iter ρ (xs.map en)) (hz : xs.length ≤ sizeLine)
    (h : ∀ x ∈ xs, LcTurn C sc ρ scope own tg elt ifs (en x) (p x) (oL (g x))) (hr : ∀ z, z = (xs.filter p).map g → Sk C sc rest ks (ρ.set i (some (oLL z))) (f (B z))) (ok : blkC C.N sc.sc scope own = true := by first | decide +kernel | (dsimp only; decide +kernel)) (hN : C.N[i]? = some y := by rfl) (hyl : sc.sc.names.lookup y = some .local := by rfl)
    (hk : sc.sc.kind = .function := by rfl) (hl : (py.line == pos.line) = true := by rfl) (ha : (scope.names.any fun (n, k) => n == y && (k == .local || k == .cell)) = false := by decide +kernel) (hs : ∀ env x, foldedSetIterable iter env x = pure x := by intro _ _; rfl) :
    Sk C sc (.Assign [.Name y py] (.ListComp elt [⟨tg, iter, ifs, 0⟩] scope pos) spos :: rest) ks ρ (f (letv ((xs.filter p).map g) B)) := by
  have q := hr _ rfl
  have e1 : oLL ((xs.filter p).map g) = .ls ((xs.filter p).map fun x => oL (g x)) := by unfold oLL; rw [List.map_map]; rfl
  rw [e1] at q
  exact Sk.cons (Sx.setLc i xs en p (fun x => oL (g x)) own hi hz h ok hN hyl hk hl ha hs) q
theorem Sk.setLcMD {ifs : List Expr} {py : Pos} (f : ε → Out) (i : Nat) {B : List (List α) → ε} (xs : List δ) (en : δ → PyData) (g : δ → List α) (own : List (Str × Nat)) (hi : Ei C sc tg iter ρ (xs.map en)) (hz : xs.length ≤ sizeLine)
    (h : ∀ x ∈ xs, LcTurn C sc ρ scope own tg elt ifs (en x) true (oL (g x))) (hr : ∀ z, z = xs.map g → Sk C sc rest ks (ρ.set i (some (oLL z))) (f (B z))) (ok : blkC C.N sc.sc scope own = true := by first | decide +kernel | (dsimp only; decide +kernel)) (hN : C.N[i]? = some y := by rfl) (hyl : sc.sc.names.lookup y = some .local := by rfl)
    (hk : sc.sc.kind = .function := by rfl) (hl : (py.line == pos.line) = true := by rfl) (ha : (scope.names.any fun (n, k) => n == y && (k == .local || k == .cell)) = false := by decide +kernel) (hs : ∀ env x, foldedSetIterable iter env x = pure x := by intro _ _; rfl) :
    Sk C sc (.Assign [.Name y py] (.ListComp elt [⟨tg, iter, ifs, 0⟩] scope pos) spos :: rest) ks ρ (f (letv (xs.map g) B)) := by
  have e : xs.map g = (xs.filter (fun _ => true)).map g := by rw [List.filter_eq_self.mpr (fun _ _ => rfl)]
  have q := Sk.setLcD (rest := rest) (ks := ks) (B := B) (spos := spos) f i xs en (fun _ => true) g own hi hz h (fun z hz => hr z (hz.trans e.symm)) ok hN hyl hk hl ha hs
  rw [← e] at q
  exact q
/-- x[k].append(e), k written out -/
theorem Sk.appD (f : ε → Out) (i k : Nat) {v : List (List α)} [Inhabited α] {w : α} {B : List (List α) → ε} {xpos kpos : Pos} {jj : Nat} (hk : k < v.length) (he : Eo C sc e ρ (F w)) (hz : (getI v (k : Int)).length < sizeLine)
    (hr : ∀ z, z = setI v (k : Int) (getI v (k : Int) ++ [w]) → Sk C sc rest ks (ρ.set i (some (oLL z))) (f (B z))) (h : ρ[i]? = some (some (oLL v)) := by rfl) (hN : C.N[i]? = some x := by rfl) (hv : Vis sc.sc x := by first | exact Or.inl rfl | exact Or.inr (Or.inl rfl) | exact Or.inr (Or.inr rfl))
    (hd : (x == ("__debug__" : Str)) = false := by decide) (hcd : (x == ("__classdict__" : Str)) = false := by decide)
    (hbase : ∀ env, attributeBase (.Subscript (.Name x xpos) (.Constant (.int (k : Int)) jj kpos) ppos) "append" env (eval (.Subscript (.Name x xpos) (.Constant (.int (k : Int)) jj kpos) ppos) env) = eval (.Subscript (.Name x xpos) (.Constant (.int (k : Int)) jj kpos) ppos) env := by intro _; rfl)
    (hfew : ∀ env, ((backTo cpos (starEach [e] env)).all (fun x => !x.1) && (backToKw cpos (keywordEach [] env)).all (fun x => x.1.isSome)
      && decide (([e] : List Expr).length + ([] : List Keyword).length + (if ([] : List Keyword).isEmpty then 0 else 1) < 30)) = true := by intro _; rfl)
    (hline : (apos.endLine == cpos.line) = true := by rfl) (hs : ∀ env, starEach [e] env = (false, eval e env) :: starEach [] env := by intro _; rfl)
    (hsw : ∀ env, swapsWith (.Call (.Attribute (.Subscript (.Name x xpos) (.Constant (.int (k : Int)) jj kpos) ppos) "append" apos) [e] [] cpos) none pos.line env = pure false := by intro _; rfl) :
    Sk C sc (.Expr (.Call (.Attribute (.Subscript (.Name x xpos) (.Constant (.int (k : Int)) jj kpos) ppos) "append" apos) [e] [] cpos) pos :: rest) ks ρ (f (letv (setI v (k : Int) (getI v (k : Int) ++ [w])) B)) := by
  have e1 : oLL (setI v (k : Int) (getI v (k : Int) ++ [w])) = (oLL v).st [k] ((oL v[k]).withKids ((v[k].map fun x => OD.fz (enc x)) ++ [F w])) := by
    rw [oLL_st hk, setI_nat _ (by omega) (by omega), getI_nat hk]
    unfold oLL
    rw [List.map_set]
    congr 2
    unfold oL
    rw [List.map_append]
    rfl
  have h2 := hr _ rfl
  rw [e1] at h2
  rw [getI_nat hk] at hz
  refine Sk.cons (Sx.appendP i [k] (us := v[k].map fun x => OD.fz (enc x)) h rfl (oLL_gt hk) rfl (Px.sub (p := []) (Px.name i hN hv hd hcd) Eo.I) he (by rw [List.length_map]; exact hz) hbase hfew hline hs hsw) h2
/-- y = x[a]; y[j] = e, x an owned list of owned lists: behind it both are frozen -/
theorem Sk.aliasSet (f : ε → Out) (i r : Nat) {v : List (List α)} [Inhabited α] {a j : Int} {w : α} {B : List (List α) → List α → ε} {xpos : Pos} (hir : i ≠ r) (ha : 0 ≤ a ∧ a < v.length) (hj : InB (getI v a) j)
    (ea : Eo C sc pe ρ (F a)) (ej : Eo C sc je ((frzAll ρ).set r (some (F (getI v a)))) (F j)) (ew : Eo C sc e ((frzAll ρ).set r (some (F (getI v a)))) (F w)) (hf : (F w).flat = true)
    (hr : ∀ z y, z = setI v a (setI (getI v a) j w) → y = getI z a → Sk C sc rest [] ((ρ.set i (some (F z))).set r (some (F y))) (f (B z y)))
    (h : ρ[i]? = some (some (oLL v)) := by rfl) (hrl : r < ρ.length := by exact Nat.le_of_ble_eq_true rfl) (hN : C.N[i]? = some x := by rfl) (hv : Vis sc.sc x := by first | exact Or.inl rfl | exact Or.inr (Or.inl rfl) | exact Or.inr (Or.inr rfl))
    (hd : (x == ("__debug__" : Str)) = false := by decide) (hcd : (x == ("__classdict__" : Str)) = false := by decide)
    (hN2 : C.N[r]? = some y := by rfl) (hv2 : Vis sc.sc y := by first | exact Or.inl rfl | exact Or.inr (Or.inl rfl) | exact Or.inr (Or.inr rfl)) (hx2 : Loc sc.sc y := by first | exact Or.inl rfl | exact Or.inr rfl)
    (hd2 : (y == ("__debug__" : Str)) = false := by decide) (hcd2 : (y == ("__classdict__" : Str)) = false := by decide)
    (hpi : PlainIx pe := by exact fun _ _ => rfl)
    (hfn : sc.fn y = true ∨ sc.sc.names.lookup y = some .local := by first | exact Or.inl rfl | exact Or.inr rfl)
    (hs0 : ∀ env : PySem.Env, env.scope = sc.sc → swapsWith (.Subscript (.Name x xpos) pe ppos) (some (.Name y pos')) pos.line env = pure false := by intro env h; first | rfl | exact sw_cell (by rw [h]; rfl))
    (hs : ∀ env, swapsWithSole [.Subscript (.Name y qpos) je ipos] e pos2.line env = pure false := by intro _; rfl) (hw : ∀ env, swappedStores [.Subscript (.Name y qpos) je ipos] e env = pure none := by intro _; rfl)
    (h1' : ∀ env, (assignEach [.Subscript (.Name y qpos) je ipos] env).map (·.2) = [assign (.Subscript (.Name y qpos) je ipos) env] := by intro _; rfl)
    (has : ∀ env v, assign (.Subscript (.Name y qpos) je ipos) env v = (do
      let ov ← holding [v] (eval (.Name y qpos) env)
      let iv ← holding [v, ov] (eval je env)
      standAt ipos
      holding [v, ov, iv] (setItem ov iv v)
      release [v, ov, iv] []) := by intro _ _; rfl) :
    Sk C sc (.Assign [.Name y pos'] (.Subscript (.Name x xpos) pe ppos) pos :: .Assign [.Subscript (.Name y qpos) je ipos] e pos2 :: rest) [] ρ (f (letv (setI v a (setI (getI v a) j w)) fun z => letv (getI z a) fun y => B z y)) := by
  obtain ⟨k, rfl⟩ : ∃ k : Nat, a = (k : Int) := ⟨a.toNat, by omega⟩
  have hk : k < v.length := by omega
  have il : i < ρ.length := (List.getElem?_eq_some_iff.mp h).1
  rw [getI_nat hk] at hj ej ew
  let us : List OD := v[k].map fun x => .fz (enc x)
  refine Ss.alias i r [k] (us := us) h rfl (oLL_gt hk) rfl (Px.sub (p := []) (Px.name i hN hv hd hcd) ea hpi) (fun b => ?_) hN2 hx2 hfn hs0
  let t1 : OD := (oLL v).st [k] (.la b us)
  have et1 : t1 = .ls ((v.map oL).set k (.la b us)) := oLL_st hk _
  have hkm : k < (v.map oL).length := by rw [List.length_map]; exact hk
  have g1 : t1.gt [k] = some (.la b us) := by
    rw [et1]
    simp only [OD.gt, OD.kids]
    rw [List.getElem?_set_self hkm]
  have edata : ∀ ys : List α, OD.data (.la b (ys.map fun x => OD.fz (enc x))) = enc ys := fun ys => by
    have := oL_data ys
    unfold oL at this
    simpa only [OD.data] using this
  let ρ1 : Rho := (ρ.set i (some t1)).set r (some (.at b))
  have fa : (frzAll ρ1).set r (some (.fz (.list (OD.datas us)))) = (frzAll ρ).set r (some (F v[k])) := by
    have e2 : OD.fz (.list (OD.datas us)) = F v[k] := by
      have := edata v[k]
      simp only [OD.data] at this
      rw [show us = v[k].map fun x => OD.fz (enc x) from rfl, this]
    rw [e2]
    unfold frzAll
    rw [List.map_set, List.set_set, List.map_set]
    congr 1
    have e3 : (Option.bind (some t1) OD.frzC) = (Option.bind (some (oLL v)) OD.frzC) := by
      rw [et1]
      show some (OD.frz _) = some (OD.frz _)
      unfold OD.frz
      congr 2
      show _ = (oLL v).data
      rw [oLL_data]
      simp only [OD.data]
      have e4 : OD.datas ((v.map oL).set k (.la b us)) = v.map enc := by
        have e5 : OD.datas ((v.map oL).set k (.la b us)) = ((v.map oL).set k (.la b us)).map OD.data := datas_map _
        rw [e5, List.map_set, edata v[k], List.map_map]
        have e6 : (v.map (OD.data ∘ oL)) = v.map enc := List.map_congr_left fun x _ => oL_data x
        rw [e6]
        apply List.ext_getElem?
        intro n
        by_cases z : k = n
        · subst z
          rw [List.getElem?_set_self (by rw [List.length_map]; exact hk), List.getElem?_map, List.getElem?_eq_getElem hk]
          rfl
        · rw [List.getElem?_set_ne z]
      rw [e4]
      rfl
    rw [e3]
    apply List.ext_getElem?
    intro n
    by_cases z : i = n
    · subst z
      rw [List.getElem?_set_self (by rw [List.length_map]; exact il), List.getElem?_map, h]
      rfl
    · rw [List.getElem?_set_ne z]
  have hr1 : ρ1[r]? = some (some (.at b)) := List.getElem?_set_self (by rw [List.length_set]; exact hrl)
  have hi1 : ρ1[i]? = some (some t1) := by
    show ((ρ.set i (some t1)).set r (some (.at b)))[i]? = _
    rw [List.getElem?_set_ne (Ne.symm hir), List.getElem?_set_self il]
  have hat : t1.isAt = false := by rw [et1]; rfl
  have ew' : Eo C sc e ρ1 (F w) := Eo.borrowA i r [k] hi1 hat g1 hr1 (by rw [fa]; exact ew) hf
  have ej' : Eo C sc je ρ1 (F j) := Eo.borrowA i r [k] hi1 hat g1 hr1 (by rw [fa]; exact ej) rfl
  have hj' : ixN us.length j = some ((ixN v[k].length j).getD 0) := by
    show ixN (v[k].map _).length j = _
    rw [List.length_map]
    exact ixN_some hj
  refine Ss.cons (Sx.storeA i r [k] hi1 hat g1 hr1 ew' ej' hj' hN2 hv2 hd2 hcd2 hs hw h1' has) ?_
  let us2 : List OD := us.set ((ixN v[k].length j).getD 0) (F w)
  have eus2 : us2 = (setI v[k] j w).map fun x => OD.fz (enc x) := by
    show (v[k].map _).set _ _ = _
    unfold setI
    rw [List.map_set]
  let t2 : OD := t1.st [k] (.la b us2)
  have et2 : t2 = .ls ((v.map oL).set k (.la b us2)) := by
    show t1.st [k] (.la b us2) = _
    rw [et1]
    simp only [OD.st, OD.kids, OD.withKids]
    rw [List.getElem?_set_self hkm]
    simp only [List.set_set]
  have g2 : t2.gt [k] = some (.la b us2) := by
    rw [et2]
    simp only [OD.gt, OD.kids]
    rw [List.getElem?_set_self hkm]
  have hat2 : t2.isAt = false := by rw [et2]; rfl
  have il1 : i < ρ1.length := (List.getElem?_eq_some_iff.mp hi1).1
  refine Ss.freezeA i r [k] (t := t2) (List.getElem?_set_self il1) hat2 g2 (by rw [List.getElem?_set_ne hir]; exact hr1) ?_
  have z1 : setI v (k : Int) (setI v[k] j w) = v.set k (setI v[k] j w) := setI_nat _ (by omega) (by omega)
  have q := hr _ _ rfl rfl
  rw [getI_nat hk] at q ⊢
  have y1 : getI (setI v (k : Int) (setI v[k] j w)) (k : Int) = setI v[k] j w := by
    rw [z1, getI_nat (by rw [List.length_set]; exact hk), List.getElem_set_self]
  rw [y1] at q
  have d2 : OD.fz t2.data = F (setI v (k : Int) (setI v[k] j w)) := by
    rw [et2, z1]
    simp only [OD.data]
    have e5 : OD.datas ((v.map oL).set k (.la b us2)) = ((v.map oL).set k (.la b us2)).map OD.data := datas_map _
    rw [e5, List.map_set, eus2, edata, List.map_map]
    have e6 : (v.map (OD.data ∘ oL)) = v.map enc := List.map_congr_left fun x _ => oL_data x
    rw [e6, ← List.map_set]
    rfl
  have d3 : OD.fz (.list (OD.datas us2)) = F (setI v[k] j w) := by
    have := edata (setI v[k] j w)
    simp only [OD.data] at this
    rw [eus2, this]
  rw [d2, d3]
  have e9 : ((ρ1.set i (some t2)).set i (some (F (setI v (k : Int) (setI v[k] j w))))).set r (some (F (setI v[k] j w))) = (ρ.set i (some (F (setI v (k : Int) (setI v[k] j w))))).set r (some (F (setI v[k] j w))) := by
    show ((((ρ.set i (some t1)).set r (some (.at b))).set i (some t2)).set i _).set r _ = _
    rw [List.set_set, List.set_comm _ _ (Ne.symm hir), List.set_set, List.set_set]
  rw [e9]
  show Sk C sc rest [] _ (f (B _ (getI _ _)))
  rw [y1]
  exact q
end
end NW
namespace NW
open PySem PySem.Spec L2
open PyProof.Rows hiding St
open Enc (enc)
/-! ### how long a repr is -/
def ShowN (d : PyData) (n : Nat) : Prop := d.showable = true ∧ d.shown.length ≤ n
theorem ShowN.mono {d : PyData} {m n : Nat} (h : ShowN d m) (l : m ≤ n) : ShowN d n := ⟨h.1, Nat.le_trans h.2 l⟩
theorem ShowN.int {i : Int} {k : Nat} (hk : 0 < k) (hk2 : k ≤ 480) (h0 : 0 ≤ i) (h : i < 10 ^ k) : ShowN (.int i) k := by
  obtain ⟨m, rfl⟩ := Int.eq_ofNat_of_zero_le h0
  have hm : m < 10 ^ k := by exact_mod_cast h
  refine ⟨?_, ?_⟩
  · simp only [PyData.showable, decide_eq_true_eq, Int.natAbs_natCast]
    by_cases z : m = 0
    · subst z; decide
    · rw [Nat.log2_lt z]
      refine Nat.lt_of_lt_of_le hm ?_
      calc 10 ^ k ≤ (2 ^ 4) ^ k := Nat.pow_le_pow_left (by decide) k
        _ = 2 ^ (4 * k) := by rw [Nat.pow_mul]
        _ ≤ 2 ^ 1920 := Nat.pow_le_pow_right (by decide) (by omega)
  · simp only [PyData.shown]
    show (Str.ofString (toString (m : Int))).length ≤ k
    rw [PySem.ofString_length]
    exact (Nat.length_repr_le_iff hk).mpr hm
theorem textFrom_up {m : Nat} : ∀ (ts : List Str) (k : Nat) (acc : Str), (∀ t ∈ ts, t.length ≤ m) → (textFrom k acc ts).length ≤ acc.length + ts.length * (m + 2)
  | [], k, acc, _ => by show acc.length ≤ _; omega
  | t :: r, k, acc, h => by
    have ih := textFrom_up r (k + 1) (acc ++ (if k > 0 then ", " else "" : String) ++ t) (fun u hu => h u (List.mem_cons_of_mem _ hu))
    have e : (acc ++ (if k > 0 then ", " else "" : String) ++ t).length = acc.length + (if k > 0 then 2 else 0) + t.length := by
      rw [strLen_append, strLen_append]
      split <;> rfl
    rw [e] at ih
    have h1 := h t List.mem_cons_self
    show (textFrom (k + 1) _ r).length ≤ _
    have h2 : (if k > 0 then 2 else 0 : Nat) ≤ 2 := by split <;> omega
    rw [List.length_cons, Nat.succ_mul]
    omega
theorem shownAll_len : ∀ ds : List PyData, (PyData.shownAll ds).length = ds.length
  | [] => by simp [PyData.shownAll]
  | d :: ds => by simp [PyData.shownAll, shownAll_len ds]
theorem shownAll_all {m : Nat} : ∀ {ds : List PyData}, (∀ d ∈ ds, ShowN d m) → ∀ t ∈ PyData.shownAll ds, t.length ≤ m
  | [], _, t, h => by simp [PyData.shownAll] at h
  | d :: ds, h, t, ht => by
    simp only [PyData.shownAll, List.mem_cons] at ht
    rcases ht with rfl | ht
    · exact (h d List.mem_cons_self).2
    · exact shownAll_all (fun e he => h e (List.mem_cons_of_mem _ he)) t ht
theorem showableAll_all {m : Nat} : ∀ {ds : List PyData}, (∀ d ∈ ds, ShowN d m) → PyData.showableAll ds = true
  | [], _ => by simp [PyData.showableAll]
  | d :: ds, h => by
    simp only [PyData.showableAll, Bool.and_eq_true]
    exact ⟨(h d List.mem_cons_self).1, showableAll_all fun e he => h e (List.mem_cons_of_mem _ he)⟩
theorem ShowN.list {ds : List PyData} {m : Nat} (h : ∀ d ∈ ds, ShowN d m) : ShowN (.list ds) (2 + ds.length * (m + 2)) := by
  refine ⟨by simp only [PyData.showable]; exact showableAll_all h, ?_⟩
  simp only [PyData.shown]
  unfold listText
  rw [strLen_append]
  have := textFrom_up (m := m) (PyData.shownAll ds) 0 ("[" : Str) (shownAll_all h)
  rw [shownAll_len] at this
  have e1 : ("[" : Str).length = 1 := rfl
  have e2 : ("]" : Str).length = 1 := rfl
  omega
theorem ShowN.listE {α : Type} [Enc α] {xs : List α} {m n : Nat} (h : ∀ x ∈ xs, ShowN (enc x) m) (hn : xs.length ≤ n) : ShowN (enc xs) (2 + n * (m + 2)) := by
  have q : ShowN (.list (xs.map enc)) (2 + (xs.map enc).length * (m + 2)) := ShowN.list fun d hd => by
    obtain ⟨x, hx, rfl⟩ := List.mem_map.mp hd
    exact h x hx
  refine ShowN.mono q ?_
  rw [List.length_map]
  have := Nat.mul_le_mul_right (m + 2) hn
  omega
/-! ### what _law_same answers of typed data -/
class EncSame (α : Type) [Enc α] [DecidableEq α] where
  dp : Nat
  eq : ∀ a b : α, sameD (enc a) (enc b) = decide (a = b)
  nd : ∀ a : α, (enc a).hasDict = false
  depth : ∀ a : α, (enc a).depth ≤ dp
instance : EncSame Int := ⟨0, fun a b => by simp [enc, sameD], fun _ => by simp [enc, PyData.hasDict], fun _ => by simp [enc, PyData.depth]⟩
instance : EncSame Bool := ⟨0, fun a b => by simp [enc, sameD], fun _ => by simp [enc, PyData.hasDict], fun _ => by simp [enc, PyData.depth]⟩
instance : EncSame Str := ⟨0, fun a b => by simp [enc, sameD], fun _ => by simp [enc, PyData.hasDict], fun _ => by simp [enc, PyData.depth]⟩
instance : EncSame Unit := ⟨0, fun a b => by simp [enc, sameD], fun _ => by simp [enc, PyData.hasDict], fun _ => by simp [enc, PyData.depth]⟩
theorem sameAll_enc {α : Type} [Enc α] [DecidableEq α] [EncSame α] : ∀ xs ys : List α, sameAll (xs.map enc) (ys.map enc) = decide (xs = ys)
  | [], [] => by simp [sameAll]
  | [], _ :: _ => by simp [sameAll]
  | _ :: _, [] => by simp [sameAll]
  | x :: xs, y :: ys => by
    simp only [List.map_cons, sameAll]
    rw [EncSame.eq, sameAll_enc xs ys]
    simp
theorem noDictAll_enc {α : Type} [Enc α] [DecidableEq α] [EncSame α] : ∀ xs : List α, PyData.hasDictAll (xs.map enc) = false
  | [] => by simp [PyData.hasDictAll]
  | x :: xs => by
    simp only [List.map_cons, PyData.hasDictAll, Bool.or_eq_false_iff]
    exact ⟨EncSame.nd x, noDictAll_enc xs⟩
theorem depthAll_same {α : Type} [Enc α] [DecidableEq α] [EncSame α] : ∀ xs : List α, PyData.depthAll (xs.map enc) ≤ EncSame.dp α
  | [] => by simp [PyData.depthAll]
  | x :: xs => by
    simp only [List.map_cons, PyData.depthAll]
    exact Nat.max_le.mpr ⟨EncSame.depth x, depthAll_same xs⟩
instance {α : Type} [Enc α] [DecidableEq α] [EncSame α] : EncSame (List α) := ⟨EncSame.dp α + 1, fun a b => by simp only [enc, sameD]; exact sameAll_enc a b, fun a => by simp only [enc, PyData.hasDict]; exact noDictAll_enc a, fun a => by simp only [enc, PyData.depth]; exact Nat.succ_le_succ (depthAll_same a)⟩
instance {α β : Type} [Enc α] [DecidableEq α] [EncSame α] [Enc β] [DecidableEq β] [EncSame β] : EncSame (α × β) := ⟨max (EncSame.dp α) (EncSame.dp β) + 1, fun a b => by
  obtain ⟨a1, a2⟩ := a
  obtain ⟨b1, b2⟩ := b
  simp only [enc, sameD, sameAll, Bool.and_true]
  rw [show sameD (Enc.enc a1) (Enc.enc b1) = _ from EncSame.eq a1 b1, show sameD (Enc.enc a2) (Enc.enc b2) = _ from EncSame.eq a2 b2]
  simp [Prod.ext_iff], fun a => by
  obtain ⟨a1, a2⟩ := a
  simp only [enc, PyData.hasDict, PyData.hasDictAll, Bool.or_eq_false_iff]
  exact ⟨EncSame.nd a1, EncSame.nd a2, trivial⟩, fun a => by
  obtain ⟨a1, a2⟩ := a
  have h1 := EncSame.depth a1
  have h2 := EncSame.depth a2
  simp only [enc, PyData.depth, PyData.depthAll]
  omega⟩
theorem sameD_non {α : Type} [Enc α] [NonNone α] (a : α) : sameD (enc a) .none = false ∧ sameD .none (enc a) = false := by
  have h := NonNone.nn a
  revert h
  generalize enc a = d
  cases d <;> simp [NW.isNon, sameD]
instance {α : Type} [Enc α] [DecidableEq α] [EncSame α] [NonNone α] : EncSame (Option α) := ⟨EncSame.dp α, fun a b => by
  cases a with
  | none =>
    cases b with
    | none => simp [enc, encOpt, sameD]
    | some y => exact (sameD_non y).2.trans (by simp)
  | some x =>
    cases b with
    | none => exact (sameD_non x).1.trans (by simp)
    | some y => exact (EncSame.eq x y).trans (by simp), fun a => by
  cases a with
  | none => simp [enc, encOpt, PyData.hasDict]
  | some x => exact EncSame.nd x, fun a => by
  cases a with
  | none => simp [enc, encOpt, PyData.depth]
  | some x => exact EncSame.depth x⟩
theorem R_same.t {α : Type} [Enc α] [DecidableEq α] [EncSame α] {n : Nat} (a b : α) (h : EncSame.dp α ≤ n := by decide) : R_same n [enc a, enc b] (F (decide (a = b))) :=
  ⟨enc a, enc b, rfl, Nat.le_trans (EncSame.depth b) h, EncSame.nd b, by rw [EncSame.eq]⟩
theorem shows_of {α : Type} [Enc α] [DecidableEq α] [EncSame α] {a : α} {n : Nat} (h : ShowN (enc a) n) (hn : n ≤ 16777216) (hs : scalarD (enc a) = false := by rfl) (hd : EncSame.dp α ≤ 60 := by decide) : Shows (enc a) :=
  ⟨hs, h.1, EncSame.nd a, Nat.le_trans (EncSame.depth a) hd, by rw [sizeLine_eq]; exact Nat.le_trans h.2 hn⟩
end NW
namespace NW
open PySem PySem.Spec L2
open PyProof.Rows hiding St
open Enc (enc)
/-! ### a pair whose first part is an owned list of owned lists -/
def tD {α β : Type} [Enc α] [Enc β] (p : List (List α) × β) : OD := .tp [oLL p.1, F p.2]
section
variable {C : Cn} {sc : Scp} {ρ : Rho} {e e2 a b c ix pe je tg iter elt : Expr} {es : List Expr} {st : Stmt} {rest body : List Stmt} {ks : List (List Stmt)} {pos pos' ppos ipos pos2 qpos p : Pos} {o : Out} {x y : Str} {α β δ ε : Type} [Enc α] [Enc β] {t : OD} {kk : Nat}
/-- return (x, e): what x owns goes with it -/
theorem Sx.retPair (i : Nat) {d : PyData} (h : ρ[i]? = some (some t)) (ha : t.isAt = false) (he : Eo C sc e ρ (.fz d)) (hN : C.N[i]? = some x := by rfl) (hv : Vis sc.sc x := by first | exact Or.inl rfl | exact Or.inr (Or.inl rfl) | exact Or.inr (Or.inr rfl))
    (hd : (x == ("__debug__" : Str)) = false := by decide) (hcd : (x == ("__classdict__" : Str)) = false := by decide)
    (hs : ∀ env, starEach [.Name x pos', e] env = (false, eval (.Name x pos') env) :: starEach [e] env := by intro _; rfl) (hs2 : ∀ env, starEach [e] env = (false, eval e env) :: starEach [] env := by intro _; rfl) :
    Sx C sc (.Return (some (.Tuple [.Name x pos', e] kk ppos)) pos) ρ (.rt (.tp [t, .fz d])) := fun X F po G0 H0 σ G H D E P => by
  obtain ⟨ow0', _, h2⟩ := E.own
  obtain ⟨v0, q0, _⟩ := h2 i t h
  refine toS (ps_ret (pe_tup (pa_cons (pe_var (i := i) (by rw [F.N]; exact hN) (by rw [F.scq]; exact hv) hd hcd) (pa_cons pe_wp pa_nil (hs2 _)) (hs _)))) ?_
  refine ⟨v0, q0, he X F σ G H _ E.sl fun v1 G1 H1 ow1 s1 n1 o1 => ?_⟩
  have E1 := E.step s1
  obtain ⟨v, ow, r1, r2, r3⟩ := E1.give h ha
  rw [q0] at r1
  cases r1
  refine ⟨by show 2 ≤ sizeLine; rw [sizeLine_eq]; decide, ?_⟩
  refine FinA.toAll .tup (.tp [t, .fz d]) (fun _ _ _ _ _ a b c => .tp a b c) (show Fin C.K G0 H0 _ D.rt from P) [v0, v1] G1 H1 (fun a => match ow a with | some π => some (π ++ [0]) | none => none) E1.st (fun a π q => ?_) (.cons ?_ (.cons ?_ .nil))
  · try dsimp only at q
    cases q3 : ow a with
    | none => rw [q3] at q; cases q
    | some π1 => exact r2 a π1 q3
  · refine OAt_move (· ++ [0]) (fun _ _ => rfl) (Same.refl _) (fun a π o q1 q2 => q2) (fun a π q1 => ?_) t [] v0 r3
    try dsimp only
    rw [q1]
  · cases o1 with
    | fz o1 => exact .fz o1
/-- x, y = e: what the pair owns goes to the names -/
theorem Sx.unpack2 (i j : Nat) {t1 t2 : OD} (he : Eo C sc e ρ (.tp [t1, t2])) (hi : C.N[i]? = some x := by rfl) (hx : Loc sc.sc x := by first | exact Or.inl rfl | exact Or.inr rfl) (hfn : sc.fn x = true ∨ sc.sc.names.lookup x = some .local := by first | exact Or.inl rfl | exact Or.inr rfl)
    (hi2 : C.N[j]? = some y := by rfl) (hx2 : Loc sc.sc y := by first | exact Or.inl rfl | exact Or.inr rfl) (hfn2 : sc.fn y = true ∨ sc.sc.names.lookup y = some .local := by first | exact Or.inl rfl | exact Or.inr rfl)
    (hs : ∀ env, swapsWithSole [.Tuple [.Name x pos', .Name y qpos] kk ppos] e pos.line env = pure false := by intro _; rfl) (hw : ∀ env, swappedStores [.Tuple [.Name x pos', .Name y qpos] kk ppos] e env = pure none := by intro _; rfl)
    (h1 : ∀ env, (assignEach [.Tuple [.Name x pos', .Name y qpos] kk ppos] env).map (·.2) = [assign (.Tuple [.Name x pos', .Name y qpos] kk ppos) env] := by intro _; rfl)
    (hn : ∀ env, (assignEach [.Name x pos', .Name y qpos] env).length = 2 := by intro _; rfl) (hst : ∀ env, (assignEach [.Name x pos', .Name y qpos] env).findIdx? (·.1) = none := by intro _; rfl)
    (hc1 : ∀ env, (assignEach [.Name x pos', .Name y qpos] env).map (·.2) = assign (.Name x pos') env :: (assignEach [.Name y qpos] env).map (·.2) := by intro _; rfl) (hc2 : ∀ env, (assignEach [.Name y qpos] env).map (·.2) = assign (.Name y qpos) env :: (assignEach [] env).map (·.2) := by intro _; rfl) :
    Sx C sc (.Assign [.Tuple [.Name x pos', .Name y qpos] kk ppos] e pos) ρ (.nx ((ρ.set i (some t1)).set j (some t2))) := fun X F po G0 H0 σ G H D E P => by
  refine toS (ps_asg pe_wp (pg_tup (n := 2) F.calm (pgs_cons (pg_name (i := i) F.nd (by rw [F.N]; exact hi) (by rw [F.scq]; exact hx) (hfn.imp (F.fn x) fun z => by rw [F.scq]; exact z)) (pgs_cons (pg_name (i := j) F.nd (by rw [F.N]; exact hi2) (by rw [F.scq]; exact hx2) (hfn2.imp (F.fn y) fun z => by rw [F.scq]; exact z)) pgs_nil (hc2 _)) (hc1 _)) (hn _) (hst _)) (hs _) (hw _) (h1 _)) ?_
  refine he X F σ G H _ E.sl fun v G1 H1 ow1 s n oz => ?_
  cases oz with
  | tp p1 p2 p3 =>
    rename_i a vs
    cases p3 with
    | cons u1 p3 =>
      cases p3 with
      | cons u2 p3 =>
        cases p3
        rename_i v1 v2
        refine ⟨a, [v1, v2], rfl, .inl (.inl p2), rfl, v1, [v2], rfl, v2, [], rfl, rfl, ?_⟩
        refine P _ G1 H1 ?_
        have e' := E.step s
        obtain ⟨ow, h1', h2'⟩ := E.own
        have hk := ow_keep s (fun a π q => (h1' a π q).2)
        have hcell : ∀ (j : Nat) u, ρ[j]? = some (some u) → ∃ w, σ[j]? = some (some w) ∧ Cel C.K G1 H1 ow [j] w u := fun j u q => let ⟨w, q1, q2⟩ := h2' j u q; ⟨w, q1, q2.map (·.step s)⟩
        -- the two parts
        let owA : Ow := fun a => match ow1 a with | some π => if [0] <:+ π then some π.dropLast else none | none => none
        let owB : Ow := fun a => match ow1 a with | some π => if [1] <:+ π then some π.dropLast else none | none => none
        have oA : OAt C.K G1 H1 owA [] v1 t1 := by
          refine OAt_rel (fun π π' => π = π' ++ [0]) (fun k π π' r => by rw [r]; rfl) (Same.refl _) (fun a π π' o p1 p2 p3 => ⟨p3, ?_⟩) t1 [0] [] v1 rfl u1
          show (match ow1 a with | some π => if [0] <:+ π then some π.dropLast else none | none => none) = some π'
          rw [p1]
          subst p2
          try dsimp only
          rw [if_pos (List.suffix_append _ _), List.dropLast_concat]
        have oB : OAt C.K G1 H1 owB [] v2 t2 := by
          refine OAt_rel (fun π π' => π = π' ++ [1]) (fun k π π' r => by rw [r]; rfl) (Same.refl _) (fun a π π' o p1 p2 p3 => ⟨p3, ?_⟩) t2 [1] [] v2 rfl u2
          show (match ow1 a with | some π => if [1] <:+ π then some π.dropLast else none | none => none) = some π'
          rw [p1]
          subst p2
          try dsimp only
          rw [if_pos (List.suffix_append _ _), List.dropLast_concat]
        have hA : ∀ a π, owA a = some π → ∃ π1, ow1 a = some π1 ∧ [0] <:+ π1 := fun a π q => by
          change (match ow1 a with | some π => if [0] <:+ π then some π.dropLast else none | none => none) = some π at q
          cases q1 : ow1 a with
          | none => rw [q1] at q; cases q
          | some π1 =>
            rw [q1] at q
            try dsimp only at q
            split at q
            · exact ⟨π1, rfl, by assumption⟩
            · cases q
        have hB : ∀ a π, owB a = some π → ∃ π1, ow1 a = some π1 ∧ [1] <:+ π1 := fun a π q => by
          change (match ow1 a with | some π => if [1] <:+ π then some π.dropLast else none | none => none) = some π at q
          cases q1 : ow1 a with
          | none => rw [q1] at q; cases q
          | some π1 =>
            rw [q1] at q
            try dsimp only at q
            split at q
            · exact ⟨π1, rfl, by assumption⟩
            · cases q
        have hold : ∀ a π1, ow1 a = some π1 → ow a = none := fun a π1 q => by
          cases q1 : ow a with
          | none => rfl
          | some π => exact absurd (n a π1 q).1 (h1' a π q1).2.2
        have cells1 := own_set (ow := ow) (ow1 := owA) (i := i) (Nat.le_of_eq E.len) (fun a π q => let ⟨π1, q1, _⟩ := hA a π q; hold a π1 q1) hcell oA
        have cells2 := own_set (ow1 := owB) (i := j) (by rw [List.length_set, List.length_set]; exact Nat.le_of_eq E.len) (fun a π q => by
          obtain ⟨π1, q1, q2⟩ := hB a π q
          try dsimp only
          have z : owA a = none := by
            cases z : owA a with
            | none => rfl
            | some π2 =>
              obtain ⟨π3, q3, q4⟩ := hA a π2 z
              rw [q1] at q3
              cases q3
              obtain ⟨x1, hx1⟩ := q2
              obtain ⟨y1, hy1⟩ := q4
              have e2 := congrArg List.getLast? (hx1.trans hy1.symm)
              rw [List.getLast?_append, List.getLast?_append] at e2
              simp at e2
          rw [z, hold a π1 q1]) cells1 oB
        refine ⟨e'.st, by rw [List.length_set, List.length_set, List.length_set, List.length_set]; exact E.len, _, fun a π q => ?_, cells2⟩
        try dsimp only at q
        cases q1 : owB a with
        | some π1 =>
          obtain ⟨π2, q2, _⟩ := hB a π1 q1
          obtain ⟨p1, p2, p3⟩ := n a π2 q2
          exact ⟨E.st.h.free p1, p2, p3⟩
        | none =>
          rw [q1] at q
          try dsimp only at q
          cases q3 : owA a with
          | some π1 =>
            obtain ⟨π2, q2, _⟩ := hA a π1 q3
            obtain ⟨p1, p2, p3⟩ := n a π2 q2
            exact ⟨E.st.h.free p1, p2, p3⟩
          | none =>
            rw [q3] at q
            try dsimp only at q
            cases q4 : ow a with
            | none => rw [q4] at q; cases q
            | some π2 => exact ⟨(h1' a π2 q4).1, hk a π2 q4⟩
def rtPD (v : List (List α) × β) : Out := .rt (tD v)
theorem Sk.retPD (i : Nat) {v : List (List α)} {w : β} (h : ρ[i]? = some (some (oLL v))) (he : Eo C sc e ρ (F w)) (hN : C.N[i]? = some x := by rfl) (hv : Vis sc.sc x := by first | exact Or.inl rfl | exact Or.inr (Or.inl rfl) | exact Or.inr (Or.inr rfl))
    (hd : (x == ("__debug__" : Str)) = false := by decide) (hcd : (x == ("__classdict__" : Str)) = false := by decide)
    (hs : ∀ env, starEach [.Name x pos', e] env = (false, eval (.Name x pos') env) :: starEach [e] env := by intro _; rfl) (hs2 : ∀ env, starEach [e] env = (false, eval e env) :: starEach [] env := by intro _; rfl) :
    Sk C sc (.Return (some (.Tuple [.Name x pos', e] kk ppos)) pos :: rest) ks ρ (rtPD (v, w)) := Sk.stop (Sx.retPair i h rfl he hN hv hd hcd hs hs2)
theorem Sk.setPD (f : ε → Out) (i j : Nat) {v : List (List α) × β} {B : List (List α) → β → ε} (he : Eo C sc e ρ (tD v)) (hr : ∀ z w, (z, w) = v → Sk C sc rest ks ((ρ.set i (some (oLL z))).set j (some (F w))) (f (B z w))) (hi : C.N[i]? = some x := by rfl) (hx : Loc sc.sc x := by first | exact Or.inl rfl | exact Or.inr rfl) (hfn : sc.fn x = true ∨ sc.sc.names.lookup x = some .local := by first | exact Or.inl rfl | exact Or.inr rfl)
    (hi2 : C.N[j]? = some y := by rfl) (hx2 : Loc sc.sc y := by first | exact Or.inl rfl | exact Or.inr rfl) (hfn2 : sc.fn y = true ∨ sc.sc.names.lookup y = some .local := by first | exact Or.inl rfl | exact Or.inr rfl)
    (hs : ∀ env, swapsWithSole [.Tuple [.Name x pos', .Name y qpos] kk ppos] e pos.line env = pure false := by intro _; rfl) (hw : ∀ env, swappedStores [.Tuple [.Name x pos', .Name y qpos] kk ppos] e env = pure none := by intro _; rfl)
    (h1 : ∀ env, (assignEach [.Tuple [.Name x pos', .Name y qpos] kk ppos] env).map (·.2) = [assign (.Tuple [.Name x pos', .Name y qpos] kk ppos) env] := by intro _; rfl)
    (hn : ∀ env, (assignEach [.Name x pos', .Name y qpos] env).length = 2 := by intro _; rfl) (hst : ∀ env, (assignEach [.Name x pos', .Name y qpos] env).findIdx? (·.1) = none := by intro _; rfl)
    (hc1 : ∀ env, (assignEach [.Name x pos', .Name y qpos] env).map (·.2) = assign (.Name x pos') env :: (assignEach [.Name y qpos] env).map (·.2) := by intro _; rfl) (hc2 : ∀ env, (assignEach [.Name y qpos] env).map (·.2) = assign (.Name y qpos) env :: (assignEach [] env).map (·.2) := by intro _; rfl) :
    Sk C sc (.Assign [.Tuple [.Name x pos', .Name y qpos] kk ppos] e pos :: rest) ks ρ (f (letv2 v B)) := by
  obtain ⟨v1, v2⟩ := v
  exact Sk.cons (Sx.unpack2 i j (t1 := oLL v1) (t2 := F v2) he hi hx hfn hi2 hx2 hfn2 hs hw h1 hn hst hc1 hc2) (hr v1 v2 rfl)
/-! ### another name of an inner list, for a while -/
def oLA (b : Addr) (v : List (List α)) (k : Nat) (ys : List α) : OD := .ls ((v.map oL).set k (.la b (ys.map fun x => .fz (enc x))))
section
variable {b0 : Addr} {v : List (List α)} {k : Nat} {ys : List α}
theorem oLA_gt (hk : k < v.length) : (oLA b0 v k ys).gt [k] = some (.la b0 (ys.map fun x => .fz (enc x))) := by
  unfold oLA
  simp only [OD.gt, OD.kids]
  rw [List.getElem?_set_self (by rw [List.length_map]; exact hk)]
theorem oLA_st (hk : k < v.length) (us : OD) : (oLA b0 v k ys).st [k] us = .ls ((v.map oL).set k us) := by
  unfold oLA
  simp only [OD.st, OD.kids, OD.withKids]
  rw [List.getElem?_set_self (by rw [List.length_map]; exact hk)]
  simp only [List.set_set]
theorem la_data (ys : List α) : OD.data (.la b0 (ys.map fun x => OD.fz (enc x))) = enc ys := by
  have := oL_data ys
  unfold oL at this
  simpa only [OD.data] using this
theorem oLA_data : (oLA b0 v k ys).data = enc (v.set k ys) := by
  unfold oLA
  simp only [OD.data]
  rw [datas_map, List.map_set, la_data, List.map_map]
  have e6 : (v.map (OD.data ∘ oL)) = v.map enc := List.map_congr_left fun x _ => oL_data x
  rw [e6, ← List.map_set]
  rfl
theorem oLA_ls (hk : k < v.length) : OD.ls ((v.map oL).set k (.ls (ys.map fun x => OD.fz (enc x)))) = oLL (v.set k ys) := by
  unfold oLL
  rw [List.map_set]
  rfl
/-- y = x[a] -/
theorem Sk.aliasD (i r : Nat) {xpos : Pos} (hk : k < v.length) (ea : Eo C sc pe ρ (F (k : Int))) (hr : ∀ b, Sk C sc rest [] ((ρ.set i (some (oLA b v k v[k]))).set r (some (.at b))) o)
    (h : ρ[i]? = some (some (oLL v)) := by rfl) (hN : C.N[i]? = some x := by rfl) (hv : Vis sc.sc x := by first | exact Or.inl rfl | exact Or.inr (Or.inl rfl) | exact Or.inr (Or.inr rfl))
    (hd : (x == ("__debug__" : Str)) = false := by decide) (hcd : (x == ("__classdict__" : Str)) = false := by decide)
    (hN2 : C.N[r]? = some y := by rfl) (hx2 : Loc sc.sc y := by first | exact Or.inl rfl | exact Or.inr rfl) (hpi : PlainIx pe := by exact fun _ _ => rfl)
    (hfn : sc.fn y = true ∨ sc.sc.names.lookup y = some .local := by first | exact Or.inl rfl | exact Or.inr rfl)
    (hs0 : ∀ env : PySem.Env, env.scope = sc.sc → swapsWith (.Subscript (.Name x xpos) pe ppos) (some (.Name y pos')) pos.line env = pure false := by intro env h; first | rfl | exact sw_cell (by rw [h]; rfl)) :
    Sk C sc (.Assign [.Name y pos'] (.Subscript (.Name x xpos) pe ppos) pos :: rest) [] ρ o := by
  refine Ss.alias i r [k] (us := v[k].map fun x => .fz (enc x)) h rfl (oLL_gt hk) rfl (Px.sub (p := []) (Px.name i hN hv hd hcd) ea hpi) (fun b => ?_) hN2 hx2 hfn hs0
  have e : (oLL v).st [k] (.la b (v[k].map fun x => .fz (enc x))) = oLA b v k v[k] := oLL_st hk _
  rw [e]
  exact hr b
theorem frzA (i r : Nat) (il : i < ρ.length) (h : ρ[i]? = some (some (oLA b0 v k ys))) (hk : k < v.length) : (frzAll ρ).set r (some (.fz (.list (OD.datas (ys.map fun x => OD.fz (enc x)))))) = (frzAll ρ).set r (some (F ys)) := by
  have := la_data (b0 := b0) ys
  simp only [OD.data] at this
  rw [this]
theorem Eo.borrowAD (i r : Nat) {w : OD} (v : List (List α)) (k : Nat) (ys : List α) (b0 : Addr) (hk : k < v.length) (he : Eo C sc e ((frzAll ρ).set r (some (F ys))) w) (hf : w.flat = true) (h : ρ[i]? = some (some (oLA b0 v k ys)) := by rfl) (hr : ρ[r]? = some (some (.at b0)) := by rfl) : Eo C sc e ρ w :=
  Eo.borrowA i r [k] h rfl (oLA_gt hk) hr (by rw [frzA i r (List.getElem?_eq_some_iff.mp h).1 h hk]; exact he) hf
theorem Et.borrowAD (i r : Nat) {w : Bool} (v : List (List α)) (k : Nat) (ys : List α) (b0 : Addr) (hk : k < v.length) (he : Et C sc e ((frzAll ρ).set r (some (F ys))) w) (h : ρ[i]? = some (some (oLA b0 v k ys)) := by rfl) (hr : ρ[r]? = some (some (.at b0)) := by rfl) : Et C sc e ρ w :=
  Et.borrowA i r [k] h rfl (oLA_gt hk) hr (by rw [frzA i r (List.getElem?_eq_some_iff.mp h).1 h hk]; exact he)
/-- y[j] = e -/
theorem Sk.storeAD (f : ε → Out) (i r : Nat) {j : Int} {w : α} {B : List α → ε} {v : List (List α)} {k : Nat} {ys : List α} {b0 : Addr} (hk : k < v.length) (hj : InB ys j) (ew : Eo C sc e ρ (F w)) (ej : Eo C sc je ρ (F j)) (hr' : ∀ z, z = setI ys j w → Sk C sc rest ks (ρ.set i (some (oLA b0 v k z))) (f (B z)))
    (h : ρ[i]? = some (some (oLA b0 v k ys)) := by rfl) (hr : ρ[r]? = some (some (.at b0)) := by rfl) (hN2 : C.N[r]? = some y := by rfl) (hv2 : Vis sc.sc y := by first | exact Or.inl rfl | exact Or.inr (Or.inl rfl) | exact Or.inr (Or.inr rfl))
    (hd2 : (y == ("__debug__" : Str)) = false := by decide) (hcd2 : (y == ("__classdict__" : Str)) = false := by decide)
    (hs : ∀ env, swapsWithSole [.Subscript (.Name y qpos) je ipos] e pos2.line env = pure false := by intro _; rfl) (hw : ∀ env, swappedStores [.Subscript (.Name y qpos) je ipos] e env = pure none := by intro _; rfl)
    (h1' : ∀ env, (assignEach [.Subscript (.Name y qpos) je ipos] env).map (·.2) = [assign (.Subscript (.Name y qpos) je ipos) env] := by intro _; rfl)
    (has : ∀ env v, assign (.Subscript (.Name y qpos) je ipos) env v = (do
      let ov ← holding [v] (eval (.Name y qpos) env)
      let iv ← holding [v, ov] (eval je env)
      standAt ipos
      holding [v, ov, iv] (setItem ov iv v)
      release [v, ov, iv] []) := by intro _ _; rfl) :
    Sk C sc (.Assign [.Subscript (.Name y qpos) je ipos] e pos2 :: rest) ks ρ (f (letv (setI ys j w) B)) := by
  have hj' : ixN (ys.map fun x => OD.fz (enc x)).length j = some ((ixN ys.length j).getD 0) := by
    rw [List.length_map]
    exact ixN_some hj
  have q := hr' _ rfl
  have e : (oLA b0 v k ys).st [k] (.la b0 ((ys.map fun x => OD.fz (enc x)).set ((ixN ys.length j).getD 0) (F w))) = oLA b0 v k (setI ys j w) := by
    rw [oLA_st hk]
    unfold oLA setI
    rw [List.map_set]
  rw [← e] at q
  exact Sk.cons (Sx.storeA i r [k] h rfl (oLA_gt hk) hr ew ej hj' hN2 hv2 hd2 hcd2 hs hw h1' has) q
/-- the other name is done with -/
theorem Sk.untellAD (i r : Nat) (v : List (List α)) (k : Nat) (ys : List α) (b0 : Addr) (hk : k < v.length) (q : Sk C sc rest [] ((ρ.set i (some (oLL (v.set k ys)))).set r none) o) (h : ρ[i]? = some (some (oLA b0 v k ys)) := by rfl) : Sk C sc rest [] ρ o := by
  refine Ss.untell i [k] h rfl (oLA_gt hk) ?_
  rw [oLA_st hk, oLA_ls hk]
  refine Ss.le q ⟨by rw [List.length_set], fun n t e => ?_⟩
  by_cases z : r = n
  · subst z
    by_cases hr : r < (ρ.set i (some (oLL (v.set k ys)))).length
    · rw [List.getElem?_set_self hr] at e; cases e
    · rw [List.getElem?_eq_none (by simpa using hr)] at e; cases e
  · rw [List.getElem?_set_ne z] at e
    exact e
end
/-! ### more of the built-ins -/
/-- range(i, j, c) -/
def rangeC (i c : Int) (n : Nat) : List Int := (List.range n).map fun (k : Nat) => i + k * c
theorem Eo.methI {id : String} {name : Str} {apos cpos : Pos} {r : Cx → V → List V → Hp → VK → Prop} {ds : List PyData} {d : PyData} {t : OD} (slot : Slot "list" name id) (hty : typeOf (.builtin id) = pure (.type "method_descriptor")) (hm : ∀ X, Fits C sc X → MtR X id (r X))
    (hr : ∀ X, Fits C sc X → ∀ l vs w G H Q, Same G H → SqL C.K G l vs → DpAll C.K G vs ds → Dp C.K G w d → Fin C.K G H t Q → r X (.ref l) [w] H Q) (ha : Eo C sc a ρ (.fz (.list ds))) (he : Eo C sc e ρ (.fz d))
    (hbase : ∀ env, attributeBase a name env (eval a env) = eval a env := by intro _; rfl)
    (hfew : ∀ env, ((backTo cpos (starEach [e] env)).all (fun x => !x.1) && (backToKw cpos (keywordEach [] env)).all (fun x => x.1.isSome)
      && decide (([e] : List Expr).length + ([] : List Keyword).length + (if ([] : List Keyword).isEmpty then 0 else 1) < 30)) = true := by intro _; rfl)
    (hline : (apos.endLine == cpos.line) = true := by rfl) (hs : ∀ env, starEach [e] env = (false, eval e env) :: starEach [] env := by intro _; rfl) :
    Eo C sc (.Call (.Attribute a name apos) [e] [] cpos) ρ t := fun X F σ G H Q S f => by
  refine toE (pe_bm PySem.F.plainAttrs_list slot hty (hm X F) pe_wp (pa_cons pe_wp pa_nil (hs _)) (hbase _) (hfew _) hline (hs _) rfl) ?_
  refine ha X F σ G H _ S fun v G1 H1 ow1 s1 n1 o1 => ?_
  cases o1 with
  | fz o1 =>
    obtain ⟨l, vs, rfl, q1, q2⟩ := o1.lst_eq
    refine ⟨.inl ⟨rfl, vs, by rw [F.K]; exact s1.gh.seq q1⟩, he X F σ G1 H1 _ (S.step s1) fun w G2 H2 ow2 s2 n2 o2 => ?_⟩
    cases o2 with
    | fz o2 => exact hr X F l vs w G2 H2 Q s2.gh (s2.g.seq q1) (q2.mono s2.g) o2 (f.step (s1.trans s2))
theorem walks_rangeC {K : PySem.W.Frag} {lo c : Int} {n : Nat} {G : Hp} : Walks K (Itc lo c n) ((rangeC lo c n).map PyData.int) G := by
  refine ⟨fun G2 H2 s1 s2 i d e => ?_, fun G2 H2 s1 s2 i e => ?_⟩
  · have hi : i < n := by
      have z := (List.getElem?_eq_some_iff.mp e).1
      simpa [rangeC] using z
    refine ⟨hi, fun x H3 ⟨e1, e2⟩ => ?_⟩
    subst e1 e2
    refine ⟨G2, Step.refl s2, ?_⟩
    unfold rangeC at e
    rw [List.getElem?_map, List.getElem?_map, List.getElem?_range hi] at e
    cases e
    exact .int _
  · show n ≤ i
    simpa [rangeC] using e
theorem Ei.range3 {i j c0 : Int} {n : Nat} (hm : C.mg "range" = none) (ha : Eo C sc a ρ (F i)) (hb : Eo C sc b ρ (F j)) (hc : Eo C sc c ρ (F c0)) (hR : RgC i j c0 n) (hg : sc.sc.names.lookup ("range" : Str) = some .globalImplicit := by rfl)
    (hs : ∀ env, starEach [a, b, c] env = (false, eval a env) :: starEach [b, c] env := by intro _; rfl) (hs2 : ∀ env, starEach [b, c] env = (false, eval b env) :: starEach [c] env := by intro _; rfl) (hs3 : ∀ env, starEach [c] env = (false, eval c env) :: starEach [] env := by intro _; rfl) (hpl : ∀ env, (backTo pos (starEach [b, c] env)).any (·.1) = false := by intro _; rfl) :
    Ei C sc tg (.Call (.Name "range" p) [a, b, c] [] pos) ρ ((rangeC i c0 n).map enc) := fun X F σ G H R S f =>
  toI (pi_range3 (show X.env.scope.names.lookup ("range" : Str) = _ by rw [F.scq]; exact hg) (by rw [F.mg]; exact hm) pa_wp (hs _) (hpl _)) (Ea.cons (n := 0) ha (Ea.cons hb (Ea.cons hc Ea.nil hs3) hs2) hs X F σ G H _ S fun vs G' H' ow s n' o => by
    cases o with
    | cons o1 o2 =>
      cases o2 with
      | cons o2 o3 =>
        cases o3 with
        | cons o3 o4 =>
          cases o4
          cases o1 with
          | fz o1 =>
            cases o2 with
            | fz o2 =>
              cases o3 with
              | fz o3 => exact ⟨i, j, c0, n, by rw [o1.int_eq, o2.int_eq, o3.int_eq], hR, f _ G' H' s walks_rangeC⟩)
def cntUp (i j c : Int) : Nat := if i < j then ((j - i - 1) / c + 1).toNat else 0
theorem RgC.up {i j c0 : Int} (h : 0 < c0) (h2 : c0 < 1073741824) (hi : -(2 ^ 61) ≤ i) (hi2 : i < 2 ^ 61) (hj : -(2 ^ 61) ≤ j) (hj2 : j < 2 ^ 61) : RgC i j c0 (cntUp i j c0) := by
  have hq : i < j → 0 ≤ (j - i - 1) / c0 ∧ (j - i - 1) / c0 ≤ j - i - 1 ∧ (j - i - 1) / c0 * c0 ≤ j - i - 1 := fun hl => by
    have h3 := Int.ediv_nonneg (a := j - i - 1) (b := c0) (by omega) (by omega)
    have h4 := Int.ediv_le_self c0 (show (0 : Int) ≤ j - i - 1 by omega)
    exact ⟨h3, h4, Int.ediv_mul_le _ (by omega)⟩
  have hs : Builtin.Range.rangeSize i j c0 = (cntUp i j c0 : Nat) := by
    unfold Builtin.Range.rangeSize cntUp
    rw [if_pos (show c0 > 0 by omega)]
    by_cases hl : i < j
    · rw [if_pos hl, if_pos hl]
      have := hq hl
      omega
    · rw [if_neg hl, if_neg hl]; rfl
  refine ⟨by omega, by omega, ?_, hs⟩
  unfold Builtin.Range.small
  rw [hs]
  simp only [Builtin.Range.rangeFitsLong, Bool.and_eq_true, Bool.or_eq_true, decide_eq_true_eq, beq_iff_eq]
  have hc : (cntUp i j c0 : Int) ≤ 2 ^ 62 + 1 := by
    unfold cntUp
    split
    · rename_i hl
      have := hq hl
      omega
    · decide
  refine ⟨⟨⟨⟨⟨by omega, by omega⟩, by omega, by omega⟩, by omega, by omega⟩, by omega, by omega⟩, .inr ?_⟩
  rw [if_pos (show c0 > 0 by omega)]
  simp only [Bool.and_eq_true, decide_eq_true_eq]
  omega
theorem dp_strs {K : PySem.W.Frag} {G : Hp} : ∀ {xs : List Str} {vs : List V}, DpAll K G vs (xs.map enc) → vs = xs.map V.str
  | [], _, h => by cases h; rfl
  | x :: xs, _, h => by
    cases h with
    | cons h1 h2 => rw [h1.str_eq, dp_strs h2]; rfl
/-- xs.index(x) of texts -/
theorem Eo.indexS {apos cpos : Pos} {xs : List Str} {z : Str} (hz : z ∈ xs) (ha : Eo C sc a ρ (F xs)) (he : Eo C sc e ρ (F z)) (hbase : ∀ env, attributeBase a "index" env (eval a env) = eval a env := by intro _; rfl)
    (hfew : ∀ env, ((backTo cpos (starEach [e] env)).all (fun x => !x.1) && (backToKw cpos (keywordEach [] env)).all (fun x => x.1.isSome)
      && decide (([e] : List Expr).length + ([] : List Keyword).length + (if ([] : List Keyword).isEmpty then 0 else 1) < 30)) = true := by intro _; rfl)
    (hline : (apos.endLine == cpos.line) = true := by rfl) (hs : ∀ env, starEach [e] env = (false, eval e env) :: starEach [] env := by intro _; rfl) :
    Eo C sc (.Call (.Attribute a "index" apos) [e] [] cpos) ρ (F ((xs.idxOf z : Nat) : Int)) := by
  refine Eo.methI PySem.F.slot_list_index PySem.F.type_list_index (fun X F => mt_index) (fun X F l vs w G H Q s h1 h2 h3 f => ?_) ha he hbase hfew hline hs
  have e1 := dp_strs h2
  subst e1
  have e2 := h3.str_eq
  subst e2
  refine ⟨l, xs.map V.str, .str z, xs.idxOf z, .str z, rfl, rfl, ?_, rfl, ?_, ?_, by simp [eqV], fun m z' hm hz' => ?_, f.fz s (.int _)⟩
  · rw [F.K]; exact s.seq h1
  · rw [List.all_map]
    exact List.all_eq_true.mpr fun x _ => rfl
  · rw [List.getElem?_map, List.getElem?_eq_getElem (List.idxOf_lt_length_iff.mpr hz), List.getElem_idxOf]
    rfl
  · rw [List.getElem?_map] at hz'
    cases q : xs[m]? with
    | none => rw [q] at hz'; cases hz'
    | some u =>
      rw [q] at hz'
      cases hz'
      have h4 := (List.getElem?_eq_some_iff.mp q)
      obtain ⟨h4, h5⟩ := h4
      unfold List.idxOf at hm
      have := List.not_of_lt_findIdx hm
      rw [h5] at this
      simpa [eqV] using this
/-! ### perhaps none -/
theorem enc_map_some (xs : List α) : enc (xs.map some) = enc xs := by
  show PyData.list ((xs.map some).map enc) = .list (xs.map enc)
  rw [List.map_map]
  rfl
theorem enc_getD {o : Option α} {d : α} (h : o.isSome = true) : enc (o.getD d) = enc o := by
  cases o with
  | none => cases h
  | some x => rfl
/-- d if x is None else x -/
theorem Eo.orElse [NonNone α] {a2 : Expr} {u : Option α} {d : α} (hx : Eo C sc a ρ (F u)) (hn : Eo C sc b ρ (F ())) (hd : Eo C sc e ρ (F d)) (hx2 : Eo C sc a2 ρ (F u)) : Eo C sc (.IfExp (.Compare a [.Is] [b] pos) e a2 ppos) ρ (F (u.getD d)) :=
  (Eo.ifE (Et.isNO hx hn) (fun _ => hd) (fun _ => hx2)).cast (by cases u <;> rfl)
/-- a slot's content by another name -/
theorem Sk.re (i : Nat) {t u : OD} (e : t = u) (q : Sk C sc rest ks (ρ.set i (some u)) o) (h : ρ[i]? = some (some t) := by rfl) : Sk C sc rest ks ρ o := by
  subst e
  have e1 : ρ.set i (some t) = ρ := by
    apply List.ext_getElem?
    intro n
    by_cases z : i = n
    · subst z
      rw [List.getElem?_set_self (List.getElem?_eq_some_iff.mp h).1, h]
    · rw [List.getElem?_set_ne z]
  rw [e1] at q
  exact q
theorem pick_in {k : Bool} (u v : α) : InB [u, v] (if k = true then (1 : Int) else 0) := by
  unfold InB
  simp only [List.length_cons, List.length_nil]
  split <;> omega
theorem pick_eq [Inhabited α] (u : Option α) (d : α) : F (getI [u, some d] (if u.isNone = true then (1 : Int) else 0)) = F (u.getD d) := by cases u <;> rfl
/-- y = x[a], with a mirror -/
theorem Sk.aliasI [Inhabited α] (f : ε → Out) (i r : Nat) {v : List (List α)} {a : Int} {B : List α → ε} {xpos : Pos} (ha : 0 ≤ a ∧ a < v.length) (ea : Eo C sc pe ρ (F a)) (hr : ∀ b z, z = getI v a → Sk C sc rest [] ((ρ.set i (some (oLA b v a.toNat z))).set r (some (.at b))) (f (B z)))
    (h : ρ[i]? = some (some (oLL v)) := by rfl) (hN : C.N[i]? = some x := by rfl) (hv : Vis sc.sc x := by first | exact Or.inl rfl | exact Or.inr (Or.inl rfl) | exact Or.inr (Or.inr rfl))
    (hd : (x == ("__debug__" : Str)) = false := by decide) (hcd : (x == ("__classdict__" : Str)) = false := by decide)
    (hN2 : C.N[r]? = some y := by rfl) (hx2 : Loc sc.sc y := by first | exact Or.inl rfl | exact Or.inr rfl) (hpi : PlainIx pe := by exact fun _ _ => rfl)
    (hfn : sc.fn y = true ∨ sc.sc.names.lookup y = some .local := by first | exact Or.inl rfl | exact Or.inr rfl)
    (hs0 : ∀ env : PySem.Env, env.scope = sc.sc → swapsWith (.Subscript (.Name x xpos) pe ppos) (some (.Name y pos')) pos.line env = pure false := by intro env h; first | rfl | exact sw_cell (by rw [h]; rfl)) :
    Sk C sc (.Assign [.Name y pos'] (.Subscript (.Name x xpos) pe ppos) pos :: rest) [] ρ (f (letv (getI v a) B)) := by
  obtain ⟨k, rfl⟩ : ∃ k : Nat, a = (k : Int) := ⟨a.toNat, by omega⟩
  have hk : k < v.length := by omega
  refine Sk.aliasD i r hk ea (fun b => ?_) h hN hv hd hcd hN2 hx2 hpi hfn hs0
  have q := hr b _ (getI_nat hk).symm
  show Sk C sc rest [] _ (f (B (getI v (k : Int))))
  rw [getI_nat hk]
  rw [Int.toNat_natCast] at q
  exact q
/-- x[j] = e, x an owned list -/
theorem Sk.storeO (f : ε → Out) (i : Nat) {j : Int} {w : α} {B : List α → ε} {v : List α} (hj : InB v j) (ew : Eo C sc e ρ (F w)) (ej : Eo C sc je ρ (F j)) (hr : ∀ z, z = setI v j w → Sk C sc rest ks (ρ.set i (some (oL z))) (f (B z)))
    (h : ρ[i]? = some (some (oL v)) := by rfl) (hN2 : C.N[i]? = some y := by rfl) (hv2 : Vis sc.sc y := by first | exact Or.inl rfl | exact Or.inr (Or.inl rfl) | exact Or.inr (Or.inr rfl))
    (hd2 : (y == ("__debug__" : Str)) = false := by decide) (hcd2 : (y == ("__classdict__" : Str)) = false := by decide)
    (hs : ∀ env, swapsWithSole [.Subscript (.Name y qpos) je ipos] e pos2.line env = pure false := by intro _; rfl) (hw : ∀ env, swappedStores [.Subscript (.Name y qpos) je ipos] e env = pure none := by intro _; rfl)
    (h1' : ∀ env, (assignEach [.Subscript (.Name y qpos) je ipos] env).map (·.2) = [assign (.Subscript (.Name y qpos) je ipos) env] := by intro _; rfl)
    (has : ∀ env v, assign (.Subscript (.Name y qpos) je ipos) env v = (do
      let ov ← holding [v] (eval (.Name y qpos) env)
      let iv ← holding [v, ov] (eval je env)
      standAt ipos
      holding [v, ov, iv] (setItem ov iv v)
      release [v, ov, iv] []) := by intro _ _; rfl) :
    Sk C sc (.Assign [.Subscript (.Name y qpos) je ipos] e pos2 :: rest) ks ρ (f (letv (setI v j w) B)) := by
  have hj' : ixN (v.map fun x => OD.fz (enc x)).length j = some ((ixN v.length j).getD 0) := by
    rw [List.length_map]
    exact ixN_some hj
  have q := hr _ rfl
  have e1 : oL (setI v j w) = ((oL v).st [] ((oL v).withKids ((v.map fun x => OD.fz (enc x)).set ((ixN v.length j).getD 0) (F w)))) := by
    unfold oL setI
    rw [List.map_set]
    rfl
  rw [e1] at q
  exact Sk.cons (Sx.storeP i [] h rfl rfl rfl (Px.name i hN2 hv2 hd2 hcd2) ew ej hj' hs hw h1' has) q
/-- lists of texts -/
theorem eqv_strs : ∀ xs ys : List Str, PyData.eqv (enc xs) (enc ys) = decide (xs = ys) := by
  have h : ∀ xs ys : List Str, PyData.eqvAll (xs.map enc) (ys.map enc) = decide (xs = ys) := by
    intro xs
    induction xs with
    | nil => intro ys; cases ys <;> simp [PyData.eqvAll]
    | cons x xs ih =>
      intro ys
      cases ys with
      | nil => simp [PyData.eqvAll]
      | cons y ys =>
        simp only [List.map_cons, PyData.eqvAll]
        rw [ih]
        simp [enc, PyData.eqv, Bool.beq_eq_decide_eq]
  intro xs ys
  simp only [enc, PyData.eqv]
  exact h xs ys
theorem shaped_strs {xs : List Str} (h : ∀ x ∈ xs, (PyData.str x).canLay0 = true) : SeqAt.shaped (enc xs) = true := by
  have h1 : ∀ xs : List Str, (∀ x ∈ xs, (PyData.str x).canLay0 = true) → PyData.canLayAll0 (xs.map enc) = true := by
    intro xs
    induction xs with
    | nil => intro _; simp [PyData.canLayAll0]
    | cons x xs ih =>
      intro h
      simp only [List.map_cons, PyData.canLayAll0, Bool.and_eq_true]
      exact ⟨h x List.mem_cons_self, ih fun y hy => h y (List.mem_cons_of_mem _ hy)⟩
  have h2 : ∀ xs : List Str, PyData.depthAll (xs.map enc) = 0 := by
    intro xs
    induction xs with
    | nil => simp [PyData.depthAll]
    | cons x xs ih => simp only [List.map_cons, PyData.depthAll, ih]; simp [enc, PyData.depth]
  unfold SeqAt.shaped
  rw [Bool.and_eq_true]
  refine ⟨h1 xs h, ?_⟩
  refine decide_eq_true ?_
  have : (enc xs).depth = PyData.depthAll (xs.map enc) + 1 := by
    show (PyData.list (xs.map enc)).depth = _
    simp only [PyData.depth]
  rw [this, h2]
  decide
theorem Eo.eqLS {xs ys : List Str} (ha : Eo C sc a ρ (F xs)) (hb : Eo C sc b ρ (F ys)) (hx : ∀ x ∈ xs, (PyData.str x).canLay0 = true) (hy : ∀ x ∈ ys, (PyData.str x).canLay0 = true) : Eo C sc (.Compare a [.Eq] [b] pos) ρ (F (decide (xs = ys))) := (Eo.eqD ha hb (shaped_strs hx) (shaped_strs hy)).cast (by rw [eqv_strs]; rfl)
theorem Et.eqLS {xs ys : List Str} (ha : Eo C sc a ρ (F xs)) (hb : Eo C sc b ρ (F ys)) (hx : ∀ x ∈ xs, (PyData.str x).canLay0 = true) (hy : ∀ x ∈ ys, (PyData.str x).canLay0 = true) : Et C sc (.Compare a [.Eq] [b] pos) ρ (decide (xs = ys)) := (Et.eqD ha hb (shaped_strs hx) (shaped_strs hy)).cast (eqv_strs xs ys)
theorem Et.neLS {xs ys : List Str} (ha : Eo C sc a ρ (F xs)) (hb : Eo C sc b ρ (F ys)) (hx : ∀ x ∈ xs, (PyData.str x).canLay0 = true) (hy : ∀ x ∈ ys, (PyData.str x).canLay0 = true) : Et C sc (.Compare a [.NotEq] [b] pos) ρ (!decide (xs = ys)) := (Et.neD ha hb (shaped_strs hx) (shaped_strs hy)).cast (by rw [eqv_strs])
/-- a whole number of the module -/
theorem Eo.globI {i : Int} (hm : ∃ u, C.mg x = some u ∧ RelV (.int i) u) (hg : sc.sc.names.lookup x = some .globalImplicit := by rfl) (hd : (x == ("__debug__" : Str)) = false := by decide) : Eo C sc (.Name x pos) ρ (F i) := by
  obtain ⟨u, h1, h2⟩ := hm
  exact fun X F σ G H Q S f => toE (pe_glob (v := .int i) (show X.env.scope.names.lookup x = _ by rw [F.scq]; exact hg) (by rw [F.mg]; exact h1) h2 hd) (f.fz S.gh (.int i))
theorem foldl_inv {γ : Type} {f : δ → γ → δ} {Iv : Nat → δ → Prop} : ∀ (xs : List γ) (n : Nat) (s0 : δ), Iv n s0 → (∀ i s x, xs[i]? = some x → Iv (n + i) s → Iv (n + i + 1) (f s x)) → Iv (n + xs.length) (xs.foldl f s0)
  | [], n, s0, h0, _ => h0
  | x :: xs, n, s0, h0, h => by
    have h1 := h 0 s0 x rfl h0
    have := foldl_inv xs (n + 1) (f s0 x) h1 fun i s y hy iv => by
      have e : n + 1 + i = n + (i + 1) := by omega
      rw [e] at iv ⊢
      exact h (i + 1) s y hy iv
    rw [List.foldl_cons, List.length_cons]
    have e : n + (xs.length + 1) = n + 1 + xs.length := by omega
    rw [e]
    exact this
/-- a for whose turns only pass on a state; what holds at the end -/
theorem Sk.forI {γ : Type} (f : ε → Out) (xs : List γ) (en : γ → PyData) (step : δ → γ → δ) (s0 : δ) (R : δ → Rho) {B : δ → ε} (Iv : Nat → δ → Prop) (hi : Ei C sc tg iter ρ (xs.map en)) (h0 : Le (R s0) ρ) (i0 : Iv 0 s0)
    (hs : ∀ i s x, xs[i]? = some x → Iv i s → ForTurnO C sc tg body (R s) (en x) (nxR R (step s x)) ∧ Iv (i + 1) (step s x)) (hr : ∀ z, z = xs.foldl step s0 → Iv xs.length z → Sk C sc rest ks (R z) (f (B z)))
    (hfs : ∀ env x, foldedSetIterable iter env x = pure x := by intro _ _; rfl) : Sk C sc (.For tg iter body [] pos :: rest) ks ρ (f (letv (xs.foldl step s0) B)) := by
  refine Sk.step f R (Sx.forF xs en step s0 R Iv hi h0 i0 hs hfs) fun z hz => hr z hz ?_
  subst hz
  have := foldl_inv (Iv := Iv) xs 0 s0 i0 fun i s x hx iv => by
    rw [Nat.zero_add] at iv ⊢
    exact (hs i s x hx iv).2
  rwa [Nat.zero_add] at this
theorem forE_inv {β γ : Type} {f : δ → β → Fl δ γ} {Iv : Nat → δ → Prop} : ∀ (xs : List β) (n : Nat) (s0 : δ), Iv n s0 → (∀ i s x, xs[i]? = some x → Iv (n + i) s → ∀ s', f s x = .nx s' → Iv (n + i + 1) s') → ∀ z, forE f xs s0 = .nx z → Iv (n + xs.length) z
  | [], n, s0, h0, _, z, e => by cases e; exact h0
  | x :: xs, n, s0, h0, h, z, e => by
    rw [forE_cons] at e
    cases q : f s0 x with
    | nx s1 =>
      rw [q] at e
      have h1 := h 0 s0 x rfl h0 s1 q
      have := forE_inv xs (n + 1) s1 h1 (fun i s y hy iv s' hs' => by
        have e : n + 1 + i = n + (i + 1) := by omega
        rw [e] at iv ⊢
        exact h (i + 1) s y hy iv s' hs') z e
      rw [List.length_cons]
      have e : n + (xs.length + 1) = n + 1 + xs.length := by omega
      rw [e]
      exact this
    | bk s1 => rw [q] at e; cases e
    | rt r => rw [q] at e; cases e
theorem Sk.forR {β γ : Type} (f : ε → Out) (g : γ → ε) {A : δ → ε} (xs : List β) (en : β → PyData) (step : δ → β → Fl δ γ) (s0 : δ) (R : δ → Rho) {T : γ → OD} (Iv : Nat → δ → Prop) (hi : Ei C sc tg iter ρ (xs.map en)) (h0 : Le (R s0) ρ) (i0 : Iv 0 s0)
    (hs : ∀ i s x, xs[i]? = some x → Iv i s → ForTurnO C sc tg body (R s) (en x) ((step s x).body R R T) ∧ ∀ s', step s x = .nx s' → Iv (i + 1) s')
    (h1 : ∀ s, (NW.forE step xs s0 = .nx s ∨ NW.forE step xs s0 = .bk s) → (NW.forE step xs s0 = .nx s → Iv xs.length s) → Sk C sc rest ks (R s) (f (A s))) (hg : ∀ q, f (g q) = .rt (T q) := by intro _; rfl)
    (hfs : ∀ env x, foldedSetIterable iter env x = pure x := by intro _ _; rfl) : Sk C sc (.For tg iter body [] pos :: rest) ks ρ (f ((NW.forE step xs s0).out A g)) :=
  Sk.flE f g _ (Sx.forL xs en step s0 R R T Iv hi h0 i0 hs hfs) (fun s h => h1 s h fun e => by
    have := forE_inv (Iv := Iv) xs 0 s0 i0 (fun i s x hx iv s' q => by
      rw [Nat.zero_add] at iv ⊢
      exact (hs i s x hx iv).2 s' q) s e
    rwa [Nat.zero_add] at this) hg
end
end NW
namespace K60
open PySem PySem.Spec L2 NW
open PyProof.Rows hiding St
open Enc (enc)
def topS (i : Nat) : Stmt := PySem.Challenge.pw_nobodywaits_k60_whole_chances_in_auditio.main.body.getD i (.Pass ⟨0, 0, 0, 0⟩)
structure Bi (g : Pg) : Prop where
  b_sorted : g.mg "sorted" = none
  b_len : g.mg "len" = none
  b_sum : g.mg "sum" = none
  b_enumerate : g.mg "enumerate" = none
  b_range : g.mg "range" = none
  b_int : g.mg "int" = none
  b_list : g.mg "list" = none
  b_max : g.mg "max" = none
  b_min : g.mg "min" = none
  b_repr : g.mg "repr" = none
  g_MOST_MARK : ∃ u, g.mg "MOST_MARK" = some u ∧ RelV (.int 100) u
structure Sz (marks : List (List (Option Int))) : Prop where
  len : marks.length ≤ 1000
  rows : ∀ row ∈ marks, row.length ≤ 1000
/-- marks that are not there -/
def nn (row : List (Option Int)) : Nat := row.countP Option.isNone
def nns (marks : List (List (Option Int))) : Nat := (marks.map nn).sum
theorem nn_take {row : List (Option Int)} {i : Nat} {o : Option Int} (h : row[i]? = some o) : nn (row.take (i + 1)) = nn (row.take i) + (if o.isNone = true then 1 else 0) := by
  unfold nn
  rw [List.take_add_one, h, List.countP_append]
  cases o <;> rfl
theorem nn_le (row : List (Option Int)) (i : Nat) : nn (row.take i) ≤ nn row := (List.take_sublist i row).countP_le
theorem nns_take {marks : List (List (Option Int))} {i : Nat} {row : List (Option Int)} (h : marks[i]? = some row) : nns (marks.take (i + 1)) = nns (marks.take i) + nn row := by
  unfold nns
  rw [List.take_add_one, h, List.map_append, List.sum_append]
  simp
theorem nns_le : ∀ (marks : List (List (Option Int))) (i : Nat), nns (marks.take i) ≤ nns marks
  | [], i => by simp
  | r :: rs, 0 => by simp [nns]
  | r :: rs, i + 1 => by
    have := nns_le rs i
    unfold nns at this ⊢
    simp only [List.take_succ_cons, List.map_cons, List.sum_cons]
    omega
theorem enumL_get' {α : Type} {xs : List α} {i : Nat} {p : Int × α} (h : (enumL xs)[i]? = some p) : p.1 = (i : Int) ∧ xs[i]? = some p.2 := by
  have hi := (List.getElem?_eq_some_iff.mp h).1
  rw [enumL_length] at hi
  rw [enumL_get (List.getElem?_eq_getElem hi)] at h
  cases h
  exact ⟨rfl, List.getElem?_eq_getElem hi⟩
theorem unO_eq {v : List (List (Option Int))} (h : ∀ r ∈ v, ∀ o ∈ r, o.isSome = true) : F v = F (v.map (fun r => r.map (fun o => o.getD 0))) := by
  show OD.fz _ = OD.fz _
  congr 1
  show PyData.list (v.map enc) = .list ((v.map _).map enc)
  rw [List.map_map]
  congr 1
  apply List.map_congr_left
  intro r hr
  show PyData.list (r.map enc) = .list ((r.map _).map enc)
  rw [List.map_map]
  congr 1
  apply List.map_congr_left
  intro o ho
  exact (enc_getD (h r hr o ho)).symm
abbrev s_total_of : Stmt := topS 2
theorem sc_total_of : FnScope ["row", "drop"] ["row", "drop"] (defScope s_total_of) := ⟨rfl, rfl, rfl, by decide +kernel, rfl, by decide +kernel, by decide +kernel⟩
def m_total_of (row : (List Int)) (drop : Int) : Int :=
  (((cutL (isort row) (some drop) (some ((row.length : Int) - drop)))).sum)
def R_total_of : List PyData → OD → Prop := fun ds t => ∃ (row : (List Int)) (drop : Int), ds = [enc row, enc drop] ∧ (0 ≤ drop) ∧ t = F (m_total_of row drop)
theorem ss_total_of {g : Pg} {k : Nat} (hb : Bi g) : ∀ ds t, R_total_of ds t → Ss ⟨g, ["row", "drop"], k⟩ (.top (defScope s_total_of)) (defBody s_total_of) (startR ["row", "drop"] ds) (.rt t) := by
  rintro ds t ⟨row, drop, rfl, hpre, rfl⟩
  show Sk _ _ _ [] _ (rtF (m_total_of row drop))
  unfold m_total_of
  exact Sk.retF (Eo.sumL hb.b_sum (Eo.frO (Eo.sliceL (Eo.frO (Eo.sortL hb.b_sorted (Eo.v 0 (row)))) (Ep.some (Eo.v 1 (drop))) (Ep.some (Eo.sub (Eo.lenL hb.b_len (Eo.v 0 (row))) (Eo.v 1 (drop)))))))
abbrev s_totals : Stmt := topS 3
theorem sc_totals : FnScope ["marks", "drop", "row"] ["marks", "drop"] (defScope s_totals) := ⟨rfl, rfl, rfl, by decide +kernel, rfl, by decide +kernel, by decide +kernel⟩
def m_totals (marks : (List (List Int))) (drop : Int) : (List Int) :=
  (((marks).map (fun (row : (List Int)) => (m_total_of row drop))))
def R_totals : List PyData → OD → Prop := fun ds t => ∃ (marks : (List (List Int))) (drop : Int), ds = [enc marks, enc drop] ∧ (0 ≤ drop ∧ marks.length ≤ 1000) ∧ t = oL (m_totals marks drop)
structure Ds_totals (g : Pg) (k : Nat) : Prop where
  d_total_of : Def g k "total_of" R_total_of
theorem m_totals_len (marks : List (List Int)) (drop : Int) : (m_totals marks drop).length = marks.length := by unfold m_totals; simp
theorem ss_totals {g : Pg} {k : Nat} (hb : Bi g) (hd : Ds_totals g k) : ∀ ds t, R_totals ds t → Ss ⟨g, ["marks", "drop", "row"], k⟩ (.top (defScope s_totals)) (defBody s_totals) (startR ["marks", "drop", "row"] ds) (.rt t) := by
  rintro ds t ⟨marks, drop, rfl, hpre, rfl⟩
  show Sk _ _ _ [] _ (rtO (m_totals marks drop))
  unfold m_totals
  exact Sk.retO (Eo.lcL marks enc (fun (row : (List Int)) => (m_total_of row drop)) [("row", 2)] (Ei.lst (Eo.v 0 (marks))) (by simp only [rangeI_length, sizeLine_eq]; omega) (fun row hrow => LcTurn.name 2 Ets.nil (fun hc => (Eo.call hd.d_total_of (⟨row, drop, rfl, (by (repeat' apply And.intro) <;> first | assumption | omega), rfl⟩ : R_total_of _ _) (Ea.cons (Eo.v 2 (row)) (Ea.cons (Eo.v 1 (drop)) Ea.nil))))))
abbrev s_ranks : Stmt := topS 4
theorem sc_ranks : FnScope ["marks", "drop", "found", "total", "other"] ["marks", "drop"] (defScope s_ranks) := ⟨rfl, rfl, rfl, by decide +kernel, rfl, by decide +kernel, by decide +kernel⟩
def m_ranks (marks : (List (List Int))) (drop : Int) : (List Int) :=
  letv (α := (List Int)) (m_totals marks drop) fun found =>
  (((found).map (fun (total : Int) => ((1 : Int) + ((((found).filter (fun (other : Int) => (decide (other > total)))).map (fun (other : Int) => other)).length : Int)))))
def R_ranks : List PyData → OD → Prop := fun ds t => ∃ (marks : (List (List Int))) (drop : Int), ds = [enc marks, enc drop] ∧ (0 ≤ drop ∧ marks.length ≤ 1000) ∧ t = oL (m_ranks marks drop)
structure Ds_ranks (g : Pg) (k : Nat) : Prop where
  d_totals : Def g k "totals" R_totals
theorem m_ranks_len (marks : List (List Int)) (drop : Int) : (m_ranks marks drop).length = marks.length := by unfold m_ranks letv; rw [List.length_map, m_totals_len]
theorem ss_ranks {g : Pg} {k : Nat} (hb : Bi g) (hd : Ds_ranks g k) : ∀ ds t, R_ranks ds t → Ss ⟨g, ["marks", "drop", "found", "total", "other"], k⟩ (.top (defScope s_ranks)) (defBody s_ranks) (startR ["marks", "drop", "found", "total", "other"] ds) (.rt t) := by
  rintro ds t ⟨marks, drop, rfl, hpre, rfl⟩
  show Sk _ _ _ [] _ (rtO (m_ranks marks drop))
  unfold m_ranks
  refine Sk.setF (rtO (α := Int)) 2 (Eo.frO (Eo.call hd.d_totals (⟨marks, drop, rfl, (by (repeat' apply And.intro) <;> first | assumption | omega), rfl⟩ : R_totals _ _) (Ea.cons (Eo.v 0 (marks)) (Ea.cons (Eo.v 1 (drop)) Ea.nil)))) (fun found h_found => ?_)
  have hfl := m_totals_len marks drop; rw [← h_found] at hfl
  exact Sk.retO (Eo.lcL found enc (fun (total : Int) => ((1 : Int) + ((((found).filter (fun (other : Int) => (decide (other > total)))).map (fun (other : Int) => other)).length : Int))) [("total", 3)] (Ei.lst (Eo.v 2 (found))) (by simp only [rangeI_length, sizeLine_eq]; omega) (fun total htotal => LcTurn.name 3 Ets.nil (fun hc => (Eo.add Eo.I (Eo.lenL hb.b_len (Eo.frO (Eo.lcP found enc (fun (other : Int) => (decide (other > total))) (fun (other : Int) => other) [("other", 4)] (Ei.lst (Eo.v 2 (found))) (by simp only [rangeI_length, sizeLine_eq]; omega) (fun other hother => LcTurn.name 4 (Ets.one (Et.gt (Eo.v 4 (other)) (Eo.v 3 (total)))) (fun hc => (Eo.v 4 (other)))))))))))
abbrev s_filled : Stmt := topS 5
theorem sc_filled : FnScope ["marks", "player", "own", "others", "found", "k", "row", "mark", "old"] ["marks", "player", "own", "others"] (defScope s_filled) := ⟨rfl, rfl, rfl, by decide +kernel, rfl, by decide +kernel, by decide +kernel⟩
def m_filled (marks : (List (List (Option Int)))) (player : Int) (own : Int) (others : Int) : (List (List Int)) :=
  letv (α := (List (List Int))) ([] : (List (List Int))) fun found =>
  letv (α := (List (List Int))) (((enumL marks)).foldl (fun (s1 : (List (List Int))) (it_1 : (Int × (List (Option Int)))) =>
    letv (α := Int) (if (decide (it_1.1 = player)) = true then own else others) fun mark =>
      letv (α := (List (List Int))) (s1 ++ [((it_1.2).map (fun (old : (Option Int)) => (old.getD mark)))]) fun found' =>
      found') (found : (List (List Int)))) fun l1_ =>
  (l1_)
def R_filled : List PyData → OD → Prop := fun ds t => ∃ (marks : (List (List (Option Int)))) (player : Int) (own : Int) (others : Int), ds = [enc marks, enc player, enc own, enc others] ∧ (Sz marks) ∧ t = oL (m_filled marks player own others)
theorem foldl_len3 {α β : Type} (f : List α → β → List α) (h : ∀ s x, (f s x).length = s.length + 1) : ∀ (xs : List β) (s : List α), (xs.foldl f s).length = s.length + xs.length
  | [], s => rfl
  | x :: xs, s => by rw [List.foldl_cons, foldl_len3 f h xs, h, List.length_cons]; omega
theorem m_filled_len (marks : List (List (Option Int))) (player own others : Int) : (m_filled marks player own others).length = marks.length := by
  unfold m_filled letv
  rw [foldl_len3 _ (fun s x => by simp [letv]), enumL_length]
  simp
theorem ss_filled {g : Pg} {k : Nat} (hb : Bi g) : ∀ ds t, R_filled ds t → Ss ⟨g, ["marks", "player", "own", "others", "found", "k", "row", "mark", "old"], k⟩ (.top (defScope s_filled)) (defBody s_filled) (startR ["marks", "player", "own", "others", "found", "k", "row", "mark", "old"] ds) (.rt t) := by
  rintro ds t ⟨marks, player, own, others, rfl, hpre, rfl⟩
  show Sk _ _ _ [] _ (rtO (m_filled marks player own others))
  unfold m_filled
  refine Sk.setO (rtO (α := (List Int))) 4 (show Eo _ _ _ _ (oL ([] : (List (List Int)))) from Eo.lst Ea.nil) (fun found h_found => ?_)
  refine Sk.forI (rtO (α := (List Int))) (enumL marks) enc (fun (s1 : (List (List Int))) (it_1 : (Int × (List (Option Int)))) =>
    letv (α := Int) (if (decide (it_1.1 = player)) = true then own else others) fun mark =>
      letv (α := (List (List Int))) (s1 ++ [((it_1.2).map (fun (old : (Option Int)) => (old.getD mark)))]) fun found' =>
      found') (found : (List (List Int))) (fun (s1 : (List (List Int))) => ([none, some (F (player : Int)), some (F (own : Int)), some (F (others : Int)), some (oL (s1 : (List (List Int)))), none, none, none, none] : Rho)) (fun (i_1 : Nat) (s1 : (List (List Int))) => s1.length = i_1) (Ei.enumT hb.b_enumerate (Eo.v 0 (marks))) (Le.skip (Le.cons (Le.cons (Le.cons (Le.cons (Le.skip (Le.skip (Le.skip (Le.skip Le.nil))))))))) (by subst h_found; rfl) (fun i_1 s1 it_1 hx_1 iv_1 => ?_) (fun l1_ h_l1_ iv_l1_ => ?_)
  · have hz := hpre.rows _ (List.mem_of_getElem? (enumL_get' hx_1).2)
    have hi := (List.getElem?_eq_some_iff.mp hx_1).1; rw [enumL_length] at hi
    have hz2 := hpre.len
    refine ⟨ForTurn.pair 5 6 (Sk.ss ?_), by simp only [letv, List.length_append, List.length_singleton]; omega⟩
    · refine Sk.setF (nxR (fun (s1 : (List (List Int))) => ([none, some (F (player : Int)), some (F (own : Int)), some (F (others : Int)), some (oL (s1 : (List (List Int)))), none, none, none, none] : Rho))) 7 (Eo.ifF (Et.eqI (Eo.v 5 (it_1.1)) (Eo.v 1 (player))) (fun hc => (Eo.v 2 (own))) (fun hc => (Eo.v 3 (others)))) (fun mark h_mark => ?_)
      refine Sk.appO (nxR (fun (s1 : (List (List Int))) => ([none, some (F (player : Int)), some (F (own : Int)), some (F (others : Int)), some (oL (s1 : (List (List Int)))), none, none, none, none] : Rho))) 4 (v := s1) (Eo.frO (Eo.lcL it_1.2 enc (fun (old : (Option Int)) => (old.getD mark)) [("old", 8)] (Ei.lst (Eo.v 6 (it_1.2))) (by simp only [rangeI_length, sizeLine_eq]; omega) (fun old hold => LcTurn.name 8 Ets.nil (fun hc => (Eo.orElse (Eo.v 8 (old)) Eo.N (Eo.v 7 (mark)) (Eo.v 8 (old))))))) (by rw [sizeLine_eq]; omega) (fun found' h_found' => ?_)
      exact Sk.nx (Le.skip (Le.cons (Le.cons (Le.cons (Le.cons (Le.skip (Le.skip (Le.skip (Le.skip Le.nil)))))))))
  exact Sk.retV 4
abbrev s_chance_of : Stmt := topS 6
theorem sc_chance_of : FnScope ["marks", "drop", "places", "player"] ["marks", "drop", "places", "player"] (defScope s_chance_of) := ⟨rfl, rfl, rfl, by decide +kernel, rfl, by decide +kernel, by decide +kernel⟩
def m_chance_of (marks : (List (List (Option Int)))) (drop : Int) (places : Int) (player : Int) : Str :=
  if (decide ((getI (m_ranks (m_filled marks player (0 : Int) (100 : Int)) drop) player) ≤ places)) = true then
    (("in" : Str))
  else
    if (decide ((getI (m_ranks (m_filled marks player (100 : Int) (0 : Int)) drop) player) ≤ places)) = true then
      (("open" : Str))
    else
      (("out" : Str))
def R_chance_of : List PyData → OD → Prop := fun ds t => ∃ (marks : (List (List (Option Int)))) (drop : Int) (places : Int) (player : Int), ds = [enc marks, enc drop, enc places, enc player] ∧ (0 ≤ drop ∧ Sz marks ∧ 0 ≤ player ∧ player < marks.length) ∧ t = F (m_chance_of marks drop places player)
structure Ds_chance_of (g : Pg) (k : Nat) : Prop where
  d_ranks : Def g k "ranks" R_ranks
  d_filled : Def g k "filled" R_filled
theorem ss_chance_of {g : Pg} {k : Nat} (hb : Bi g) (hd : Ds_chance_of g k) : ∀ ds t, R_chance_of ds t → Ss ⟨g, ["marks", "drop", "places", "player"], k⟩ (.top (defScope s_chance_of)) (defBody s_chance_of) (startR ["marks", "drop", "places", "player"] ds) (.rt t) := by
  rintro ds t ⟨marks, drop, places, player, rfl, hpre, rfl⟩
  obtain ⟨hp1, hp2, hp3, hp4⟩ := id hpre
  have hz2 := hp2.len
  have hf1 := m_filled_len marks player 0 100
  have hf2 := m_filled_len marks player 100 0
  have hr1 := m_ranks_len (m_filled marks player 0 100) drop
  have hr2 := m_ranks_len (m_filled marks player 100 0) drop
  show Sk _ _ _ [] _ (rtF (m_chance_of marks drop places player))
  unfold m_chance_of
  refine Sk.ifT (rtF (α := Str)) (Et.lle (Eo.idx (α := Int) (Eo.frO (Eo.call hd.d_ranks (⟨(m_filled marks player (0 : Int) (100 : Int)), drop, rfl, (by (repeat' apply And.intro) <;> first | assumption | omega), rfl⟩ : R_ranks _ _) (Ea.cons (Eo.frO (Eo.call hd.d_filled (⟨marks, player, (0 : Int), (100 : Int), rfl, (by (repeat' apply And.intro) <;> first | assumption | omega), rfl⟩ : R_filled _ _) (Ea.cons (Eo.v 0 (marks)) (Ea.cons (Eo.v 3 (player)) (Ea.cons Eo.I (Ea.cons (Eo.globI hb.g_MOST_MARK) Ea.nil)))))) (Ea.cons (Eo.v 1 (drop)) Ea.nil)))) (Eo.v 3 (player)) (by unfold InB; (try simp only [List.length_cons, List.length_nil, decide_eq_true_eq] at *); omega)) (Eo.v 2 (places))) (fun hc => ?_) (fun hc => ?_)
  · exact Sk.retF Eo.S
  · refine Sk.pop ?_
    refine Sk.ifT (rtF (α := Str)) (Et.lle (Eo.idx (α := Int) (Eo.frO (Eo.call hd.d_ranks (⟨(m_filled marks player (100 : Int) (0 : Int)), drop, rfl, (by (repeat' apply And.intro) <;> first | assumption | omega), rfl⟩ : R_ranks _ _) (Ea.cons (Eo.frO (Eo.call hd.d_filled (⟨marks, player, (100 : Int), (0 : Int), rfl, (by (repeat' apply And.intro) <;> first | assumption | omega), rfl⟩ : R_filled _ _) (Ea.cons (Eo.v 0 (marks)) (Ea.cons (Eo.v 3 (player)) (Ea.cons (Eo.globI hb.g_MOST_MARK) (Ea.cons Eo.I Ea.nil)))))) (Ea.cons (Eo.v 1 (drop)) Ea.nil)))) (Eo.v 3 (player)) (by unfold InB; (try simp only [List.length_cons, List.length_nil, decide_eq_true_eq] at *); omega)) (Eo.v 2 (places))) (fun hc => ?_) (fun hc => ?_)
    · exact Sk.retF Eo.S
    · refine Sk.pop ?_
      exact Sk.retF Eo.S
abbrev s_chances : Stmt := topS 7
theorem sc_chances : FnScope ["marks", "drop", "places", "player"] ["marks", "drop", "places"] (defScope s_chances) := ⟨rfl, rfl, rfl, by decide +kernel, rfl, by decide +kernel, by decide +kernel⟩
def m_chances (marks : (List (List (Option Int)))) (drop : Int) (places : Int) : (List Str) :=
  ((((rangeI 0 ((marks.length : Int)).toNat)).map (fun (player : Int) => (m_chance_of marks drop places player))))
def R_chances : List PyData → OD → Prop := fun ds t => ∃ (marks : (List (List (Option Int)))) (drop : Int) (places : Int), ds = [enc marks, enc drop, enc places] ∧ (0 ≤ drop ∧ Sz marks) ∧ t = oL (m_chances marks drop places)
structure Ds_chances (g : Pg) (k : Nat) : Prop where
  d_chance_of : Def g k "chance_of" R_chance_of
theorem ss_chances {g : Pg} {k : Nat} (hb : Bi g) (hd : Ds_chances g k) : ∀ ds t, R_chances ds t → Ss ⟨g, ["marks", "drop", "places", "player"], k⟩ (.top (defScope s_chances)) (defBody s_chances) (startR ["marks", "drop", "places", "player"] ds) (.rt t) := by
  rintro ds t ⟨marks, drop, places, rfl, hpre, rfl⟩
  obtain ⟨hp1, hp2⟩ := id hpre
  have hz2 := hp2.len
  show Sk _ _ _ [] _ (rtO (m_chances marks drop places))
  unfold m_chances
  exact Sk.retO (Eo.lcL (rangeI 0 ((marks.length : Int)).toNat) enc (fun (player : Int) => (m_chance_of marks drop places player)) [("player", 3)] (Ei.range1 hb.b_range (Eo.lenL hb.b_len (Eo.v 0 (marks))) (by omega) (by omega)) (by simp only [rangeI_length, sizeLine_eq]; omega) (fun player hplayer => have hplayer_ := mem_rangeI.mp hplayer; LcTurn.name 3 Ets.nil (fun hc => (Eo.call hd.d_chance_of (⟨marks, drop, places, player, rfl, (by (repeat' apply And.intro) <;> first | assumption | omega), rfl⟩ : R_chance_of _ _) (Ea.cons (Eo.v 0 (marks)) (Ea.cons (Eo.v 1 (drop)) (Ea.cons (Eo.v 2 (places)) (Ea.cons (Eo.v 3 (player)) Ea.nil))))))))
abbrev s_law_cell : Stmt := topS 9
theorem sc_law_cell : FnScope ["script", "k"] ["script", "k"] (defScope s_law_cell) := ⟨rfl, rfl, rfl, by decide +kernel, rfl, by decide +kernel, by decide +kernel⟩
def m_law_cell (script : (List Int)) (k : Int) : Int :=
  if (decide (k < (script.length : Int))) = true then
    ((getI script k))
  else
    ((0 : Int))
def R_law_cell : List PyData → OD → Prop := fun ds t => ∃ (script : (List Int)) (k : Int), ds = [enc script, enc k] ∧ (0 ≤ k) ∧ t = F (m_law_cell script k)
theorem ss_law_cell {g : Pg} {k : Nat} (hb : Bi g) : ∀ ds t, R_law_cell ds t → Ss ⟨g, ["script", "k"], k⟩ (.top (defScope s_law_cell)) (defBody s_law_cell) (startR ["script", "k"] ds) (.rt t) := by
  rintro ds t ⟨script, k, rfl, hpre, rfl⟩
  show Sk _ _ _ [] _ (rtF (m_law_cell script k))
  unfold m_law_cell
  refine Sk.ifT (rtF (α := Int)) (Et.lt (Eo.v 1 (k)) (Eo.lenL hb.b_len (Eo.v 0 (script)))) (fun hc => ?_) (fun hc => ?_)
  · exact Sk.retF (Eo.intI hb.b_int (Eo.idx (α := Int) (Eo.v 0 (script)) (Eo.v 1 (k)) (by unfold InB; (try simp only [List.length_cons, List.length_nil, decide_eq_true_eq] at *); omega)))
  · refine Sk.pop ?_
    exact Sk.retF Eo.I
abbrev s_law_numbers : Stmt := topS 10
theorem sc_law_numbers : FnScope ["cell", "count", "limit", "found", "k", "mixed"] ["cell", "count", "limit"] (defScope s_law_numbers) := ⟨rfl, rfl, rfl, by decide +kernel, rfl, by decide +kernel, by decide +kernel⟩
def m_law_numbers (cell : Int) (count : Int) (limit : Int) : (List Int) :=
  letv (α := (List Int)) ([] : (List Int)) fun found =>
  if (decide (cell ≥ ((10 : Int) ^ ((18 : Int)).toNat))) = true then
    letv (α := Int × (List Int)) (((rangeI 0 (count).toNat)).foldl (fun (s1 : Int × (List Int)) (k_1 : Int) =>
      letv (α := (List Int)) (s1.2 ++ [(s1.1 % limit)]) fun found' =>
        letv (α := Int) (s1.1 / limit) fun cell' =>
        (cell', found')) ((cell, found) : Int × (List Int))) fun l1_ =>
    (l1_.2)
  else
    letv (α := (List Int)) (((rangeI 0 (count).toNat)).foldl (fun (s2 : (List Int)) (k_2 : Int) =>
      letv (α := Int) ((((cell * (48271 : Int)) + (k_2 * (69621 : Int))) + (7 : Int)) % (2147483647 : Int)) fun mixed =>
        letv (α := Int) (((((mixed * mixed) + (mixed * (40692 : Int))) + (k_2 * (16807 : Int))) + (11 : Int)) % (2147483399 : Int)) fun mixed' =>
        letv (α := (List Int)) (s2 ++ [((mixed' / (32 : Int)) % limit)]) fun found' =>
        found') (found : (List Int))) fun l2_ =>
    (l2_)
def R_law_numbers : List PyData → OD → Prop := fun ds t => ∃ (cell : Int) (count : Int) (limit : Int), ds = [enc cell, enc count, enc limit] ∧ (0 ≤ count ∧ count ≤ 1000 ∧ 0 < limit ∧ limit < 1000000000) ∧ t = oL (m_law_numbers cell count limit)
theorem foldl_len {α β : Type} (f : List α → β → List α) (h : ∀ s x, (f s x).length = s.length + 1) : ∀ (xs : List β) (s : List α), (xs.foldl f s).length = s.length + xs.length
  | [], s => rfl
  | x :: xs, s => by rw [List.foldl_cons, foldl_len f h xs, h, List.length_cons]; omega
theorem foldl_len2 {α β γ : Type} (f : γ × List α → β → γ × List α) (h : ∀ s x, (f s x).2.length = s.2.length + 1) : ∀ (xs : List β) (s : γ × List α), (xs.foldl f s).2.length = s.2.length + xs.length
  | [], s => rfl
  | x :: xs, s => by rw [List.foldl_cons, foldl_len2 f h xs, h, List.length_cons]; omega
theorem m_numbers_len (cell count limit : Int) (hc : 0 ≤ count) : ((m_law_numbers cell count limit).length : Int) = count := by
  unfold m_law_numbers letv
  split
  · rw [foldl_len2 _ (fun s x => by simp [letv]), rangeI_length]; simp; omega
  · rw [foldl_len _ (fun s x => by simp [letv]), rangeI_length]; simp; omega
theorem ss_law_numbers {g : Pg} {k : Nat} (hb : Bi g) : ∀ ds t, R_law_numbers ds t → Ss ⟨g, ["cell", "count", "limit", "found", "k", "mixed"], k⟩ (.top (defScope s_law_numbers)) (defBody s_law_numbers) (startR ["cell", "count", "limit", "found", "k", "mixed"] ds) (.rt t) := by
  rintro ds t ⟨cell, count, limit, rfl, hpre, rfl⟩
  show Sk _ _ _ [] _ (rtO (m_law_numbers cell count limit))
  unfold m_law_numbers
  refine Sk.setO (rtO (α := Int)) 3 (show Eo _ _ _ _ (oL ([] : (List Int))) from Eo.lst Ea.nil) (fun found h_found => ?_)
  refine Sk.ifT (rtO (α := Int)) (Et.ge (Eo.v 0 (cell)) (Eo.pow Eo.I Eo.I (by decide))) (fun hc => ?_) (fun hc => ?_)
  · refine Sk.forI (rtO (α := Int)) (rangeI 0 (count).toNat) enc (fun (s1 : Int × (List Int)) (k_1 : Int) =>
      letv (α := (List Int)) (s1.2 ++ [(s1.1 % limit)]) fun found' =>
        letv (α := Int) (s1.1 / limit) fun cell' =>
        (cell', found')) ((cell, found) : Int × (List Int)) (fun (s1 : Int × (List Int)) => ([some (F (s1.1 : Int)), none, some (F (limit : Int)), some (oL (s1.2 : (List Int))), none, none] : Rho)) (fun (i_1 : Nat) (s1 : Int × (List Int)) => s1.2.length = i_1) (Ei.range1 hb.b_range (Eo.v 1 (count)) (by omega) (by omega)) (Le.cons (Le.skip (Le.cons (Le.cons (Le.skip (Le.skip Le.nil)))))) (by subst h_found; rfl) (fun i_1 s1 k_1 hx_1 iv_1 => ?_) (fun l1_ h_l1_ iv_l1_ => ?_)
    · obtain ⟨hx_1_a, hx_1_b⟩ := rangeI_get hx_1
      refine ⟨ForTurn.name 4 (Sk.ss ?_), by simp only [letv, List.length_append, List.length_singleton]; omega⟩
      · refine Sk.appO (nxR (fun (s1 : Int × (List Int)) => ([some (F (s1.1 : Int)), none, some (F (limit : Int)), some (oL (s1.2 : (List Int))), none, none] : Rho))) 3 (v := s1.2) (Eo.mod (Eo.intI hb.b_int (Eo.v 0 (s1.1))) (Eo.v 2 (limit)) (by first | omega | exact getI_all (P := fun z : Int => 0 < z) (by decide) (by unfold InB; simp only [List.length_cons, List.length_nil]; omega))) (by rw [sizeLine_eq]; omega) (fun found' h_found' => ?_)
        refine Sk.setF (nxR (fun (s1 : Int × (List Int)) => ([some (F (s1.1 : Int)), none, some (F (limit : Int)), some (oL (s1.2 : (List Int))), none, none] : Rho))) 0 (Eo.fdiv (Eo.intI hb.b_int (Eo.v 0 (s1.1))) (Eo.v 2 (limit)) (by omega)) (fun cell' h_cell' => ?_)
        exact Sk.nx (Le.cons (Le.skip (Le.cons (Le.cons (Le.skip (Le.skip Le.nil))))))
    exact Sk.retV 3
  · refine Sk.pop ?_
    refine Sk.forI (rtO (α := Int)) (rangeI 0 (count).toNat) enc (fun (s2 : (List Int)) (k_2 : Int) =>
      letv (α := Int) ((((cell * (48271 : Int)) + (k_2 * (69621 : Int))) + (7 : Int)) % (2147483647 : Int)) fun mixed =>
        letv (α := Int) (((((mixed * mixed) + (mixed * (40692 : Int))) + (k_2 * (16807 : Int))) + (11 : Int)) % (2147483399 : Int)) fun mixed' =>
        letv (α := (List Int)) (s2 ++ [((mixed' / (32 : Int)) % limit)]) fun found' =>
        found') (found : (List Int)) (fun (s2 : (List Int)) => ([some (F (cell : Int)), none, some (F (limit : Int)), some (oL (s2 : (List Int))), none, none] : Rho)) (fun (i_2 : Nat) (s2 : (List Int)) => s2.length = i_2) (Ei.range1 hb.b_range (Eo.v 1 (count)) (by omega) (by omega)) (Le.cons (Le.skip (Le.cons (Le.cons (Le.skip (Le.skip Le.nil)))))) (by subst h_found; rfl) (fun i_2 s2 k_2 hx_2 iv_2 => ?_) (fun l2_ h_l2_ iv_l2_ => ?_)
    · obtain ⟨hx_2_a, hx_2_b⟩ := rangeI_get hx_2
      refine ⟨ForTurn.name 4 (Sk.ss ?_), by simp only [letv, List.length_append, List.length_singleton]; omega⟩
      · refine Sk.setF (nxR (fun (s2 : (List Int)) => ([some (F (cell : Int)), none, some (F (limit : Int)), some (oL (s2 : (List Int))), none, none] : Rho))) 5 (Eo.mod (Eo.intI hb.b_int (Eo.add (Eo.add (Eo.mul (Eo.v 0 (cell)) Eo.I (by first | exact .inr ⟨by decide, by decide⟩ | exact .inl ⟨by decide, by decide⟩ | (refine .inl ⟨?_, ?_⟩ <;> omega))) (Eo.mul (Eo.v 4 (k_2)) Eo.I (by first | exact .inr ⟨by decide, by decide⟩ | exact .inl ⟨by decide, by decide⟩ | (refine .inl ⟨?_, ?_⟩ <;> omega)))) Eo.I)) Eo.I (by first | omega | exact getI_all (P := fun z : Int => 0 < z) (by decide) (by unfold InB; simp only [List.length_cons, List.length_nil]; omega))) (fun mixed h_mixed => ?_)
        refine Sk.setF (nxR (fun (s2 : (List Int)) => ([some (F (cell : Int)), none, some (F (limit : Int)), some (oL (s2 : (List Int))), none, none] : Rho))) 5 (Eo.mod (Eo.intI hb.b_int (Eo.add (Eo.add (Eo.add (Eo.mul (Eo.v 5 (mixed)) (Eo.v 5 (mixed)) (by first | exact .inr ⟨by decide, by decide⟩ | exact .inl ⟨by decide, by decide⟩ | (refine .inl ⟨?_, ?_⟩ <;> omega))) (Eo.mul (Eo.v 5 (mixed)) Eo.I (by first | exact .inr ⟨by decide, by decide⟩ | exact .inl ⟨by decide, by decide⟩ | (refine .inl ⟨?_, ?_⟩ <;> omega)))) (Eo.mul (Eo.v 4 (k_2)) Eo.I (by first | exact .inr ⟨by decide, by decide⟩ | exact .inl ⟨by decide, by decide⟩ | (refine .inl ⟨?_, ?_⟩ <;> omega)))) Eo.I)) Eo.I (by first | omega | exact getI_all (P := fun z : Int => 0 < z) (by decide) (by unfold InB; simp only [List.length_cons, List.length_nil]; omega))) (fun mixed' h_mixed' => ?_)
        refine Sk.appO (nxR (fun (s2 : (List Int)) => ([some (F (cell : Int)), none, some (F (limit : Int)), some (oL (s2 : (List Int))), none, none] : Rho))) 3 (v := s2) (Eo.mod (Eo.intI hb.b_int (Eo.fdiv (Eo.v 5 (mixed')) Eo.I (by omega))) (Eo.v 2 (limit)) (by first | omega | exact getI_all (P := fun z : Int => 0 < z) (by decide) (by unfold InB; simp only [List.length_cons, List.length_nil]; omega))) (by rw [sizeLine_eq]; omega) (fun found' h_found' => ?_)
        exact Sk.nx (Le.cons (Le.skip (Le.cons (Le.cons (Le.skip (Le.skip Le.nil))))))
    exact Sk.retV 3
abbrev s_law_marks : Stmt := topS 12
theorem sc_law_marks : FnScope ["script", "at", "players", "ears", "draws", "count", "many", "marks", "p", "k"] ["script", "at", "players", "ears"] (defScope s_law_marks) := ⟨rfl, rfl, rfl, by decide +kernel, rfl, by decide +kernel, by decide +kernel⟩
def m_law_marks (script : (List Int)) (at_ : Int) (players : Int) (ears : Int) : ((List (List (Option Int))) × Int) :=
  letv (α := (List Int)) (m_law_numbers (m_law_cell script at_) (60 : Int) (5040 : Int)) fun draws =>
  letv (α := Int) ((1 : Int) + ((getI draws (0 : Int)) % players)) fun count =>
  letv (α := Int) ((1 : Int) + ((getI draws (1 : Int)) % ears)) fun many =>
  letv (α := (List (List (Option Int)))) (((rangeI 0 (count).toNat)).map (fun (p : Int) => (((rangeI 0 (many).toNat)).map (fun (k : Int) => (some ((getI draws ((((4 : Int) + (many * p)) + k) % (60 : Int))) % (getI [(3 : Int), (11 : Int), (101 : Int)] ((getI draws (2 : Int)) % (3 : Int))))))))) fun marks =>
  ((marks, ((getI draws (3 : Int)) % ((many + (1 : Int)) / (2 : Int)))))
def R_law_marks : List PyData → OD → Prop := fun ds t => ∃ (script : (List Int)) (at_ : Int) (players : Int) (ears : Int), ds = [enc script, enc at_, enc players, enc ears] ∧ (0 ≤ at_ ∧ 0 < players ∧ players ≤ 30 ∧ 0 < ears ∧ ears ≤ 9) ∧ t = tD (m_law_marks script at_ players ears)
structure Ds_law_marks (g : Pg) (k : Nat) : Prop where
  d_law_numbers : Def g k "_law_numbers" R_law_numbers
  d_law_cell : Def g k "_law_cell" R_law_cell
theorem ss_law_marks {g : Pg} {k : Nat} (hb : Bi g) (hd : Ds_law_marks g k) : ∀ ds t, R_law_marks ds t → Ss ⟨g, ["script", "at", "players", "ears", "draws", "count", "many", "marks", "p", "k"], k⟩ (.top (defScope s_law_marks)) (defBody s_law_marks) (startR ["script", "at", "players", "ears", "draws", "count", "many", "marks", "p", "k"] ds) (.rt t) := by
  rintro ds t ⟨script, at_, players, ears, rfl, hpre, rfl⟩
  show Sk _ _ _ [] _ (rtPD (m_law_marks script at_ players ears))
  unfold m_law_marks
  refine Sk.setF (rtPD (α := (Option Int)) (β := Int)) 4 (Eo.frO (Eo.call hd.d_law_numbers (⟨(m_law_cell script at_), (60 : Int), (5040 : Int), rfl, (by (repeat' apply And.intro) <;> first | assumption | omega), rfl⟩ : R_law_numbers _ _) (Ea.cons (Eo.call hd.d_law_cell (⟨script, at_, rfl, (by (repeat' apply And.intro) <;> first | assumption | omega), rfl⟩ : R_law_cell _ _) (Ea.cons (Eo.v 0 (script)) (Ea.cons (Eo.v 1 (at_)) Ea.nil))) (Ea.cons Eo.I (Ea.cons Eo.I Ea.nil))))) (fun draws h_draws => ?_)
  have hl := m_numbers_len (m_law_cell script at_) 60 5040 (by decide); rw [← h_draws] at hl
  refine Sk.setF (rtPD (α := (Option Int)) (β := Int)) 5 (Eo.add Eo.I (Eo.mod (Eo.idx (α := Int) (Eo.v 4 (draws)) Eo.I (by unfold InB; (try simp only [List.length_cons, List.length_nil, decide_eq_true_eq] at *); omega)) (Eo.v 2 (players)) (by first | omega | exact getI_all (P := fun z : Int => 0 < z) (by decide) (by unfold InB; simp only [List.length_cons, List.length_nil]; omega)))) (fun count h_count => ?_)
  have hc0 := Int.emod_nonneg (getI draws 0) (show players ≠ 0 by omega)
  have hc1 := Int.emod_lt_of_pos (getI draws 0) (show 0 < players by omega)
  refine Sk.setF (rtPD (α := (Option Int)) (β := Int)) 6 (Eo.add Eo.I (Eo.mod (Eo.idx (α := Int) (Eo.v 4 (draws)) Eo.I (by unfold InB; (try simp only [List.length_cons, List.length_nil, decide_eq_true_eq] at *); omega)) (Eo.v 3 (ears)) (by first | omega | exact getI_all (P := fun z : Int => 0 < z) (by decide) (by unfold InB; simp only [List.length_cons, List.length_nil]; omega)))) (fun many h_many => ?_)
  have hm0 := Int.emod_nonneg (getI draws 1) (show ears ≠ 0 by omega)
  have hm1 := Int.emod_lt_of_pos (getI draws 1) (show 0 < ears by omega)
  refine Sk.setLcMD (rtPD (α := (Option Int)) (β := Int)) 7 (rangeI 0 (count).toNat) enc (fun (p : Int) => (((rangeI 0 (many).toNat)).map (fun (k : Int) => (some ((getI draws ((((4 : Int) + (many * p)) + k) % (60 : Int))) % (getI [(3 : Int), (11 : Int), (101 : Int)] ((getI draws (2 : Int)) % (3 : Int)))))))) [("p", 8)] (Ei.range1 hb.b_range (Eo.v 5 (count)) (by omega) (by omega)) (by simp only [rangeI_length, sizeLine_eq]; omega) (fun p hp => have hp_ := mem_rangeI.mp hp; LcTurn.name 8 Ets.nil (fun hc => (Eo.lcL (rangeI 0 (many).toNat) enc (fun (k : Int) => (some ((getI draws ((((4 : Int) + (many * p)) + k) % (60 : Int))) % (getI [(3 : Int), (11 : Int), (101 : Int)] ((getI draws (2 : Int)) % (3 : Int)))))) [("k", 9)] (Ei.range1 hb.b_range (Eo.v 6 (many)) (by omega) (by omega)) (by simp only [rangeI_length, sizeLine_eq]; omega) (fun k hk => have hk_ := mem_rangeI.mp hk; LcTurn.name 9 Ets.nil (fun hc => (Eo.mod (Eo.idx (α := Int) (Eo.v 4 (draws)) (Eo.mod (Eo.add (Eo.add Eo.I (Eo.mul (Eo.v 6 (many)) (Eo.v 8 (p)) (by first | exact .inr ⟨by decide, by decide⟩ | exact .inl ⟨by decide, by decide⟩ | (refine .inl ⟨?_, ?_⟩ <;> omega)))) (Eo.v 9 (k))) Eo.I (by first | omega | exact getI_all (P := fun z : Int => 0 < z) (by decide) (by unfold InB; simp only [List.length_cons, List.length_nil]; omega))) (by unfold InB; (try simp only [List.length_cons, List.length_nil, decide_eq_true_eq] at *); omega)) (Eo.idx (α := Int) (Eo.frO (show Eo _ _ _ _ (oL ([(3 : Int), (11 : Int), (101 : Int)] : (List Int))) from Eo.lst (Ea.cons Eo.I (Ea.cons Eo.I (Ea.cons Eo.I Ea.nil))) (by first | decide | (simp only [List.map_cons, List.map_nil, List.length_cons, List.length_nil, sizeLine_eq]; omega)))) (Eo.mod (Eo.idx (α := Int) (Eo.v 4 (draws)) Eo.I (by unfold InB; (try simp only [List.length_cons, List.length_nil, decide_eq_true_eq] at *); omega)) Eo.I (by first | omega | exact getI_all (P := fun z : Int => 0 < z) (by decide) (by unfold InB; simp only [List.length_cons, List.length_nil]; omega))) (by unfold InB; (try simp only [List.length_cons, List.length_nil, decide_eq_true_eq] at *); omega)) (by first | omega | exact getI_all (P := fun z : Int => 0 < z) (by decide) (by unfold InB; simp only [List.length_cons, List.length_nil]; omega)))))))) (fun marks h_marks => ?_)
  exact Sk.retPD 7 (v := marks) rfl (Eo.mod (Eo.idx (α := Int) (Eo.v 4 (draws)) Eo.I (by unfold InB; (try simp only [List.length_cons, List.length_nil, decide_eq_true_eq] at *); omega)) (Eo.fdiv (Eo.add (Eo.v 6 (many)) Eo.I) Eo.I (by omega)) (by first | omega | exact getI_all (P := fun z : Int => 0 < z) (by decide) (by unfold InB; simp only [List.length_cons, List.length_nil]; omega)))
abbrev s_law_total : Stmt := topS 13
theorem sc_law_total : FnScope ["row", "drop", "left", "turn"] ["row", "drop"] (defScope s_law_total) := ⟨rfl, rfl, rfl, by decide +kernel, rfl, by decide +kernel, by decide +kernel⟩
def m_law_total (row : (List Int)) (drop : Int) : Int :=
  letv (α := (List Int)) row fun left =>
  letv (α := (List Int)) (((rangeI 0 (drop).toNat)).foldl (fun (s1 : (List Int)) (turn_1 : Int) =>
    letv (α := (List Int)) (s1.erase (lmax s1)) fun left' =>
      letv (α := (List Int)) (left'.erase (lmin left')) fun left'' =>
      left'') (left : (List Int))) fun l1_ =>
  ((l1_).sum)
def R_law_total : List PyData → OD → Prop := fun ds t => ∃ (row : (List Int)) (drop : Int), ds = [enc row, enc drop] ∧ (0 ≤ drop ∧ 2 * drop ≤ row.length ∧ drop < 1000) ∧ t = F (m_law_total row drop)
theorem ss_law_total {g : Pg} {k : Nat} (hb : Bi g) : ∀ ds t, R_law_total ds t → Ss ⟨g, ["row", "drop", "left", "turn"], k⟩ (.top (defScope s_law_total)) (defBody s_law_total) (startR ["row", "drop", "left", "turn"] ds) (.rt t) := by
  rintro ds t ⟨row, drop, rfl, hpre, rfl⟩
  show Sk _ _ _ [] _ (rtF (m_law_total row drop))
  unfold m_law_total
  refine Sk.setO (rtF (α := Int)) 2 (Eo.listO hb.b_list (Eo.v 0 (row))) (fun left h_left => ?_)
  refine Sk.forI (rtF (α := Int)) (rangeI 0 (drop).toNat) enc (fun (s1 : (List Int)) (turn_1 : Int) =>
    letv (α := (List Int)) (s1.erase (lmax s1)) fun left' =>
      letv (α := (List Int)) (left'.erase (lmin left')) fun left'' =>
      left'') (left : (List Int)) (fun (s1 : (List Int)) => ([none, none, some (oL (s1 : (List Int))), none] : Rho)) (fun (i_1 : Nat) (s1 : (List Int)) => s1.length + 2 * i_1 = row.length) (Ei.range1 hb.b_range (Eo.v 1 (drop)) (by omega) (by omega)) (Le.skip (Le.skip (Le.cons (Le.skip Le.nil)))) (by subst h_left; rfl) (fun i_1 s1 turn_1 hx_1 iv_1 => ?_) (fun l1_ h_l1_ iv_l1_ => ?_)
  · obtain ⟨hx_1_a, hx_1_b⟩ := rangeI_get hx_1
    have hne : s1 ≠ [] := by intro z; rw [z] at iv_1; simp at iv_1; omega
    have hl1 : (s1.erase (lmax s1)).length = s1.length - 1 := List.length_erase_of_mem (lmax_mem hne)
    have hne2 : s1.erase (lmax s1) ≠ [] := by intro z; rw [z] at hl1; simp at hl1; omega
    have hl2 := List.length_erase_of_mem (lmin_mem hne2)
    refine ⟨ForTurn.name 3 (Sk.ss ?_), by simp only [letv]; omega⟩
    · refine Sk.remO (nxR (fun (s1 : (List Int)) => ([none, none, some (oL (s1 : (List Int))), none] : Rho))) 2 (v := s1) (Eo.bwF (Eo.maxL hb.b_max (Eo.vz 2 (s1)) (by first | exact hne | (rw [h_left']; exact hne2)))) (by first | exact lmax_mem hne | (rw [h_left']; exact lmin_mem hne2)) (fun left' h_left' => ?_)
      refine Sk.remO (nxR (fun (s1 : (List Int)) => ([none, none, some (oL (s1 : (List Int))), none] : Rho))) 2 (v := left') (Eo.bwF (Eo.minL hb.b_min (Eo.vz 2 (left')) (by first | exact hne | (rw [h_left']; exact hne2)))) (by first | exact lmax_mem hne | (rw [h_left']; exact lmin_mem hne2)) (fun left'' h_left'' => ?_)
      exact Sk.nx (Le.skip (Le.skip (Le.cons (Le.skip Le.nil))))
  refine Sk.frzO 2 (l1_) ?_
  exact Sk.retF (Eo.sumL hb.b_sum (Eo.v 2 (l1_)))
abbrev s_law_ranks : Stmt := topS 14
theorem sc_law_ranks : FnScope ["marks", "drop", "totals_v", "row", "total", "other"] ["marks", "drop"] (defScope s_law_ranks) := ⟨rfl, rfl, rfl, by decide +kernel, rfl, by decide +kernel, by decide +kernel⟩
def m_law_ranks (marks : (List (List Int))) (drop : Int) : (List Int) :=
  letv (α := (List Int)) ((marks).map (fun (row : (List Int)) => (m_law_total row drop))) fun totals_v =>
  (((totals_v).map (fun (total : Int) => ((1 : Int) + ((((totals_v).filter (fun (other : Int) => (decide (other > total)))).map (fun (other : Int) => other)).length : Int)))))
def R_law_ranks : List PyData → OD → Prop := fun ds t => ∃ (marks : (List (List Int))) (drop : Int), ds = [enc marks, enc drop] ∧ (0 ≤ drop ∧ drop < 1000 ∧ marks.length ≤ 1000 ∧ ∀ row ∈ marks, 2 * drop ≤ (row.length : Int)) ∧ t = oL (m_law_ranks marks drop)
structure Ds_law_ranks (g : Pg) (k : Nat) : Prop where
  d_law_total : Def g k "_law_total" R_law_total
theorem m_law_ranks_len (marks : List (List Int)) (drop : Int) : (m_law_ranks marks drop).length = marks.length := by unfold m_law_ranks letv; rw [List.length_map, List.length_map]
theorem ss_law_ranks {g : Pg} {k : Nat} (hb : Bi g) (hd : Ds_law_ranks g k) : ∀ ds t, R_law_ranks ds t → Ss ⟨g, ["marks", "drop", "totals_v", "row", "total", "other"], k⟩ (.top (defScope s_law_ranks)) (defBody s_law_ranks) (startR ["marks", "drop", "totals_v", "row", "total", "other"] ds) (.rt t) := by
  rintro ds t ⟨marks, drop, rfl, hpre, rfl⟩
  show Sk _ _ _ [] _ (rtO (m_law_ranks marks drop))
  unfold m_law_ranks
  refine Sk.setF (rtO (α := Int)) 2 (Eo.frO (Eo.lcL marks enc (fun (row : (List Int)) => (m_law_total row drop)) [("row", 3)] (Ei.lst (Eo.v 0 (marks))) (by simp only [rangeI_length, sizeLine_eq]; omega) (fun row hrow => LcTurn.name 3 Ets.nil (fun hc => (Eo.call hd.d_law_total (⟨row, drop, rfl, (by have := hpre.2.2.2 row hrow; omega), rfl⟩ : R_law_total _ _) (Ea.cons (Eo.v 3 (row)) (Ea.cons (Eo.v 1 (drop)) Ea.nil))))))) (fun totals_v h_totals_v => ?_)
  have hfl : totals_v.length = marks.length := by rw [h_totals_v]; simp
  exact Sk.retO (Eo.lcL totals_v enc (fun (total : Int) => ((1 : Int) + ((((totals_v).filter (fun (other : Int) => (decide (other > total)))).map (fun (other : Int) => other)).length : Int))) [("total", 4)] (Ei.lst (Eo.v 2 (totals_v))) (by simp only [rangeI_length, sizeLine_eq]; omega) (fun total htotal => LcTurn.name 4 Ets.nil (fun hc => (Eo.add Eo.I (Eo.lenL hb.b_len (Eo.frO (Eo.lcP totals_v enc (fun (other : Int) => (decide (other > total))) (fun (other : Int) => other) [("other", 5)] (Ei.lst (Eo.v 2 (totals_v))) (by simp only [rangeI_length, sizeLine_eq]; omega) (fun other hother => LcTurn.name 5 (Ets.one (Et.gt (Eo.v 5 (other)) (Eo.v 4 (total)))) (fun hc => (Eo.v 5 (other)))))))))))
abbrev s_law_fillings : Stmt := topS 15
theorem sc_law_fillings : FnScope ["marks", "values", "found", "row", "rows", "mark", "more", "before", "some", "longer", "one", "value"] ["marks", "values"] (defScope s_law_fillings) := ⟨rfl, rfl, rfl, by decide +kernel, rfl, by decide +kernel, by decide +kernel⟩
def m_law_fillings (marks : (List (List (Option Int)))) (values : (List Int)) : (List (List (List Int))) :=
  letv (α := (List (List (List Int)))) ([([] : (List (List Int)))] : (List (List (List Int)))) fun found =>
  letv (α := (List (List (List Int)))) ((marks).foldl (fun (s1 : (List (List (List Int)))) (row_1 : (List (Option Int))) =>
    letv (α := (List (List Int))) ([([] : (List Int))] : (List (List Int))) fun rows =>
      letv (α := (List (List Int))) ((row_1).foldl (fun (s2 : (List (List Int))) (mark_2 : (Option Int)) =>
        letv (α := (List (Option Int))) ([mark_2] : (List (Option Int))) fun some_ =>
          letv (α := (List Int)) (if (Option.isNone mark_2) = true then
            letv (α := (List Int)) values fun some_' =>
            some_'
          else
            [mark_2.getD 0]) fun j =>
          letv (α := (List (List Int))) ([] : (List (List Int))) fun longer =>
          letv (α := (List (List Int))) ((s2).foldl (fun (s3 : (List (List Int))) (one_3 : (List Int)) =>
            letv (α := (List (List Int))) (s3 ++ ((j).map (fun (value : Int) => (one_3 ++ ([value] : (List Int)))))) fun longer' =>
              longer') (longer : (List (List Int)))) fun l3_ =>
          letv (α := (List (List Int))) l3_ fun rows' =>
          rows') (rows : (List (List Int)))) fun l2_ =>
      letv (α := (List (List (List Int)))) ([] : (List (List (List Int)))) fun more =>
      letv (α := (List (List (List Int)))) ((s1).foldl (fun (s4 : (List (List (List Int)))) (before_4 : (List (List Int))) =>
        letv (α := (List (List (List Int)))) (s4 ++ ((l2_).map (fun (one : (List Int)) => (before_4 ++ ([one] : (List (List Int))))))) fun more' =>
          more') (more : (List (List (List Int))))) fun l4_ =>
      letv (α := (List (List (List Int)))) l4_ fun found' =>
      found') (found : (List (List (List Int))))) fun l1_ =>
  (l1_)
def R_law_fillings : List PyData → OD → Prop := fun ds t => ∃ (marks : (List (List (Option Int)))) (values : (List Int)), ds = [enc marks, enc values] ∧ (Sz marks ∧ values.length ^ nns marks ≤ 1000 ∧ 1 ≤ values.length) ∧ t = F (m_law_fillings marks values)
theorem re_some {mark : Option Int} (h : mark.isNone = false) : F [mark] = F [mark.getD 0] := match mark, h with | some v, _ => rfl
theorem nns_mem : ∀ {marks : List (List (Option Int))} {row : List (Option Int)}, row ∈ marks → nn row ≤ nns marks
  | r :: rs, row, h => by
    unfold nns
    rw [List.map_cons, List.sum_cons]
    rcases List.mem_cons.mp h with e | e
    · subst e; omega
    · have := nns_mem e
      unfold nns at this
      omega
theorem pow_bound {V a b c : Nat} (hv : 1 ≤ V) (h : V ^ a ≤ 1000) (hb : b ≤ a) (hc : c ≤ b) : V ^ c ≤ 1000 := Nat.le_trans (Nat.pow_le_pow_right hv (by omega)) h
theorem pow_nn {V i : Nat} {row : List (Option Int)} {o : Option Int} (h : row[i]? = some o) : V ^ nn (row.take (i + 1)) = V ^ nn (row.take i) * (if o.isNone = true then V else 1) := by
  rw [nn_take h]
  split
  · rw [Nat.pow_succ]
  · simp
theorem mul_bound {V i m n : Nat} {marks : List (List (Option Int))} {row : List (Option Int)} (hv : 1 ≤ V) (h : V ^ nns marks ≤ 1000) (hx : marks[i]? = some row) (hm : m ≤ V ^ nns (marks.take i)) (hn : n ≤ V ^ nn (row.take row.length)) : m * n ≤ 1000 := by
  rw [List.take_length] at hn
  refine Nat.le_trans (Nat.mul_le_mul hm hn) ?_
  rw [← Nat.pow_add, ← nns_take hx]
  exact Nat.le_trans (Nat.pow_le_pow_right hv (nns_le marks _)) h
/-- one mark's values -/
def valsOf (values : List Int) (mark : Option Int) : List Int := if mark.isNone = true then values else [mark.getD 0]
theorem valsOf_len (values : List Int) (mark : Option Int) : (valsOf values mark).length = if mark.isNone = true then values.length else 1 := by unfold valsOf; split <;> rfl
theorem foldl_app {α β : Type} (f : α → List β) : ∀ (xs : List α) (s : List β), xs.foldl (fun s x => s ++ f x) s = s ++ xs.flatMap f
  | [], s => by simp
  | x :: xs, s => by rw [List.foldl_cons, foldl_app f xs]; simp
theorem flatMap_len {α β : Type} (f : α → List β) (n : Nat) (h : ∀ x, (f x).length = n) : ∀ xs : List α, (xs.flatMap f).length = xs.length * n
  | [] => by simp
  | x :: xs => by rw [List.flatMap_cons, List.length_append, h, flatMap_len f n h xs, List.length_cons, Nat.succ_mul]; omega
/-- all rows -/
def rowS (values : List Int) (s : List (List Int)) (mark : Option Int) : List (List Int) := s.flatMap fun one => (valsOf values mark).map fun value => one ++ [value]
def rowF (values : List Int) (row : List (Option Int)) : List (List Int) := row.foldl (rowS values) [[]]
def filS (values : List Int) (s : List (List (List Int))) (row : List (Option Int)) : List (List (List Int)) := s.flatMap fun before => (rowF values row).map fun one => before ++ [one]
theorem fil_eq (marks : List (List (Option Int))) (values : List Int) : m_law_fillings marks values = marks.foldl (filS values) [[]] := by
  unfold m_law_fillings letv
  have h1 : ∀ (s2 : List (List Int)) (mark : Option Int), s2.foldl (fun s3 one_3 => s3 ++ ((if mark.isNone = true then values else [mark.getD 0]).map fun value => one_3 ++ [value])) [] = rowS values s2 mark := fun s2 mark => by
    rw [foldl_app]; rfl
  have h2 : ∀ row : List (Option Int), row.foldl (fun s2 mark => s2.foldl (fun s3 one_3 => s3 ++ ((if mark.isNone = true then values else [mark.getD 0]).map fun value => one_3 ++ [value])) []) [[]] = rowF values row := fun row => by
    unfold rowF
    congr 1
    funext s2 mark
    exact h1 s2 mark
  have h3 : ∀ (s1 : List (List (List Int))) (row : List (Option Int)), s1.foldl (fun s4 before => s4 ++ ((row.foldl (fun s2 mark => s2.foldl (fun s3 one_3 => s3 ++ ((if mark.isNone = true then values else [mark.getD 0]).map fun value => one_3 ++ [value])) []) [[]]).map fun one => before ++ [one])) [] = filS values s1 row := fun s1 row => by
    rw [foldl_app, h2]; rfl
  show marks.foldl _ [[]] = _
  congr 1
  funext s1 row
  exact h3 s1 row
theorem m_row_len {values : List Int} {s : List (List Int)} {row : List (Option Int)} {i : Nat} {mark : Option Int} (h : s.length ≤ values.length ^ nn (row.take i)) (hx : row[i]? = some mark) : (s.foldl (fun s3 one_3 => s3 ++ ((if mark.isNone = true then values else [mark.getD 0]).map fun value => one_3 ++ [value])) []).length ≤ values.length ^ nn (row.take (i + 1)) := by
  rw [foldl_app, List.nil_append, flatMap_len _ (valsOf values mark).length (fun x => by rw [List.length_map]; rfl), valsOf_len, pow_nn hx]
  exact Nat.mul_le_mul_right _ h
theorem m_row_all {values : List Int} {s : List (List Int)} {i : Nat} {mark : Option Int} (h : ∀ b ∈ s, b.length = i) : ∀ b ∈ s.foldl (fun s3 one_3 => s3 ++ ((if mark.isNone = true then values else [mark.getD 0]).map fun value => one_3 ++ [value])) [], b.length = i + 1 := by
  rw [foldl_app, List.nil_append]
  intro b hb
  obtain ⟨one, h1, h2⟩ := List.mem_flatMap.mp hb
  obtain ⟨v, _, rfl⟩ := List.mem_map.mp h2
  rw [List.length_append, h one h1]
  rfl
theorem rowF_len {values : List Int} {row : List (Option Int)} : (rowF values row).length = values.length ^ nn row := by
  have : ∀ (n : Nat), ((row.take n).foldl (rowS values) [[]]).length = values.length ^ nn (row.take n) := by
    intro n
    induction n with
    | zero => simp [nn]
    | succ n ih =>
      cases hx : row[n]? with
      | none =>
        have hn := List.getElem?_eq_none_iff.mp hx
        rw [List.take_of_length_le (by omega)]
        rw [List.take_of_length_le hn] at ih
        exact ih
      | some o =>
        rw [pow_nn hx, List.take_add_one, hx, List.foldl_append]
        show ((List.foldl (rowS values) [[]] (row.take n)).flatMap fun one => (valsOf values o).map fun value => one ++ [value]).length = _
        rw [flatMap_len _ (valsOf values o).length (fun x => by rw [List.length_map]), valsOf_len, ih]
  have := this row.length
  rwa [List.take_length] at this
theorem m_fil_len {values : List Int} {s : List (List (List Int))} {marks : List (List (Option Int))} {i : Nat} {row : List (Option Int)} (h : s.length ≤ values.length ^ nns (marks.take i)) (hx : marks[i]? = some row) : (s.foldl (fun s4 before => s4 ++ ((row.foldl (fun s2 mark => s2.foldl (fun s3 one_3 => s3 ++ ((if mark.isNone = true then values else [mark.getD 0]).map fun value => one_3 ++ [value])) []) [[]]).map fun one => before ++ [one])) []).length ≤ values.length ^ nns (marks.take (i + 1)) := by
  have h2 : row.foldl (fun s2 mark => s2.foldl (fun s3 one_3 => s3 ++ ((if mark.isNone = true then values else [mark.getD 0]).map fun value => one_3 ++ [value])) []) [[]] = rowF values row := by
    unfold rowF
    congr 1
    funext s2 mark
    rw [foldl_app]; rfl
  rw [h2, foldl_app, List.nil_append, flatMap_len _ (rowF values row).length (fun x => by rw [List.length_map]), rowF_len, nns_take hx, Nat.pow_add]
  exact Nat.mul_le_mul_right _ h
theorem m_fil_all {values : List Int} {s : List (List (List Int))} {i : Nat} {row : List (Option Int)} (h : ∀ b ∈ s, b.length = i) : ∀ b ∈ s.foldl (fun s4 before => s4 ++ ((row.foldl (fun s2 mark => s2.foldl (fun s3 one_3 => s3 ++ ((if mark.isNone = true then values else [mark.getD 0]).map fun value => one_3 ++ [value])) []) [[]]).map fun one => before ++ [one])) [], b.length = i + 1 := by
  rw [foldl_app, List.nil_append]
  intro b hb
  obtain ⟨one, h1, h2⟩ := List.mem_flatMap.mp hb
  obtain ⟨v, _, rfl⟩ := List.mem_map.mp h2
  rw [List.length_append, h one h1]
  rfl
theorem ss_law_fillings {g : Pg} {k : Nat} (hb : Bi g) : ∀ ds t, R_law_fillings ds t → Ss ⟨g, ["marks", "values", "found", "row", "rows", "mark", "more", "before", "some", "longer", "one", "value"], k⟩ (.top (defScope s_law_fillings)) (defBody s_law_fillings) (startR ["marks", "values", "found", "row", "rows", "mark", "more", "before", "some", "longer", "one", "value"] ds) (.rt t) := by
  rintro ds t ⟨marks, values, rfl, hpre, rfl⟩
  obtain ⟨hsz, hpw, hv1⟩ := id hpre
  have hz2 := hsz.len
  show Sk _ _ _ [] _ (rtF (m_law_fillings marks values))
  unfold m_law_fillings
  refine Sk.setF (rtF (α := (List (List (List Int))))) 2 (Eo.frO (show Eo _ _ _ _ (oL ([([] : (List (List Int)))] : (List (List (List Int))))) from Eo.lst (Ea.cons (Eo.frO (show Eo _ _ _ _ (oL ([] : (List (List Int)))) from Eo.lst Ea.nil)) Ea.nil) (by first | decide | (simp only [List.map_cons, List.map_nil, List.length_cons, List.length_nil, sizeLine_eq]; omega)))) (fun found h_found => ?_)
  refine Sk.forI (rtF (α := (List (List (List Int))))) marks enc (fun (s1 : (List (List (List Int)))) (row_1 : (List (Option Int))) =>
    letv (α := (List (List Int))) ([([] : (List Int))] : (List (List Int))) fun rows =>
      letv (α := (List (List Int))) ((row_1).foldl (fun (s2 : (List (List Int))) (mark_2 : (Option Int)) =>
        letv (α := (List (Option Int))) ([mark_2] : (List (Option Int))) fun some_ =>
          letv (α := (List Int)) (if (Option.isNone mark_2) = true then
            letv (α := (List Int)) values fun some_' =>
            some_'
          else
            [mark_2.getD 0]) fun j =>
          letv (α := (List (List Int))) ([] : (List (List Int))) fun longer =>
          letv (α := (List (List Int))) ((s2).foldl (fun (s3 : (List (List Int))) (one_3 : (List Int)) =>
            letv (α := (List (List Int))) (s3 ++ ((j).map (fun (value : Int) => (one_3 ++ ([value] : (List Int)))))) fun longer' =>
              longer') (longer : (List (List Int)))) fun l3_ =>
          letv (α := (List (List Int))) l3_ fun rows' =>
          rows') (rows : (List (List Int)))) fun l2_ =>
      letv (α := (List (List (List Int)))) ([] : (List (List (List Int)))) fun more =>
      letv (α := (List (List (List Int)))) ((s1).foldl (fun (s4 : (List (List (List Int)))) (before_4 : (List (List Int))) =>
        letv (α := (List (List (List Int)))) (s4 ++ ((l2_).map (fun (one : (List Int)) => (before_4 ++ ([one] : (List (List Int))))))) fun more' =>
          more') (more : (List (List (List Int))))) fun l4_ =>
      letv (α := (List (List (List Int)))) l4_ fun found' =>
      found') (found : (List (List (List Int)))) (fun (s1 : (List (List (List Int)))) => ([none, some (F (values : (List Int))), some (F (s1 : (List (List (List Int))))), none, none, none, none, none, none, none, none, none] : Rho)) (fun (i_1 : Nat) (s1 : (List (List (List Int)))) => s1.length ≤ values.length ^ nns (marks.take i_1) ∧ ∀ b ∈ s1, b.length = i_1) (Ei.lst (Eo.v 0 (marks))) (Le.skip (Le.cons (Le.cons (Le.skip (Le.skip (Le.skip (Le.skip (Le.skip (Le.skip (Le.skip (Le.skip (Le.skip Le.nil)))))))))))) (by subst h_found; exact ⟨by simp [nns], by simp⟩) (fun i_1 s1 row_1 hx_1 iv_1 => ?_) (fun l1_ h_l1_ iv_l1_ => ?_)
  · have hx_1_m := List.mem_of_getElem? hx_1
    have hi := (List.getElem?_eq_some_iff.mp hx_1).1
    have hrl := hsz.rows _ hx_1_m
    have hn1 := nns_mem hx_1_m
    have hnt := nns_take hx_1
    refine ⟨ForTurn.name 3 (Sk.ss ?_), ⟨by simp only [letv]; exact m_fil_len iv_1.1 hx_1, by simp only [letv]; exact m_fil_all iv_1.2⟩⟩
    · refine Sk.setF (nxR (fun (s1 : (List (List (List Int)))) => ([none, some (F (values : (List Int))), some (F (s1 : (List (List (List Int))))), none, none, none, none, none, none, none, none, none] : Rho))) 4 (Eo.frO (show Eo _ _ _ _ (oL ([([] : (List Int))] : (List (List Int)))) from Eo.lst (Ea.cons (Eo.frO (show Eo _ _ _ _ (oL ([] : (List Int))) from Eo.lst Ea.nil)) Ea.nil) (by first | decide | (simp only [List.map_cons, List.map_nil, List.length_cons, List.length_nil, sizeLine_eq]; omega)))) (fun rows h_rows => ?_)
      refine Sk.forI (nxR (fun (s1 : (List (List (List Int)))) => ([none, some (F (values : (List Int))), some (F (s1 : (List (List (List Int))))), none, none, none, none, none, none, none, none, none] : Rho))) row_1 enc (fun (s2 : (List (List Int))) (mark_2 : (Option Int)) =>
        letv (α := (List (Option Int))) ([mark_2] : (List (Option Int))) fun some_ =>
          letv (α := (List Int)) (if (Option.isNone mark_2) = true then
            letv (α := (List Int)) values fun some_' =>
            some_'
          else
            [mark_2.getD 0]) fun j =>
          letv (α := (List (List Int))) ([] : (List (List Int))) fun longer =>
          letv (α := (List (List Int))) ((s2).foldl (fun (s3 : (List (List Int))) (one_3 : (List Int)) =>
            letv (α := (List (List Int))) (s3 ++ ((j).map (fun (value : Int) => (one_3 ++ ([value] : (List Int)))))) fun longer' =>
              longer') (longer : (List (List Int)))) fun l3_ =>
          letv (α := (List (List Int))) l3_ fun rows' =>
          rows') (rows : (List (List Int))) (fun (s2 : (List (List Int))) => ([none, some (F (values : (List Int))), some (F (s1 : (List (List (List Int))))), none, some (F (s2 : (List (List Int)))), none, none, none, none, none, none, none] : Rho)) (fun (i_2 : Nat) (s2 : (List (List Int))) => s2.length ≤ values.length ^ nn (row_1.take i_2) ∧ ∀ b ∈ s2, b.length = i_2) (Ei.lst (Eo.v 3 (row_1))) (Le.skip (Le.cons (Le.cons (Le.skip (Le.cons (Le.skip (Le.skip (Le.skip (Le.skip (Le.skip (Le.skip (Le.skip Le.nil)))))))))))) (by subst h_rows; exact ⟨by simp [nn], by simp⟩) (fun i_2 s2 mark_2 hx_2 iv_2 => ?_) (fun l2_ h_l2_ iv_l2_ => ?_)
      · have hx_2_m := List.mem_of_getElem? hx_2
        have hj := (List.getElem?_eq_some_iff.mp hx_2).1
        have hb2 := pow_bound hv1 hpw hn1 (nn_le row_1 (i_2 + 1))
        rw [pow_nn hx_2] at hb2
        refine ⟨ForTurn.name 5 (Sk.ss ?_), ⟨by simp only [letv]; exact m_row_len iv_2.1 hx_2, by simp only [letv]; exact m_row_all iv_2.2⟩⟩
        · refine Sk.setF (nxR (fun (s2 : (List (List Int))) => ([none, some (F (values : (List Int))), some (F (s1 : (List (List (List Int))))), none, some (F (s2 : (List (List Int)))), none, none, none, none, none, none, none] : Rho))) 8 (Eo.frO (show Eo _ _ _ _ (oL ([mark_2] : (List (Option Int)))) from Eo.lst (Ea.cons (Eo.v 5 (mark_2)) Ea.nil) (by first | decide | (simp only [List.map_cons, List.map_nil, List.length_cons, List.length_nil, sizeLine_eq]; omega)))) (fun some_ h_some_ => ?_)
          refine Sk.ifJ (nxR (fun (s2 : (List (List Int))) => ([none, some (F (values : (List Int))), some (F (s1 : (List (List (List Int))))), none, some (F (s2 : (List (List Int)))), none, none, none, none, none, none, none] : Rho))) (fun (s : (List Int)) => ([none, some (F (values : (List Int))), some (F (s1 : (List (List (List Int))))), none, some (F (s2 : (List (List Int)))), none, none, none, some (F (s : (List Int))), none, none, none] : Rho)) (Et.isNO (Eo.v 5 (mark_2)) Eo.N) (fun hc => ?_) (fun hc => ?_) (fun j h_j => ?_)
          · refine Sk.setF (nxR (fun (s : (List Int)) => ([none, some (F (values : (List Int))), some (F (s1 : (List (List (List Int))))), none, some (F (s2 : (List (List Int)))), none, none, none, some (F (s : (List Int))), none, none, none] : Rho))) 8 (Eo.v 1 (values)) (fun some_' h_some_' => ?_)
            exact Sk.nx (Le.skip (Le.cons (Le.cons (Le.skip (Le.cons (Le.skip (Le.skip (Le.skip (Le.cons (Le.skip (Le.skip (Le.skip Le.nil))))))))))))
          · refine Sk.re 8 (t := F (some_)) (u := F ([mark_2.getD 0] : (List Int))) (by rw [h_some_]; exact re_some hc) ?_
            exact Sk.nx (Le.skip (Le.cons (Le.cons (Le.skip (Le.cons (Le.skip (Le.skip (Le.skip (Le.cons (Le.skip (Le.skip (Le.skip Le.nil))))))))))))
          -- on
          have hjl : j.length = if mark_2.isNone = true then values.length else 1 := by rw [h_j]; cases mark_2 <;> rfl
          refine Sk.setF (nxR (fun (s2 : (List (List Int))) => ([none, some (F (values : (List Int))), some (F (s1 : (List (List (List Int))))), none, some (F (s2 : (List (List Int)))), none, none, none, none, none, none, none] : Rho))) 9 (Eo.frO (show Eo _ _ _ _ (oL ([] : (List (List Int)))) from Eo.lst Ea.nil)) (fun longer h_longer => ?_)
          refine Sk.forI (nxR (fun (s2 : (List (List Int))) => ([none, some (F (values : (List Int))), some (F (s1 : (List (List (List Int))))), none, some (F (s2 : (List (List Int)))), none, none, none, none, none, none, none] : Rho))) s2 enc (fun (s3 : (List (List Int))) (one_3 : (List Int)) =>
            letv (α := (List (List Int))) (s3 ++ ((j).map (fun (value : Int) => (one_3 ++ ([value] : (List Int)))))) fun longer' =>
              longer') (longer : (List (List Int))) (fun (s3 : (List (List Int))) => ([none, some (F (values : (List Int))), some (F (s1 : (List (List (List Int))))), none, none, none, none, none, some (F (j : (List Int))), some (F (s3 : (List (List Int)))), none, none] : Rho)) (fun (i_3 : Nat) (s3 : (List (List Int))) => s3.length = i_3 * j.length) (Ei.lst (Eo.v 4 (s2))) (Le.skip (Le.cons (Le.cons (Le.skip (Le.skip (Le.skip (Le.skip (Le.skip (Le.cons (Le.cons (Le.skip (Le.skip Le.nil)))))))))))) (by subst h_longer; simp) (fun i_3 s3 one_3 hx_3 iv_3 => ?_) (fun l3_ h_l3_ iv_l3_ => ?_)
          · have hx_3_m := List.mem_of_getElem? hx_3
            have hx_3_l := iv_2.2 _ hx_3_m
            have hk := (List.getElem?_eq_some_iff.mp hx_3).1
            have hb3 : (i_3 + 1) * j.length ≤ 1000 := Nat.le_trans (Nat.mul_le_mul (Nat.le_trans hk iv_2.1) (Nat.le_of_eq hjl)) hb2
            rw [Nat.succ_mul] at hb3
            refine ⟨ForTurn.name 10 (Sk.ss ?_), by simp only [letv, List.length_append, List.length_map, Nat.succ_mul]; omega⟩
            · refine Sk.setF (nxR (fun (s3 : (List (List Int))) => ([none, some (F (values : (List Int))), some (F (s1 : (List (List (List Int))))), none, none, none, none, none, some (F (j : (List Int))), some (F (s3 : (List (List Int)))), none, none] : Rho))) 9 (Eo.frO (Eo.catL (Eo.v 9 (s3)) (Eo.frO (Eo.lcL j enc (fun (value : Int) => (one_3 ++ ([value] : (List Int)))) [("value", 11)] (Ei.lst (Eo.v 8 (j))) (by simp only [List.length_append, List.length_map, List.length_singleton, sizeLine_eq]; omega) (fun value hvalue => LcTurn.name 11 Ets.nil (fun hc => (Eo.frO (Eo.catL (Eo.v 10 (one_3)) (Eo.frO (show Eo _ _ _ _ (oL ([value] : (List Int))) from Eo.lst (Ea.cons (Eo.v 11 (value)) Ea.nil) (by first | decide | (simp only [List.map_cons, List.map_nil, List.length_cons, List.length_nil, sizeLine_eq]; omega)))) (by simp only [List.length_append, List.length_map, List.length_singleton, sizeLine_eq]; omega))))))) (by simp only [List.length_append, List.length_map, List.length_singleton, sizeLine_eq]; omega))) (fun longer' h_longer' => ?_)
              exact Sk.nx (Le.skip (Le.cons (Le.cons (Le.skip (Le.skip (Le.skip (Le.skip (Le.skip (Le.cons (Le.cons (Le.skip (Le.skip Le.nil))))))))))))
          refine Sk.setF (nxR (fun (s2 : (List (List Int))) => ([none, some (F (values : (List Int))), some (F (s1 : (List (List (List Int))))), none, some (F (s2 : (List (List Int)))), none, none, none, none, none, none, none] : Rho))) 4 (Eo.v 9 (l3_)) (fun rows' h_rows' => ?_)
          exact Sk.nx (Le.skip (Le.cons (Le.cons (Le.skip (Le.cons (Le.skip (Le.skip (Le.skip (Le.skip (Le.skip (Le.skip (Le.skip Le.nil))))))))))))
      have hl2 : l2_.length ≤ 1000 := Nat.le_trans iv_l2_.1 (pow_bound hv1 hpw hn1 (nn_le row_1 _))
      refine Sk.setF (nxR (fun (s1 : (List (List (List Int)))) => ([none, some (F (values : (List Int))), some (F (s1 : (List (List (List Int))))), none, none, none, none, none, none, none, none, none] : Rho))) 6 (Eo.frO (show Eo _ _ _ _ (oL ([] : (List (List (List Int))))) from Eo.lst Ea.nil)) (fun more h_more => ?_)
      refine Sk.forI (nxR (fun (s1 : (List (List (List Int)))) => ([none, some (F (values : (List Int))), some (F (s1 : (List (List (List Int))))), none, none, none, none, none, none, none, none, none] : Rho))) s1 enc (fun (s4 : (List (List (List Int)))) (before_4 : (List (List Int))) =>
        letv (α := (List (List (List Int)))) (s4 ++ ((l2_).map (fun (one : (List Int)) => (before_4 ++ ([one] : (List (List Int))))))) fun more' =>
          more') (more : (List (List (List Int)))) (fun (s4 : (List (List (List Int)))) => ([none, some (F (values : (List Int))), none, none, some (F (l2_ : (List (List Int)))), none, some (F (s4 : (List (List (List Int))))), none, none, none, none, none] : Rho)) (fun (i_4 : Nat) (s4 : (List (List (List Int)))) => s4.length = i_4 * l2_.length) (Ei.lst (Eo.v 2 (s1))) (Le.skip (Le.cons (Le.skip (Le.skip (Le.cons (Le.skip (Le.cons (Le.skip (Le.skip (Le.skip (Le.skip (Le.skip Le.nil)))))))))))) (by subst h_more; simp) (fun i_4 s4 before_4 hx_4 iv_4 => ?_) (fun l4_ h_l4_ iv_l4_ => ?_)
      · have hx_4_m := List.mem_of_getElem? hx_4
        have hx_4_l := iv_1.2 _ hx_4_m
        have hk4 := (List.getElem?_eq_some_iff.mp hx_4).1
        have hb4 : (i_4 + 1) * l2_.length ≤ 1000 := mul_bound hv1 hpw hx_1 (Nat.le_trans hk4 iv_1.1) iv_l2_.1
        rw [Nat.succ_mul] at hb4
        refine ⟨ForTurn.name 7 (Sk.ss ?_), by simp only [letv, List.length_append, List.length_map, Nat.succ_mul]; omega⟩
        · refine Sk.setF (nxR (fun (s4 : (List (List (List Int)))) => ([none, some (F (values : (List Int))), none, none, some (F (l2_ : (List (List Int)))), none, some (F (s4 : (List (List (List Int))))), none, none, none, none, none] : Rho))) 6 (Eo.frO (Eo.catL (Eo.v 6 (s4)) (Eo.frO (Eo.lcL l2_ enc (fun (one : (List Int)) => (before_4 ++ ([one] : (List (List Int))))) [("one", 10)] (Ei.lst (Eo.v 4 (l2_))) (by simp only [List.length_append, List.length_map, List.length_singleton, sizeLine_eq]; omega) (fun one hone => LcTurn.name 10 Ets.nil (fun hc => (Eo.frO (Eo.catL (Eo.v 7 (before_4)) (Eo.frO (show Eo _ _ _ _ (oL ([one] : (List (List Int)))) from Eo.lst (Ea.cons (Eo.v 10 (one)) Ea.nil) (by first | decide | (simp only [List.map_cons, List.map_nil, List.length_cons, List.length_nil, sizeLine_eq]; omega)))) (by simp only [List.length_append, List.length_map, List.length_singleton, sizeLine_eq]; omega))))))) (by simp only [List.length_append, List.length_map, List.length_singleton, sizeLine_eq]; omega))) (fun more' h_more' => ?_)
          exact Sk.nx (Le.skip (Le.cons (Le.skip (Le.skip (Le.cons (Le.skip (Le.cons (Le.skip (Le.skip (Le.skip (Le.skip (Le.skip Le.nil))))))))))))
      refine Sk.setF (nxR (fun (s1 : (List (List (List Int)))) => ([none, some (F (values : (List Int))), some (F (s1 : (List (List (List Int))))), none, none, none, none, none, none, none, none, none] : Rho))) 2 (Eo.v 6 (l4_)) (fun found' h_found' => ?_)
      exact Sk.nx (Le.skip (Le.cons (Le.cons (Le.skip (Le.skip (Le.skip (Le.skip (Le.skip (Le.skip (Le.skip (Le.skip (Le.skip Le.nil))))))))))))
  exact Sk.retF (Eo.v 2 (l1_))
abbrev s_law_word : Stmt := topS 16
theorem sc_law_word : FnScope ["fillings", "drop", "places", "player", "good", "marks"] ["fillings", "drop", "places", "player"] (defScope s_law_word) := ⟨rfl, rfl, rfl, by decide +kernel, rfl, by decide +kernel, by decide +kernel⟩
def m_law_word (fillings : (List (List (List Int)))) (drop : Int) (places : Int) (player : Int) : Str :=
  letv (α := Int) ((((fillings).filter (fun (marks : (List (List Int))) => (decide ((getI (m_law_ranks marks drop) player) ≤ places)))).map (fun (marks : (List (List Int))) => marks)).length : Int) fun good =>
  if (decide (good = (fillings.length : Int))) = true then
    (("in" : Str))
  else
    ((getI [("open" : Str), ("out" : Str)] (if (decide (good = (0 : Int))) = true then (1 : Int) else 0)))
def R_law_word : List PyData → OD → Prop := fun ds t => ∃ (fillings : (List (List (List Int)))) (drop : Int) (places : Int) (player : Int), ds = [enc fillings, enc drop, enc places, enc player] ∧ (fillings.length ≤ 1000 ∧ 0 ≤ drop ∧ drop < 1000 ∧ ∀ marks ∈ fillings, marks.length ≤ 1000 ∧ 0 ≤ player ∧ player < marks.length ∧ ∀ row ∈ marks, 2 * drop ≤ (row.length : Int)) ∧ t = F (m_law_word fillings drop places player)
structure Ds_law_word (g : Pg) (k : Nat) : Prop where
  d_law_ranks : Def g k "_law_ranks" R_law_ranks
theorem ss_law_word {g : Pg} {k : Nat} (hb : Bi g) (hd : Ds_law_word g k) : ∀ ds t, R_law_word ds t → Ss ⟨g, ["fillings", "drop", "places", "player", "good", "marks"], k⟩ (.top (defScope s_law_word)) (defBody s_law_word) (startR ["fillings", "drop", "places", "player", "good", "marks"] ds) (.rt t) := by
  rintro ds t ⟨fillings, drop, places, player, rfl, hpre, rfl⟩
  show Sk _ _ _ [] _ (rtF (m_law_word fillings drop places player))
  unfold m_law_word
  refine Sk.setF (rtF (α := Str)) 4 (Eo.lenL hb.b_len (Eo.frO (Eo.lcP fillings enc (fun (marks : (List (List Int))) => (decide ((getI (m_law_ranks marks drop) player) ≤ places))) (fun (marks : (List (List Int))) => marks) [("marks", 5)] (Ei.lst (Eo.v 0 (fillings))) (by simp only [rangeI_length, sizeLine_eq]; omega) (fun marks hmarks => LcTurn.name 5 (Ets.one (Et.lle (Eo.idx (α := Int) (Eo.frO (Eo.call hd.d_law_ranks (⟨marks, drop, rfl, (by obtain ⟨q1, q2, q3, q4⟩ := hpre.2.2.2 _ hmarks; (repeat' apply And.intro) <;> first | assumption | omega), rfl⟩ : R_law_ranks _ _) (Ea.cons (Eo.v 5 (marks)) (Ea.cons (Eo.v 1 (drop)) Ea.nil)))) (Eo.v 3 (player)) (by first | (obtain ⟨q1, q2, q3, q4⟩ := hpre.2.2.2 _ hmarks; have hml := m_law_ranks_len marks drop; unfold InB; omega) | (unfold InB; simp only [List.length_cons, List.length_nil]; split <;> omega))) (Eo.v 2 (places)))) (fun hc => (Eo.v 5 (marks))))))) (fun good h_good => ?_)
  refine Sk.ifT (rtF (α := Str)) (Et.eqI (Eo.v 4 (good)) (Eo.lenL hb.b_len (Eo.v 0 (fillings)))) (fun hc => ?_) (fun hc => ?_)
  · exact Sk.retF Eo.S
  · refine Sk.pop ?_
    exact Sk.retF (Eo.idx (α := Str) (Eo.frO (show Eo _ _ _ _ (oL ([("open" : Str), ("out" : Str)] : (List Str))) from Eo.lst (Ea.cons Eo.S (Ea.cons Eo.S Ea.nil)) (by first | decide | (simp only [List.map_cons, List.map_nil, List.length_cons, List.length_nil, sizeLine_eq]; omega)))) (Eo.intB hb.b_int (Eo.eqI (Eo.v 4 (good)) Eo.I)) (by first | (obtain ⟨q1, q2, q3, q4⟩ := hpre.2.2.2 _ hmarks; have hml := m_law_ranks_len marks drop; unfold InB; omega) | (unfold InB; simp only [List.length_cons, List.length_nil]; split <;> omega)))
abbrev s_law : Stmt := topS 17
theorem sc_law : FnScope ["script", "marks", "drop", "draws", "k", "row", "kept", "values", "fillings", "best", "before", "places", "due", "turn", "told", "order", "many", "j", "player", "low", "high", "word", "rank", "mark"] ["script"] (defScope s_law) := ⟨rfl, rfl, rfl, by decide +kernel, rfl, by decide +kernel, by decide +kernel⟩
def m_law (script : (List Int)) : Bool :=
  letv2 (α := (List (List (Option Int)))) (β := Int) (m_law_marks script (0 : Int) (5 : Int) (5 : Int)) fun marks drop =>
  letv (α := (List Int)) (m_law_numbers (m_law_cell script (1 : Int)) (20 : Int) (5040 : Int)) fun draws =>
  letv (α := (List (List (Option Int)))) (((rangeI 0 (((getI draws (0 : Int)) % (4 : Int))).toNat)).foldl (fun (s1 : (List (List (Option Int)))) (k_1 : Int) =>
    letv (α := (List (Option Int))) (getI s1 ((getI draws ((1 : Int) + k_1)) % (s1.length : Int))) fun row =>
      letv (α := (List (Option Int))) (setI row ((getI draws ((5 : Int) + k_1)) % (row.length : Int)) (none : (Option Int))) fun row' =>
      (s1.set (((getI draws ((1 : Int) + k_1)) % (s1.length : Int))).toNat row')) (marks : (List (List (Option Int))))) fun l1_ =>
  letv (α := Str) (enc l1_).shown fun kept =>
  letv (α := (List Int)) [(0 : Int), (100 : Int)] fun values =>
  letv (α := (List Int)) (if (!(decide (((getI draws (9 : Int)) % (101 : Int)) ∈ values))) = true then
    letv (α := (List Int)) ([(0 : Int), ((getI draws (9 : Int)) % (101 : Int)), (100 : Int)] : (List Int)) fun values' =>
    values'
  else
    values) fun j =>
  letv (α := (List (List (List Int)))) (m_law_fillings l1_ j) fun fillings =>
  letv (α := (List Str)) [("out" : Str), ("open" : Str), ("in" : Str)] fun best =>
  letv (α := (List Str)) ((l1_).map (fun (row : (List (Option Int))) => ("out" : Str))) fun before =>
  (Fl.out (forE (fun (s2 : (List Str)) (places_2 : Int) =>
    (letv (α := (List Str)) (((rangeI 0 ((l1_.length : Int)).toNat)).map (fun (player : Int) => (m_law_word fillings drop places_2 player))) fun due =>
      (Fl.out (forE (fun (s3 : Unit) (turn_3 : Int) =>
        (letv (α := (List Str)) (m_chances l1_ drop places_2) fun told =>
          if ((!(decide (told = due))) || (!decide ((enc l1_).shown = kept))) = true then
            (Fl.rt (false))
          else
            letv (α := (List Str)) (told ++ [("in" : Str)]) fun told' =>
            (Fl.nx ()) : Fl (Unit) Bool)) (rangeI 0 ((2 : Int)).toNat) (() : Unit)) (fun (l3_ : Unit) =>
      if (decide ((((((rangeI 0 ((due.length : Int)).toNat)).filter (fun (k : Int) => (decide (((best.idxOf (getI due k) : Nat) : Int) < ((best.idxOf (getI s2 k) : Nat) : Int))))).map (fun (k : Int) => k)).length : Int) > (0 : Int))) = true then
        (Fl.rt (false))
      else
        letv (α := (List Str)) due fun before' =>
        (Fl.nx before')) (fun q => Fl.rt q)) : Fl ((List Str)) Bool)) (rangeI (1 : Int) (((l1_.length : Int) + (1 : Int)) - (1 : Int)).toNat) (before : (List Str))) (fun (l2_ : (List Str)) =>
  (Fr.out (if (decide ((fillings.length : Int) = (1 : Int))) = true then
    (letv (α := (List Int)) (m_ranks (l1_.map (fun (r : List (Option Int)) => r.map (fun (o : Option Int) => o.getD 0))) drop) fun order =>
    if (!decide ((m_chances l1_ drop (1 : Int)) = ((order).map (fun (rank : Int) => (getI [("out" : Str), ("in" : Str)] (if (decide (rank = (1 : Int))) = true then (1 : Int) else 0)))))) = true then
      (Fr.rt (false))
    else
      (Fr.nx ()) : Fr (Unit) Bool)
  else
    (Fr.nx ())) (fun (j' : Unit) =>
    letv2 (α := (List (List (Option Int)))) (β := Int) (m_law_marks script (2 : Int) (30 : Int) (4 : Int)) fun many drop' =>
  letv (α := (List (List (Option Int)))) (((rangeI 0 ((many.length : Int)).toNat)).foldl (fun (s4 : (List (List (Option Int)))) (k_4 : Int) =>
    letv (α := (List (Option Int))) (getI s4 k_4) fun row'' =>
      letv (α := (List (Option Int))) (((rangeI 0 ((row''.length : Int)).toNat)).foldl (fun (s5 : (List (Option Int))) (j_5 : Int) =>
        letv (α := (List (Option Int))) (if (decide ((((getI draws ((k_4 + j_5) % (20 : Int))) / ((1 : Int) + j_5)) % (3 : Int)) = (0 : Int))) = true then
            letv (α := (List (Option Int))) (setI s5 j_5 (none : (Option Int))) fun row''' =>
            row'''
          else
            s5) fun j'' =>
          j'') (row'' : (List (Option Int)))) fun l5_ =>
      (s4.set (k_4).toNat l5_)) (many : (List (List (Option Int))))) fun l4_ =>
  letv (α := Int) ((1 : Int) + ((getI draws (10 : Int)) % (l4_.length : Int))) fun places =>
  letv (α := (List Str)) (m_chances l4_ drop' places) fun told'' =>
  (Fl.out (forE (fun (s6 : Unit) (player_6 : Int) =>
    (letv (α := (List (List Int))) (((rangeI 0 ((l4_.length : Int)).toNat)).map (fun (k : Int) => (((getI l4_ k)).map (fun (mark : (Option Int)) => (mark.getD (getI [(100 : Int), (0 : Int)] (if (decide (k = player_6)) = true then (1 : Int) else 0))))))) fun low =>
      letv (α := (List (List Int))) (((rangeI 0 ((l4_.length : Int)).toNat)).map (fun (k : Int) => (((getI l4_ k)).map (fun (mark : (Option Int)) => (mark.getD (getI [(0 : Int), (100 : Int)] (if (decide (k = player_6)) = true then (1 : Int) else 0))))))) fun high =>
      letv (α := Str) ("out" : Str) fun word =>
      letv (α := Str) (if (decide ((getI (m_law_ranks high drop') player_6) ≤ places)) = true then
        letv (α := Str) ("open" : Str) fun word' =>
        word'
      else
        word) fun j''' =>
      letv (α := Str) (if (decide ((getI (m_law_ranks low drop') player_6) ≤ places)) = true then
        letv (α := Str) ("in" : Str) fun word'' =>
        word''
      else
        j''') fun j'''' =>
      if (!decide ((getI told'' player_6) = j'''')) = true then
        (Fl.rt (false))
      else
        (Fl.nx ()) : Fl (Unit) Bool)) (rangeC (0 : Int) (7 : Int) (cntUp (0 : Int) (l4_.length : Int) (7 : Int))) (() : Unit)) (fun (l6_ : Unit) =>
  ((decide (l2_ = ((l1_).map (fun (row : (List (Option Int))) => ("in" : Str))))))) (fun q => q))) (fun q => q))) (fun q => q))
def R_law : List PyData → OD → Prop := fun ds t => ∃ (script : (List Int)), ds = [enc script] ∧ t = F (m_law script)
structure Ds_law (g : Pg) (k : Nat) : Prop where
  d_law_marks : Def g k "_law_marks" R_law_marks
  d_law_numbers : Def g k "_law_numbers" R_law_numbers
  d_law_fillings : Def g k "_law_fillings" R_law_fillings
  d_chances : Def g k "chances" R_chances
  d_law_cell : Def g k "_law_cell" R_law_cell
  d_ranks : Def g k "ranks" R_ranks
  d_law_word : Def g k "_law_word" R_law_word
  d_law_ranks : Def g k "_law_ranks" R_law_ranks
  d_law_same : Def g k "_law_same" (R_same 8)
theorem rangeC_get {n c : Int} {i : Nat} {x : Int} (h : (rangeC 0 c (cntUp 0 n c))[i]? = some x) (hc : 0 < c) : 0 ≤ x ∧ x < n := by
  have hi := (List.getElem?_eq_some_iff.mp h).1
  have hi' : i < cntUp 0 n c := by simpa [rangeC] using hi
  unfold rangeC at h
  rw [List.getElem?_map, List.getElem?_range hi'] at h
  cases h
  unfold cntUp at hi'
  split at hi'
  · have h1 := Int.ediv_mul_le (n - 0 - 1) (show c ≠ 0 by omega)
    have h2 : (i : Int) ≤ (n - 0 - 1) / c := by omega
    have h3 := Int.mul_le_mul_of_nonneg_right h2 (show 0 ≤ c by omega)
    have h4 : 0 ≤ (i : Int) * c := Int.mul_nonneg (by omega) (by omega)
    show 0 ≤ 0 + (i : Int) * c ∧ 0 + (i : Int) * c < n
    omega
  · omega
structure MkO (marks : List (List (Option Int))) (drop : Int) : Prop where
  ne : 1 ≤ marks.length
  le : marks.length ≤ 30
  d0 : 0 ≤ drop
  many : ∃ m : Int, 1 ≤ m ∧ m ≤ 9 ∧ 2 * drop + 1 ≤ m ∧ ∀ row ∈ marks, (row.length : Int) = m
  val : ∀ row ∈ marks, ∀ o ∈ row, ∀ x, o = some x → 0 ≤ x ∧ x < 101
theorem MkO.shows {marks : List (List (Option Int))} {drop : Int} (h : MkO marks drop) : Shows (enc marks) := by
  obtain ⟨h1, h2, h3, ⟨m, m1, m2, m3, m4⟩, h5⟩ := h
  refine shows_of (n := 2 + 30 * ((2 + 9 * (4 + 2)) + 2)) (ShowN.listE (fun row hrow => ShowN.listE (fun o ho => ?_) ?_) h2) (by decide)
  · cases o with
    | none => exact ⟨rfl, by decide +kernel⟩
    | some x =>
      have := h5 row hrow _ ho x rfl
      exact ShowN.mono (ShowN.int (k := 3) (by decide) (by decide) this.1 (by omega)) (by decide)
  · have := m4 row hrow; omega
theorem MkO.sz {marks : List (List (Option Int))} {drop : Int} (h : MkO marks drop) : Sz marks := by
  obtain ⟨h1, h2, h3, ⟨m, m1, m2, m3, m4⟩, h5⟩ := h
  exact ⟨by omega, fun row hrow => by have := m4 row hrow; omega⟩
theorem nn_set (row : List (Option Int)) (j : Nat) : nn (row.set j none) ≤ nn row + 1 := by
  by_cases h : j < row.length
  · unfold nn
    rw [List.countP_set h]
    simp
  · rw [List.set_eq_of_length_le (by omega)]; omega
theorem nns_set {s : List (List (Option Int))} {k : Nat} (r : List (Option Int)) (hk : k < s.length) : nns (s.set k r) + nn s[k] = nns s + nn r := by
  have e : s = s.take k ++ s[k] :: s.drop (k + 1) := by rw [← List.drop_eq_getElem_cons hk, List.take_append_drop]
  have e2 : s.set k r = s.take k ++ r :: s.drop (k + 1) := List.set_eq_take_append_cons_drop ▸ by rw [if_pos hk]
  have e3 : nns s = nns (s.take k) + (nn s[k] + nns (s.drop (k + 1))) := by
    conv => lhs; rw [e]
    unfold nns
    rw [List.map_append, List.sum_append, List.map_cons, List.sum_cons]
  rw [e2, e3]
  unfold nns
  rw [List.map_append, List.sum_append, List.map_cons, List.sum_cons]
  omega
theorem mk_set {s : List (List (Option Int))} {drop : Int} {k : Nat} {r : List (Option Int)} (h : MkO s drop) (hk : k < s.length) (hl : r.length = s[k].length) (hv : ∀ o ∈ r, o = none ∨ o ∈ s[k]) : MkO (s.set k r) drop := by
  obtain ⟨h1, h2, h3, ⟨m, m1, m2, m3, m4⟩, h5⟩ := h
  refine ⟨by rw [List.length_set]; exact h1, by rw [List.length_set]; exact h2, h3, ⟨m, m1, m2, m3, fun row hrow => ?_⟩, fun row hrow o ho x hx => ?_⟩
  · rcases List.mem_or_eq_of_mem_set hrow with e | e
    · exact m4 row e
    · rw [e, hl]; exact m4 _ (List.getElem_mem hk)
  · rcases List.mem_or_eq_of_mem_set hrow with e | e
    · exact h5 row e o ho x hx
    · subst e
      rcases hv o ho with e | e
      · rw [e] at hx; cases hx
      · exact h5 _ (List.getElem_mem hk) o e x hx
theorem nns_some (v : List (List Int)) : nns (v.map (fun r => r.map some)) = 0 := by
  induction v with
  | nil => rfl
  | cons r rs ih =>
    unfold nns at ih ⊢
    rw [List.map_cons, List.map_cons, List.sum_cons, ih]
    unfold nn
    rw [List.countP_map]
    have : List.countP (Option.isNone ∘ some) r = 0 := by
      rw [List.countP_eq_zero]
      intro a _
      simp
    rw [this]
theorem m_marks_ok (script : List Int) (at_ players ears : Int) (h : 0 ≤ at_) (hp : 0 < players ∧ players ≤ 30) (he : 0 < ears ∧ ears ≤ 9) : MkO (m_law_marks script at_ players ears).1 (m_law_marks script at_ players ears).2 ∧ nns (m_law_marks script at_ players ears).1 = 0 := by
  have hc0 := Int.emod_nonneg (getI (m_law_numbers (m_law_cell script at_) 60 5040) 0) (show players ≠ 0 by omega)
  have hc1 := Int.emod_lt_of_pos (getI (m_law_numbers (m_law_cell script at_) 60 5040) 0) (show 0 < players by omega)
  have hm0 := Int.emod_nonneg (getI (m_law_numbers (m_law_cell script at_) 60 5040) 1) (show ears ≠ 0 by omega)
  have hm1 := Int.emod_lt_of_pos (getI (m_law_numbers (m_law_cell script at_) 60 5040) 1) (show 0 < ears by omega)
  unfold m_law_marks letv
  dsimp only
  revert hc0 hc1 hm0 hm1
  generalize m_law_numbers (m_law_cell script at_) 60 5040 = draws
  intro hc0 hc1 hm0 hm1
  have hd0 := Int.emod_nonneg (getI draws 3) (show ((1 + getI draws 1 % ears + 1) / 2 : Int) ≠ 0 by omega)
  have hd1 := Int.emod_lt_of_pos (getI draws 3) (show 0 < ((1 + getI draws 1 % ears + 1) / 2 : Int) by omega)
  refine ⟨⟨?_, ?_, hd0, ⟨1 + getI draws 1 % ears, by omega, by omega, by omega, fun row hrow => ?_⟩, fun row hrow o ho x hx => ?_⟩, ?_⟩
  · rw [List.length_map, rangeI_length]; omega
  · rw [List.length_map, rangeI_length]; omega
  · obtain ⟨p, _, rfl⟩ := List.mem_map.mp hrow
    rw [List.length_map, rangeI_length]; omega
  · obtain ⟨p, _, rfl⟩ := List.mem_map.mp hrow
    obtain ⟨k, _, rfl⟩ := List.mem_map.mp ho
    have q := getI_all (P := fun z : Int => 0 < z ∧ z ≤ 101) (xs := [(3 : Int), 11, 101]) (i := getI draws 2 % 3) (by decide) (by unfold InB; simp only [List.length_cons, List.length_nil]; omega)
    have q1 := Int.emod_nonneg (getI draws ((4 + (1 + getI draws 1 % ears) * p + k) % 60)) (show getI [(3 : Int), 11, 101] (getI draws 2 % 3) ≠ 0 by omega)
    have q2 := Int.emod_lt_of_pos (getI draws ((4 + (1 + getI draws 1 % ears) * p + k) % 60)) q.1
    have hx' := Option.some.inj hx
    rw [← hx']
    exact ⟨q1, by omega⟩
  · have := nns_some ((rangeI 0 (1 + getI draws 0 % players).toNat).map (fun (p : Int) => (rangeI 0 (1 + getI draws 1 % ears).toNat).map (fun (k : Int) => getI draws ((4 + (1 + getI draws 1 % ears) * p + k) % 60) % getI [(3 : Int), 11, 101] (getI draws 2 % 3))))
    rw [List.map_map] at this
    have e : ∀ p : Int, ((fun (r : List Int) => r.map some) ∘ fun (p : Int) => (rangeI 0 (1 + getI draws 1 % ears).toNat).map (fun (k : Int) => getI draws ((4 + (1 + getI draws 1 % ears) * p + k) % 60) % getI [(3 : Int), 11, 101] (getI draws 2 % 3))) p = (rangeI 0 (1 + getI draws 1 % ears).toNat).map (fun (k : Int) => some (getI draws ((4 + (1 + getI draws 1 % ears) * p + k) % 60) % getI [(3 : Int), 11, 101] (getI draws 2 % 3))) := fun p => by
      simp only [Function.comp, List.map_map]
      rfl
    rw [List.map_congr_left fun p _ => e p] at this
    exact this
theorem setI_mem {row : List (Option Int)} {j : Int} {o : Option Int} (h : o ∈ setI row j none) : o = none ∨ o ∈ row := by
  unfold setI at h
  exact (List.mem_or_eq_of_mem_set h).symm
theorem mk_step {s : List (List (Option Int))} {drop a j : Int} {i : Nat} (h : MkO s drop ∧ nns s ≤ i) (ha : 0 ≤ a ∧ a < s.length) (hj : InB (getI s a) j) : MkO (s.set a.toNat (setI (getI s a) j none)) drop ∧ nns (s.set a.toNat (setI (getI s a) j none)) ≤ i + 1 := by
  obtain ⟨k, rfl⟩ : ∃ k : Nat, a = (k : Int) := ⟨a.toNat, by omega⟩
  have hk : k < s.length := by omega
  rw [Int.toNat_natCast, getI_nat hk]
  refine ⟨mk_set h.1 hk (setI_length _ _ _) fun o ho => setI_mem ho, ?_⟩
  have q := nns_set (setI s[k] j none) hk
  have q2 := nn_set s[k] ((ixN s[k].length j).getD 0)
  have q3 : nn (setI s[k] j none) ≤ nn s[k] + 1 := q2
  have := h.2
  omega
theorem fold_none (c : Int → Bool) (row : List (Option Int)) : ∀ (js : List Int) (r : List (Option Int)), (r.length = row.length ∧ ∀ o ∈ r, o = none ∨ o ∈ row) → (js.foldl (fun s j => if c j = true then setI s j none else s) r).length = row.length ∧ ∀ o ∈ js.foldl (fun s j => if c j = true then setI s j none else s) r, o = none ∨ o ∈ row
  | [], r, h => h
  | j :: js, r, h => by
    rw [List.foldl_cons]
    refine fold_none c row js _ ?_
    split
    · refine ⟨by rw [setI_length]; exact h.1, fun o ho => ?_⟩
      rcases setI_mem ho with e | e
      · exact .inl e
      · exact h.2 o e
    · exact h
theorem mk_many {s : List (List (Option Int))} {drop k : Int} {n : Nat} (c : Int → Bool) (js : List Int) (h : MkO s drop ∧ s.length = n) (hk : 0 ≤ k ∧ k < s.length) : MkO (s.set k.toNat (js.foldl (fun s j => if c j = true then setI s j none else s) (getI s k))) drop ∧ (s.set k.toNat (js.foldl (fun s j => if c j = true then setI s j none else s) (getI s k))).length = n := by
  obtain ⟨m, rfl⟩ : ∃ m : Nat, k = (m : Int) := ⟨k.toNat, by omega⟩
  have hm : m < s.length := by omega
  rw [Int.toNat_natCast, getI_nat hm]
  have q := fold_none c s[m] js s[m] ⟨rfl, fun o ho => .inr ho⟩
  exact ⟨mk_set h.1 hm q.1 q.2, by rw [List.length_set]; exact h.2⟩
def words : List Str := ["out", "open", "in"]
theorem words_ok {w : Str} (h : w ∈ words) : (PyData.str w).canLay0 = true := by
  have : ∀ w ∈ words, (PyData.str w).canLay0 = true := by decide +kernel
  exact this w h
theorem chance_word (marks : List (List (Option Int))) (drop places player : Int) : m_chance_of marks drop places player ∈ words := by
  unfold m_chance_of
  split
  · decide
  · split <;> decide
theorem law_word (fs : List (List (List Int))) (drop places player : Int) : m_law_word fs drop places player ∈ words := by
  unfold m_law_word letv
  dsimp only
  split
  · decide
  · split <;> decide
theorem out_if {α : Type} {r : Fl Unit Bool} {c : Bool} {due s' : α} (h : Fl.out r (fun _ => if c = true then Fl.rt false else Fl.nx due) (fun q => Fl.rt q) = Fl.nx s') : s' = due := by
  cases r <;> cases c <;> simp [Fl.out] at h <;> exact h.symm
theorem out_nb {α : Type} {r : Fl Unit Bool} {c : Bool} {due s' : α} (h : Fl.out r (fun _ => if c = true then Fl.rt false else Fl.nx due) (fun q => Fl.rt q) = Fl.bk s') : False := by
  cases r <;> cases c <;> simp [Fl.out] at h
theorem forE_nobk {α β γ : Type} {step : α → β → Fl α γ} (h : ∀ s x s', step s x = .bk s' → False) : ∀ (xs : List β) (s z : α), forE step xs s ≠ .bk z
  | [], s, z, e => by cases e
  | x :: xs, s, z, e => by
    rw [forE_cons] at e
    cases q : step s x with
    | nx s1 => rw [q] at e; exact forE_nobk h xs s1 z e
    | bk s1 => exact h s x s1 q
    | rt r => rw [q] at e; cases e
theorem m_chances_len (marks : List (List (Option Int))) (drop places : Int) : (m_chances marks drop places).length = marks.length := by
  unfold m_chances
  rw [List.length_map, rangeI_length]; omega
theorem chances_strs (marks : List (List (Option Int))) (drop places : Int) : ∀ x ∈ m_chances marks drop places, (PyData.str x).canLay0 = true := fun x hx => by
  unfold m_chances at hx
  obtain ⟨p, _, rfl⟩ := List.mem_map.mp hx
  exact words_ok (chance_word _ _ _ _)
theorem ranks_strs (order : List Int) : ∀ x ∈ order.map (fun (rank : Int) => getI [("out" : Str), ("in" : Str)] (if decide (rank = 1) = true then (1 : Int) else 0)), (PyData.str x).canLay0 = true := fun x hx => by
  obtain ⟨p, _, rfl⟩ := List.mem_map.mp hx
  refine words_ok ?_
  split <;> decide
theorem ins_strs {α : Type} (xs : List α) : ∀ x ∈ xs.map (fun _ => ("in" : Str)), (PyData.str x).canLay0 = true := fun x hx => by
  obtain ⟨_, _, rfl⟩ := List.mem_map.mp hx
  decide +kernel
def ValsOk (values : List Int) : Prop := 2 ≤ values.length ∧ values.length ≤ 3 ∧ (0 ∈ values ∧ 100 ∈ values) ∧ ∀ x ∈ values, 0 ≤ x ∧ x < 101
theorem vals_ok {v : List Int} (k : Bool) (d : Int) (h1 : 0 ≤ d) (h2 : d < 101) (hv : v = [0, 100]) : ValsOk (if k = true then letv [0, d, 100] fun v' => v' else v) := by
  subst hv
  cases k with
  | true => exact ⟨by simp [letv], by simp [letv], ⟨by simp [letv], by simp [letv]⟩, fun x hx => by simp [letv] at hx; omega⟩
  | false => exact ⟨by simp, by simp, ⟨by simp, by simp⟩, fun x hx => by simp at hx; omega⟩
theorem pow27 {a b : Nat} (ha : a ≤ 3) (hb : b ≤ 3) : a ^ b ≤ 1000 := Nat.le_trans (Nat.pow_le_pow_left ha b) (Nat.le_trans (Nat.pow_le_pow_right (by decide) hb) (by decide))
theorem fil_len (marks : List (List (Option Int))) (values : List Int) : (m_law_fillings marks values).length = values.length ^ nns marks := by
  rw [fil_eq]
  have : ∀ (n : Nat), ((marks.take n).foldl (filS values) [[]]).length = values.length ^ nns (marks.take n) := by
    intro n
    induction n with
    | zero => simp [nns]
    | succ n ih =>
      cases hx : marks[n]? with
      | none =>
        have hn := List.getElem?_eq_none_iff.mp hx
        rw [List.take_of_length_le (by omega)]
        rw [List.take_of_length_le hn] at ih
        exact ih
      | some o =>
        rw [nns_take hx, List.take_add_one, hx, List.foldl_append, Nat.pow_add]
        show ((List.foldl (filS values) [[]] (marks.take n)).flatMap fun before => (rowF values o).map fun one => before ++ [one]).length = _
        rw [flatMap_len _ (rowF values o).length (fun x => by rw [List.length_map]), rowF_len, ih]
  have := this marks.length
  rwa [List.take_length] at this
/-- x fills o -/
def Fill (values : List Int) (o : Option Int) (x : Int) : Prop := x ∈ valsOf values o
inductive Fills {α β : Type} (P : α → β → Prop) : List α → List β → Prop
  | nil : Fills P [] []
  | cons {a : α} {b : β} {as : List α} {bs : List β} : P a b → Fills P as bs → Fills P (a :: as) (b :: bs)
theorem Fills.len {α β : Type} {P : α → β → Prop} : ∀ {as : List α} {bs : List β}, Fills P as bs → bs.length = as.length
  | [], _, .nil => rfl
  | a :: as, _, .cons _ t => by rw [List.length_cons, List.length_cons, Fills.len t]
theorem rows_mem (values : List Int) : ∀ (row : List (Option Int)) (s : List (List Int)) (one : List Int), one ∈ row.foldl (rowS values) s ↔ ∃ a b, one = a ++ b ∧ a ∈ s ∧ Fills (Fill values) row b
  | [], s, one => ⟨fun h => ⟨one, [], by simp, h, .nil⟩, fun ⟨a, b, e, h, t⟩ => by cases t; simpa [e] using h⟩
  | o :: row, s, one => by
    rw [List.foldl_cons, rows_mem values row]
    constructor
    · rintro ⟨a, b, e, h, t⟩
      unfold rowS at h
      obtain ⟨a1, h1, h2⟩ := List.mem_flatMap.mp h
      obtain ⟨v, hv, rfl⟩ := List.mem_map.mp h2
      exact ⟨a1, v :: b, by simp [e], h1, .cons hv t⟩
    · rintro ⟨a, b, e, h, t⟩
      cases t with
      | cons hv t =>
        rename_i v b
        refine ⟨a ++ [v], b, by simp [e], ?_, t⟩
        unfold rowS
        exact List.mem_flatMap.mpr ⟨a, h, List.mem_map.mpr ⟨v, hv, rfl⟩⟩
theorem rowF_mem {values : List Int} {row : List (Option Int)} {one : List Int} : one ∈ rowF values row ↔ Fills (Fill values) row one := by
  unfold rowF
  rw [rows_mem]
  constructor
  · rintro ⟨a, b, e, h, t⟩
    rw [List.mem_singleton.mp h] at e
    rw [e]; exact t
  · intro t
    exact ⟨[], one, rfl, by simp, t⟩
theorem fils_mem (values : List Int) : ∀ (marks : List (List (Option Int))) (s : List (List (List Int))) (f : List (List Int)), f ∈ marks.foldl (filS values) s ↔ ∃ a b, f = a ++ b ∧ a ∈ s ∧ Fills (Fills (Fill values)) marks b
  | [], s, f => ⟨fun h => ⟨f, [], by simp, h, .nil⟩, fun ⟨a, b, e, h, t⟩ => by cases t; simpa [e] using h⟩
  | r :: marks, s, f => by
    rw [List.foldl_cons, fils_mem values marks]
    constructor
    · rintro ⟨a, b, e, h, t⟩
      unfold filS at h
      obtain ⟨a1, h1, h2⟩ := List.mem_flatMap.mp h
      obtain ⟨v, hv, rfl⟩ := List.mem_map.mp h2
      exact ⟨a1, v :: b, by simp [e], h1, .cons (rowF_mem.mp hv) t⟩
    · rintro ⟨a, b, e, h, t⟩
      cases t with
      | cons hv t =>
        rename_i v b
        refine ⟨a ++ [v], b, by simp [e], ?_, t⟩
        unfold filS
        exact List.mem_flatMap.mpr ⟨a, h, List.mem_map.mpr ⟨v, rowF_mem.mpr hv, rfl⟩⟩
theorem fil_mem {values : List Int} {marks : List (List (Option Int))} {f : List (List Int)} : f ∈ m_law_fillings marks values ↔ Fills (Fills (Fill values)) marks f := by
  rw [fil_eq, fils_mem]
  constructor
  · rintro ⟨a, b, e, h, t⟩
    rw [List.mem_singleton.mp h] at e
    rw [e]; exact t
  · intro t
    exact ⟨[], f, rfl, by simp, t⟩
theorem Fills.all {α β : Type} {P : α → β → Prop} {Q : β → Prop} {R : α → Prop} (h : ∀ a b, R a → P a b → Q b) : ∀ {as : List α} {bs : List β}, Fills P as bs → (∀ a ∈ as, R a) → ∀ b ∈ bs, Q b
  | [], _, .nil, _, b, hb => by simp at hb
  | a :: as, _, .cons p t, hr, b, hb => by
    rcases List.mem_cons.mp hb with e | e
    · subst e; exact h a _ (hr a List.mem_cons_self) p
    · exact Fills.all h t (fun a ha => hr a (List.mem_cons_of_mem _ ha)) b e
def FilOk (marks : List (List (Option Int))) (drop : Int) (fillings : List (List (List Int))) : Prop := ∀ f ∈ fillings, f.length = marks.length ∧ ∀ row ∈ f, 2 * drop ≤ (row.length : Int)
theorem fil_ok {marks : List (List (Option Int))} {drop : Int} {values : List Int} {fs : List (List (List Int))} (h : MkO marks drop) (e : fs = m_law_fillings marks values) : FilOk marks drop fs := by
  subst e
  obtain ⟨h1, h2, h3, ⟨m, m1, m2, m3, m4⟩, h5⟩ := h
  intro f hf
  have t := fil_mem.mp hf
  refine ⟨t.len, Fills.all (R := fun a => (a.length : Int) = m) (fun a b ha p => ?_) t m4⟩
  rw [p.len]
  omega
theorem due_ok (fs : List (List (List Int))) (drop places : Int) (n : Nat) : ((rangeI 0 ((n : Int)).toNat).map (fun (player : Int) => m_law_word fs drop places player)).length = n ∧ ∀ w ∈ (rangeI 0 ((n : Int)).toNat).map (fun (player : Int) => m_law_word fs drop places player), w ∈ words := by
  refine ⟨by rw [List.length_map, rangeI_length]; omega, fun w hw => ?_⟩
  obtain ⟨p, _, rfl⟩ := List.mem_map.mp hw
  exact law_word _ _ _ _
theorem hl_ok (l : List (List (Option Int))) {m : Int} (f : Int → Option Int → Int) {high : List (List Int)} (e : high = (rangeI 0 ((l.length : Int)).toNat).map (fun (k : Int) => (getI l k).map (fun (mark : Option Int) => f k mark))) (h : ∀ row ∈ l, (row.length : Int) = m) : high.length = l.length ∧ ∀ row ∈ high, (row.length : Int) = m := by
  subst e
  refine ⟨by rw [List.length_map, rangeI_length]; omega, fun row hrow => ?_⟩
  obtain ⟨k, hk, rfl⟩ := List.mem_map.mp hrow
  have hk' := mem_rangeI.mp hk
  rw [List.length_map]
  exact h _ (getI_mem (by unfold InB; omega))
theorem word_pre {marks : List (List (Option Int))} {drop player : Int} {fillings : List (List (List Int))} (h1 : fillings.length ≤ 1000) (h2 : MkO marks drop) (h3 : FilOk marks drop fillings) (h4 : 0 ≤ player) (h5 : player < marks.length) : fillings.length ≤ 1000 ∧ 0 ≤ drop ∧ drop < 1000 ∧ ∀ marks ∈ fillings, marks.length ≤ 1000 ∧ 0 ≤ player ∧ player < marks.length ∧ ∀ row ∈ marks, 2 * drop ≤ (row.length : Int) := by
  obtain ⟨ho1, ho2, ho3, ⟨ho, ho4, ho5, ho6, ho7⟩, ho8⟩ := h2
  refine ⟨h1, ho3, by omega, fun f hf => ?_⟩
  obtain ⟨q1, q2⟩ := h3 f hf
  exact ⟨by omega, h4, by omega, q2⟩
theorem fil_one {marks : List (List (Option Int))} {values : List Int} {fs : List (List (List Int))} (hv : 2 ≤ values.length) (e : fs = m_law_fillings marks values) (h : decide ((fs.length : Int) = 1) = true) : ∀ r ∈ marks, ∀ o ∈ r, o.isSome = true := by
  have h1 : fs.length = 1 := by have := of_decide_eq_true h; omega
  rw [e, fil_len] at h1
  have h2 : nns marks = 0 := by
    cases q : nns marks with
    | zero => rfl
    | succ n =>
      rw [q] at h1
      have := Nat.lt_pow_self (n := n + 1) (show 1 < values.length by omega)
      omega
  intro r hr o ho
  have h3 := nns_mem hr
  have h4 : nn r = 0 := by omega
  unfold nn at h4
  have := List.countP_eq_zero.mp h4 o ho
  cases o with
  | none => simp at this
  | some x => rfl
theorem ss_law {g : Pg} {k : Nat} (hb : Bi g) (hd : Ds_law g k) : ∀ ds t, R_law ds t → Ss ⟨g, ["script", "marks", "drop", "draws", "k", "row", "kept", "values", "fillings", "best", "before", "places", "due", "turn", "told", "order", "many", "j", "player", "low", "high", "word", "rank", "mark"], k⟩ (.top (defScope s_law)) (defBody s_law) (startR ["script", "marks", "drop", "draws", "k", "row", "kept", "values", "fillings", "best", "before", "places", "due", "turn", "told", "order", "many", "j", "player", "low", "high", "word", "rank", "mark"] ds) (.rt t) := by
  rintro ds t ⟨script, rfl, rfl⟩
  show Sk _ _ _ [] _ (rtF (m_law script))
  unfold m_law
  refine Sk.setPD (rtF (α := Bool)) 1 2 (Eo.call hd.d_law_marks (⟨script, (0 : Int), (5 : Int), (5 : Int), rfl, (by first | exact word_pre hfl hmk2.1 hfo (by omega) (by omega) | ((repeat' apply And.intro) <;> first | assumption | omega | (rw [List.length_map]; omega))), rfl⟩ : R_law_marks _ _) (Ea.cons (Eo.v 0 (script)) (Ea.cons Eo.I (Ea.cons Eo.I (Ea.cons Eo.I Ea.nil))))) (fun marks drop h_marks => ?_)
  have hmk : MkO marks drop ∧ nns marks = 0 := by have q := m_marks_ok script 0 5 5 (by decide) (by decide) (by decide); rw [← h_marks] at q; exact q
  refine Sk.setF (rtF (α := Bool)) 3 (Eo.frO (Eo.call hd.d_law_numbers (⟨(m_law_cell script (1 : Int)), (20 : Int), (5040 : Int), rfl, (by first | exact word_pre hfl hmk2.1 hfo (by omega) (by omega) | ((repeat' apply And.intro) <;> first | assumption | omega | (rw [List.length_map]; omega))), rfl⟩ : R_law_numbers _ _) (Ea.cons (Eo.call hd.d_law_cell (⟨script, (1 : Int), rfl, (by first | exact word_pre hfl hmk2.1 hfo (by omega) (by omega) | ((repeat' apply And.intro) <;> first | assumption | omega | (rw [List.length_map]; omega))), rfl⟩ : R_law_cell _ _) (Ea.cons (Eo.v 0 (script)) (Ea.cons Eo.I Ea.nil))) (Ea.cons Eo.I (Ea.cons Eo.I Ea.nil))))) (fun draws h_draws => ?_)
  have hl := m_numbers_len (m_law_cell script 1) 20 5040 (by decide); rw [← h_draws] at hl
  refine Sk.forI (rtF (α := Bool)) (rangeI 0 (((getI draws (0 : Int)) % (4 : Int))).toNat) enc (fun (s1 : (List (List (Option Int)))) (k_1 : Int) =>
    letv (α := (List (Option Int))) (getI s1 ((getI draws ((1 : Int) + k_1)) % (s1.length : Int))) fun row =>
      letv (α := (List (Option Int))) (setI row ((getI draws ((5 : Int) + k_1)) % (row.length : Int)) (none : (Option Int))) fun row' =>
      (s1.set (((getI draws ((1 : Int) + k_1)) % (s1.length : Int))).toNat row')) (marks : (List (List (Option Int)))) (fun (s1 : (List (List (Option Int)))) => ([some (F (script : (List Int))), some (oLL (s1 : (List (List (Option Int))))), some (F (drop : Int)), some (F (draws : (List Int))), none, none, none, none, none, none, none, none, none, none, none, none, none, none, none, none, none, none, none, none] : Rho)) (fun (i_1 : Nat) (s1 : (List (List (Option Int)))) => MkO s1 drop ∧ nns s1 ≤ i_1) (Ei.range1 hb.b_range (Eo.mod (Eo.idx (α := Int) (Eo.v 3 (draws)) Eo.I (by first | (unfold InB; (try simp only [List.length_cons, List.length_nil, decide_eq_true_eq] at *); omega) | (unfold InB; simp only [List.length_cons, List.length_nil]; split <;> omega))) Eo.I (by first | omega | exact getI_all (P := fun z : Int => 0 < z) (by decide) (by unfold InB; simp only [List.length_cons, List.length_nil]; omega))) (by omega) (by omega)) (Le.cons (Le.cons (Le.cons (Le.cons (Le.skip (Le.skip (Le.skip (Le.skip (Le.skip (Le.skip (Le.skip (Le.skip (Le.skip (Le.skip (Le.skip (Le.skip (Le.skip (Le.skip (Le.skip (Le.skip (Le.skip (Le.skip (Le.skip (Le.skip Le.nil)))))))))))))))))))))))) (⟨hmk.1, Nat.le_of_eq hmk.2⟩) (fun i_1 s1 k_1 hx_1 iv_1 => ?_) (fun l1_ h_l1_ iv_l1_ => ?_)
  · obtain ⟨hx_1_a, hx_1_b⟩ := rangeI_get hx_1
    obtain ⟨hs1, hs2, hs3, ⟨hm, hs4, hs5, hs6, hs7⟩, hs8⟩ := id iv_1.1
    have hk4 := Int.emod_lt_of_pos (getI draws 0) (show (0 : Int) < 4 by decide)
    have hq0 := Int.emod_nonneg (getI draws (1 + k_1)) (show (s1.length : Int) ≠ 0 by omega)
    have hq1 := Int.emod_lt_of_pos (getI draws (1 + k_1)) (show 0 < (s1.length : Int) by omega)
    have hrw0 := hs7 _ (getI_mem (xs := s1) (i := getI draws (1 + k_1) % (s1.length : Int)) (by unfold InB; omega))
    have hr0 := Int.emod_nonneg (getI draws (5 + k_1)) (show ((getI s1 (getI draws (1 + k_1) % (s1.length : Int))).length : Int) ≠ 0 by omega)
    have hr1 := Int.emod_lt_of_pos (getI draws (5 + k_1)) (show 0 < ((getI s1 (getI draws (1 + k_1) % (s1.length : Int))).length : Int) by omega)
    refine ⟨ForTurn.name 4 (Sk.ss ?_), by simp only [letv]; exact mk_step iv_1 ⟨hq0, hq1⟩ (by unfold InB; omega)⟩
    · have ha_row : 0 ≤ ((getI draws ((1 : Int) + k_1)) % (s1.length : Int)) ∧ ((getI draws ((1 : Int) + k_1)) % (s1.length : Int)) < (s1.length : Int) := (by omega)
      have hk_row : (((getI draws ((1 : Int) + k_1)) % (s1.length : Int))).toNat < s1.length := by omega
      refine Sk.aliasI (nxR (fun (s1 : (List (List (Option Int)))) => ([some (F (script : (List Int))), some (oLL (s1 : (List (List (Option Int))))), some (F (drop : Int)), some (F (draws : (List Int))), none, none, none, none, none, none, none, none, none, none, none, none, none, none, none, none, none, none, none, none] : Rho))) 1 5 (v := s1) ha_row (Eo.bwF (Eo.mod (Eo.idx (α := Int) (Eo.v 3 (draws)) (Eo.add Eo.I (Eo.v 4 (k_1))) (by first | (unfold InB; (try simp only [List.length_cons, List.length_nil, decide_eq_true_eq] at *); omega) | (unfold InB; simp only [List.length_cons, List.length_nil]; split <;> omega))) (Eo.lenL hb.b_len (Eo.vzD 1 (s1))) (by first | omega | exact getI_all (P := fun z : Int => 0 < z) (by decide) (by unfold InB; simp only [List.length_cons, List.length_nil]; omega)))) (fun b_row row h_row => ?_)
      have hrl : (row.length : Int) = hm := by rw [h_row]; exact hs7 _ (getI_mem (by unfold InB; omega))
      have ht0 := Int.emod_nonneg (getI draws (5 + k_1)) (show (row.length : Int) ≠ 0 by omega)
      have ht1 := Int.emod_lt_of_pos (getI draws (5 + k_1)) (show 0 < (row.length : Int) by omega)
      refine Sk.storeAD (nxR (fun (s1 : (List (List (Option Int)))) => ([some (F (script : (List Int))), some (oLL (s1 : (List (List (Option Int))))), some (F (drop : Int)), some (F (draws : (List Int))), none, none, none, none, none, none, none, none, none, none, none, none, none, none, none, none, none, none, none, none] : Rho))) 1 5 (v := s1) (k := (((getI draws ((1 : Int) + k_1)) % (s1.length : Int))).toNat) (ys := row) (b0 := b_row) hk_row (by first | (unfold InB; (try simp only [List.length_cons, List.length_nil, decide_eq_true_eq] at *); omega) | (unfold InB; simp only [List.length_cons, List.length_nil]; split <;> omega)) (Eo.cast Eo.N (rfl : F () = F (none : (Option Int)))) (Eo.borrowAD 1 5 (s1) (((getI draws ((1 : Int) + k_1)) % (s1.length : Int))).toNat (row) b_row hk_row (Eo.mod (Eo.idx (α := Int) (Eo.v 3 (draws)) (Eo.add Eo.I (Eo.v 4 (k_1))) (by first | (unfold InB; (try simp only [List.length_cons, List.length_nil, decide_eq_true_eq] at *); omega) | (unfold InB; simp only [List.length_cons, List.length_nil]; split <;> omega))) (Eo.lenL hb.b_len (Eo.v 5 (row))) (by first | omega | exact getI_all (P := fun z : Int => 0 < z) (by decide) (by unfold InB; simp only [List.length_cons, List.length_nil]; omega))) (flat_F (α := Int) _)) (fun row' h_row' => ?_)
      refine Sk.untellAD 1 5 (s1) (((getI draws ((1 : Int) + k_1)) % (s1.length : Int))).toNat (row') b_row hk_row ?_
      exact Sk.nx (Le.cons (Le.cons (Le.cons (Le.cons (Le.skip (Le.skip (Le.skip (Le.skip (Le.skip (Le.skip (Le.skip (Le.skip (Le.skip (Le.skip (Le.skip (Le.skip (Le.skip (Le.skip (Le.skip (Le.skip (Le.skip (Le.skip (Le.skip (Le.skip Le.nil))))))))))))))))))))))))
  have hmk2 : MkO l1_ drop ∧ nns l1_ ≤ 3 := ⟨iv_l1_.1, by have := iv_l1_.2; have hk4 := Int.emod_lt_of_pos (getI draws 0) (show (0 : Int) < 4 by decide); rw [rangeI_length] at this; omega⟩
  obtain ⟨ho1, ho2, ho3, ⟨ho, ho4, ho5, ho6, ho7⟩, ho8⟩ := id hmk2.1
  have hsz := hmk2.1.sz
  refine Sk.frzD 1 (l1_) ?_
  refine Sk.setF (rtF (α := Bool)) 6 (Eo.reprE hb.b_repr (Eo.v 1 (l1_)) (by exact hmk2.1.shows)) (fun kept h_kept => ?_)
  refine Sk.setF (rtF (α := Bool)) 7 (Eo.frO (show Eo _ _ _ _ (oL ([(0 : Int), (100 : Int)] : (List Int))) from Eo.lst (Ea.cons Eo.I (Ea.cons Eo.I Ea.nil)) (by first | decide | (simp only [List.map_cons, List.map_nil, List.length_cons, List.length_nil, sizeLine_eq]; omega)))) (fun values h_values => ?_)
  refine Sk.ifJ (rtF (α := Bool)) (fun (s : (List Int)) => ([some (F (script : (List Int))), some (F (l1_ : (List (List (Option Int))))), some (F (drop : Int)), some (F (draws : (List Int))), none, none, some (F (kept : Str)), some (F (s : (List Int))), none, none, none, none, none, none, none, none, none, none, none, none, none, none, none, none] : Rho)) (Et.ninI (Eo.mod (Eo.idx (α := Int) (Eo.v 3 (draws)) Eo.I (by first | (unfold InB; (try simp only [List.length_cons, List.length_nil, decide_eq_true_eq] at *); omega) | (unfold InB; simp only [List.length_cons, List.length_nil]; split <;> omega))) Eo.I (by first | omega | exact getI_all (P := fun z : Int => 0 < z) (by decide) (by unfold InB; simp only [List.length_cons, List.length_nil]; omega))) (Eo.v 7 (values))) (fun hc => ?_) (fun hc => ?_) (fun j h_j => ?_)
  · refine Sk.setF (nxR (fun (s : (List Int)) => ([some (F (script : (List Int))), some (F (l1_ : (List (List (Option Int))))), some (F (drop : Int)), some (F (draws : (List Int))), none, none, some (F (kept : Str)), some (F (s : (List Int))), none, none, none, none, none, none, none, none, none, none, none, none, none, none, none, none] : Rho))) 7 (Eo.frO (show Eo _ _ _ _ (oL ([(0 : Int), ((getI draws (9 : Int)) % (101 : Int)), (100 : Int)] : (List Int))) from Eo.lst (Ea.cons Eo.I (Ea.cons (Eo.mod (Eo.idx (α := Int) (Eo.v 3 (draws)) Eo.I (by first | (unfold InB; (try simp only [List.length_cons, List.length_nil, decide_eq_true_eq] at *); omega) | (unfold InB; simp only [List.length_cons, List.length_nil]; split <;> omega))) Eo.I (by first | omega | exact getI_all (P := fun z : Int => 0 < z) (by decide) (by unfold InB; simp only [List.length_cons, List.length_nil]; omega))) (Ea.cons Eo.I Ea.nil))) (by first | decide | (simp only [List.map_cons, List.map_nil, List.length_cons, List.length_nil, sizeLine_eq]; omega)))) (fun values' h_values' => ?_)
    exact Sk.nx (Le.cons (Le.cons (Le.cons (Le.cons (Le.skip (Le.skip (Le.cons (Le.cons (Le.skip (Le.skip (Le.skip (Le.skip (Le.skip (Le.skip (Le.skip (Le.skip (Le.skip (Le.skip (Le.skip (Le.skip (Le.skip (Le.skip (Le.skip (Le.skip Le.nil))))))))))))))))))))))))
  · exact Sk.nx (Le.cons (Le.cons (Le.cons (Le.cons (Le.skip (Le.skip (Le.cons (Le.cons (Le.skip (Le.skip (Le.skip (Le.skip (Le.skip (Le.skip (Le.skip (Le.skip (Le.skip (Le.skip (Le.skip (Le.skip (Le.skip (Le.skip (Le.skip (Le.skip Le.nil))))))))))))))))))))))))
  -- on
  have hval : ValsOk j := by rw [h_j]; exact vals_ok _ _ (Int.emod_nonneg _ (by decide)) (Int.emod_lt_of_pos _ (by decide)) h_values
  have hpw : j.length ^ nns l1_ ≤ 1000 := pow27 hval.2.1 hmk2.2
  have hv1 : 1 ≤ j.length := Nat.le_trans (by decide) hval.1
  refine Sk.setF (rtF (α := Bool)) 8 (Eo.call hd.d_law_fillings (⟨l1_, j, rfl, (by first | exact word_pre hfl hmk2.1 hfo (by omega) (by omega) | ((repeat' apply And.intro) <;> first | assumption | omega | (rw [List.length_map]; omega))), rfl⟩ : R_law_fillings _ _) (Ea.cons (Eo.v 1 (l1_)) (Ea.cons (Eo.v 7 (j)) Ea.nil))) (fun fillings h_fillings => ?_)
  have hfo := fil_ok hmk2.1 h_fillings
  have hfl : fillings.length ≤ 1000 := by rw [h_fillings, fil_len]; exact hpw
  refine Sk.setF (rtF (α := Bool)) 9 (Eo.frO (show Eo _ _ _ _ (oL ([("out" : Str), ("open" : Str), ("in" : Str)] : (List Str))) from Eo.lst (Ea.cons Eo.S (Ea.cons Eo.S (Ea.cons Eo.S Ea.nil))) (by first | decide | (simp only [List.map_cons, List.map_nil, List.length_cons, List.length_nil, sizeLine_eq]; omega)))) (fun best h_best => ?_)
  refine Sk.setF (rtF (α := Bool)) 10 (Eo.frO (Eo.lcL l1_ enc (fun (row : (List (Option Int))) => ("out" : Str)) [("row", 5)] (Ei.lst (Eo.v 1 (l1_))) (by first | (simp only [rangeI_length, sizeLine_eq]; omega) | (have := hw7 _ (getI_mem (xs := l4_) (i := k) (by unfold InB; omega)); simp only [sizeLine_eq]; omega)) (fun row hrow => LcTurn.name 5 Ets.nil (fun hc => Eo.S)))) (fun before h_before => ?_)
  have hbl : before.length = l1_.length ∧ ∀ w ∈ before, w ∈ words := by rw [h_before]; exact ⟨List.length_map _, fun w hw => by obtain ⟨r, _, rfl⟩ := List.mem_map.mp hw; decide⟩
  refine Sk.forR (rtF (α := Bool)) (fun q => q) (T := (fun (z : Bool) => F z)) (rangeI (1 : Int) (((l1_.length : Int) + (1 : Int)) - (1 : Int)).toNat) enc (fun (s2 : (List Str)) (places_2 : Int) =>
    (letv (α := (List Str)) (((rangeI 0 ((l1_.length : Int)).toNat)).map (fun (player : Int) => (m_law_word fillings drop places_2 player))) fun due =>
      (Fl.out (forE (fun (s3 : Unit) (turn_3 : Int) =>
        (letv (α := (List Str)) (m_chances l1_ drop places_2) fun told =>
          if ((!(decide (told = due))) || (!decide ((enc l1_).shown = kept))) = true then
            (Fl.rt (false))
          else
            letv (α := (List Str)) (told ++ [("in" : Str)]) fun told' =>
            (Fl.nx ()) : Fl (Unit) Bool)) (rangeI 0 ((2 : Int)).toNat) (() : Unit)) (fun (l3_ : Unit) =>
      if (decide ((((((rangeI 0 ((due.length : Int)).toNat)).filter (fun (k : Int) => (decide (((best.idxOf (getI due k) : Nat) : Int) < ((best.idxOf (getI s2 k) : Nat) : Int))))).map (fun (k : Int) => k)).length : Int) > (0 : Int))) = true then
        (Fl.rt (false))
      else
        letv (α := (List Str)) due fun before' =>
        (Fl.nx before')) (fun q => Fl.rt q)) : Fl ((List Str)) Bool)) (before : (List Str)) (fun (s2 : (List Str)) => ([some (F (script : (List Int))), some (F (l1_ : (List (List (Option Int))))), some (F (drop : Int)), some (F (draws : (List Int))), none, none, some (F (kept : Str)), none, some (F (fillings : (List (List (List Int))))), some (F (best : (List Str))), some (F (s2 : (List Str))), none, none, none, none, none, none, none, none, none, none, none, none, none] : Rho)) (fun (i_2 : Nat) (s2 : (List Str)) => s2.length = l1_.length ∧ ∀ w ∈ s2, w ∈ words) (Ei.range2 hb.b_range Eo.I (Eo.add (Eo.lenL hb.b_len (Eo.v 1 (l1_))) Eo.I) (by omega)) (Le.cons (Le.cons (Le.cons (Le.cons (Le.skip (Le.skip (Le.cons (Le.skip (Le.cons (Le.cons (Le.cons (Le.skip (Le.skip (Le.skip (Le.skip (Le.skip (Le.skip (Le.skip (Le.skip (Le.skip (Le.skip (Le.skip (Le.skip (Le.skip Le.nil)))))))))))))))))))))))) (hbl) (fun i_2 s2 places_2 hx_2 iv_2 => ?_) (fun l2_ h_l2_ iv_l2_ => ?_)
  · obtain ⟨hx_2_a, hx_2_b⟩ := rangeI_get hx_2
    refine ⟨ForTurn.name 11 (Sk.ss ?_) (notCt_body _), fun s2_ e_ => by have q := out_if e_; rw [q]; exact due_ok _ _ _ _⟩
    · refine Sk.setF (Fl.body (γ := Bool) (fun (s2 : (List Str)) => ([some (F (script : (List Int))), some (F (l1_ : (List (List (Option Int))))), some (F (drop : Int)), some (F (draws : (List Int))), none, none, some (F (kept : Str)), none, some (F (fillings : (List (List (List Int))))), some (F (best : (List Str))), some (F (s2 : (List Str))), none, none, none, none, none, none, none, none, none, none, none, none, none] : Rho)) (fun (s2 : (List Str)) => ([some (F (script : (List Int))), some (F (l1_ : (List (List (Option Int))))), some (F (drop : Int)), some (F (draws : (List Int))), none, none, some (F (kept : Str)), none, some (F (fillings : (List (List (List Int))))), some (F (best : (List Str))), some (F (s2 : (List Str))), none, none, none, none, none, none, none, none, none, none, none, none, none] : Rho)) (fun (z : Bool) => F z)) 12 (Eo.frO (Eo.lcL (rangeI 0 ((l1_.length : Int)).toNat) enc (fun (player : Int) => (m_law_word fillings drop places_2 player)) [("player", 18)] (Ei.range1 hb.b_range (Eo.lenL hb.b_len (Eo.v 1 (l1_))) (by omega) (by omega)) (by first | (simp only [rangeI_length, sizeLine_eq]; omega) | (have := hw7 _ (getI_mem (xs := l4_) (i := k) (by unfold InB; omega)); simp only [sizeLine_eq]; omega)) (fun player hplayer => have hplayer_ := mem_rangeI.mp hplayer; LcTurn.name 18 Ets.nil (fun hc => (Eo.call hd.d_law_word (⟨fillings, drop, places_2, player, rfl, (by first | exact word_pre hfl hmk2.1 hfo (by omega) (by omega) | ((repeat' apply And.intro) <;> first | assumption | omega | (rw [List.length_map]; omega))), rfl⟩ : R_law_word _ _) (Ea.cons (Eo.v 8 (fillings)) (Ea.cons (Eo.v 2 (drop)) (Ea.cons (Eo.v 11 (places_2)) (Ea.cons (Eo.v 18 (player)) Ea.nil))))))))) (fun due h_due => ?_)
      have hdl : due.length = l1_.length ∧ ∀ w ∈ due, w ∈ words := by rw [h_due]; exact due_ok _ _ _ _
      refine Sk.forR (Fl.body (γ := Bool) (fun (s2 : (List Str)) => ([some (F (script : (List Int))), some (F (l1_ : (List (List (Option Int))))), some (F (drop : Int)), some (F (draws : (List Int))), none, none, some (F (kept : Str)), none, some (F (fillings : (List (List (List Int))))), some (F (best : (List Str))), some (F (s2 : (List Str))), none, none, none, none, none, none, none, none, none, none, none, none, none] : Rho)) (fun (s2 : (List Str)) => ([some (F (script : (List Int))), some (F (l1_ : (List (List (Option Int))))), some (F (drop : Int)), some (F (draws : (List Int))), none, none, some (F (kept : Str)), none, some (F (fillings : (List (List (List Int))))), some (F (best : (List Str))), some (F (s2 : (List Str))), none, none, none, none, none, none, none, none, none, none, none, none, none] : Rho)) (fun (z : Bool) => F z)) (fun q => Fl.rt q) (T := (fun (z : Bool) => F z)) (rangeI 0 ((2 : Int)).toNat) enc (fun (s3 : Unit) (turn_3 : Int) =>
        (letv (α := (List Str)) (m_chances l1_ drop places_2) fun told =>
          if ((!(decide (told = due))) || (!decide ((enc l1_).shown = kept))) = true then
            (Fl.rt (false))
          else
            letv (α := (List Str)) (told ++ [("in" : Str)]) fun told' =>
            (Fl.nx ()) : Fl (Unit) Bool)) (() : Unit) (fun (s3 : Unit) => ([some (F (script : (List Int))), some (F (l1_ : (List (List (Option Int))))), some (F (drop : Int)), some (F (draws : (List Int))), none, none, some (F (kept : Str)), none, some (F (fillings : (List (List (List Int))))), some (F (best : (List Str))), some (F (s2 : (List Str))), some (F (places_2 : Int)), some (F (due : (List Str))), none, none, none, none, none, none, none, none, none, none, none] : Rho)) (fun (i_3 : Nat) (s3 : Unit) => True) (Ei.range1 hb.b_range Eo.I (by omega) (by omega)) (Le.cons (Le.cons (Le.cons (Le.cons (Le.skip (Le.skip (Le.cons (Le.skip (Le.cons (Le.cons (Le.cons (Le.cons (Le.cons (Le.skip (Le.skip (Le.skip (Le.skip (Le.skip (Le.skip (Le.skip (Le.skip (Le.skip (Le.skip (Le.skip Le.nil)))))))))))))))))))))))) (trivial) (fun i_3 s3 turn_3 hx_3 iv_3 => ?_) (fun l3_ h_l3_ iv_l3_ => ?_)
      · obtain ⟨hx_3_a, hx_3_b⟩ := rangeI_get hx_3
        refine ⟨ForTurn.name 13 (Sk.ss ?_) (notCt_body _), fun s3_ e_ => trivial⟩
        · refine Sk.setO (Fl.body (γ := Bool) (fun (s3 : Unit) => ([some (F (script : (List Int))), some (F (l1_ : (List (List (Option Int))))), some (F (drop : Int)), some (F (draws : (List Int))), none, none, some (F (kept : Str)), none, some (F (fillings : (List (List (List Int))))), some (F (best : (List Str))), some (F (s2 : (List Str))), some (F (places_2 : Int)), some (F (due : (List Str))), none, none, none, none, none, none, none, none, none, none, none] : Rho)) (fun (s3 : Unit) => ([some (F (script : (List Int))), some (F (l1_ : (List (List (Option Int))))), some (F (drop : Int)), some (F (draws : (List Int))), none, none, some (F (kept : Str)), none, some (F (fillings : (List (List (List Int))))), some (F (best : (List Str))), some (F (s2 : (List Str))), some (F (places_2 : Int)), some (F (due : (List Str))), none, none, none, none, none, none, none, none, none, none, none] : Rho)) (fun (z : Bool) => F z)) 14 (Eo.call hd.d_chances (⟨l1_, drop, places_2, rfl, (by first | exact word_pre hfl hmk2.1 hfo (by omega) (by omega) | ((repeat' apply And.intro) <;> first | assumption | omega | (rw [List.length_map]; omega))), rfl⟩ : R_chances _ _) (Ea.cons (Eo.v 1 (l1_)) (Ea.cons (Eo.v 2 (drop)) (Ea.cons (Eo.v 11 (places_2)) Ea.nil)))) (fun told h_told => ?_)
          have htl : told.length = l1_.length := by rw [h_told]; exact m_chances_len _ _ _
          refine Sk.ifT (Fl.body (γ := Bool) (fun (s3 : Unit) => ([some (F (script : (List Int))), some (F (l1_ : (List (List (Option Int))))), some (F (drop : Int)), some (F (draws : (List Int))), none, none, some (F (kept : Str)), none, some (F (fillings : (List (List (List Int))))), some (F (best : (List Str))), some (F (s2 : (List Str))), some (F (places_2 : Int)), some (F (due : (List Str))), none, none, none, none, none, none, none, none, none, none, none] : Rho)) (fun (s3 : Unit) => ([some (F (script : (List Int))), some (F (l1_ : (List (List (Option Int))))), some (F (drop : Int)), some (F (draws : (List Int))), none, none, some (F (kept : Str)), none, some (F (fillings : (List (List (List Int))))), some (F (best : (List Str))), some (F (s2 : (List Str))), some (F (places_2 : Int)), some (F (due : (List Str))), none, none, none, none, none, none, none, none, none, none, none] : Rho)) (fun (z : Bool) => F z)) (Et.borrow (Ew.et (Ew.or (Et.not (Et.val (Eo.call hd.d_law_same (R_same.t (α := (List Str)) told due) (Ea.cons (Eo.vz 14 (told)) (Ea.cons (Eo.v 12 (due)) Ea.nil))))) (fun hc => (Ew.or1 (Et.neS (Eo.reprE hb.b_repr (Eo.v 1 (l1_)) (by exact hmk2.1.shows)) (Eo.v 6 (kept)))))))) (fun hc => ?_) (fun hc => ?_)
          · exact Sk.retLF Eo.B
          · refine Sk.pop ?_
            refine Sk.appO (Fl.body (γ := Bool) (fun (s3 : Unit) => ([some (F (script : (List Int))), some (F (l1_ : (List (List (Option Int))))), some (F (drop : Int)), some (F (draws : (List Int))), none, none, some (F (kept : Str)), none, some (F (fillings : (List (List (List Int))))), some (F (best : (List Str))), some (F (s2 : (List Str))), some (F (places_2 : Int)), some (F (due : (List Str))), none, none, none, none, none, none, none, none, none, none, none] : Rho)) (fun (s3 : Unit) => ([some (F (script : (List Int))), some (F (l1_ : (List (List (Option Int))))), some (F (drop : Int)), some (F (draws : (List Int))), none, none, some (F (kept : Str)), none, some (F (fillings : (List (List (List Int))))), some (F (best : (List Str))), some (F (s2 : (List Str))), some (F (places_2 : Int)), some (F (due : (List Str))), none, none, none, none, none, none, none, none, none, none, none] : Rho)) (fun (z : Bool) => F z)) 14 (v := told) Eo.S (by rw [sizeLine_eq]; omega) (fun told' h_told' => ?_)
            exact Sk.nxL (Le.cons (Le.cons (Le.cons (Le.cons (Le.skip (Le.skip (Le.cons (Le.skip (Le.cons (Le.cons (Le.cons (Le.cons (Le.cons (Le.skip (Le.skip (Le.skip (Le.skip (Le.skip (Le.skip (Le.skip (Le.skip (Le.skip (Le.skip (Le.skip Le.nil))))))))))))))))))))))))
      refine Sk.ifT (Fl.body (γ := Bool) (fun (s2 : (List Str)) => ([some (F (script : (List Int))), some (F (l1_ : (List (List (Option Int))))), some (F (drop : Int)), some (F (draws : (List Int))), none, none, some (F (kept : Str)), none, some (F (fillings : (List (List (List Int))))), some (F (best : (List Str))), some (F (s2 : (List Str))), none, none, none, none, none, none, none, none, none, none, none, none, none] : Rho)) (fun (s2 : (List Str)) => ([some (F (script : (List Int))), some (F (l1_ : (List (List (Option Int))))), some (F (drop : Int)), some (F (draws : (List Int))), none, none, some (F (kept : Str)), none, some (F (fillings : (List (List (List Int))))), some (F (best : (List Str))), some (F (s2 : (List Str))), none, none, none, none, none, none, none, none, none, none, none, none, none] : Rho)) (fun (z : Bool) => F z)) (Et.gt (Eo.lenL hb.b_len (Eo.frO (Eo.lcP (rangeI 0 ((due.length : Int)).toNat) enc (fun (k : Int) => (decide (((best.idxOf (getI due k) : Nat) : Int) < ((best.idxOf (getI s2 k) : Nat) : Int)))) (fun (k : Int) => k) [("k", 4)] (Ei.range1 hb.b_range (Eo.lenL hb.b_len (Eo.v 12 (due))) (by omega) (by omega)) (by first | (simp only [rangeI_length, sizeLine_eq]; omega) | (have := hw7 _ (getI_mem (xs := l4_) (i := k) (by unfold InB; omega)); simp only [sizeLine_eq]; omega)) (fun k hk => have hk_ := mem_rangeI.mp hk; LcTurn.name 4 (Ets.one (Et.lt (Eo.indexS (by rw [h_best]; first | exact hdl.2 _ (getI_mem (by unfold InB; omega)) | exact iv_2.2 _ (getI_mem (by unfold InB; omega))) (Eo.v 9 (best)) (Eo.idx (α := Str) (Eo.v 12 (due)) (Eo.v 4 (k)) (by first | (unfold InB; (try simp only [List.length_cons, List.length_nil, decide_eq_true_eq] at *); omega) | (unfold InB; simp only [List.length_cons, List.length_nil]; split <;> omega)))) (Eo.indexS (by rw [h_best]; first | exact hdl.2 _ (getI_mem (by unfold InB; omega)) | exact iv_2.2 _ (getI_mem (by unfold InB; omega))) (Eo.v 9 (best)) (Eo.idx (α := Str) (Eo.v 10 (s2)) (Eo.v 4 (k)) (by first | (unfold InB; (try simp only [List.length_cons, List.length_nil, decide_eq_true_eq] at *); omega) | (unfold InB; simp only [List.length_cons, List.length_nil]; split <;> omega)))))) (fun hc => (Eo.v 4 (k))))))) Eo.I) (fun hc => ?_) (fun hc => ?_)
      · exact Sk.retLF Eo.B
      · refine Sk.pop ?_
        refine Sk.setF (Fl.body (γ := Bool) (fun (s2 : (List Str)) => ([some (F (script : (List Int))), some (F (l1_ : (List (List (Option Int))))), some (F (drop : Int)), some (F (draws : (List Int))), none, none, some (F (kept : Str)), none, some (F (fillings : (List (List (List Int))))), some (F (best : (List Str))), some (F (s2 : (List Str))), none, none, none, none, none, none, none, none, none, none, none, none, none] : Rho)) (fun (s2 : (List Str)) => ([some (F (script : (List Int))), some (F (l1_ : (List (List (Option Int))))), some (F (drop : Int)), some (F (draws : (List Int))), none, none, some (F (kept : Str)), none, some (F (fillings : (List (List (List Int))))), some (F (best : (List Str))), some (F (s2 : (List Str))), none, none, none, none, none, none, none, none, none, none, none, none, none] : Rho)) (fun (z : Bool) => F z)) 10 (Eo.v 12 (due)) (fun before' h_before' => ?_)
        exact Sk.nxL (Le.cons (Le.cons (Le.cons (Le.cons (Le.skip (Le.skip (Le.cons (Le.skip (Le.cons (Le.cons (Le.cons (Le.skip (Le.skip (Le.skip (Le.skip (Le.skip (Le.skip (Le.skip (Le.skip (Le.skip (Le.skip (Le.skip (Le.skip (Le.skip Le.nil))))))))))))))))))))))))
  have hbl2 : l2_.length = l1_.length ∧ ∀ w ∈ l2_, w ∈ words := by rcases h_l2_ with e | e; exact iv_l2_ e; exact absurd e (forE_nobk (fun s x s_ e => out_nb e) _ _ _)
  refine Sk.ifR (rtF (α := Bool)) (fun q => q) (fun (s : Unit) => ([some (F (script : (List Int))), some (F (l1_ : (List (List (Option Int))))), none, some (F (draws : (List Int))), none, none, none, none, none, none, some (F (l2_ : (List Str))), none, none, none, none, none, none, none, none, none, none, none, none, none] : Rho)) (T := (fun (z : Bool) => F z)) (Et.eqI (Eo.lenL hb.b_len (Eo.v 8 (fillings))) Eo.I) (fun hc => ?_) (fun hc => ?_) (fun j' h_j' => ?_)
  · have hfull := fil_one hval.1 h_fillings hc
    refine Sk.setF (Fr.body (γ := Bool) (fun (s : Unit) => ([some (F (script : (List Int))), some (F (l1_ : (List (List (Option Int))))), none, some (F (draws : (List Int))), none, none, none, none, none, none, some (F (l2_ : (List Str))), none, none, none, none, none, none, none, none, none, none, none, none, none] : Rho)) (fun (z : Bool) => F z)) 15 (Eo.frO (Eo.call hd.d_ranks (⟨(l1_.map (fun (r : List (Option Int)) => r.map (fun (o : Option Int) => o.getD 0))), drop, rfl, (by first | exact word_pre hfl hmk2.1 hfo (by omega) (by omega) | ((repeat' apply And.intro) <;> first | assumption | omega | (rw [List.length_map]; omega))), rfl⟩ : R_ranks _ _) (Ea.cons (Eo.cast (Eo.v 1 (l1_)) (unO_eq (by exact hfull))) (Ea.cons (Eo.v 2 (drop)) Ea.nil)))) (fun order h_order => ?_)
    have hol := m_ranks_len (l1_.map (fun (r : List (Option Int)) => r.map (fun (o : Option Int) => o.getD 0))) drop; rw [← h_order, List.length_map] at hol
    refine Sk.ifT (Fr.body (γ := Bool) (fun (s : Unit) => ([some (F (script : (List Int))), some (F (l1_ : (List (List (Option Int))))), none, some (F (draws : (List Int))), none, none, none, none, none, none, some (F (l2_ : (List Str))), none, none, none, none, none, none, none, none, none, none, none, none, none] : Rho)) (fun (z : Bool) => F z)) (Et.neLS (Eo.frO (Eo.call hd.d_chances (⟨l1_, drop, (1 : Int), rfl, (by first | exact word_pre hfl hmk2.1 hfo (by omega) (by omega) | ((repeat' apply And.intro) <;> first | assumption | omega | (rw [List.length_map]; omega))), rfl⟩ : R_chances _ _) (Ea.cons (Eo.v 1 (l1_)) (Ea.cons (Eo.v 2 (drop)) (Ea.cons Eo.I Ea.nil))))) (Eo.frO (Eo.lcL order enc (fun (rank : Int) => (getI [("out" : Str), ("in" : Str)] (if (decide (rank = (1 : Int))) = true then (1 : Int) else 0))) [("rank", 22)] (Ei.lst (Eo.v 15 (order))) (by first | (simp only [rangeI_length, sizeLine_eq]; omega) | (have := hw7 _ (getI_mem (xs := l4_) (i := k) (by unfold InB; omega)); simp only [sizeLine_eq]; omega)) (fun rank hrank => LcTurn.name 22 Ets.nil (fun hc => (Eo.idx (α := Str) (Eo.frO (show Eo _ _ _ _ (oL ([("out" : Str), ("in" : Str)] : (List Str))) from Eo.lst (Ea.cons Eo.S (Ea.cons Eo.S Ea.nil)) (by first | decide | (simp only [List.map_cons, List.map_nil, List.length_cons, List.length_nil, sizeLine_eq]; omega)))) (Eo.intB hb.b_int (Eo.eqI (Eo.v 22 (rank)) Eo.I)) (by first | (unfold InB; (try simp only [List.length_cons, List.length_nil, decide_eq_true_eq] at *); omega) | (unfold InB; simp only [List.length_cons, List.length_nil]; split <;> omega))))))) (by first | exact chances_strs _ _ _ | exact ranks_strs _ | exact fun x hx => words_ok (hbl2.2 x hx) | exact ins_strs _) (by first | exact chances_strs _ _ _ | exact ranks_strs _ | exact fun x hx => words_ok (hbl2.2 x hx) | exact ins_strs _)) (fun hc => ?_) (fun hc => ?_)
    · exact Sk.retRF Eo.B
    · refine Sk.pop ?_
      exact Sk.nxW (Le.cons (Le.cons (Le.skip (Le.cons (Le.skip (Le.skip (Le.skip (Le.skip (Le.skip (Le.skip (Le.cons (Le.skip (Le.skip (Le.skip (Le.skip (Le.skip (Le.skip (Le.skip (Le.skip (Le.skip (Le.skip (Le.skip (Le.skip (Le.skip Le.nil))))))))))))))))))))))))
  · exact Sk.nxW (Le.cons (Le.cons (Le.skip (Le.cons (Le.skip (Le.skip (Le.skip (Le.skip (Le.skip (Le.skip (Le.cons (Le.skip (Le.skip (Le.skip (Le.skip (Le.skip (Le.skip (Le.skip (Le.skip (Le.skip (Le.skip (Le.skip (Le.skip (Le.skip Le.nil))))))))))))))))))))))))
  -- on
  refine Sk.setPD (rtF (α := Bool)) 16 2 (Eo.call hd.d_law_marks (⟨script, (2 : Int), (30 : Int), (4 : Int), rfl, (by first | exact word_pre hfl hmk2.1 hfo (by omega) (by omega) | ((repeat' apply And.intro) <;> first | assumption | omega | (rw [List.length_map]; omega))), rfl⟩ : R_law_marks _ _) (Ea.cons (Eo.v 0 (script)) (Ea.cons Eo.I (Ea.cons Eo.I (Ea.cons Eo.I Ea.nil))))) (fun many drop' h_many => ?_)
  have hmk4 : MkO many drop' ∧ nns many = 0 := by have q := m_marks_ok script 2 30 4 (by decide) (by decide) (by decide); rw [← h_many] at q; exact q
  obtain ⟨hy1, hy2, hy3, ⟨hy, hy4, hy5, hy6, hy7⟩, hy8⟩ := id hmk4.1
  refine Sk.forI (rtF (α := Bool)) (rangeI 0 ((many.length : Int)).toNat) enc (fun (s4 : (List (List (Option Int)))) (k_4 : Int) =>
    letv (α := (List (Option Int))) (getI s4 k_4) fun row'' =>
      letv (α := (List (Option Int))) (((rangeI 0 ((row''.length : Int)).toNat)).foldl (fun (s5 : (List (Option Int))) (j_5 : Int) =>
        letv (α := (List (Option Int))) (if (decide ((((getI draws ((k_4 + j_5) % (20 : Int))) / ((1 : Int) + j_5)) % (3 : Int)) = (0 : Int))) = true then
            letv (α := (List (Option Int))) (setI s5 j_5 (none : (Option Int))) fun row''' =>
            row'''
          else
            s5) fun j'' =>
          j'') (row'' : (List (Option Int)))) fun l5_ =>
      (s4.set (k_4).toNat l5_)) (many : (List (List (Option Int)))) (fun (s4 : (List (List (Option Int)))) => ([none, some (F (l1_ : (List (List (Option Int))))), some (F (drop' : Int)), some (F (draws : (List Int))), none, none, none, none, none, none, some (F (l2_ : (List Str))), none, none, none, none, none, some (oLL (s4 : (List (List (Option Int))))), none, none, none, none, none, none, none] : Rho)) (fun (i_4 : Nat) (s4 : (List (List (Option Int)))) => MkO s4 drop' ∧ s4.length = many.length) (Ei.range1 hb.b_range (Eo.bwF (Eo.lenL hb.b_len (Eo.vzD 16 (many)))) (by omega) (by omega)) (Le.skip (Le.cons (Le.cons (Le.cons (Le.skip (Le.skip (Le.skip (Le.skip (Le.skip (Le.skip (Le.cons (Le.skip (Le.skip (Le.skip (Le.skip (Le.skip (Le.cons (Le.skip (Le.skip (Le.skip (Le.skip (Le.skip (Le.skip (Le.skip Le.nil)))))))))))))))))))))))) (⟨hmk4.1, rfl⟩) (fun i_4 s4 k_4 hx_4 iv_4 => ?_) (fun l4_ h_l4_ iv_l4_ => ?_)
  · obtain ⟨hx_4_a, hx_4_b⟩ := rangeI_get hx_4
    obtain ⟨hz1, hz2, hz3, ⟨hz, hz4, hz5, hz6, hz7⟩, hz8⟩ := id iv_4.1
    have hlen4 := iv_4.2
    have hrw4 := hz7 _ (getI_mem (xs := s4) (i := k_4) (by unfold InB; omega))
    refine ⟨ForTurn.name 4 (Sk.ss ?_), by simp only [letv]; exact mk_many (fun j_5 => decide ((((getI draws ((k_4 + j_5) % (20 : Int))) / ((1 : Int) + j_5)) % (3 : Int)) = (0 : Int))) _ iv_4 (by omega)⟩
    · have ha_row : 0 ≤ k_4 ∧ k_4 < (s4.length : Int) := (by omega)
      have hk_row : (k_4).toNat < s4.length := by omega
      refine Sk.aliasI (nxR (fun (s4 : (List (List (Option Int)))) => ([none, some (F (l1_ : (List (List (Option Int))))), some (F (drop' : Int)), some (F (draws : (List Int))), none, none, none, none, none, none, some (F (l2_ : (List Str))), none, none, none, none, none, some (oLL (s4 : (List (List (Option Int))))), none, none, none, none, none, none, none] : Rho))) 16 5 (v := s4) ha_row (Eo.v 4 (k_4)) (fun b_row row'' h_row'' => ?_)
      have hrl4 : (row''.length : Int) = hz := by rw [h_row'']; exact hrw4
      refine Sk.forI (nxR (fun (s4 : (List (List (Option Int)))) => ([none, some (F (l1_ : (List (List (Option Int))))), some (F (drop' : Int)), some (F (draws : (List Int))), none, none, none, none, none, none, some (F (l2_ : (List Str))), none, none, none, none, none, some (oLL (s4 : (List (List (Option Int))))), none, none, none, none, none, none, none] : Rho))) (rangeI 0 ((row''.length : Int)).toNat) enc (fun (s5 : (List (Option Int))) (j_5 : Int) =>
        letv (α := (List (Option Int))) (if (decide ((((getI draws ((k_4 + j_5) % (20 : Int))) / ((1 : Int) + j_5)) % (3 : Int)) = (0 : Int))) = true then
            letv (α := (List (Option Int))) (setI s5 j_5 (none : (Option Int))) fun row''' =>
            row'''
          else
            s5) fun j'' =>
          j'') (row'' : (List (Option Int))) (fun (s5 : (List (Option Int))) => ([none, some (F (l1_ : (List (List (Option Int))))), some (F (drop' : Int)), some (F (draws : (List Int))), some (F (k_4 : Int)), some (OD.at b_row), none, none, none, none, some (F (l2_ : (List Str))), none, none, none, none, none, some (oLA b_row (s4 : (List (List (Option Int)))) (k_4).toNat (s5 : (List (Option Int)))), none, none, none, none, none, none, none] : Rho)) (fun (i_5 : Nat) (s5 : (List (Option Int))) => s5.length = row''.length) (Ei.range1 hb.b_range (Eo.borrowAD 16 5 (s4) (k_4).toNat (row'') b_row hk_row (Eo.lenL hb.b_len (Eo.v 5 (row''))) (flat_F (α := Int) _)) (by omega) (by omega)) (Le.skip (Le.cons (Le.cons (Le.cons (Le.cons (Le.cons (Le.skip (Le.skip (Le.skip (Le.skip (Le.cons (Le.skip (Le.skip (Le.skip (Le.skip (Le.skip (Le.cons (Le.skip (Le.skip (Le.skip (Le.skip (Le.skip (Le.skip (Le.skip Le.nil)))))))))))))))))))))))) (rfl) (fun i_5 s5 j_5 hx_5 iv_5 => ?_) (fun l5_ h_l5_ iv_l5_ => ?_)
      · obtain ⟨hx_5_a, hx_5_b⟩ := rangeI_get hx_5
        refine ⟨ForTurn.name 17 (Sk.ss ?_), by simp only [letv]; split <;> simp [setI_length, iv_5]⟩
        · refine Sk.ifJ (nxR (fun (s5 : (List (Option Int))) => ([none, some (F (l1_ : (List (List (Option Int))))), some (F (drop' : Int)), some (F (draws : (List Int))), some (F (k_4 : Int)), some (OD.at b_row), none, none, none, none, some (F (l2_ : (List Str))), none, none, none, none, none, some (oLA b_row (s4 : (List (List (Option Int)))) (k_4).toNat (s5 : (List (Option Int)))), none, none, none, none, none, none, none] : Rho))) (fun (s : (List (Option Int))) => ([none, some (F (l1_ : (List (List (Option Int))))), some (F (drop' : Int)), some (F (draws : (List Int))), some (F (k_4 : Int)), some (OD.at b_row), none, none, none, none, some (F (l2_ : (List Str))), none, none, none, none, none, some (oLA b_row (s4 : (List (List (Option Int)))) (k_4).toNat (s : (List (Option Int)))), none, none, none, none, none, none, none] : Rho)) (Et.eqI (Eo.mod (Eo.intI hb.b_int (Eo.fdiv (Eo.idx (α := Int) (Eo.v 3 (draws)) (Eo.mod (Eo.add (Eo.v 4 (k_4)) (Eo.v 17 (j_5))) Eo.I (by first | omega | exact getI_all (P := fun z : Int => 0 < z) (by decide) (by unfold InB; simp only [List.length_cons, List.length_nil]; omega))) (by first | (unfold InB; (try simp only [List.length_cons, List.length_nil, decide_eq_true_eq] at *); omega) | (unfold InB; simp only [List.length_cons, List.length_nil]; split <;> omega))) (Eo.add Eo.I (Eo.v 17 (j_5))) (by omega))) Eo.I (by first | omega | exact getI_all (P := fun z : Int => 0 < z) (by decide) (by unfold InB; simp only [List.length_cons, List.length_nil]; omega))) Eo.I) (fun hc => ?_) (fun hc => ?_) (fun j'' h_j'' => ?_)
          · refine Sk.storeAD (nxR (fun (s : (List (Option Int))) => ([none, some (F (l1_ : (List (List (Option Int))))), some (F (drop' : Int)), some (F (draws : (List Int))), some (F (k_4 : Int)), some (OD.at b_row), none, none, none, none, some (F (l2_ : (List Str))), none, none, none, none, none, some (oLA b_row (s4 : (List (List (Option Int)))) (k_4).toNat (s : (List (Option Int)))), none, none, none, none, none, none, none] : Rho))) 16 5 (v := s4) (k := (k_4).toNat) (ys := s5) (b0 := b_row) hk_row (by first | (unfold InB; (try simp only [List.length_cons, List.length_nil, decide_eq_true_eq] at *); omega) | (unfold InB; simp only [List.length_cons, List.length_nil]; split <;> omega)) (Eo.cast Eo.N (rfl : F () = F (none : (Option Int)))) (Eo.v 17 (j_5)) (fun row''' h_row''' => ?_)
            exact Sk.nx (Le.skip (Le.cons (Le.cons (Le.cons (Le.cons (Le.cons (Le.skip (Le.skip (Le.skip (Le.skip (Le.cons (Le.skip (Le.skip (Le.skip (Le.skip (Le.skip (Le.cons (Le.skip (Le.skip (Le.skip (Le.skip (Le.skip (Le.skip (Le.skip Le.nil))))))))))))))))))))))))
          · exact Sk.nx (Le.skip (Le.cons (Le.cons (Le.cons (Le.cons (Le.cons (Le.skip (Le.skip (Le.skip (Le.skip (Le.cons (Le.skip (Le.skip (Le.skip (Le.skip (Le.skip (Le.cons (Le.skip (Le.skip (Le.skip (Le.skip (Le.skip (Le.skip (Le.skip Le.nil))))))))))))))))))))))))
          -- on
          exact Sk.nx (Le.skip (Le.cons (Le.cons (Le.cons (Le.cons (Le.cons (Le.skip (Le.skip (Le.skip (Le.skip (Le.cons (Le.skip (Le.skip (Le.skip (Le.skip (Le.skip (Le.cons (Le.skip (Le.skip (Le.skip (Le.skip (Le.skip (Le.skip (Le.skip Le.nil))))))))))))))))))))))))
      refine Sk.untellAD 16 5 (s4) (k_4).toNat (l5_) b_row hk_row ?_
      exact Sk.nx (Le.skip (Le.cons (Le.cons (Le.cons (Le.skip (Le.skip (Le.skip (Le.skip (Le.skip (Le.skip (Le.cons (Le.skip (Le.skip (Le.skip (Le.skip (Le.skip (Le.cons (Le.skip (Le.skip (Le.skip (Le.skip (Le.skip (Le.skip (Le.skip Le.nil))))))))))))))))))))))))
  have hmk5 := iv_l4_.1
  have hlen5 := iv_l4_.2
  obtain ⟨hw1, hw2, hw3, ⟨hw, hw4, hw5, hw6, hw7⟩, hw8⟩ := id hmk5
  have hsz5 := hmk5.sz
  refine Sk.frzD 16 (l4_) ?_
  refine Sk.setF (rtF (α := Bool)) 11 (Eo.add Eo.I (Eo.mod (Eo.idx (α := Int) (Eo.v 3 (draws)) Eo.I (by first | (unfold InB; (try simp only [List.length_cons, List.length_nil, decide_eq_true_eq] at *); omega) | (unfold InB; simp only [List.length_cons, List.length_nil]; split <;> omega))) (Eo.lenL hb.b_len (Eo.v 16 (l4_))) (by first | omega | exact getI_all (P := fun z : Int => 0 < z) (by decide) (by unfold InB; simp only [List.length_cons, List.length_nil]; omega)))) (fun places h_places => ?_)
  refine Sk.setO (rtF (α := Bool)) 14 (Eo.call hd.d_chances (⟨l4_, drop', places, rfl, (by first | exact word_pre hfl hmk2.1 hfo (by omega) (by omega) | ((repeat' apply And.intro) <;> first | assumption | omega | (rw [List.length_map]; omega))), rfl⟩ : R_chances _ _) (Ea.cons (Eo.v 16 (l4_)) (Ea.cons (Eo.v 2 (drop')) (Ea.cons (Eo.v 11 (places)) Ea.nil)))) (fun told'' h_told'' => ?_)
  have htl2 : told''.length = l4_.length := by rw [h_told'']; exact m_chances_len _ _ _
  refine Sk.frzO 14 (told'') ?_
  refine Sk.forR (rtF (α := Bool)) (fun q => q) (T := (fun (z : Bool) => F z)) (rangeC (0 : Int) (7 : Int) (cntUp (0 : Int) (l4_.length : Int) (7 : Int))) enc (fun (s6 : Unit) (player_6 : Int) =>
    (letv (α := (List (List Int))) (((rangeI 0 ((l4_.length : Int)).toNat)).map (fun (k : Int) => (((getI l4_ k)).map (fun (mark : (Option Int)) => (mark.getD (getI [(100 : Int), (0 : Int)] (if (decide (k = player_6)) = true then (1 : Int) else 0))))))) fun low =>
      letv (α := (List (List Int))) (((rangeI 0 ((l4_.length : Int)).toNat)).map (fun (k : Int) => (((getI l4_ k)).map (fun (mark : (Option Int)) => (mark.getD (getI [(0 : Int), (100 : Int)] (if (decide (k = player_6)) = true then (1 : Int) else 0))))))) fun high =>
      letv (α := Str) ("out" : Str) fun word =>
      letv (α := Str) (if (decide ((getI (m_law_ranks high drop') player_6) ≤ places)) = true then
        letv (α := Str) ("open" : Str) fun word' =>
        word'
      else
        word) fun j''' =>
      letv (α := Str) (if (decide ((getI (m_law_ranks low drop') player_6) ≤ places)) = true then
        letv (α := Str) ("in" : Str) fun word'' =>
        word''
      else
        j''') fun j'''' =>
      if (!decide ((getI told'' player_6) = j'''')) = true then
        (Fl.rt (false))
      else
        (Fl.nx ()) : Fl (Unit) Bool)) (() : Unit) (fun (s6 : Unit) => ([none, some (F (l1_ : (List (List (Option Int))))), some (F (drop' : Int)), none, none, none, none, none, none, none, some (F (l2_ : (List Str))), some (F (places : Int)), none, none, some (F (told'' : (List Str))), none, some (F (l4_ : (List (List (Option Int))))), none, none, none, none, none, none, none] : Rho)) (fun (i_6 : Nat) (s6 : Unit) => True) (Ei.range3 hb.b_range Eo.I (Eo.lenL hb.b_len (Eo.v 16 (l4_))) Eo.I (by exact RgC.up (by decide) (by decide) (by omega) (by omega) (by omega) (by omega))) (Le.skip (Le.cons (Le.cons (Le.skip (Le.skip (Le.skip (Le.skip (Le.skip (Le.skip (Le.skip (Le.cons (Le.cons (Le.skip (Le.skip (Le.cons (Le.skip (Le.cons (Le.skip (Le.skip (Le.skip (Le.skip (Le.skip (Le.skip (Le.skip Le.nil)))))))))))))))))))))))) (trivial) (fun i_6 s6 player_6 hx_6 iv_6 => ?_) (fun l6_ h_l6_ iv_l6_ => ?_)
  · have hpl := rangeC_get hx_6 (by decide)
    refine ⟨ForTurn.name 18 (Sk.ss ?_) (notCt_body _), fun s6_ e_ => trivial⟩
    · refine Sk.setLcMF (Fl.body (γ := Bool) (fun (s6 : Unit) => ([none, some (F (l1_ : (List (List (Option Int))))), some (F (drop' : Int)), none, none, none, none, none, none, none, some (F (l2_ : (List Str))), some (F (places : Int)), none, none, some (F (told'' : (List Str))), none, some (F (l4_ : (List (List (Option Int))))), none, none, none, none, none, none, none] : Rho)) (fun (s6 : Unit) => ([none, some (F (l1_ : (List (List (Option Int))))), some (F (drop' : Int)), none, none, none, none, none, none, none, some (F (l2_ : (List Str))), some (F (places : Int)), none, none, some (F (told'' : (List Str))), none, some (F (l4_ : (List (List (Option Int))))), none, none, none, none, none, none, none] : Rho)) (fun (z : Bool) => F z)) 19 (rangeI 0 ((l4_.length : Int)).toNat) enc (fun (k : Int) => (((getI l4_ k)).map (fun (mark : (Option Int)) => (mark.getD (getI [(100 : Int), (0 : Int)] (if (decide (k = player_6)) = true then (1 : Int) else 0)))))) [("k", 4)] (Ei.range1 hb.b_range (Eo.lenL hb.b_len (Eo.v 16 (l4_))) (by omega) (by omega)) (by first | (simp only [rangeI_length, sizeLine_eq]; omega) | (have := hw7 _ (getI_mem (xs := l4_) (i := k) (by unfold InB; omega)); simp only [sizeLine_eq]; omega)) (fun k hk => have hk_ := mem_rangeI.mp hk; LcTurn.name 4 Ets.nil (fun hc => (Eo.frO (Eo.lcL (getI l4_ k) enc (fun (mark : (Option Int)) => (mark.getD (getI [(100 : Int), (0 : Int)] (if (decide (k = player_6)) = true then (1 : Int) else 0)))) [("mark", 23)] (Ei.lst (Eo.idx (α := (List (Option Int))) (Eo.v 16 (l4_)) (Eo.v 4 (k)) (by first | (unfold InB; (try simp only [List.length_cons, List.length_nil, decide_eq_true_eq] at *); omega) | (unfold InB; simp only [List.length_cons, List.length_nil]; split <;> omega)))) (by first | (simp only [rangeI_length, sizeLine_eq]; omega) | (have := hw7 _ (getI_mem (xs := l4_) (i := k) (by unfold InB; omega)); simp only [sizeLine_eq]; omega)) (fun mark hmark => LcTurn.name 23 Ets.nil (fun hc => (Eo.cast (Eo.idx (α := (Option Int)) (Eo.frO (show Eo _ _ _ _ (oL ([mark, (some (getI [(100 : Int), (0 : Int)] (if (decide (k = player_6)) = true then (1 : Int) else 0)))] : (List (Option Int)))) from Eo.lst (Ea.cons (Eo.v 23 (mark)) (Ea.cons (Eo.idx (α := Int) (Eo.frO (show Eo _ _ _ _ (oL ([(100 : Int), (0 : Int)] : (List Int))) from Eo.lst (Ea.cons Eo.I (Ea.cons Eo.I Ea.nil)) (by first | decide | (simp only [List.map_cons, List.map_nil, List.length_cons, List.length_nil, sizeLine_eq]; omega)))) (Eo.intB hb.b_int (Eo.eqI (Eo.v 4 (k)) (Eo.v 18 (player_6)))) (by first | (unfold InB; (try simp only [List.length_cons, List.length_nil, decide_eq_true_eq] at *); omega) | (unfold InB; simp only [List.length_cons, List.length_nil]; split <;> omega))) Ea.nil)) (by first | decide | (simp only [List.map_cons, List.map_nil, List.length_cons, List.length_nil, sizeLine_eq]; omega)))) (Eo.intB hb.b_int (Eo.isNO (Eo.v 23 (mark)) Eo.N)) (pick_in _ _)) (pick_eq mark (getI [(100 : Int), (0 : Int)] (if (decide (k = player_6)) = true then (1 : Int) else 0)))))))))) (fun low h_low => ?_)
      have hlo := hl_ok l4_ _ h_low hw7
      have hlo1 := hlo.1
      have hlo2 : ∀ row ∈ low, 2 * drop' ≤ (row.length : Int) := fun row hrow => by have := hlo.2 row hrow; omega
      have hlo3 := m_law_ranks_len low drop'
      refine Sk.setLcMF (Fl.body (γ := Bool) (fun (s6 : Unit) => ([none, some (F (l1_ : (List (List (Option Int))))), some (F (drop' : Int)), none, none, none, none, none, none, none, some (F (l2_ : (List Str))), some (F (places : Int)), none, none, some (F (told'' : (List Str))), none, some (F (l4_ : (List (List (Option Int))))), none, none, none, none, none, none, none] : Rho)) (fun (s6 : Unit) => ([none, some (F (l1_ : (List (List (Option Int))))), some (F (drop' : Int)), none, none, none, none, none, none, none, some (F (l2_ : (List Str))), some (F (places : Int)), none, none, some (F (told'' : (List Str))), none, some (F (l4_ : (List (List (Option Int))))), none, none, none, none, none, none, none] : Rho)) (fun (z : Bool) => F z)) 20 (rangeI 0 ((l4_.length : Int)).toNat) enc (fun (k : Int) => (((getI l4_ k)).map (fun (mark : (Option Int)) => (mark.getD (getI [(0 : Int), (100 : Int)] (if (decide (k = player_6)) = true then (1 : Int) else 0)))))) [("k", 4)] (Ei.range1 hb.b_range (Eo.lenL hb.b_len (Eo.v 16 (l4_))) (by omega) (by omega)) (by first | (simp only [rangeI_length, sizeLine_eq]; omega) | (have := hw7 _ (getI_mem (xs := l4_) (i := k) (by unfold InB; omega)); simp only [sizeLine_eq]; omega)) (fun k hk => have hk_ := mem_rangeI.mp hk; LcTurn.name 4 Ets.nil (fun hc => (Eo.frO (Eo.lcL (getI l4_ k) enc (fun (mark : (Option Int)) => (mark.getD (getI [(0 : Int), (100 : Int)] (if (decide (k = player_6)) = true then (1 : Int) else 0)))) [("mark", 23)] (Ei.lst (Eo.idx (α := (List (Option Int))) (Eo.v 16 (l4_)) (Eo.v 4 (k)) (by first | (unfold InB; (try simp only [List.length_cons, List.length_nil, decide_eq_true_eq] at *); omega) | (unfold InB; simp only [List.length_cons, List.length_nil]; split <;> omega)))) (by first | (simp only [rangeI_length, sizeLine_eq]; omega) | (have := hw7 _ (getI_mem (xs := l4_) (i := k) (by unfold InB; omega)); simp only [sizeLine_eq]; omega)) (fun mark hmark => LcTurn.name 23 Ets.nil (fun hc => (Eo.cast (Eo.idx (α := (Option Int)) (Eo.frO (show Eo _ _ _ _ (oL ([mark, (some (getI [(0 : Int), (100 : Int)] (if (decide (k = player_6)) = true then (1 : Int) else 0)))] : (List (Option Int)))) from Eo.lst (Ea.cons (Eo.v 23 (mark)) (Ea.cons (Eo.idx (α := Int) (Eo.frO (show Eo _ _ _ _ (oL ([(0 : Int), (100 : Int)] : (List Int))) from Eo.lst (Ea.cons Eo.I (Ea.cons Eo.I Ea.nil)) (by first | decide | (simp only [List.map_cons, List.map_nil, List.length_cons, List.length_nil, sizeLine_eq]; omega)))) (Eo.intB hb.b_int (Eo.eqI (Eo.v 4 (k)) (Eo.v 18 (player_6)))) (by first | (unfold InB; (try simp only [List.length_cons, List.length_nil, decide_eq_true_eq] at *); omega) | (unfold InB; simp only [List.length_cons, List.length_nil]; split <;> omega))) Ea.nil)) (by first | decide | (simp only [List.map_cons, List.map_nil, List.length_cons, List.length_nil, sizeLine_eq]; omega)))) (Eo.intB hb.b_int (Eo.isNO (Eo.v 23 (mark)) Eo.N)) (pick_in _ _)) (pick_eq mark (getI [(0 : Int), (100 : Int)] (if (decide (k = player_6)) = true then (1 : Int) else 0)))))))))) (fun high h_high => ?_)
      have hhi := hl_ok l4_ _ h_high hw7
      have hhi1 := hhi.1
      have hhi2 : ∀ row ∈ high, 2 * drop' ≤ (row.length : Int) := fun row hrow => by have := hhi.2 row hrow; omega
      have hhi3 := m_law_ranks_len high drop'
      refine Sk.setF (Fl.body (γ := Bool) (fun (s6 : Unit) => ([none, some (F (l1_ : (List (List (Option Int))))), some (F (drop' : Int)), none, none, none, none, none, none, none, some (F (l2_ : (List Str))), some (F (places : Int)), none, none, some (F (told'' : (List Str))), none, some (F (l4_ : (List (List (Option Int))))), none, none, none, none, none, none, none] : Rho)) (fun (s6 : Unit) => ([none, some (F (l1_ : (List (List (Option Int))))), some (F (drop' : Int)), none, none, none, none, none, none, none, some (F (l2_ : (List Str))), some (F (places : Int)), none, none, some (F (told'' : (List Str))), none, some (F (l4_ : (List (List (Option Int))))), none, none, none, none, none, none, none] : Rho)) (fun (z : Bool) => F z)) 21 Eo.S (fun word h_word => ?_)
      refine Sk.ifJ (Fl.body (γ := Bool) (fun (s6 : Unit) => ([none, some (F (l1_ : (List (List (Option Int))))), some (F (drop' : Int)), none, none, none, none, none, none, none, some (F (l2_ : (List Str))), some (F (places : Int)), none, none, some (F (told'' : (List Str))), none, some (F (l4_ : (List (List (Option Int))))), none, none, none, none, none, none, none] : Rho)) (fun (s6 : Unit) => ([none, some (F (l1_ : (List (List (Option Int))))), some (F (drop' : Int)), none, none, none, none, none, none, none, some (F (l2_ : (List Str))), some (F (places : Int)), none, none, some (F (told'' : (List Str))), none, some (F (l4_ : (List (List (Option Int))))), none, none, none, none, none, none, none] : Rho)) (fun (z : Bool) => F z)) (fun (s : Str) => ([none, some (F (l1_ : (List (List (Option Int))))), some (F (drop' : Int)), none, none, none, none, none, none, none, some (F (l2_ : (List Str))), some (F (places : Int)), none, none, some (F (told'' : (List Str))), none, some (F (l4_ : (List (List (Option Int))))), none, some (F (player_6 : Int)), some (F (low : (List (List Int)))), none, some (F (s : Str)), none, none] : Rho)) (Et.lle (Eo.idx (α := Int) (Eo.frO (Eo.call hd.d_law_ranks (⟨high, drop', rfl, (by first | exact word_pre hfl hmk2.1 hfo (by omega) (by omega) | ((repeat' apply And.intro) <;> first | assumption | omega | (rw [List.length_map]; omega))), rfl⟩ : R_law_ranks _ _) (Ea.cons (Eo.v 20 (high)) (Ea.cons (Eo.v 2 (drop')) Ea.nil)))) (Eo.v 18 (player_6)) (by first | (unfold InB; (try simp only [List.length_cons, List.length_nil, decide_eq_true_eq] at *); omega) | (unfold InB; simp only [List.length_cons, List.length_nil]; split <;> omega))) (Eo.v 11 (places))) (fun hc => ?_) (fun hc => ?_) (fun j''' h_j''' => ?_)
      · refine Sk.setF (nxR (fun (s : Str) => ([none, some (F (l1_ : (List (List (Option Int))))), some (F (drop' : Int)), none, none, none, none, none, none, none, some (F (l2_ : (List Str))), some (F (places : Int)), none, none, some (F (told'' : (List Str))), none, some (F (l4_ : (List (List (Option Int))))), none, some (F (player_6 : Int)), some (F (low : (List (List Int)))), none, some (F (s : Str)), none, none] : Rho))) 21 Eo.S (fun word' h_word' => ?_)
        exact Sk.nx (Le.skip (Le.cons (Le.cons (Le.skip (Le.skip (Le.skip (Le.skip (Le.skip (Le.skip (Le.skip (Le.cons (Le.cons (Le.skip (Le.skip (Le.cons (Le.skip (Le.cons (Le.skip (Le.cons (Le.cons (Le.skip (Le.cons (Le.skip (Le.skip Le.nil))))))))))))))))))))))))
      · exact Sk.nx (Le.skip (Le.cons (Le.cons (Le.skip (Le.skip (Le.skip (Le.skip (Le.skip (Le.skip (Le.skip (Le.cons (Le.cons (Le.skip (Le.skip (Le.cons (Le.skip (Le.cons (Le.skip (Le.cons (Le.cons (Le.skip (Le.cons (Le.skip (Le.skip Le.nil))))))))))))))))))))))))
      -- on
      refine Sk.ifJ (Fl.body (γ := Bool) (fun (s6 : Unit) => ([none, some (F (l1_ : (List (List (Option Int))))), some (F (drop' : Int)), none, none, none, none, none, none, none, some (F (l2_ : (List Str))), some (F (places : Int)), none, none, some (F (told'' : (List Str))), none, some (F (l4_ : (List (List (Option Int))))), none, none, none, none, none, none, none] : Rho)) (fun (s6 : Unit) => ([none, some (F (l1_ : (List (List (Option Int))))), some (F (drop' : Int)), none, none, none, none, none, none, none, some (F (l2_ : (List Str))), some (F (places : Int)), none, none, some (F (told'' : (List Str))), none, some (F (l4_ : (List (List (Option Int))))), none, none, none, none, none, none, none] : Rho)) (fun (z : Bool) => F z)) (fun (s : Str) => ([none, some (F (l1_ : (List (List (Option Int))))), some (F (drop' : Int)), none, none, none, none, none, none, none, some (F (l2_ : (List Str))), some (F (places : Int)), none, none, some (F (told'' : (List Str))), none, some (F (l4_ : (List (List (Option Int))))), none, some (F (player_6 : Int)), none, none, some (F (s : Str)), none, none] : Rho)) (Et.lle (Eo.idx (α := Int) (Eo.frO (Eo.call hd.d_law_ranks (⟨low, drop', rfl, (by first | exact word_pre hfl hmk2.1 hfo (by omega) (by omega) | ((repeat' apply And.intro) <;> first | assumption | omega | (rw [List.length_map]; omega))), rfl⟩ : R_law_ranks _ _) (Ea.cons (Eo.v 19 (low)) (Ea.cons (Eo.v 2 (drop')) Ea.nil)))) (Eo.v 18 (player_6)) (by first | (unfold InB; (try simp only [List.length_cons, List.length_nil, decide_eq_true_eq] at *); omega) | (unfold InB; simp only [List.length_cons, List.length_nil]; split <;> omega))) (Eo.v 11 (places))) (fun hc => ?_) (fun hc => ?_) (fun j'''' h_j'''' => ?_)
      · refine Sk.setF (nxR (fun (s : Str) => ([none, some (F (l1_ : (List (List (Option Int))))), some (F (drop' : Int)), none, none, none, none, none, none, none, some (F (l2_ : (List Str))), some (F (places : Int)), none, none, some (F (told'' : (List Str))), none, some (F (l4_ : (List (List (Option Int))))), none, some (F (player_6 : Int)), none, none, some (F (s : Str)), none, none] : Rho))) 21 Eo.S (fun word'' h_word'' => ?_)
        exact Sk.nx (Le.skip (Le.cons (Le.cons (Le.skip (Le.skip (Le.skip (Le.skip (Le.skip (Le.skip (Le.skip (Le.cons (Le.cons (Le.skip (Le.skip (Le.cons (Le.skip (Le.cons (Le.skip (Le.cons (Le.skip (Le.skip (Le.cons (Le.skip (Le.skip Le.nil))))))))))))))))))))))))
      · exact Sk.nx (Le.skip (Le.cons (Le.cons (Le.skip (Le.skip (Le.skip (Le.skip (Le.skip (Le.skip (Le.skip (Le.cons (Le.cons (Le.skip (Le.skip (Le.cons (Le.skip (Le.cons (Le.skip (Le.cons (Le.skip (Le.skip (Le.cons (Le.skip (Le.skip Le.nil))))))))))))))))))))))))
      -- on
      refine Sk.ifT (Fl.body (γ := Bool) (fun (s6 : Unit) => ([none, some (F (l1_ : (List (List (Option Int))))), some (F (drop' : Int)), none, none, none, none, none, none, none, some (F (l2_ : (List Str))), some (F (places : Int)), none, none, some (F (told'' : (List Str))), none, some (F (l4_ : (List (List (Option Int))))), none, none, none, none, none, none, none] : Rho)) (fun (s6 : Unit) => ([none, some (F (l1_ : (List (List (Option Int))))), some (F (drop' : Int)), none, none, none, none, none, none, none, some (F (l2_ : (List Str))), some (F (places : Int)), none, none, some (F (told'' : (List Str))), none, some (F (l4_ : (List (List (Option Int))))), none, none, none, none, none, none, none] : Rho)) (fun (z : Bool) => F z)) (Et.neS (Eo.idx (α := Str) (Eo.v 14 (told'')) (Eo.v 18 (player_6)) (by first | (unfold InB; (try simp only [List.length_cons, List.length_nil, decide_eq_true_eq] at *); omega) | (unfold InB; simp only [List.length_cons, List.length_nil]; split <;> omega))) (Eo.v 21 (j''''))) (fun hc => ?_) (fun hc => ?_)
      · exact Sk.retLF Eo.B
      · refine Sk.pop ?_
        exact Sk.nxL (Le.skip (Le.cons (Le.cons (Le.skip (Le.skip (Le.skip (Le.skip (Le.skip (Le.skip (Le.skip (Le.cons (Le.cons (Le.skip (Le.skip (Le.cons (Le.skip (Le.cons (Le.skip (Le.skip (Le.skip (Le.skip (Le.skip (Le.skip (Le.skip Le.nil))))))))))))))))))))))))
  exact Sk.retF (Eo.eqLS (Eo.v 10 (l2_)) (Eo.frO (Eo.lcL l1_ enc (fun (row : (List (Option Int))) => ("in" : Str)) [("row", 5)] (Ei.lst (Eo.v 1 (l1_))) (by first | (simp only [rangeI_length, sizeLine_eq]; omega) | (have := hw7 _ (getI_mem (xs := l4_) (i := k) (by unfold InB; omega)); simp only [sizeLine_eq]; omega)) (fun row hrow => LcTurn.name 5 Ets.nil (fun hc => Eo.S)))) (by first | exact chances_strs _ _ _ | exact ranks_strs _ | exact fun x hx => words_ok (hbl2.2 x hx) | exact ins_strs _) (by first | exact chances_strs _ _ _ | exact ranks_strs _ | exact fun x hx => words_ok (hbl2.2 x hx) | exact ins_strs _))
end K60
namespace K60
open PySem NW
/-! ### the plain law -/
theorem lmax_ge {xs : List Int} {y : Int} (h : y ∈ xs) : y ≤ lmax xs := by
  cases xs with
  | nil => simp at h
  | cons x xs =>
    obtain ⟨_, h2, h3⟩ := lmax_aux xs x
    rcases List.mem_cons.mp h with e | e
    · subst e; exact h2
    · exact h3 y e
theorem lmin_le {xs : List Int} {y : Int} (h : y ∈ xs) : lmin xs ≤ y := by
  cases xs with
  | nil => simp at h
  | cons x xs =>
    obtain ⟨_, h2, h3⟩ := lmin_aux xs x
    rcases List.mem_cons.mp h with e | e
    · subst e; exact h2
    · exact h3 y e
abbrev Srt (s : List Int) : Prop := s.Pairwise (· ≤ ·)
/-- the greatest goes: the end of the sorted list goes -/
theorem erase_max {l s : List Int} {m : Int} (h : l.Perm (s ++ [m])) (hs : Srt (s ++ [m])) : lmax l = m ∧ (l.erase (lmax l)).Perm s := by
  have hm : m ∈ l := h.mem_iff.mpr (by simp)
  have h1 := lmax_ge hm
  have hne : l ≠ [] := by intro z; rw [z] at hm; simp at hm
  have h2 : lmax l ∈ s ++ [m] := h.mem_iff.mp (lmax_mem hne)
  have h3 : lmax l ≤ m := by
    rcases List.mem_append.mp h2 with e | e
    · exact (List.pairwise_append.mp hs).2.2 _ e _ (by simp)
    · rw [List.mem_singleton.mp e]; exact Int.le_refl _
  have e : lmax l = m := by omega
  refine ⟨e, ?_⟩
  rw [e]
  refine (h.erase m).trans ?_
  have : (s ++ [m]).Perm (m :: s) := List.perm_append_singleton m s
  refine (this.erase m).trans ?_
  rw [List.erase_cons_head]
theorem erase_min {l s : List Int} {m : Int} (h : l.Perm (m :: s)) (hs : Srt (m :: s)) : lmin l = m ∧ (l.erase (lmin l)).Perm s := by
  have hm : m ∈ l := h.mem_iff.mpr (by simp)
  have h1 := lmin_le hm
  have hne : l ≠ [] := by intro z; rw [z] at hm; simp at hm
  have h2 : lmin l ∈ m :: s := h.mem_iff.mp (lmin_mem hne)
  have h3 : m ≤ lmin l := by
    rcases List.mem_cons.mp h2 with e | e
    · rw [e]; exact Int.le_refl _
    · exact (List.pairwise_cons.mp hs).1 _ e
  have e : lmin l = m := by omega
  refine ⟨e, ?_⟩
  rw [e]
  refine (h.erase m).trans ?_
  rw [List.erase_cons_head]
theorem perm_sum {l s : List Int} (h : l.Perm s) : l.sum = s.sum := by
  induction h with
  | nil => rfl
  | cons x _ ih => rw [List.sum_cons, List.sum_cons, ih]
  | swap x y l => simp only [List.sum_cons]; omega
  | trans _ _ h1 h2 => exact h1.trans h2
/-- one turn -/
def trn (l : List Int) : List Int := (l.erase (lmax l)).erase (lmin (l.erase (lmax l)))
theorem trn_perm {l s : List Int} (h : l.Perm s) (hs : Srt s) (h2 : 2 ≤ s.length) : (trn l).Perm ((s.drop 1).take (s.length - 2)) := by
  obtain ⟨a, s1, rfl⟩ : ∃ a s1, s = a :: s1 := by
    cases s with
    | nil => simp at h2
    | cons a s1 => exact ⟨a, s1, rfl⟩
  have hne : s1 ≠ [] := by intro z; subst z; simp at h2
  obtain ⟨s2, b, rfl⟩ : ∃ s2 b, s1 = s2 ++ [b] := ⟨s1.dropLast, s1.getLast hne, (List.dropLast_concat_getLast hne).symm⟩
  have e1 : a :: (s2 ++ [b]) = (a :: s2) ++ [b] := rfl
  rw [e1] at h hs
  obtain ⟨_, p1⟩ := erase_max h hs
  have hs2 : Srt (a :: s2) := (List.pairwise_append.mp hs).1
  obtain ⟨_, p2⟩ := erase_min p1 hs2
  unfold trn
  refine p2.trans ?_
  simp
theorem iter_perm : ∀ (n : Nat) (l s : List Int), l.Perm s → Srt s → 2 * n ≤ s.length → (Nat.repeat trn n l).Perm ((s.drop n).take (s.length - 2 * n))
  | 0, l, s, h, hs, hn => by simpa [Nat.repeat] using h
  | n + 1, l, s, h, hs, hn => by
    have ih := iter_perm n l s h hs (by omega)
    have hs' : Srt ((s.drop n).take (s.length - 2 * n)) := (hs.sublist (List.drop_sublist _ _)).sublist (List.take_sublist _ _)
    have hl : ((s.drop n).take (s.length - 2 * n)).length = s.length - 2 * n := by
      rw [List.length_take, List.length_drop]; omega
    have q := trn_perm ih hs' (by rw [hl]; omega)
    rw [hl] at q
    show (trn (Nat.repeat trn n l)).Perm _
    refine q.trans ?_
    rw [List.drop_take, List.drop_drop, List.take_take]
    have e2 : min (s.length - 2 * n - 2) (s.length - 2 * n - 1) = s.length - 2 * (n + 1) := by omega
    rw [e2]
theorem foldl_repeat {α β : Type} (f : α → α) : ∀ (xs : List β) (s : α), xs.foldl (fun s _ => f s) s = Nat.repeat f xs.length s
  | [], s => rfl
  | x :: xs, s => by
    rw [List.foldl_cons, foldl_repeat f xs]
    have : ∀ (n : Nat) (s : α), Nat.repeat f n (f s) = f (Nat.repeat f n s) := by
      intro n
      induction n with
      | zero => intro s; rfl
      | succ n ih => intro s; show f (Nat.repeat f n (f s)) = _; rw [ih]; rfl
    rw [this]
    rfl
theorem sIx_nat {n d : Nat} {i : Int} (h0 : 0 ≤ i) (h : i ≤ n) : HT.sIx n d (some i) = i.toNat := by
  show (if i < 0 then (i + (n : Int)).toNat else min i.toNat n) = i.toNat
  rw [if_neg (by omega)]
  omega
theorem total_eq (row : List Int) (drop : Int) (h0 : 0 ≤ drop) (h : 2 * drop ≤ row.length) : m_law_total row drop = m_total_of row drop := by
  obtain ⟨n, rfl⟩ : ∃ n : Nat, drop = (n : Int) := ⟨drop.toNat, by omega⟩
  have hl : (isort row).length = row.length := (isort_perm row).length_eq
  have e : (rangeI 0 ((n : Int)).toNat).foldl (fun (s1 : List Int) (_ : Int) => trn s1) row = Nat.repeat trn n row := by
    rw [foldl_repeat, rangeI_length]
    rfl
  show ((rangeI 0 ((n : Int)).toNat).foldl (fun (s1 : List Int) (_ : Int) => trn s1) row).sum = (cutL (isort row) (some (n : Int)) (some ((row.length : Int) - (n : Int)))).sum
  rw [e]
  have p := iter_perm n row (isort row) (isort_perm row).symm (isort_sorted row) (by rw [hl]; omega)
  rw [perm_sum p]
  unfold cutL
  rw [sIx_nat (by omega) (by rw [hl]; omega), sIx_nat (by omega) (by rw [hl]; omega)]
  congr 2
  rw [hl]
  omega
/-! totals grow with the marks -/
inductive Le2 : List Int → List Int → Prop
  | nil : Le2 [] []
  | cons {x y : Int} {xs ys : List Int} : x ≤ y → Le2 xs ys → Le2 (x :: xs) (y :: ys)
theorem insI_head {x : Int} {s : List Int} (h : Srt (x :: s)) : insI x s = x :: s := by
  cases s with
  | nil => rfl
  | cons a s =>
    unfold insI
    rw [if_pos ((List.pairwise_cons.mp h).1 a List.mem_cons_self)]
theorem insI_mono : ∀ {s t : List Int} {x y : Int}, x ≤ y → Le2 s t → Srt s → Srt t → Le2 (insI x s) (insI y t)
  | [], [], x, y, h, _, _, _ => .cons h .nil
  | a :: s, b :: t, x, y, h, .cons hab hst, hs, ht => by
    have hs' := (List.pairwise_cons.mp hs).2
    have ht' := (List.pairwise_cons.mp ht).2
    have ha := (List.pairwise_cons.mp hs).1
    have hb := (List.pairwise_cons.mp ht).1
    unfold insI
    by_cases h1 : x ≤ a <;> by_cases h2 : y ≤ b
    · rw [if_pos h1, if_pos h2]
      exact .cons h (.cons hab hst)
    · rw [if_pos h1, if_neg h2]
      refine .cons (by omega) ?_
      have q := insI_mono (x := a) (y := y) (by omega) hst hs' ht'
      rwa [insI_head hs] at q
    · rw [if_neg h1, if_pos h2]
      refine .cons (by omega) ?_
      have q := insI_mono (x := x) (y := b) (by omega) hst hs' ht'
      rwa [insI_head ht] at q
    · rw [if_neg h1, if_neg h2]
      exact .cons hab (insI_mono h hst hs' ht')
theorem isort_mono : ∀ {xs ys : List Int}, Le2 xs ys → Le2 (isort xs) (isort ys)
  | [], [], _ => .nil
  | x :: xs, y :: ys, .cons h t => insI_mono h (isort_mono t) (isort_sorted xs) (isort_sorted ys)
theorem Le2.take : ∀ {xs ys : List Int} (n : Nat), Le2 xs ys → Le2 (xs.take n) (ys.take n)
  | _, _, 0, _ => .nil
  | [], [], n + 1, _ => .nil
  | x :: xs, y :: ys, n + 1, .cons h t => .cons h (Le2.take n t)
theorem Le2.drop : ∀ {xs ys : List Int} (n : Nat), Le2 xs ys → Le2 (xs.drop n) (ys.drop n)
  | _, _, 0, h => h
  | [], [], n + 1, _ => .nil
  | x :: xs, y :: ys, n + 1, .cons h t => Le2.drop n t
theorem Le2.sum : ∀ {xs ys : List Int}, Le2 xs ys → xs.sum ≤ ys.sum
  | [], [], _ => Int.le_refl _
  | x :: xs, y :: ys, .cons h t => by
    have := Le2.sum t
    rw [List.sum_cons, List.sum_cons]
    omega
theorem Le2.len : ∀ {xs ys : List Int}, Le2 xs ys → xs.length = ys.length
  | [], [], _ => rfl
  | x :: xs, y :: ys, .cons h t => by rw [List.length_cons, List.length_cons, Le2.len t]
theorem Le2.refl : ∀ xs : List Int, Le2 xs xs
  | [] => .nil
  | x :: xs => .cons (Int.le_refl _) (Le2.refl xs)
theorem Le2.set : ∀ (xs : List Int) (j : Nat) (w : Int), (∀ x, xs[j]? = some x → x ≤ w) → Le2 xs (xs.set j w)
  | [], _, _, _ => .nil
  | x :: xs, 0, w, h => .cons (h x rfl) (Le2.refl xs)
  | x :: xs, j + 1, w, h => .cons (Int.le_refl _) (Le2.set xs j w fun y hy => h y hy)
theorem total_mono {xs ys : List Int} (drop : Int) (h : Le2 xs ys) : m_total_of xs drop ≤ m_total_of ys drop := by
  unfold m_total_of
  have q := isort_mono h
  rw [h.len]
  unfold cutL
  rw [q.len]
  exact ((q.drop _).take _).sum
/-! ranks -/
def rk (fs : List Int) (t : Int) : Int := 1 + ((fs.filter (fun o => decide (o > t))).length : Int)
theorem ranks_eq (marks : List (List Int)) (drop : Int) : m_ranks marks drop = (m_totals marks drop).map (rk (m_totals marks drop)) := by
  unfold m_ranks letv
  apply List.map_congr_left
  intro t _
  show 1 + _ = 1 + _
  rw [show (List.map (fun (other : Int) => other) (List.filter (fun other => decide (other > t)) (m_totals marks drop))) = List.filter (fun other => decide (other > t)) (m_totals marks drop) from List.map_id _]
theorem cnt_mono {α : Type} {p q : α → Bool} (h : ∀ x, p x = true → q x = true) : ∀ xs : List α, (xs.filter p).length ≤ (xs.filter q).length
  | [] => Nat.le_refl _
  | x :: xs => by
    have ih := cnt_mono h xs
    rw [List.filter_cons, List.filter_cons]
    by_cases hp : p x = true
    · rw [if_pos hp, if_pos (h x hp), List.length_cons, List.length_cons]; omega
    · rw [if_neg hp]
      split
      · rw [List.length_cons]; omega
      · exact ih
theorem cnt_lt {α : Type} {p q : α → Bool} (h : ∀ x, p x = true → q x = true) {z : α} (hz : p z = false) (hz2 : q z = true) : ∀ {xs : List α}, z ∈ xs → (xs.filter p).length < (xs.filter q).length
  | x :: xs, hm => by
    have m := cnt_mono h xs
    rw [List.filter_cons, List.filter_cons]
    rcases List.mem_cons.mp hm with e | e
    · subst e
      rw [hz, if_neg Bool.false_ne_true, if_pos hz2, List.length_cons]; omega
    · have ih := cnt_lt h hz hz2 e
      by_cases hp : p x = true
      · rw [if_pos hp, if_pos (h x hp), List.length_cons, List.length_cons]; omega
      · rw [if_neg hp]
        split
        · rw [List.length_cons]; omega
        · exact ih
theorem rk_lt {fs : List Int} {t u : Int} (hu : u ∈ fs) : decide (rk fs u < rk fs t) = decide (u > t) := by
  by_cases h : u > t
  · have := cnt_lt (p := fun o => decide (o > u)) (q := fun o => decide (o > t)) (xs := fs) (z := u) (fun x hx => by simp only [decide_eq_true_eq] at hx ⊢; omega) (by simp) (by simpa using h) hu
    rw [decide_eq_true h, decide_eq_true_eq]
    unfold rk
    omega
  · have := cnt_mono (p := fun o => decide (o > t)) (q := fun o => decide (o > u)) (fun x hx => by simp only [decide_eq_true_eq] at hx ⊢; omega) fs
    rw [decide_eq_false h, decide_eq_false_iff_not]
    unfold rk
    omega
theorem rk_count (fs : List Int) (t : Int) : (((fs.map (rk fs)).filter (fun o => decide (o < rk fs t))).length : Int) = rk fs t - 1 := by
  rw [List.filter_map, List.length_map]
  have e : fs.filter ((fun o => decide (o < rk fs t)) ∘ rk fs) = fs.filter (fun o => decide (o > t)) := List.filter_congr fun u hu => rk_lt hu
  rw [e]
  unfold rk
  omega
theorem rk_min {fs : List Int} (h : fs ≠ []) : lmin (fs.map (rk fs)) = 1 := by
  have hm : lmax fs ∈ fs := lmax_mem h
  have e : rk fs (lmax fs) = 1 := by
    unfold rk
    have : fs.filter (fun o => decide (o > lmax fs)) = [] := by
      rw [List.filter_eq_nil_iff]
      intro a ha
      have := lmax_ge ha
      simp; omega
    rw [this]
    rfl
  have h1 := lmin_le (List.mem_map_of_mem (f := rk fs) hm)
  have h2 := lmin_mem (xs := fs.map (rk fs)) (by simpa using h)
  obtain ⟨u, _, hu⟩ := List.mem_map.mp h2
  rw [e] at h1
  have h3 : 1 ≤ rk fs u := by unfold rk; omega
  omega
/-- one grows: the greater ones grow no more -/
theorem cnt_set {fs : List Int} {k : Nat} {t' : Int} (hk : k < fs.length) (h : fs[k] ≤ t') : (((fs.set k t').filter (fun o => decide (o > t'))).length) ≤ (fs.filter (fun o => decide (o > fs[k]))).length := by
  have e : fs = fs.take k ++ fs[k] :: fs.drop (k + 1) := by rw [← List.drop_eq_getElem_cons hk, List.take_append_drop]
  have e2 : fs.set k t' = fs.take k ++ t' :: fs.drop (k + 1) := List.set_eq_take_append_cons_drop ▸ by rw [if_pos hk]
  have m1 := cnt_mono (p := fun o => decide (o > t')) (q := fun o => decide (o > fs[k])) (fun x hx => by simp only [decide_eq_true_eq] at hx ⊢; omega) (fs.take k)
  have m2 := cnt_mono (p := fun o => decide (o > t')) (q := fun o => decide (o > fs[k])) (fun x hx => by simp only [decide_eq_true_eq] at hx ⊢; omega) (fs.drop (k + 1))
  rw [e2, List.filter_append, List.length_append, List.filter_cons, if_neg (by simp)]
  have e3 : (fs.filter (fun o => decide (o > fs[k]))).length = ((fs.take k).filter (fun o => decide (o > fs[k]))).length + ((fs.drop (k + 1)).filter (fun o => decide (o > fs[k]))).length := by
    conv => lhs; arg 1; arg 2; rw [e]
    rw [List.filter_append, List.length_append, List.filter_cons, if_neg (by simp)]
  rw [e3]
  omega
theorem forE_nx {β γ : Type} {step : Unit → β → Fl Unit γ} : ∀ {xs : List β}, (∀ x ∈ xs, step () x = .nx ()) → forE step xs () = .nx ()
  | [], _ => rfl
  | x :: xs, h => by
    rw [forE_cons, h x List.mem_cons_self]
    exact forE_nx fun y hy => h y (List.mem_cons_of_mem _ hy)
theorem out_nx {β γ ε : Type} {step : Unit → β → Fl Unit γ} {xs : List β} {A : Unit → ε} {g : γ → ε} (h : ∀ x ∈ xs, step () x = .nx ()) : Fl.out (forE step xs ()) A g = A () := by
  rw [forE_nx h]
  rfl
theorem getI_map {α β : Type} [Inhabited α] [Inhabited β] (f : α → β) {xs : List α} {i : Int} (h : InB xs i) : getI (xs.map f) i = f (getI xs i) := by
  unfold getI
  rw [atI_map, atI_some h]
  rfl
theorem if_false' {α : Type} {k : Bool} {a b : α} (h : k = false) : (if k = true then a else b) = b := by rw [h]; rfl
theorem totals_eq {marks : List (List Int)} {drop : Int} (h0 : 0 ≤ drop) (h : ∀ row ∈ marks, 2 * drop ≤ (row.length : Int)) : m_totals marks drop = marks.map (fun row => m_law_total row drop) := by
  unfold m_totals
  exact List.map_congr_left fun row hrow => (total_eq row drop h0 (h row hrow)).symm
theorem ranks_eq2 {marks : List (List Int)} {drop : Int} (h0 : 0 ≤ drop) (h : ∀ row ∈ marks, 2 * drop ≤ (row.length : Int)) : m_law_ranks marks drop = m_ranks marks drop := by
  unfold m_law_ranks m_ranks letv
  rw [totals_eq h0 h]
end K60
namespace K60
open PySem NW
theorem cnt2 {t t' : Int} : ∀ {xs ys : List Int}, xs.length = ys.length → (∀ (i : Nat) x y, xs[i]? = some x → ys[i]? = some y → y > t' → x > t) → (ys.filter (fun o => decide (o > t'))).length ≤ (xs.filter (fun o => decide (o > t))).length
  | [], [], _, _ => Nat.le_refl _
  | [], _ :: _, h, _ => by simp at h
  | _ :: _, [], h, _ => by simp at h
  | x :: xs, y :: ys, hl, h => by
    have ih := cnt2 (t := t) (t' := t') (xs := xs) (ys := ys) (by simpa using hl) (fun i a b ha hb => h (i + 1) a b ha hb)
    have h0 := h 0 x y rfl rfl
    rw [List.filter_cons, List.filter_cons]
    by_cases hy : y > t'
    · rw [if_pos (decide_eq_true hy), if_pos (decide_eq_true (h0 hy)), List.length_cons, List.length_cons]; omega
    · rw [if_neg (by simpa using hy)]
      split
      · rw [List.length_cons]; omega
      · exact ih
theorem tot_get {f : List (List Int)} {drop : Int} {i : Nat} {x : Int} (h : (m_totals f drop)[i]? = some x) : ∃ a, f[i]? = some a ∧ x = m_total_of a drop := by
  unfold m_totals at h
  rw [List.getElem?_map] at h
  cases q : f[i]? with
  | none => rw [q] at h; cases h
  | some a => rw [q] at h; cases h; exact ⟨a, rfl, rfl⟩
theorem rank_at {f : List (List Int)} {drop : Int} {p : Nat} (hp : p < f.length) : getI (m_ranks f drop) (p : Int) = rk (m_totals f drop) (m_total_of f[p] drop) := by
  rw [ranks_eq, getI_map _ (by unfold InB; rw [m_totals_len]; omega)]
  congr 1
  have e : m_totals f drop = f.map (fun row => m_total_of row drop) := rfl
  rw [e, getI_map (fun row => m_total_of row drop) (by unfold InB; omega), getI_nat hp]
/-- more for one and less for the others: no worse a rank -/
theorem rank_dom {f g : List (List Int)} {drop : Int} {p : Nat} (hl : f.length = g.length) (hp : p < f.length) (h1 : ∀ a b, f[p]? = some a → g[p]? = some b → Le2 a b) (h2 : ∀ i, i ≠ p → ∀ a b, f[i]? = some a → g[i]? = some b → Le2 b a) :
    getI (m_ranks g drop) (p : Int) ≤ getI (m_ranks f drop) (p : Int) := by
  have hp' : p < g.length := by omega
  have m1 := total_mono drop (h1 _ _ (List.getElem?_eq_getElem hp) (List.getElem?_eq_getElem hp'))
  rw [rank_at hp, rank_at hp']
  unfold rk
  have := cnt2 (t := m_total_of f[p] drop) (t' := m_total_of g[p] drop) (xs := m_totals f drop) (ys := m_totals g drop) (by rw [m_totals_len, m_totals_len]; exact hl) (fun i x y hx hy hgt => by
    obtain ⟨a, ha, rfl⟩ := tot_get hx
    obtain ⟨b, hb, rfl⟩ := tot_get hy
    by_cases z : i = p
    · subst z
      rw [List.getElem?_eq_getElem hp'] at hb
      cases hb
      omega
    · have := total_mono drop (h2 i z a b ha hb)
      omega)
  omega
theorem rank_ge (f : List (List Int)) (drop : Int) : ∀ r ∈ m_ranks f drop, 1 ≤ r := by
  rw [ranks_eq]
  intro r hr
  obtain ⟨t, _, rfl⟩ := List.mem_map.mp hr
  unfold rk
  omega
theorem rank_le {f : List (List Int)} {drop : Int} {p : Nat} (hp : p < f.length) : getI (m_ranks f drop) (p : Int) ≤ f.length := by
  rw [rank_at hp]
  unfold rk
  have hm : m_total_of f[p] drop ∈ m_totals f drop := List.mem_map.mpr ⟨f[p], List.getElem_mem hp, rfl⟩
  have := cnt_lt (p := fun o => decide (o > m_total_of f[p] drop)) (q := fun _ => true) (xs := m_totals f drop) (z := m_total_of f[p] drop) (fun _ _ => rfl) (by simp) rfl hm
  have e : (m_totals f drop).filter (fun _ => true) = m_totals f drop := List.filter_eq_self.mpr fun _ _ => rfl
  rw [e, m_totals_len] at this
  omega
/-! the extreme fillings -/
def fl (player own others : Int) : Nat → List (List (Option Int)) → List (List Int)
  | _, [] => []
  | n, r :: rs => r.map (fun o => o.getD (if decide ((n : Int) = player) = true then own else others)) :: fl player own others (n + 1) rs
theorem foldl_snoc {α β : Type} (f : α → β) : ∀ (xs : List α) (s : List β), xs.foldl (fun s x => s ++ [f x]) s = s ++ xs.map f
  | [], s => by simp
  | x :: xs, s => by rw [List.foldl_cons, foldl_snoc f xs]; simp
theorem fl_zip (player own others : Int) : ∀ (marks : List (List (Option Int))) (n : Nat), ((marks.zipIdx n).map fun p => ((p.2 : Int), p.1)).map (fun (it : Int × List (Option Int)) => it.2.map (fun (o : Option Int) => o.getD (if decide (it.1 = player) = true then own else others))) = fl player own others n marks
  | [], n => rfl
  | r :: rs, n => by
    rw [List.zipIdx_cons, List.map_cons, List.map_cons, fl_zip player own others rs (n + 1)]
    rfl
theorem filled_eq (marks : List (List (Option Int))) (player own others : Int) : m_filled marks player own others = fl player own others 0 marks := by
  unfold m_filled letv
  show (enumL marks).foldl (fun s it => s ++ [it.2.map (fun (o : Option Int) => o.getD (if decide (it.1 = player) = true then own else others))]) [] = _
  rw [foldl_snoc, List.nil_append]
  exact fl_zip player own others marks 0
theorem fl_len (player own others : Int) : ∀ (marks : List (List (Option Int))) (n : Nat), (fl player own others n marks).length = marks.length
  | [], n => rfl
  | r :: rs, n => by rw [fl, List.length_cons, List.length_cons, fl_len player own others rs]
theorem fl_get (player own others : Int) : ∀ (marks : List (List (Option Int))) (n i : Nat), (fl player own others n marks)[i]? = (marks[i]?).map fun r => r.map (fun o => o.getD (if decide (((n + i : Nat) : Int) = player) = true then own else others))
  | [], n, i => by simp [fl]
  | r :: rs, n, 0 => by simp [fl]
  | r :: rs, n, i + 1 => by
    rw [fl, List.getElem?_cons_succ, fl_get player own others rs, List.getElem?_cons_succ]
    have e : n + 1 + i = n + (i + 1) := by omega
    rw [e]
theorem row_fill {values : List Int} {d : Int} (hd : d ∈ values) : ∀ r : List (Option Int), Fills (Fill values) r (r.map fun o => o.getD d)
  | [] => .nil
  | o :: r => .cons (by
      unfold Fill valsOf
      cases o with
      | none => exact hd
      | some x => simp) (row_fill hd r)
theorem fl_fill {values : List Int} {player own others : Int} (h1 : own ∈ values) (h2 : others ∈ values) : ∀ (marks : List (List (Option Int))) (n : Nat), Fills (Fills (Fill values)) marks (fl player own others n marks)
  | [], n => .nil
  | r :: rs, n => .cons (by split <;> exact row_fill (by assumption) r) (fl_fill h1 h2 rs (n + 1))
theorem Fills.get {α β : Type} {P : α → β → Prop} : ∀ {as : List α} {bs : List β} {i : Nat} {a : α} {b : β}, Fills P as bs → as[i]? = some a → bs[i]? = some b → P a b
  | a :: as, _, 0, _, _, .cons p t, ha, hb => by cases ha; cases hb; exact p
  | a :: as, _, i + 1, _, _, .cons p t, ha, hb => Fills.get t (by simpa using ha) (by simpa using hb)
theorem row_low {values : List Int} (hv : ∀ x ∈ values, 0 ≤ x ∧ x < 101) : ∀ {r : List (Option Int)} {b : List Int}, Fills (Fill values) r b → Le2 (r.map fun o => o.getD 0) b ∧ Le2 b (r.map fun o => o.getD 100)
  | [], _, .nil => ⟨.nil, .nil⟩
  | o :: r, _, .cons (b := x) p t => by
    obtain ⟨t1, t2⟩ := row_low hv t
    unfold Fill valsOf at p
    cases o with
    | none =>
      have := hv x p
      exact ⟨.cons this.1 t1, .cons (show x ≤ 100 by omega) t2⟩
    | some y =>
      have e : x = y := by simpa using p
      subst e
      exact ⟨.cons (Int.le_refl _) t1, .cons (Int.le_refl _) t2⟩
section
variable {marks : List (List (Option Int))} {values : List Int} {f : List (List Int)} {drop : Int} {p : Nat}
theorem low_worst (hv : ∀ x ∈ values, 0 ≤ x ∧ x < 101) (hf : Fills (Fills (Fill values)) marks f) (hp : p < marks.length) : getI (m_ranks f drop) (p : Int) ≤ getI (m_ranks (fl p 0 100 0 marks) drop) (p : Int) := by
  refine rank_dom (by rw [fl_len, hf.len]) (by rw [fl_len]; exact hp) (fun a b ha hb => ?_) (fun i hi a b ha hb => ?_)
  · rw [fl_get, List.getElem?_eq_getElem hp] at ha
    cases ha
    have := row_low hv (hf.get (List.getElem?_eq_getElem hp) hb)
    rw [if_pos (by simp)]
    exact this.1
  · rw [fl_get] at ha
    cases q : marks[i]? with
    | none => rw [q] at ha; cases ha
    | some r =>
      rw [q] at ha
      cases ha
      have := row_low hv (hf.get q hb)
      rw [if_neg (by simp; omega)]
      exact this.2
theorem high_best (hv : ∀ x ∈ values, 0 ≤ x ∧ x < 101) (hf : Fills (Fills (Fill values)) marks f) (hp : p < marks.length) : getI (m_ranks (fl p 100 0 0 marks) drop) (p : Int) ≤ getI (m_ranks f drop) (p : Int) := by
  refine rank_dom (by rw [fl_len, hf.len]) (by rw [hf.len]; exact hp) (fun a b ha hb => ?_) (fun i hi a b ha hb => ?_)
  · rw [fl_get, List.getElem?_eq_getElem hp] at hb
    cases hb
    have := row_low hv (hf.get (List.getElem?_eq_getElem hp) ha)
    rw [if_pos (by simp)]
    exact this.2
  · rw [fl_get] at hb
    cases q : marks[i]? with
    | none => rw [q] at hb; cases hb
    | some r =>
      rw [q] at hb
      cases hb
      have := row_low hv (hf.get q ha)
      rw [if_neg (by simp; omega)]
      exact this.1
theorem chance_eq (drop places : Int) : m_chance_of marks drop places (p : Int) = if getI (m_ranks (fl p 0 100 0 marks) drop) (p : Int) ≤ places then ("in" : Str) else if getI (m_ranks (fl p 100 0 0 marks) drop) (p : Int) ≤ places then ("open" : Str) else ("out" : Str) := by
  unfold m_chance_of
  rw [filled_eq, filled_eq]
  simp only [decide_eq_true_eq]
theorem word_eq (hmk : MkO marks drop) (hv : ValsOk values) (hp : p < marks.length) (places : Int) : m_law_word (m_law_fillings marks values) drop places (p : Int) = m_chance_of marks drop places (p : Int) := by
  have hfo := fil_ok hmk (rfl : m_law_fillings marks values = m_law_fillings marks values)
  have hlo : fl (p : Int) 0 100 0 marks ∈ m_law_fillings marks values := fil_mem.mpr (fl_fill hv.2.2.1.1 hv.2.2.1.2 marks 0)
  have hhi : fl (p : Int) 100 0 0 marks ∈ m_law_fillings marks values := fil_mem.mpr (fl_fill hv.2.2.1.2 hv.2.2.1.1 marks 0)
  have hlaw : ∀ f ∈ m_law_fillings marks values, m_law_ranks f drop = m_ranks f drop := fun f hf => ranks_eq2 hmk.d0 (hfo f hf).2
  rw [chance_eq]
  unfold m_law_word letv
  dsimp only
  rw [List.map_id']
  generalize hfs : m_law_fillings marks values = fs at *
  have hmem : ∀ f ∈ fs, Fills (Fills (Fill values)) marks f := fun f hf => fil_mem.mp (hfs ▸ hf)
  by_cases hA : getI (m_ranks (fl p 0 100 0 marks) drop) (p : Int) ≤ places
  · rw [if_pos hA]
    have e : fs.filter (fun marks => decide (getI (m_law_ranks marks drop) (p : Int) ≤ places)) = fs := List.filter_eq_self.mpr fun f hf => by
      rw [hlaw f hf]
      have := low_worst (drop := drop) hv.2.2.2 (hmem f hf) hp
      exact decide_eq_true (by omega)
    rw [e, if_pos (by simp)]
  · rw [if_neg hA]
    have hlt : (fs.filter (fun marks => decide (getI (m_law_ranks marks drop) (p : Int) ≤ places))).length < fs.length := by
      have := cnt_lt (p := fun marks => decide (getI (m_law_ranks marks drop) (p : Int) ≤ places)) (q := fun _ => true) (xs := fs) (fun _ _ => rfl) (by rw [hlaw _ hlo]; exact decide_eq_false hA) rfl hlo
      rwa [List.filter_eq_self.mpr (fun _ _ => rfl)] at this
    rw [if_neg (by simp; omega)]
    by_cases hB : getI (m_ranks (fl p 100 0 0 marks) drop) (p : Int) ≤ places
    · rw [if_pos hB]
      have hpos : 0 < (fs.filter (fun marks => decide (getI (m_law_ranks marks drop) (p : Int) ≤ places))).length := List.length_pos_of_mem (List.mem_filter.mpr ⟨hhi, by rw [hlaw _ hhi]; exact decide_eq_true hB⟩)
      rw [if_neg (by rw [decide_eq_true_eq]; omega)]
      rfl
    · rw [if_neg hB]
      have e : fs.filter (fun marks => decide (getI (m_law_ranks marks drop) (p : Int) ≤ places)) = [] := List.filter_eq_nil_iff.mpr fun f hf => by
        rw [hlaw f hf]
        have := high_best (drop := drop) hv.2.2.2 (hmem f hf) hp
        simp
        omega
      rw [e]
      rfl
theorem range_congr {α : Type} {n : Nat} {f g : Int → α} (h : ∀ k : Nat, k < n → f k = g k) : (rangeI 0 ((n : Int)).toNat).map f = (rangeI 0 ((n : Int)).toNat).map g := by
  apply List.map_congr_left
  intro x hx
  have := mem_rangeI.mp hx
  obtain ⟨k, rfl⟩ : ∃ k : Nat, x = (k : Int) := ⟨x.toNat, by omega⟩
  exact h k (by omega)
theorem due_eq (hmk : MkO marks drop) (hv : ValsOk values) (places : Int) : (rangeI 0 ((marks.length : Int)).toNat).map (fun (player : Int) => m_law_word (m_law_fillings marks values) drop places player) = m_chances marks drop places := by
  unfold m_chances
  exact range_congr fun k hk => word_eq hmk hv hk places
theorem chances_at (hp : p < marks.length) (places : Int) : getI (m_chances marks drop places) (p : Int) = m_chance_of marks drop places (p : Int) := by
  unfold m_chances
  rw [getI_map _ (by unfold InB; rw [rangeI_length]; omega)]
  congr 1
  rw [getI_nat (by rw [rangeI_length]; omega)]
  unfold rangeI
  rw [List.getElem_map, List.getElem_range]
  omega
theorem chance_mono {places more : Int} (h : places ≤ more) : words.idxOf (m_chance_of marks drop places (p : Int)) ≤ words.idxOf (m_chance_of marks drop more (p : Int)) := by
  rw [chance_eq, chance_eq]
  by_cases a1 : getI (m_ranks (fl p 0 100 0 marks) drop) (p : Int) ≤ places
  · rw [if_pos a1, if_pos (by omega)]
    exact Nat.le_refl _
  · rw [if_neg a1]
    by_cases a2 : getI (m_ranks (fl p 100 0 0 marks) drop) (p : Int) ≤ places
    · rw [if_pos a2]
      split
      · decide
      · rw [if_pos (by omega)]; exact Nat.le_refl _
    · rw [if_neg a2]
      exact Nat.le_trans (show words.idxOf ("out" : Str) ≤ 0 by decide) (Nat.zero_le _)
theorem all_in (hp : p < marks.length) : m_chance_of marks drop (marks.length : Int) (p : Int) = "in" := by
  rw [chance_eq, if_pos]
  have := rank_le (f := fl p 0 100 0 marks) (drop := drop) (p := p) (by rw [fl_len]; exact hp)
  rwa [fl_len] at this
theorem fl_full (h : ∀ r ∈ marks, ∀ o ∈ r, o.isSome = true) (player own others : Int) (n : Nat) : fl player own others n marks = marks.map (fun r => r.map (fun o => o.getD 0)) := by
  apply List.ext_getElem?
  intro i
  rw [fl_get, List.getElem?_map]
  cases q : marks[i]? with
  | none => rfl
  | some r =>
    show some _ = some _
    congr 1
    apply List.map_congr_left
    intro o ho
    have := h r (List.mem_of_getElem? q) o ho
    cases o with
    | none => cases this
    | some x => rfl
end
theorem range_getI {α : Type} {xs : List Int} (h : Int → α) : (rangeI 0 ((xs.length : Int)).toNat).map (fun (k : Int) => h (getI xs k)) = xs.map h := by
  apply List.ext_getElem?
  intro i
  rw [List.getElem?_map, List.getElem?_map]
  unfold rangeI
  rw [List.getElem?_map]
  by_cases hi : i < xs.length
  · rw [List.getElem?_range (by omega), List.getElem?_eq_getElem hi]
    show some (h (getI xs (0 + (i : Int)))) = some (h xs[i])
    rw [Int.zero_add, getI_nat hi]
  · rw [List.getElem?_eq_none (by simp; omega), List.getElem?_eq_none (by omega)]
    rfl
theorem map_const {α β γ : Type} (c : γ) {xs : List α} {ys : List β} (h : xs.length = ys.length) : xs.map (fun _ => c) = ys.map (fun _ => c) := by
  rw [List.map_const', List.map_const', h]
end K60
namespace K60
open PySem NW
theorem loop_ok {α : Type} {stp : α → Int → Fl α Bool} (D : Int → α) (Good : Int → α → Prop) : ∀ (n : Nat) (lo : Int) (s : α), Good lo s → (∀ p s, lo ≤ p → p < lo + n → Good p s → stp s p = .nx (D p) ∧ Good (p + 1) (D p)) → 0 < n → forE stp (rangeI lo n) s = .nx (D (lo + n - 1))
  | 0, _, _, _, _, h => by omega
  | 1, lo, s, g, h, _ => by
    have q := (h lo s (by omega) (by omega) g).1
    rw [rangeI_succ, forE_cons, q]
    show Fl.nx (D lo) = _
    congr 2
    omega
  | n + 2, lo, s, g, h, _ => by
    obtain ⟨q1, q2⟩ := h lo s (by omega) (by omega) g
    rw [rangeI_succ, forE_cons, q1]
    have ih := loop_ok D Good (n + 1) (lo + 1) (D lo) q2 (fun p s h1 h2 => h p s (by omega) (by omega)) (by omega)
    show forE stp (rangeI (lo + 1) (n + 1)) (D lo) = _
    rw [ih]
    congr 2
    omega
theorem out_of {α β γ ε : Type} {step : α → β → Fl α γ} {xs : List β} {s z : α} {A : α → ε} {g : γ → ε} (h : forE step xs s = .nx z) : Fl.out (forE step xs s) A g = A z := by rw [h]; rfl
theorem fr_nx {γ ε : Type} {r : Fr Unit γ} {A : Unit → ε} {g : γ → ε} (h : r = .nx ()) : Fr.out r A g = A () := by rw [h]; rfl
theorem low_eq (l : List (List (Option Int))) (p : Nat) (own others : Int) : (rangeI 0 ((l.length : Int)).toNat).map (fun (k : Int) => (getI l k).map (fun (mark : Option Int) => mark.getD (getI [others, own] (if decide (k = (p : Int)) = true then (1 : Int) else 0)))) = fl p own others 0 l := by
  apply List.ext_getElem?
  intro i
  rw [List.getElem?_map, fl_get]
  unfold rangeI
  rw [List.getElem?_map]
  by_cases hi : i < l.length
  · rw [List.getElem?_range (by omega), List.getElem?_eq_getElem hi]
    show some ((getI l (0 + (i : Int))).map (fun (mark : Option Int) => mark.getD (getI [others, own] (if decide (0 + (i : Int) = (p : Int)) = true then (1 : Int) else 0)))) = some (l[i].map (fun (o : Option Int) => o.getD (if decide (((0 + i : Nat) : Int) = (p : Int)) = true then own else others)))
    rw [Int.zero_add, getI_nat hi, Nat.zero_add]
    by_cases z : (i : Int) = (p : Int)
    · rw [decide_eq_true z]; rfl
    · rw [decide_eq_false z]; rfl
  · rw [List.getElem?_eq_none (by simp; omega), List.getElem?_eq_none (by omega)]
    rfl
theorem letv_intro {α β : Type} {v : α} {B : α → β} {r : β} (h : ∀ z, z = v → B z = r) : letv v B = r := h v rfl
theorem letv2_intro {α β γ : Type} {v : α × β} {B : α → β → γ} {r : γ} (h : ∀ a b, (a, b) = v → B a b = r) : letv2 v B = r := h v.1 v.2 rfl
section
variable {l1 : List (List (Option Int))} {drop : Int} {j : List Int}
theorem pre_loop {draws : List Int} {marks : List (List (Option Int))} (h1 : MkO marks drop ∧ nns marks = 0)
    (h : l1 = (rangeI 0 (getI draws 0 % 4).toNat).foldl (fun (s1 : List (List (Option Int))) (k_1 : Int) => letv (getI s1 (getI draws (1 + k_1) % (s1.length : Int))) fun row => letv (setI row (getI draws (5 + k_1) % (row.length : Int)) none) fun row' => s1.set (getI draws (1 + k_1) % (s1.length : Int)).toNat row') marks) : MkO l1 drop ∧ nns l1 ≤ 3 := by
  have hk4 := Int.emod_lt_of_pos (getI draws 0) (show (0 : Int) < 4 by decide)
  have q : MkO l1 drop ∧ nns l1 ≤ 0 + (rangeI 0 (getI draws 0 % 4).toNat).length := by
    rw [h]
    refine foldl_inv (Iv := fun i s => MkO s drop ∧ nns s ≤ i) (rangeI 0 (getI draws 0 % 4).toNat) 0 marks ⟨h1.1, Nat.le_of_eq h1.2⟩ fun i s x hx iv => ?_
    obtain ⟨hs1, hs2, hs3, ⟨hm, hs4, hs5, hs6, hs7⟩, hs8⟩ := id iv.1
    have hq0 := Int.emod_nonneg (getI draws (1 + x)) (show (s.length : Int) ≠ 0 by omega)
    have hq1 := Int.emod_lt_of_pos (getI draws (1 + x)) (show 0 < (s.length : Int) by omega)
    have hrw0 := hs7 _ (getI_mem (xs := s) (i := getI draws (1 + x) % (s.length : Int)) (by unfold InB; omega))
    have hr0 := Int.emod_nonneg (getI draws (5 + x)) (show ((getI s (getI draws (1 + x) % (s.length : Int))).length : Int) ≠ 0 by omega)
    have hr1 := Int.emod_lt_of_pos (getI draws (5 + x)) (show 0 < ((getI s (getI draws (1 + x) % (s.length : Int))).length : Int) by omega)
    exact mk_step iv ⟨hq0, hq1⟩ (by unfold InB; omega)
  refine ⟨q.1, ?_⟩
  have q2 := q.2
  rw [rangeI_length] at q2
  exact Nat.le_trans q2 (by omega)
theorem many_loop {draws : List Int} {many l4 : List (List (Option Int))} (h2 : MkO many drop)
    (h : l4 = (rangeI 0 ((many.length : Int)).toNat).foldl (fun (s4 : List (List (Option Int))) (k_4 : Int) => letv (getI s4 k_4) fun row => letv ((rangeI 0 ((row.length : Int)).toNat).foldl (fun (s5 : List (Option Int)) (j_5 : Int) => letv (if decide (getI draws ((k_4 + j_5) % 20) / (1 + j_5) % 3 = 0) = true then letv (setI s5 j_5 none) fun row' => row' else s5) fun j'' => j'') row) fun l5 => s4.set k_4.toNat l5) many) : MkO l4 drop := by
  have q : MkO l4 drop ∧ l4.length = many.length := by
    rw [h]
    refine foldl_inv (Iv := fun _ s => MkO s drop ∧ s.length = many.length) _ 0 many ⟨h2, rfl⟩ fun i s x hx iv => ?_
    obtain ⟨hx1, hx2⟩ := rangeI_get hx
    exact mk_many (fun j_5 => decide (getI draws ((x + j_5) % 20) / (1 + j_5) % 3 = 0)) _ iv (by have := iv.2; omega)
  exact q.1
theorem first_eq (hfull : ∀ r ∈ l1, ∀ o ∈ r, o.isSome = true) : m_chances l1 drop 1 = (m_ranks (l1.map (fun (r : List (Option Int)) => r.map (fun (o : Option Int) => o.getD 0))) drop).map (fun (rank : Int) => getI [("out" : Str), ("in" : Str)] (if decide (rank = 1) = true then (1 : Int) else 0)) := by
  have e1 : m_chances l1 drop 1 = (rangeI 0 ((l1.length : Int)).toNat).map (fun (k : Int) => (fun (r : Int) => if r ≤ 1 then ("in" : Str) else if r ≤ 1 then ("open" : Str) else ("out" : Str)) (getI (m_ranks (l1.map (fun (r : List (Option Int)) => r.map (fun (o : Option Int) => o.getD 0))) drop) k)) := by
    unfold m_chances
    refine range_congr fun k hk => ?_
    rw [chance_eq, fl_full hfull, fl_full hfull]
  rw [e1]
  have hl : (m_ranks (l1.map (fun (r : List (Option Int)) => r.map (fun (o : Option Int) => o.getD 0))) drop).length = l1.length := by rw [m_ranks_len, List.length_map]
  rw [← hl]
  refine (range_getI (fun (r : Int) => if r ≤ 1 then ("in" : Str) else if r ≤ 1 then ("open" : Str) else ("out" : Str))).trans ?_
  apply List.map_congr_left
  intro r hr
  have := rank_ge _ _ r hr
  by_cases z : r = 1
  · subst z; rfl
  · rw [if_neg (by omega), if_neg (by omega), decide_eq_false z]; rfl
theorem no_worse {s : List Str} {p : Int} (hs : ∀ k : Nat, k < l1.length → words.idxOf (getI s (k : Int)) ≤ words.idxOf (m_chance_of l1 drop p (k : Int))) : (rangeI 0 (((m_chances l1 drop p).length : Int)).toNat).filter (fun (k : Int) => decide (((words.idxOf (getI (m_chances l1 drop p) k) : Nat) : Int) < ((words.idxOf (getI s k) : Nat) : Int))) = [] := by
  rw [m_chances_len]
  refine List.filter_eq_nil_iff.mpr fun x hx => ?_
  have hx' := mem_rangeI.mp hx
  obtain ⟨k, rfl⟩ : ∃ k : Nat, x = (k : Int) := ⟨x.toNat, by omega⟩
  have hk : k < l1.length := by omega
  have q := hs k hk
  rw [chances_at hk]
  intro hc
  have hc' := of_decide_eq_true hc
  omega
end
theorem eq_self_w (w : Str) : (!decide (w = w)) = false := by rw [decide_eq_true rfl]; rfl
theorem m_law_true (script : List Int) : m_law script = true := by
  unfold m_law
  refine letv2_intro fun marks drop hmd => ?_
  have h1 : MkO marks drop ∧ nns marks = 0 := by have q := m_marks_ok script 0 5 5 (by decide) (by decide) (by decide); rw [← hmd] at q; exact q
  refine letv_intro fun draws _ => ?_
  refine letv_intro fun l1 hl => ?_
  have hl1 := pre_loop h1 hl
  refine letv_intro fun kept hkept => ?_
  refine letv_intro fun values hvalues => ?_
  refine letv_intro fun j hj => ?_
  have hval : ValsOk j := by rw [hj]; exact vals_ok _ _ (Int.emod_nonneg _ (by decide)) (Int.emod_lt_of_pos _ (by decide)) hvalues
  refine letv_intro fun fillings hfil => ?_
  refine letv_intro fun best hbest => ?_
  refine letv_intro fun before hbef => ?_
  have hbest' : best = words := hbest
  obtain ⟨ho1, ho2, ho3, ⟨ho, ho4, ho5, ho6, ho7⟩, ho8⟩ := id hl1.1
  have hn : ((l1.length : Int) + 1 - 1).toNat = l1.length := by omega
  refine (out_of (z := m_chances l1 drop (l1.length : Int)) ?_).trans ?_
  · rw [hn]
    refine (loop_ok (fun p => m_chances l1 drop p) (fun p s => ∀ k : Nat, k < l1.length → words.idxOf (getI s (k : Int)) ≤ words.idxOf (m_chance_of l1 drop p (k : Int))) l1.length 1 _ (fun k hk => ?_) (fun p s hp1 hp2 hs => ⟨?_, fun k hk => ?_⟩) (by omega)).trans ?_
    · rw [hbef, getI_map _ (by unfold InB; omega)]
      exact Nat.le_trans (show words.idxOf ("out" : Str) ≤ 0 by decide) (Nat.zero_le _)
    · refine letv_intro fun due hdue => ?_
      rw [hfil, due_eq hl1.1 hval p] at hdue
      refine (out_nx fun turn _ => ?_).trans ((if_false' ?_).trans ?_)
      · refine letv_intro fun told htold => ?_
        refine if_false' ?_
        rw [htold, hdue, hkept, decide_eq_true rfl, decide_eq_true rfl]; rfl
      · rw [hbest', hdue, no_worse hs]
        rfl
      · refine letv_intro fun z hz => ?_
        rw [hz, hdue]
    · rw [chances_at hk]
      exact chance_mono (by omega)
    · show Fl.nx (m_chances l1 drop (1 + (l1.length : Int) - 1)) = _
      congr 2
      omega
  refine (fr_nx ?_).trans ?_
  · by_cases hf : decide ((fillings.length : Int) = 1) = true
    · rw [if_pos hf]
      refine letv_intro fun order horder => if_false' ?_
      rw [horder, first_eq (fil_one hval.1 hfil hf), decide_eq_true rfl]
      rfl
    · rw [if_neg hf]
  refine letv2_intro fun many drop' hmd2 => ?_
  have h2 : MkO many drop' := by have q := m_marks_ok script 2 30 4 (by decide) (by decide) (by decide); rw [← hmd2] at q; exact q.1
  refine letv_intro fun l4 hl4 => ?_
  have hl4 := many_loop h2 hl4
  refine letv_intro fun places _ => ?_
  refine letv_intro fun told htold => ?_
  obtain ⟨hw1, hw2, hw3, ⟨hw, hw4, hw5, hw6, hw7⟩, hw8⟩ := id hl4
  refine (out_nx fun player hpl => ?_).trans ?_
  · obtain ⟨i, hi⟩ := List.getElem?_of_mem hpl
    have hpb := rangeC_get hi (by decide)
    obtain ⟨p, rfl⟩ : ∃ p : Nat, player = (p : Int) := ⟨player.toNat, by omega⟩
    have hp : p < l4.length := by omega
    refine letv_intro fun low hlow => letv_intro fun high hhigh => ?_
    have r1 := (hl_ok l4 (f := fun k mark => mark.getD (getI [(100 : Int), 0] (if decide (k = (p : Int)) = true then (1 : Int) else 0))) hlow hw7).2
    have r2 := (hl_ok l4 (f := fun k mark => mark.getD (getI [(0 : Int), 100] (if decide (k = (p : Int)) = true then (1 : Int) else 0))) hhigh hw7).2
    rw [low_eq] at hlow hhigh
    rw [ranks_eq2 hw3 (fun row hrow => by have := r2 row hrow; omega), ranks_eq2 hw3 (fun row hrow => by have := r1 row hrow; omega), htold, chances_at hp, chance_eq, ← hlow, ← hhigh]
    refine letv_intro fun word hword => letv_intro fun word2 hword2 => letv_intro fun word3 hword3 => if_false' ?_
    rw [hword3, hword2, hword]
    by_cases a1 : getI (m_ranks low drop') (p : Int) ≤ places
    · rw [if_pos a1, decide_eq_true a1, if_pos rfl]
      exact eq_self_w _
    · rw [if_neg a1, decide_eq_false a1, if_neg Bool.false_ne_true]
      by_cases a2 : getI (m_ranks high drop') (p : Int) ≤ places
      · rw [if_pos a2, decide_eq_true a2, if_pos rfl]
        exact eq_self_w _
      · rw [if_neg a2, decide_eq_false a2, if_neg Bool.false_ne_true]
        exact eq_self_w _
  · rw [decide_eq_true_eq]
    have e1 : m_chances l1 drop (l1.length : Int) = (rangeI 0 ((l1.length : Int)).toNat).map (fun _ => ("in" : Str)) := by
      unfold m_chances
      exact range_congr fun k hk => all_in hk
    rw [e1]
    exact map_const _ (by rw [rangeI_length]; omega)
end K60
namespace K60
open PySem PySem.Spec L2 NW
open PyProof.Rows hiding St
open Enc (enc)
abbrev s_law_same : Stmt := topS 11
theorem sc_law_same : FnScope ["told", "due", "k"] ["told", "due"] (defScope s_law_same) := ⟨rfl, rfl, rfl, by decide +kernel, rfl, by decide +kernel, by decide +kernel⟩
theorem ss_law_same {g : Pg} {k : Nat} (hb : BiSame g) (n : Nat) (D : ∀ m, n = m + 1 → Def g k "_law_same" (R_same m)) : ∀ ds t, R_same n ds t → Ss ⟨g, ["told", "due", "k"], k⟩ (.top (defScope s_law_same)) (defBody s_law_same) (startR ["told", "due", "k"] ds) (.rt t) := by
  rintro ds t ⟨a, b, rfl, hdp, hnd, rfl⟩
  show Sk _ _ _ [] _ (.rt (F (sameD a b)))
  cases b with
  | dict es => exact absurd hnd (by simp [PyData.hasDict])
  | none =>
    refine Sk.ifN ((Et.val (Eo.isiS "list" (.none) hb.isi hb.list (Eo.var 1) (by decide +kernel) (by decide))).cast (isiB_none (by decide +kernel))) ?_
    refine Sk.ifN ((Et.val (Eo.isiS "tuple" (.none) hb.isi hb.tuple (Eo.var 1) (by decide +kernel) (by decide))).cast (isiB_none (by decide +kernel))) ?_
    refine Sk.ifY ((Et.isN (Eo.var 1) Eo.non).cast (rfl : NW.isNon .none = true)) ?_
    refine Sk.retF ((Eo.isN (Eo.var 0) Eo.non).cast ?_)
    cases a <;> rfl
  | bool y =>
    refine Sk.ifN ((Et.val (Eo.isiS "list" (.bool y) hb.isi hb.list (Eo.var 1) (by decide +kernel) (by decide))).cast (isiB_bool (by decide +kernel))) ?_
    refine Sk.ifN ((Et.val (Eo.isiS "tuple" (.bool y) hb.isi hb.tuple (Eo.var 1) (by decide +kernel) (by decide))).cast (isiB_bool (by decide +kernel))) ?_
    refine Sk.ifN ((Et.isN (Eo.var 1) Eo.non).cast (rfl : NW.isNon (.bool y) = false)) ?_
    refine Sk.ifY ((Et.val (Eo.isiS "bool" (.bool y) hb.isi hb.bool (Eo.var 1) (by decide +kernel) (by decide))).cast (isiB_bool (by decide +kernel))) ?_
    by_cases hA : ∃ x, a = .bool x
    · obtain ⟨x, rfl⟩ := hA
      refine Sk.retF ((Eo.and (Eo.isiS "bool" (.bool x) hb.isi hb.bool (Eo.var 0) (by decide +kernel) (by decide)) (fun _ => Eo.one (Eo.eqT (α := Bool) (Eo.var 0) (Eo.var 1)))).cast ?_)
      rw [isiB_bool (k := true) (by decide +kernel)]
      rfl
    · have hs : sameD a (.bool y) = false := by cases a <;> first | exact absurd ⟨_, rfl⟩ hA | simp only [sameD]
      rw [hs]
      have hi : isiB a "bool" = false := by cases a <;> first | exact absurd ⟨_, rfl⟩ hA | first | exact isiB_none (by decide +kernel) | exact isiB_bool (by decide +kernel) | exact isiB_int (by decide +kernel) | exact isiB_str (by decide +kernel) | exact isiB_list (by decide +kernel) | exact isiB_tup (by decide +kernel) | exact isiB_dict (by decide +kernel)
      refine Sk.retF ((Eo.and (l := true) (Eo.isiS "bool" a hb.isi hb.bool (Eo.var 0) (by decide +kernel) (by decide)) (fun hc => absurd hc (by rw [hi]; decide))).cast ?_)
      rw [hi]; rfl
  | int y =>
    refine Sk.ifN ((Et.val (Eo.isiS "list" (.int y) hb.isi hb.list (Eo.var 1) (by decide +kernel) (by decide))).cast (isiB_int (by decide +kernel))) ?_
    refine Sk.ifN ((Et.val (Eo.isiS "tuple" (.int y) hb.isi hb.tuple (Eo.var 1) (by decide +kernel) (by decide))).cast (isiB_int (by decide +kernel))) ?_
    refine Sk.ifN ((Et.isN (Eo.var 1) Eo.non).cast (rfl : NW.isNon (.int y) = false)) ?_
    refine Sk.ifN ((Et.val (Eo.isiS "bool" (.int y) hb.isi hb.bool (Eo.var 1) (by decide +kernel) (by decide))).cast (isiB_int (by decide +kernel))) ?_
    refine Sk.ifY ((Et.val (Eo.isiS "int" (.int y) hb.isi hb.int (Eo.var 1) (by decide +kernel) (by decide))).cast (isiB_int (by decide +kernel))) ?_
    by_cases hA : ∃ x, a = .int x
    · obtain ⟨x, rfl⟩ := hA
      refine Sk.retF ((Eo.and (Eo.isiS "int" (.int x) hb.isi hb.int (Eo.var 0) (by decide +kernel) (by decide)) (fun _ => Eo.and (Eo.not (Eo.isiS "bool" (.int x) hb.isi hb.bool (Eo.var 0) (by decide +kernel) (by decide))) (fun _ => Eo.one (Eo.eqI (Eo.var 0) (Eo.var 1))))).cast ?_)
      rw [isiB_int (k := true) (by decide +kernel), isiB_int (k := false) (by decide +kernel)]
      rfl
    · have hs : sameD a (.int y) = false := by cases a <;> first | exact absurd ⟨_, rfl⟩ hA | simp only [sameD]
      rw [hs]
      by_cases hB : ∃ x, a = .bool x
      · obtain ⟨x, rfl⟩ := hB
        refine Sk.retF ((Eo.and (Eo.isiS "int" (.bool x) hb.isi hb.int (Eo.var 0) (by decide +kernel) (by decide)) (fun _ => Eo.and (l := true) (Eo.not (Eo.isiS "bool" (.bool x) hb.isi hb.bool (Eo.var 0) (by decide +kernel) (by decide))) (fun hc => absurd hc (by rw [isiB_bool (k := true) (by decide +kernel)]; decide)))).cast ?_)
        rw [isiB_bool (T := "int") (k := true) (by decide +kernel), isiB_bool (T := "bool") (k := true) (by decide +kernel)]
        rfl
      · have hi : isiB a "int" = false := by cases a <;> first | exact absurd ⟨_, rfl⟩ hA | exact absurd ⟨_, rfl⟩ hB | first | exact isiB_none (by decide +kernel) | exact isiB_str (by decide +kernel) | exact isiB_list (by decide +kernel) | exact isiB_tup (by decide +kernel) | exact isiB_dict (by decide +kernel)
        refine Sk.retF ((Eo.and (l := true) (Eo.isiS "int" a hb.isi hb.int (Eo.var 0) (by decide +kernel) (by decide)) (fun hc => absurd hc (by rw [hi]; decide))).cast ?_)
        rw [hi]; rfl
  | str y =>
    refine Sk.ifN ((Et.val (Eo.isiS "list" (.str y) hb.isi hb.list (Eo.var 1) (by decide +kernel) (by decide))).cast (isiB_str (by decide +kernel))) ?_
    refine Sk.ifN ((Et.val (Eo.isiS "tuple" (.str y) hb.isi hb.tuple (Eo.var 1) (by decide +kernel) (by decide))).cast (isiB_str (by decide +kernel))) ?_
    refine Sk.ifN ((Et.isN (Eo.var 1) Eo.non).cast (rfl : NW.isNon (.str y) = false)) ?_
    refine Sk.ifN ((Et.val (Eo.isiS "bool" (.str y) hb.isi hb.bool (Eo.var 1) (by decide +kernel) (by decide))).cast (isiB_str (by decide +kernel))) ?_
    refine Sk.ifN ((Et.val (Eo.isiS "int" (.str y) hb.isi hb.int (Eo.var 1) (by decide +kernel) (by decide))).cast (isiB_str (by decide +kernel))) ?_
    by_cases hA : ∃ x, a = .str x
    · obtain ⟨x, rfl⟩ := hA
      refine Sk.retF ((Eo.and (Eo.isiS "str" (.str x) hb.isi hb.str (Eo.var 0) (by decide +kernel) (by decide)) (fun _ => Eo.one (Eo.eqS (Eo.var 0) (Eo.var 1)))).cast ?_)
      rw [isiB_str (k := true) (by decide +kernel)]
      rfl
    · have hs : sameD a (.str y) = false := by cases a <;> first | exact absurd ⟨_, rfl⟩ hA | simp only [sameD]
      rw [hs]
      have hi : isiB a "str" = false := by cases a <;> first | exact absurd ⟨_, rfl⟩ hA | first | exact isiB_none (by decide +kernel) | exact isiB_bool (by decide +kernel) | exact isiB_int (by decide +kernel) | exact isiB_str (by decide +kernel) | exact isiB_list (by decide +kernel) | exact isiB_tup (by decide +kernel) | exact isiB_dict (by decide +kernel)
      refine Sk.retF ((Eo.and (l := true) (Eo.isiS "str" a hb.isi hb.str (Eo.var 0) (by decide +kernel) (by decide)) (fun hc => absurd hc (by rw [hi]; decide))).cast ?_)
      rw [hi]; rfl
  | list ys =>
    refine Sk.ifY ((Et.val (Eo.isiS "list" (.list ys) hb.isi hb.list (Eo.var 1) (by decide +kernel) (by decide))).cast (isiB_list (by decide +kernel))) ?_
    by_cases hA : ∃ xs, a = .list xs
    · obtain ⟨xs, rfl⟩ := hA
      have cnd : ∀ l : Bool, l = (!decide ((xs.length : Int) = (ys.length : Int))) → (!isiB (.list xs) "list" || !decide ((xs.length : Int) = (ys.length : Int))) = l := fun l h => by rw [isiB_list (k := true) (by decide +kernel), h]; rfl
      by_cases hl : xs.length = ys.length
      · refine Sk.ifN ((Ew.et (Ew.or (Et.not (Et.val (Eo.isiS "list" (.list xs) hb.isi hb.list (Eo.var 0) (by decide +kernel) (by decide)))) (fun _ => Ew.or1 (Et.neI (Eo.len hb.len (Eo.var 0)) (Eo.len hb.len (Eo.var 1)))))).cast (cnd _ (by rw [hl, decide_eq_true rfl]; rfl))) ?_
        refine Sk.pop (Sk.pop ?_)
        refine Sk.sized 1 rfl fun hz => ?_
        rw [show sameD (.list xs) (.list ys) = (forE (stepS xs ys) (rangeI 0 ((ys.length : Int)).toNat) ()).elim (fun _ => true) (fun _ => true) (fun q => q) from (same_run xs ys hl).symm]
        refine Sk.flT (fun q : Bool => .rt (F q)) (fun q => q) (R := (fun _ : Unit => ([some (.fz (.list xs)), some (.fz (.list ys)), none] : Rho))) (B := (fun _ : Unit => ([some (.fz (.list xs)), some (.fz (.list ys)), none] : Rho))) (T := fun q : Bool => F q) _ (Sx.forL _ enc (stepS xs ys) () _ _ _ (fun _ _ => True) (Ei.range1 hb.range (Eo.len hb.len (Eo.var 1)) (by rw [sizeLine_eq] at hz; omega) (by omega)) (Le.cons (Le.cons (Le.skip Le.nil))) trivial (fun i s x hx _ => ⟨?_, fun _ _ => trivial⟩)) (fun s _ => Sk.retF Eo.B) (fun s _ => Sk.retF Eo.B)
        obtain ⟨hx1, hx2⟩ := rangeI_get hx
        have hy : i < ys.length := by omega
        have hxs : i < xs.length := by omega
        have e2 : x = (i : Nat) := by omega
        subst e2
        have g1 := atI_nat (List.getElem?_eq_getElem hxs)
        have g2 := atI_nat (List.getElem?_eq_getElem hy)
        have e : stepS xs ys s (i : Nat) = if (!sameD xs[i] ys[i]) = true then .rt false else .nx () := by unfold stepS; rw [g1, g2]
        rw [e]
        cases n with
        | zero => exact absurd hdp (by simp only [PyData.depth]; omega)
        | succ n =>
          have m := List.getElem_mem hy
          have hd2 := depthAll_mem m
          have hn2 := noDictAll_mem (by simpa only [PyData.hasDict] using hnd) m
          refine ForTurn.name 2 (Sk.ss ?_) (by split <;> rfl)
          refine Sk.ifT (Fl.body (fun _ : Unit => ([some (.fz (.list xs)), some (.fz (.list ys)), none] : Rho)) (fun _ : Unit => ([some (.fz (.list xs)), some (.fz (.list ys)), none] : Rho)) (fun q : Bool => F q)) (Et.not (Et.val (Eo.call (D n rfl) (⟨xs[i], ys[i], rfl, by simp only [PyData.depth] at hdp; omega, hn2, rfl⟩ : R_same n _ _) (Ea.cons (Eo.ix (Eo.var 0) (Eo.var 2) g1) (Ea.cons (Eo.ix (Eo.var 1) (Eo.var 2) g2) Ea.nil))))) (fun hc => Sk.retLF Eo.B) (fun hc => Sk.pop (Sk.nxL (Le.cons (Le.cons (Le.skip Le.nil)))))
      · rw [show sameD (.list xs) (.list ys) = false from by simp only [sameD]; exact sameAll_len hl]
        refine Sk.ifY ((Ew.et (Ew.or (Et.not (Et.val (Eo.isiS "list" (.list xs) hb.isi hb.list (Eo.var 0) (by decide +kernel) (by decide)))) (fun _ => Ew.or1 (Et.neI (Eo.len hb.len (Eo.var 0)) (Eo.len hb.len (Eo.var 1)))))).cast (cnd _ (by rw [decide_eq_false (by omega)]; rfl))) (Sk.retF Eo.B)
    · have hs : sameD a (.list ys) = false := by cases a <;> first | exact absurd ⟨_, rfl⟩ hA | simp only [sameD]
      have hi : isiB a "list" = false := by cases a <;> first | exact absurd ⟨_, rfl⟩ hA | first | exact isiB_none (by decide +kernel) | exact isiB_bool (by decide +kernel) | exact isiB_int (by decide +kernel) | exact isiB_str (by decide +kernel) | exact isiB_list (by decide +kernel) | exact isiB_tup (by decide +kernel) | exact isiB_dict (by decide +kernel)
      rw [hs]
      refine Sk.ifY ((Ew.et (Ew.or (Et.not (Et.val (Eo.isiS "list" (a) hb.isi hb.list (Eo.var 0) (by decide +kernel) (by decide)))) (fun hc => absurd hc (by rw [hi]; decide)) (l := true))).cast (by rw [hi]; rfl)) (Sk.retF Eo.B)
  | tuple ys =>
    refine Sk.ifN ((Et.val (Eo.isiS "list" (.tuple ys) hb.isi hb.list (Eo.var 1) (by decide +kernel) (by decide))).cast (isiB_tup (by decide +kernel))) ?_
    refine Sk.ifY ((Et.val (Eo.isiS "tuple" (.tuple ys) hb.isi hb.tuple (Eo.var 1) (by decide +kernel) (by decide))).cast (isiB_tup (by decide +kernel))) ?_
    by_cases hA : ∃ xs, a = .tuple xs
    · obtain ⟨xs, rfl⟩ := hA
      have cnd : ∀ l : Bool, l = (!decide ((xs.length : Int) = (ys.length : Int))) → (!isiB (.tuple xs) "tuple" || !decide ((xs.length : Int) = (ys.length : Int))) = l := fun l h => by rw [isiB_tup (k := true) (by decide +kernel), h]; rfl
      by_cases hl : xs.length = ys.length
      · refine Sk.ifN ((Ew.et (Ew.or (Et.not (Et.val (Eo.isiS "tuple" (.tuple xs) hb.isi hb.tuple (Eo.var 0) (by decide +kernel) (by decide)))) (fun _ => Ew.or1 (Et.neI (Eo.lenT hb.len (Eo.var 0)) (Eo.lenT hb.len (Eo.var 1)))))).cast (cnd _ (by rw [hl, decide_eq_true rfl]; rfl))) ?_
        refine Sk.pop (Sk.pop (Sk.pop ?_))
        refine Sk.sizedT 1 rfl fun hz => ?_
        rw [show sameD (.tuple xs) (.tuple ys) = (forE (stepS xs ys) (rangeI 0 ((ys.length : Int)).toNat) ()).elim (fun _ => true) (fun _ => true) (fun q => q) from (same_run xs ys hl).symm]
        refine Sk.flT (fun q : Bool => .rt (F q)) (fun q => q) (R := (fun _ : Unit => ([some (.fz (.tuple xs)), some (.fz (.tuple ys)), none] : Rho))) (B := (fun _ : Unit => ([some (.fz (.tuple xs)), some (.fz (.tuple ys)), none] : Rho))) (T := fun q : Bool => F q) _ (Sx.forL _ enc (stepS xs ys) () _ _ _ (fun _ _ => True) (Ei.range1 hb.range (Eo.lenT hb.len (Eo.var 1)) (by rw [sizeLine_eq] at hz; omega) (by omega)) (Le.cons (Le.cons (Le.skip Le.nil))) trivial (fun i s x hx _ => ⟨?_, fun _ _ => trivial⟩)) (fun s _ => Sk.retF Eo.B) (fun s _ => Sk.retF Eo.B)
        obtain ⟨hx1, hx2⟩ := rangeI_get hx
        have hy : i < ys.length := by omega
        have hxs : i < xs.length := by omega
        have e2 : x = (i : Nat) := by omega
        subst e2
        have g1 := atI_nat (List.getElem?_eq_getElem hxs)
        have g2 := atI_nat (List.getElem?_eq_getElem hy)
        have e : stepS xs ys s (i : Nat) = if (!sameD xs[i] ys[i]) = true then .rt false else .nx () := by unfold stepS; rw [g1, g2]
        rw [e]
        cases n with
        | zero => exact absurd hdp (by simp only [PyData.depth]; omega)
        | succ n =>
          have m := List.getElem_mem hy
          have hd2 := depthAll_mem m
          have hn2 := noDictAll_mem (by simpa only [PyData.hasDict] using hnd) m
          refine ForTurn.name 2 (Sk.ss ?_) (by split <;> rfl)
          refine Sk.ifT (Fl.body (fun _ : Unit => ([some (.fz (.tuple xs)), some (.fz (.tuple ys)), none] : Rho)) (fun _ : Unit => ([some (.fz (.tuple xs)), some (.fz (.tuple ys)), none] : Rho)) (fun q : Bool => F q)) (Et.not (Et.val (Eo.call (D n rfl) (⟨xs[i], ys[i], rfl, by simp only [PyData.depth] at hdp; omega, hn2, rfl⟩ : R_same n _ _) (Ea.cons (Eo.ixT (Eo.var 0) (Eo.var 2) g1) (Ea.cons (Eo.ixT (Eo.var 1) (Eo.var 2) g2) Ea.nil))))) (fun hc => Sk.retLF Eo.B) (fun hc => Sk.pop (Sk.nxL (Le.cons (Le.cons (Le.skip Le.nil)))))
      · rw [show sameD (.tuple xs) (.tuple ys) = false from by simp only [sameD]; exact sameAll_len hl]
        refine Sk.ifY ((Ew.et (Ew.or (Et.not (Et.val (Eo.isiS "tuple" (.tuple xs) hb.isi hb.tuple (Eo.var 0) (by decide +kernel) (by decide)))) (fun _ => Ew.or1 (Et.neI (Eo.lenT hb.len (Eo.var 0)) (Eo.lenT hb.len (Eo.var 1)))))).cast (cnd _ (by rw [decide_eq_false (by omega)]; rfl))) (Sk.retF Eo.B)
    · have hs : sameD a (.tuple ys) = false := by cases a <;> first | exact absurd ⟨_, rfl⟩ hA | simp only [sameD]
      have hi : isiB a "tuple" = false := by cases a <;> first | exact absurd ⟨_, rfl⟩ hA | first | exact isiB_none (by decide +kernel) | exact isiB_bool (by decide +kernel) | exact isiB_int (by decide +kernel) | exact isiB_str (by decide +kernel) | exact isiB_list (by decide +kernel) | exact isiB_tup (by decide +kernel) | exact isiB_dict (by decide +kernel)
      rw [hs]
      refine Sk.ifY ((Ew.et (Ew.or (Et.not (Et.val (Eo.isiS "tuple" (a) hb.isi hb.tuple (Eo.var 0) (by decide +kernel) (by decide)))) (fun hc => absurd hc (by rw [hi]; decide)) (l := true))).cast (by rw [hi]; rfl)) (Sk.retF Eo.B)
theorem all_mk {l : PySem.W.OpenLaw} {w : World} {K : PySem.W.Frag} {h : Heap} {mg : Str → Option Value} {fa : Addr} (X : K.In h) (G : h.Ns mainGlobals mg) (hfa : mg "law" = some (.ref fa))
    {od1 an1 : Option Addr}
    {sl1 : Array (Option Value)} {f1 : Addr} {oc1 kV1 dc1 pm1 cd1 ct1 : Value}
    {od2 an2 : Option Addr}
    {sl2 : Array (Option Value)} {f2 : Addr} {oc2 kV2 dc2 pm2 cd2 ct2 : Value}
    {od3 an3 : Option Addr}
    {sl3 : Array (Option Value)} {f3 : Addr} {oc3 kV3 dc3 pm3 cd3 ct3 : Value}
    {od4 an4 : Option Addr}
    {sl4 : Array (Option Value)} {f4 : Addr} {oc4 kV4 dc4 pm4 cd4 ct4 : Value}
    {od5 an5 : Option Addr}
    {sl5 : Array (Option Value)} {f5 : Addr} {oc5 kV5 dc5 pm5 cd5 ct5 : Value}
    {od6 an6 : Option Addr}
    {sl6 : Array (Option Value)} {f6 : Addr} {oc6 kV6 dc6 pm6 cd6 ct6 : Value}
    {od7 an7 : Option Addr}
    {sl7 : Array (Option Value)} {f7 : Addr} {oc7 kV7 dc7 pm7 cd7 ct7 : Value}
    {od8 an8 : Option Addr}
    {sl8 : Array (Option Value)} {f8 : Addr} {oc8 kV8 dc8 pm8 cd8 ct8 : Value}
    {od9 an9 : Option Addr}
    {sl9 : Array (Option Value)} {f9 : Addr} {oc9 kV9 dc9 pm9 cd9 ct9 : Value}
    {od10 an10 : Option Addr}
    {sl10 : Array (Option Value)} {f10 : Addr} {oc10 kV10 dc10 pm10 cd10 ct10 : Value}
    {od11 an11 : Option Addr}
    {sl11 : Array (Option Value)} {f11 : Addr} {oc11 kV11 dc11 pm11 cd11 ct11 : Value}
    {od12 an12 : Option Addr}
    {sl12 : Array (Option Value)} {f12 : Addr} {oc12 kV12 dc12 pm12 cd12 ct12 : Value}
    {od13 an13 : Option Addr}
    {sl13 : Array (Option Value)} {f13 : Addr} {oc13 kV13 dc13 pm13 cd13 ct13 : Value}
    {od14 an14 : Option Addr}
    {sl14 : Array (Option Value)} {f14 : Addr} {oc14 kV14 dc14 pm14 cd14 ct14 : Value}
    {od15 an15 : Option Addr}
    {sl15 : Array (Option Value)} {f15 : Addr} {oc15 kV15 dc15 pm15 cd15 ct15 : Value}
    (a1 : PySem.W.nsIn K mainGlobals "_law_numbers" = some (some (.ref f1)))
    (l1 : K.lookup f1 = some ⟨oc1, od1, .func (PySem.W.fnOf "_law_numbers" "_law_numbers" (defArgs s_law_numbers) (defBody s_law_numbers) (defScope s_law_numbers) .none kV1 dc1 pm1 an1 cd1 ct1), sl1⟩)
    (c1 : PySem.W.codeIn K cd1 "_law_numbers" = true) (k1 : PySem.W.keepIn K (.ref f1) = true)
    (a2 : PySem.W.nsIn K mainGlobals "_law_cell" = some (some (.ref f2)))
    (l2 : K.lookup f2 = some ⟨oc2, od2, .func (PySem.W.fnOf "_law_cell" "_law_cell" (defArgs s_law_cell) (defBody s_law_cell) (defScope s_law_cell) .none kV2 dc2 pm2 an2 cd2 ct2), sl2⟩)
    (c2 : PySem.W.codeIn K cd2 "_law_cell" = true) (k2 : PySem.W.keepIn K (.ref f2) = true)
    (a3 : PySem.W.nsIn K mainGlobals "_law_marks" = some (some (.ref f3)))
    (l3 : K.lookup f3 = some ⟨oc3, od3, .func (PySem.W.fnOf "_law_marks" "_law_marks" (defArgs s_law_marks) (defBody s_law_marks) (defScope s_law_marks) .none kV3 dc3 pm3 an3 cd3 ct3), sl3⟩)
    (c3 : PySem.W.codeIn K cd3 "_law_marks" = true) (k3 : PySem.W.keepIn K (.ref f3) = true)
    (a4 : PySem.W.nsIn K mainGlobals "_law_fillings" = some (some (.ref f4)))
    (l4 : K.lookup f4 = some ⟨oc4, od4, .func (PySem.W.fnOf "_law_fillings" "_law_fillings" (defArgs s_law_fillings) (defBody s_law_fillings) (defScope s_law_fillings) .none kV4 dc4 pm4 an4 cd4 ct4), sl4⟩)
    (c4 : PySem.W.codeIn K cd4 "_law_fillings" = true) (k4 : PySem.W.keepIn K (.ref f4) = true)
    (a5 : PySem.W.nsIn K mainGlobals "total_of" = some (some (.ref f5)))
    (l5 : K.lookup f5 = some ⟨oc5, od5, .func (PySem.W.fnOf "total_of" "total_of" (defArgs s_total_of) (defBody s_total_of) (defScope s_total_of) .none kV5 dc5 pm5 an5 cd5 ct5), sl5⟩)
    (c5 : PySem.W.codeIn K cd5 "total_of" = true) (k5 : PySem.W.keepIn K (.ref f5) = true)
    (a6 : PySem.W.nsIn K mainGlobals "totals" = some (some (.ref f6)))
    (l6 : K.lookup f6 = some ⟨oc6, od6, .func (PySem.W.fnOf "totals" "totals" (defArgs s_totals) (defBody s_totals) (defScope s_totals) .none kV6 dc6 pm6 an6 cd6 ct6), sl6⟩)
    (c6 : PySem.W.codeIn K cd6 "totals" = true) (k6 : PySem.W.keepIn K (.ref f6) = true)
    (a7 : PySem.W.nsIn K mainGlobals "ranks" = some (some (.ref f7)))
    (l7 : K.lookup f7 = some ⟨oc7, od7, .func (PySem.W.fnOf "ranks" "ranks" (defArgs s_ranks) (defBody s_ranks) (defScope s_ranks) .none kV7 dc7 pm7 an7 cd7 ct7), sl7⟩)
    (c7 : PySem.W.codeIn K cd7 "ranks" = true) (k7 : PySem.W.keepIn K (.ref f7) = true)
    (a8 : PySem.W.nsIn K mainGlobals "filled" = some (some (.ref f8)))
    (l8 : K.lookup f8 = some ⟨oc8, od8, .func (PySem.W.fnOf "filled" "filled" (defArgs s_filled) (defBody s_filled) (defScope s_filled) .none kV8 dc8 pm8 an8 cd8 ct8), sl8⟩)
    (c8 : PySem.W.codeIn K cd8 "filled" = true) (k8 : PySem.W.keepIn K (.ref f8) = true)
    (a9 : PySem.W.nsIn K mainGlobals "chance_of" = some (some (.ref f9)))
    (l9 : K.lookup f9 = some ⟨oc9, od9, .func (PySem.W.fnOf "chance_of" "chance_of" (defArgs s_chance_of) (defBody s_chance_of) (defScope s_chance_of) .none kV9 dc9 pm9 an9 cd9 ct9), sl9⟩)
    (c9 : PySem.W.codeIn K cd9 "chance_of" = true) (k9 : PySem.W.keepIn K (.ref f9) = true)
    (a10 : PySem.W.nsIn K mainGlobals "chances" = some (some (.ref f10)))
    (l10 : K.lookup f10 = some ⟨oc10, od10, .func (PySem.W.fnOf "chances" "chances" (defArgs s_chances) (defBody s_chances) (defScope s_chances) .none kV10 dc10 pm10 an10 cd10 ct10), sl10⟩)
    (c10 : PySem.W.codeIn K cd10 "chances" = true) (k10 : PySem.W.keepIn K (.ref f10) = true)
    (a11 : PySem.W.nsIn K mainGlobals "_law_total" = some (some (.ref f11)))
    (l11 : K.lookup f11 = some ⟨oc11, od11, .func (PySem.W.fnOf "_law_total" "_law_total" (defArgs s_law_total) (defBody s_law_total) (defScope s_law_total) .none kV11 dc11 pm11 an11 cd11 ct11), sl11⟩)
    (c11 : PySem.W.codeIn K cd11 "_law_total" = true) (k11 : PySem.W.keepIn K (.ref f11) = true)
    (a12 : PySem.W.nsIn K mainGlobals "_law_ranks" = some (some (.ref f12)))
    (l12 : K.lookup f12 = some ⟨oc12, od12, .func (PySem.W.fnOf "_law_ranks" "_law_ranks" (defArgs s_law_ranks) (defBody s_law_ranks) (defScope s_law_ranks) .none kV12 dc12 pm12 an12 cd12 ct12), sl12⟩)
    (c12 : PySem.W.codeIn K cd12 "_law_ranks" = true) (k12 : PySem.W.keepIn K (.ref f12) = true)
    (a13 : PySem.W.nsIn K mainGlobals "_law_word" = some (some (.ref f13)))
    (l13 : K.lookup f13 = some ⟨oc13, od13, .func (PySem.W.fnOf "_law_word" "_law_word" (defArgs s_law_word) (defBody s_law_word) (defScope s_law_word) .none kV13 dc13 pm13 an13 cd13 ct13), sl13⟩)
    (c13 : PySem.W.codeIn K cd13 "_law_word" = true) (k13 : PySem.W.keepIn K (.ref f13) = true)
    (a14 : PySem.W.nsIn K mainGlobals "_law_same" = some (some (.ref f14)))
    (l14 : K.lookup f14 = some ⟨oc14, od14, .func (PySem.W.fnOf "_law_same" "_law_same" (defArgs s_law_same) (defBody s_law_same) (defScope s_law_same) .none kV14 dc14 pm14 an14 cd14 ct14), sl14⟩)
    (c14 : PySem.W.codeIn K cd14 "_law_same" = true) (k14 : PySem.W.keepIn K (.ref f14) = true)
    (a15 : PySem.W.nsIn K mainGlobals "law" = some (some (.ref f15)))
    (l15 : K.lookup f15 = some ⟨oc15, od15, .func (PySem.W.fnOf "law" "law" (defArgs s_law) (defBody s_law) (defScope s_law) .none kV15 dc15 pm15 an15 cd15 ct15), sl15⟩)
    (c15 : PySem.W.codeIn K cd15 "law" = true) (k15 : PySem.W.keepIn K (.ref f15) = true)
    (z_sorted : PySem.W.nsIn K mainGlobals "sorted" = some none)
    (z_len : PySem.W.nsIn K mainGlobals "len" = some none)
    (z_sum : PySem.W.nsIn K mainGlobals "sum" = some none)
    (z_enumerate : PySem.W.nsIn K mainGlobals "enumerate" = some none)
    (z_range : PySem.W.nsIn K mainGlobals "range" = some none)
    (z_int : PySem.W.nsIn K mainGlobals "int" = some none)
    (z_list : PySem.W.nsIn K mainGlobals "list" = some none)
    (z_max : PySem.W.nsIn K mainGlobals "max" = some none)
    (z_min : PySem.W.nsIn K mainGlobals "min" = some none)
    (z_repr : PySem.W.nsIn K mainGlobals "repr" = some none)
    (z_isinstance : PySem.W.nsIn K mainGlobals "isinstance" = some none)
    (z_tuple : PySem.W.nsIn K mainGlobals "tuple" = some none)
    (z_bool : PySem.W.nsIn K mainGlobals "bool" = some none)
    (z_str : PySem.W.nsIn K mainGlobals "str" = some none)
    {t_MOST_MARK : Tok} (z_MOST_MARK : PySem.W.nsIn K mainGlobals "MOST_MARK" = some (some (.int 100 t_MOST_MARK))) :
    ∃ fd : FuncData, (∀ (s : Shared) (u : Value), BindsTo s fd ⟨[u], []⟩ [("script", u)]) ∧ ∀ base : Heap, K.In base → base.Ns mainGlobals mg → FnG l.prog w K mg base CX0 10 fa fd ["script"] (spO K (RLaw 63)) := by
  have e := hfa.symm.trans (PySem.W.mg_of X G a15)
  cases e
  have F1 := fun_mk (st := s_law_numbers) l1 c1 k1
  have F2 := fun_mk (st := s_law_cell) l2 c2 k2
  have F3 := fun_mk (st := s_law_marks) l3 c3 k3
  have F4 := fun_mk (st := s_law_fillings) l4 c4 k4
  have F5 := fun_mk (st := s_total_of) l5 c5 k5
  have F6 := fun_mk (st := s_totals) l6 c6 k6
  have F7 := fun_mk (st := s_ranks) l7 c7 k7
  have F8 := fun_mk (st := s_filled) l8 c8 k8
  have F9 := fun_mk (st := s_chance_of) l9 c9 k9
  have F10 := fun_mk (st := s_chances) l10 c10 k10
  have F11 := fun_mk (st := s_law_total) l11 c11 k11
  have F12 := fun_mk (st := s_law_ranks) l12 c12 k12
  have F13 := fun_mk (st := s_law_word) l13 c13 k13
  have F14 := fun_mk (st := s_law_same) l14 c14 k14
  have F15 := fun_mk (st := s_law) l15 c15 k15
  refine ⟨PySem.W.fnOf "law" "law" (defArgs s_law) (defBody s_law) (defScope s_law) .none kV15 dc15 pm15 an15 cd15 ct15, fun s u => .of_eq rfl, fun base _ _ => ?_⟩
  let g : Pg := ⟨l.prog, w, K, mg, base⟩
  have hb : Bi g := ⟨PySem.W.mg_none_of X G z_sorted, PySem.W.mg_none_of X G z_len, PySem.W.mg_none_of X G z_sum, PySem.W.mg_none_of X G z_enumerate, PySem.W.mg_none_of X G z_range, PySem.W.mg_none_of X G z_int, PySem.W.mg_none_of X G z_list, PySem.W.mg_none_of X G z_max, PySem.W.mg_none_of X G z_min, PySem.W.mg_none_of X G z_repr, ⟨_, PySem.W.mg_of X G z_MOST_MARK, ⟨_, rfl⟩⟩⟩
  have hbS : BiSame g := ⟨PySem.W.mg_none_of X G z_isinstance, PySem.W.mg_none_of X G z_len, PySem.W.mg_none_of X G z_range, PySem.W.mg_none_of X G z_list, PySem.W.mg_none_of X G z_tuple, PySem.W.mg_none_of X G z_bool, PySem.W.mg_none_of X G z_int, PySem.W.mg_none_of X G z_str⟩
  have b1 := F1.binds (ps := ["cell", "count", "limit"]) fun _ _ _ _ _ _ us hl => match us, hl with | [_, _, _], _ => rfl
  have d1 : Def g 1 "_law_numbers" R_law_numbers := Def.of F1 sc_law_numbers (PySem.W.mg_of X G a1) b1 (by rintro ds t ⟨_, _, _, rfl, _⟩; rfl) (ss_law_numbers hb)
  have b2 := F2.binds (ps := ["script", "k"]) fun _ _ _ _ _ _ us hl => match us, hl with | [_, _], _ => rfl
  have d2 : Def g 1 "_law_cell" R_law_cell := Def.of F2 sc_law_cell (PySem.W.mg_of X G a2) b2 (by rintro ds t ⟨_, _, rfl, _⟩; rfl) (ss_law_cell hb)
  have b3 := F3.binds (ps := ["script", "at", "players", "ears"]) fun _ _ _ _ _ _ us hl => match us, hl with | [_, _, _, _], _ => rfl
  have d3 : Def g 2 "_law_marks" R_law_marks := Def.of F3 sc_law_marks (PySem.W.mg_of X G a3) b3 (by rintro ds t ⟨_, _, _, _, rfl, _⟩; rfl) (ss_law_marks hb ⟨d1.mono (by decide), d2.mono (by decide)⟩)
  have b4 := F4.binds (ps := ["marks", "values"]) fun _ _ _ _ _ _ us hl => match us, hl with | [_, _], _ => rfl
  have d4 : Def g 1 "_law_fillings" R_law_fillings := Def.of F4 sc_law_fillings (PySem.W.mg_of X G a4) b4 (by rintro ds t ⟨_, _, rfl, _⟩; rfl) (ss_law_fillings hb)
  have b5 := F5.binds (ps := ["row", "drop"]) fun _ _ _ _ _ _ us hl => match us, hl with | [_, _], _ => rfl
  have d5 : Def g 1 "total_of" R_total_of := Def.of F5 sc_total_of (PySem.W.mg_of X G a5) b5 (by rintro ds t ⟨_, _, rfl, _⟩; rfl) (ss_total_of hb)
  have b6 := F6.binds (ps := ["marks", "drop"]) fun _ _ _ _ _ _ us hl => match us, hl with | [_, _], _ => rfl
  have d6 : Def g 2 "totals" R_totals := Def.of F6 sc_totals (PySem.W.mg_of X G a6) b6 (by rintro ds t ⟨_, _, rfl, _⟩; rfl) (ss_totals hb ⟨d5.mono (by decide)⟩)
  have b7 := F7.binds (ps := ["marks", "drop"]) fun _ _ _ _ _ _ us hl => match us, hl with | [_, _], _ => rfl
  have d7 : Def g 3 "ranks" R_ranks := Def.of F7 sc_ranks (PySem.W.mg_of X G a7) b7 (by rintro ds t ⟨_, _, rfl, _⟩; rfl) (ss_ranks hb ⟨d6.mono (by decide)⟩)
  have b8 := F8.binds (ps := ["marks", "player", "own", "others"]) fun _ _ _ _ _ _ us hl => match us, hl with | [_, _, _, _], _ => rfl
  have d8 : Def g 1 "filled" R_filled := Def.of F8 sc_filled (PySem.W.mg_of X G a8) b8 (by rintro ds t ⟨_, _, _, _, rfl, _⟩; rfl) (ss_filled hb)
  have b9 := F9.binds (ps := ["marks", "drop", "places", "player"]) fun _ _ _ _ _ _ us hl => match us, hl with | [_, _, _, _], _ => rfl
  have d9 : Def g 4 "chance_of" R_chance_of := Def.of F9 sc_chance_of (PySem.W.mg_of X G a9) b9 (by rintro ds t ⟨_, _, _, _, rfl, _⟩; rfl) (ss_chance_of hb ⟨d7.mono (by decide), d8.mono (by decide)⟩)
  have b10 := F10.binds (ps := ["marks", "drop", "places"]) fun _ _ _ _ _ _ us hl => match us, hl with | [_, _, _], _ => rfl
  have d10 : Def g 5 "chances" R_chances := Def.of F10 sc_chances (PySem.W.mg_of X G a10) b10 (by rintro ds t ⟨_, _, _, rfl, _⟩; rfl) (ss_chances hb ⟨d9.mono (by decide)⟩)
  have b11 := F11.binds (ps := ["row", "drop"]) fun _ _ _ _ _ _ us hl => match us, hl with | [_, _], _ => rfl
  have d11 : Def g 1 "_law_total" R_law_total := Def.of F11 sc_law_total (PySem.W.mg_of X G a11) b11 (by rintro ds t ⟨_, _, rfl, _⟩; rfl) (ss_law_total hb)
  have b12 := F12.binds (ps := ["marks", "drop"]) fun _ _ _ _ _ _ us hl => match us, hl with | [_, _], _ => rfl
  have d12 : Def g 2 "_law_ranks" R_law_ranks := Def.of F12 sc_law_ranks (PySem.W.mg_of X G a12) b12 (by rintro ds t ⟨_, _, rfl, _⟩; rfl) (ss_law_ranks hb ⟨d11.mono (by decide)⟩)
  have b13 := F13.binds (ps := ["fillings", "drop", "places", "player"]) fun _ _ _ _ _ _ us hl => match us, hl with | [_, _, _, _], _ => rfl
  have d13 : Def g 3 "_law_word" R_law_word := Def.of F13 sc_law_word (PySem.W.mg_of X G a13) b13 (by rintro ds t ⟨_, _, _, _, rfl, _⟩; rfl) (ss_law_word hb ⟨d12.mono (by decide)⟩)
  have b14 := F14.binds (ps := ["told", "due"]) fun _ _ _ _ _ _ us hl => match us, hl with | [_, _], _ => rfl
  have dS : ∀ n, Def g (n + 1) "_law_same" (R_same n) := fun n => by
    induction n with
    | zero => exact Def.of F14 sc_law_same (PySem.W.mg_of X G a14) b14 (by rintro ds t ⟨_, _, rfl, _⟩; rfl) (ss_law_same hbS 0 fun m hm => by omega)
    | succ n ih => exact Def.of F14 sc_law_same (PySem.W.mg_of X G a14) b14 (by rintro ds t ⟨_, _, rfl, _⟩; rfl) (ss_law_same hbS (n + 1) fun m hm => by cases hm; exact ih)
  refine FnG.of (g := g) (R := RLaw 63) F15 sc_law (by rintro ds t ⟨_, rfl, _⟩; rfl) fun ds t ⟨ns, e1, e2, e3⟩ => ss_law hb ⟨d3.mono (by decide), d1.mono (by decide), d4.mono (by decide), d10.mono (by decide), d2.mono (by decide), d7.mono (by decide), d13.mono (by decide), d12.mono (by decide), (dS 8).mono (by decide)⟩ ds t ⟨ns, e1, e3.trans (by rw [m_law_true ns])⟩
end K60
open PySem PySem.W PyProof.Rows
set_option maxHeartbeats 0 in
theorem PySem.Challenge.cw_nobodywaits_k60_whole_chances_in_auditio_holds : PySem.Challenge.rw_nobodywaits_k60_whole_chances_in_auditio.Holds := by
  w_on; o_law; k_head; (case hw => w_witness2)
  k_fill
  refine NW.walkG (l := PySem.Challenge.rw_nobodywaits_k60_whole_chances_in_auditio) (n := 63) (k := 10) (x := "script") rfl (by decide) rfl ⟨rfl, by decide, by decide⟩ (fun w h Y => PySem.W.kIn_of Y) ?F
  case F =>
    intro w mg fa h KX G hmg
    refine' K60.all_mk KX G hmg ?a1 ?l1 ?c1 ?k1 ?a2 ?l2 ?c2 ?k2 ?a3 ?l3 ?c3 ?k3 ?a4 ?l4 ?c4 ?k4 ?a5 ?l5 ?c5 ?k5 ?a6 ?l6 ?c6 ?k6 ?a7 ?l7 ?c7 ?k7 ?a8 ?l8 ?c8 ?k8 ?a9 ?l9 ?c9 ?k9 ?a10 ?l10 ?c10 ?k10 ?a11 ?l11 ?c11 ?k11 ?a12 ?l12 ?c12 ?k12 ?a13 ?l13 ?c13 ?k13 ?a14 ?l14 ?c14 ?k14 ?a15 ?l15 ?c15 ?k15 ?z_sorted ?z_len ?z_sum ?z_enumerate ?z_range ?z_int ?z_list ?z_max ?z_min ?z_repr ?z_isinstance ?z_tuple ?z_bool ?z_str ?z_MOST_MARK
    (case a1 => k_is)
    (case l1 => k_is)
    (case c1 => k_is)
    (case k1 => k_is)
    (case a2 => k_is)
    (case l2 => k_is)
    (case c2 => k_is)
    (case k2 => k_is)
    (case a3 => k_is)
    (case l3 => k_is)
    (case c3 => k_is)
    (case k3 => k_is)
    (case a4 => k_is)
    (case l4 => k_is)
    (case c4 => k_is)
    (case k4 => k_is)
    (case a5 => k_is)
    (case l5 => k_is)
    (case c5 => k_is)
    (case k5 => k_is)
    (case a6 => k_is)
    (case l6 => k_is)
    (case c6 => k_is)
    (case k6 => k_is)
    (case a7 => k_is)
    (case l7 => k_is)
    (case c7 => k_is)
    (case k7 => k_is)
    (case a8 => k_is)
    (case l8 => k_is)
    (case c8 => k_is)
    (case k8 => k_is)
    (case a9 => k_is)
    (case l9 => k_is)
    (case c9 => k_is)
    (case k9 => k_is)
    (case a10 => k_is)
    (case l10 => k_is)
    (case c10 => k_is)
    (case k10 => k_is)
    (case a11 => k_is)
    (case l11 => k_is)
    (case c11 => k_is)
    (case k11 => k_is)
    (case a12 => k_is)
    (case l12 => k_is)
    (case c12 => k_is)
    (case k12 => k_is)
    (case a13 => k_is)
    (case l13 => k_is)
    (case c13 => k_is)
    (case k13 => k_is)
    (case a14 => k_is)
    (case l14 => k_is)
    (case c14 => k_is)
    (case k14 => k_is)
    (case a15 => k_is)
    (case l15 => k_is)
    (case c15 => k_is)
    (case k15 => k_is)
    (case z_sorted => k_is)
    (case z_len => k_is)
    (case z_sum => k_is)
    (case z_enumerate => k_is)
    (case z_range => k_is)
    (case z_int => k_is)
    (case z_list => k_is)
    (case z_max => k_is)
    (case z_min => k_is)
    (case z_repr => k_is)
    (case z_isinstance => k_is)
    (case z_tuple => k_is)
    (case z_bool => k_is)
    (case z_str => k_is)
    (case z_MOST_MARK => k_is)
