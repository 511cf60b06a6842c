import PyProof.Rows.All
import Wide.All
import OpenK.AllK
import Wide.FinOn
import HandS.ForDict
import HandS.ForMost
import KE.Datum
import KE.SortData
import KE.DataMinMax
import KE.LtData
import HandS.Deep
import HandS.SortInts
import HandS.Star
import HandS.TupLe
import HandS.Wide
import HandS.Flow
import KE.DataCmp
import KE.DataFind
import HandS.Style
import PyProof.ReprRoads
import HandS.Gcd
import HandS.TupLen
import HandS.SetFor
import HandS.Strs
import HandS.Words
import HandS.Ends
import HandS.TryOnly
import KE.GoesEnum
import KE.GoesMore
import HandS.Dict
import HandS.SetBool
import HandS.TupSets
import HandS.SortKw
import HandS.Codes
import PyProof.Rows.ReprOcc
import PyProof.Rows.RegFStrParts
import PySem.Challenge.RW_runattimes_k70_whole_clocks_and_runs_at
set_option Elab.async false
set_option linter.all false
set_option maxRecDepth 100000
/-! DI: data that values stand for, owned slots, what a def's state means. -/
namespace DI
open PySem L2

abbrev D := PyData
/-- a dict's key as data -/
def keyD : Key → D
  | .inl i => .int i
  | .inr x => .str x
mutual
/-- v stands for the data d in the heap H -/
inductive Is (K : PySem.W.Frag) (H : Hp) : V → D → Prop
  | non : Is K H .non .none
  | bl (b : Bool) : Is K H (.bl b) (.bool b)
  | int (i : Int) : Is K H (.int i) (.int i)
  | str (x : Str) : Is K H (.str x) (.str x)
  | lst {a : Addr} {xs : List V} {ds : List D} : SqL K H a xs → xs.length ≤ sizeLine → IsAll K H xs ds → Is K H (.ref a) (.list ds)
  | tup {a : Addr} {xs : List V} {ds : List D} : SqT K H a xs → xs.length ≤ sizeLine → IsAll K H xs ds → Is K H (.ref a) (.tuple ds)
  | dcK {a : Addr} {kvs : List (Key × V)} {ds : List (D × D)} : Rd H a (.dK kvs) → IsKv K H kvs ds → Is K H (.ref a) (.dict ds)
  | dcT {a : Addr} {kvs : List (List Key × V)} {ds : List (D × D)} : Rd H a (.dT kvs) → IsKvT K H kvs ds → Is K H (.ref a) (.dict ds)
inductive IsAll (K : PySem.W.Frag) (H : Hp) : List V → List D → Prop
  | nil : IsAll K H [] []
  | cons {v : V} {vs : List V} {d : D} {ds : List D} : Is K H v d → IsAll K H vs ds → IsAll K H (v :: vs) (d :: ds)
inductive IsKv (K : PySem.W.Frag) (H : Hp) : List (Key × V) → List (D × D) → Prop
  | nil : IsKv K H [] []
  | cons {k : Key} {v : V} {r : List (Key × V)} {d : D} {ds : List (D × D)} : Is K H v d → IsKv K H r ds → IsKv K H ((k, v) :: r) ((keyD k, d) :: ds)
inductive IsKvT (K : PySem.W.Frag) (H : Hp) : List (List Key × V) → List (D × D) → Prop
  | nil : IsKvT K H [] []
  | cons {k : List Key} {v : V} {r : List (List Key × V)} {d : D} {ds : List (D × D)} : Is K H v d → IsKvT K H r ds → IsKvT K H ((k, v) :: r) ((.tuple (k.map keyD), d) :: ds)
end
section
variable {K : PySem.W.Frag} {H H' : Hp}
theorem Rd.mono {a : Addr} {u : HO} (e : Same H H') (h : Rd H a u) : Rd H' a u := by
  rcases h with h | ⟨o, h⟩
  · exact .inl (e _ _ h)
  · exact .inr ⟨o, e _ _ h⟩
theorem SqT.mono {a : Addr} {xs : List V} (e : Same H H') (h : SqT K H a xs) : SqT K H' a xs := by
  rcases h with h | h
  · exact .inl (Rd.mono e h)
  · exact .inr h
mutual
theorem Is.mono (e : Same H H') : ∀ {v : V} {d : D}, Is K H v d → Is K H' v d
  | _, _, .non => .non
  | _, _, .bl b => .bl b
  | _, _, .int i => .int i
  | _, _, .str x => .str x
  | _, _, .lst h n r => .lst (e.seq h) n (IsAll.mono e r)
  | _, _, .tup h n r => .tup (SqT.mono e h) n (IsAll.mono e r)
  | _, _, .dcK h r => .dcK (Rd.mono e h) (IsKv.mono e r)
  | _, _, .dcT h r => .dcT (Rd.mono e h) (IsKvT.mono e r)
theorem IsAll.mono (e : Same H H') : ∀ {vs : List V} {ds : List D}, IsAll K H vs ds → IsAll K H' vs ds
  | _, _, .nil => .nil
  | _, _, .cons h r => .cons (Is.mono e h) (IsAll.mono e r)
theorem IsKv.mono (e : Same H H') : ∀ {vs : List (Key × V)} {ds : List (D × D)}, IsKv K H vs ds → IsKv K H' vs ds
  | _, _, .nil => .nil
  | _, _, .cons h r => .cons (Is.mono e h) (IsKv.mono e r)
theorem IsKvT.mono (e : Same H H') : ∀ {vs : List (List Key × V)} {ds : List (D × D)}, IsKvT K H vs ds → IsKvT K H' vs ds
  | _, _, .nil => .nil
  | _, _, .cons h r => .cons (Is.mono e h) (IsKvT.mono e r)
end
theorem IsAll.length : ∀ {vs : List V} {ds : List D}, IsAll K H vs ds → vs.length = ds.length
  | _, _, .nil => rfl
  | _, _, .cons _ r => by simp [IsAll.length r]
theorem IsAll.at : ∀ {vs : List V} {ds : List D} {i : Nat} {d : D}, IsAll K H vs ds → ds[i]? = some d → ∃ v, vs[i]? = some v ∧ Is K H v d
  | _, _, _, _, .nil, e => by simp at e
  | _, _, 0, _, .cons h _, e => by simp at e; subst e; exact ⟨_, rfl, h⟩
  | _, _, i + 1, _, .cons _ r, e => by simpa using IsAll.at (i := i) r (by simpa using e)
theorem IsAll.at' : ∀ {vs : List V} {ds : List D} {i : Nat} {v : V}, IsAll K H vs ds → vs[i]? = some v → ∃ d, ds[i]? = some d ∧ Is K H v d
  | _, _, _, _, .nil, e => by simp at e
  | _, _, 0, _, .cons h _, e => by simp at e; subst e; exact ⟨_, rfl, h⟩
  | _, _, i + 1, _, .cons _ r, e => by simpa using IsAll.at' (i := i) r (by simpa using e)
theorem IsAll.append : ∀ {vs ws : List V} {ds es : List D}, IsAll K H vs ds → IsAll K H ws es → IsAll K H (vs ++ ws) (ds ++ es)
  | _, _, _, _, .nil, s => s
  | _, _, _, _, .cons h r, s => .cons h (IsAll.append r s)
theorem IsAll.take : ∀ {vs : List V} {ds : List D} (n : Nat), IsAll K H vs ds → IsAll K H (vs.take n) (ds.take n)
  | _, _, 0, _ => by simpa using IsAll.nil
  | _, _, _ + 1, .nil => by simpa using IsAll.nil
  | _, _, n + 1, .cons h r => .cons h (IsAll.take n r)
theorem IsAll.drop : ∀ {vs : List V} {ds : List D} (n : Nat), IsAll K H vs ds → IsAll K H (vs.drop n) (ds.drop n)
  | _, _, 0, r => r
  | _, _, _ + 1, .nil => by simpa using IsAll.nil
  | _, _, n + 1, .cons _ r => IsAll.drop n r
theorem IsAll.set : ∀ {vs : List V} {ds : List D} {v : V} {d : D} (i : Nat), IsAll K H vs ds → Is K H v d → IsAll K H (vs.set i v) (ds.set i d)
  | _, _, _, _, _, .nil, _ => .nil
  | _, _, _, _, 0, .cons _ r, h => .cons h r
  | _, _, _, _, i + 1, .cons h' r, h => .cons h' (IsAll.set i r h)
theorem IsAll.reverse : ∀ {vs : List V} {ds : List D}, IsAll K H vs ds → IsAll K H vs.reverse ds.reverse
  | _, _, .nil => .nil
  | _, _, .cons h r => by
    rw [List.reverse_cons, List.reverse_cons]
    exact (IsAll.reverse r).append (.cons h .nil)
theorem IsAll.flat {vs : List V} {ds : List D} (h : IsAll K H vs ds) : ∀ n, IsAll K H (List.replicate n vs).flatten (List.replicate n ds).flatten
  | 0 => .nil
  | n + 1 => by
    rw [List.replicate_succ, List.replicate_succ, List.flatten_cons, List.flatten_cons]
    exact h.append (IsAll.flat h n)
theorem IsAll.ints : ∀ {vs : List V} {ns : List Int}, IsAll K H vs (ns.map PyData.int) → vs = ns.map V.int
  | _, [], .nil => rfl
  | _, n :: ns, .cons h r => by
    cases h
    rw [IsAll.ints r]; rfl
theorem IsAll.bools : ∀ {vs : List V} {ns : List Bool}, IsAll K H vs (ns.map PyData.bool) → vs = ns.map V.bl
  | _, [], .nil => rfl
  | _, n :: ns, .cons h r => by
    cases h
    rw [IsAll.bools r]; rfl
theorem IsAll.of_ints : ∀ (ns : List Int), IsAll K H (ns.map V.int) (ns.map PyData.int)
  | [] => .nil
  | n :: ns => .cons (.int n) (IsAll.of_ints ns)
end

/-! ### hidden objects -/
open Classical in
/-- H without what h hides -/
noncomputable def cut (h : Addr → Prop) (H : Hp) : Hp := fun b => if h b then none else H b
section
variable {h h' : Addr → Prop} {H H' : Hp} {b : Addr} {o : HO}
theorem cut_no (n : ¬ h b) : cut h H b = H b := by unfold cut; rw [if_neg n]
theorem cut_yes (n : h b) : cut h H b = none := by unfold cut; rw [if_pos n]
theorem cut_some (e : cut h H b = some o) : ¬ h b ∧ H b = some o := by
  by_cases n : h b
  · rw [cut_yes n] at e; cases e
  · rw [cut_no n] at e; exact ⟨n, e⟩
theorem cut_le : Same (cut h H) H := fun b o e => (cut_some e).2
theorem cut_anti (w : ∀ b, h' b → h b) : Same (cut h H) (cut h' H) := fun b o e => by
  obtain ⟨n, q⟩ := cut_some e
  rw [cut_no fun z => n (w b z)]; exact q
theorem cut_same (s : Same H H') : Same (cut h H) (cut h H') := fun b o e => by
  obtain ⟨n, q⟩ := cut_some e
  rw [cut_no n]; exact s b o q
theorem cut_same2 (s : Same H H') (w : ∀ b, h' b → h b ∨ H b = none) : Same (cut h H) (cut h' H') := fun b o e => by
  obtain ⟨n, q⟩ := cut_some e
  rw [cut_no fun z => (w b z).elim n fun z => by rw [z] at q; cases q]; exact s b o q
/-- an object that is hidden may change -/
theorem cut_upd {a : Addr} (n : h a) : Same (cut h H) (cut h (upd H a o)) := fun b u e => by
  obtain ⟨m, q⟩ := cut_some e
  have : b ≠ a := fun z => by subst z; exact m n
  rw [cut_no m, upd_ne this]; exact q
theorem same_upd_new {a : Addr} (n : H a = none) : Same H (upd H a o) := fun b u e => by rw [upd_ne (ne_of_none e n)]; exact e
end

/-- the addresses that the slots in own hold -/
def roots (own : List Nat) (σ : St) (b : Addr) : Prop := ∃ i, i ∈ own ∧ σ[i]? = some (some (V.ref b))
/-- what is hidden: from outside, and owned -/
def hd (hide : Addr → Prop) (own : List Nat) (σ : St) (b : Addr) : Prop := hide b ∨ roots own σ b
def diff (own a : List Nat) : List Nat := own.filter fun i => !a.contains i
theorem mem_diff {own a : List Nat} {i : Nat} : i ∈ diff own a ↔ i ∈ own ∧ i ∉ a := by
  unfold diff; simp [List.mem_filter]
theorem hd_anti {hide : Addr → Prop} {own own' : List Nat} {σ : St} (w : ∀ i ∈ own', i ∈ own) : ∀ b, hd hide own' σ b → hd hide own σ b := fun b z =>
  z.elim .inl fun ⟨i, hi, e⟩ => .inr ⟨i, w i hi, e⟩

/-- a list or a dict that a slot owns: its parts stand for data -/
def OwnIs (K : PySem.W.Frag) (H : Hp) (o : Option HO) (d : D) : Prop :=
  (∃ vs ds, o = some (.lst vs) ∧ d = .list ds ∧ vs.length ≤ sizeLine ∧ IsAll K H vs ds) ∨
  (∃ kvs ds, o = some (.dK kvs) ∧ d = .dict ds ∧ IsKv K H kvs ds) ∨
  (∃ kvs ds, o = some (.dT kvs) ∧ d = .dict ds ∧ IsKvT K H kvs ds)
theorem OwnIs.mono {K : PySem.W.Frag} {H H' : Hp} {o : Option HO} {d : D} (e : Same H H') (h : OwnIs K H o d) : OwnIs K H' o d := by
  rcases h with ⟨vs, ds, h1, h2, h3, h4⟩ | ⟨vs, ds, h1, h2, h4⟩ | ⟨vs, ds, h1, h2, h4⟩
  · exact .inl ⟨vs, ds, h1, h2, h3, h4.mono e⟩
  · exact .inr (.inl ⟨vs, ds, h1, h2, h4.mono e⟩)
  · exact .inr (.inr ⟨vs, ds, h1, h2, h4.mono e⟩)
/-- .. as a value -/
theorem OwnIs.is {K : PySem.W.Frag} {H : Hp} {a : Addr} {d : D} (h : OwnIs K H (H a) d) : Is K H (.ref a) d := by
  rcases h with ⟨vs, ds, h1, rfl, h3, h4⟩ | ⟨vs, ds, h1, rfl, h4⟩ | ⟨vs, ds, h1, rfl, h4⟩
  · exact .lst (.inl (.inl h1)) h3 h4
  · exact .dcK (.inl h1) h4
  · exact .dcT (.inl h1) h4
theorem OwnIs.some {K : PySem.W.Frag} {H : Hp} {o : Option HO} {d : D} (h : OwnIs K H o d) : ∃ u, o = some u := by
  rcases h with ⟨vs, ds, h1, _⟩ | ⟨vs, ds, h1, _⟩ | ⟨vs, ds, h1, _⟩ <;> exact ⟨_, h1⟩

abbrev Env := List (Option D)
/-- the slots stand for data -/
structure ER (K : PySem.W.Frag) (hide : Addr → Prop) (own : List Nat) (H : Hp) (σ : St) (ρ : Env) : Prop where
  hid : ∀ b, hide b → H b ≠ none
  len : σ.length = ρ.length
  shr : ∀ i d, ρ[i]? = some (some d) → i ∉ own → ∃ v, σ[i]? = some (some v) ∧ Is K (cut (hd hide own σ) H) v d
  ow : ∀ i, i ∈ own → ∃ a d, ρ[i]? = some (some d) ∧ σ[i]? = some (some (V.ref a)) ∧ ¬ hide a ∧ OwnIs K (cut (hd hide own σ) H) (H a) d
  dist : ∀ i j a, i ∈ own → j ∈ own → σ[i]? = some (some (V.ref a)) → σ[j]? = some (some (V.ref a)) → i = j
section
variable {K : PySem.W.Frag} {hide : Addr → Prop} {own own' : List Nat} {H H' : Hp} {σ : St} {ρ : Env}
theorem ER.grow (R : ER K hide own H σ ρ) (s : Same H H') : ER K hide own H' σ ρ := by
  refine ⟨fun b hb z => R.hid b hb (s.free z), R.len, fun i d e n => ?_, fun i hi => ?_, R.dist⟩
  · obtain ⟨v, h1, h2⟩ := R.shr i d e n
    exact ⟨v, h1, h2.mono (cut_same s)⟩
  · obtain ⟨a, d, h1, h2, h3, h4⟩ := R.ow i hi
    obtain ⟨u, hu⟩ := h4.some
    refine ⟨a, d, h1, h2, h3, ?_⟩
    rw [s a u hu, ← hu]
    exact h4.mono (cut_same s)
/-- a root that is no longer owned is a value like others -/
theorem ER.root {i : Nat} {a : Addr} {d : D} (R : ER K hide own H σ ρ) (hi : i ∈ own) (e : ρ[i]? = some (some d)) (ea : σ[i]? = some (some (V.ref a))) (w : ∀ j ∈ own', j ∈ own) (n : i ∉ own') : Is K (cut (hd hide own' σ) H) (.ref a) d := by
  obtain ⟨a', d', h1, h2, h3, h4⟩ := R.ow i hi
  rw [ea] at h2; cases h2
  rw [e] at h1; cases h1
  have na : ¬ hd hide own' σ a := fun z => z.elim h3 fun ⟨j, hj, ej⟩ => n (by rw [R.dist i j a hi (w j hj) ea ej]; exact hj)
  have q := h4.mono (cut_anti (h' := hd hide own' σ) (hd_anti w))
  rw [← cut_no na (H := H)] at q
  exact q.is
theorem ER.val {i : Nat} {d : D} (R : ER K hide own H σ ρ) (e : ρ[i]? = some (some d)) (w : ∀ j ∈ own', j ∈ own) (n : i ∉ own') : ∃ v, σ[i]? = some (some v) ∧ Is K (cut (hd hide own' σ) H) v d := by
  by_cases hi : i ∈ own
  · obtain ⟨a, d', h1, h2, h3, h4⟩ := R.ow i hi
    exact ⟨_, h2, R.root hi e h2 w n⟩
  · obtain ⟨v, h1, h2⟩ := R.shr i d e hi
    exact ⟨v, h1, h2.mono (cut_anti (hd_anti w))⟩
theorem ER.freeze (R : ER K hide own H σ ρ) (w : ∀ j ∈ own', j ∈ own) : ER K hide own' H σ ρ := by
  refine ⟨R.hid, R.len, fun i d e n => R.val e w n, fun i hi => ?_, fun i j a hi hj => R.dist i j a (w i hi) (w j hj)⟩
  obtain ⟨a, d, h1, h2, h3, h4⟩ := R.ow i (w i hi)
  exact ⟨a, d, h1, h2, h3, h4.mono (cut_anti (hd_anti w))⟩
end

/-- the parts of a list, a tuple, a dict -/
def El (K : PySem.W.Frag) (Hc H : Hp) (v : V) : D → Prop
  | .list ds => ∃ a xs, v = .ref a ∧ SqL K H a xs ∧ xs.length ≤ sizeLine ∧ IsAll K Hc xs ds
  | .tuple ds => ∃ a xs, v = .ref a ∧ SqT K H a xs ∧ xs.length ≤ sizeLine ∧ IsAll K Hc xs ds
  | .dict ds => ∃ a, v = .ref a ∧ ((∃ kvs, Rd H a (.dK kvs) ∧ IsKv K Hc kvs ds) ∨ ∃ kvs, Rd H a (.dT kvs) ∧ IsKvT K Hc kvs ds)
  | _ => True
theorem Is.el {K : PySem.W.Frag} {Hc H : Hp} {v : V} {d : D} (s : Same Hc H) (h : Is K Hc v d) : El K Hc H v d := by
  cases h with
  | non => trivial
  | bl b => trivial
  | int i => trivial
  | str x => trivial
  | lst h n r => exact ⟨_, _, rfl, s.seq h, n, r⟩
  | tup h n r => exact ⟨_, _, rfl, SqT.mono s h, n, r⟩
  | dcK h r => exact ⟨_, rfl, .inl ⟨_, Rd.mono s h, r⟩⟩
  | dcT h r => exact ⟨_, rfl, .inr ⟨_, Rd.mono s h, r⟩⟩
theorem El.mono {K : PySem.W.Frag} {Hc Hc' H H' : Hp} {v : V} {d : D} (s : Same Hc Hc') (t : Same H H') (h : El K Hc H v d) : El K Hc' H' v d := by
  cases d with
  | none => trivial
  | bool b => trivial
  | int i => trivial
  | str x => trivial
  | list ds => obtain ⟨a, xs, e, h, n, r⟩ := h; exact ⟨a, xs, e, t.seq h, n, r.mono s⟩
  | tuple ds => obtain ⟨a, xs, e, h, n, r⟩ := h; exact ⟨a, xs, e, SqT.mono t h, n, r.mono s⟩
  | dict ds =>
    obtain ⟨a, e, h⟩ := h
    rcases h with ⟨kvs, h, r⟩ | ⟨kvs, h, r⟩
    · exact ⟨a, e, .inl ⟨kvs, Rd.mono t h, r.mono s⟩⟩
    · exact ⟨a, e, .inr ⟨kvs, Rd.mono t h, r.mono s⟩⟩
theorem ER.elv {K : PySem.W.Frag} {hide : Addr → Prop} {own own' : List Nat} {H : Hp} {σ : St} {ρ : Env} {i : Nat} {v : V} {d : D} (R : ER K hide own H σ ρ) (e : ρ[i]? = some (some d)) (ev : σ[i]? = some (some v)) (w : ∀ j ∈ own', j ∈ own) (n : i ∉ own') : El K (cut (hd hide own σ) H) (cut (hd hide own' σ) H) v d := by
  by_cases hi : i ∈ own
  · obtain ⟨a, d', h1, h2, h3, h4⟩ := R.ow i hi
    rw [ev] at h2; cases h2
    rw [e] at h1; cases h1
    have na : ¬ hd hide own' σ a := fun z => z.elim h3 fun ⟨j, hj, ej⟩ => n (by rw [R.dist i j a hi (w j hj) ev ej]; exact hj)
    rcases h4 with ⟨vs, ds, h1, rfl, h3, h4⟩ | ⟨vs, ds, h1, rfl, h4⟩ | ⟨vs, ds, h1, rfl, h4⟩
    · exact ⟨_, _, rfl, .inl (.inl (by rw [cut_no na]; exact h1)), h3, h4⟩
    · exact ⟨_, rfl, .inl ⟨_, .inl (by rw [cut_no na]; exact h1), h4⟩⟩
    · exact ⟨_, rfl, .inr ⟨_, .inl (by rw [cut_no na]; exact h1), h4⟩⟩
  · obtain ⟨v', h1, h2⟩ := R.shr i d e hi
    rw [ev] at h1; cases h1
    exact h2.el (cut_anti (hd_anti w))
end DI
set_option maxRecDepth 100000
/-! DI: the syntax with slots, and what it gives on data. -/
namespace DI
open PySem L2

/-- targets -/
inductive Pat where
  | v (i : Nat) | nil | cons (p r : Pat) | t (ps : Pat)
inductive Cop where
  | eq | ne | lt | le | gt | ge | is | isn | inn | nin
  deriving DecidableEq
inductive Bop where
  | add | sub | mul | fdiv | mod | pow
  deriving DecidableEq
/-- builtins of one argument -/
inductive P1 where
  | len | abs | int | str | repr | sum | min | max | sorted | list | tuple | all | any | dict | sset
  deriving DecidableEq
inductive P2 where
  | min | max | gcd | index | count | minD | get
  deriving DecidableEq
mutual
inductive CE where
  | var (i : Nat)
  | cst (d : D)
  | glb (x : Str) (d : D)
  | bin (o : Bop) (a b : CE)
  | neg (a : CE)
  | cmp (a : CE) (r : Cops)
  | andB (a b : CE) | orB (a b : CE) | one (a : CE)
  | notB (a : CE)
  | orV (a b : CE)
  | ite (c a b : CE)
  | tup (es : CEs) | lst (es : CEs)
  | lstS (es : CEs)
  | star (a : CE)
  | ix (a i : CE)
  | sl (a : CE) (lo hi : CE)
  | no
  | rev (a : CE)
  | p1 (p : P1) (a : CE)
  | p2 (p : P2) (a b : CE)
  | dsp (ks vs : CEs)
  | dix (a i : CE)
  | call (f : Nat) (es : CEs)
  | cals (f : Nat) (es : CEs)
  | lc (elt : CE) (p : Pat) (it : CI) (ifs : CEs) (vs : List Nat)
  | lc2 (elt : CE) (p : Pat) (it : CI) (ifs : CEs) (p1 : Pat) (it1 : CI) (ifs1 : CEs) (vs vs1 : List Nat)
  | sc2 (elt : CE) (p : Pat) (it : CI) (ifs : CEs) (p1 : Pat) (it1 : CI) (ifs1 : CEs) (vs vs1 : List Nat)
  | sc3 (elt : CE) (p : Pat) (it : CI) (ifs : CEs) (p1 : Pat) (it1 : CI) (ifs1 : CEs) (vs vs1 : List Nat)
inductive CEs where
  | nil | cons (e : CE) (r : CEs)
inductive Cops where
  | nil | cons (o : Cop) (e : CE) (r : Cops)
inductive CI where
  | ofl (a : CE) | rng1 (a : CE) | rng2 (a b : CE) | rng3 (a b c : CE) | enum (a : CE) | zip (a b : CE)
end
def CEs.length : CEs → Nat
  | .nil => 0
  | .cons _ r => r.length + 1

/-! ### operations on data -/
def isMut : D → Bool
  | .list _ => true
  | .dict _ => true
  | _ => false
/-- no list, dict or tuple -/
def scalar : D → Bool
  | .list _ => false
  | .dict _ => false
  | .tuple _ => false
  | _ => true
def small64 (i : Int) : Bool := decide (-(2 ^ 64) < i ∧ i < 2 ^ 64)
def addD : D → D → Option D
  | .int i, .int j => some (.int (i + j))
  | .list xs, .list ys => if xs.length + ys.length ≤ sizeLine then some (.list (xs ++ ys)) else none
  | .str x, .str y => if x.length + y.length ≤ sizeLine then some (.str (x ++ y)) else none
  | _, _ => none
def subD : D → D → Option D
  | .int i, .int j => some (.int (i - j))
  | _, _ => none
def mulD : D → D → Option D
  | .int i, .int j => if small64 i || small64 j then some (.int (i * j)) else none
  | .list xs, .int k => if -(2 ^ 63) ≤ k ∧ k < 2 ^ 63 ∧ xs.length * k.toNat ≤ sizeLine then some (.list (List.replicate k.toNat xs).flatten) else none
  | _, _ => none
/-- floor division and rest, by a positive number -/
def fdivD : D → D → Option D
  | .int i, .int j => if 0 < j ∧ j < 2 ^ 64 then some (.int (i / j)) else none
  | _, _ => none
def modD : D → D → Option D
  | .int i, .int j => if 0 < j then some (.int (i % j)) else none
  | _, _ => none
def powD : D → D → Option D
  | .int i, .int j => if 0 ≤ j ∧ j ≤ 1000000 ∧ i.natAbs < 2 ^ 64 then some (.int (i ^ j.toNat)) else none
  | _, _ => none
def binD : Bop → D → D → Option D
  | .add => addD | .sub => subD | .mul => mulD | .fdiv => fdivD | .mod => modD | .pow => powD
def negD : D → Option D
  | .int i => some (.int (-i))
  | _ => none
def okEq (a b : D) : Bool := SeqAt.shaped a && SeqAt.shaped b
def eqD (a b : D) : Option Bool := if okEq a b then some (PyData.eqv a b) else none
mutual
/-- no dict within -/
def nd : D → Bool
  | .list xs => ndAll xs
  | .tuple xs => ndAll xs
  | .dict _ => false
  | _ => true
def ndAll : List D → Bool
  | [] => true
  | x :: r => nd x && ndAll r
end
def okOrd (xs ys : List D) : Bool := PySem.W.alikeAll xs ys && decide (PyData.depthAll xs ≤ 60) && ndAll xs && ndAll ys
/-- an order: of whole numbers, of lists and tuples that are alike -/
def ordD (fi : Int → Int → Bool) (fd : D → D → Bool) : D → D → Option Bool
  | .int i, .int j => some (fi i j)
  | .list xs, .list ys => if okOrd xs ys then some (fd (.list xs) (.list ys)) else none
  | .tuple xs, .tuple ys => if okOrd xs ys then some (fd (.tuple xs) (.tuple ys)) else none
  | _, _ => none
def ltD : D → D → Option Bool := ordD (fun i j => decide (i < j)) fun a b => PySem.W.dataLt a b
def gtD : D → D → Option Bool := ordD (fun i j => decide (j < i)) fun a b => PySem.W.dataLt b a
def leD : D → D → Option Bool := ordD (fun i j => decide (i ≤ j)) fun a b => !PySem.W.dataLt b a
def geD : D → D → Option Bool := ordD (fun i j => decide (j ≤ i)) fun a b => !PySem.W.dataLt a b
def isD : D → D → Option Bool
  | a, .none => some (match a with | .none => true | _ => false)
  | .bool a, .bool b => some (decide (a = b))
  | _, _ => none
/-- the entry of a key -/
def lookD (kvs : List (D × D)) (k : D) : Option D := (kvs.find? fun kv => PyData.eqv kv.1 k).map (·.2)
def inD : D → D → Option Bool
  | x, .list xs => if okEq x (.list xs) then some (xs.any fun z => PyData.eqv z x) else none
  | x, .tuple xs => if okEq x (.tuple xs) then some (xs.any fun z => PyData.eqv z x) else none
  | _, _ => none
def cmpD : Cop → D → D → Option Bool
  | .eq, a, b => eqD a b
  | .ne, a, b => (eqD a b).map (!·)
  | .lt, a, b => ltD a b
  | .gt, a, b => gtD a b
  | .le, a, b => leD a b
  | .ge, a, b => geD a b
  | .is, a, b => isD a b
  | .isn, a, b => (isD a b).map (!·)
  | .inn, a, b => inD a b
  | .nin, a, b => (inD a b).map (!·)
def asB : D → Option Bool
  | .bool b => some b
  | _ => none
def asI : D → Option Int
  | .int i => some i
  | _ => none
def asIs : List D → Option (List Int)
  | [] => some []
  | .int i :: r => (asIs r).map (i :: ·)
  | _ :: _ => none
def asBs : List D → Option (List Bool)
  | [] => some []
  | .bool i :: r => (asBs r).map (i :: ·)
  | _ :: _ => none
/-- truth by value: None, tuples -/
def truthD : D → Option Bool
  | .none => some false
  | .bool b => some b
  | .int i => some (i != 0)
  | .list xs => some (!xs.isEmpty)
  | .tuple xs => some (!xs.isEmpty)
  | _ => none
def ixD : D → D → Option D
  | .list xs, .int i => atI xs i
  | .tuple xs, .int i => atI xs i
  | _, _ => none
def partD : Option D → Option (Option Int)
  | none => some none
  | some (.int i) => some (some i)
  | _ => none
def cutD (xs : List D) (lo hi : Option Int) : List D := (xs.drop (HT.sIx xs.length 0 lo)).take (HT.sIx xs.length xs.length hi - HT.sIx xs.length 0 lo)
def slD : D → Option Int → Option Int → Option D
  | .list xs, lo, hi => some (.list (cutD xs lo hi))
  | _, _, _ => none
def revD : D → Option D
  | .list xs => some (.list xs.reverse)
  | _ => none
/-- alike and not None, for sorting and least items -/
def alikes (xs : List D) : Bool := (xs.all fun x => xs.all fun y => PySem.W.alike x y) && (xs.all fun x => match x with | .none => false | _ => true) && decide (PyData.depthAll xs ≤ 60)
/-- all tuples that are not empty, or none -/
def oneKind (xs : List D) : Bool := (xs.all fun x => match x with | .tuple (_ :: _) => true | _ => false) || (xs.all fun x => match x with | .tuple _ => false | _ => true)
/-- keys of dicts -/
def keyOf : D → Option Key
  | .int i => some (.inl i)
  | .str x => some (.inr x)
  | _ => none
def keysOf : List D → Option (List Key)
  | [] => some []
  | d :: r => (keyOf d).bind fun k => (keysOf r).map (k :: ·)
def dspD (kds vds : List D) : Option D := (keysOf kds).bind fun ks => if ks.Nodup ∧ ks.length = vds.length ∧ ks.length ≤ 15 then some (.dict ((ks.map keyD).zip vds)) else none
def lookK (kvs : List (D × D)) (k : Key) : Option D := (kvs.find? fun kv => decide (keyOf kv.1 = some k)).map (·.2)
def dixD : D → D → Option D
  | .dict kvs, y => (keyOf y).bind (lookK kvs)
  | _, _ => none
/-- rising, each once -/
def sins (x : Int) : List Int → List Int
  | [] => [x]
  | y :: r => if x < y then x :: y :: r else if x = y then y :: r else y :: sins x r
def ssort (is : List Int) : List Int := is.foldr sins []
def p1D : P1 → D → Option D
  | .len, .list xs => some (.int xs.length)
  | .len, .tuple xs => some (.int xs.length)
  | .len, .dict xs => some (.int xs.length)
  | .abs, .int i => some (.int (if i < 0 then -i else i))
  | .int, .int i => some (.int i)
  | .int, .bool b => some (.int (if b then 1 else 0))
  | .sum, .list xs => (asIs xs).map fun is => .int is.sum
  | .sset, .list xs => (asIs xs).bind fun is => if is.length < 64 then some (.list ((ssort is).map .int)) else none
  | .all, .list xs => (asBs xs).map fun bs => .bool (bs.all id)
  | .any, .list xs => (asBs xs).map fun bs => .bool (bs.any id)
  | .min, .list (x :: xs) => if alikes (x :: xs) then some (PySem.W.minD x xs) else none
  | .max, .list (x :: xs) => if alikes (x :: xs) then some (PySem.W.maxD x xs) else none
  | .sorted, .list xs => if alikes xs && oneKind xs then some (.list (xs.mergeSort (PySem.W.dataLe false id))) else none
  | .repr, d => if nd d && d.showable && decide (d.depth ≤ 60) && decide (d.shown.length ≤ sizeLine) then some (.str d.shown) else none
  | .list, .list xs => some (.list xs)
  | .list, .tuple xs => some (.list xs)
  | _, _ => none
def asPs : List D → Option (List (Int × Int))
  | [] => some []
  | .tuple [.int x, .int y] :: r => (asPs r).map ((x, y) :: ·)
  | _ => none
def pcode (p : Int × Int) : Int := p.1 * 1000000 + p.2
def pok (p : Int × Int) : Bool := decide (0 ≤ p.1 ∧ p.1 < 1000000 ∧ 0 ≤ p.2 ∧ p.2 < 1000000)
def tsetD : D → Option D
  | .list xs => (asPs xs).bind fun ps => if ps.length < 64 ∧ ps.all pok = true then some (.list ((ssort (ps.map pcode)).map fun c => .tuple [.int (c / 1000000), .int (c % 1000000)])) else none
  | _ => none
/-- the first place of an item -/
def placeD (x : D) : Nat → List D → Option Nat
  | _, [] => none
  | i, y :: r => if PyData.eqv y x then some i else placeD x (i + 1) r
def okCount (x : D) (xs : List D) : Bool := PyData.plainAll xs && x.plain && decide (PyData.depthAll xs ≤ 60)
def p2D : P2 → D → D → Option D
  | .min, .int i, .int j => some (.int (if j < i then j else i))
  | .max, .int i, .int j => some (.int (if j > i then j else i))
  | .gcd, .int i, .int j => some (.int (Int.gcd i j))
  | .index, .list xs, y => if okEq y (.list xs) then (placeD y 0 xs).map fun (i : Nat) => .int (i : Int) else none
  | .minD, .list xs, .none => (match xs with | [] => some .none | x :: xs => if alikes (x :: xs) then some (PySem.W.minD x xs) else none)
  | .count, .list xs, y => if okCount y xs then some (.int (xs.countP fun z => PyData.eqv z y)) else none
  | _, _, _ => none
/-- what is walked -/
def listOf : D → Option (List D)
  | .list xs => some xs
  | .tuple xs => some xs
  | _ => none
def rngD (lo hi : Int) : Option (List D) := if -(2 ^ 62) ≤ lo ∧ lo < 2 ^ 62 ∧ -(2 ^ 62) ≤ hi ∧ hi < 2 ^ 62 ∧ (hi - lo).toNat ≤ sizeLine then some ((List.range (hi - lo).toNat).map fun i => .int (lo + (i : Nat))) else none
def rng3D (lo hi c : Int) : Option (List D) := if c ≠ 0 ∧ c.natAbs < 1073741824 ∧ Builtin.Range.small lo hi c = true ∧ 0 ≤ Builtin.Range.rangeSize lo hi c ∧ (Builtin.Range.rangeSize lo hi c).toNat ≤ sizeLine then
  some ((List.range (Builtin.Range.rangeSize lo hi c).toNat).map fun i => .int (lo + (i : Nat) * c)) else none
def enumD : Nat → List D → List D
  | _, [] => []
  | i, x :: r => .tuple [.int i, x] :: enumD (i + 1) r
def zipD : List D → List D → List D
  | x :: r, y :: s => .tuple [x, y] :: zipD r s
  | _, _ => []

/-! ### targets -/
/-- a slot stored -/
def Env.put (ρ : Env) (i : Nat) (d : D) : Env := ρ.set i (some d)
mutual
def bindP : Pat → D → Env → Option Env
  | .v i, d, ρ => if i < ρ.length then some (ρ.set i (some d)) else none
  | .t ps, .tuple ds, ρ => bindPs ps ds ρ
  | .t ps, .list ds, ρ => bindPs ps ds ρ
  | _, _, _ => none
def bindPs : Pat → List D → Env → Option Env
  | .nil, [], ρ => some ρ
  | .cons p r, d :: ds, ρ => (bindP p d ρ).bind fun ρ' => bindPs r ds ρ'
  | _, _, _ => none
end
def Pat.slots : Pat → List Nat
  | .v i => [i]
  | .nil => []
  | .cons p r => p.slots ++ r.slots
  | .t ps => ps.slots
def Pat.length : Pat → Nat
  | .cons _ r => r.length + 1
  | _ => 0
/-- slots forgotten -/
def wipeD (ρ : Env) : List Nat → Env
  | [] => ρ
  | v :: vs => (wipeD ρ vs).set v none
/-- a comprehension's items -/
def compL (f : D → Option (Option D)) : List D → Option (List D)
  | [] => some []
  | d :: r => (f d).bind fun o => (compL f r).map fun s => match o with | some x => x :: s | none => s
def compLL (f : D → Option (List D)) : List D → Option (List D)
  | [] => some []
  | d :: r => (f d).bind fun s => (compLL f r).map fun t => s ++ t

def isNo : CE → Bool
  | .no => true
  | _ => false
/-- a part of a slice -/
def partE (c : CE) (o : Option D) : Option (Option Int) := if isNo c then some none else o.bind fun x => (asI x).map some
/-! ### what an expression gives -/
variable (T : Nat → List D → Option D)
mutual
def ev : CE → Env → Option D
  | .var i, ρ => (ρ[i]?).join
  | .cst d, _ => some d
  | .glb _ d, _ => some d
  | .bin o a b, ρ => (ev a ρ).bind fun x => (ev b ρ).bind fun y => binD o x y
  | .neg a, ρ => (ev a ρ).bind negD
  | .cmp a r, ρ => (ev a ρ).bind fun x => (evc x r ρ).map .bool
  | .andB a b, ρ => (ev a ρ).bind fun x => (asB x).bind fun c => if c then (ev b ρ).bind fun y => (asB y).map .bool else some (.bool false)
  | .orB a b, ρ => (ev a ρ).bind fun x => (asB x).bind fun c => if c then some (.bool true) else (ev b ρ).bind fun y => (asB y).map .bool
  | .one a, ρ => ev a ρ
  | .notB a, ρ => (ev a ρ).bind fun x => (asB x).map fun c => .bool (!c)
  | .orV a b, ρ => (ev a ρ).bind fun x => (truthD x).bind fun c => if c then some x else ev b ρ
  | .ite c a b, ρ => (ev c ρ).bind fun x => (asB x).bind fun c => if c then ev a ρ else ev b ρ
  | .tup es, ρ => (evs es ρ).map .tuple
  | .lst es, ρ => (evs es ρ).map .list
  | .lstS es, ρ => (evS es ρ).bind fun ds => if ds.length ≤ sizeLine then some (.list ds) else none
  | .star _, _ => none
  | .ix a i, ρ => (ev a ρ).bind fun x => (ev i ρ).bind fun y => ixD x y
  | .sl a lo hi, ρ => (ev a ρ).bind fun x => (partE lo (ev lo ρ)).bind fun l => (partE hi (ev hi ρ)).bind fun h => slD x l h
  | .no, _ => none
  | .rev a, ρ => (ev a ρ).bind revD
  | .p1 p a, ρ => (ev a ρ).bind (p1D p)
  | .p2 p a b, ρ => (ev a ρ).bind fun x => (ev b ρ).bind fun y => p2D p x y
  | .dsp ks vs, ρ => (evs ks ρ).bind fun kds => (evs vs ρ).bind fun vds => dspD kds vds
  | .dix a i, ρ => (ev a ρ).bind fun x => (ev i ρ).bind fun y => dixD x y
  | .call f es, ρ => (evs es ρ).bind (T f)
  | .cals f es, ρ => (evs es ρ).bind fun ds => (T f ds).bind fun d => if scalar d then some d else none
  | .lc elt p it ifs vs, ρ => (evi it ρ).bind fun ds => (compL (fun d => (bindP p d (wipeD ρ vs)).bind fun ρ' => (evt ifs ρ').bind fun c => if c then (ev elt ρ').map some else some none) ds).map .list
  | .lc2 elt p it ifs p1 it1 ifs1 vs vs1, ρ => (evi it ρ).bind fun ds => ((compLL (fun d => (bindP p d (wipeD ρ vs)).bind fun ρ' => (evt ifs ρ').bind fun c => if c then
      (evi it1 ρ').bind fun es => compL (fun d => (bindP p1 d (wipeD ρ' vs1)).bind fun ρ'' => (evt ifs1 ρ'').bind fun c => if c then (ev elt ρ'').map some else some none) es else some []) ds).bind fun out => if out.length ≤ sizeLine then some out else none).map .list
  | .sc2 elt p it ifs p1 it1 ifs1 vs vs1, ρ => ((evi it ρ).bind fun ds => ((compLL (fun d => (bindP p d (wipeD ρ vs)).bind fun ρ' => (evt ifs ρ').bind fun c => if c then
      (evi it1 ρ').bind fun es => compL (fun d => (bindP p1 d (wipeD ρ' vs1)).bind fun ρ'' => (evt ifs1 ρ'').bind fun c => if c then (ev elt ρ'').map some else some none) es else some []) ds).bind fun out => if out.length ≤ sizeLine then some out else none).map .list).bind (p1D .sset)
  | .sc3 elt p it ifs p1 it1 ifs1 vs vs1, ρ => ((evi it ρ).bind fun ds => ((compLL (fun d => (bindP p d (wipeD ρ vs)).bind fun ρ' => (evt ifs ρ').bind fun c => if c then
      (evi it1 ρ').bind fun es => compL (fun d => (bindP p1 d (wipeD ρ' vs1)).bind fun ρ'' => (evt ifs1 ρ'').bind fun c => if c then (ev elt ρ'').map some else some none) es else some []) ds).bind fun out => if out.length ≤ sizeLine then some out else none).map .list).bind tsetD
def evs : CEs → Env → Option (List D)
  | .nil, _ => some []
  | .cons e r, ρ => (ev e ρ).bind fun x => (evs r ρ).map (x :: ·)
/-- items of a display, with stars -/
def evS : CEs → Env → Option (List D)
  | .nil, _ => some []
  | .cons (.star a) r, ρ => (ev a ρ).bind fun x => (listOf x).bind fun xs => (evS r ρ).map (xs ++ ·)
  | .cons e r, ρ => (ev e ρ).bind fun x => (evS r ρ).map (x :: ·)
/-- comparisons from the left -/
def evc : D → Cops → Env → Option Bool
  | _, .nil, _ => some true
  | x, .cons o e r, ρ => (ev e ρ).bind fun y => (cmpD o x y).bind fun c => if c then evc y r ρ else some false
/-- a clause's tests -/
def evt : CEs → Env → Option Bool
  | .nil, _ => some true
  | .cons e r, ρ => (ev e ρ).bind fun x => (asB x).bind fun c => if c then evt r ρ else some false
def evi : CI → Env → Option (List D)
  | .ofl a, ρ => (ev a ρ).bind listOf
  | .rng1 a, ρ => (ev a ρ).bind fun x => (asI x).bind fun j => rngD 0 j
  | .rng2 a b, ρ => (ev a ρ).bind fun x => (ev b ρ).bind fun y => (asI x).bind fun i => (asI y).bind fun j => rngD i j
  | .rng3 a b c, ρ => (ev a ρ).bind fun x => (ev b ρ).bind fun y => (ev c ρ).bind fun z => (asI x).bind fun i => (asI y).bind fun j => (asI z).bind fun k => rng3D i j k
  | .enum a, ρ => (ev a ρ).bind fun x => (listOf x).map (enumD 0)
  | .zip a b, ρ => (ev a ρ).bind fun x => (ev b ρ).bind fun y => match x, y with | .list xs, .list ys => some (zipD xs ys) | _, _ => none
end

def evo (c : CE) (ρ : Env) : Option (Option Int) := partE c (ev T c ρ)
/-! ### which slots a value may be the root of -/
mutual
def al : CE → List Nat
  | .var i => [i]
  | .cst _ => [] | .glb _ _ => [] | .no => []
  | .bin _ a b => ale a ++ ale b
  | .neg _ => [] | .cmp _ _ => [] | .andB _ _ => [] | .orB _ _ => [] | .notB _ => []
  | .one a => al a
  | .orV a b => al a ++ al b
  | .ite _ a b => al a ++ al b
  | .tup es => als es | .lst es => als es | .lstS es => als es
  | .star a => ale a
  | .ix a _ => ale a
  | .sl a _ _ => ale a
  | .rev a => ale a
  | .p1 p a => match p with | .min => ale a | .max => ale a | .sorted => ale a | .list => ale a | .tuple => al a | .dict => ale a | _ => []
  | .p2 p a b => match p with | .minD => ale a ++ al b | .get => ale a ++ al b | .min => [] | .max => [] | .gcd => [] | .index => [] | .count => []
  | .dsp _ vs => als vs
  | .dix a _ => ale a
  | .call _ es => als es
  | .cals _ _ => []
  | .lc e _ it _ _ => al e ++ alie it
  | .lc2 e _ it _ _ it1 _ _ _ => al e ++ (alie it ++ alie it1)
  | .sc2 _ _ _ _ _ _ _ _ _ => []
  | .sc3 _ _ _ _ _ _ _ _ _ => []
def als : CEs → List Nat
  | .nil => []
  | .cons e r => al e ++ als r
def ale : CE → List Nat
  | .var _ => []
  | .cst _ => [] | .glb _ _ => [] | .no => []
  | .bin _ a b => ale a ++ ale b
  | .neg _ => [] | .cmp _ _ => [] | .andB _ _ => [] | .orB _ _ => [] | .notB _ => []
  | .one a => ale a
  | .orV a b => ale a ++ ale b
  | .ite _ a b => ale a ++ ale b
  | .tup es => als es | .lst es => als es | .lstS es => als es
  | .star a => ale a
  | .ix a _ => ale a
  | .sl a _ _ => ale a
  | .rev a => ale a
  | .p1 p a => match p with | .min => ale a | .max => ale a | .sorted => ale a | .list => ale a | .tuple => al a | .dict => ale a | _ => []
  | .p2 p a b => match p with | .minD => ale a ++ al b | .get => ale a ++ al b | .min => [] | .max => [] | .gcd => [] | .index => [] | .count => []
  | .dsp _ vs => als vs
  | .dix a _ => ale a
  | .call _ es => als es
  | .cals _ _ => []
  | .lc e _ it _ _ => al e ++ alie it
  | .lc2 e _ it _ _ it1 _ _ _ => al e ++ (alie it ++ alie it1)
  | .sc2 _ _ _ _ _ _ _ _ _ => []
  | .sc3 _ _ _ _ _ _ _ _ _ => []
def alie : CI → List Nat
  | .ofl a => ale a | .rng1 _ => [] | .rng2 _ _ => [] | .rng3 _ _ _ => [] | .enum a => ale a | .zip a b => ale a ++ ale b
end
def ali : CI → List Nat
  | .ofl a => al a | .rng1 _ => [] | .rng2 _ _ => [] | .rng3 _ _ _ => [] | .enum a => al a | .zip a b => al a ++ al b
/-- a new list or dict each time -/
def fresh : CE → Bool
  | .bin .add _ _ => true | .bin .mul _ _ => true
  | .lst _ => true | .lstS _ => true
  | .sl _ _ _ => true | .rev _ => true
  | .p1 .sset _ => true | .p1 .sorted _ => true | .p1 .list _ => true | .p1 .dict _ => true
  | .lc _ _ _ _ _ => true | .lc2 _ _ _ _ _ _ _ _ _ => true | .sc2 _ _ _ _ _ _ _ _ _ => true | .sc3 _ _ _ _ _ _ _ _ _ => true
  | _ => false
end DI
set_option maxRecDepth 100000
set_option maxHeartbeats 1000000
/-! DI: expressions keep their word. -/
namespace DI
open PySem L2

theorem PE.imp {X : Cx} {e : Expr} {t t' : TE} (h : PE X e t) (w : ∀ σ H Q, t' σ H Q → t σ H Q) : PE X e t' := ⟨fun pins s σ H Q I q => h.run pins s σ H Q I (w σ H Q q)⟩
theorem PT.imp {X : Cx} {e : Expr} {t t' : TT} (h : PT X e t) (w : ∀ σ H Q, t' σ H Q → t σ H Q) : PT X e t' := ⟨fun pins s σ H Q I q => h.run pins s σ H Q I (w σ H Q q)⟩
theorem PW.imp {X : Cx} {e : Expr} {t t' : TT} (h : PW X e t) (w : ∀ σ H Q, t' σ H Q → t σ H Q) : PW X e t' := ⟨fun wh pins s σ H Q I q => h.run wh pins s σ H Q I (w σ H Q q)⟩
theorem PA.imp {X : Cx} {e : List Expr} {t t' : TA} (h : PA X e t) (w : ∀ σ H Q, t' σ H Q → t σ H Q) : PA X e t' := ⟨fun pos pins s σ H Q I q => h.run pos pins s σ H Q I (w σ H Q q)⟩
theorem PI.imp {X : Cx} {tg e : Expr} {t t' : TI} (h : PI X tg e t) (w : ∀ σ H Q, t' σ H Q → t σ H Q) : PI X tg e t' := ⟨fun pins s σ H Q I q => h.run pins s σ H Q I (w σ H Q q)⟩
theorem PG.imp {X : Cx} {e : Expr} {t t' : TG} (h : PG X e t) (w : ∀ v σ H Q, t' v σ H Q → t v σ H Q) : PG X e t' := ⟨fun pins s σ H v u Q I r q => h.run pins s σ H v u Q I r (w v σ H Q q)⟩

theorem Is.sc {K : PySem.W.Frag} {H H' : Hp} {v : V} {d : D} (h : Is K H v d) (s : scalar d = true) : Is K H' v d := by
  cases h with
  | non => exact .non
  | bl b => exact .bl b
  | int i => exact .int i
  | str x => exact .str x
  | lst _ _ _ => cases s
  | tup _ _ _ => cases s
  | dcK _ _ => cases s
  | dcT _ _ => cases s
theorem El.sc {K : PySem.W.Frag} {Hc H : Hp} {v : V} {d : D} (s : scalar d = true) : El K Hc H v d := by
  cases d <;> first | exact True.intro | (simp [scalar] at s)

/-- what an expression's value is known to be -/
structure Res (K : PySem.W.Frag) (hide : Addr → Prop) (own : List Nat) (σ : St) (H H' : Hp) (c : CE) (v : V) (d : D) : Prop where
  is : Is K (cut (hd hide (diff own (al c)) σ) H') v d
  el : El K (cut (hd hide (diff own (ale c)) σ) H') (cut (hd hide (diff own (al c)) σ) H') v d
  fr : fresh c = true → isMut d = true → ∃ a, v = .ref a ∧ H a = none ∧ OwnIs K (cut (fun b => hd hide (diff own (ale c)) σ b ∨ b = a) H') (H' a) d
section
variable {K : PySem.W.Frag} {hide : Addr → Prop} {own A B C : List Nat} {σ : St} {ρ : Env} {H H1 H2 H3 : Hp} {c : CE} {v : V} {d : D}
theorem diff_sub (w : ∀ i ∈ A, i ∈ C) : ∀ i ∈ diff own C, i ∈ diff own A := fun i hi => by
  obtain ⟨h1, h2⟩ := mem_diff.mp hi
  exact mem_diff.mpr ⟨h1, fun z => h2 (w i z)⟩
theorem hmono (w : ∀ i ∈ A, i ∈ C) (s : Same H1 H2) : Same (cut (hd hide (diff own A) σ) H1) (cut (hd hide (diff own C) σ) H2) :=
  (cut_anti (hd_anti (diff_sub w))).trans (cut_same s)
theorem Res.elH (r : Res K hide own σ H H2 c v d) : El K (cut (hd hide (diff own (ale c)) σ) H2) H2 v d := r.el.mono (Same.refl _) cut_le
theorem Res.of_is (ha : ale c = al c) (hf : fresh c = false) (h : Is K (cut (hd hide (diff own (al c)) σ) H2) v d) : Res K hide own σ H H2 c v d :=
  ⟨h, by rw [ha]; exact h.el (Same.refl _), fun z => by rw [hf] at z; cases z⟩
theorem Res.scal (s : scalar d = true) (h : Is K H3 v d) : Res K hide own σ H H2 c v d :=
  ⟨h.sc s, El.sc s, fun _ z => by cases d <;> simp [scalar, isMut] at s z⟩
theorem ER.nroot (R : ER K hide own H σ ρ) {p : Addr} (n : H p = none) (w : ∀ i ∈ A, i ∈ own) : ¬ hd hide A σ p := fun z => by
  rcases z with z | ⟨i, hi, e⟩
  · exact R.hid p z n
  · obtain ⟨a, d, h1, h2, h3, h4⟩ := R.ow i (w i hi)
    rw [e] at h2; cases h2
    obtain ⟨u, hu⟩ := h4.some
    rw [n] at hu; cases hu
theorem diff_own : ∀ i ∈ diff own C, i ∈ own := fun i hi => (mem_diff.mp hi).1
/-- a new list -/
theorem Res.newl {xs : List V} {ds : List D} {p : Addr} (ha : ale c = al c) (R : ER K hide own H2 σ ρ) (s : Same H H2) (np : H2 p = none) (n : xs.length ≤ sizeLine) (r : IsAll K (cut (hd hide (diff own (al c)) σ) H2) xs ds) :
    Res K hide own σ H (upd H2 p (.lst xs)) c (.ref p) (.list ds) := by
  have s2 : Same H2 (upd H2 p (.lst xs)) := same_upd_new np
  have nr : ¬ hd hide (diff own (al c)) σ p := R.nroot np diff_own
  have i : Is K (cut (hd hide (diff own (al c)) σ) (upd H2 p (.lst xs))) (.ref p) (.list ds) := .lst (.inl (.inl (by rw [cut_no nr, upd_same]))) n (r.mono (cut_same s2))
  refine ⟨i, by rw [ha]; exact i.el (Same.refl _), fun _ _ => ⟨p, rfl, s.free np, .inl ⟨xs, ds, upd_same, rfl, n, ?_⟩⟩⟩
  rw [ha]
  exact r.mono (cut_same2 s2 fun b z => z.elim .inl fun e => .inr (by rw [e]; exact np))
/-- a new tuple -/
theorem Res.newt {xs : List V} {ds : List D} {p : Addr} (ha : ale c = al c) (hf : fresh c = false) (R : ER K hide own H2 σ ρ) (np : H2 p = none) (n : xs.length ≤ sizeLine) (r : IsAll K (cut (hd hide (diff own (al c)) σ) H2) xs ds) :
    Res K hide own σ H (upd H2 p (.tup xs)) c (.ref p) (.tuple ds) := by
  have s2 : Same H2 (upd H2 p (.tup xs)) := same_upd_new np
  have nr : ¬ hd hide (diff own (al c)) σ p := R.nroot np diff_own
  exact .of_is ha hf (.tup (.inl (.inl (by rw [cut_no nr, upd_same]))) n (r.mono (cut_same s2)))
end

/-! ### the canonical readings -/
section
variable (K : PySem.W.Frag) (T : Nat → List D → Option D) (M : List Nat)
def tE (c : CE) : TE := fun σ H Q => ∃ hide own ρ d, ER K hide own H σ ρ ∧ (∀ i ∈ own, i ∈ M) ∧ ev T c ρ = some d ∧ ∀ v H', Same H H' → Res K hide own σ H H' c v d → Q v H'
def tQ (c : CE) : TT := fun σ H Q => ∃ hide own ρ b, ER K hide own H σ ρ ∧ (∀ i ∈ own, i ∈ M) ∧ ev T c ρ = some (.bool b) ∧ ∀ H', Same H H' → Q b H'
def tA (cs : CEs) : TA := fun σ H Q => ∃ hide own ρ ds, ER K hide own H σ ρ ∧ (∀ i ∈ own, i ∈ M) ∧ evs T cs ρ = some ds ∧ ∀ vs H', Same H H' → IsAll K (cut (hd hide (diff own (als cs)) σ) H') vs ds → Q vs H'
def tAS (cs : CEs) : TA := fun σ H Q => ∃ hide own ρ ds, ER K hide own H σ ρ ∧ (∀ i ∈ own, i ∈ M) ∧ evS T cs ρ = some ds ∧ ∀ vs H', Same H H' → IsAll K (cut (hd hide (diff own (als cs)) σ) H') vs ds → Q vs H'
end
section
variable {X : Cx} {T : Nat → List D → Option D} {M : List Nat} {e a b : Expr} {ca cb c : CE} {pos : Pos}
abbrev SE (X : Cx) (T : Nat → List D → Option D) (M : List Nat) (e : Expr) (c : CE) : Prop := PE X e (tE X.K T M c)
abbrev SQ (X : Cx) (T : Nat → List D → Option D) (M : List Nat) (e : Expr) (c : CE) : Prop := PT X e (tQ X.K T M c)
theorem Option.bind_some_iff' {α β : Type} {o : Option α} {f : α → Option β} {b : β} : o.bind f = some b ↔ ∃ a, o = some a ∧ f a = some b := by
  cases o <;> simp
theorem bnd {α β : Type} {o : Option α} {f : α → Option β} {b : β} (h : o.bind f = some b) : ∃ a, o = some a ∧ f a = some b := Option.bind_some_iff'.mp h
theorem mpd {α β : Type} {o : Option α} {f : α → β} {b : β} (h : o.map f = some b) : ∃ a, o = some a ∧ f a = b := by
  cases o with
  | none => cases h
  | some a => exact ⟨a, rfl, Option.some.inj h⟩

theorem se_var {i : Nat} {x : Str} (hN : X.N[i]? = some x) (hv : Vis X.env.scope x) (h1 : (x == ("__debug__" : Str)) = false) (h2 : (x == ("__classdict__" : Str)) = false) : SE X T M (.Name x pos) (.var i) := by
  refine PE.imp (pe_var hN hv h1 h2) fun σ H Q ⟨hide, own, ρ, d, R, m, e, k⟩ => ?_
  have e' : ρ[i]? = some (some d) := by
    simp only [ev] at e
    cases q : ρ[i]? with
    | none => rw [q] at e; cases e
    | some o => rw [q] at e; exact congrArg some e
  obtain ⟨v, h1, h2⟩ := R.val (own' := diff own [i]) e' diff_own (fun z => (mem_diff.mp z).2 (List.mem_singleton.mpr rfl))
  refine ⟨v, h1, k v H (Same.refl H) ⟨h2, ?_, fun z => by cases z⟩⟩
  have q := R.elv (own' := diff own [i]) e' h1 diff_own (fun z => (mem_diff.mp z).2 (List.mem_singleton.mpr rfl))
  have : diff own (ale (.var i)) = own := by simp [ale, diff]
  rw [this]; exact q
theorem se_cst {j : Nat} {k : Const} {d : D} (h : PE X (.Constant k j pos) (tC v)) (hi : ∀ H, Is X.K H v d) (hs : scalar d = true) : SE X T M (.Constant k j pos) (.cst d) :=
  PE.imp h fun σ H Q ⟨hide, own, ρ, d', R, m, e, k⟩ => by
    simp only [ev, Option.some.injEq] at e
    subst e
    exact k v H (Same.refl H) (.scal hs (hi H))
theorem se_glb {x : Str} {d : D} {v : V} {u : Value} (hg : Gl X x) (hm : X.mg x = some u) (r : RelV v u) (h : (x == ("__debug__" : Str)) = false) (hi : Is X.K (fun _ => none) v d) : SE X T M (.Name x pos) (.glb x d) :=
  PE.imp (pe_glob hg hm r h) fun σ H Q ⟨hide, own, ρ, d', R, m, e, k⟩ => by
    simp only [ev, Option.some.injEq] at e
    subst e
    exact k v H (Same.refl H) (.of_is rfl rfl (hi.mono fun b o z => by cases z))
/-- two operands -/
theorem se_bin2 {op : Operator} {o : Bop} {r : R2} (ho : OpR X (binaryOp op) r) (ha : SE X T M a ca) (hb : SE X T M b cb)
    (h : ∀ hide own σ ρ x y d H H1 H2 Q vx vy, ER X.K hide own H2 σ ρ → Same H H1 → Same H1 H2 → Res X.K hide own σ H H1 ca vx x → Res X.K hide own σ H1 H2 cb vy y → binD o x y = some d → (∀ v H', Same H H' → Res X.K hide own σ H H' (.bin o ca cb) v d → Q v H') → r vx vy H2 Q) :
    SE X T M (.BinOp a op b pos) (.bin o ca cb) :=
  PE.imp (pe_op ho ha hb) fun σ H Q ⟨hide, own, ρ, d, R, m, e, k⟩ => by
    obtain ⟨x, ex, e⟩ := bnd (show (ev T ca ρ).bind (fun x => (ev T cb ρ).bind fun y => binD o x y) = some d by simpa only [ev] using e)
    obtain ⟨y, ey, e⟩ := bnd e
    exact ⟨hide, own, ρ, x, R, m, ex, fun vx H1 s1 r1 => ⟨hide, own, ρ, y, R.grow s1, m, ey, fun vy H2 s2 r2 => h hide own σ ρ x y d H H1 H2 Q vx vy (R.grow (s1.trans s2)) s1 s2 r1 r2 e k⟩⟩
end
end DI
set_option maxRecDepth 100000
set_option maxHeartbeats 1000000
/-! DI: operators on data. -/
namespace DI
open PySem L2
section
variable {X : Cx} {T : Nat → List D → Option D} {M : List Nat} {e a b : Expr} {ca cb c : CE} {pos : Pos}

mutual
theorem Is.dp {K : PySem.W.Frag} {H : Hp} : ∀ {d : D} {v : V}, d.canLay0 = true → Is K H v d → Dp K H v d
  | _, _, _, .non => .non
  | _, _, _, .bl b => .bl b
  | _, _, _, .int i => .int i
  | _, _, _, .str x => .str x
  | _, _, z, .lst h _ r => .lst h (IsAll.dp (by simpa only [PyData.canLay0] using z) r)
  | _, _, z, .tup h _ r => .tup h (IsAll.dp (by simpa only [PyData.canLay0] using z) r)
  | _, _, z, .dcK _ _ => by simp [PyData.canLay0] at z
  | _, _, z, .dcT _ _ => by simp [PyData.canLay0] at z
theorem IsAll.dp {K : PySem.W.Frag} {H : Hp} : ∀ {ds : List D} {vs : List V}, PyData.canLayAll0 ds = true → IsAll K H vs ds → DpAll K H vs ds
  | _, _, _, .nil => .nil
  | _, _, z, .cons h r => by
    simp only [PyData.canLayAll0, Bool.and_eq_true] at z
    exact .cons (Is.dp z.1 h) (IsAll.dp z.2 r)
end
mutual
/-- what stands for data reads as it -/
theorem Is.reads {pins : List (Addr × Obj)} {σ : L2.St} {H Hc : Hp} {s : Shared} (I : Inv X pins σ H s) (sm : Same Hc H) : ∀ {d : D} {v : V} {u : Value}, nd d = true → Is X.K Hc v d → RelV v u → ∃ as, Reads s.heap u d as
  | _, _, _, _, .non, r => by cases r; exact ⟨_, .none⟩
  | _, _, _, _, .bl b, r => by cases r; exact ⟨_, .bool b⟩
  | _, _, _, _, .int i, r => by obtain ⟨t, rfl⟩ := r; exact ⟨_, .int i t⟩
  | _, _, _, _, .str x, r => by obtain ⟨t, rfl⟩ := r; exact ⟨_, .str x t⟩
  | _, _, _, z, .lst h n q, r => by
    cases r
    obtain ⟨its, rv, ⟨o, n, e, hc, hd, dd⟩, _⟩ := I.list (sm.seq h)
    obtain ⟨as, ra⟩ := IsAll.reads I sm (by simpa only [nd] using z) q rv
    exact ⟨_, .list e hc dd (by simpa using ra)⟩
  | _, _, _, z, .tup h n q, r => by
    cases r
    obtain ⟨its, rv, ⟨o, e, hc, n, dd⟩, _⟩ := I.tuple (SqT.mono sm h)
    obtain ⟨as, ra⟩ := IsAll.reads I sm (by simpa only [nd] using z) q rv
    exact ⟨_, .tuple e hc dd (by simpa using ra)⟩
  | _, _, _, z, .dcK _ _, _ => by simp [nd] at z
  | _, _, _, z, .dcT _ _, _ => by simp [nd] at z
theorem IsAll.reads {pins : List (Addr × Obj)} {σ : L2.St} {H Hc : Hp} {s : Shared} (I : Inv X pins σ H s) (sm : Same Hc H) : ∀ {ds : List D} {vs : List V} {us : List Value}, ndAll ds = true → IsAll X.K Hc vs ds → Vals vs us → ∃ as, ReadsAll s.heap us ds as
  | _, _, _, _, .nil, r => by cases r; exact ⟨_, .nil⟩
  | _, _, _, z, .cons h q, r => by
    cases r with
    | cons r1 r2 =>
      simp only [ndAll, Bool.and_eq_true] at z
      obtain ⟨as, ra⟩ := Is.reads I sm z.1 h r1
      obtain ⟨bs, rb⟩ := IsAll.reads I sm z.2 q r2
      exact ⟨_, .cons ra rb⟩
end
theorem nd_list {xs : List D} : nd (.list xs) = ndAll xs := by simp only [nd]
theorem nd_tuple {xs : List D} : nd (.tuple xs) = ndAll xs := by simp only [nd]

/-! ### comparisons -/
def Cop.op : Cop → CmpOp
  | .eq => .Eq | .ne => .NotEq | .lt => .Lt | .le => .LtE | .gt => .Gt | .ge => .GtE | .is => .Is | .isn => .IsNot | .inn => .In | .nin => .NotIn
/-- by values: both stand for data -/
def rCmp (K : PySem.W.Frag) (o : Cop) : R2 := fun x y H Q => ∃ Hx dx dy c, Same Hx H ∧ Is K Hx x dx ∧ Is K H y dy ∧ cmpD o dx dy = some c ∧ Q (.bl c) H
theorem ordD_cases {fi : Int → Int → Bool} {fd : D → D → Bool} {dx dy : D} {c : Bool} (h : ordD fi fd dx dy = some c) :
    (∃ i j, dx = .int i ∧ dy = .int j ∧ c = fi i j) ∨ (PySem.W.alike dx dy = true ∧ dx ≠ .none ∧ dx.depth ≤ 61 ∧ nd dx = true ∧ nd dy = true ∧ c = fd dx dy) := by
  have cond : ∀ {xs ys : List D}, okOrd xs ys = true → PySem.W.alikeAll xs ys = true ∧ PyData.depthAll xs ≤ 60 ∧ ndAll xs = true ∧ ndAll ys = true := fun {xs ys} z => by
    simp only [okOrd, Bool.and_eq_true, decide_eq_true_eq] at z
    exact ⟨z.1.1.1, z.1.1.2, z.1.2, z.2⟩
  cases dx with
  | int i =>
    cases dy with
    | int j => simp only [ordD, Option.some.injEq] at h; exact .inl ⟨i, j, rfl, rfl, h.symm⟩
    | _ => simp [ordD] at h
  | list xs =>
    cases dy with
    | list ys =>
      simp only [ordD] at h
      split at h
      · rename_i z
        obtain ⟨z1, z2, z3, z4⟩ := cond z
        cases h
        exact .inr ⟨by simpa only [PySem.W.alike] using z1, by simp, by simp only [PyData.depth]; omega, by rw [nd_list]; exact z3, by rw [nd_list]; exact z4, rfl⟩
      · cases h
    | _ => simp [ordD] at h
  | tuple xs =>
    cases dy with
    | tuple ys =>
      simp only [ordD] at h
      split at h
      · rename_i z
        obtain ⟨z1, z2, z3, z4⟩ := cond z
        cases h
        exact .inr ⟨by simpa only [PySem.W.alike] using z1, by simp, by simp only [PyData.depth]; omega, by rw [nd_tuple]; exact z3, by rw [nd_tuple]; exact z4, rfl⟩
      · cases h
    | _ => simp [ordD] at h
  | _ => simp [ordD] at h
theorem op_ord {op : CmpOp} {fi : Int → Int → Bool} {fd : D → D → Bool} (hu : X.A.units + 64 < cLine)
    (hi : ∀ (i j : Int) (t u : Tok) (Q E : Value → Shared → Prop) (s : Shared), Q (.bool (fi i j)) s → wpAny (model X.prog X.w) X.A (compareOp op (.int i t) (.int j u)) Q E s)
    (hd : ∀ {E : Value → Shared → Prop} {s : Shared} {a b : Value} {da db : PyData} {as bs : List Addr} {Q : Value → Shared → Prop}, Reads s.heap a da as → Reads s.heap b db bs → PySem.W.alike da db = true → da ≠ .none → X.A.units + min da.depth db.depth < cLine →
      Q (.bool (fd da db)) s → wpAny (model X.prog X.w) X.A (compareOp op a b) Q E s) :
    OpR X (compareOp op) (fun x y H Q => ∃ Hx dx dy c, Same Hx H ∧ Is X.K Hx x dx ∧ Is X.K H y dy ∧ ordD fi fd dx dy = some c ∧ Q (.bl c) H) := by
  intro pins s σ H x y v u Q I rx ry ⟨Hx, dx, dy, c, sm, ix, iy, hc, q⟩
  rcases ordD_cases hc with ⟨i, j, rfl, rfl, rfl⟩ | ⟨h1, h2, h3, h4, h5, rfl⟩
  · cases ix; cases iy
    obtain ⟨t, rfl⟩ := rx
    obtain ⟨t', rfl⟩ := ry
    exact hi i j t t' _ _ s ⟨.bl _, H, I, rfl, q⟩
  · obtain ⟨as, ra⟩ := Is.reads I sm h4 ix rx
    obtain ⟨bs, rb⟩ := Is.reads I (Same.refl H) h5 iy ry
    exact hd ra rb h1 h2 (by have := Nat.min_le_left dx.depth dy.depth; omega) ⟨.bl _, H, I, rfl, q⟩
theorem okEq_dp {K : PySem.W.Frag} {H Hx : Hp} {x y : V} {dx dy : D} (sm : Same Hx H) (ix : Is K Hx x dx) (iy : Is K H y dy) (h : okEq dx dy = true) : Dp K H x dx ∧ Dp K H y dy ∧ SeqAt.shaped dx = true ∧ SeqAt.shaped dy = true := by
  simp only [okEq, Bool.and_eq_true] at h
  exact ⟨Is.dp (SeqAt.canLay_of_shaped h.1) (ix.mono sm), Is.dp (SeqAt.canLay_of_shaped h.2) iy, h.1, h.2⟩
theorem tupIn {pins : List (Addr × Obj)} {σ : L2.St} {H : Hp} {s : Shared} {u v : Value} {xs : List D} {d : D} {as bs : List Addr} {Q : VK} (I : Inv X pins σ H s) (ra : Reads s.heap v d as) (rb : Reads s.heap u (.tuple xs) bs) (hd : SeqAt.shaped d = true) (hs : SeqAt.shaped (.tuple xs) = true)
    (hu : X.A.units + 65 < cLine) (q : Q (.bl (xs.any fun z => PyData.eqv z d)) H) : wpAny (model X.prog X.w) X.A (compareOp .In v u) (EP X pins σ Q) X.xe s := by
  have h1 := SeqAt.depth_of_shaped hs
  simp only [PyData.depth] at h1
  exact SeqAt.in_tuple_reads rb ra (by simpa only [PyData.canLay0] using SeqAt.canLay_of_shaped hs) (SeqAt.canLay_of_shaped hd) (by have := Nat.min_le_left (PyData.depthAll xs) d.depth; omega) ⟨.bl _, H, I, rfl, q⟩
theorem tupNin {pins : List (Addr × Obj)} {σ : L2.St} {H : Hp} {s : Shared} {u v : Value} {xs : List D} {d : D} {as bs : List Addr} {Q : VK} (I : Inv X pins σ H s) (ra : Reads s.heap v d as) (rb : Reads s.heap u (.tuple xs) bs) (hd : SeqAt.shaped d = true) (hs : SeqAt.shaped (.tuple xs) = true)
    (hu : X.A.units + 65 < cLine) (q : Q (.bl (!xs.any fun z => PyData.eqv z d)) H) : wpAny (model X.prog X.w) X.A (compareOp .NotIn v u) (EP X pins σ Q) X.xe s := by
  have h1 := SeqAt.depth_of_shaped hs
  simp only [PyData.depth] at h1
  exact SeqAt.notIn_tuple_reads rb ra (by simpa only [PyData.canLay0] using SeqAt.canLay_of_shaped hs) (SeqAt.canLay_of_shaped hd) (by have := Nat.min_le_left (PyData.depthAll xs) d.depth; omega) ⟨.bl _, H, I, rfl, q⟩
theorem op_cmp (hu : X.A.units + 70 < cLine) : ∀ o : Cop, OpR X (compareOp o.op) (rCmp X.K o)
  | .eq => by
    intro pins s σ H x y v u Q I rx ry ⟨Hx, dx, dy, c, sm, ix, iy, hc, q⟩
    simp only [cmpD, eqD] at hc
    split at hc
    · rename_i z
      cases hc
      obtain ⟨p1, p2, p3, p4⟩ := okEq_dp sm ix iy z
      exact op_eqD (X := X) (by omega) pins s σ H x y v u Q I rx ry ⟨dx, dy, p1, p2, p3, p4, q⟩
    · cases hc
  | .ne => by
    intro pins s σ H x y v u Q I rx ry ⟨Hx, dx, dy, c, sm, ix, iy, hc, q⟩
    simp only [cmpD, eqD] at hc
    split at hc
    · rename_i z
      cases hc
      obtain ⟨p1, p2, p3, p4⟩ := okEq_dp sm ix iy z
      exact op_neD (X := X) (by omega) pins s σ H x y v u Q I rx ry ⟨dx, dy, p1, p2, p3, p4, q⟩
    · cases hc
  | .lt => op_ord (by omega) (fun i j t u Q E s h => PyProof.Rows.lt_int h) PySem.W.lt_data
  | .gt => op_ord (by omega) (fun i j t u Q E s h => PyProof.Rows.gt_int h) PySem.W.gt_data
  | .le => op_ord (by omega) (fun i j t u Q E s h => PyProof.Rows.le_int h) PySem.W.le_data
  | .ge => op_ord (by omega) (fun i j t u Q E s h => PyProof.Rows.ge_int h) PySem.W.ge_data
  | .is => by
    intro pins s σ H x y v u Q I rx ry ⟨Hx, dx, dy, c, sm, ix, iy, hc, q⟩
    simp only [cmpD] at hc
    cases dy with
    | none =>
      cases iy
      have hx : c = decide (x = .non) := by cases ix <;> simp [isD] at hc <;> simp [← hc]
      subst hx
      exact op_isN pins s σ H x .non v u Q I rx ry ⟨rfl, q⟩
    | bool b =>
      cases dx with
      | bool a =>
        simp only [isD, Option.some.injEq] at hc
        cases ix; cases iy
        exact op_is_bl pins s σ H _ _ v u Q I rx ry ⟨a, b, rfl, rfl, by rw [hc]; exact q⟩
      | _ => simp [isD] at hc
    | _ => simp [isD] at hc
  | .isn => by
    intro pins s σ H x y v u Q I rx ry ⟨Hx, dx, dy, c, sm, ix, iy, hc, q⟩
    simp only [cmpD] at hc
    obtain ⟨c', hc', e⟩ := mpd hc
    subst e
    clear hc
    have hc := hc'
    clear hc'
    cases dy with
    | none =>
      cases iy
      have hx : c' = decide (x = .non) := by cases ix <;> simp [isD] at hc <;> simp [← hc]
      subst hx
      exact op_notN pins s σ H x .non v u Q I rx ry ⟨rfl, q⟩
    | bool b =>
      cases dx with
      | bool a =>
        simp only [isD, Option.some.injEq] at hc
        cases ix; cases iy
        exact op_isnot_bl pins s σ H _ _ v u Q I rx ry ⟨a, b, rfl, rfl, by rw [hc]; exact q⟩
      | _ => simp [isD] at hc
    | _ => simp [isD] at hc
  | .inn => by
    intro pins s σ H x y v u Q I rx ry ⟨Hx, dx, dy, c, sm, ix, iy, hc, q⟩
    simp only [cmpD] at hc
    cases dy with
    | list xs =>
      simp only [inD] at hc
      split at hc
      · rename_i z
        cases hc
        obtain ⟨p1, p2, p3, p4⟩ := okEq_dp sm ix iy z
        exact op_inD (X := X) (by omega) pins s σ H x y v u Q I rx ry ⟨dx, xs, p1, p2, p3, p4, q⟩
      · cases hc
    | tuple xs =>
      simp only [inD] at hc
      split at hc
      · rename_i z
        cases hc
        obtain ⟨p1, p2, p3, p4⟩ := okEq_dp sm ix iy z
        obtain ⟨as, ra⟩ := Dp.reads I _ _ _ p1 rx
        obtain ⟨bs, rb⟩ := Dp.reads I _ _ _ p2 ry
        exact tupIn I ra rb p3 p4 (by omega) q
      · cases hc
    | _ => simp [inD] at hc
  | .nin => by
    intro pins s σ H x y v u Q I rx ry ⟨Hx, dx, dy, c, sm, ix, iy, hc, q⟩
    simp only [cmpD] at hc
    obtain ⟨c', hc', e⟩ := mpd hc
    subst e
    clear hc
    have hc := hc'
    clear hc'
    cases dy with
    | list xs =>
      simp only [inD] at hc
      split at hc
      · rename_i z
        cases hc
        obtain ⟨p1, p2, p3, p4⟩ := okEq_dp sm ix iy z
        exact op_notInD (X := X) (by omega) pins s σ H x y v u Q I rx ry ⟨dx, xs, p1, p2, p3, p4, q⟩
      · cases hc
    | tuple xs =>
      simp only [inD] at hc
      split at hc
      · rename_i z
        cases hc
        obtain ⟨p1, p2, p3, p4⟩ := okEq_dp sm ix iy z
        obtain ⟨as, ra⟩ := Dp.reads I _ _ _ p1 rx
        obtain ⟨bs, rb⟩ := Dp.reads I _ _ _ p2 ry
        exact tupNin I ra rb p3 p4 (by omega) q
      · cases hc
    | _ => simp [inD] at hc
end
end DI
set_option maxRecDepth 100000
set_option maxHeartbeats 1000000
/-! DI: expressions: operators, tests, displays, items, slices. -/
namespace DI
open PySem L2
section
variable {X : Cx} {T : Nat → List D → Option D} {M : List Nat} {e a b : Expr} {ca cb cc c : CE} {pos : Pos}

/-! ### + - * // % ** and - -/
theorem Inv.obj {pins : List (Addr × Obj)} {σ : L2.St} {H : Hp} {s : Shared} {a : Addr} {xs : List V} (I : Inv X pins σ H s) (h : SqL X.K H a xs) : ∃ (its : List Value) (n : Nat) (dd : Option Addr) (sl : Array (Option Value)), Vals xs its ∧ xs.length ≤ sizeLine ∧ s.heap.get? a = some { cls := .type "list", dict := dd, data := .seq its.toArray n, slots := sl } := by
  obtain ⟨its, rv, ⟨⟨cls, dd, data, sl⟩, n, e, hc, hd, hda⟩, hz⟩ := I.list h
  simp only at hc hd hda
  subst hc hd hda
  exact ⟨its, n, _, sl, rv, hz, e⟩
/-- xs + ys, any lists -/
theorem op_catL : OpR X (binaryOp .Add) (fun x y H Q => ∃ l b xs zs, x = .ref l ∧ y = .ref b ∧ SqL X.K H l xs ∧ SqL X.K H b zs ∧ xs.length + zs.length ≤ sizeLine ∧ ∀ p, H p = none → Q (.ref p) (upd H p (.lst (xs ++ zs)))) := by
  intro pins s σ H x y v u Q I rx ry h
  obtain ⟨l, b, xs, zs, rfl, rfl, hH, hB, hz, q⟩ := h
  cases rx
  cases ry
  obtain ⟨its, n, dd, sl, r, hl, e⟩ := Inv.obj I hH
  obtain ⟨its2, n2, dd2, sl2, r2, hl2, e2⟩ := Inv.obj I hB
  have hs : its.toArray.size + its2.toArray.size ≤ sizeLine := by rw [List.size_toArray, List.size_toArray, ← r.length, ← r2.length]; exact hz
  refine concat_meets ⟨_, e, rfl⟩ ⟨_, e2, rfl⟩ noFill_list_add seq_list_add PySem.F.slot_list_add PySem.F.entry_list_add (PySem.F.args_list_add_2 _ _) (PyProof.Rows.list_addW l b its.toArray its2.toArray n n2 dd dd2 sl sl2 hs) ⟨e, e2, ?_⟩
  have ea : its.toArray ++ its2.toArray = (its ++ its2).toArray := by simp
  rw [ea]
  exact ⟨.ref _, _, I.lnew (t' := s.toks) (r.append r2) (by rw [List.length_append]; exact hz), rfl, q _ I.fresh⟩
/-- xs * k -/
theorem op_repL : OpR X (binaryOp .Mult) (fun x y H Q => ∃ l k xs, x = .ref l ∧ y = .int k ∧ SqL X.K H l xs ∧ -(2 ^ 63) ≤ k ∧ k < 2 ^ 63 ∧ xs.length * k.toNat ≤ sizeLine ∧ ∀ p, H p = none → Q (.ref p) (upd H p (.lst (List.replicate k.toNat xs).flatten))) := by
  intro pins s σ H x y v u Q I rx ry h
  obtain ⟨l, k, xs, rfl, rfl, hH, h1, h2, hz, q⟩ := h
  cases rx
  obtain ⟨t, rfl⟩ := ry
  obtain ⟨its, n, dd, sl, r, hl, e⟩ := Inv.obj I hH
  have hs : its.toArray.size * k.toNat ≤ 2 ^ 24 := by rw [List.size_toArray, ← r.length]; exact hz
  refine wpAny_binaryOp_repeat_ref (T := "list") (U := "int") (by decide) ⟨_, e, rfl⟩ (fun s' => typeIs_int s' k t) noFill_list_mul PySem.F.fills_int_mul PySem.F.slot_int_rmul repeat_list PySem.F.slot_int_index.lookup
    (call_meets PySem.F.slot_int_rmul (typeIs_int s k t) PySem.F.entry_int_rmul (PySem.F.args_int_rmul_2 _ _) (lm_int_rmul_list_any k t l its.toArray n dd sl)
      ⟨e, rfl, ⟨_, e, rfl⟩, call_meets PySem.F.slot_list_mul ⟨_, e, rfl⟩ PySem.F.entry_list_mul (PySem.F.args_list_mul_2 _ _)
        (lm_list_mul_any l its.toArray n dd sl k t (by simp [Builtin.List.listFitsIndex]; omega) (by omega) (by simp [Builtin.List.listTooLong, sizeLine]; simp at hs; omega))
        ⟨e, ?_⟩⟩)
  rw [PyProof.Rows.listMul_foldl_if]
  exact ⟨.ref _, _, I.lnew (t' := s.toks) (r.rep k.toNat) (by rw [PyProof.Rows.lm_len_rep_flat, Nat.mul_comm]; exact hz), rfl, q _ I.fresh⟩

/-! ### two operands -/
theorem se_add (ha : SE X T M a ca) (hb : SE X T M b cb) : SE X T M (.BinOp a .Add b pos) (.bin .add ca cb) := by
  refine se_bin2 (op_add.or (op_add_str.or op_catL)) ha hb fun hide own σ ρ x y d H H1 H2 Q vx vy R s1 s2 r1 r2 e k => ?_
  simp only [binD] at e
  have i1 := r1.is; have i2 := r2.is
  cases x with
  | int i =>
    cases y with
    | int j =>
      simp only [addD, Option.some.injEq] at e; subst e
      cases i1; cases i2
      exact .inl ⟨i, j, rfl, rfl, k _ _ (s1.trans s2) (.scal rfl (.int (i + j) (K := X.K) (H := H2)))⟩
    | _ => simp [addD] at e
  | str i =>
    cases y with
    | str j =>
      simp only [addD] at e
      split at e
      · cases e
        cases i1; cases i2
        exact .inr (.inl ⟨i, j, rfl, rfl, by assumption, k _ _ (s1.trans s2) (.scal rfl (.str (i ++ j) (K := X.K) (H := H2)))⟩)
      · cases e
    | _ => simp [addD] at e
  | list xs =>
    cases y with
    | list ys =>
      simp only [addD] at e
      split at e
      · rename_i hz
        cases e
        obtain ⟨p, vs, rfl, h1, n1, q1⟩ := r1.elH
        obtain ⟨p2, ws, rfl, h2, n2, q2⟩ := r2.elH
        rw [← q1.length, ← q2.length] at hz
        refine .inr (.inr ⟨p, p2, vs, ws, rfl, rfl, s2.seq h1, h2, hz, fun q np => ?_⟩)
        refine k _ _ ((s1.trans s2).trans (same_upd_new np)) (Res.newl (by simp [al, ale]) R (s1.trans s2) np (by rw [List.length_append]; exact hz) ?_)
        exact (q1.mono (hmono (by simp [al]; exact fun i h => .inl h) s2)).append (q2.mono (hmono (by simp [al]; exact fun i h => .inr h) (Same.refl _)))
      · cases e
    | _ => simp [addD] at e
  | _ => simp [addD] at e
theorem se_sub (ha : SE X T M a ca) (hb : SE X T M b cb) : SE X T M (.BinOp a .Sub b pos) (.bin .sub ca cb) := by
  refine se_bin2 op_sub ha hb fun hide own σ ρ x y d H H1 H2 Q vx vy R s1 s2 r1 r2 e k => ?_
  simp only [binD] at e
  have i1 := r1.is; have i2 := r2.is
  cases x with
  | int i =>
    cases y with
    | int j =>
      simp only [subD, Option.some.injEq] at e; subst e
      cases i1; cases i2
      exact ⟨i, j, rfl, rfl, k _ _ (s1.trans s2) (.scal rfl (.int (i - j) (K := X.K) (H := H2)))⟩
    | _ => simp [subD] at e
  | _ => simp [subD] at e
theorem small64_iff {i : Int} (h : small64 i = true) : -(2 ^ 64) < i ∧ i < 2 ^ 64 := of_decide_eq_true h
theorem se_mul (ha : SE X T M a ca) (hb : SE X T M b cb) : SE X T M (.BinOp a .Mult b pos) (.bin .mul ca cb) := by
  refine se_bin2 (op_mul.or op_repL) ha hb fun hide own σ ρ x y d H H1 H2 Q vx vy R s1 s2 r1 r2 e k => ?_
  simp only [binD] at e
  have i1 := r1.is; have i2 := r2.is
  cases x with
  | int i =>
    cases y with
    | int j =>
      simp only [mulD] at e
      split at e
      · rename_i hz
        cases e
        cases i1; cases i2
        have hc : CMul i j := by
          rcases Bool.or_eq_true _ _ ▸ hz with z | z
          · exact .inl (small64_iff z)
          · exact .inr (small64_iff z)
        exact .inl ⟨i, j, rfl, rfl, hc, k _ _ (s1.trans s2) (.scal rfl (.int (i * j) (K := X.K) (H := H2)))⟩
      · cases e
    | _ => simp [mulD] at e
  | list xs =>
    cases y with
    | int j =>
      simp only [mulD] at e
      split at e
      · rename_i hz
        cases e
        cases i2
        obtain ⟨p, vs, rfl, h1, n1, q1⟩ := r1.elH
        obtain ⟨z1, z2, z3⟩ := hz
        rw [← q1.length] at z3
        refine .inr ⟨p, j, vs, rfl, rfl, s2.seq h1, z1, z2, z3, fun q np => ?_⟩
        refine k _ _ ((s1.trans s2).trans (same_upd_new np)) (Res.newl (by simp [al, ale]) R (s1.trans s2) np (by rw [PyProof.Rows.lm_len_rep_flat, Nat.mul_comm]; exact z3) ?_)
        exact (q1.mono (hmono (by simp [al]; exact fun i h => .inl h) s2)).flat _
      · cases e
    | _ => simp [mulD] at e
  | _ => simp [mulD] at e
theorem se_fdiv (ha : SE X T M a ca) (hb : SE X T M b cb) : SE X T M (.BinOp a .FloorDiv b pos) (.bin .fdiv ca cb) := by
  refine se_bin2 op_fdivW ha hb fun hide own σ ρ x y d H H1 H2 Q vx vy R s1 s2 r1 r2 e k => ?_
  simp only [binD] at e
  have i1 := r1.is; have i2 := r2.is
  cases x with
  | int i =>
    cases y with
    | int j =>
      simp only [fdivD] at e
      split at e
      · rename_i hz
        cases e
        cases i1; cases i2
        exact ⟨i, j, rfl, rfl, wide_div (b := 64) hz.1 (by omega) (by decide) (by decide), k _ _ (s1.trans s2) (.scal rfl (.int (i / j) (K := X.K) (H := H2)))⟩
      · cases e
    | _ => simp [fdivD] at e
  | _ => simp [fdivD] at e
theorem se_mod (ha : SE X T M a ca) (hb : SE X T M b cb) : SE X T M (.BinOp a .Mod b pos) (.bin .mod ca cb) := by
  refine se_bin2 op_mod ha hb fun hide own σ ρ x y d H H1 H2 Q vx vy R s1 s2 r1 r2 e k => ?_
  simp only [binD] at e
  have i1 := r1.is; have i2 := r2.is
  cases x with
  | int i =>
    cases y with
    | int j =>
      simp only [modD] at e
      split at e
      · rename_i hz
        cases e
        cases i1; cases i2
        exact ⟨i, j, rfl, rfl, hz, k _ _ (s1.trans s2) (.scal rfl (.int (i % j) (K := X.K) (H := H2)))⟩
      · cases e
    | _ => simp [modD] at e
  | _ => simp [modD] at e
theorem se_pow (ha : SE X T M a ca) (hb : SE X T M b cb) : SE X T M (.BinOp a .Pow b pos) (.bin .pow ca cb) := by
  refine se_bin2 op_pow ha hb fun hide own σ ρ x y d H H1 H2 Q vx vy R s1 s2 r1 r2 e k => ?_
  simp only [binD] at e
  have i1 := r1.is; have i2 := r2.is
  cases x with
  | int i =>
    cases y with
    | int j =>
      simp only [powD] at e
      split at e
      · rename_i hz
        cases e
        cases i1; cases i2
        exact ⟨i, j, rfl, rfl, hz, k _ _ (s1.trans s2) (.scal rfl (.int (i ^ j.toNat) (K := X.K) (H := H2)))⟩
      · cases e
    | _ => simp [powD] at e
  | _ => simp [powD] at e
theorem se_neg (ha : SE X T M a ca) : SE X T M (.UnaryOp .USub a pos) (.neg ca) :=
  PE.imp (pe_un un_neg ha) fun σ H Q ⟨hide, own, ρ, d, R, m, e, k⟩ => by
    obtain ⟨x, ex, e⟩ := bnd (show (ev T ca ρ).bind negD = some d by simpa only [ev] using e)
    refine ⟨hide, own, ρ, x, R, m, ex, fun v H1 s1 r1 => ?_⟩
    have i1 := r1.is
    cases x with
    | int i =>
      simp only [negD, Option.some.injEq] at e; subst e
      cases i1
      exact ⟨i, rfl, k _ _ s1 (.scal rfl (.int (-i) (K := X.K) (H := H1)))⟩
    | _ => simp [negD] at e

/-! ### ways -/
theorem Res.sub {K : PySem.W.Frag} {hide : Addr → Prop} {own : List Nat} {σ : L2.St} {H H' H1 : Hp} {v : V} {d : D} (r : Res K hide own σ H1 H' ca v d) (h1 : ∀ i ∈ al ca, i ∈ al c) (h2 : ∀ i ∈ ale ca, i ∈ ale c) (hf : fresh c = false) : Res K hide own σ H H' c v d :=
  ⟨r.is.mono (hmono h1 (Same.refl _)), r.el.mono (hmono h2 (Same.refl _)) (hmono h1 (Same.refl _)), fun z => by rw [hf] at z; cases z⟩
theorem asB_some {x : D} {c : Bool} (h : asB x = some c) : x = .bool c := by
  cases x <;> simp [asB] at h <;> rw [h]
theorem asI_some {x : D} {c : Int} (h : asI x = some c) : x = .int c := by
  cases x <;> simp [asI] at h <;> rw [h]
theorem se_one {op : BoolOp} (ha : SE X T M a ca) : SE X T M (.BoolOp op [a] pos) (.one ca) :=
  PE.imp (pe_one ha) fun σ H Q ⟨hide, own, ρ, d, R, m, e, k⟩ => ⟨hide, own, ρ, d, R, m, by simpa only [ev] using e, fun v H1 s1 r1 => k v H1 s1 (r1.sub (by simp [al]) (by simp [ale]) rfl)⟩
theorem se_and {rest : List Expr} (ha : SE X T M a ca) (hb : SE X T M (.BoolOp .And (b :: rest) pos) cb) : SE X T M (.BoolOp .And (a :: b :: rest) pos) (.andB ca cb) :=
  PE.imp (pe_and ha hb) fun σ H Q ⟨hide, own, ρ, d, R, m, e, k⟩ => by
    simp only [ev] at e
    obtain ⟨x, ex, e1⟩ := bnd e
    clear e
    obtain ⟨c, ec, e⟩ := bnd e1
    clear e1
    have := asB_some ec; subst this
    refine ⟨hide, own, ρ, _, R, m, ex, fun v H1 s1 r1 => ?_⟩
    have i1 := r1.is
    cases i1
    refine ⟨c, rfl, ?_⟩
    cases c with
    | true =>
      rw [if_pos rfl] at e
      obtain ⟨y, ey, e⟩ := bnd e
      obtain ⟨c2, ec2, rfl⟩ := mpd e
      have := asB_some ec2; subst this
      exact ⟨hide, own, ρ, _, R.grow s1, m, ey, fun v H2 s2 r2 => k v H2 (s1.trans s2) (.scal rfl r2.is)⟩
    | false => cases e; exact k _ _ s1 (.scal rfl (.bl false (K := X.K) (H := H1)))
theorem se_or {rest : List Expr} (ha : SE X T M a ca) (hb : SE X T M (.BoolOp .Or (b :: rest) pos) cb) : SE X T M (.BoolOp .Or (a :: b :: rest) pos) (.orB ca cb) :=
  PE.imp (pe_or ha hb) fun σ H Q ⟨hide, own, ρ, d, R, m, e, k⟩ => by
    simp only [ev] at e
    obtain ⟨x, ex, e1⟩ := bnd e
    clear e
    obtain ⟨c, ec, e⟩ := bnd e1
    clear e1
    have := asB_some ec; subst this
    refine ⟨hide, own, ρ, _, R, m, ex, fun v H1 s1 r1 => ?_⟩
    have i1 := r1.is
    cases i1
    refine ⟨c, rfl, ?_⟩
    cases c with
    | false =>
      rw [if_neg Bool.false_ne_true] at e
      obtain ⟨y, ey, e⟩ := bnd e
      obtain ⟨c2, ec2, rfl⟩ := mpd e
      have := asB_some ec2; subst this
      exact ⟨hide, own, ρ, _, R.grow s1, m, ey, fun v H2 s2 r2 => k v H2 (s1.trans s2) (.scal rfl r2.is)⟩
    | true => cases e; exact k _ _ s1 (.scal rfl (.bl true (K := X.K) (H := H1)))
theorem se_not (ha : SE X T M a ca) : SE X T M (.UnaryOp .Not a pos) (.notB ca) :=
  PE.imp (pe_not ha) fun σ H Q ⟨hide, own, ρ, d, R, m, e, k⟩ => by
    simp only [ev] at e
    obtain ⟨x, ex, e⟩ := bnd e
    obtain ⟨c, ec, rfl⟩ := mpd e
    have := asB_some ec; subst this
    refine ⟨hide, own, ρ, _, R, m, ex, fun v H1 s1 r1 => ?_⟩
    have i1 := r1.is
    cases i1
    exact ⟨c, rfl, k _ _ s1 (.scal rfl (.bl (!c) (K := X.K) (H := H1)))⟩
theorem truth_ok {K : PySem.W.Frag} {Hc H : Hp} {x : D} {v : V} {c : Bool} (h : truthD x = some c) (i : Is K Hc v x) (el : El K Hc H v x) : TruV K v H c := by
  cases i with
  | non => simp [truthD] at h; exact h
  | bl b => simp [truthD] at h; exact h.symm
  | int i => simp [truthD] at h; exact h.symm
  | str x => simp [truthD] at h
  | lst _ _ _ =>
    obtain ⟨p, vs, e, h1, n1, q1⟩ := el
    cases e
    simp only [truthD, Option.some.injEq] at h
    refine .inl ⟨vs, h1, ?_⟩
    rw [← h]
    have := q1.length
    cases vs <;> cases q1 <;> rfl
  | tup _ _ _ =>
    obtain ⟨p, vs, e, h1, n1, q1⟩ := el
    cases e
    simp only [truthD, Option.some.injEq] at h
    refine .inr (.inl ⟨vs, h1, ?_⟩)
    rw [← h]
    cases vs <;> cases q1 <;> rfl
  | dcK _ _ => simp [truthD] at h
  | dcT _ _ => simp [truthD] at h
theorem El.wide {K : PySem.W.Frag} {Hc Hd H : Hp} {v : V} {d : D} (s : Same Hc Hd) (h : El K Hc H v d) : El K Hd H v d := h.mono s (Same.refl H)
theorem se_orV {rest : List Expr} (ha : SE X T M a ca) (hb : SE X T M (.BoolOp .Or (b :: rest) pos) cb) : SE X T M (.BoolOp .Or (a :: b :: rest) pos) (.orV ca cb) :=
  PE.imp (pe_orT ha hb) fun σ H Q ⟨hide, own, ρ, d, R, m, e, k⟩ => by
    simp only [ev] at e
    obtain ⟨x, ex, e1⟩ := bnd e
    clear e
    obtain ⟨c, ec, e⟩ := bnd e1
    clear e1
    refine ⟨hide, own, ρ, _, R, m, ex, fun v H1 s1 r1 => ⟨c, truth_ok ec (r1.is.mono cut_le) (r1.elH.wide cut_le), ?_⟩⟩
    cases c with
    | true => cases e; exact k _ _ s1 (r1.sub (by simp [al]; exact fun i h => .inl h) (by simp [ale]; exact fun i h => .inl h) rfl)
    | false => exact ⟨hide, own, ρ, _, R.grow s1, m, e, fun v H2 s2 r2 => k v H2 (s1.trans s2) (r2.sub (by simp [al]; exact fun i h => .inr h) (by simp [ale]; exact fun i h => .inr h) rfl)⟩
theorem se_ite {ec : Expr} (hc : SQ X T M ec cc) (ha : SE X T M a ca) (hb : SE X T M b cb) : SE X T M (.IfExp ec a b pos) (.ite cc ca cb) :=
  PE.imp (pe_ifExp hc ha hb) fun σ H Q ⟨hide, own, ρ, d, R, m, e, k⟩ => by
    simp only [ev] at e
    obtain ⟨x, ex, e1⟩ := bnd e
    clear e
    obtain ⟨c, ec, e⟩ := bnd e1
    clear e1
    have := asB_some ec; subst this
    refine ⟨hide, own, ρ, c, R, m, ex, fun H1 s1 => ?_⟩
    cases c with
    | true => exact ⟨hide, own, ρ, d, R.grow s1, m, by simpa using e, fun v H2 s2 r2 => k v H2 (s1.trans s2) (r2.sub (by simp [al]; exact fun i h => .inl h) (by simp [ale]; exact fun i h => .inl h) rfl)⟩
    | false => exact ⟨hide, own, ρ, d, R.grow s1, m, by simpa using e, fun v H2 s2 r2 => k v H2 (s1.trans s2) (r2.sub (by simp [al]; exact fun i h => .inr h) (by simp [ale]; exact fun i h => .inr h) rfl)⟩
/-! ### tests -/
theorem sq_val (h : SE X T M e c) (he : ∀ whole, isTrue e X.env whole = (do let v ← whole; standAt e.pos; holding [v] (truthy v))) : SQ X T M e c :=
  PT.imp (pt_val h he) fun σ H Q ⟨hide, own, ρ, b, R, m, e, k⟩ => ⟨hide, own, ρ, _, R, m, e, fun v H1 s1 r1 => by
    have i1 := r1.is
    cases i1
    exact ⟨b, rfl, k H1 s1⟩⟩
theorem sq_not (ha : SQ X T M a ca) : SQ X T M (.UnaryOp .Not a pos) (.notB ca) :=
  PT.imp (pt_not ha) fun σ H Q ⟨hide, own, ρ, b, R, m, e, k⟩ => by
    simp only [ev] at e
    obtain ⟨x, ex, e⟩ := bnd e
    obtain ⟨c, ec, e2⟩ := mpd e
    cases e2
    have := asB_some ec; subst this
    exact ⟨hide, own, ρ, _, R, m, ex, fun H1 s1 => k H1 s1⟩
abbrev SW (X : Cx) (T : Nat → List D → Option D) (M : List Nat) (e : Expr) (c : CE) : Prop := PW X e (tQ X.K T M c)
theorem sw_oneA (ha : SQ X T M a ca) : SW X T M (.BoolOp .And [a] pos) (.one ca) := PW.imp (pw_and1 ha) fun σ H Q ⟨hide, own, ρ, b, R, m, e, k⟩ => ⟨hide, own, ρ, b, R, m, by simpa only [ev] using e, k⟩
theorem sw_oneO (ha : SQ X T M a ca) : SW X T M (.BoolOp .Or [a] pos) (.one ca) := PW.imp (pw_or1 ha) fun σ H Q ⟨hide, own, ρ, b, R, m, e, k⟩ => ⟨hide, own, ρ, b, R, m, by simpa only [ev] using e, k⟩
theorem sw_and {rest : List Expr} (ha : SQ X T M a ca) (hb : SW X T M (.BoolOp .And (b :: rest) pos) cb) : SW X T M (.BoolOp .And (a :: b :: rest) pos) (.andB ca cb) :=
  PW.imp (pw_and ha hb) fun σ H Q ⟨hide, own, ρ, d, R, m, e, k⟩ => by
    simp only [ev] at e
    obtain ⟨x, ex, e1⟩ := bnd e
    clear e
    obtain ⟨c, ec, e⟩ := bnd e1
    clear e1
    have := asB_some ec; subst this
    refine ⟨hide, own, ρ, c, R, m, ex, fun H1 s1 => ?_⟩
    cases c with
    | true =>
      rw [if_pos rfl] at e
      obtain ⟨y, ey, e⟩ := bnd e
      obtain ⟨c2, ec2, e3⟩ := mpd e
      cases e3
      have := asB_some ec2; subst this
      exact ⟨hide, own, ρ, _, R.grow s1, m, ey, fun H2 s2 => k H2 (s1.trans s2)⟩
    | false => cases e; exact k _ s1
theorem sw_or {rest : List Expr} (ha : SQ X T M a ca) (hb : SW X T M (.BoolOp .Or (b :: rest) pos) cb) : SW X T M (.BoolOp .Or (a :: b :: rest) pos) (.orB ca cb) :=
  PW.imp (pw_or ha hb) fun σ H Q ⟨hide, own, ρ, d, R, m, e, k⟩ => by
    simp only [ev] at e
    obtain ⟨x, ex, e1⟩ := bnd e
    clear e
    obtain ⟨c, ec, e⟩ := bnd e1
    clear e1
    have := asB_some ec; subst this
    refine ⟨hide, own, ρ, c, R, m, ex, fun H1 s1 => ?_⟩
    cases c with
    | false =>
      rw [if_neg Bool.false_ne_true] at e
      obtain ⟨y, ey, e⟩ := bnd e
      obtain ⟨c2, ec2, e3⟩ := mpd e
      cases e3
      have := asB_some ec2; subst this
      exact ⟨hide, own, ρ, _, R.grow s1, m, ey, fun H2 s2 => k H2 (s1.trans s2)⟩
    | true => cases e; exact k _ s1
end
end DI
set_option maxRecDepth 100000
set_option maxHeartbeats 1000000
/-! DI: comparisons from the left, displays, items, slices. -/
namespace DI
open PySem L2
section
variable {X : Cx} {T : Nat → List D → Option D} {M : List Nat} {e a b : Expr} {ca cb cc c : CE} {pos : Pos}

/-! ### comparisons -/
inductive SC (X : Cx) (T : Nat → List D → Option D) (M : List Nat) : Cops → List CmpOp → List Expr → Prop where
  | one {o : Cop} {e : Expr} {c : CE} : SE X T M e c → behindInMarks o.op e = false → SC X T M (.cons o c .nil) [o.op] [e]
  | more {o : Cop} {e : Expr} {c : CE} {r : Cops} {ops : List CmpOp} {es : List Expr} : SE X T M e c → SC X T M r ops es → SC X T M (.cons o c r) (o.op :: ops) (e :: es)
theorem SC.ne {r : Cops} {ops : List CmpOp} {es : List Expr} (h : SC X T M r ops es) : ∃ op ops' e es', ops = op :: ops' ∧ es = e :: es' := by
  cases h with
  | one _ _ => exact ⟨_, _, _, _, rfl, rfl⟩
  | more _ _ => exact ⟨_, _, _, _, rfl, rfl⟩
theorem SC.marks : ∀ {r : Cops} {ops : List CmpOp} {es : List Expr}, SC X T M r ops es → lastMarks ops es = false
  | _, _, _, .one _ h => by simpa only [lastMarks] using h
  | _, _, _, .more h t => by
    obtain ⟨op, ops', e, es', rfl, rfl⟩ := t.ne
    have q := SC.marks t
    simpa only [lastMarks] using q
theorem chain_ok (hu : X.A.units + 70 < cLine) : ∀ {r : Cops} {ops : List CmpOp} {es : List Expr}, SC X T M r ops es → ∀ (pos : Pos) (pins : List (Addr × Obj)) (s : Shared) (σ : L2.St) (H Hx : Hp) (hide : Addr → Prop) (own : List Nat) (ρ : Env) (x : V) (v : Value) (dx : D) (b : Bool) (Q : VK),
    Inv X pins σ H s → ER X.K hide own H σ ρ → (∀ i ∈ own, i ∈ M) → Same Hx H → Is X.K Hx x dx → RelV x v → evc T dx r ρ = some b → (∀ H', Same H H' → Q (.bl b) H') →
    wpAny (model X.prog X.w) X.A (compareChain pos v ops (evalEach es X.env)) (EP X pins σ Q) X.xe s
  | _, _, _, .one (o := o) (e := e) (c := c) hs _, pos, pins, s, σ, H, Hx, hide, own, ρ, x, v, dx, b, Q, I, R, m, sm, ix, rx, he, k => by
    simp only [evc] at he
    obtain ⟨y, ey, e1⟩ := bnd he
    obtain ⟨c2, ec, e2⟩ := bnd e1
    have eb : c2 = b := by cases c2 <;> simpa using e2
    subst eb
    refine PyProof.Rows.chain_last (thn (hs.run pins s σ H (fun w H1 => rCmp X.K o x w H1 Q) I ⟨hide, own, ρ, y, R, m, ey, fun w H1 s1 r1 => ⟨Hx, dx, y, c2, sm.trans s1, ix, r1.is.mono cut_le, ec, k H1 s1⟩⟩) fun u s1 ⟨w, H1, I1, rw', q1⟩ => ?_)
    exact op_cmp hu o pins s1 σ H1 x w v u Q I1 rx rw' q1
  | _, _, _, .more (o := o) (e := e) (c := c) (r := r) hs ht, pos, pins, s, σ, H, Hx, hide, own, ρ, x, v, dx, b, Q, I, R, m, sm, ix, rx, he, k => by
    obtain ⟨op', ops', e', es', rfl, rfl⟩ := ht.ne
    simp only [evc] at he
    obtain ⟨y, ey, e1⟩ := bnd he
    obtain ⟨c2, ec, e2⟩ := bnd e1
    refine PyProof.Rows.chain_link (thn (hs.run pins s σ H (fun w H1 => Same H H1 ∧ Is X.K H1 w y) I ⟨hide, own, ρ, y, R, m, ey, fun w H1 s1 r1 => ⟨s1, r1.is.mono cut_le⟩⟩) fun u s1 ⟨w, H1, I1, rw', s1', iw⟩ => ?_)
    refine thn (op_cmp hu o pins s1 σ H1 x w v u (fun z H2 => z = .bl c2 ∧ H2 = H1) I1 rx rw' ⟨Hx, dx, y, c2, sm.trans s1', ix, iw, ec, rfl, rfl⟩) fun d s2 ⟨z, H2, I2, r2, e3, e4⟩ => ?_
    subst e3 e4
    cases r2
    refine wpAny_truthy_bool ?_
    cases c2 with
    | false =>
      cases e2
      exact ⟨.bl false, H2, I2, rfl, k H2 s1'⟩
    | true =>
      exact chain_ok hu ht pos pins s2 σ H2 H2 hide own ρ w u y b Q I2 (R.grow s1') m (Same.refl _) iw rw' (by simpa using e2) fun H' s' => k H' (s1'.trans s')
theorem test_ok (hu : X.A.units + 70 < cLine) : ∀ {r : Cops} {ops : List CmpOp} {es : List Expr}, SC X T M r ops es → ∀ (pos : Pos) (pins : List (Addr × Obj)) (s : Shared) (σ : L2.St) (H Hx : Hp) (hide : Addr → Prop) (own : List Nat) (ρ : Env) (x : V) (v : Value) (dx : D) (b : Bool) (Q : Bool → Hp → Prop),
    Inv X pins σ H s → ER X.K hide own H σ ρ → (∀ i ∈ own, i ∈ M) → Same Hx H → Is X.K Hx x dx → RelV x v → evc T dx r ρ = some b → (∀ H', Same H H' → Q b H') →
    wpAny (model X.prog X.w) X.A (testChain pos v ops (evalEach es X.env)) (TP X pins σ Q) X.xe s
  | _, _, _, .one (o := o) (e := e) (c := c) hs _, pos, pins, s, σ, H, Hx, hide, own, ρ, x, v, dx, b, Q, I, R, m, sm, ix, rx, he, k => by
    simp only [evc] at he
    obtain ⟨y, ey, e1⟩ := bnd he
    obtain ⟨c2, ec, e2⟩ := bnd e1
    have eb : c2 = b := by cases c2 <;> simpa using e2
    subst eb
    refine PyProof.Rows.test_last (thn (hs.run pins s σ H (fun w H1 => rCmp X.K o x w H1 fun z H2 => z = .bl c2 ∧ Q c2 H2) I ⟨hide, own, ρ, y, R, m, ey, fun w H1 s1 r1 => ⟨Hx, dx, y, c2, sm.trans s1, ix, r1.is.mono cut_le, ec, rfl, k H1 s1⟩⟩) fun u s1 ⟨w, H1, I1, rw', q1⟩ => ?_)
    refine thn (op_cmp hu o pins s1 σ H1 x w v u _ I1 rx rw' q1) fun d s2 ⟨z, H2, I2, r2, e3, q⟩ => ?_
    subst e3
    cases r2
    exact wpAny_truthy_bool ⟨H2, I2, q⟩
  | _, _, _, .more (o := o) (e := e) (c := c) (r := r) hs ht, pos, pins, s, σ, H, Hx, hide, own, ρ, x, v, dx, b, Q, I, R, m, sm, ix, rx, he, k => by
    obtain ⟨op', ops', e', es', rfl, rfl⟩ := ht.ne
    simp only [evc] at he
    obtain ⟨y, ey, e1⟩ := bnd he
    obtain ⟨c2, ec, e2⟩ := bnd e1
    refine PyProof.Rows.test_link (thn (hs.run pins s σ H (fun w H1 => Same H H1 ∧ Is X.K H1 w y) I ⟨hide, own, ρ, y, R, m, ey, fun w H1 s1 r1 => ⟨s1, r1.is.mono cut_le⟩⟩) fun u s1 ⟨w, H1, I1, rw', s1', iw⟩ => ?_)
    refine thn (op_cmp hu o pins s1 σ H1 x w v u (fun z H2 => z = .bl c2 ∧ H2 = H1) I1 rx rw' ⟨Hx, dx, y, c2, sm.trans s1', ix, iw, ec, rfl, rfl⟩) fun d s2 ⟨z, H2, I2, r2, e3, e4⟩ => ?_
    subst e3 e4
    cases r2
    refine wpAny_truthy_bool ?_
    cases c2 with
    | false =>
      cases e2
      exact ⟨H2, I2, k H2 s1'⟩
    | true =>
      exact test_ok hu ht pos pins s2 σ H2 H2 hide own ρ w u y b Q I2 (R.grow s1') m (Same.refl _) iw rw' (by simpa using e2) fun H' s' => k H' (s1'.trans s')
theorem se_cmp (hu : X.A.units + 70 < cLine) {r : Cops} {ops : List CmpOp} {es : List Expr} (ha : SE X T M a ca) (hr : SC X T M r ops es) : SE X T M (.Compare a ops es pos) (.cmp ca r) := by
  refine ⟨fun pins s σ H Q I ⟨hide, own, ρ, d, R, m, e, k⟩ => ?_⟩
  simp only [ev] at e
  obtain ⟨x, ex, e1⟩ := bnd e
  obtain ⟨b, eb, rfl⟩ := mpd e1
  have go : wpAny (model X.prog X.w) X.A (eval a X.env) (fun v s1 => wpAny (model X.prog X.w) X.A (compareChain pos v ops (evalEach es X.env)) (EP X pins σ Q) X.xe s1) X.xe s :=
    thn (ha.run pins s σ H (fun v H1 => Same H H1 ∧ Is X.K H1 v x) I ⟨hide, own, ρ, x, R, m, ex, fun v H1 s1 r1 => ⟨s1, r1.is.mono cut_le⟩⟩) fun v s1 ⟨y, H1, I1, r1, s1', iy⟩ =>
      chain_ok hu hr pos pins s1 σ H1 H1 hide own ρ y v x b Q I1 (R.grow s1') m (Same.refl _) iy r1 eb fun H' s' => k _ _ (s1'.trans s') (.scal rfl (.bl b (K := X.K) (H := H')))
  show wpAny _ _ (do compareChain pos (← eval a X.env) ops (markedEach ops es (evalEach es X.env))) _ _ s
  rw [PyProof.Rows.markedEach_of_false _ _ _ hr.marks]
  exact wpAny_bind go
theorem sq_cmp (hu : X.A.units + 70 < cLine) {r : Cops} {ops : List CmpOp} {es : List Expr} (ha : SE X T M a ca) (hr : SC X T M r ops es) : SQ X T M (.Compare a ops es pos) (.cmp ca r) := by
  refine ⟨fun pins s σ H Q I ⟨hide, own, ρ, d, R, m, e, k⟩ => ?_⟩
  simp only [ev] at e
  obtain ⟨x, ex, e1⟩ := bnd e
  obtain ⟨b, eb, e2⟩ := mpd e1
  cases e2
  have go : wpAny (model X.prog X.w) X.A (eval a X.env) (fun v s1 => wpAny (model X.prog X.w) X.A (testChain pos v ops (evalEach es X.env)) (TP X pins σ Q) X.xe s1) X.xe s :=
    thn (ha.run pins s σ H (fun v H1 => Same H H1 ∧ Is X.K H1 v x) I ⟨hide, own, ρ, x, R, m, ex, fun v H1 s1 r1 => ⟨s1, r1.is.mono cut_le⟩⟩) fun v s1 ⟨y, H1, I1, r1, s1', iy⟩ =>
      test_ok hu hr pos pins s1 σ H1 H1 hide own ρ y v x _ Q I1 (R.grow s1') m (Same.refl _) iy r1 eb fun H' s' => k _ (s1'.trans s')
  show wpAny _ _ (do testChain pos (← eval a X.env) ops (markedEach ops es (evalEach es X.env))) _ _ s
  rw [PyProof.Rows.markedEach_of_false _ _ _ hr.marks]
  exact wpAny_bind go

/-! ### argument lists, displays -/
abbrev SA (X : Cx) (T : Nat → List D → Option D) (M : List Nat) (es : List Expr) (cs : CEs) : Prop := PA X es (tA X.K T M cs)
theorem sa_nil : SA X T M [] .nil := PA.imp pa_nil fun σ H Q ⟨hide, own, ρ, ds, R, m, e, k⟩ => by
  simp only [evs, Option.some.injEq] at e
  subst e
  exact k [] H (Same.refl H) .nil
theorem sa_cons {es : List Expr} {cs : CEs} (ha : SE X T M e c) (hr : SA X T M es cs) (hs : starEach (e :: es) X.env = (false, eval e X.env) :: starEach es X.env) : SA X T M (e :: es) (.cons c cs) :=
  PA.imp (pa_cons ha hr hs) fun σ H Q ⟨hide, own, ρ, ds, R, m, e, k⟩ => by
    simp only [evs] at e
    obtain ⟨x, ex, e1⟩ := bnd e
    obtain ⟨xs, exs, rfl⟩ := mpd e1
    refine ⟨hide, own, ρ, x, R, m, ex, fun v H1 s1 r1 => ⟨hide, own, ρ, xs, R.grow s1, m, exs, fun vs H2 s2 r2 => k _ _ (s1.trans s2) (.cons (r1.is.mono (hmono (by simp [als]; exact fun i h => .inl h) s2)) (r2.mono (hmono (by simp [als]; exact fun i h => .inr h) (Same.refl _))))⟩⟩
theorem IsAll.len {K : PySem.W.Frag} {H : Hp} {vs : List V} {ds : List D} (h : IsAll K H vs ds) : vs.length = ds.length := h.length
theorem evs_len : ∀ {cs : CEs} {ρ : Env} {ds : List D}, evs T cs ρ = some ds → ds.length = cs.length
  | .nil, _, _, h => by simp only [evs, Option.some.injEq] at h; subst h; rfl
  | .cons c r, _, _, h => by
    simp only [evs] at h
    obtain ⟨x, ex, e1⟩ := bnd h
    obtain ⟨xs, exs, rfl⟩ := mpd e1
    simp [CEs.length, evs_len exs]
theorem se_tup {es : List Expr} {cs : CEs} {x1} (ha : SA X T M es cs) (hl : cs.length ≤ 1000) : SE X T M (.Tuple es x1 pos) (.tup cs) :=
  PE.imp (pe_tup ha) fun σ H Q ⟨hide, own, ρ, d, R, m, e, k⟩ => by
    simp only [ev] at e
    obtain ⟨ds, eds, rfl⟩ := mpd e
    refine ⟨hide, own, ρ, ds, R, m, eds, fun vs H1 s1 r1 => ?_⟩
    have hz : vs.length ≤ sizeLine := by rw [r1.length, evs_len eds]; exact Nat.le_trans hl (by decide)
    exact ⟨hz, fun p np => k _ _ (s1.trans (same_upd_new np)) (Res.newt (by simp only [al, ale]) rfl (R.grow s1) np hz (by simpa only [al] using r1))⟩
theorem se_lst {es : List Expr} {cs : CEs} (ha : SA X T M es cs) (hl : cs.length ≤ 1000) : SE X T M (.List es pos) (.lst cs) :=
  PE.imp (pe_lst ha) fun σ H Q ⟨hide, own, ρ, d, R, m, e, k⟩ => by
    simp only [ev] at e
    obtain ⟨ds, eds, rfl⟩ := mpd e
    refine ⟨hide, own, ρ, ds, R, m, eds, fun vs H1 s1 r1 => ?_⟩
    have hz : vs.length ≤ sizeLine := by rw [r1.length, evs_len eds]; exact Nat.le_trans hl (by decide)
    exact ⟨hz, fun p np => k _ _ (s1.trans (same_upd_new np)) (Res.newl (by simp only [al, ale]) (R.grow s1) s1 np hz (by simpa only [al] using r1))⟩
/-! ### displays with stars -/
abbrev SS (X : Cx) (T : Nat → List D → Option D) (M : List Nat) (es : List Expr) (cs : CEs) : Prop := PA X es (tAS X.K T M cs)
theorem ss_nil : SS X T M [] .nil := PA.imp pa_nil fun σ H Q ⟨hide, own, ρ, ds, R, m, e, k⟩ => by
  simp only [evS, Option.some.injEq] at e
  subst e
  exact k [] H (Same.refl H) .nil
theorem ss_cons {es : List Expr} {cs : CEs} (ha : SE X T M e c) (hr : SS X T M es cs) (hc : ∀ z, c ≠ .star z) (hs : starEach (e :: es) X.env = (false, eval e X.env) :: starEach es X.env) : SS X T M (e :: es) (.cons c cs) :=
  PA.imp (pa_cons ha hr hs) fun σ H Q ⟨hide, own, ρ, ds, R, m, e, k⟩ => by
    rw [evS.eq_3 T ρ c cs (fun z h => hc z h)] at e
    obtain ⟨x, ex, e1⟩ := bnd e
    obtain ⟨xs, exs, rfl⟩ := mpd e1
    refine ⟨hide, own, ρ, x, R, m, ex, fun v H1 s1 r1 => ⟨hide, own, ρ, xs, R.grow s1, m, exs, fun vs H2 s2 r2 => k _ _ (s1.trans s2) (.cons (r1.is.mono (hmono (by simp [als]; exact fun i h => .inl h) s2)) (r2.mono (hmono (by simp [als]; exact fun i h => .inr h) (Same.refl _))))⟩⟩
theorem listOf_el {K : PySem.W.Frag} {Hc H : Hp} {v : V} {x : D} {xs : List D} (h : listOf x = some xs) (el : El K Hc H v x) : ∃ a vs, v = .ref a ∧ (SqT K H a vs ∨ SqL K H a vs) ∧ IsAll K Hc vs xs ∧ vs.length ≤ sizeLine := by
  cases x with
  | list ys =>
    simp only [listOf, Option.some.injEq] at h; subst h
    obtain ⟨a, vs, e, h1, n1, q1⟩ := el
    exact ⟨a, vs, e, .inr h1, q1, n1⟩
  | tuple ys =>
    simp only [listOf, Option.some.injEq] at h; subst h
    obtain ⟨a, vs, e, h1, n1, q1⟩ := el
    exact ⟨a, vs, e, .inl h1, q1, n1⟩
  | _ => simp [listOf] at h
theorem ss_star {es : List Expr} {cs : CEs} {p : Pos} (ha : SE X T M e c) (hr : SS X T M es cs) (hs : starEach (.Starred e p :: es) X.env = (true, eval e X.env) :: starEach es X.env) : SS X T M (.Starred e p :: es) (.cons (.star c) cs) :=
  PA.imp (StX.pa_star ha hr hs) fun σ H Q ⟨hide, own, ρ, ds, R, m, e, k⟩ => by
    simp only [evS] at e
    obtain ⟨x, ex, e1⟩ := bnd e
    obtain ⟨xs, exs, e2⟩ := bnd e1
    obtain ⟨ys, eys, rfl⟩ := mpd e2
    refine ⟨hide, own, ρ, x, R, m, ex, fun v H1 s1 r1 => ?_⟩
    obtain ⟨a, vs, rfl, h1, q1, n1⟩ := listOf_el exs r1.elH
    refine ⟨a, vs, rfl, h1, hide, own, ρ, ys, R.grow s1, m, eys, fun ws H2 s2 r2 => k _ _ (s1.trans s2) ((q1.mono (hmono (by simp [als, al]; exact fun i h => .inl h) s2)).append (r2.mono (hmono (by simp [als]; exact fun i h => .inr h) (Same.refl _))))⟩
theorem se_lstS {es : List Expr} {cs : CEs} (ha : SS X T M es cs) : SE X T M (.List es pos) (.lstS cs) :=
  PE.imp (pe_lst ha) fun σ H Q ⟨hide, own, ρ, d, R, m, e, k⟩ => by
    simp only [ev] at e
    obtain ⟨ds, eds, e1⟩ := bnd e
    split at e1
    · rename_i hz
      cases e1
      refine ⟨hide, own, ρ, ds, R, m, eds, fun vs H1 s1 r1 => ?_⟩
      have hz : vs.length ≤ sizeLine := by rw [r1.length]; exact hz
      exact ⟨hz, fun p np => k _ _ (s1.trans (same_upd_new np)) (Res.newl (by simp only [al, ale]) (R.grow s1) s1 np hz (by simpa only [al] using r1))⟩
    · cases e1

/-! ### items, slices -/
theorem atI_isAll {K : PySem.W.Frag} {H : Hp} {vs : List V} {ds : List D} {i : Int} {d : D} (r : IsAll K H vs ds) (h : atI ds i = some d) : ∃ v, atI vs i = some v ∧ Is K H v d := by
  unfold atI at h ⊢
  obtain ⟨j, ej, e⟩ := bnd h
  obtain ⟨v, ev, iv⟩ := r.at e
  exact ⟨v, by rw [r.length, ej]; exact ev, iv⟩
theorem se_ix (ha : SE X T M a ca) (hb : SE X T M b cb) (hs : PlainIx b) : SE X T M (.Subscript a b pos) (.ix ca cb) :=
  PE.imp (pe_ix (ix_list.or ix_tup) ha hb hs) fun σ H Q ⟨hide, own, ρ, d, R, m, e, k⟩ => by
    simp only [ev] at e
    obtain ⟨x, ex, e1⟩ := bnd e
    obtain ⟨y, ey, e2⟩ := bnd e1
    refine ⟨hide, own, ρ, x, R, m, ex, fun v H1 s1 r1 => ⟨hide, own, ρ, y, R.grow s1, m, ey, fun u H2 s2 r2 => ?_⟩⟩
    have i2 := r2.is
    have sl : ∀ i ∈ ale ca, i ∈ al (.ix ca cb) := by simp [al]
    cases x with
    | list xs =>
      cases y with
      | int i =>
        cases i2
        obtain ⟨p, vs, rfl, h1, n1, q1⟩ := r1.elH
        obtain ⟨w, ew, iw⟩ := atI_isAll q1 e2
        exact .inl ⟨p, vs, i, w, rfl, rfl, s2.seq h1, ew, k _ _ (s1.trans s2) (.of_is (by simp only [al, ale]) rfl (iw.mono (hmono sl s2)))⟩
      | _ => simp [ixD] at e2
    | tuple xs =>
      cases y with
      | int i =>
        cases i2
        obtain ⟨p, vs, rfl, h1, n1, q1⟩ := r1.elH
        obtain ⟨w, ew, iw⟩ := atI_isAll q1 e2
        exact .inr ⟨p, vs, i, w, rfl, rfl, SqT.mono s2 h1, ew, k _ _ (s1.trans s2) (.of_is (by simp only [al, ale]) rfl (iw.mono (hmono sl s2)))⟩
      | _ => simp [ixD] at e2
    | _ => simp [ixD] at e2
theorem cutV_isAll {K : PySem.W.Frag} {H : Hp} {vs : List V} {ds : List D} (r : IsAll K H vs ds) (lo hi : Option Int) : IsAll K H (cutV vs lo hi) (cutD ds lo hi) := by
  unfold cutV cutD
  rw [r.length]
  exact (r.drop _).take _
/-- a part of a slice -/
inductive SO (X : Cx) (T : Nat → List D → Option D) (M : List Nat) : Option Expr → CE → Prop where
  | none : SO X T M none .no
  | some {e : Expr} {c : CE} : SE X T M e c → c ≠ .no → SO X T M (some e) c
def tO (K : PySem.W.Frag) (T : Nat → List D → Option D) (M : List Nat) (c : CE) : TO := fun σ H Q => ∃ hide own ρ o, ER K hide own H σ ρ ∧ (∀ i ∈ own, i ∈ M) ∧ evo T c ρ = some o ∧ ∀ H', Same H H' → Q o H'
theorem so_ok {o : Option Expr} (h : SO X T M o c) : PO X o (tO X.K T M c) := by
  cases h with
  | none => exact ⟨fun pins s σ H Q I ⟨hide, own, ρ, o, R, m, e, k⟩ => po_none.run pins s σ H Q I (by simp only [evo, partE, isNo, if_true, Option.some.injEq] at e; subst e; exact k H (Same.refl H))⟩
  | some h n =>
    refine ⟨fun pins s σ H Q I ⟨hide, own, ρ, o, R, m, e, k⟩ => (po_some h).run pins s σ H Q I ?_⟩
    have hn : isNo c = false := by cases c <;> first | rfl | exact absurd rfl n
    simp only [evo, partE, hn, Bool.false_eq_true, if_false] at e
    obtain ⟨x, ex, e1⟩ := bnd e
    obtain ⟨i, ei, rfl⟩ := mpd e1
    have := asI_some ei; subst this
    exact ⟨hide, own, ρ, _, R, m, ex, fun v H1 s1 r1 => by
      have i1 := r1.is
      cases i1
      exact ⟨i, rfl, k H1 s1⟩⟩
theorem se_sl {lo hi : Option Expr} {cl ch : CE} {p2 : Pos} (ha : SE X T M a ca) (hl : SO X T M lo cl) (hh : SO X T M hi ch) : SE X T M (.Subscript a (.Slice lo hi none p2) pos) (.sl ca cl ch) :=
  PE.imp (pe_slice sl_list ha (so_ok hl) (so_ok hh)) fun σ H Q ⟨hide, own, ρ, d, R, m, e, k⟩ => by
    simp only [ev] at e
    obtain ⟨x, ex, e1⟩ := bnd e
    obtain ⟨l, el, e2⟩ := bnd e1
    obtain ⟨h, eh, e3⟩ := bnd e2
    refine ⟨hide, own, ρ, x, R, m, ex, fun v H1 s1 r1 => ⟨hide, own, ρ, l, R.grow s1, m, el, fun H2 s2 => ⟨hide, own, ρ, h, R.grow (s1.trans s2), m, eh, fun H3 s3 => ?_⟩⟩⟩
    cases x with
    | list xs =>
      simp only [slD, Option.some.injEq] at e3; subst e3
      obtain ⟨p, vs, rfl, h1, n1, q1⟩ := r1.elH
      have s13 := (s1.trans s2).trans s3
      exact ⟨p, vs, rfl, (s2.trans s3).seq h1, fun q nq => k _ _ (s13.trans (same_upd_new nq)) (Res.newl (by simp only [al, ale]) (R.grow s13) s13 nq (Nat.le_trans (cutV_length vs l h) n1) ((cutV_isAll q1 l h).mono (hmono (by simp [al]) (s2.trans s3))))⟩
    | _ => simp [slD] at e3
theorem se_rev {k0 : Nat} {p1 p2 p3 : Pos} (ha : SE X T M a ca) : SE X T M (.Subscript a (.Slice none none (some (.UnaryOp .USub (.Constant (.int 1) k0 p1) p2)) p3) pos) (.rev ca) :=
  PE.imp (pe_revL ha) fun σ H Q ⟨hide, own, ρ, d, R, m, e, k⟩ => by
    simp only [ev] at e
    obtain ⟨x, ex, e1⟩ := bnd e
    refine ⟨hide, own, ρ, x, R, m, ex, fun v H1 s1 r1 => ?_⟩
    cases x with
    | list xs =>
      simp only [revD, Option.some.injEq] at e1; subst e1
      obtain ⟨p, vs, rfl, h1, n1, q1⟩ := r1.elH
      exact ⟨p, vs, rfl, h1, fun q nq => k _ _ (s1.trans (same_upd_new nq)) (Res.newl (by simp only [al, ale]) (R.grow s1) s1 nq (by rw [List.length_reverse]; exact n1) (q1.reverse.mono (hmono (by simp [al]) (Same.refl _))))⟩
    | _ => simp [revD] at e1
end
end DI
set_option maxRecDepth 100000
set_option maxHeartbeats 1000000
/-! DI: builtins, methods. -/
namespace DI
open PySem L2
section
variable {X : Cx} {T : Nat → List D → Option D} {M : List Nat} {e a b : Expr} {ca cb cc c : CE} {pos : Pos}

/-! ### one argument -/
theorem p1_gen {f : P1} {r : List V → Hp → VK → Prop} {pe : PE X e (tCB r (tCons (tE X.K T M ca) tNil))}
    (h : ∀ hide own σ ρ x d H H1 Q v, ER X.K hide own H1 σ ρ → Same H H1 → Res X.K hide own σ H H1 ca v x → p1D f x = some d → (∀ v H', Same H H' → Res X.K hide own σ H H' (.p1 f ca) v d → Q v H') → r [v] H1 Q) : SE X T M e (.p1 f ca) :=
  PE.imp pe fun σ H Q ⟨hide, own, ρ, d, R, m, e, k⟩ => by
    simp only [ev] at e
    obtain ⟨x, ex, e1⟩ := bnd e
    exact ⟨hide, own, ρ, x, R, m, ex, fun v H1 s1 r1 => h hide own σ ρ x d H H1 Q v (R.grow s1) s1 r1 e1 k⟩
/-- a built-in function by its name -/
structure BF (X : Cx) (x : Str) (e : Expr) (v : Value) : Prop where
  gl : Gl X x
  mg : X.mg x = none
  bt : bootBuiltins x = some v
  nm : x ≠ "__name__"
  db : (x == ("__debug__" : Str)) = false
  st : starEach [e] X.env = [(false, eval e X.env)]
variable {x : Str} {p : Pos}
theorem pe_b {id : String} {r : List V → Hp → VK → Prop} (B : BF X x a (.builtin id)) (hc : CallR X (.builtin id) r) (ha : SE X T M a ca) : PE X (.Call (.Name x p) [a] [] pos) (tCB r (tCons (tE X.K T M ca) tNil)) :=
  pe_callB hc B.gl B.mg B.bt (pa_cons ha pa_nil B.st) B.nm B.db B.st rfl
theorem pe_t {id : String} {r : List V → Hp → VK → Prop} (B : BF X x a (.type id)) (hc : CallR X (.type id) r) (ha : SE X T M a ca) : PE X (.Call (.Name x p) [a] [] pos) (tCB r (tCons (tE X.K T M ca) tNil)) :=
  pe_callTy hc B.gl B.mg B.bt (pa_cons ha pa_nil B.st) B.nm B.db B.st rfl
/-- len of a dict, also of one that is walked -/
theorem call_lenR : CallR X (.builtin "len") (fun xs H Q => ∃ a, xs = [V.ref a] ∧ ((∃ kvs, Rd H a (.dK kvs) ∧ Q (.int kvs.length) H) ∨ ∃ kvs, Rd H a (.dT kvs) ∧ Q (.int kvs.length) H)) := by
  intro pins s σ H xs us Q I r h
  obtain ⟨a, rfl, h⟩ := h
  obtain ⟨u, rfl, ru⟩ := vals1 r
  cases ru
  rcases h with ⟨kvs, ha, q⟩ | ⟨kvs, ha, q⟩
  · exact d_len I ha fun t s' I' => ⟨.int kvs.length, H, I', ⟨t, rfl⟩, q⟩
  · obtain ⟨z, hd, ys, rel, dd⟩ := dt_rd I.hok ha
    have hl : kvs.length = ys.length := Paired.length rel
    refine call_len_dictH hd dd (by rw [← hl]; rw [sizeLine_eq] at z; omega) ?_
    rw [← hl]
    exact ⟨.int ((kvs.length : Nat) : Int), H, I.tok _, ⟨_, rfl⟩, q⟩
theorem IsKv.length {K : PySem.W.Frag} {H : Hp} : ∀ {kvs : List (Key × V)} {ds : List (D × D)}, IsKv K H kvs ds → kvs.length = ds.length
  | _, _, .nil => rfl
  | _, _, .cons _ r => by simp [IsKv.length r]
theorem IsKvT.length {K : PySem.W.Frag} {H : Hp} : ∀ {kvs : List (List Key × V)} {ds : List (D × D)}, IsKvT K H kvs ds → kvs.length = ds.length
  | _, _, .nil => rfl
  | _, _, .cons _ r => by simp [IsKvT.length r]
theorem se_len (B : BF X x a (.builtin "len")) (ha : SE X T M a ca) : SE X T M (.Call (.Name x p) [a] [] pos) (.p1 .len ca) :=
  p1_gen (pe := pe_b B (call_len.or call_lenR) ha) fun hide own σ ρ y d H H1 Q v R s1 r1 e k => by
    cases y with
    | list xs =>
      simp only [p1D, Option.some.injEq] at e; subst e
      obtain ⟨p, vs, rfl, h1, n1, q1⟩ := r1.elH
      exact .inl ⟨_, _, rfl, .inl ⟨vs, h1, rfl⟩, by rw [q1.length]; exact k _ _ s1 (.scal rfl (.int _ (K := X.K) (H := H1)))⟩
    | tuple xs =>
      simp only [p1D, Option.some.injEq] at e; subst e
      obtain ⟨p, vs, rfl, h1, n1, q1⟩ := r1.elH
      exact .inl ⟨_, _, rfl, .inr ⟨vs, h1, rfl⟩, by rw [q1.length]; exact k _ _ s1 (.scal rfl (.int _ (K := X.K) (H := H1)))⟩
    | dict xs =>
      simp only [p1D, Option.some.injEq] at e; subst e
      obtain ⟨p, rfl, q⟩ := r1.elH
      rcases q with ⟨kvs, h1, q1⟩ | ⟨kvs, h1, q1⟩
      · exact .inr ⟨p, rfl, .inl ⟨kvs, h1, by rw [IsKv.length q1]; exact k _ _ s1 (.scal rfl (.int _ (K := X.K) (H := H1)))⟩⟩
      · exact .inr ⟨p, rfl, .inr ⟨kvs, h1, by rw [IsKvT.length q1]; exact k _ _ s1 (.scal rfl (.int _ (K := X.K) (H := H1)))⟩⟩
    | _ => simp [p1D] at e
theorem se_abs (B : BF X x a (.builtin "abs")) (ha : SE X T M a ca) : SE X T M (.Call (.Name x p) [a] [] pos) (.p1 .abs ca) :=
  p1_gen (pe := pe_b B call_abs ha) fun hide own σ ρ y d H H1 Q v R s1 r1 e k => by
    have i1 := r1.is
    cases y with
    | int i =>
      simp only [p1D, Option.some.injEq] at e; subst e
      cases i1
      exact ⟨i, rfl, k _ _ s1 (.scal rfl (.int _ (K := X.K) (H := H1)))⟩
    | _ => simp [p1D] at e
theorem se_int (B : BF X x a (.type "int")) (ha : SE X T M a ca) : SE X T M (.Call (.Name x p) [a] [] pos) (.p1 .int ca) :=
  p1_gen (pe := pe_t B call_int1 ha) fun hide own σ ρ y d H H1 Q v R s1 r1 e k => by
    have i1 := r1.is
    cases y with
    | int i =>
      simp only [p1D, Option.some.injEq] at e; subst e
      cases i1
      exact .inl ⟨i, rfl, k _ _ s1 (.scal rfl (.int _ (K := X.K) (H := H1)))⟩
    | bool i =>
      simp only [p1D, Option.some.injEq] at e; subst e
      cases i1
      exact .inr ⟨i, rfl, k _ _ s1 (.scal rfl (.int _ (K := X.K) (H := H1)))⟩
    | _ => simp [p1D] at e
theorem asIs_some : ∀ {xs : List D} {is : List Int}, asIs xs = some is → xs = is.map PyData.int
  | [], _, h => by simp [asIs] at h; subst h; rfl
  | .int i :: r, _, h => by
    simp only [asIs] at h
    obtain ⟨js, ej, rfl⟩ := mpd h
    rw [asIs_some ej]; rfl
  | .none :: _, _, h => by simp [asIs] at h
  | .bool _ :: _, _, h => by simp [asIs] at h
  | .str _ :: _, _, h => by simp [asIs] at h
  | .list _ :: _, _, h => by simp [asIs] at h
  | .tuple _ :: _, _, h => by simp [asIs] at h
  | .dict _ :: _, _, h => by simp [asIs] at h
theorem asBs_some : ∀ {xs : List D} {is : List Bool}, asBs xs = some is → xs = is.map PyData.bool
  | [], _, h => by simp [asBs] at h; subst h; rfl
  | .bool i :: r, _, h => by
    simp only [asBs] at h
    obtain ⟨js, ej, rfl⟩ := mpd h
    rw [asBs_some ej]; rfl
  | .none :: _, _, h => by simp [asBs] at h
  | .int _ :: _, _, h => by simp [asBs] at h
  | .str _ :: _, _, h => by simp [asBs] at h
  | .list _ :: _, _, h => by simp [asBs] at h
  | .tuple _ :: _, _, h => by simp [asBs] at h
  | .dict _ :: _, _, h => by simp [asBs] at h
theorem se_sum (hc : X.calm = true) (B : BF X x a (.builtin "sum")) (ha : SE X T M a ca) : SE X T M (.Call (.Name x p) [a] [] pos) (.p1 .sum ca) :=
  p1_gen (pe := pe_b B (cr_sum hc) ha) fun hide own σ ρ y d H H1 Q v R s1 r1 e k => by
    cases y with
    | list xs =>
      simp only [p1D] at e
      obtain ⟨is, e1, rfl⟩ := mpd e
      have := asIs_some e1; subst this
      obtain ⟨p, vs, rfl, h1, n1, q1⟩ := r1.elH
      have := q1.ints; subst this
      exact ⟨p, is, rfl, h1, k _ _ s1 (.scal rfl (.int _ (K := X.K) (H := H1)))⟩
    | _ => simp [p1D] at e
theorem se_all (hc : X.calm = true) (B : BF X x a (.builtin "all")) (ha : SE X T M a ca) : SE X T M (.Call (.Name x p) [a] [] pos) (.p1 .all ca) :=
  p1_gen (pe := pe_b B (cr_all hc) ha) fun hide own σ ρ y d H H1 Q v R s1 r1 e k => by
    cases y with
    | list xs =>
      simp only [p1D] at e
      obtain ⟨is, e1, rfl⟩ := mpd e
      have := asBs_some e1; subst this
      obtain ⟨p, vs, rfl, h1, n1, q1⟩ := r1.elH
      have := q1.bools; subst this
      exact ⟨p, is, rfl, h1, k _ _ s1 (.scal rfl (.bl _ (K := X.K) (H := H1)))⟩
    | _ => simp [p1D] at e
theorem se_any (hc : X.calm = true) (B : BF X x a (.builtin "any")) (ha : SE X T M a ca) : SE X T M (.Call (.Name x p) [a] [] pos) (.p1 .any ca) :=
  p1_gen (pe := pe_b B (cr_any hc) ha) fun hide own σ ρ y d H H1 Q v R s1 r1 e k => by
    cases y with
    | list xs =>
      simp only [p1D] at e
      obtain ⟨is, e1, rfl⟩ := mpd e
      have := asBs_some e1; subst this
      obtain ⟨p, vs, rfl, h1, n1, q1⟩ := r1.elH
      have := q1.bools; subst this
      exact ⟨p, is, rfl, h1, k _ _ s1 (.scal rfl (.bl _ (K := X.K) (H := H1)))⟩
    | _ => simp [p1D] at e
theorem se_list (B : BF X x a (.type "list")) (ha : SE X T M a ca) : SE X T M (.Call (.Name x p) [a] [] pos) (.p1 .list ca) :=
  p1_gen (pe := pe_t B call_list_of ha) fun hide own σ ρ y d H H1 Q v R s1 r1 e k => by
    cases y with
    | list xs =>
      simp only [p1D, Option.some.injEq] at e; subst e
      obtain ⟨p, vs, rfl, h1, n1, q1⟩ := r1.elH
      exact ⟨p, vs, rfl, .inl h1, fun q nq => k _ _ (s1.trans (same_upd_new nq)) (Res.newl (by simp only [al, ale]) R s1 nq n1 (q1.mono (hmono (by simp [al]) (Same.refl _))))⟩
    | tuple xs =>
      simp only [p1D, Option.some.injEq] at e; subst e
      obtain ⟨p, vs, rfl, h1, n1, q1⟩ := r1.elH
      exact ⟨p, vs, rfl, .inr h1, fun q nq => k _ _ (s1.trans (same_upd_new nq)) (Res.newl (by simp only [al, ale]) R s1 nq n1 (q1.mono (hmono (by simp [al]) (Same.refl _))))⟩
    | _ => simp [p1D] at e
/-! ### least, greatest, sorted -/
theorem alikes_of {xs : List D} (h : alikes xs = true) : PySem.W.AlikeAll xs ∧ PyData.depthAll xs ≤ 60 := by
  simp only [alikes, Bool.and_eq_true, List.all_eq_true, decide_eq_true_eq] at h
  exact ⟨⟨h.1.1, fun x hx e => by have := h.1.2 x hx; subst e; cases this⟩, h.2⟩
theorem nd_alike : ∀ {d : D}, PySem.W.alike d d = true → nd d = true
  | .none, _ => rfl
  | .bool _, _ => rfl
  | .int _, _ => rfl
  | .str _, _ => rfl
  | .list xs, h => by
    simp only [PySem.W.alike] at h
    rw [nd_list]
    exact all h
  | .tuple xs, h => by
    simp only [PySem.W.alike] at h
    rw [nd_tuple]
    exact all h
  | .dict _, h => by simp [PySem.W.alike] at h
where all : ∀ {ds : List D}, PySem.W.alikeAll ds ds = true → ndAll ds = true
  | [], _ => by simp [ndAll]
  | d :: ds, h => by
    simp only [PySem.W.alikeAll, Bool.and_eq_true] at h
    simp only [ndAll, Bool.and_eq_true]
    exact ⟨nd_alike h.1, all h.2⟩
theorem ndAll_of : ∀ {xs : List D}, (∀ x ∈ xs, nd x = true) → ndAll xs = true
  | [], _ => by simp [ndAll]
  | x :: r, h => by
    simp only [ndAll, Bool.and_eq_true]
    exact ⟨h x List.mem_cons_self, ndAll_of fun y hy => h y (List.mem_cons_of_mem _ hy)⟩
theorem fold_mem {f : D → D → Bool} : ∀ {xs : List D} {x : D}, xs.foldl (fun a y => if f a y then y else a) x ∈ x :: xs
  | [], x => List.mem_cons_self
  | y :: r, x => by
    rw [List.foldl_cons]
    have q := fold_mem (f := f) (xs := r) (x := if f x y then y else x)
    rcases List.mem_cons.mp q with q | q
    · rw [q]
      split
      · exact List.mem_cons_of_mem _ List.mem_cons_self
      · exact List.mem_cons_self
    · exact List.mem_cons_of_mem _ (List.mem_cons_of_mem _ q)
theorem best_ok {pins : List (Addr × Obj)} {σ : L2.St} {H : Hp} {s : Shared} {its : List Value} {vs : List V} {ds : List D} {h' : Heap} {i : Nat} {v : Value} {d : D} {bs : List Addr} (I : Inv X pins σ H s) (rv : Vals vs its) (r : IsAll X.K H vs ds) (ha : PySem.W.AlikeAll ds)
    (hi : its.toArray[i]? = some v) (rd : Reads h' v d bs) (hm : d ∈ ds) (hk : ∀ b o, s.heap.get? b = some o → h'.get? b = some o) : ∃ w, RelV w v ∧ Is X.K H w d ∧ ∃ i : Nat, vs[i]? = some w ∧ ds[i]? = some d := by
  have hi' : its[i]? = some v := by simpa using hi
  have hlt : i < vs.length := by rw [rv.length]; exact (List.getElem?_eq_some_iff.mp hi').1
  obtain ⟨u, hu, ru⟩ := rv.get (i := i) (x := vs[i]) (by simp [hlt])
  rw [hi'] at hu; cases hu
  obtain ⟨d2, hd2, i2⟩ := r.at' (i := i) (v := vs[i]) (by simp [hlt])
  have m2 : d2 ∈ ds := List.mem_of_getElem? hd2
  have al2 := ha.1 d2 m2 d hm
  obtain ⟨as, r2⟩ := Is.reads I (Same.refl H) (nd_alike (ha.1 d2 m2 d2 m2)) i2 ru
  have := PySem.W.alike_unique d2 d v as bs al2 (PyProof.Rows.Reads.keeps hk r2) rd
  subst this
  exact ⟨_, ru, i2, i, by simp [hlt], hd2⟩
theorem cr_minD (hc : X.calm = true) (hu : X.A.units + 70 < cLine) : CallR X (.builtin "min") (fun xs H Q => ∃ a vs d ds, xs = [V.ref a] ∧ SqL X.K H a vs ∧ IsAll X.K H vs (d :: ds) ∧ alikes (d :: ds) = true ∧ ∀ (w : V) (i : Nat), vs[i]? = some w → (d :: ds)[i]? = some (PySem.W.minD d ds) → Q w H) := by
  intro pins s σ H xs us Q I r h
  obtain ⟨a, vs, d, ds, rfl, hs, hr, ha, q⟩ := h
  obtain ⟨u, rfl, ru⟩ := vals1 r
  cases ru
  obtain ⟨ha, hdp⟩ := alikes_of ha
  obtain ⟨its, rv, hl, _⟩ := I.list hs
  obtain ⟨as, ra⟩ := IsAll.reads I (Same.refl H) (ndAll_of fun x hx => nd_alike (ha.1 x hx x hx)) hr rv
  refine PySem.W.min_list_data (I.ok.hd hc) hl.isList (by simpa using ra) ha (by omega) fun i v h' tk bs hi rd hk => ?_
  obtain ⟨w, rw', iw, j, e1, e2⟩ := best_ok I rv hr ha hi rd (fold_mem (f := fun a y => PySem.W.dataLt y a)) hk
  exact ⟨w, H, I.kept (h' := h') (t' := tk) hk, rw', q w j e1 e2⟩
theorem cr_maxD (hc : X.calm = true) (hu : X.A.units + 70 < cLine) : CallR X (.builtin "max") (fun xs H Q => ∃ a vs d ds, xs = [V.ref a] ∧ SqL X.K H a vs ∧ IsAll X.K H vs (d :: ds) ∧ alikes (d :: ds) = true ∧ ∀ (w : V) (i : Nat), vs[i]? = some w → (d :: ds)[i]? = some (PySem.W.maxD d ds) → Q w H) := by
  intro pins s σ H xs us Q I r h
  obtain ⟨a, vs, d, ds, rfl, hs, hr, ha, q⟩ := h
  obtain ⟨u, rfl, ru⟩ := vals1 r
  cases ru
  obtain ⟨ha, hdp⟩ := alikes_of ha
  obtain ⟨its, rv, hl, _⟩ := I.list hs
  obtain ⟨as, ra⟩ := IsAll.reads I (Same.refl H) (ndAll_of fun x hx => nd_alike (ha.1 x hx x hx)) hr rv
  refine PySem.W.max_list_data (I.ok.hd hc) hl.isList (by simpa using ra) ha (by omega) fun i v h' tk bs hi rd hk => ?_
  obtain ⟨w, rw', iw, j, e1, e2⟩ := best_ok I rv hr ha hi rd (fold_mem (f := fun a y => PySem.W.dataLt a y)) hk
  exact ⟨w, H, I.kept (h' := h') (t' := tk) hk, rw', q w j e1 e2⟩
theorem se_min (hc : X.calm = true) (hu : X.A.units + 70 < cLine) (B : BF X x a (.builtin "min")) (ha : SE X T M a ca) : SE X T M (.Call (.Name x p) [a] [] pos) (.p1 .min ca) :=
  p1_gen (pe := pe_b B (cr_minD hc hu) ha) fun hide own σ ρ y d H H1 Q v R s1 r1 e k => by
    cases y with
    | list xs =>
      cases xs with
      | nil => simp [p1D] at e
      | cons d0 ds =>
        simp only [p1D] at e
        split at e
        · rename_i hz
          cases e
          obtain ⟨p, vs, rfl, h1, n1, q1⟩ := r1.elH
          refine ⟨p, vs, d0, ds, rfl, h1, q1.mono cut_le, hz, fun w i e1 e2 => ?_⟩
          obtain ⟨d2, e3, i3⟩ := q1.at' e1
          rw [e2] at e3; cases e3
          exact k _ _ s1 (.of_is (by simp only [al, ale]) rfl (i3.mono (hmono (by simp [al]) (Same.refl _))))
        · cases e
    | _ => simp [p1D] at e
theorem se_max (hc : X.calm = true) (hu : X.A.units + 70 < cLine) (B : BF X x a (.builtin "max")) (ha : SE X T M a ca) : SE X T M (.Call (.Name x p) [a] [] pos) (.p1 .max ca) :=
  p1_gen (pe := pe_b B (cr_maxD hc hu) ha) fun hide own σ ρ y d H H1 Q v R s1 r1 e k => by
    cases y with
    | list xs =>
      cases xs with
      | nil => simp [p1D] at e
      | cons d0 ds =>
        simp only [p1D] at e
        split at e
        · rename_i hz
          cases e
          obtain ⟨p, vs, rfl, h1, n1, q1⟩ := r1.elH
          refine ⟨p, vs, d0, ds, rfl, h1, q1.mono cut_le, hz, fun w i e1 e2 => ?_⟩
          obtain ⟨d2, e3, i3⟩ := q1.at' e1
          rw [e2] at e3; cases e3
          exact k _ _ s1 (.of_is (by simp only [al, ale]) rfl (i3.mono (hmono (by simp [al]) (Same.refl _))))
        · cases e
    | _ => simp [p1D] at e
theorem each_of {Hc : Hp} {K : PySem.W.Frag} : ∀ {vs : List V} {its : List Value} {ds : List D}, Vals vs its → IsAll K Hc vs ds → PySem.W.EachIs (fun u d => ∃ w, RelV w u ∧ Is K Hc w d) its ds
  | _, _, _, .nil, .nil => .nil
  | _, _, _, .cons r t, .cons h q => .cons ⟨_, r, h⟩ (each_of t q)
theorem of_each {Hc : Hp} {K : PySem.W.Frag} : ∀ {its : List Value} {ds : List D}, PySem.W.EachIs (fun u d => ∃ w, RelV w u ∧ Is K Hc w d) its ds → ∃ vs, Vals vs its ∧ IsAll K Hc vs ds
  | _, _, .nil => ⟨[], .nil, .nil⟩
  | _, _, .cons ⟨w, r, h⟩ t => by
    obtain ⟨vs, a, b⟩ := of_each t
    exact ⟨w :: vs, .cons r a, .cons h b⟩
theorem each_reads {pins : List (Addr × Obj)} {σ : L2.St} {H Hc : Hp} {s : Shared} (I : Inv X pins σ H s) (sm : Same Hc H) : ∀ {its : List Value} {ds : List D}, (∀ d ∈ ds, nd d = true) → PySem.W.EachIs (fun u d => ∃ w, RelV w u ∧ Is X.K Hc w d) its ds → PySem.W.EachIs (fun u d => ∃ as, Reads s.heap u d as) its ds
  | _, _, _, .nil => .nil
  | _, _, hn, .cons ⟨w, r, h⟩ t => .cons (Is.reads I sm (hn _ List.mem_cons_self) h r) (each_reads I sm (fun d hd => hn d (List.mem_cons_of_mem _ hd)) t)
theorem oneKind_of {xs : List D} (h : oneKind xs = true) (hn : ∀ x ∈ xs, x ≠ .none) : PySem.W.Sortable xs := by
  simp only [oneKind, Bool.or_eq_true, List.all_eq_true] at h
  rcases h with h | h
  · refine .inl fun d hd => ?_
    have := h d hd
    split at this
    · exact ⟨_, _, rfl⟩
    · cases this
  · refine .inr fun d hd => ⟨hn d hd, fun ys e => ?_⟩
    have := h d hd
    subst e
    cases this
theorem depth_le_all : ∀ {xs : List D} {d : D}, d ∈ xs → d.depth ≤ PyData.depthAll xs
  | x :: r, d, h => by
    simp only [PyData.depthAll]
    rcases List.mem_cons.mp h with e | h
    · subst e; exact Nat.le_max_left _ _
    · exact Nat.le_trans (depth_le_all h) (Nat.le_max_right _ _)
theorem cr_sortedD (hu : X.A.units + 70 < cLine) : CallR X (.builtin "sorted") (fun xs H Q => ∃ a vs ds Hc, xs = [V.ref a] ∧ SqL X.K H a vs ∧ Same Hc H ∧ IsAll X.K Hc vs ds ∧ alikes ds = true ∧ oneKind ds = true ∧
    ∀ ws p, H p = none → IsAll X.K Hc ws (ds.mergeSort (PySem.W.dataLe false id)) → ws.length ≤ sizeLine → Q (.ref p) (upd H p (.lst ws))) := by
  intro pins s σ H xs us Q I r h
  obtain ⟨a, vs, ds, Hc, rfl, hs, sm, hr, ha, hk, q⟩ := h
  obtain ⟨u, rfl, ru⟩ := vals1 r
  cases ru
  obtain ⟨ha, hdp⟩ := alikes_of ha
  obtain ⟨its, rv, hl, hz⟩ := I.list hs
  have e1 := each_of rv hr
  have e2 := each_reads I sm (fun d hd => nd_alike (ha.1 d hd d hd)) e1
  refine PySem.W.sorted_data (enc := id) hl.isList e1 e2 (by rw [List.map_id]; exact ha.1) (by rw [List.map_id]; exact oneKind_of hk ha.2) (by rw [← hr.length]; exact hz) (fun b hb => by have := depth_le_all hb; show X.A.units + 2 + PyData.depth b < cLine; omega) fun out h1 h2 => ?_
  obtain ⟨ws, rw', iw⟩ := of_each h2
  obtain ⟨ep, he'⟩ := PyProof.Rows.sortedAll_at s.heap its out.toArray
  have hlen : ws.length ≤ sizeLine := by rw [rw'.length, h1, ← hr.length]; exact hz
  exact ⟨.ref _, upd H (s.heap.objs.size + 1) (.lst ws), I.laid (t' := s.toks) (fun _ _ => PyProof.Rows.sortedAll_old) (Nat.le_succ _) ⟨hlen, out, ep, rw', he'⟩, rfl, q _ _ (I.hok.fresh (Nat.le_succ _)) iw hlen⟩
theorem se_sorted (hu : X.A.units + 70 < cLine) (B : BF X x a (.builtin "sorted")) (ha : SE X T M a ca) : SE X T M (.Call (.Name x p) [a] [] pos) (.p1 .sorted ca) :=
  p1_gen (pe := pe_b B (cr_sortedD hu) ha) fun hide own σ ρ y d H H1 Q v R s1 r1 e k => by
    cases y with
    | list xs =>
      simp only [p1D] at e
      split at e
      · rename_i hz
        cases e
        simp only [Bool.and_eq_true] at hz
        obtain ⟨p, vs, rfl, h1, n1, q1⟩ := r1.elH
        exact ⟨p, vs, xs, _, rfl, h1, cut_le, q1, hz.1, hz.2, fun ws q nq iw hl => k _ _ (s1.trans (same_upd_new nq)) (Res.newl (by simp only [al, ale]) R s1 nq hl (iw.mono (hmono (by simp [al]) (Same.refl _))))⟩
      · cases e
    | _ => simp [p1D] at e
/-! ### two arguments -/
theorem p2_gen {f : P2} {r : List V → Hp → VK → Prop} {pe : PE X e (tCB r (tCons (tE X.K T M ca) (tCons (tE X.K T M cb) tNil)))}
    (h : ∀ hide own σ ρ x y d H H1 H2 Q v u, ER X.K hide own H2 σ ρ → Same H H1 → Same H1 H2 → Res X.K hide own σ H H1 ca v x → Res X.K hide own σ H1 H2 cb u y → p2D f x y = some d → (∀ v H', Same H H' → Res X.K hide own σ H H' (.p2 f ca cb) v d → Q v H') → r [v, u] H2 Q) : SE X T M e (.p2 f ca cb) :=
  PE.imp pe fun σ H Q ⟨hide, own, ρ, d, R, m, e, k⟩ => by
    simp only [ev] at e
    obtain ⟨x, ex, e1⟩ := bnd e
    obtain ⟨y, ey, e2⟩ := bnd e1
    exact ⟨hide, own, ρ, x, R, m, ex, fun v H1 s1 r1 => ⟨hide, own, ρ, y, R.grow s1, m, ey, fun u H2 s2 r2 => h hide own σ ρ x y d H H1 H2 Q v u (R.grow (s1.trans s2)) s1 s2 r1 r2 e2 k⟩⟩
structure BF2 (X : Cx) (x : Str) (a b : Expr) (v : Value) : Prop where
  gl : Gl X x
  mg : X.mg x = none
  bt : bootBuiltins x = some v
  nm : x ≠ "__name__"
  db : (x == ("__debug__" : Str)) = false
  st : starEach [a, b] X.env = [(false, eval a X.env), (false, eval b X.env)]
  st2 : starEach [b] X.env = [(false, eval b X.env)]
theorem pe_b2 {id : String} {r : List V → Hp → VK → Prop} (B : BF2 X x a b (.builtin id)) (hc : CallR X (.builtin id) r) (ha : SE X T M a ca) (hb : SE X T M b cb) : PE X (.Call (.Name x p) [a, b] [] pos) (tCB r (tCons (tE X.K T M ca) (tCons (tE X.K T M cb) tNil))) :=
  pe_callB hc B.gl B.mg B.bt (pa_cons ha (pa_cons hb pa_nil B.st2) (by rw [B.st, B.st2])) B.nm B.db (by rw [B.st, B.st2]) (by rw [B.st2]; rfl)
theorem se_min2 (hc : X.calm = true) (B : BF2 X x a b (.builtin "min")) (ha : SE X T M a ca) (hb : SE X T M b cb) : SE X T M (.Call (.Name x p) [a, b] [] pos) (.p2 .min ca cb) :=
  p2_gen (pe := pe_b2 B (call_min2 hc) ha hb) fun hide own σ ρ x y d H H1 H2 Q v u R s1 s2 r1 r2 e k => by
    have i1 := r1.is; have i2 := r2.is
    cases x with
    | int i =>
      cases y with
      | int j =>
        simp only [p2D, Option.some.injEq] at e; subst e
        cases i1; cases i2
        exact ⟨i, j, rfl, k _ _ (s1.trans s2) (.scal rfl (.int _ (K := X.K) (H := H2)))⟩
      | _ => simp [p2D] at e
    | _ => simp [p2D] at e
theorem se_max2 (hc : X.calm = true) (B : BF2 X x a b (.builtin "max")) (ha : SE X T M a ca) (hb : SE X T M b cb) : SE X T M (.Call (.Name x p) [a, b] [] pos) (.p2 .max ca cb) :=
  p2_gen (pe := pe_b2 B (call_max2 hc) ha hb) fun hide own σ ρ x y d H H1 H2 Q v u R s1 s2 r1 r2 e k => by
    have i1 := r1.is; have i2 := r2.is
    cases x with
    | int i =>
      cases y with
      | int j =>
        simp only [p2D, Option.some.injEq] at e; subst e
        cases i1; cases i2
        exact ⟨i, j, rfl, k _ _ (s1.trans s2) (.scal rfl (.int _ (K := X.K) (H := H2)))⟩
      | _ => simp [p2D] at e
    | _ => simp [p2D] at e
/-- gcd, imported -/
theorem se_gcd (hg : Gl X x) (hm : X.mg x = some (.builtin "math.gcd")) (hd : (x == ("__debug__" : Str)) = false) (st : starEach [a, b] X.env = [(false, eval a X.env), (false, eval b X.env)]) (st2 : starEach [b] X.env = [(false, eval b X.env)]) (ha : SE X T M a ca) (hb : SE X T M b cb) :
    SE X T M (.Call (.Name x p) [a, b] [] pos) (.p2 .gcd ca cb) :=
  p2_gen (pe := pe_callBfun cr_gcd hg hm (pa_cons ha (pa_cons hb pa_nil st2) (by rw [st, st2])) hd (by rw [st, st2]) (by rw [st2]; rfl)) fun hide own σ ρ x y d H H1 H2 Q v u R s1 s2 r1 r2 e k => by
    have i1 := r1.is; have i2 := r2.is
    cases x with
    | int i =>
      cases y with
      | int j =>
        simp only [p2D, Option.some.injEq] at e; subst e
        cases i1; cases i2
        exact ⟨i, j, rfl, k _ _ (s1.trans s2) (.scal rfl (.int _ (K := X.K) (H := H2)))⟩
      | _ => simp [p2D] at e
    | _ => simp [p2D] at e
/-! ### repr -/
mutual
theorem nd_noDict : ∀ {d : D}, nd d = true → d.hasDict = false
  | .none, _ => rfl
  | .bool _, _ => rfl
  | .int _, _ => rfl
  | .str _, _ => rfl
  | .list xs, h => by
    simp only [PyData.hasDict]
    exact nd_noDictAll (by simpa only [nd] using h)
  | .tuple xs, h => by
    simp only [PyData.hasDict]
    exact nd_noDictAll (by simpa only [nd] using h)
  | .dict _, h => by simp [nd] at h
theorem nd_noDictAll : ∀ {xs : List D}, ndAll xs = true → PyData.hasDictAll xs = false
  | [], _ => rfl
  | x :: r, h => by
    simp only [ndAll, Bool.and_eq_true] at h
    simp only [PyData.hasDictAll, nd_noDict h.1, nd_noDictAll h.2, Bool.or_false]
end
theorem call_repr (hgd : X.A.guards = some []) (hu : X.A.units + 70 < cLine) : CallR X (.builtin "repr") (fun xs H Q => ∃ Hx v d, xs = [v] ∧ Same Hx H ∧ Is X.K Hx v d ∧ nd d = true ∧ d.showable = true ∧ d.depth ≤ 60 ∧ d.shown.length ≤ sizeLine ∧ Q (.str d.shown) H) := by
  intro pins s σ H xs us Q I r h
  obtain ⟨Hx, v, d, rfl, sm, iv, hn, hs, hd, hz, q⟩ := h
  obtain ⟨u, rfl, ru⟩ := vals1 r
  obtain ⟨as, rd⟩ := Is.reads I sm hn iv ru
  have nh := nd_noDict hn
  have fin : ∀ (h' : Heap) (tk : Tok) (t : Tok), (∀ b o, s.heap.get? b = some o → h'.get? b = some o) → EP X pins σ Q (.str d.shown t) { s with heap := h', toks := tk } := fun h' tk t kk =>
    ⟨.str d.shown, H, I.call' (ch := []) rfl (Un.kept kk) (I.hok.kept kk) I.bare (fun _ z => nomatch z), ⟨t, rfl⟩, q⟩
  have kk0 : ∀ b o, s.heap.get? b = some o → s.heap.get? b = some o := fun _ _ e => e
  cases iv with
  | non => cases ru; exact PySem.P.repr_of_none (fin s.heap _ _ kk0)
  | bl b => cases ru; exact PySem.P.repr_of_bool (fin s.heap _ _ kk0)
  | int i =>
    obtain ⟨t, rfl⟩ := ru
    exact PySem.P.repr_of_int (by simpa [PyData.showable] using hs) (fin s.heap _ _ kk0)
  | str x =>
    obtain ⟨t, rfl⟩ := ru
    exact PySem.P.repr_of_str (fin s.heap _ _ kk0) hz
  | lst _ _ _ => cases ru; exact PySem.repr_of_reads' rd hs (fun z => by rw [nh] at z; cases z) hgd (by omega) kk0 (fun h' t tk kk => fin h' tk t kk) hz
  | tup _ _ _ => cases ru; exact PySem.repr_of_reads' rd hs (fun z => by rw [nh] at z; cases z) hgd (by omega) kk0 (fun h' t tk kk => fin h' tk t kk) hz
  | dcK _ _ => simp [nd] at hn
  | dcT _ _ => simp [nd] at hn
theorem se_repr (hgd : X.A.guards = some []) (hu : X.A.units + 70 < cLine) (B : BF X x a (.builtin "repr")) (ha : SE X T M a ca) : SE X T M (.Call (.Name x p) [a] [] pos) (.p1 .repr ca) :=
  p1_gen (pe := pe_b B (call_repr hgd hu) ha) fun hide own σ ρ y d H H1 Q v R s1 r1 e k => by
    simp only [p1D] at e
    split at e
    · rename_i hc
      simp only [Bool.and_eq_true, decide_eq_true_eq] at hc
      obtain ⟨⟨⟨h1, h2⟩, h3⟩, h4⟩ := hc
      simp only [Option.some.injEq] at e; subst e
      exact ⟨_, v, y, rfl, cut_le, r1.is, h1, h2, h3, h4, k _ _ s1 (.scal rfl (.str _ (K := X.K) (H := H1)))⟩
    · cases e
end
end DI
set_option maxRecDepth 100000
/-! DS0: set(a list of ints), sorted. -/
namespace DI
open PySem PySem.Spec PyProof.Rows L2
section
variable {P : Program} {w : World} {A : Around} {E : Value → Shared → Prop} {s : Shared}
set_option maxRecDepth 100000 in
set_option maxHeartbeats 3200000 in
theorem call_set_lstI {l : Addr} {items : Array Value} (ns : List Int) {Q : Value → Shared → Prop} (hh : A.handled = none) (hl : s.heap.IsList l items) (hit : IntsAre items.toList ns) (hb : ns.length + 1 < scanBound)
    (h : ∀ (h' : Heap) (tk c : Nat), SetR w h' s.heap.objs.size (fun j => decide (j ∈ ns)) c → c ≤ ns.length → (∀ b o, s.heap.get? b = some o → h'.get? b = some o) → Q (.ref s.heap.objs.size) { s with heap := h', toks := tk }) :
    wpAny (model P w) A (call (.type "set") [.ref l]) Q E s := by
  have hisz : items.size = ns.length := by
    have q := IntsAre.length hit
    rw [Array.length_toList] at q
    exact q
  obtain ⟨c, tl, hmro⟩ := F.called_set.mro
  have hmade := F.called_set.made
  have hsub := F.called_set.sub
  refine wpAny_call (codeAny_of_tree ?_)
  show wpAny _ _ (callAny (.type "set") _) _ _ _
  refine wpAny_pure ⟨Code.quiet_builtin _ (by decide +kernel), codeAny_builtin F.entry_type_call ?_⟩
  rw [Around.under_plain (weight_type_call_type "set" [.ref l] []) rfl]
  have h1 := F.called_set.notType
  have h2 := F.called_set.canCreate
  have hct := F.typeCall_set_1 (.ref l)
  repeat (any_goals (first | assumption | wp_step))

  refine codeAny_mono (code_set_led1 (.ref l) (E := E) (Q₁ := fun obj s₁ => obj = .ref s.heap.objs.size ∧ s₁ = { s with heap := s.heap.push { cls := .type "set", dict := none, data := .set #[] 0 (.fresh 0 0 (!w.params.followText "set-order")) } }) ⟨rfl, rfl⟩) fun r s₁ hr => ?_
  cases r with
  | error e => exact hr
  | ok fl =>
    cases fl with
    | ret obj =>
      obtain ⟨rfl, rfl⟩ := hr
      have hS : (s.heap.push { cls := .type "set", dict := none, data := .set #[] 0 (.fresh 0 0 (!w.params.followText "set-order")) }).get? s.heap.objs.size = some { cls := .type "set", dict := none, data := .set #[] 0 (.fresh 0 0 (!w.params.followText "set-order")) } := Heap.get?_push_size _ rfl
      have hT : Shared.TypeIs { s with heap := s.heap.push { cls := .type "set", dict := none, data := .set #[] 0 (.fresh 0 0 (!w.params.followText "set-order")) } } (.ref s.heap.objs.size) "set" := ⟨_, hS, rfl⟩
      have hli := F.called_set.init.lookup
      have hbi := F.called_set.init.bind (.ref s.heap.objs.size)
      repeat (any_goals (first | assumption | wp_step))

      refine codeAny_mono (codeAny_call_builtin (R := wants (fun r s₂ => r = .none ∧ ∃ h' tk c, s₂ = { s with heap := h', toks := tk } ∧ SetR w h' s.heap.objs.size (fun j => decide (j ∈ ns)) c ∧ c ≤ ns.length ∧
          (∀ b o, s.heap.get? b = some o → h'.get? b = some o)) E) F.called_set.init.plain F.entry_set_init (check_set_init_1 hT ?_)) fun r₂ s₂ hr₂ => ?_
      · obtain ⟨ol, hol, hcl, nl, hdl⟩ := hl
        obtain ⟨ocls, odict, odata, oslots⟩ := ol
        simp only at hcl hdl
        subst hcl; subst hdl
        have hol' : (s.heap.push { cls := .type "set", dict := none, data := .set #[] 0 (.fresh 0 0 (!w.params.followText "set-order")) }).get? l = some { cls := .type "list", dict := odict, data := .seq items nl, slots := oslots } := Heap.get?_push_of_some _ hol
        have hsls := F.sub_list_set
        have hslf := F.sub_list_frozenset
        have hne : (Value.type "list" == Value.type "dict") = false := by decide
        have hl1 : (s.heap.push { cls := .type "set", dict := none, data := .set #[] 0 (.fresh 0 0 (!w.params.followText "set-order")) }).IsList l items := ⟨_, hol', rfl, nl, rfl⟩
        unfold Builtin.«set.__init__» noKeywords Builtin.Frozenset.updateFrom
        generalize hPI : pyIter = PI
        wp_walk
        subst hPI

        refine wpAny_pyIter_list hl1 ?_
        refine wpAny_bind (wpAny_runValue ?_)
        have hlS : l < s.heap.objs.size := Heap.lt_size hol
        have hh3 : A.in1.in1.in1.handled = none := by simp [hh]
        have hz1 : (s.heap.push { cls := .type "set", dict := none, data := .set #[] 0 (.fresh 0 0 (!w.params.followText "set-order")) }).objs.size = s.heap.objs.size + 1 := Heap.size_push ..
        have hneI : l ≠ (s.heap.push { cls := .type "set", dict := none, data := .set #[] 0 (.fresh 0 0 (!w.params.followText "set-order")) }).objs.size := by
          rw [Heap.size_push]; exact Nat.ne_of_lt (Nat.lt_succ_of_lt hlS)
        have hSf : s.heap.objs.size ∉ [(s.heap.push { cls := .type "set", dict := none, data := .set #[] 0 (.fresh 0 0 (!w.params.followText "set-order")) }).objs.size, l] := by
          rw [Heap.size_push]; simp only [List.mem_cons, List.mem_singleton, List.not_mem_nil, or_false, not_or]
          exact ⟨Nat.ne_of_lt (Nat.lt_succ_self _), Nat.ne_of_gt hlS⟩
        have hval : ∀ (i : Nat) (v : Value), items[i]? = some v → ∃ k t, ns[i]? = some k ∧ v = .int k t := fun i v hv => by
          have hi : i < ns.length := by rw [← hisz]; exact (Array.getElem?_eq_some_iff.mp hv).1
          obtain ⟨t, e⟩ := PyProof.Rows.IntsAre.int_at hit i v (by rw [Array.getElem?_toList]; exact hv)
          refine ⟨ns[i], t, List.getElem?_eq_getElem hi, ?_⟩
          rw [e, List.getD_eq_getElem?_getD, List.getElem?_eq_getElem hi] <;> rfl
        refine set_update_ints ((Walks.list hh3 _ l hneI items).toS) s.heap.objs.size
          hSf ns hisz hb hval (items.size - 0) 0 _ (by omega) (Nat.zero_le _)
          ⟨⟨_, Heap.get?_push_size _ rfl, rfl, rfl⟩, (hl1.push _)⟩ ?hS0 ?hR
        case hS0 =>
          have hget : ((s.heap.push { cls := .type "set", dict := none, data := .set #[] 0 (.fresh 0 0 (!w.params.followText "set-order")) }).push { cls := .type "list_iterator", data := .fields #[.ref l, .int 0 0] }).get? s.heap.objs.size
              = some { cls := .type "set", dict := none, data := .set #[] 0 (.fresh 0 0 (!w.params.followText "set-order")) } := Heap.get?_push_of_some _ hS
          exact ⟨0, Nat.le_refl 0, setR_new_at hget⟩
        case hR =>
          intro s' c' hm hc' hS'
          obtain ⟨h', g2, d', tk', os'⟩ := s'
          have eg : g2 = s.gens := hm.gens
          have ed : d' = s.drawn := hm.drawn
          have eo : os' = s.os := hm.os
          subst eg; subst ed; subst eo
          show wpAny _ _ _ _ _ _
          refine wpAny_pure ?_
          show wpAny _ _ (ret Value.none) _ _ _
          rw [hisz] at hc'
          refine wpAny_pure ⟨rfl, h', tk', c', rfl, hS', hc', fun b o e => ?_⟩
          have hb0 : b < s.heap.objs.size := Heap.lt_size e
          have hb1 : b ≠ s.heap.objs.size := Nat.ne_of_lt hb0
          have hb2 : b ≠ (s.heap.push { cls := .type "set", dict := none, data := .set #[] 0 (.fresh 0 0 (!w.params.followText "set-order")) }).objs.size := by
            rw [Heap.size_push]; exact Nat.ne_of_lt (Nat.lt_succ_of_lt hb0)
          exact hm.heap b o (by simp only [List.mem_cons, List.mem_singleton, List.not_mem_nil, or_false, not_or]; exact ⟨hb1, hb2⟩) (Heap.get?_push_of_some _ (Heap.get?_push_of_some _ e))

      · cases r₂ with
        | error e => exact hr₂
        | ok fl₂ =>
          cases fl₂ with
          | ret r =>
            obtain ⟨rfl, h', tk, c', rfl, hS', hc', hk'⟩ := hr₂
            repeat (any_goals (first | assumption | wp_step))
            exact h _ _ _ hS' hc' hk'
          | _ => exact hr₂.elim
    | _ => exact hr.elim

end
end DI
set_option maxRecDepth 100000
/-! DS: sorted(set(xs)), whole numbers. -/
namespace DI
open PySem PySem.Spec PyProof.Rows L2
/-! ### rising lists -/
theorem mem_sins {x y : Int} : ∀ {l : List Int}, y ∈ sins x l ↔ y = x ∨ y ∈ l
  | [] => by simp [sins]
  | z :: r => by
    unfold sins
    split
    · simp
    · split
      · rename_i h; subst h; simp
      · simp only [List.mem_cons, mem_sins (l := r)]
        constructor
        · rintro (h | h | h)
          · exact .inr (.inl h)
          · exact .inl h
          · exact .inr (.inr h)
        · rintro (h | h | h)
          · exact .inr (.inl h)
          · exact .inl h
          · exact .inr (.inr h)
theorem sins_pw {x : Int} : ∀ {l : List Int}, l.Pairwise (· < ·) → (sins x l).Pairwise (· < ·)
  | [], _ => by simp [sins]
  | z :: r, h => by
    have h' := List.pairwise_cons.mp h
    unfold sins
    split
    · rename_i hx
      refine List.pairwise_cons.mpr ⟨fun y hy => ?_, h⟩
      rcases List.mem_cons.mp hy with e | e
      · rw [e]; exact hx
      · exact Int.lt_trans hx (h'.1 y e)
    · split
      · exact h
      · refine List.pairwise_cons.mpr ⟨fun y hy => ?_, sins_pw h'.2⟩
        rcases mem_sins.mp hy with e | e
        · rw [e]; omega
        · exact h'.1 y e
theorem mem_ssort {y : Int} : ∀ {l : List Int}, y ∈ ssort l ↔ y ∈ l
  | [] => by simp [ssort]
  | z :: r => by
    show y ∈ sins z (ssort r) ↔ _
    rw [mem_sins, mem_ssort (l := r), List.mem_cons]
theorem ssort_pw : ∀ (l : List Int), (ssort l).Pairwise (· < ·)
  | [] => by simp [ssort]
  | z :: r => sins_pw (ssort_pw r)
theorem pw_unique : ∀ {a b : List Int}, a.Pairwise (· < ·) → b.Pairwise (· < ·) → (∀ k, k ∈ a ↔ k ∈ b) → a = b
  | [], [], _, _, _ => rfl
  | [], y :: s, _, _, h => absurd ((h y).mpr (by simp)) (by simp)
  | x :: r, [], _, _, h => absurd ((h x).mp (by simp)) (by simp)
  | x :: r, y :: s, ha, hb, h => by
    have ha' := List.pairwise_cons.mp ha
    have hb' := List.pairwise_cons.mp hb
    have e : x = y := by
      rcases List.mem_cons.mp ((h x).mp (by simp)) with e | e
      · exact e
      · rcases List.mem_cons.mp ((h y).mpr (by simp)) with e' | e'
        · exact e'.symm
        · have := ha'.1 y e'; have := hb'.1 x e; omega
    subst e
    rw [pw_unique ha'.2 hb'.2 fun k => ?_]
    constructor
    · intro hk
      rcases List.mem_cons.mp ((h k).mp (List.mem_cons_of_mem _ hk)) with e | e
      · have := ha'.1 k hk; omega
      · exact e
    · intro hk
      rcases List.mem_cons.mp ((h k).mpr (List.mem_cons_of_mem _ hk)) with e | e
      · have := hb'.1 k hk; omega
      · exact e
/-! ### sorted(set(xs)) -/
section
variable {X : Cx}
def rSetL (K : PySem.W.Frag) (w : World) : List V → Hp → VK → Prop := fun xs H Q => ∃ (a : Addr) (ns : List Int), xs = [V.ref a] ∧ SqL K H a (ns.map V.int) ∧ ns.length + 1 < scanBound ∧ ∀ p c, H p = none → c ≤ ns.length → Q (.ref p) (upd H p (SetO w p (fun j => decide (j ∈ ns)) c))
theorem cr_setL (hc : X.calm = true) : CallR X (.type "set") (rSetL X.K X.w) := by
  intro pins s σ H xs us Q I r h
  obtain ⟨a, ns, rfl, hq, hb, q⟩ := h
  obtain ⟨u, rfl, ru⟩ := vals1 r
  cases ru
  obtain ⟨its, rv, pl, hz⟩ := I.list hq
  refine call_set_lstI ns (I.ok.hd hc) pl.isList (by simpa using rv.ints) hb fun h' tk c hS hc' hk => ?_
  exact ⟨.ref _, upd H s.heap.objs.size (SetO X.w s.heap.objs.size (fun j => decide (j ∈ ns)) c), I.laid (t' := tk) hk (Nat.le_refl _) (setO_new hS), rfl, q _ _ (I.hok.fresh (Nat.le_refl _)) hc'⟩
variable {T : Nat → List D → Option D} {M : List Nat} {a : Expr} {ca : CE} {p p2 q pos : Pos}
theorem isAll_ints {K : PySem.W.Frag} {H : Hp} : ∀ {xs : List D} {is : List Int} {vs : List V}, asIs xs = some is → IsAll K H vs xs → vs = is.map V.int
  | [], is, vs, h, r => by
    simp only [asIs, Option.some.injEq] at h
    subst h
    cases r
    rfl
  | x :: r, is, vs, h, q => by
    cases x with
    | int i =>
      simp only [asIs] at h
      obtain ⟨js, h1, rfl⟩ := mpd h
      cases q with
      | cons q1 q2 =>
        cases q1
        rw [isAll_ints h1 q2]
        rfl
    | _ => simp [asIs] at h
theorem ints_isAll {K : PySem.W.Frag} {H : Hp} : ∀ (is : List Int), IsAll K H (is.map V.int) (is.map PyData.int)
  | [] => .nil
  | i :: r => .cons (.int i) (ints_isAll r)
theorem se_sset (hc : X.calm = true) (g1 : Gl X "sorted") (m1 : X.mg "sorted" = none) (b1 : bootBuiltins "sorted" = some (.builtin "sorted")) (g2 : Gl X "set") (m2 : X.mg "set" = none) (b2 : bootBuiltins "set" = some (.type "set")) (st : starEach [a] X.env = (false, eval a X.env) :: starEach [] X.env) (ha : SE X T M a ca) :
    SE X T M (.Call (.Name "sorted" p) [.Call (.Name "set" p2) [a] [] q] [] pos) (.p1 .sset ca) :=
  PE.imp (pe_callB (cr_sortedSet hc) g1 m1 b1 (pa_cons (pe_callTy (cr_setL hc) g2 m2 b2 (pa_cons ha pa_nil st) (by decide) (by decide) st rfl) pa_nil rfl) (by decide) (by decide) rfl rfl) fun σ H Q ⟨hide, own, ρ, d, R, m, e, k⟩ => by
    simp only [ev] at e
    obtain ⟨x, ex, e1⟩ := bnd e
    refine ⟨hide, own, ρ, x, R, m, ex, fun v H1 s1 r1 => ?_⟩
    cases x with
    | list xs =>
      simp only [p1D] at e1
      obtain ⟨is, ei, e2⟩ := bnd e1
      split at e2
      · rename_i hl
        simp only [Option.some.injEq] at e2
        subst e2
        obtain ⟨l, vs, rfl, h1, n1, q1⟩ := r1.elH
        have hv := isAll_ints ei q1
        subst hv
        refine ⟨l, is, rfl, h1, Nat.lt_trans (Nat.succ_lt_succ hl) (by decide), fun p' c np hc' => ?_⟩
        refine ⟨p', _, c, rfl, upd_same, Nat.lt_of_le_of_lt hc' hl, fun ns p'' hpw hmem hlen np' => ?_⟩
        have en : ns = ssort is := pw_unique hpw (ssort_pw is) fun k => by rw [hmem, mem_ssort]; simp
        subst en
        have s2 : Same H1 (upd H1 p' (SetO X.w p' (fun j => decide (j ∈ is)) c)) := same_upd_new np
        have s3 := s1.trans s2
        exact k _ _ (s3.trans (same_upd_new np')) (Res.newl (by simp only [al, ale]) (R.grow s3) s3 np' (by rw [List.length_map, hlen]; exact Nat.le_trans hc' (Nat.le_trans (Nat.le_of_lt hl) (by decide))) (ints_isAll _))
      · cases e2
    | _ => simp [p1D] at e1
end
end DI
set_option maxRecDepth 100000
/-! DG: a def's promise where no guard of a repr is under way (callerA has none): the layer's rules for a call, a def and the end, with that one fact threaded. -/
namespace DI
open PySem PySem.Spec PyProof.Rows L2
structure FnOkG (P : Program) (w : World) (K : PySem.W.Frag) (mg : Str → Option Value) (base : Heap) (CX : CXT) (k : Nat) (f : Addr) (fd : FuncData) (ps : List Str) (sp : Sp) : Prop where
  len : ∀ vs H Q E, sp vs H Q E → vs.length = ps.length
  run : ∀ (A : Around) (outer : List PySem.Env) (s : Shared) (H : Hp) (args : Args) (us : List Value) (vs : List V) (Q : VK) (E : XK), Room k A → A.guards = some [] → Env0 P w K mg base A outer s H → BindsTo s fd args (ps.zip us) → Vals vs us → sp vs H Q E →
    codeAny (model P w) A (.call (.ref f) args) (CR CX outer P w H s Q E) s
theorem FnOkG.imp {P : Program} {w : World} {K : PySem.W.Frag} {mg : Str → Option Value} {base : Heap} {CX : CXT} {k : Nat} {f : Addr} {fd : FuncData} {ps : List Str} {sp sp' : Sp} (F : FnOkG P w K mg base CX k f fd ps sp)
    (h : ∀ vs H Q E, sp' vs H Q E → sp vs H Q E) : FnOkG P w K mg base CX k f fd ps sp' :=
  ⟨fun vs H Q E q => F.len vs H Q E (h _ _ _ _ q), fun A outer s H args us vs Q E hr hg he hb hv hs => F.run A outer s H args us vs Q E hr hg he hb hv (h _ _ _ _ hs)⟩
section
variable {X : Cx} {CX : CXT} {k : Nat} {f : Addr} {fd : FuncData} {ps : List Str} {sp : Sp} {ds : List Value} {dvs : List V} {E : XK} {x : Str} {p pos : Pos} {e : Expr} {es : List Expr} {t : TA}
theorem run_fnG {pins : List (Addr × Obj)} {σ : L2.St} {H : Hp} {s : Shared} {Q : VK} {us : List Value} {vs : List V} (F : FnOkG X.prog X.w X.K X.mg X.base CX k f fd ps sp) (hr : Room k X.A) (hgd : X.A.guards = some []) (hb : Binds X.K fd ps ds) (hd : Vals dvs ds) (hx : Passes CX X E)
    (I : Inv X pins σ H s) (r : Vals vs us) (h : sp (vs ++ dvs) H Q E) : wpAny (model X.prog X.w) X.A (call (.ref f) us) (EP X pins σ Q) X.xe s := by
  have r2 : Vals (vs ++ dvs) (us ++ ds) := r.append hd
  have hl : (us ++ ds).length = ps.length := by rw [← r2.length]; exact F.len _ _ _ _ h
  refine wpAny_call (codeAny_mono (F.run X.A X.stack s H ⟨us, []⟩ (us ++ ds) (vs ++ dvs) Q E hr hgd I.env0 (hb s us I.kIn hl) r2 h) fun r s' hq => ?_)
  cases r with
  | error e => exact hx pins σ H s e s' I hq
  | ok fl =>
    cases fl with
    | ret u => exact I.after hq
    | next => exact False.elim hq
    | brk => exact False.elim hq
    | cont => exact False.elim hq

theorem pe_callG (F : FnOkG X.prog X.w X.K X.mg X.base CX k f fd ps sp) (hr : Room k X.A) (hgd : X.A.guards = some []) (hg : Gl X x) (hm : X.mg x = some (.ref f)) (hk : PySem.W.keepIn X.K (.ref f) = true) (hb : Binds X.K fd ps ds) (hd : Vals dvs ds) (hx : Passes CX X E)
    (ha : PA X (e :: es) t) (hdb : (x == ("__debug__" : Str)) = false := by decide) (he : starEach (e :: es) X.env = (false, eval e X.env) :: starEach es X.env := by rfl) (hpl : (backTo pos (starEach es X.env)).any (·.1) = false := by rfl) :
    PE X (.Call (.Name x p) (e :: es) [] pos) (tCall sp dvs E t) := by
  refine ⟨fun pins s σ H Q I h => ?_⟩
  refine wpAny_Call_Name_kw (ld_glob I hg hm ?_ hdb)
  refine PySem.W.callWith_K (h₀ := X.base) I.ok.mod.kin hk (thn (ha.run pos pins s σ H _ I h) fun us s1 ⟨vs, H1, I1, r, q⟩ => ⟨I1.kIn, ?_⟩) he hpl
  exact run_fnG F hr hgd hb hd hx I1 r q
end
theorem fn_ofG {CX : CXT} {P : Program} {w : World} {K : PySem.W.Frag} {mg : Str → Option Value} {base : Heap} {k : Nat} {f : Addr} {name qual : Str} {params : Arguments} {body : List Stmt} {scope : Scope} {dV kV doc pm cdv ct oc : Value} {an od : Option Addr}
    {osl : Array (Option Value)} {N ps : List Str} {sp : Sp} (lk : K.lookup f = some ⟨oc, od, .func (PySem.W.fnOf name qual params body scope dV kV doc pm an cdv ct), osl⟩) (hcd : PySem.W.codeIn K cdv qual = true) (S : FnScope N ps scope)
    (len : ∀ vs H Q E, sp vs H Q E → vs.length = ps.length)
    (hbody : ∀ (A : Around) (outer : List PySem.Env) (s : Shared) (H : Hp) (vs : List V) (Q : VK) (E : XK), Room k (A.deeper (envOfC qual scope s.heap.objs.size f cdv)) → A.guards = some [] → sp vs H Q E →
      ∃ t, PSs (cxOf CX P w K mg base N qual scope f cdv A outer s H E) body t ∧ t { nx := fun _ H' => Q .non H', rt := Q } (L2.start N vs) H) :
    FnOkG P w K mg base CX (k + 1) f (PySem.W.fnOf name qual params body scope dV kV doc pm an cdv ct) ps sp := by
  refine ⟨len, fun A outer s H args us vs Q E hr hgd e0 hb r hsp => ?_⟩
  have hl := len _ _ _ _ hsp
  have KX : K.In s.heap := e0.mod.kin.keeps fun b o e => (e0.bs b o e).1
  have lim : s.heap.NoLimit := e0.mod.nolimit.keeps fun b o e => (e0.bs b o e).1
  have hkind : ∀ y ∈ ps.zip us, scope.names.lookup y.1 = some .local ∨ (scope.names.lookup y.1 = some .cell ∧ ((cellsFrom (s.heap.objs.size + 1) scope.names []).lookup y.1).isSome = true) := fun ⟨n, v⟩ hy => by
    rcases S.par n (List.of_mem_zip hy).1 with q | q
    · exact .inl q
    · exact .inr ⟨q, PySem.W.cellsFrom_some _ _ _ (.inl q)⟩
  refine codeAny_call_function hr.depth (KX _ _ lk) rfl S.co S.gen rfl (PySem.W.codeRec_of KX hcd) (hb _ _ _ _ ?_)
  refine wpAny_newFunctionEnv_cells S.kind hkind fun env he s1 x => ?_
  subst he
  refine ⟨lim.keeps x.toInCall.keep, codeAny_func ?_⟩
  obtain ⟨t, ht, hq⟩ := hbody A outer s H vs Q E (hr.deeper _) hgd hsp
  have I : Inv (cxOf CX P w K mg base N qual scope f cdv A outer s H E) [] (L2.start N vs) H s1 := inv_start S hr.hd e0 hl r x
  refine wpAny_mono (ht.run [] s1 (L2.start N vs) H _ I hq) (fun fl s' hs => ?_) fun e s' hs => hs
  have fin : ∀ {σ' : L2.St} {H' : Hp} {v : V} {u : Value}, Inv (cxOf CX P w K mg base N qual scope f cdv A outer s H E) [] σ' H' s' → RelV v u → Q v H' → L2.CE outer P w H s Q u s' :=
    fun {σ' H' v u} J rv q => ⟨v, H', J.os, J.bare, J.base, J.hok, rv, q⟩
  cases fl with
  | ret u =>
    obtain ⟨v, σ', H', J, rv, q⟩ := hs
    exact fin J rv q
  | next =>
    obtain ⟨σ', H', J, q⟩ := hs
    exact fin (v := V.non) (u := Value.none) J rfl q
  | brk =>
    obtain ⟨_, _, _, q⟩ := hs
    exact False.elim q
  | cont =>
    obtain ⟨_, _, _, q⟩ := hs
    exact False.elim q
section
variable {P : Program} {w : World} {K : PySem.W.Frag} {mg : Str → Option Value} {base : Heap}
theorem Fun.okG {x qual : Str} {st : Stmt} {f : Addr} {fd : FuncData} {N ps : List Str} {k : Nat} {sp : Sp} (F : Fun K x qual st f fd) (S : FnScope N ps (defScope st)) (len : ∀ vs H Q E, sp vs H Q E → vs.length = ps.length)
    (hbody : ∀ (cdv : Value) (A : Around) (outer : List PySem.Env) (s : Shared) (H : Hp) (vs : List V) (Q : VK) (E : XK), Room k (A.deeper (envOfC qual (defScope st) s.heap.objs.size f cdv)) → A.guards = some [] → sp vs H Q E →
      ∃ t, PSs (cxOf CX0 P w K mg base N qual (defScope st) f cdv A outer s H E).nox (defBody st) t ∧ t { nx := fun _ H' => Q .non H', rt := Q } (L2.start N vs) H) : FnOkG P w K mg base CX0 (k + 1) f fd ps sp := by
  obtain ⟨oc, od, kV, doc, pm, an, cdv, ct, osl, rfl, lk, hcd⟩ := F.ex
  refine fn_ofG lk hcd S len fun A outer s H vs Q E hr hgd hsp => ?_
  obtain ⟨t, h, q⟩ := hbody cdv A outer s H vs Q E hr hgd hsp
  exact ⟨t, h.nox, q⟩
end
theorem law_callG {P : Program} {w : World} {K : PySem.W.Frag} {mg mb : Str → Option Value} {CX : CXT} {k : Nat} {fa a : Addr} {fd : FuncData} {x : Str} {sp : Sp} {s₁ : Shared} {vs : List Value} {ns : List Int}
    (KX : K.In s₁.heap) (hns : s₁.heap.Ns mainGlobals mg) (hb : s₁.heap.Ns builtinsNs mb) (hbb : ∀ x : Str, x ≠ "__name__" → mb x = bootBuiltins x) (hlim : s₁.heap.NoLimit) (hg : s₁.gens = #[])
    (ha : s₁.heap.get? a = some { cls := .type "list", data := .seq vs.toArray }) (hi : IntsAre vs ns) (hl : ns.length ≤ sizeLine) (hr : Room k callerA)
    (F : ∀ base : Heap, K.In base → base.Ns mainGlobals mg → FnOkG P w K mg base CX k fa fd [x] sp) (hbind : ∀ (s : Shared) (u : Value), BindsTo s fd ⟨[u], []⟩ [(x, u)])
    (hsp : ∀ H : Hp, Only H → SqL K H a (ns.map V.int) → sp [.ref a] H (fun v _ => v = .bl true) fun _ _ _ => False)
    (hCX : ∀ H e s', CX [] H s₁ (fun _ _ _ => False) e s' → False) :
    codeAny (model P w) callerA (.call (.ref fa) ⟨[.ref a], []⟩) (fun r s' => r = .ok (.ret (.bool true)) ∧ OldK s₁.heap s'.heap ∧ s'.os = s₁.os ∧ AllBare s'.gens) s₁ := by
  have rv := vals_ints hi
  have lenV := hi.length
  -- from an abstract heap in which nothing but the script may be tracked
  have core : ∀ H : Hp, Only H → SqL K H a (ns.map V.int) → HOk P w H s₁.heap → (∀ b, H b ≠ none → b = a) → (H a ≠ none → K.lookup a = none) →
      codeAny (model P w) callerA (.call (.ref fa) ⟨[.ref a], []⟩) (fun r s' => r = .ok (.ret (.bool true)) ∧ OldK s₁.heap s'.heap ∧ s'.os = s₁.os ∧ AllBare s'.gens) s₁ := by
    intro H hO hS hok hA hK
    have base_of : ∀ {b : Addr} {o : Obj}, s₁.heap.get? b = some o → H b = none → (hidT s₁.heap H).get? b = some o := fun e n => hidT_get e n
    have noA : ∀ {b : Addr} {o : Obj} {es : Array DictEntry} {ep : Nat}, s₁.heap.get? b = some o → o.data = .dict es ep → H b = none := fun {b o es ep} e d => by
      cases q : H b with
      | none => rfl
      | some u =>
        have e' : b = a := hA b (by rw [q]; simp)
        subst e'
        rw [ha] at e; cases e
        have d' : Data.seq vs.toArray _ = Data.dict es ep := d
        cases d'
    have nsK : ∀ {b : Addr} {m : Str → Option Value}, s₁.heap.Ns b m → (hidT s₁.heap H).Ns b m := fun {b m} ⟨o, es, ep, e, d, r⟩ => ⟨o, es, ep, base_of e (noA e d), d, r⟩
    have hKb : K.In (hidT s₁.heap H) := fun b o e => base_of (KX b o e) (by
      cases q : H b with
      | none => rfl
      | some u =>
        have e' : b = a := hA b (by rw [q]; simp)
        subst e'
        rw [hK (by rw [q]; simp)] at e; cases e)
    have hM : Mod K mg (hidT s₁.heap H) := ⟨hKb, nsK hns, ⟨mb, nsK hb, hbb⟩, let ⟨mc, h1, h2⟩ := hlim; ⟨mc, nsK h1, h2⟩⟩
    have e0 : Env0 P w K mg (hidT s₁.heap H) callerA [] s₁ H := ⟨rfl, hM, fun b o e => of_hidT e, Nat.le_of_eq (hidT_size _ _), trivial, fun b hb => absurd (show b ∈ ([] : List Addr) from hb) (by simp), hok, .of_eq hg⟩
    refine codeAny_mono ((F _ hKb (nsK hns)).run callerA [] s₁ H ⟨[.ref a], []⟩ [.ref a] [.ref a] _ _ hr rfl e0 (hbind s₁ (.ref a)) (.cons rfl .nil) (hsp H hO hS)) fun r s' h => ?_
    cases r with
    | error e => exact (hCX H e s' h).elim
    | ok fl =>
      cases fl with
      | next => exact False.elim h
      | brk => exact False.elim h
      | cont => exact False.elim h
      | ret u =>
        obtain ⟨v, H', os, bare, un, hok', r', q⟩ := h
        have q' : v = .bl true := q
        subst q'
        obtain rfl : u = Value.bool true := r'
        refine ⟨rfl, OldK.of_keep fun b o e => ?_, os, bare⟩
        cases q : H b with
        | none => exact un.keep b o e q (by intro z; exact absurd (show b ∈ ([] : List Addr) from z) (by simp)) (by simp)
        | some u =>
          rcases hO b with z | ⟨ob, xs, z⟩
          · rw [q] at z; cases z
          · have z2 := un.frzs b ob _ z
            obtain ⟨e1, _⟩ := hok b _ z
            obtain ⟨e2, _⟩ := hok' b _ z2
            rw [e] at e1; cases e1
            exact e2
  cases hk : K.lookup a with
  | some o =>
    -- the script is one of the module's own objects
    have e := KX a o hk
    rw [ha] at e
    cases e
    refine core (fun _ => none) (fun _ => .inl rfl) (.inr ⟨_, vs.toArray, _, hk, rfl, rfl, rfl, by rw [List.size_toArray, lenV]; exact hl, by simpa using rv⟩) (fun b u z => by have z' : (none : Option HO) = some u := z; cases z') (fun b z => absurd rfl z) fun z => absurd rfl z
  | none =>
    refine core (fun b => if b = a then some (.frz { cls := .type "list", data := .seq vs.toArray } (.lst (ns.map V.int))) else none) (fun b => ?_) (.inl (.inr ⟨{ cls := .type "list", data := .seq vs.toArray }, if_pos rfl⟩)) (fun b u z => ?_) (fun b z => ?_) fun _ => hk
    · by_cases hb : b = a
      · exact .inr ⟨_, _, if_pos hb⟩
      · exact .inl (if_neg hb)
    · by_cases hb : b = a
      · have z' := (if_pos hb).symm.trans z
        cases z'
        subst hb
        exact ⟨ha, by rw [List.length_map]; exact hl, vs, _, rv, ha⟩
      · have z' := (if_neg hb).symm.trans z
        cases z'
    · by_cases hb : b = a
      · exact hb
      · exact absurd (if_neg hb) z
theorem walk_ofG {l : PySem.W.OpenLaw} {n k : Nat} {q : Program} {loose : List Str} {XP : (Str → Option Value) → Heap → Prop} {YP : World → Heap → Prop} {d : DefRec} {K : Params → PySem.W.Frag} {CX : World → CXT} {sp : World → Sp} {x : Str}
    (hn : l.most = some n) (hn2 : n ≤ sizeLine) (hdf : d.params.defaults = []) (hr : Room k callerA)
    (hY : ∀ (w : World) (h : Heap), YP w h → (K w.params).In h)
    (F : ∀ (w : World) (mg : Str → Option Value) (fa : Addr) (h : Heap), (K w.params).In h → h.Ns mainGlobals mg → mg d.name = some (.ref fa) →
      ∃ fd : FuncData, (∀ (s : Shared) (u : Value), BindsTo s fd ⟨[u], []⟩ [(x, u)]) ∧
        ∀ base : Heap, (K w.params).In base → base.Ns mainGlobals mg → FnOkG l.prog w (K w.params) mg base (CX w) k fa fd [x] (sp w))
    (hsp : ∀ (w : World) (H : Hp) (a : Addr) (ns : List Int), ns.length ≤ n → Only H → SqL (K w.params) H a (ns.map V.int) → sp w [.ref a] H (fun v _ => v = .bl true) fun _ _ _ => False)
    (hCX : ∀ (w : World) (H : Hp) (s : Shared) (e : Value) (s' : Shared), CX w [] H s (fun _ _ _ => False) e s' → False) :
    PySem.W.WalkO q loose XP YP l.row.toRowW d [] (fun f vs => PySem.call f vs) := by
  refine Att.attach_call hn hdf fun w s₀ s₁ mg mb fa o pm cd doc a vs ns G Y ho hd hcd hmg hobj hints hlen hg => ?_
  have KX := hY w _ Y
  obtain ⟨fd, hb, hF⟩ := F w mg fa _ KX G.T.g hmg
  exact law_callG KX G.T.g G.T.b G.T.builtins G.T.nolimit hg hobj hints (Nat.le_trans hlen hn2) hr hF hb (fun H hO hS => hsp w H a ns hlen hO hS) fun H e s' => hCX w H s₁ e s'
end DI
set_option maxRecDepth 100000
set_option maxHeartbeats 1000000
/-! DI: calls of defs, methods, targets, what is walked, comprehensions. -/
namespace DI
open PySem L2
section
variable {X : Cx} {T : Nat → List D → Option D} {M : List Nat} {e a b : Expr} {ca cb cc c : CE} {pos : Pos}

/-! ### a def's promise over data -/
/-- arguments that stand for ds give a value that stands for d; what was tracked stays; the value reaches nothing that was hidden -/
def spD (K : PySem.W.Frag) (n : Nat) (g : List D → Option D) : Sp := fun vs H Q _ => vs.length = n ∧ ∃ hide ds d, (∀ b, hide b → H b ≠ none) ∧ IsAll K (cut hide H) vs ds ∧ g ds = some d ∧ ∀ v H', Same H H' → Is K (cut hide H') v d → Q v H'
/-- a def of the text, as callers need it -/
structure FD (P : Program) (w : World) (K : PySem.W.Frag) (mg : Str → Option Value) (base : Heap) (x : Str) (k n : Nat) (g : List D → Option D) : Prop where
  ex : ∃ f fd ps, mg x = some (.ref f) ∧ FnOkG P w K mg base CX0 k f fd ps (spD K n g) ∧ PySem.W.keepIn K (.ref f) = true ∧ Binds K fd ps []
variable {x : Str} {p : Pos} {k n f : Nat}
theorem call_spD {es : List Expr} {cs : CEs} {t : TE} (pe : PE X e t) (hn : cs.length = n)
    (ht : ∀ σ H Q, tA X.K T M cs σ H (fun vs H1 => spD X.K n (T f) vs H1 Q E0) → t σ H Q) : SE X T M e (.call f cs) :=
  PE.imp pe fun σ H Q ⟨hide, own, ρ, d, R, m, e, k⟩ => by
    simp only [ev] at e
    obtain ⟨ds, eds, e1⟩ := bnd e
    refine ht σ H Q ⟨hide, own, ρ, ds, R, m, eds, fun vs H1 s1 r1 => ⟨by rw [r1.length, evs_len eds, hn], hd hide (diff own (als cs)) σ, ds, d, fun b hb z => (R.grow s1).nroot z diff_own hb, r1, e1, fun v H2 s2 i2 => ?_⟩⟩
    exact k v H2 (s1.trans s2) (.of_is (by simp only [al, ale]) rfl (by simpa only [al] using i2))
theorem cals_spD {es : List Expr} {cs : CEs} {t : TE} (pe : PE X e t) (hn : cs.length = n)
    (ht : ∀ σ H Q, tA X.K T M cs σ H (fun vs H1 => spD X.K n (T f) vs H1 Q E0) → t σ H Q) : SE X T M e (.cals f cs) :=
  PE.imp pe fun σ H Q ⟨hide, own, ρ, d, R, m, e, k⟩ => by
    simp only [ev] at e
    obtain ⟨ds, eds, e1⟩ := bnd e
    obtain ⟨d2, e2, e3⟩ := bnd e1
    split at e3
    · rename_i hsc
      cases e3
      refine ht σ H Q ⟨hide, own, ρ, ds, R, m, eds, fun vs H1 s1 r1 => ⟨by rw [r1.length, evs_len eds, hn], hd hide (diff own (als cs)) σ, ds, d, fun b hb z => (R.grow s1).nroot z diff_own hb, r1, e2, fun v H2 s2 i2 => ?_⟩⟩
      exact k v H2 (s1.trans s2) (.scal hsc i2)
    · cases e3
theorem pe_fd {es : List Expr} {cs : CEs} {g : List D → Option D} (F : FD X.prog X.w X.K X.mg X.base x k n g) (hr : Room k X.A) (hgd : X.A.guards = some []) (hg : Gl X x) (hdb : (x == ("__debug__" : Str)) = false) (ha : SA X T M (e :: es) cs)
    (he : starEach (e :: es) X.env = (false, eval e X.env) :: starEach es X.env) (hpl : (backTo pos (starEach es X.env)).any (·.1) = false) :
    ∃ t, PE X (.Call (.Name x p) (e :: es) [] pos) t ∧ ∀ σ H Q, tA X.K T M cs σ H (fun vs H1 => spD X.K n g vs H1 Q E0) → t σ H Q := by
  obtain ⟨f, fd, ps, hm, F, hk, hb⟩ := F.ex
  exact ⟨_, pe_callG F hr hgd hg hm hk hb .nil pass0 ha hdb he hpl, fun σ H Q h => by
    obtain ⟨hide, own, ρ, ds, R, m, eds, q⟩ := h
    exact ⟨hide, own, ρ, ds, R, m, eds, fun vs H1 s1 r1 => by show spD X.K n g (vs ++ []) H1 Q E0; rw [List.append_nil]; exact q vs H1 s1 r1⟩⟩
theorem se_call {es : List Expr} {cs : CEs} (F : FD X.prog X.w X.K X.mg X.base x k n (T f)) (hr : Room k X.A) (hgd : X.A.guards = some []) (hg : Gl X x) (hdb : (x == ("__debug__" : Str)) = false) (hn : cs.length = n) (ha : SA X T M (e :: es) cs)
    (he : starEach (e :: es) X.env = (false, eval e X.env) :: starEach es X.env) (hpl : (backTo pos (starEach es X.env)).any (·.1) = false) : SE X T M (.Call (.Name x p) (e :: es) [] pos) (.call f cs) := by
  obtain ⟨t, h1, h2⟩ := pe_fd (p := p) F hr hgd hg hdb ha he hpl
  exact call_spD (es := e :: es) h1 hn h2
theorem se_cals {es : List Expr} {cs : CEs} (F : FD X.prog X.w X.K X.mg X.base x k n (T f)) (hr : Room k X.A) (hgd : X.A.guards = some []) (hg : Gl X x) (hdb : (x == ("__debug__" : Str)) = false) (hn : cs.length = n) (ha : SA X T M (e :: es) cs)
    (he : starEach (e :: es) X.env = (false, eval e X.env) :: starEach es X.env) (hpl : (backTo pos (starEach es X.env)).any (·.1) = false) : SE X T M (.Call (.Name x p) (e :: es) [] pos) (.cals f cs) := by
  obtain ⟨t, h1, h2⟩ := pe_fd (p := p) F hr hgd hg hdb ha he hpl
  exact cals_spD (es := e :: es) h1 hn h2

/-! ### methods -/
def plainBase : Expr → Bool
  | .Name _ _ => true
  | .Subscript _ _ _ => true
  | .List _ _ => true
  | .BinOp _ _ _ _ => true
  | .Call (.Name _ _) (_ :: _) _ _ => true
  | _ => false
theorem base_ok {o : Expr} {name : Str} {env : PySem.Env} (h : plainBase o = true) : attributeBase o name env (eval o env) = eval o env := by
  cases o with
  | Name _ _ => rfl
  | Subscript _ _ _ => rfl
  | List _ _ => rfl
  | BinOp _ _ _ _ => rfl
  | Call f as ks p =>
    cases f with
    | Name i p =>
      cases as with
      | nil => simp [plainBase] at h
      | cons _ _ => rfl
    | _ => simp [plainBase] at h
  | _ => simp [plainBase] at h
theorem placeD_some {y : D} : ∀ {xs : List D} {i j : Nat}, placeD y i xs = some j → ∃ m z, j = i + m ∧ xs[m]? = some z ∧ PyData.eqv z y = true ∧ ∀ (q : Nat) (z' : D), q < m → xs[q]? = some z' → PyData.eqv z' y = false
  | [], _, _, h => by simp [placeD] at h
  | x :: r, i, j, h => by
    simp only [placeD] at h
    split at h
    · rename_i hx
      cases h
      exact ⟨0, x, rfl, rfl, hx, fun q z' hq => absurd hq (Nat.not_lt_zero _)⟩
    · rename_i hx
      obtain ⟨m, z, e1, e2, e3, e4⟩ := placeD_some h
      refine ⟨m + 1, z, by omega, by simpa using e2, e3, fun q z' hq hz => ?_⟩
      cases q with
      | zero => simp at hz; subst hz; simpa using hx
      | succ q => exact e4 q z' (by omega) (by simpa using hz)
structure ME (X : Cx) (o e : Expr) (name : Str) (apos cpos : Pos) : Prop where
  base : plainBase o = true
  line : (apos.endLine == cpos.line) = true
  st : starEach [e] X.env = [(false, eval e X.env)]
theorem se_index {apos cpos : Pos} (hu : X.A.units + 70 < cLine) (Z : ME X a b "index" apos cpos) (ha : SE X T M a ca) (hb : SE X T M b cb) : SE X T M (.Call (.Attribute a "index" apos) [b] [] cpos) (.p2 .index ca cb) :=
  PE.imp (pe_bm PySem.F.plainAttrs_list PySem.F.slot_list_index PySem.F.type_list_index (mt_indexD (by omega)) ha (pa_cons hb pa_nil Z.st) (base_ok Z.base) (by rw [Z.st]; rfl) Z.line Z.st rfl) fun σ H Q ⟨hide, own, ρ, d, R, m, e, k⟩ => by
    simp only [ev] at e
    obtain ⟨x, ex, e1⟩ := bnd e
    obtain ⟨y, ey, e2⟩ := bnd e1
    refine ⟨hide, own, ρ, x, R, m, ex, fun v H1 s1 r1 => ?_⟩
    cases x with
    | list xs =>
      simp only [p2D] at e2
      split at e2
      · rename_i hz
        obtain ⟨i, ei, rfl⟩ := mpd e2
        obtain ⟨q, vs, ev', h1, n1, q1⟩ := r1.elH
        subst ev'
        refine ⟨.inl ⟨rfl, vs, h1⟩, hide, own, ρ, y, R.grow s1, m, ey, fun u H2 s2 r2 => ?_⟩
        obtain ⟨p1, p2, p3, p4⟩ := okEq_dp (Same.refl H2) (r2.is.mono cut_le) ((r1.is.mono cut_le).mono s2) hz
        obtain ⟨mm, z, e4, e5, e6, e7⟩ := placeD_some ei
        have : i = mm := by omega
        subst this
        exact ⟨q, u, y, xs, i, z, rfl, rfl, p2, p1, p4, p3, e5, e6, e7, k _ _ (s1.trans s2) (.scal rfl (.int _ (K := X.K) (H := H2)))⟩
      · cases e2
    | _ => simp [p2D] at e2
theorem plain_nd : ∀ {d : D}, d.plain = true → nd d = true
  | .none, _ => rfl
  | .bool _, _ => rfl
  | .int _, _ => rfl
  | .str _, _ => rfl
  | .list xs, h => by
    simp only [PyData.plain] at h
    rw [nd_list]
    exact all h
  | .tuple xs, h => by
    simp only [PyData.plain] at h
    rw [nd_tuple]
    exact all h
  | .dict _, h => by simp [PyData.plain] at h
where all : ∀ {ds : List D}, PyData.plainAll ds = true → ndAll ds = true
  | [], _ => by simp [ndAll]
  | d :: ds, h => by
    simp only [PyData.plainAll, Bool.and_eq_true] at h
    simp only [ndAll, Bool.and_eq_true]
    exact ⟨plain_nd h.1, all h.2⟩
theorem mt_countD (hu : X.A.units + 70 < cLine) : MtR X "list.count" (fun x xs H Q => ∃ a y d ds vs, x = V.ref a ∧ xs = [y] ∧ SqL X.K H a vs ∧ IsAll X.K H vs ds ∧ Is X.K H y d ∧ okCount d ds = true ∧ Q (.int (ds.countP fun z => PyData.eqv z d : Nat)) H) := by
  intro pins s σ H x xs v us Q I rx rxs h
  obtain ⟨a, y, d, ds, vs, rfl, rfl, hs, hr, hy, hok, q⟩ := h
  cases rx
  obtain ⟨u, rfl, ru⟩ := rxs.one
  simp only [okCount, Bool.and_eq_true, decide_eq_true_eq] at hok
  obtain ⟨its, rv, hl, _⟩ := I.list hs
  obtain ⟨as, ra⟩ := IsAll.reads I (Same.refl H) (plain_nd.all hok.1.1) hr rv
  obtain ⟨bs, rb⟩ := Is.reads I (Same.refl H) (plain_nd hok.1.2) hy ru
  exact SeqAt.count_list_data hl.isList (by simpa using ra) rb hok.1.1 hok.1.2 (by have := Nat.min_le_left (PyData.depthAll ds) d.depth; omega) ⟨.int _, H, I.tok _, ⟨_, rfl⟩, q⟩
theorem se_count {apos cpos : Pos} (hu : X.A.units + 70 < cLine) (Z : ME X a b "count" apos cpos) (ha : SE X T M a ca) (hb : SE X T M b cb) : SE X T M (.Call (.Attribute a "count" apos) [b] [] cpos) (.p2 .count ca cb) :=
  PE.imp (pe_bm PySem.F.plainAttrs_list PySem.F.slot_list_count PySem.F.type_list_count (mt_countD hu) ha (pa_cons hb pa_nil Z.st) (base_ok Z.base) (by rw [Z.st]; rfl) Z.line Z.st rfl) fun σ H Q ⟨hide, own, ρ, d, R, m, e, k⟩ => by
    simp only [ev] at e
    obtain ⟨x, ex, e1⟩ := bnd e
    obtain ⟨y, ey, e2⟩ := bnd e1
    refine ⟨hide, own, ρ, x, R, m, ex, fun v H1 s1 r1 => ?_⟩
    cases x with
    | list xs =>
      simp only [p2D] at e2
      split at e2
      · rename_i hz
        cases e2
        obtain ⟨q, vs, ev', h1, n1, q1⟩ := r1.elH
        subst ev'
        refine ⟨.inl ⟨rfl, vs, h1⟩, hide, own, ρ, y, R.grow s1, m, ey, fun u H2 s2 r2 => ?_⟩
        exact ⟨q, u, y, xs, vs, rfl, rfl, s2.seq h1, (q1.mono cut_le).mono s2, r2.is.mono cut_le, hz, k _ _ (s1.trans s2) (.scal rfl (.int _ (K := X.K) (H := H2)))⟩
      · cases e2
    | _ => simp [p2D] at e2
end
end DI
set_option maxRecDepth 100000
set_option maxHeartbeats 1000000
/-! DI: targets, what is walked, list comprehensions. -/
namespace DI
open PySem L2

/-! ### targets -/
mutual
/-- the slots behind a target's storing -/
inductive Bnd (K : PySem.W.Frag) (Hc : Hp) : Pat → D → L2.St → L2.St → Prop where
  | v {i : Nat} {x : V} {d : D} {σ : L2.St} : Is K Hc x d → Bnd K Hc (.v i) d σ (σ.set i (some x))
  | t {ps : Pat} {ds : List D} {σ σ' : L2.St} : Bnds K Hc ps ds σ σ' → Bnd K Hc (.t ps) (.tuple ds) σ σ'
  | l {ps : Pat} {ds : List D} {σ σ' : L2.St} : Bnds K Hc ps ds σ σ' → Bnd K Hc (.t ps) (.list ds) σ σ'
inductive Bnds (K : PySem.W.Frag) (Hc : Hp) : Pat → List D → L2.St → L2.St → Prop where
  | nil {σ : L2.St} : Bnds K Hc .nil [] σ σ
  | cons {p r : Pat} {d : D} {ds : List D} {σ σ1 σ2 : L2.St} : Bnd K Hc p d σ σ1 → Bnds K Hc r ds σ1 σ2 → Bnds K Hc (.cons p r) (d :: ds) σ σ2
end
mutual
/-- the data have the target's shape -/
def okP : Pat → D → Bool
  | .v _, _ => true
  | .t ps, .tuple ds => okPs ps ds
  | .t ps, .list ds => okPs ps ds
  | _, _ => false
def okPs : Pat → List D → Bool
  | .nil, [] => true
  | .cons p r, d :: ds => okP p d && okPs r ds
  | _, _ => false
end
mutual
theorem bindP_ok : ∀ {p : Pat} {d : D} {ρ ρ' : Env}, bindP p d ρ = some ρ' → okP p d = true
  | .v _, _, _, _, _ => by simp [okP]
  | .t ps, .tuple ds, _, _, h => by simp only [bindP] at h; simp only [okP]; exact bindPs_ok h
  | .t ps, .list ds, _, _, h => by simp only [bindP] at h; simp only [okP]; exact bindPs_ok h
  | .t ps, .none, _, _, h => by simp [bindP] at h
  | .t ps, .int _, _, _, h => by simp [bindP] at h
  | .t ps, .bool _, _, _, h => by simp [bindP] at h
  | .t ps, .str _, _, _, h => by simp [bindP] at h
  | .t ps, .dict _, _, _, h => by simp [bindP] at h
  | .nil, _, _, _, h => by simp [bindP] at h
  | .cons _ _, _, _, _, h => by simp [bindP] at h
theorem bindPs_ok : ∀ {p : Pat} {ds : List D} {ρ ρ' : Env}, bindPs p ds ρ = some ρ' → okPs p ds = true
  | .nil, [], _, _, _ => by simp [okPs]
  | .nil, _ :: _, _, _, h => by simp [bindPs] at h
  | .cons p r, d :: ds, ρ, _, h => by
    simp only [bindPs] at h
    obtain ⟨ρ1, e1, e2⟩ := bnd h
    simp only [okPs, Bool.and_eq_true]
    exact ⟨bindP_ok e1, bindPs_ok e2⟩
  | .cons p r, [], _, _, h => by simp [bindPs] at h
  | .v _, _, _, _, h => by simp [bindPs] at h
  | .t _, _, _, _, h => by simp [bindPs] at h
end
/-- slots outside of vs agree -/
def Agree (vs : List Nat) (σ σ' : L2.St) : Prop := σ'.length = σ.length ∧ ∀ i, i ∉ vs → σ'[i]? = σ[i]?
theorem Agree.refl (vs : List Nat) (σ : L2.St) : Agree vs σ σ := ⟨rfl, fun _ _ => rfl⟩
theorem Agree.trans {vs : List Nat} {σ σ' σ'' : L2.St} (a : Agree vs σ σ') (b : Agree vs σ' σ'') : Agree vs σ σ'' := ⟨b.1.trans a.1, fun i h => (b.2 i h).trans (a.2 i h)⟩
mutual
theorem Bnd.agree {K : PySem.W.Frag} {Hc : Hp} {vs : List Nat} : ∀ {p : Pat} {d : D} {σ σ' : L2.St}, Bnd K Hc p d σ σ' → (∀ i ∈ p.slots, i ∈ vs) → Agree vs σ σ'
  | _, _, _, _, .v (i := i) h, w => ⟨by simp, fun j hj => by
    have : i ≠ j := fun z => hj (z ▸ w i (by simp [Pat.slots]))
    rw [List.getElem?_set_ne this]⟩
  | _, _, _, _, .t h, w => Bnds.agree h (by simpa only [Pat.slots] using w)
  | _, _, _, _, .l h, w => Bnds.agree h (by simpa only [Pat.slots] using w)
theorem Bnds.agree {K : PySem.W.Frag} {Hc : Hp} {vs : List Nat} : ∀ {p : Pat} {ds : List D} {σ σ' : L2.St}, Bnds K Hc p ds σ σ' → (∀ i ∈ p.slots, i ∈ vs) → Agree vs σ σ'
  | _, _, _, _, .nil, _ => Agree.refl _ _
  | _, _, _, _, .cons h r, w => (Bnd.agree h fun i hi => w i (by simp only [Pat.slots, List.mem_append]; exact .inl hi)).trans (Bnds.agree r fun i hi => w i (by simp only [Pat.slots, List.mem_append]; exact .inr hi))
end
theorem roots_agree {vs own : List Nat} {σ σ' : L2.St} (a : Agree vs σ σ') (d : ∀ i ∈ own, i ∉ vs) : ∀ b, roots own σ' b → roots own σ b := fun b ⟨i, hi, e⟩ => ⟨i, hi, by rw [← a.2 i (d i hi)]; exact e⟩
theorem Agree.symm {vs : List Nat} {σ σ' : L2.St} (a : Agree vs σ σ') : Agree vs σ' σ := ⟨a.1.symm, fun i h => (a.2 i h).symm⟩
theorem hd_agree {vs own : List Nat} {σ σ' : L2.St} {hide : Addr → Prop} (a : Agree vs σ σ') (d : ∀ i ∈ own, i ∉ vs) : hd hide own σ' = hd hide own σ := funext fun b => propext ⟨fun z => z.elim .inl fun r => .inr (roots_agree a d b r), fun z => z.elim .inl fun r => .inr (roots_agree a.symm d b r)⟩
/-- one slot stored that is not owned -/
theorem ER.put {K : PySem.W.Frag} {hide : Addr → Prop} {own : List Nat} {H : Hp} {σ : L2.St} {ρ : Env} {i : Nat} {x : V} {d : D} (R : ER K hide own H σ ρ) (n : i ∉ own) (h : Is K (cut (hd hide own σ) H) x d) : ER K hide own H (σ.set i (some x)) (ρ.set i (some d)) := by
  have ag : Agree [i] σ (σ.set i (some x)) := ⟨by simp, fun j hj => by rw [List.getElem?_set_ne (fun z => hj (by simp [z]))]⟩
  have hh : hd hide own (σ.set i (some x)) = hd hide own σ := hd_agree ag fun j hj z => n (by simp at z; rw [← z]; exact hj)
  have ne : ∀ j ∈ own, i ≠ j := fun j hj z => n (z ▸ hj)
  refine ⟨R.hid, by simp [R.len], fun j e ej nj => ?_, fun j hj => ?_, fun j k a hj hk => ?_⟩
  · rw [hh]
    by_cases hij : i = j
    · subst hij
      by_cases hl : i < ρ.length
      · rw [List.getElem?_set_self hl] at ej
        cases ej
        exact ⟨x, by rw [List.getElem?_set_self (by rw [R.len]; exact hl)], h⟩
      · rw [List.getElem?_eq_none (by simpa using hl)] at ej; cases ej
    · rw [List.getElem?_set_ne hij] at ej
      obtain ⟨v, h1, h2⟩ := R.shr j e ej nj
      exact ⟨v, by rw [List.getElem?_set_ne hij]; exact h1, h2⟩
  · obtain ⟨a, e, h1, h2, h3, h4⟩ := R.ow j hj
    rw [hh, List.getElem?_set_ne (ne j hj), List.getElem?_set_ne (ne j hj)]
    exact ⟨a, e, h1, h2, h3, h4⟩
  · rw [List.getElem?_set_ne (ne j hj), List.getElem?_set_ne (ne k hk)]
    exact R.dist j k a hj hk
set_option maxHeartbeats 4000000
mutual
theorem ER.bind {K : PySem.W.Frag} {hide : Addr → Prop} {own : List Nat} {H Hc : Hp} : ∀ {p : Pat} {d : D} {σ σ' : L2.St}, Bnd K Hc p d σ σ' → ∀ {ρ ρ' : Env}, ER K hide own H σ ρ → (∀ i ∈ p.slots, i ∉ own) → Hc = cut (hd hide own σ) H → bindP p d ρ = some ρ' → ER K hide own H σ' ρ'
  | _, _, _, _, .v (i := i) h => fun R w e hb => by
    simp only [bindP] at hb
    split at hb
    · cases hb
      exact R.put (w i (by simp [Pat.slots])) (e ▸ h)
    · cases hb
  | _, _, _, _, .t h => fun R w e hb => by
    simp only [bindP] at hb
    exact ER.binds h R (by simpa only [Pat.slots] using w) e hb
  | _, _, _, _, .l h => fun R w e hb => by
    simp only [bindP] at hb
    exact ER.binds h R (by simpa only [Pat.slots] using w) e hb
theorem ER.binds {K : PySem.W.Frag} {hide : Addr → Prop} {own : List Nat} {H Hc : Hp} : ∀ {p : Pat} {d : List D} {σ σ' : L2.St}, Bnds K Hc p d σ σ' → ∀ {ρ ρ' : Env}, ER K hide own H σ ρ → (∀ i ∈ p.slots, i ∉ own) → Hc = cut (hd hide own σ) H → bindPs p d ρ = some ρ' → ER K hide own H σ' ρ'
  | _, _, _, _, .nil => fun R w e hb => by
    simp only [bindPs, Option.some.injEq] at hb
    subst hb; exact R
  | _, _, _, _, .cons (p := p) (r := r) (σ := σ) (σ1 := σ1) h t => fun R w e hb => by
    simp only [bindPs] at hb
    obtain ⟨ρ1, e1, e2⟩ := bnd hb
    have w1 : ∀ i ∈ p.slots, i ∉ own := fun i hi => w i (by simp only [Pat.slots, List.mem_append]; exact .inl hi)
    have R1 := ER.bind h R w1 e e1
    have ag := Bnd.agree (vs := p.slots) h fun i hi => hi
    exact ER.binds t R1 (fun i hi => w i (by simp only [Pat.slots, List.mem_append]; exact .inr hi)) (by rw [e, hd_agree ag fun j hj z => w1 j z hj]) e2
end
section
variable {X : Cx} {T : Nat → List D → Option D} {M : List Nat} {e a b : Expr} {ca cb cc c : CE} {pos : Pos}
def tG (K : PySem.W.Frag) (p : Pat) : TG := fun v σ H Q => ∃ Hc d, Same Hc H ∧ Is K Hc v d ∧ okP p d = true ∧ ∀ σ', Bnd K Hc p d σ σ' → Q σ' H
def tGs (K : PySem.W.Frag) (p : Pat) : TGs := fun vs σ H Q => ∃ Hc ds, Same Hc H ∧ IsAll K Hc vs ds ∧ okPs p ds = true ∧ ∀ σ', Bnds K Hc p ds σ σ' → Q σ' H
abbrev SP (X : Cx) (e : Expr) (p : Pat) : Prop := PG X e (tG X.K p)
abbrev SPs (X : Cx) (es : List Expr) (p : Pat) : Prop := PGs X es (tGs X.K p)
theorem PGs.imp {X : Cx} {e : List Expr} {t t' : TGs} (h : PGs X e t) (w : ∀ v σ H Q, t' v σ H Q → t v σ H Q) : PGs X e t' := ⟨fun pins s σ H v u Q I r q => h.run pins s σ H v u Q I r (w v σ H Q q)⟩
theorem sp_v {i : Nat} {x : Str} (hN : X.N.Nodup) (hi : X.N[i]? = some x) (hx : Loc X.env.scope x) (hf : X.fn x = true ∨ X.env.scope.names.lookup x = some .local) : SP X (.Name x pos) (.v i) :=
  PG.imp (pg_name hN hi hx hf) fun v σ H Q ⟨Hc, d, sm, iv, ok, k⟩ => k _ (.v iv)
theorem sps_nil : SPs X [] .nil := PGs.imp pgs_nil fun v σ H Q ⟨Hc, ds, sm, iv, ok, k⟩ => by
  cases ds with
  | nil => cases iv; exact ⟨rfl, k _ .nil⟩
  | cons _ _ => simp [okPs] at ok
theorem sps_cons {es : List Expr} {p r : Pat} (h1 : SP X e p) (h2 : SPs X es r) (hs : (assignEach (e :: es) X.env).map (·.2) = assign e X.env :: (assignEach es X.env).map (·.2)) : SPs X (e :: es) (.cons p r) :=
  PGs.imp (pgs_cons h1 h2 hs) fun vs σ H Q ⟨Hc, ds, sm, iv, ok, k⟩ => by
    cases ds with
    | nil => simp [okPs] at ok
    | cons d ds =>
      cases iv with
      | cons i1 i2 =>
        simp only [okPs, Bool.and_eq_true] at ok
        exact ⟨_, _, rfl, Hc, d, sm, i1, ok.1, fun σ1 b1 => ⟨Hc, ds, sm, i2, ok.2, fun σ2 b2 => k _ (.cons b1 b2)⟩⟩
theorem PG.or {g g' : TG} (h : PG X e g) (h' : PG X e g') : PG X e (fun v σ H Q => g v σ H Q ∨ g' v σ H Q) := ⟨fun pins s σ H v u Q I r q => q.elim (h.run pins s σ H v u Q I r) (h'.run pins s σ H v u Q I r)⟩
theorem okPs_len : ∀ {p : Pat} {ds : List D}, okPs p ds = true → ds.length = p.length
  | .nil, [], _ => rfl
  | .nil, _ :: _, h => by simp [okPs] at h
  | .cons p r, d :: ds, h => by
    simp only [okPs, Bool.and_eq_true] at h
    simp [Pat.length, okPs_len h.2]
  | .cons _ _, [], h => by simp [okPs] at h
  | .v _, _, h => by simp [okPs] at h
  | .t _, _, h => by simp [okPs] at h
theorem sp_t {es : List Expr} {k0 : Nat} {p : Pat} (hc : X.calm = true) (h : SPs X es p) (hn : (assignEach es X.env).length = p.length) (hst : (assignEach es X.env).findIdx? (·.1) = none) : SP X (.Tuple es k0 pos) (.t p) :=
  PG.imp (PG.or (pg_tup hc h hn hst) (pg_lst hc h hn hst)) fun v σ H Q ⟨Hc, d, sm, iv, ok, k⟩ => by
    cases iv with
    | tup h1 n1 q1 =>
      simp only [okP] at ok
      exact .inl ⟨_, _, rfl, SqT.mono sm h1, by rw [q1.length]; exact okPs_len ok, Hc, _, sm, q1, ok, fun σ' b => k _ (.t b)⟩
    | lst h1 n1 q1 =>
      simp only [okP] at ok
      exact .inr ⟨_, _, rfl, sm.seq h1, by rw [q1.length]; exact okPs_len ok, Hc, _, sm, q1, ok, fun σ' b => k _ (.l b)⟩
    | _ => simp [okP] at ok

/-! ### what is walked -/
/-- J yields what stands for the items, as long as G stands -/
def JOk (K : PySem.W.Frag) (G F : Hp) (J : It) (items : List D) : Prop := ∀ (i : Nat) (H' : Hp) (h' : Addr → Prop), Same G H' → Same F (cut h' H') → (∀ b, h' b → H' b ≠ none) →
  (i < items.length → J.go i H' ∧ ∀ x H'', J.yld i H' x H'' → Same H' H'' ∧ ∃ d, items[i]? = some d ∧ Is K (cut h' H'') x d) ∧ (items.length ≤ i → J.stop i H')
def tI (K : PySem.W.Frag) (T : Nat → List D → Option D) (M : List Nat) (ci : CI) : TI := fun σ H R => ∃ hide own ρ ds, ER K hide own H σ ρ ∧ (∀ i ∈ own, i ∈ M) ∧ evi T ci ρ = some ds ∧
  ∀ J H', Same H H' → JOk K (cut (hd hide (diff own (ali ci)) σ) H') (cut (hd hide (diff own (alie ci)) σ) H') J ds → ds.length ≤ sizeLine → R J H'
abbrev SI (X : Cx) (T : Nat → List D → Option D) (M : List Nat) (tg e : Expr) (ci : CI) : Prop := PI X tg e (tI X.K T M ci)
theorem PI.or {tg : Expr} {g g' : TI} (h : PI X tg e g) (h' : PI X tg e g') : PI X tg e (fun σ H R => g σ H R ∨ g' σ H R) := ⟨fun pins s σ H R I q => q.elim (h.run pins s σ H R I) (h'.run pins s σ H R I)⟩
theorem jok_list {K : PySem.W.Frag} {G F : Hp} {a : Addr} {xs : List V} {ds : List D} (h : SqL K G a xs) (r : IsAll K F xs ds) : JOk K G F (Itl K a) ds := fun i H' h' sg sf hh => by
  have hl := sg.seq h
  refine ⟨fun hi => ⟨⟨xs, xs[i]'(by rw [r.length]; exact hi), hl, by simp [r.length, hi]⟩, fun x H'' ⟨e, y⟩ => ?_⟩, fun hi => ⟨xs, hl, by rw [r.length]; exact hi⟩⟩
  subst e
  obtain ⟨d, e1, i1⟩ := r.at' (y xs hl)
  exact ⟨Same.refl _, d, e1, i1.mono sf⟩
theorem jok_tup {K : PySem.W.Frag} {G F : Hp} {a : Addr} {xs : List V} {ds : List D} (h : SqT K G a xs) (r : IsAll K F xs ds) : JOk K G F (Itt K a) ds := fun i H' h' sg sf hh => by
  have hl := SqT.mono sg h
  refine ⟨fun hi => ⟨⟨xs, xs[i]'(by rw [r.length]; exact hi), hl, by simp [r.length, hi]⟩, fun x H'' ⟨e, y⟩ => ?_⟩, fun hi => ⟨xs, hl, by rw [r.length]; exact hi⟩⟩
  subst e
  obtain ⟨d, e1, i1⟩ := r.at' (y xs hl)
  exact ⟨Same.refl _, d, e1, i1.mono sf⟩
theorem jok_rng {K : PySem.W.Frag} {G F : Hp} {lo : Int} {n : Nat} : JOk K G F (Itr lo n) ((List.range n).map fun i => .int (lo + (i : Nat))) := fun i H' h' sg sf hh => by
  rw [List.length_map, List.length_range]
  refine ⟨fun hi => ⟨hi, fun x H'' ⟨e, y⟩ => ?_⟩, fun hi => hi⟩
  subst e y
  exact ⟨Same.refl _, .int (lo + i), by simp [hi], .int _⟩
theorem enumD_at : ∀ {xs : List D} {k i : Nat}, (enumD k xs)[i]? = (xs[i]?).map fun x => .tuple [.int ((k + i : Nat) : Int), x]
  | [], _, _ => by simp [enumD]
  | x :: r, k, 0 => by simp [enumD]
  | x :: r, k, i + 1 => by
    simp only [enumD, List.getElem?_cons_succ]
    rw [enumD_at]
    have : k + 1 + i = k + (i + 1) := by omega
    rw [this]
theorem enumD_len : ∀ {xs : List D} {k : Nat}, (enumD k xs).length = xs.length
  | [], _ => rfl
  | x :: r, k => by simp [enumD, enumD_len]
theorem new_tup {K : PySem.W.Frag} {H' H'' : Hp} {h' : Addr → Prop} {t : Addr} {vs : List V} {ds : List D} (nT : H' t = none) (e : H'' = upd H' t (.tup vs)) (hh : ∀ b, h' b → H' b ≠ none) (n : vs.length ≤ sizeLine) (r : IsAll K (cut h' H') vs ds) : Same H' H'' ∧ Is K (cut h' H'') (.ref t) (.tuple ds) := by
  subst e
  have s2 := same_upd_new (o := HO.tup vs) nT
  exact ⟨s2, .tup (.inl (.inl (by rw [cut_no (fun z => hh t z nT), upd_same]))) n (r.mono (cut_same s2))⟩
theorem jok_enum {K : PySem.W.Frag} {G F : Hp} {a : Addr} {xs : List V} {ds : List D} (h : SqL K G a xs) (r : IsAll K F xs ds) : JOk K G F (Ite K a) (enumD 0 ds) := fun i H' h' sg sf hh => by
  have hl := sg.seq h
  rw [enumD_len]
  refine ⟨fun hi => ⟨⟨xs, xs[i]'(by rw [r.length]; exact hi), hl, by simp [r.length, hi]⟩, fun x H'' ⟨t, y, e1, nT, e2, hy⟩ => ?_⟩, fun hi => ⟨xs, hl, by rw [r.length]; exact hi⟩⟩
  subst e1
  obtain ⟨d, e3, i1⟩ := r.at' (hy xs hl)
  obtain ⟨s2, i2⟩ := new_tup (ds := [.int i, d]) nT e2 hh (by show 2 ≤ sizeLine; decide) (.cons (.int _) (.cons (i1.mono sf) .nil))
  exact ⟨s2, _, by rw [enumD_at, e3]; simp, i2⟩
theorem zipD_at : ∀ {xs ys : List D} {i : Nat} {x y : D}, xs[i]? = some x → ys[i]? = some y → (zipD xs ys)[i]? = some (.tuple [x, y])
  | [], _, _, _, _, h, _ => by simp at h
  | _ :: _, [], _, _, _, _, h => by simp at h
  | x :: r, y :: s, 0, _, _, h1, h2 => by simp at h1 h2; subst h1 h2; simp [zipD]
  | x :: r, y :: s, i + 1, _, _, h1, h2 => by
    simp only [zipD, List.getElem?_cons_succ]
    exact zipD_at (by simpa using h1) (by simpa using h2)
theorem zipD_len : ∀ {xs ys : List D}, (zipD xs ys).length = min xs.length ys.length
  | [], ys => by simp [zipD]
  | _ :: _, [] => by simp [zipD]
  | x :: r, y :: s => by simp [zipD, zipD_len]
theorem jok_zip {K : PySem.W.Frag} {G F : Hp} {a b : Addr} {xs ys : List V} {ds es : List D} (h : SqL K G a xs) (r : IsAll K F xs ds) (h2 : SqL K G b ys) (r2 : IsAll K F ys es) : JOk K G F (Itz K a b) (zipD ds es) := fun i H' h' sg sf hh => by
  have hl := sg.seq h
  have hl2 := sg.seq h2
  rw [zipD_len]
  refine ⟨fun hi => ?_, fun hi => ⟨xs, ys, hl, hl2, by rw [r.length, r2.length]; omega⟩⟩
  have hx : i < xs.length := by rw [r.length]; omega
  have hy : i < ys.length := by rw [r2.length]; omega
  refine ⟨⟨xs, ys, xs[i], ys[i], hl, hl2, by simp [hx], by simp [hy]⟩, fun x H'' ⟨t, y, z, e1, nT, e2, q1, q2⟩ => ?_⟩
  subst e1
  obtain ⟨d, e3, i1⟩ := r.at' (q1 xs hl)
  obtain ⟨d2, e4, i2⟩ := r2.at' (q2 ys hl2)
  obtain ⟨s2, i3⟩ := new_tup (ds := [d, d2]) nT e2 hh (by show 2 ≤ sizeLine; decide) (.cons (i1.mono sf) (.cons (i2.mono sf) .nil))
  exact ⟨s2, _, zipD_at e3 e4, i3⟩
theorem si_ofl {tg : Expr} (ha : SE X T M a ca) : SI X T M tg a (.ofl ca) :=
  PI.imp (PI.or (pi_list ha) (pi_tup ha)) fun σ H R ⟨hide, own, ρ, ds, R0, m, e, k⟩ => by
    simp only [evi] at e
    obtain ⟨x, ex, e1⟩ := bnd e
    cases x with
    | list xs =>
      simp only [listOf, Option.some.injEq] at e1; subst e1
      refine .inl ⟨hide, own, ρ, _, R0, m, ex, fun v H1 s1 r1 => ?_⟩
      obtain ⟨p, vs, rfl, h1, n1, q1⟩ := r1.el
      refine ⟨p, rfl, ⟨vs, cut_le.seq h1⟩, k _ H1 s1 ?_ (by rw [← q1.length]; exact n1)⟩
      exact jok_list (by simpa only [ali] using h1) (by simpa only [alie] using q1)
    | tuple xs =>
      simp only [listOf, Option.some.injEq] at e1; subst e1
      refine .inr ⟨hide, own, ρ, _, R0, m, ex, fun v H1 s1 r1 => ?_⟩
      obtain ⟨p, vs, rfl, h1, n1, q1⟩ := r1.el
      refine ⟨p, rfl, ⟨vs, SqT.mono cut_le h1⟩, k _ H1 s1 ?_ (by rw [← q1.length]; exact n1)⟩
      exact jok_tup (by simpa only [ali] using h1) (by simpa only [alie] using q1)
    | _ => simp [listOf] at e1
end
end DI
set_option maxRecDepth 100000
set_option maxHeartbeats 1000000
/-! DE: enumerate of a tuple. -/
namespace DI
open PySem L2 PyProof.Rows
section
theorem meets_enum1 {v : Value} {o : Obj} {H : Heap → Prop} (B : Begins v o H) :
    Meets (Builtin.«enumerate.__new__» ⟨[.type "enumerate", v], []⟩) (fun _ R s => H s.heap ∧
      R (.ok (.ret (.ref (s.heap.push o).objs.size))) { s with heap := (s.heap.push o).push { cls := .type "enumerate", data := .fields #[.none, .bool false, .ref s.heap.objs.size, rawInt 0, .none, .none] } }) :=
  .of_wp fun prog w A R s h => by
    obtain ⟨hp, g, d, tk, os⟩ := s; obtain ⟨hH, h⟩ := h
    have hsub := PySem.sub_enumerate
    have itr : ∀ {A' : Around} {E : Value → Shared → Prop} {Q : Value → Shared → Prop}, Q (.ref hp.objs.size) ⟨hp.push o, g, d, tk, os⟩ → wpAny (model prog w) A' (pyIter v) Q E ⟨hp, g, d, tk, os⟩ :=
      fun q => B.iter prog w _ _ ⟨hp, g, d, tk, os⟩ _ hH q
    wp_walk using itr
    refine wpAny_stack_any fun st => wpAny_pure ?_
    split
    · rename_i c _ _ _ _ _
      cases (c == Value.type "enumerate") <;> (wp_walk using itr; exact ⟨_, rfl, h⟩)
    · wp_walk using itr
      exact ⟨_, rfl, h⟩
end
section
variable {prog : Program} {w : World} {A : Around} {E : Value → Shared → Prop} {s : Shared}
theorem enum1_begins {v : Value} {o : Obj} {H : Heap → Prop} {Q : Value → Shared → Prop} (B : Begins v o H) (hH : H s.heap)
    (k : ∀ h', IsEnum h' (s.heap.objs.size + 1) s.heap.objs.size 0 .none → h'.get? s.heap.objs.size = some o → h'.objs.size = s.heap.objs.size + 2 →
      (∀ b u, s.heap.get? b = some u → h'.get? b = some u) → Q (.ref (s.heap.objs.size + 1)) { s with heap := h' }) :
    wpAny (model prog w) A (call (.type "enumerate") [v]) Q E s := by
  refine callType_new F.called_enumerate (by decide) (F.typeCall_enumerate_1 _) (F.newCall_enumerate_1 _) (fun obj => F.args_object_init_2 obj _) F.entry_enumerate_new (meets_enum1 B) ⟨hH, ?_⟩
  have sz : (s.heap.push o).objs.size = s.heap.objs.size + 1 := Heap.size_push ..
  show _ ∧ _
  rw [sz]
  generalize ht : (Obj.mk (.type "enumerate") none (.fields #[.none, .bool false, .ref s.heap.objs.size, rawInt 0, .none, .none]) #[]) = t
  have he : IsEnum ((s.heap.push o).push t) (s.heap.objs.size + 1) s.heap.objs.size 0 .none := by
    have q := Heap.get?_push_size (s.heap.push o) (o := t) (by subst ht; rfl)
    rw [sz] at q
    subst ht
    exact q
  refine ⟨⟨_, he, rfl⟩, k _ he (Heap.get?_push_of_some _ (Heap.get?_push_size _ B.free)) (by rw [Heap.size_push, sz]) fun b u x => Heap.get?_push_of_some _ (Heap.get?_push_of_some _ x)⟩
end
theorem enumT_end {prog : Program} {w : World} {A : Around} {E : Value → Shared → Prop} {s : Shared} {e it a : Addr} {c : Int} {i : Nat} {items : Array Value} {old : Value} {Q : Option Value → Shared → Prop}
    (hh : A.in1.handled = none) (he : IsEnum s.heap e it c old) (hit : s.heap.IsTupleIter it a i) (ht : s.heap.IsTuple a items) (hx : items[i]? = none)
    (hQ : ∀ h', Heap.ExtBut it s.heap h' → Q none { s with heap := h' }) : wpAny (model prog w) A (pyNext (.ref e)) Q E s := by
  have ty : s.TypeIs (.ref e) "enumerate" := ⟨_, he, rfl⟩
  unfold pyNext
  refine wpAny_bind (wpAny_attempt (wpAny_callSpecial?_slot (name := Str.ofString "__next__") ty F.slot_enumerate_next (wpAny_call_entry F.slot_enumerate_next ty F.entry_enumerate_next ?_ (F.args_enumerate_next_1 _))))
  show wpAny _ _ (field (.ref e) 2 >>= _) _ _ _
  refine wpAny_bind (wpAny_field he rfl (x := .ref it) rfl (wpAny_bind (wpAny_nextOf_tuple_end hh hit ht hx fun h' x q1 q2 => ?_)))
  obtain ⟨o, ho, hc⟩ := q2
  exact wpAny_bind (wpAny_isInstance (T := "StopIteration") (b := true) ⟨o, ho, hc⟩ isSubtype_stop (wpAny_pure (hQ _ q1)))
/-- the tuple at a, each item in a new pair -/
def IteT (K : PySem.W.Frag) (a : Addr) : It :=
  ⟨fun i H => ∃ (xs : List V) (x : V), SqT K H a xs ∧ xs[i]? = some x, fun i H v H' => ∃ T x, v = .ref T ∧ H T = none ∧ H' = upd H T (.tup [.int (i : Nat), x]) ∧ ∀ xs, SqT K H a xs → xs[i]? = some x, fun i H => ∃ xs : List V, SqT K H a xs ∧ xs.length ≤ i⟩
theorem turn_enumT {P : Program} {w : World} {K : PySem.W.Frag} {elts : List Expr} {kk : Nat} {tpos : Pos} (a e it : Addr) (hai : a ≠ it) (hea : e ≠ a) (hne : e ≠ it) :
    Turn P w K (.Tuple elts kk tpos) (IteT K a) [e, it] e (fun i h => (∃ old, IsEnum h e it ((i : Nat) : Int) old) ∧ h.IsTupleIter it a i) where
  mem := by simp
  obj := fun i h st b hb => by
    obtain ⟨⟨old, he⟩, ⟨o, ho, hc, hd⟩⟩ := st
    have e' : b = e ∨ b = it := by simpa using hb
    rcases e' with z | z
    · rw [z]; exact ⟨_, he, fun v q => nomatch q⟩
    · rw [z]; exact ⟨o, ho, fun v q => by rw [hd] at q; cases q⟩
  keep := fun i h h' st k => let ⟨⟨old, he⟩, hi⟩ := st; ⟨⟨old, k e (by simp) _ he⟩, hi.at fun o q => k it (by simp) o q⟩
  item := by
    intro X hP hw hK hc i pins s σ H E I hf st hg
    subst hP hw hK
    obtain ⟨⟨old, he⟩, hit⟩ := st
    obtain ⟨xs, x, hq, hx⟩ := hg
    obtain ⟨its, rv, p, hz⟩ := I.tuple hq
    obtain ⟨u, hu, ru⟩ := rv.get hx
    have hel : e < s.heap.objs.size := Heap.lt_size he
    have hil : it < s.heap.objs.size := by obtain ⟨_, q, _⟩ := hit; exact Heap.lt_size q
    have Dr := Draws.tuple (prog := X.prog) (w := X.w) (A := X.A.in1) (I.ok.hd hc) it a hai its.toArray
    have hlt : i < its.toArray.size := by have := (List.getElem?_eq_some_iff.mp hu).1; simpa using this
    refine wpAny_pyNext_enum_itemD Dr he ⟨hit, p⟩ hlt hne (by simp [hne, hea]) fun x' h' tk hx' ho st' hT hsz hk => ?_
    have hxu : x' = u := by
      have h0 : its[i]? = some x' := by simpa using hx'
      rw [hu] at h0; exact (Option.some.inj h0).symm
    subst hxu
    refine ⟨_, rfl, wpAny_letOwnedTupleGo_enum (s := { s with heap := h', toks := tk + 1 }) ho fun h'' he' sb => ?_⟩
    have hT2 : h''.get? s.heap.objs.size = some { cls := .type "tuple", data := .seq #[.int i tk, x'] } := (sb.2 _ (Nat.ne_of_gt hel)).trans hT
    have new : ObjOk X.prog X.w (upd H s.heap.objs.size (.tup [.int (i : Nat), x])) h'' s.heap.objs.size (.tup [.int (i : Nat), x]) :=
      ⟨by show 2 ≤ sizeLine; decide, [.int i tk, x'], .cons ⟨_, rfl⟩ (.cons ru .nil), ⟨_, hT2, rfl, _, rfl⟩⟩
    have I1 : Inv X pins σ (upd H s.heap.objs.size (.tup [.int (i : Nat), x])) { s with heap := h'', toks := tk + 1 } :=
      I.turnedNew (ch := [e, it]) (fun b ob hb q => (sb.2 b (fun z => hb (by simp [z]))).trans (hk b ob (fun z => hb (by simp [z])) (fun z => hb (by simp [z])) q)) hf (Nat.le_refl _) new
    refine ⟨.ref s.heap.objs.size, _, I1, rfl, ⟨_, x, rfl, I.hok.fresh (Nat.le_refl _), rfl, fun ys hy => by rw [I.tuple_inj hy hq]; exact hx⟩, ⟨⟨x', ?_⟩, st'.1.at fun o q => (sb.2 it (Ne.symm hne)).trans q⟩, fun b hb => ?_⟩
    · have e1 : ((i + 1 : Nat) : Int) = (i : Int) + 1 := by omega
      rw [e1]; exact he'
    · have hb' : b < s.heap.objs.size := by
        have e' : b = e ∨ b = it := by simpa using hb
        rcases e' with z | z
        · rw [z]; exact hel
        · rw [z]; exact hil
      rw [upd_ne (Nat.ne_of_lt hb')]
      exact (hf b hb).1
  done := by
    intro X hP hw hK hc i pins s σ H E I hf st hg
    subst hP hw hK
    obtain ⟨⟨old, he⟩, hit⟩ := st
    obtain ⟨xs, hq, hx⟩ := hg
    obtain ⟨its, rv, p, hz⟩ := I.tuple hq
    obtain ⟨f0, f1, f2, f3, f4, f5⟩ := hf it (by simp)
    have hl := rv.length
    exact enumT_end (I.ok.hd hc) he hit p (by simp; omega) fun h' eb => ⟨rfl, I.turned (t' := s.toks) (fun b o hb q => eb b o hb q) f0 f1 f3 f4 f5⟩
  self := fun A i s Q E st h => let ⟨⟨_, he⟩, _⟩ := st; wpAny_pyIter_enum he h
def iEnumT (K : PySem.W.Frag) (ta : TA) : TI := fun σ H R => ta σ H fun vs H1 => ∃ a xs, vs = [.ref a] ∧ SqT K H1 a xs ∧ R (IteT K a) H1
theorem pi_enumT {X : Cx} {e : Expr} {ta : TA} {p pos tpos : Pos} {elts : List Expr} {kk : Nat} (hg : Gl X "enumerate") (hm : X.mg "enumerate" = none) (ha : PA X [e] ta) (hs : starEach [e] X.env = [(false, eval e X.env)]) :
    PI X (.Tuple elts kk tpos) (.Call (.Name "enumerate" p) [e] [] pos) (iEnumT X.K ta) := by
  refine ⟨fun pins s σ H R I h => ?_⟩
  refine Call_ (ld_blt I hg hm boot_enumerate (PyProof.Rows.callWith_type1 (thn (ha.run pos pins s σ H _ I h) fun us s1 ⟨vs, H1, I1, r1, q1⟩ => ?_) hs rfl))
  obtain ⟨a, xs, ex, hq, q⟩ := q1
  subst ex
  cases r1 with
  | cons r rr =>
    cases rr
    cases r
    obtain ⟨its, rv, p', hz⟩ := I1.tuple hq
    have hal : a < s1.heap.objs.size := by obtain ⟨_, q, _⟩ := p'; exact Heap.lt_size q
    refine enum1_begins (begins_tuple a its.toArray) p' fun h' he hit hsz hk => wpAny_pyIter_enum he ?_
    have I2 : Inv X pins σ H1 { s1 with heap := h' } := I1.kept (t' := s1.toks) hk
    refine ⟨s1.heap.objs.size + 1, [s1.heap.objs.size + 1, s1.heap.objs.size], _, _, H1, rfl, I2, turn_enumT a (s1.heap.objs.size + 1) s1.heap.objs.size (Nat.ne_of_lt hal) (Nat.ne_of_gt (Nat.lt_succ_of_lt hal)) (Nat.succ_ne_self _), ⟨⟨.none, he⟩, ⟨_, hit, rfl, rfl⟩⟩, fun b hb => ?_, q⟩
    have e' : b = s1.heap.objs.size + 1 ∨ b = s1.heap.objs.size := by simpa using hb
    have hle : s1.heap.objs.size ≤ b := by
      rcases e' with z | z
      · rw [z]; exact Nat.le_add_right _ _
      · rw [z]; exact Nat.le_refl _
    exact I1.fpOk hle (I1.hok.fresh hle)
theorem jok_enumT {K : PySem.W.Frag} {G F : Hp} {a : Addr} {xs : List V} {ds : List D} (h : SqT K G a xs) (r : IsAll K F xs ds) : JOk K G F (IteT K a) (enumD 0 ds) := fun i H' h' sg sf hh => by
  have hl := SqT.mono sg h
  rw [enumD_len]
  refine ⟨fun hi => ⟨⟨xs, xs[i]'(by rw [r.length]; exact hi), hl, by simp [r.length, hi]⟩, fun x H'' ⟨t, y, e1, nT, e2, hy⟩ => ?_⟩, fun hi => ⟨xs, hl, by rw [r.length]; exact hi⟩⟩
  subst e1
  obtain ⟨d, e3, i1⟩ := r.at' (hy xs hl)
  obtain ⟨s2, i2⟩ := new_tup (ds := [.int i, d]) nT e2 hh (by show 2 ≤ sizeLine; decide) (.cons (.int _) (.cons (i1.mono sf) .nil))
  exact ⟨s2, _, by rw [enumD_at, e3]; simp, i2⟩
end DI
set_option maxRecDepth 100000
set_option maxHeartbeats 1000000
/-! DI: ranges, enumerate, zip; list comprehensions. -/
namespace DI
open PySem L2
section
variable {X : Cx} {T : Nat → List D → Option D} {M : List Nat} {e a b c0 : Expr} {ca cb cc c : CE} {pos : Pos} {tg : Expr} {x : Str} {p : Pos}
structure GB (X : Cx) (x : Str) : Prop where
  gl : Gl X x
  mg : X.mg x = none
theorem rngD_some {lo hi : Int} {ds : List D} (h : rngD lo hi = some ds) : (-(2 ^ 62) ≤ lo ∧ lo < 2 ^ 62 ∧ -(2 ^ 62) ≤ hi ∧ hi < 2 ^ 62) ∧ ds = (List.range (hi - lo).toNat).map (fun i => .int (lo + (i : Nat))) ∧ ds.length ≤ sizeLine := by
  unfold rngD at h
  split at h
  · rename_i z
    cases h
    exact ⟨⟨z.1, z.2.1, z.2.2.1, z.2.2.2.1⟩, rfl, by rw [List.length_map, List.length_range]; exact z.2.2.2.2⟩
  · cases h
theorem si_rng1 (G : GB X "range") (ha : SE X T M a ca) (hs : starEach [a] X.env = [(false, eval a X.env)]) : SI X T M tg (.Call (.Name "range" p) [a] [] pos) (.rng1 ca) :=
  PI.imp (pi_range1 G.gl G.mg (pa_cons ha pa_nil hs) hs) fun σ H R ⟨hide, own, ρ, ds, R0, m, e, k⟩ => by
    simp only [evi] at e
    obtain ⟨x, ex, e1⟩ := bnd e
    obtain ⟨j, ej, e2⟩ := bnd e1
    have := asI_some ej; subst this
    obtain ⟨⟨_, _, h3, h4⟩, e3, hz⟩ := rngD_some e2
    refine ⟨hide, own, ρ, _, R0, m, ex, fun v H1 s1 r1 => ?_⟩
    have i1 := r1.is
    cases i1
    refine ⟨j, rfl, h3, h4, k _ H1 s1 ?_ hz⟩
    rw [e3]
    have : (j - 0).toNat = j.toNat := by omega
    rw [this]
    exact jok_rng
theorem si_rng2 (G : GB X "range") (ha : SE X T M a ca) (hb : SE X T M b cb) (hs : starEach [a, b] X.env = [(false, eval a X.env), (false, eval b X.env)]) (hs2 : starEach [b] X.env = [(false, eval b X.env)]) : SI X T M tg (.Call (.Name "range" p) [a, b] [] pos) (.rng2 ca cb) :=
  PI.imp (pi_range2 G.gl G.mg (pa_cons ha (pa_cons hb pa_nil hs2) (by rw [hs, hs2])) hs hs2) fun σ H R ⟨hide, own, ρ, ds, R0, m, e, k⟩ => by
    simp only [evi] at e
    obtain ⟨x, ex, e1⟩ := bnd e
    obtain ⟨y, ey, e2⟩ := bnd e1
    obtain ⟨i, ei, e4⟩ := bnd e2
    obtain ⟨j, ej, e5⟩ := bnd e4
    have := asI_some ej; subst this
    have := asI_some ei; subst this
    obtain ⟨hb, e3, hz⟩ := rngD_some e5
    refine ⟨hide, own, ρ, _, R0, m, ex, fun v H1 s1 r1 => ⟨hide, own, ρ, _, R0.grow s1, m, ey, fun u H2 s2 r2 => ?_⟩⟩
    have i1 := r1.is
    have i2 := r2.is
    cases i1; cases i2
    refine ⟨i, j, rfl, hb, k _ H2 (s1.trans s2) ?_ hz⟩
    rw [e3]
    exact jok_rng
theorem jok_rngC {K : PySem.W.Frag} {G F : Hp} {lo c : Int} {n : Nat} : JOk K G F (Itc lo c n) ((List.range n).map fun i => .int (lo + (i : Nat) * c)) := fun i H' h' sg sf hh => by
  rw [List.length_map, List.length_range]
  refine ⟨fun hi => ⟨hi, fun x H'' ⟨e, y⟩ => ?_⟩, fun hi => hi⟩
  subst e y
  exact ⟨Same.refl _, .int (lo + i * c), by simp [hi], .int _⟩
theorem si_rng3 (G : GB X "range") (ha : SE X T M a ca) (hb : SE X T M b cb) (hc : SE X T M c0 cc) (hs : starEach [a, b, c0] X.env = (false, eval a X.env) :: starEach [b, c0] X.env) (hs2 : starEach [b, c0] X.env = (false, eval b X.env) :: starEach [c0] X.env) (hs3 : starEach [c0] X.env = [(false, eval c0 X.env)])
    (hpl : (backTo pos (starEach [b, c0] X.env)).any (·.1) = false) : SI X T M tg (.Call (.Name "range" p) [a, b, c0] [] pos) (.rng3 ca cb cc) :=
  PI.imp (pi_range3 G.gl G.mg (pa_cons ha (pa_cons hb (pa_cons hc pa_nil hs3) hs2) hs) hs hpl) fun σ H R ⟨hide, own, ρ, ds, R0, m, e, k⟩ => by
    simp only [evi] at e
    obtain ⟨x, ex, e1⟩ := bnd e
    obtain ⟨y, ey, e2⟩ := bnd e1
    obtain ⟨z, ez, e3⟩ := bnd e2
    obtain ⟨i, ei, e4⟩ := bnd e3
    obtain ⟨j, ej, e5⟩ := bnd e4
    obtain ⟨l, el, e6⟩ := bnd e5
    have := asI_some ej; subst this
    have := asI_some ei; subst this
    have := asI_some el; subst this
    simp only [rng3D] at e6
    split at e6
    · rename_i hz
      cases e6
      refine ⟨hide, own, ρ, _, R0, m, ex, fun v H1 s1 r1 => ⟨hide, own, ρ, _, R0.grow s1, m, ey, fun u H2 s2 r2 => ⟨hide, own, ρ, _, R0.grow (s1.trans s2), m, ez, fun w H3 s3 r3 => ?_⟩⟩⟩
      have i1 := r1.is
      have i2 := r2.is
      have i3 := r3.is
      cases i1; cases i2; cases i3
      refine ⟨i, j, l, _, rfl, ⟨hz.1, hz.2.1, hz.2.2.1, (Int.toNat_of_nonneg hz.2.2.2.1).symm⟩, k _ H3 ((s1.trans s2).trans s3) jok_rngC (by rw [List.length_map, List.length_range]; exact hz.2.2.2.2)⟩
    · cases e6
theorem si_enum {elts : List Expr} {kk : Nat} {tpos : Pos} (G : GB X "enumerate") (ha : SE X T M a ca) (hs : starEach [a] X.env = [(false, eval a X.env)]) : SI X T M (.Tuple elts kk tpos) (.Call (.Name "enumerate" p) [a] [] pos) (.enum ca) :=
  PI.imp (PI.or (pi_enum G.gl G.mg (pa_cons ha pa_nil hs) hs) (pi_enumT G.gl G.mg (pa_cons ha pa_nil hs) hs)) fun σ H R ⟨hide, own, ρ, ds, R0, m, e, k⟩ => by
    simp only [evi] at e
    obtain ⟨x, ex, e1⟩ := bnd e
    cases x with
    | list xs =>
      simp only [listOf, Option.map_some, Option.some.injEq] at e1; subst e1
      refine .inl ⟨hide, own, ρ, _, R0, m, ex, fun v H1 s1 r1 => ?_⟩
      obtain ⟨p, vs, rfl, h1, n1, q1⟩ := r1.el
      exact ⟨p, vs, rfl, cut_le.seq h1, k _ H1 s1 (jok_enum (by simpa only [ali] using h1) (by simpa only [alie] using q1)) (by rw [enumD_len, ← q1.length]; exact n1)⟩
    | tuple xs =>
      simp only [listOf, Option.map_some, Option.some.injEq] at e1; subst e1
      refine .inr ⟨hide, own, ρ, _, R0, m, ex, fun v H1 s1 r1 => ?_⟩
      obtain ⟨p, vs, rfl, h1, n1, q1⟩ := r1.el
      exact ⟨p, vs, rfl, SqT.mono cut_le h1, k _ H1 s1 (jok_enumT (by simpa only [ali] using h1) (by simpa only [alie] using q1)) (by rw [enumD_len, ← q1.length]; exact n1)⟩
    | _ => simp [listOf] at e1
theorem si_zip {elts : List Expr} {kk : Nat} {tpos : Pos} (G : GB X "zip") (ha : SE X T M a ca) (hb : SE X T M b cb) (hs : starEach [a, b] X.env = (false, eval a X.env) :: starEach [b] X.env) (hs2 : starEach [b] X.env = [(false, eval b X.env)]) (hpl : (backTo pos (starEach [b] X.env)).any (·.1) = false) :
    SI X T M (.Tuple elts kk tpos) (.Call (.Name "zip" p) [a, b] [] pos) (.zip ca cb) :=
  PI.imp (pi_zip G.gl G.mg (pa_cons ha (pa_cons hb pa_nil hs2) hs) hs hpl) fun σ H R ⟨hide, own, ρ, ds, R0, m, e, k⟩ => by
    simp only [evi] at e
    obtain ⟨x, ex, e1⟩ := bnd e
    obtain ⟨y, ey, e2⟩ := bnd e1
    refine ⟨hide, own, ρ, _, R0, m, ex, fun v H1 s1 r1 => ⟨hide, own, ρ, _, R0.grow s1, m, ey, fun u H2 s2 r2 => ?_⟩⟩
    cases x with
    | list xs =>
      cases y with
      | list ys =>
        simp only [Option.some.injEq] at e2; subst e2
        obtain ⟨p, vs, rfl, h1, n1, q1⟩ := r1.el
        obtain ⟨p2, ws, rfl, h2, n2, q2⟩ := r2.el
        have g1 : Same (cut (hd hide (diff own (al ca)) σ) H1) (cut (hd hide (diff own (ali (.zip ca cb))) σ) H2) := hmono (by simp [ali]; exact fun i h => .inl h) s2
        have g2 : Same (cut (hd hide (diff own (al cb)) σ) H2) (cut (hd hide (diff own (ali (.zip ca cb))) σ) H2) := hmono (by simp [ali]; exact fun i h => .inr h) (Same.refl _)
        have f1 : Same (cut (hd hide (diff own (ale ca)) σ) H1) (cut (hd hide (diff own (alie (.zip ca cb))) σ) H2) := hmono (by simp [alie]; exact fun i h => .inl h) s2
        have f2 : Same (cut (hd hide (diff own (ale cb)) σ) H2) (cut (hd hide (diff own (alie (.zip ca cb))) σ) H2) := hmono (by simp [alie]; exact fun i h => .inr h) (Same.refl _)
        exact ⟨p, p2, vs, ws, rfl, s2.seq (cut_le.seq h1), cut_le.seq h2, k _ H2 (s1.trans s2) (jok_zip (g1.seq h1) (q1.mono f1) (g2.seq h2) (q2.mono f2)) (by rw [zipD_len, ← q1.length, ← q2.length]; omega)⟩
      | _ => simp at e2
    | _ => simp at e2

/-! ### list comprehensions -/
theorem compL_snoc {f : D → Option (Option D)} {d : D} : ∀ {ds out : List D}, compL f ds = some out → ∀ {o}, f d = some o → compL f (ds ++ [d]) = some (out ++ o.toList)
  | [], out, h, o, ho => by
    simp only [compL, Option.some.injEq] at h
    subst h
    simp only [List.nil_append, compL, ho, Option.bind_some, Option.map_some]
    cases o <;> rfl
  | x :: r, out, h, o, ho => by
    simp only [compL] at h
    obtain ⟨o1, e1, e2⟩ := bnd h
    obtain ⟨s, e3, rfl⟩ := mpd e2
    simp only [List.cons_append, compL, e1, Option.bind_some, compL_snoc e3 ho, Option.map_some]
    cases o1 <;> simp
theorem compL_at {f : D → Option (Option D)} : ∀ {ds out : List D}, compL f ds = some out → ∀ {i : Nat} {d : D}, ds[i]? = some d → ∃ o, f d = some o
  | [], _, _, _, _, h => by simp at h
  | x :: r, _, h, 0, _, hd => by
    simp at hd; subst hd
    simp only [compL] at h
    obtain ⟨o1, e1, _⟩ := bnd h
    exact ⟨o1, e1⟩
  | x :: r, _, h, i + 1, _, hd => by
    simp only [compL] at h
    obtain ⟨o1, e1, e2⟩ := bnd h
    obtain ⟨s, e3, _⟩ := mpd e2
    exact compL_at e3 (by simpa using hd)
theorem compL_take {f : D → Option (Option D)} : ∀ {ds out : List D}, compL f ds = some out → ∀ i, ∃ o, compL f (ds.take i) = some o
  | [], _, _, _ => ⟨[], by simp [compL]⟩
  | x :: r, _, h, 0 => ⟨[], by simp [compL]⟩
  | x :: r, _, h, i + 1 => by
    simp only [compL] at h
    obtain ⟨o1, e1, e2⟩ := bnd h
    obtain ⟨s, e3, _⟩ := mpd e2
    obtain ⟨t, et⟩ := compL_take e3 i
    exact ⟨_, by simp only [List.take_succ_cons, compL, e1, Option.bind_some, et, Option.map_some]; rfl⟩
def tTs (K : PySem.W.Frag) (T : Nat → List D → Option D) (M : List Nat) (cs : CEs) : TT := fun σ H Q => ∃ hide own ρ b, ER K hide own H σ ρ ∧ (∀ i ∈ own, i ∈ M) ∧ evt T cs ρ = some b ∧ ∀ H', Same H H' → Q b H'
theorem PTs.imp {X : Cx} {e : List Expr} {t t' : TT} (h : PTs X e t) (w : ∀ σ H Q, t' σ H Q → t σ H Q) : PTs X e t' := ⟨fun pins s σ H Q I q => h.run pins s σ H Q I (w σ H Q q)⟩
abbrev STs (X : Cx) (T : Nat → List D → Option D) (M : List Nat) (es : List Expr) (cs : CEs) : Prop := PTs X es (tTs X.K T M cs)
theorem sts_nil : STs X T M [] .nil := PTs.imp pts_nil fun σ H Q ⟨hide, own, ρ, b, R, m, e, k⟩ => by
  simp only [evt, Option.some.injEq] at e
  subst e
  exact k H (Same.refl H)
theorem sts_one (h : SQ X T M a ca) : STs X T M [a] (.cons ca .nil) := PTs.imp (pts_one h) fun σ H Q ⟨hide, own, ρ, b, R, m, e, k⟩ => by
  simp only [evt] at e
  obtain ⟨x, ex, e1⟩ := bnd e
  obtain ⟨c, ec, e2⟩ := bnd e1
  have := asB_some ec; subst this
  have hb : c = b := by cases c <;> simpa using e2
  subst hb
  exact ⟨hide, own, ρ, c, R, m, ex, k⟩
theorem wipe_agree : ∀ {vs : List Nat} {σ : L2.St}, Agree vs σ (wipe σ vs)
  | [], σ => Agree.refl _ _
  | v :: vs, σ => by
    have h := wipe_agree (vs := vs) (σ := σ)
    refine ⟨by show ((wipe σ vs).set v none).length = _; simp [h.1], fun i hi => ?_⟩
    simp only [List.mem_cons, not_or] at hi
    show ((wipe σ vs).set v none)[i]? = _
    rw [List.getElem?_set_ne (Ne.symm hi.1)]
    exact h.2 i hi.2
theorem wipe_at {i : Nat} : ∀ {vs : List Nat} {σ : L2.St}, i ∈ vs → (wipe σ vs)[i]? = if i < σ.length then some none else none
  | v :: vs, σ, h => by
    show ((wipe σ vs).set v none)[i]? = _
    by_cases e : v = i
    · subst e
      rw [List.getElem?_set]
      simp [wipe_length]
    · rw [List.getElem?_set_ne e]
      exact wipe_at ((List.mem_cons.mp h).resolve_left fun z => e z.symm)
theorem wipe_eq {vs : List Nat} {σ σ' : L2.St} (a : Agree vs σ σ') : wipe σ' vs = wipe σ vs := by
  refine List.ext_getElem? fun i => ?_
  by_cases h : i ∈ vs
  · rw [wipe_at h, wipe_at h, a.1]
  · rw [wipe_agree.2 i h, wipe_agree.2 i h, a.2 i h]
theorem wipeD_len : ∀ {vs : List Nat} {ρ : Env}, (wipeD ρ vs).length = ρ.length
  | [], _ => rfl
  | v :: vs, ρ => by show ((wipeD ρ vs).set v none).length = _; simp [wipeD_len]
theorem wipeD_some {i : Nat} {d : D} : ∀ {vs : List Nat} {ρ : Env}, (wipeD ρ vs)[i]? = some (some d) → i ∉ vs ∧ ρ[i]? = some (some d)
  | [], _, h => ⟨by simp, h⟩
  | v :: vs, ρ, h => by
    have h : ((wipeD ρ vs).set v none)[i]? = some (some d) := h
    by_cases e : v = i
    · subst e
      rw [List.getElem?_set] at h
      simp at h
    · rw [List.getElem?_set_ne e] at h
      obtain ⟨h1, h2⟩ := wipeD_some h
      exact ⟨by simp only [List.mem_cons, not_or]; exact ⟨Ne.symm e, h1⟩, h2⟩
theorem wipeD_out {i : Nat} : ∀ {vs : List Nat} {ρ : Env}, i ∉ vs → (wipeD ρ vs)[i]? = ρ[i]?
  | [], _, _ => rfl
  | v :: vs, ρ, h => by
    simp only [List.mem_cons, not_or] at h
    show ((wipeD ρ vs).set v none)[i]? = _
    rw [List.getElem?_set_ne (Ne.symm h.1)]
    exact wipeD_out h.2
/-- the block's own slots forgotten -/
theorem ER.wiped {K : PySem.W.Frag} {hide : Addr → Prop} {own vs : List Nat} {H : Hp} {σ : L2.St} {ρ : Env} (R : ER K hide own H σ ρ) (d : ∀ i ∈ own, i ∉ vs) : ER K hide own H (wipe σ vs) (wipeD ρ vs) := by
  have hh : hd hide own (wipe σ vs) = hd hide own σ := hd_agree wipe_agree d
  refine ⟨R.hid, by rw [wipe_length, wipeD_len, R.len], fun i x e n => ?_, fun i hi => ?_, fun i j a hi hj => ?_⟩
  · obtain ⟨h1, h2⟩ := wipeD_some e
    obtain ⟨v, e1, e2⟩ := R.shr i x h2 n
    exact ⟨v, by rw [wipe_agree.2 i h1]; exact e1, by rw [hh]; exact e2⟩
  · obtain ⟨a, x, h1, h2, h3, h4⟩ := R.ow i hi
    exact ⟨a, x, by rw [wipeD_out (d i hi)]; exact h1, by rw [wipe_agree.2 i (d i hi)]; exact h2, h3, by rw [hh]; exact h4⟩
  · rw [wipe_agree.2 i (d i hi), wipe_agree.2 j (d j hj)]
    exact R.dist i j a hi hj
/-- one more object is hidden -/
theorem ER.hide1 {K : PySem.W.Frag} {hide : Addr → Prop} {own : List Nat} {H H' : Hp} {σ : L2.St} {ρ : Env} {p : Addr} (R : ER K hide own H σ ρ) (n : H p = none) (s : Same H H') (y : H' p ≠ none) : ER K (fun b => hide b ∨ b = p) own H' σ ρ := by
  have sc : Same (cut (hd hide own σ) H) (cut (hd (fun b => hide b ∨ b = p) own σ) H') := cut_same2 s fun b z => by
    rcases z with (z | z) | z
    · exact .inl (.inl z)
    · exact .inr (z ▸ n)
    · exact .inl (.inr z)
  refine ⟨fun b hb => ?_, R.len, fun i d e ni => ?_, fun i hi => ?_, R.dist⟩
  · rcases hb with hb | hb
    · exact fun z => R.hid b hb (s.free z)
    · rw [hb]; exact y
  · obtain ⟨v, h1, h2⟩ := R.shr i d e ni
    exact ⟨v, h1, h2.mono sc⟩
  · obtain ⟨a, d, h1, h2, h3, h4⟩ := R.ow i hi
    obtain ⟨u, hu⟩ := h4.some
    refine ⟨a, d, h1, h2, ?_, ?_⟩
    · rintro (z | z)
      · exact h3 z
      · rw [z, n] at hu; cases hu
    · rw [s a u hu, ← hu]
      exact h4.mono sc
theorem diff_diff {own A B : List Nat} : diff (diff own A) B = diff own (B ++ A) := by
  unfold diff
  rw [List.filter_filter]
  congr 1
  funext i
  simp
theorem lc_imp {K : PySem.W.Frag} {ce : CE} {pat : Pat} {ci : CI} {cifs : CEs} {vs : List Nat} (hm : ∀ i ∈ vs, i ∉ M) (hp : ∀ i ∈ pat.slots, i ∈ vs) (σ : L2.St) (H : Hp) (Q : VK)
    (h : tE K T M (.lc ce pat ci cifs vs) σ H Q) : tLc (tI K T M ci) (tG K pat) (tTs K T M cifs) (tE K T M ce) vs σ H Q := by
  obtain ⟨hide, own, ρ, d, R, m, e, k⟩ := h
  simp only [ev] at e
  obtain ⟨ds, eds, e1⟩ := bnd e
  obtain ⟨out, eout, rfl⟩ := mpd e1
  generalize hf : (fun d => (bindP pat d (wipeD ρ vs)).bind fun ρ' => (evt T cifs ρ').bind fun c => if c = true then (ev T ce ρ').map some else some none) = f at eout
  refine ⟨hide, own, ρ, ds, R, m, eds, fun J H1 s1 jok hz => fun D nD => ?_⟩
  have R1 := (R.grow s1).freeze (own' := diff own (alie ci)) diff_own
  have m1 : ∀ i ∈ diff own (alie ci), i ∈ M := fun i hi => m i (diff_own i hi)
  have hd2 : diff own (al ce ++ alie ci) = diff (diff own (alie ci)) (al ce) := diff_diff.symm
  have w0 : ∀ i ∈ diff own (al ce ++ alie ci), i ∈ own := diff_own
  have nr0 : ∀ (D : Addr), H1 D = none → ¬ hd hide (diff own (al ce ++ alie ci)) σ D := fun D nD z => (R.grow s1).nroot nD diff_own z
  rw [hd2] at nr0
  generalize ho : diff own (alie ci) = own1 at jok R1 m1 hd2 nr0
  have dv : ∀ i ∈ own1, i ∉ vs := fun i hi hv => hm i hv (m1 i hi)
  let hD : Addr → Prop := fun b => hide b ∨ b = D
  refine ⟨fun i n H' => n = ds.length - i ∧ i ≤ ds.length ∧ Same H1 H' ∧ ∃ acc outd, H' D = some (.lst acc) ∧ compL f (ds.take i) = some outd ∧ IsAll K (cut (hd hD (diff own1 (al ce)) σ) H') acc outd ∧ acc.length ≤ i, ⟨ds.length, by simp, Nat.zero_le _, same_upd_new nD, [], [], upd_same, by simp [compL], .nil, Nat.le_refl _⟩, ?_⟩
  rintro i n H' ⟨rfl, hi, s2, acc, outd, hD1, hco, hacc, hlen⟩
  have RD : ER K hD own1 H' σ ρ := R1.hide1 nD s2 (by rw [hD1]; simp)
  have sF : Same (cut (hd hide own1 σ) H1) (cut (hd hD own1 σ) H') := cut_same2 s2 fun b z => by
    rcases z with (z | z) | z
    · exact .inl (.inl z)
    · exact .inr (z ▸ nD)
    · exact .inl (.inr z)
  obtain ⟨jgo, jstop⟩ := jok i H' (hd hD own1 σ) (cut_le.trans s2) sF (fun b z => by
    rcases z with z | z
    · exact RD.hid b z
    · intro hn
      exact RD.nroot hn (fun i h => h) (.inr z))
  by_cases hlt : i < ds.length
  · obtain ⟨go, yld⟩ := jgo hlt
    refine .inr ⟨go, fun H'' => Same H1 H'' ∧ ∃ acc outd, H'' D = some (.lst acc) ∧ compL f (ds.take (i + 1)) = some outd ∧ IsAll K (cut (hd hD (diff own1 (al ce)) σ) H'') acc outd ∧ acc.length ≤ i + 1, fun H'' q => ⟨ds.length - (i + 1), by omega, rfl, hlt, q⟩, fun x H2 y => ?_⟩
    obtain ⟨s3, di, edi, ix⟩ := yld x H2 y
    obtain ⟨o, eo⟩ := compL_at eout edi
    have tk : ds.take (i + 1) = ds.take i ++ [di] := by rw [List.take_add_one, edi]; rfl
    have hco2 : compL f (ds.take (i + 1)) = some (outd ++ o.toList) := by rw [tk]; exact compL_snoc hco eo
    rw [← hf] at eo
    obtain ⟨ρ', eb, eo1⟩ := bnd eo
    obtain ⟨c, ec, eo2⟩ := bnd eo1
    have RW : ER K hD own1 H2 (wipe σ vs) (wipeD ρ vs) := (RD.grow s3).wiped dv
    have hh0 : hd hD own1 (wipe σ vs) = hd hD own1 σ := hd_agree wipe_agree dv
    refine ⟨cut (hd hD own1 (wipe σ vs)) H2, di, cut_le, by rw [hh0]; exact ix, bindP_ok eb, fun σ2 bd => ?_⟩
    have ag := Bnd.agree (vs := vs) bd hp
    have R2 : ER K hD own1 H2 σ2 ρ' := ER.bind bd RW (fun j hj z => dv j z (hp j hj)) rfl eb
    have ag2 : Agree vs σ σ2 := wipe_agree.trans ag
    refine ⟨wipe_eq ag2, hD, own1, ρ', c, R2, m1, ec, fun H3 s4 => ?_⟩
    have sub : ∀ j ∈ diff own1 (al ce), j ∉ vs := fun j hj => dv j (diff_own j hj)
    cases c with
    | true =>
      rw [if_pos rfl] at eo2
      refine iteT ?_
      obtain ⟨yd, ey, e5⟩ := mpd eo2
      subst e5
      refine ⟨hD, own1, ρ', yd, R2.grow s4, m1, ey, fun y H4 s5 r5 => ?_⟩
      have s25 : Same H' H4 := (s3.trans s4).trans s5
      refine ⟨acc, s25 D _ hD1, Nat.lt_of_lt_of_le (Nat.lt_of_le_of_lt hlen hlt) hz, fun b ob hb => ?_, acc ++ [y], _, upd_same, hco2, ?_, by rw [List.length_append]; simp; exact hlen⟩
      · rw [upd_ne (ne_of_none hb nD)]
        exact s25 b ob (s2 b ob hb)
      · have hid : hd hD (diff own1 (al ce)) σ D := .inl (.inr rfl)
        refine IsAll.append (hacc.mono ((cut_same s25).trans (cut_upd hid))) (.cons ?_ .nil)
        have := r5.is
        rw [hd_agree ag2 sub] at this
        exact this.mono (cut_upd hid)
    | false =>
      rw [if_neg Bool.false_ne_true] at eo2
      refine iteF ?_
      have e5 : o = none := (Option.some.inj eo2).symm
      subst e5
      have s24 : Same H' H3 := s3.trans s4
      exact ⟨s2.trans s24, acc, _, s24 D _ hD1, hco2, by simpa using hacc.mono (cut_same s24), Nat.le_succ_of_le hlen⟩
  · have hin : i = ds.length := by omega
    refine .inl ⟨jstop (by omega), k (.ref D) H' (s1.trans s2) ?_⟩
    have e6 : outd = out := by
      rw [hin, List.take_length, eout] at hco
      exact (Option.some.inj hco).symm
    subst e6
    have nr := nr0 D nD
    have hal : al (.lc ce pat ci cifs vs) = al ce ++ alie ci := by simp only [al]
    have hale : ale (.lc ce pat ci cifs vs) = al ce ++ alie ci := by simp only [ale]
    have an : Same (cut (hd hD (diff own1 (al ce)) σ) H') (cut (hd hide (diff own1 (al ce)) σ) H') := cut_anti fun b z => z.elim (fun z => .inl (.inl z)) .inr
    have hln : acc.length ≤ sizeLine := Nat.le_trans hlen (Nat.le_trans hi hz)
    have ii : Is K (cut (hd hide (diff own1 (al ce)) σ) H') (.ref D) (.list outd) := .lst (.inl (.inl (by rw [cut_no nr]; exact hD1))) hln (hacc.mono an)
    refine ⟨by rw [hal, hd2]; exact ii, by rw [hal, hale, hd2]; exact ii.el (Same.refl _), fun _ _ => ⟨D, rfl, s1.free nD, .inl ⟨acc, outd, hD1, rfl, hln, ?_⟩⟩⟩
    rw [hale, hd2]
    exact hacc.mono (cut_anti fun b z => by
      rcases z with (z | z) | z
      · exact .inl (.inl z)
      · exact .inr z
      · exact .inl (.inr z))
theorem se_lc {elt iter : Expr} {ifs : List Expr} {scope : Scope} {own0 : List (Str × Nat)} {ce : CE} {pat : Pat} {ci : CI} {cifs : CEs} {vs : List Nat} (hvs : own0.map (·.2) = vs) (hc : X.calm = true) (hN : X.N.Nodup) (hi : SI X T M tg iter ci) (ok : BlkOk X.N X.env.scope scope own0)
    (hg : ∀ (s : Shared) (H : Hp) (C : Addr) (cl : List (Str × Addr)) (fp : List Addr), SP (X.blk s H scope (compEnvC scope cl C X.env) fp) tg pat)
    (ht : ∀ (s : Shared) (H : Hp) (C : Addr) (cl : List (Str × Addr)) (fp : List Addr), STs (X.blk s H scope (compEnvC scope cl C X.env) fp) T M ifs cifs)
    (he : ∀ (s : Shared) (H : Hp) (C : Addr) (cl : List (Str × Addr)) (fp : List Addr), SE (X.blk s H scope (compEnvC scope cl C X.env) fp) T M elt ce) (hs : ∀ x, foldedSetIterable iter X.env x = pure x)
    (hm : ∀ i ∈ vs, i ∉ M) (hp : ∀ i ∈ pat.slots, i ∈ vs) :
    SE X T M (.ListComp elt [⟨tg, iter, ifs, 0⟩] scope pos) (.lc ce pat ci cifs vs) := by
  subst hvs
  exact PE.imp (pe_lc (ifs := ifs) (g := tG X.K pat) (tt := tTs X.K T M cifs) (te := tE X.K T M ce) (pos := pos) hc hN hi ok hg ht he hs) (lc_imp hm hp)
end
end DI
set_option maxRecDepth 100000
set_option maxHeartbeats 1000000
/-! DI: statements on data. -/
namespace DI
open PySem L2
mutual
inductive CS where
  | asg (p : Pat) (e : CE)
  | own (i : Nat) (e : CE)
  | par (is : List Nat) (es : CEs)
  | app (i : Nat) (e : CE)
  | ext (i : Nat) (e : CE)
  | put (i : Nat) (ix e : CE)
  | putS (i : Nat) (lo hi e : CE)
  | pop (i : Nat)
  | popA (p : Pat) (i : Nat) (ix : CE)
  | ret (e : CE) | retN | rse | pass | brk | cnt
  | ife (c : CE) (a b : CSs)
  | forr (p : Pat) (it : CI) (body : CSs) (o : List Nat)
  | whl (c : CE) (body : CSs) (o : List Nat)
  | exp (e : CE)
inductive CSs where
  | nil | cons (s : CS) (r : CSs)
end
/-- how a statement ends -/
inductive Out where
  | nx (ρ : Env) | rt (d : D) | bk (ρ : Env) | ct (ρ : Env)
def forL (f : D → Env → Option Out) : List D → Env → Option Out
  | [], ρ => some (.nx ρ)
  | d :: r, ρ => (f d ρ).bind fun o => match o with
    | .nx ρ' => forL f r ρ'
    | .ct ρ' => forL f r ρ'
    | .bk ρ' => some (.nx ρ')
    | .rt v => some (.rt v)
def whileL (c : Env → Option Bool) (f : Env → Option Out) : Nat → Env → Option Out
  | 0, _ => none
  | n + 1, ρ => (c ρ).bind fun b => if b then (f ρ).bind fun o => match o with
    | .nx ρ' => whileL c f n ρ'
    | .ct ρ' => whileL c f n ρ'
    | .bk ρ' => some (.nx ρ')
    | .rt v => some (.rt v) else some (.nx ρ)
/-- a list's place by an index -/
def putD : D → D → D → Option D
  | .list xs, .int k, d => (ixN xs.length k).map fun j => .list (xs.set j d)
  | _, _, _ => none
def appD : D → D → Option D
  | .list xs, d => if xs.length < sizeLine then some (.list (xs ++ [d])) else none
  | _, _ => none
def setAll : List Nat → List D → Env → Option Env
  | [], [], ρ => some ρ
  | i :: is, d :: ds, ρ => if i < ρ.length then setAll is ds (ρ.set i (some d)) else none
  | _, _, _ => none
/-- a new empty list -/
def isNil : CE → Bool
  | .lst .nil => true
  | _ => false
def newsOf (M : List Nat) : List Nat → CEs → List Nat
  | i :: is, .cons c r => if M.contains i && isNil c then i :: newsOf M is r else newsOf M is r
  | _, _ => []
def slot (ρ : Env) (i : Nat) : Option D := (ρ[i]?).join
variable (T : Nat → List D → Option D) (n : Nat)
mutual
def exS : CS → Env → Option Out
  | .asg p e, ρ => (ev T e ρ).bind fun d => (bindP p d ρ).map .nx
  | .own i e, ρ => (ev T e ρ).bind fun d => if isMut d && decide (i < ρ.length) then some (.nx (ρ.set i (some d))) else none
  | .par is es, ρ => (evs T es ρ).bind fun ds => (setAll is ds ρ).map .nx
  | .app i e, ρ => (ev T e ρ).bind fun d => (slot ρ i).bind fun x => (appD x d).map fun y => .nx (ρ.set i (some y))
  | .put i ix e, ρ => (ev T e ρ).bind fun d => (ev T ix ρ).bind fun k => (slot ρ i).bind fun x => (putD x k d).map fun y => .nx (ρ.set i (some y))
  | .ret e, ρ => (ev T e ρ).map .rt
  | .retN, _ => some (.rt .none)
  | .rse, _ => none
  | .pass, ρ => some (.nx ρ)
  | .brk, ρ => some (.bk ρ)
  | .cnt, ρ => some (.ct ρ)
  | .ife c a b, ρ => (ev T c ρ).bind fun x => (asB x).bind fun t => if t then exSs a ρ else exSs b ρ
  | .forr p it body _, ρ => (evi T it ρ).bind fun ds => forL (fun d ρ => (bindP p d ρ).bind fun ρ' => exSs body ρ') ds ρ
  | .whl c body _, ρ => whileL (fun ρ => (ev T c ρ).bind asB) (fun ρ => exSs body ρ) n ρ
  | .exp e, ρ => (ev T e ρ).map fun _ => .nx ρ
  | .ext _ _, _ => none
  | .putS _ _ _ _, _ => none
  | .pop _, _ => none
  | .popA _ _ _, _ => none
def exSs : CSs → Env → Option Out
  | .nil, ρ => some (.nx ρ)
  | .cons s r, ρ => (exS s ρ).bind fun o => match o with
    | .nx ρ' => exSs r ρ'
    | .rt d => some (.rt d)
    | .bk ρ' => some (.bk ρ')
    | .ct ρ' => some (.ct ρ')
end
def subl (a b : List Nat) : Bool := a.all fun i => b.contains i
def disj (a b : List Nat) : Bool := a.all fun i => !b.contains i
mutual
/-- which slots are owned behind a statement -/
def chk (M : List Nat) (L : Option (List Nat)) : List Nat → CS → Option (List Nat)
  | o, .asg p e => some (diff (diff o (al e)) p.slots)
  | o, .own i e => if fresh e && M.contains i then some (i :: diff (diff o (ale e)) [i]) else none
  | o, .par is es => some (newsOf M is es ++ diff (diff o (als es)) is)
  | o, .app i e => if o.contains i && disj [i] (al e) then some (diff o (al e)) else none
  | o, .put i _ e => if o.contains i && disj [i] (al e) then some (diff o (al e)) else none
  | o, .ret _ => some o
  | o, .retN => some o
  | o, .rse => some o
  | o, .pass => some o
  | o, .brk => L.bind fun l => if subl l o then some o else none
  | o, .cnt => L.bind fun l => if subl l o then some o else none
  | o, .ife _ a b => (chks M L o a).bind fun x => (chks M L o b).map fun y => x.filter fun i => y.contains i
  | o, .forr p it body ob => if subl ob (diff o (ali it)) && disj ob p.slots then (chks M (some ob) ob body).bind fun x => if subl ob x then some ob else none else none
  | o, .whl _ body ob => if subl ob o then (chks M (some ob) ob body).bind fun x => if subl ob x then some ob else none else none
  | o, .exp e => some (diff o (al e))
  | _, .ext _ _ => none
  | _, .putS _ _ _ _ => none
  | _, .pop _ => none
  | _, .popA _ _ _ => none
def chks (M : List Nat) (L : Option (List Nat)) : List Nat → CSs → Option (List Nat)
  | o, .nil => some o
  | o, .cons s r => (chk M L o s).bind fun x => chks M L x r
end
end DI
set_option maxRecDepth 100000
set_option maxHeartbeats 1000000
/-! DI: statements keep their word. -/
namespace DI
open PySem L2
structure RS (K : PySem.W.Frag) (M : List Nat) (hide : Addr → Prop) (own : List Nat) (H0 H : Hp) (σ : L2.St) (ρ : Env) : Prop where
  er : ER K hide own H σ ρ
  m : ∀ i ∈ own, i ∈ M
  same : Same H0 H
  hid0 : ∀ b, hide b → H0 b ≠ none
  new : ∀ i ∈ own, ∀ a, σ[i]? = some (some (V.ref a)) → H0 a = none
section
variable {K : PySem.W.Frag} {M : List Nat} {hide : Addr → Prop} {own own' : List Nat} {H0 H H1 : Hp} {σ : L2.St} {ρ : Env}
theorem RS.step (S : RS K M hide own H0 H σ ρ) (s : Same H H1) (w : ∀ i ∈ own', i ∈ own) : RS K M hide own' H0 H1 σ ρ :=
  ⟨(S.er.grow s).freeze w, fun i hi => S.m i (w i hi), S.same.trans s, S.hid0, fun i hi => S.new i (w i hi)⟩
theorem fro (s : Same H H1) (w : ∀ i ∈ own', i ∈ own) : Same (cut (hd hide own σ) H) (cut (hd hide own' σ) H1) := (cut_anti (hd_anti w)).trans (cut_same s)
/-- what an owned slot holds is changed -/
theorem RS.upd {i : Nat} {a : Addr} {o : HO} {d d' : D} (S : RS K M hide own H0 H σ ρ) (hi : i ∈ own) (ea : σ[i]? = some (some (V.ref a))) (h : OwnIs K (cut (hd hide own σ) H) (some o) d') :
    RS K M hide own H0 (upd H a o) σ (ρ.set i (some d')) ∧ Same (cut (hd hide own σ) H) (cut (hd hide own σ) (upd H a o)) := by
  have hid : hd hide own σ a := .inr ⟨i, hi, ea⟩
  have sc : Same (cut (hd hide own σ) H) (cut (hd hide own σ) (L2.upd H a o)) := cut_upd hid
  have na : ¬ hide a := by
    obtain ⟨a', d0, h1, h2, h3, h4⟩ := S.er.ow i hi
    rw [ea] at h2; cases h2; exact h3
  have li : i < ρ.length := by
    obtain ⟨a', d0, h1, _⟩ := S.er.ow i hi
    exact (List.getElem?_eq_some_iff.mp h1).1
  refine ⟨⟨⟨fun b hb => ?_, by simp [S.er.len], fun j e ej nj => ?_, fun j hj => ?_, S.er.dist⟩, S.m, fun b u e => ?_, S.hid0, S.new⟩, sc⟩
  · have : b ≠ a := fun z => na (z ▸ hb)
    rw [upd_ne this]; exact S.er.hid b hb
  · have hij : i ≠ j := fun z => nj (z ▸ hi)
    rw [List.getElem?_set_ne hij] at ej
    obtain ⟨v, h1, h2⟩ := S.er.shr j e ej nj
    exact ⟨v, h1, h2.mono sc⟩
  · obtain ⟨aj, dj, h1, h2, h3, h4⟩ := S.er.ow j hj
    by_cases hij : i = j
    · subst hij
      rw [ea] at h2; cases h2
      exact ⟨a, d', by rw [List.getElem?_set_self li], ea, h3, by rw [upd_same]; exact h.mono sc⟩
    · have hne : aj ≠ a := fun z => hij (S.er.dist i j a hi hj ea (by rw [h2, z]))
      exact ⟨aj, dj, by rw [List.getElem?_set_ne hij]; exact h1, h2, h3, by rw [upd_ne hne]; exact h4.mono sc⟩
  · have : b ≠ a := fun z => by
      subst z
      rw [S.new i hi _ ea] at e; cases e
    rw [upd_ne this]; exact S.same b u e
/-- a new object is owned -/
theorem RS.owned {i : Nat} {a : Addr} {d : D} {A : List Nat} (S : RS K M hide own H0 H σ ρ) (s : Same H H1) (na : H a = none) (hM : i ∈ M) (hl : i < ρ.length) (h : OwnIs K (cut (fun b => hd hide (diff own A) σ b ∨ b = a) H1) (H1 a) d) :
    RS K M hide (i :: diff (diff own A) [i]) H0 H1 (σ.set i (some (.ref a))) (ρ.set i (some d)) ∧ Same (cut (hd hide own σ) H) (cut (hd hide (i :: diff (diff own A) [i]) (σ.set i (some (.ref a)))) H1) := by
  generalize ho : diff (diff own A) [i] = o1
  have w1 : ∀ j ∈ o1, j ∈ diff own A ∧ j ≠ i := fun j hj => by
    rw [← ho] at hj
    obtain ⟨h1, h2⟩ := mem_diff.mp hj
    exact ⟨h1, fun z => h2 (by simp [z])⟩
  have w2 : ∀ j ∈ o1, j ∈ own := fun j hj => diff_own j (w1 j hj).1
  have li : i < σ.length := by rw [S.er.len]; exact hl
  have rt : ∀ b, hd hide (i :: o1) (σ.set i (some (.ref a))) b → hd hide o1 σ b ∨ b = a := fun b z => by
    rcases z with z | ⟨j, hj, e⟩
    · exact .inl (.inl z)
    · rcases List.mem_cons.mp hj with rfl | hj
      · rw [List.getElem?_set_self li] at e
        cases e; exact .inr rfl
      · rw [List.getElem?_set_ne (Ne.symm (w1 j hj).2)] at e
        exact .inl (.inr ⟨j, hj, e⟩)
  have sc : Same (cut (hd hide o1 σ) H) (cut (hd hide (i :: o1) (σ.set i (some (.ref a)))) H1) := cut_same2 s fun b z => (rt b z).elim .inl fun e => .inr (by rw [e]; exact na)
  have sc2 : Same (cut (hd hide own σ) H) (cut (hd hide (i :: o1) (σ.set i (some (.ref a)))) H1) := (cut_anti (hd_anti w2)).trans sc
  have nha : ¬ hide a := fun z => S.er.hid a z na
  have Rf := S.er.freeze w2
  refine ⟨⟨⟨fun b hb z => S.er.hid b hb (s.free z), by simp [S.er.len], fun j e ej nj => ?_, fun j hj => ?_, fun j k b hj hk e1 e2 => ?_⟩, fun j hj => ?_, S.same.trans s, S.hid0, fun j hj b e => ?_⟩, sc2⟩
  · have hij : i ≠ j := fun z => nj (by simp [z])
    have nj1 : j ∉ o1 := fun z => nj (List.mem_cons_of_mem _ z)
    rw [List.getElem?_set_ne hij] at ej
    obtain ⟨v, h1, h2⟩ := Rf.shr j e ej nj1
    exact ⟨v, by rw [List.getElem?_set_ne hij]; exact h1, h2.mono sc⟩
  · rcases List.mem_cons.mp hj with rfl | hj
    · refine ⟨a, d, List.getElem?_set_self hl, List.getElem?_set_self li, nha, h.mono (cut_anti fun b z => ?_)⟩
      rcases rt b z with q | q
      · exact .inl (hd_anti (fun k hk => (w1 k hk).1) b q)
      · exact .inr q
    · obtain ⟨aj, dj, h1, h2, h3, h4⟩ := Rf.ow j hj
      obtain ⟨u, hu⟩ := h4.some
      have hij := Ne.symm (w1 j hj).2
      exact ⟨aj, dj, by rw [List.getElem?_set_ne hij]; exact h1, by rw [List.getElem?_set_ne hij]; exact h2, h3, by rw [s aj u hu, ← hu]; exact h4.mono sc⟩
  · have key : ∀ l ∈ o1, σ[l]? = some (some (V.ref a)) → False := fun l hl' e => by
      obtain ⟨al', dl, h1, h2, h3, h4⟩ := Rf.ow l hl'
      rw [e] at h2; cases h2
      obtain ⟨u, hu⟩ := h4.some
      rw [na] at hu; cases hu
    rcases List.mem_cons.mp hj with rfl | hj <;> rcases List.mem_cons.mp hk with hk | hk
    · exact hk.symm
    · rw [List.getElem?_set_self li] at e1; cases e1
      rw [List.getElem?_set_ne (Ne.symm (w1 k hk).2)] at e2
      exact (key k hk e2).elim
    · rw [hk, List.getElem?_set_self li] at e2; cases e2
      rw [List.getElem?_set_ne (Ne.symm (w1 j hj).2)] at e1
      exact (key j hj e1).elim
    · rw [List.getElem?_set_ne (Ne.symm (w1 j hj).2)] at e1
      rw [List.getElem?_set_ne (Ne.symm (w1 k hk).2)] at e2
      exact Rf.dist j k b hj hk e1 e2
  · rcases List.mem_cons.mp hj with rfl | hj
    · exact hM
    · exact S.m j (w2 j hj)
  · rcases List.mem_cons.mp hj with rfl | hj
    · rw [List.getElem?_set_self li] at e; cases e
      exact S.same.free na
    · rw [List.getElem?_set_ne (Ne.symm (w1 j hj).2)] at e
      exact S.new j (w2 j hj) b e
end
/-- what is wanted behind each end -/
def OutOk (K : PySem.W.Frag) (M : List Nat) (hide : Addr → Prop) (own own' : List Nat) (L : Option (List Nat)) (H0 H : Hp) (σ : L2.St) (D : Ends) : Out → Prop
  | .nx ρ' => ∀ σ' H', RS K M hide own' H0 H' σ' ρ' → Same (cut (hd hide own σ) H) (cut (hd hide own' σ') H') → D.nx σ' H'
  | .rt d => ∀ v H', Same H0 H' → Is K (cut hide H') v d → D.rt v H'
  | .bk ρ' => ∃ l, L = some l ∧ ∀ σ' H', RS K M hide l H0 H' σ' ρ' → Same (cut (hd hide own σ) H) (cut (hd hide l σ') H') → D.bk σ' H'
  | .ct ρ' => ∃ l, L = some l ∧ ∀ σ' H', RS K M hide l H0 H' σ' ρ' → Same (cut (hd hide own σ) H) (cut (hd hide l σ') H') → D.ct σ' H'
def tS (K : PySem.W.Frag) (T : Nat → List D → Option D) (M : List Nat) (L : Option (List Nat)) (own own' : List Nat) (cs : CS) : TS := fun D σ H => ∃ hide H0 ρ n out, RS K M hide own H0 H σ ρ ∧ exS T n cs ρ = some out ∧ OutOk K M hide own own' L H0 H σ D out
def tSs (K : PySem.W.Frag) (T : Nat → List D → Option D) (M : List Nat) (L : Option (List Nat)) (own own' : List Nat) (cs : CSs) : TS := fun D σ H => ∃ hide H0 ρ n out, RS K M hide own H0 H σ ρ ∧ exSs T n cs ρ = some out ∧ OutOk K M hide own own' L H0 H σ D out
theorem PS.imp {X : Cx} {st : Stmt} {t t' : TS} (h : PS X st t) (w : ∀ D σ H, t' D σ H → t D σ H) : PS X st t' := ⟨fun pins s σ H D I q => h.run pins s σ H D I (w D σ H q)⟩
theorem PSs.imp {X : Cx} {st : List Stmt} {t t' : TS} (h : PSs X st t) (w : ∀ D σ H, t' D σ H → t D σ H) : PSs X st t' := ⟨fun pins s σ H D I q => h.run pins s σ H D I (w D σ H q)⟩
section
variable {X : Cx} {T : Nat → List D → Option D} {M : List Nat} {L : Option (List Nat)} {own own' : List Nat} {e a b : Expr} {ca cb cc c : CE} {pos : Pos} {st : Stmt} {sts : List Stmt} {cs : CS} {css : CSs}
abbrev SSt (X : Cx) (T : Nat → List D → Option D) (M : List Nat) (L : Option (List Nat)) (own own' : List Nat) (st : Stmt) (cs : CS) : Prop := PS X st (tS X.K T M L own own' cs)
abbrev SSs (X : Cx) (T : Nat → List D → Option D) (M : List Nat) (L : Option (List Nat)) (own own' : List Nat) (st : List Stmt) (cs : CSs) : Prop := PSs X st (tSs X.K T M L own own' cs)
theorem subl_iff {a b : List Nat} (h : subl a b = true) : ∀ i ∈ a, i ∈ b := fun i hi => by
  have := List.all_eq_true.mp h i hi
  simpa using this
theorem disj_iff {a b : List Nat} (h : disj a b = true) : ∀ i ∈ a, i ∉ b := fun i hi => by
  have := List.all_eq_true.mp h i hi
  simpa using this
/-- the end of a block is weaker than that of its parts -/
theorem OutOk.weak {K : PySem.W.Frag} {hide : Addr → Prop} {o1 : List Nat} {H0 H : Hp} {σ : L2.St} {D : Ends} {out : Out} (h : OutOk K M hide own o1 L H0 H σ D out) (w : ∀ i ∈ o1, i ∈ own') : OutOk K M hide own own' L H0 H σ D out := by
  cases out with
  | nx ρ' => exact fun σ' H' S f => h σ' H' (S.step (Same.refl _) w) (f.trans (cut_anti (hd_anti w)))
  | rt d => exact h
  | bk ρ' => exact h
  | ct ρ' => exact h
/-- another beginning -/
theorem OutOk.pre {K : PySem.W.Frag} {hide : Addr → Prop} {o1 : List Nat} {H0 H H1 : Hp} {σ σ1 : L2.St} {D : Ends} {out : Out} (h : OutOk K M hide own own' L H0 H σ D out) (f : Same (cut (hd hide own σ) H) (cut (hd hide o1 σ1) H1)) : OutOk K M hide o1 own' L H0 H1 σ1 D out := by
  cases out with
  | nx ρ' => exact fun σ' H' S g => h σ' H' S (f.trans g)
  | rt d => exact h
  | bk ρ' => obtain ⟨l, e, h⟩ := h; exact ⟨l, e, fun σ' H' S g => h σ' H' S (f.trans g)⟩
  | ct ρ' => obtain ⟨l, e, h⟩ := h; exact ⟨l, e, fun σ' H' S g => h σ' H' S (f.trans g)⟩
theorem sss_nil : SSs X T M L own own [] .nil := PSs.imp pss_nil fun D σ H ⟨hide, H0, ρ, n, out, S, e, k⟩ => by
  simp only [exSs, Option.some.injEq] at e
  subst e
  exact k σ H S (Same.refl _)
theorem sss_cons {o1 : List Nat} (h1 : SSt X T M L own o1 st cs) (h2 : SSs X T M L o1 own' sts css) : SSs X T M L own own' (st :: sts) (.cons cs css) :=
  PSs.imp (pss_cons h1 h2) fun D σ H ⟨hide, H0, ρ, n, out, S, e, k⟩ => by
    simp only [exSs] at e
    obtain ⟨o, eo, e1⟩ := bnd e
    refine ⟨hide, H0, ρ, n, o, S, eo, ?_⟩
    cases o with
    | nx ρ1 => exact fun σ1 H1 S1 f => ⟨hide, H0, ρ1, n, out, S1, e1, k.pre f⟩
    | rt d => cases e1; exact k
    | bk ρ1 => cases e1; exact k
    | ct ρ1 => cases e1; exact k
/-! ### stores -/
theorem asg_end {K : PySem.W.Frag} {p : Pat} {hide : Addr → Prop} {H0 H H1 : Hp} {σ : L2.St} {ρ ρ' : Env} {v : V} {d : D} {D : Ends} (S : RS K M hide own H0 H σ ρ) (s : Same H H1) (r : Res K hide own σ H H1 c v d) (eb : bindP p d ρ = some ρ')
    (k : OutOk K M hide own (diff (diff own (al c)) p.slots) L H0 H σ D (.nx ρ')) : tG K p v σ H1 D.nx := by
  have w : ∀ i ∈ diff (diff own (al c)) p.slots, i ∈ own := fun i hi => diff_own i (diff_own i hi)
  have wp : ∀ i ∈ diff (diff own (al c)) p.slots, i ∉ p.slots := fun i hi => (mem_diff.mp hi).2
  have S1 := S.step s w
  refine ⟨cut (hd hide (diff (diff own (al c)) p.slots) σ) H1, d, cut_le, r.is.mono (cut_anti (hd_anti diff_own)), bindP_ok eb, fun σ' bd => ?_⟩
  have ag := Bnd.agree (vs := p.slots) bd fun i hi => hi
  have hh := hd_agree (hide := hide) ag wp
  refine k σ' H1 ⟨ER.bind bd S1.er (fun i hi z => wp i z hi) rfl eb, S1.m, S1.same, S1.hid0, fun i hi a e => S1.new i hi a (by rw [← ag.2 i (wp i hi)]; exact e)⟩ ?_
  rw [hh]
  exact fro s w
theorem asg_imp {K : PySem.W.Frag} {p : Pat} {D : Ends} {σ : L2.St} {H : Hp} (h : tS K T M L own (diff (diff own (al c)) p.slots) (.asg p c) D σ H) : tAsg (tE K T M c) (tG K p) D σ H := by
  obtain ⟨hide, H0, ρ, n, out, S, e, k⟩ := h
  simp only [exS] at e
  obtain ⟨d, ed, e1⟩ := bnd e
  obtain ⟨ρ', eb, rfl⟩ := mpd e1
  exact ⟨hide, own, ρ, d, S.er, S.m, ed, fun v H1 s r => asg_end S s r eb k⟩
theorem tG_v {K : PySem.W.Frag} {i : Nat} {v : V} {σ : L2.St} {H : Hp} {Q : L2.St → Hp → Prop} (h : tG K (.v i) v σ H Q) : gName i v σ H Q := by
  obtain ⟨Hc, d, sm, iv, ok, k⟩ := h
  exact k _ (.v iv)
theorem sst_asg {tg : Expr} {p : Pat} (he : SE X T M e c) (hg : SP X tg p) (hs : swapsWithSole [tg] e pos.line X.env = pure false) (hw : swappedStores [tg] e X.env = pure none) (h1 : (assignEach [tg] X.env).map (·.2) = [assign tg X.env]) :
    SSt X T M L own (diff (diff own (al c)) p.slots) (.Assign [tg] e pos) (.asg p c) := PS.imp (ps_asg he hg hs hw h1) fun D σ H => asg_imp
structure NM (X : Cx) (x : Str) (i : Nat) : Prop where
  nd : X.N.Nodup
  ix : X.N[i]? = some x
  lc : Loc X.env.scope x
  fn : X.fn x = true ∨ X.env.scope.names.lookup x = some .local
theorem sst_set {x : Str} {i : Nat} {py : Pos} (N : NM X x i) (he : SE X T M e c) (hs : swapsWith e (some (.Name x py)) pos.line X.env = pure false) : SSt X T M L own (diff (diff own (al c)) [i]) (.Assign [.Name x py] e pos) (.asg (.v i) c) :=
  PS.imp (ps_set N.nd N.ix N.lc he hs N.fn) fun D σ H h => by
    obtain ⟨hide, own0, ρ, d, R, m, ed, q⟩ := asg_imp h
    exact ⟨hide, own0, ρ, d, R, m, ed, fun v H1 s r => tG_v (q v H1 s r)⟩
/-- a name's new list, owned -/
theorem own_imp {K : PySem.W.Frag} {i : Nat} {D : Ends} {σ : L2.St} {H : Hp} (hf : fresh c = true) (hM : i ∈ M) (h : tS K T M L own (i :: diff (diff own (ale c)) [i]) (.own i c) D σ H) : tAsg (tE K T M c) (gName i) D σ H := by
  obtain ⟨hide, H0, ρ, n, out, S, e, k⟩ := h
  simp only [exS] at e
  obtain ⟨d, ed, e1⟩ := bnd e
  split at e1
  · rename_i hz
    cases e1
    simp only [Bool.and_eq_true, decide_eq_true_eq] at hz
    refine ⟨hide, own, ρ, d, S.er, S.m, ed, fun v H1 s r => ?_⟩
    obtain ⟨a, rfl, na, h⟩ := r.fr hf hz.1
    obtain ⟨S1, f1⟩ := S.owned s na hM hz.2 h
    exact k _ H1 S1 f1
  · cases e1
theorem sst_own {x : Str} {i : Nat} {py : Pos} (N : NM X x i) (hf : fresh c = true) (hM : i ∈ M) (he : SE X T M e c) (hs : swapsWith e (some (.Name x py)) pos.line X.env = pure false) : SSt X T M L own (i :: diff (diff own (ale c)) [i]) (.Assign [.Name x py] e pos) (.own i c) :=
  PS.imp (ps_set N.nd N.ix N.lc he hs N.fn) fun D σ H h => own_imp hf hM h
/-- name = [.. for ..], stored from within the comprehension -/
theorem sst_lc {x : Str} {i : Nat} {py : Pos} {elt tg iter : Expr} {ifs : List Expr} {scope : Scope} {own0 : List (Str × Nat)} {ce : CE} {pat : Pat} {ci : CI} {cifs : CEs} {vs : List Nat} {spos : Pos} (ow : Bool) (hvs : own0.map (·.2) = vs) (N : NM X x i) (hyl : X.env.scope.names.lookup x = some .local) (hc : X.calm = true)
    (hsw : swapsWith (.ListComp elt [⟨tg, iter, ifs, 0⟩] scope pos) (some (.Name x py)) spos.line X.env = pure true) (hi : SI X T M tg iter ci) (ok : BlkOk X.N X.env.scope scope own0)
    (hg : ∀ (s : Shared) (H : Hp) (C : Addr) (cl : List (Str × Addr)) (fp : List Addr), SP (X.blk s H scope (compEnvC scope cl C X.env) fp) tg pat)
    (ht : ∀ (s : Shared) (H : Hp) (C : Addr) (cl : List (Str × Addr)) (fp : List Addr), STs (X.blk s H scope (compEnvC scope cl C X.env) fp) T M ifs cifs)
    (he : ∀ (s : Shared) (H : Hp) (C : Addr) (cl : List (Str × Addr)) (fp : List Addr), SE (X.blk s H scope (compEnvC scope cl C X.env) fp) T M elt ce) (hs : ∀ x, foldedSetIterable iter X.env x = pure x)
    (hm : ∀ i ∈ vs, i ∉ M) (hp : ∀ i ∈ pat.slots, i ∈ vs) (hM : ow = true → i ∈ M) :
    SSt X T M L own (if ow then (i :: diff (diff own (al (.lc ce pat ci cifs vs))) [i]) else diff (diff own (al (.lc ce pat ci cifs vs))) [i]) (.Assign [.Name x py] (.ListComp elt [⟨tg, iter, ifs, 0⟩] scope pos) spos) (if ow then .own i (.lc ce pat ci cifs vs) else .asg (.v i) (.lc ce pat ci cifs vs)) := by
  subst hvs
  refine PS.imp (ps_setLc (ifs := ifs) (g := tG X.K pat) (tt := tTs X.K T M cifs) (te := tE X.K T M ce) hc N.nd N.ix hyl hsw hi ok hg ht he hs) fun D σ H h => ?_
  cases ow with
  | true =>
    have h2 : tAsg (tE X.K T M (.lc ce pat ci cifs (own0.map (·.2)))) (gName i) D σ H := own_imp (own := own) (L := L) rfl (hM rfl) (by simpa only [al, ale, if_true] using h)
    exact lc_imp hm hp σ H _ h2
  | false =>
    have h2 : tAsg (tE X.K T M (.lc ce pat ci cifs (own0.map (·.2)))) (tG X.K (.v i)) D σ H := asg_imp (own := own) (L := L) (by simpa only [al, Pat.slots, Bool.false_eq_true, if_false] using h)
    obtain ⟨hide, own1, ρ, d, R, m, ed, q⟩ := h2
    exact lc_imp hm hp σ H _ ⟨hide, own1, ρ, d, R, m, ed, fun v H1 s r => tG_v (q v H1 s r)⟩
theorem slot_some {ρ : Env} {i : Nat} {d : D} (h : slot ρ i = some d) : ρ[i]? = some (some d) := by
  unfold slot at h
  cases q : ρ[i]? with
  | none => rw [q] at h; cases h
  | some o => rw [q] at h; exact congrArg some h
theorem own_list {K : PySem.W.Frag} {hide : Addr → Prop} {H0 H : Hp} {σ : L2.St} {ρ : Env} {i : Nat} {d : D} (S : RS K M hide own H0 H σ ρ) (hi : i ∈ own) (e : ρ[i]? = some (some d)) : ∃ a, σ[i]? = some (some (V.ref a)) ∧ OwnIs K (cut (hd hide own σ) H) (H a) d := by
  obtain ⟨a, d', h1, h2, h3, h4⟩ := S.er.ow i hi
  rw [e] at h1; cases h1
  exact ⟨a, h2, h4⟩
theorem ownis_lst {K : PySem.W.Frag} {Hc : Hp} {o : Option HO} {ds : List D} (h : OwnIs K Hc o (.list ds)) : ∃ vs, o = some (HO.lst vs) ∧ vs.length ≤ sizeLine ∧ IsAll K Hc vs ds := by
  rcases h with ⟨vs, es, h1, h2, h3, h4⟩ | ⟨vs, es, h1, h2, h4⟩ | ⟨vs, es, h1, h2, h4⟩
  · cases h2; exact ⟨vs, h1, h3, h4⟩
  · cases h2
  · cases h2
theorem sst_app {x : Str} {i : Nat} {apos cpos p1 : Pos} (hN : X.N[i]? = some x) (hv : Vis X.env.scope x) (d1 : (x == ("__debug__" : Str)) = false) (d2 : (x == ("__classdict__" : Str)) = false) (hi : i ∈ own) (hd : i ∉ al c) (he : SE X T M e c) (line : (apos.endLine == cpos.line) = true) (st : starEach [e] X.env = [(false, eval e X.env)]) :
    SSt X T M L own (diff own (al c)) (.Expr (.Call (.Attribute (.Name x p1) "append" apos) [e] [] cpos) pos) (.app i c) :=
  PS.imp (ps_expr (pe_bm PySem.F.plainAttrs_list PySem.F.slot_list_append PySem.F.type_list_append mt_append (pe_var hN hv d1 d2) (pa_cons he pa_nil st) rfl (by rw [st]; rfl) line st rfl) rfl) fun D σ H ⟨hide, H0, ρ, n, out, S, e, k⟩ => by
    simp only [exS] at e
    obtain ⟨d, ed, e1⟩ := bnd e
    obtain ⟨y, ey, e2⟩ := bnd e1
    obtain ⟨z, ez, rfl⟩ := mpd e2
    cases y with
    | list ds =>
      simp only [appD] at ez
      split at ez
      · rename_i hz
        cases ez
        have er := slot_some ey
        obtain ⟨a, ea, h⟩ := own_list S hi er
        obtain ⟨vs, hl, hn, hr⟩ := ownis_lst h
        refine ⟨_, ea, .inl ⟨rfl, vs, .of hl⟩, hide, own, ρ, d, S.er, S.m, ed, fun v H1 s r => ?_⟩
        have S1 := S.step s (own' := diff own (al c)) diff_own
        have hi1 : i ∈ diff own (al c) := mem_diff.mpr ⟨hi, hd⟩
        have hz' : vs.length < sizeLine := by rw [hr.length]; exact hz
        obtain ⟨S2, f2⟩ := S1.upd (o := .lst (vs ++ [v])) (d' := .list (ds ++ [d])) (d := .none) hi1 ea (.inl ⟨_, _, rfl, rfl, by rw [List.length_append]; exact hz', (hr.mono (fro s diff_own)).append (.cons r.is .nil)⟩)
        exact ⟨a, vs, v, rfl, rfl, s a _ hl, hz', k σ _ S2 ((fro s diff_own).trans f2)⟩
      · cases ez
    | _ => simp [appD] at ez
/-- no slice -/
def plainIx : Expr → Bool
  | .Slice _ _ _ _ => false
  | _ => true
theorem assign_sub {o i : Expr} {p : Pos} {env : PySem.Env} (h : plainIx i = true) (v : Value) : assign (.Subscript o i p) env v = (do
      let ov ← holding [v] (eval o env)
      let iv ← holding [v, ov] (eval i env)
      standAt p
      holding [v, ov, iv] (setItem ov iv v)
      release [v, ov, iv] []) := by
  cases i <;> first | rfl | (simp [plainIx] at h)
theorem plain_sub {i : Expr} (h : plainIx i = true) : PlainIx i := by
  intro o j
  cases i <;> first | rfl | (simp [plainIx] at h)
theorem sst_put {x : Str} {i : Nat} {ei : Expr} {ci : CE} {p1 p2 : Pos} (hN : X.N[i]? = some x) (hv : Vis X.env.scope x) (d1 : (x == ("__debug__" : Str)) = false) (d2 : (x == ("__classdict__" : Str)) = false) (hi : i ∈ own) (hd : i ∉ al c) (he : SE X T M e c) (hx : SE X T M ei ci)
    (hpx : plainIx ei = true) (hs : swapsWithSole [.Subscript (.Name x p1) ei p2] e pos.line X.env = pure false) : SSt X T M L own (diff own (al c)) (.Assign [.Subscript (.Name x p1) ei p2] e pos) (.put i ci c) :=
  PS.imp (ps_asg he (pg_sub (pe_var hN hv d1 d2) hx set_list (assign_sub hpx)) hs) fun D σ H ⟨hide, H0, ρ, n, out, S, e, k⟩ => by
    simp only [exS] at e
    obtain ⟨d, ed, e1⟩ := bnd e
    obtain ⟨kd, ek, e2⟩ := bnd e1
    obtain ⟨y, ey, e3⟩ := bnd e2
    obtain ⟨z, ez, rfl⟩ := mpd e3
    have er := slot_some ey
    obtain ⟨a, ea, h⟩ := own_list S hi er
    have S1 : ∀ {H2}, Same H H2 → RS X.K M hide (diff own (al c)) H0 H2 σ ρ := fun s => S.step s diff_own
    have hi1 : i ∈ diff own (al c) := mem_diff.mpr ⟨hi, hd⟩
    cases y with
    | list ds =>
      obtain ⟨vs, hl, hn, hr⟩ := ownis_lst h
      cases kd with
      | int kk =>
        simp only [putD] at ez
        obtain ⟨j, ej, rfl⟩ := mpd ez
        refine ⟨hide, own, ρ, d, S.er, S.m, ed, fun v H1 s1 r1 => ⟨_, ea, hide, own, ρ, _, S.er.grow s1, S.m, ek, fun w H2 s2 r2 => ?_⟩⟩
        have i2 := r2.is
        cases i2
        have s12 := s1.trans s2
        obtain ⟨S2, f2⟩ := (S1 s12).upd (o := .lst (vs.set j v)) (d' := .list (ds.set j d)) (d := .none) hi1 ea (.inl ⟨_, _, rfl, rfl, by rw [List.length_set]; exact hn, (hr.mono (fro s12 diff_own)).set j (r1.is.mono (cut_same s2))⟩)
        exact ⟨a, vs, kk, j, rfl, rfl, s12 a _ hl, by rw [hr.length]; exact ej, k σ _ S2 ((fro s12 diff_own).trans f2)⟩
      | _ => simp [putD] at ez
    | _ => simp [putD] at ez
/-! ### ends -/
theorem sst_ret (he : SE X T M e c) : SSt X T M L own own (.Return (some e) pos) (.ret c) := PS.imp (ps_ret he) fun D σ H ⟨hide, H0, ρ, n, out, S, e, k⟩ => by
  simp only [exS] at e
  obtain ⟨d, ed, rfl⟩ := mpd e
  exact ⟨hide, own, ρ, d, S.er, S.m, ed, fun v H1 s r => k v H1 (S.same.trans s) (r.is.mono (cut_anti fun b z => .inl z))⟩
theorem sst_retN : SSt X T M L own own (.Return none pos) .retN := PS.imp ps_retN fun D σ H ⟨hide, H0, ρ, n, out, S, e, k⟩ => by
  simp only [exS, Option.some.injEq] at e
  subst e
  exact k .non H S.same .non
theorem sst_rse : SSt X T M L own own st .rse := PS.imp ps_never fun D σ H ⟨hide, H0, ρ, n, out, S, e, k⟩ => by
  simp [exS] at e
theorem sst_pass : SSt X T M L own own (.Pass pos) .pass := PS.imp ps_pass fun D σ H ⟨hide, H0, ρ, n, out, S, e, k⟩ => by
  simp only [exS, Option.some.injEq] at e
  subst e
  exact k σ H S (Same.refl _)
theorem sst_brk {l : List Nat} (hL : L = some l) (w : ∀ i ∈ l, i ∈ own) : SSt X T M L own own (.Break pos) .brk := PS.imp ps_break fun D σ H ⟨hide, H0, ρ, n, out, S, e, k⟩ => by
  simp only [exS, Option.some.injEq] at e
  subst e
  obtain ⟨l', e1, k⟩ := k
  rw [hL] at e1; cases e1
  exact k σ H (S.step (Same.refl _) w) (cut_anti (hd_anti w))
theorem sst_cnt {l : List Nat} (hL : L = some l) (w : ∀ i ∈ l, i ∈ own) : SSt X T M L own own (.Continue pos) .cnt := PS.imp ps_continue fun D σ H ⟨hide, H0, ρ, n, out, S, e, k⟩ => by
  simp only [exS, Option.some.injEq] at e
  subst e
  obtain ⟨l', e1, k⟩ := k
  rw [hL] at e1; cases e1
  exact k σ H (S.step (Same.refl _) w) (cut_anti (hd_anti w))
theorem sst_exp (he : SE X T M e c) (hs : swapsWith e none pos.line X.env = pure false) : SSt X T M L own (diff own (al c)) (.Expr e pos) (.exp c) := PS.imp (ps_expr he hs) fun D σ H ⟨hide, H0, ρ, n, out, S, e, k⟩ => by
  simp only [exS] at e
  obtain ⟨d, ed, rfl⟩ := mpd e
  exact ⟨hide, own, ρ, d, S.er, S.m, ed, fun v H1 s r => k σ H1 (S.step s diff_own) (fro s diff_own)⟩
theorem sst_ife {ec : Expr} {sa sb : List Stmt} {xa xb : CSs} {o1 o2 : List Nat} (hc : SQ X T M ec cc) (ha : SSs X T M L own o1 sa xa) (hb : SSs X T M L own o2 sb xb) : SSt X T M L own (o1.filter fun i => o2.contains i) (.If ec sa sb pos) (.ife cc xa xb) :=
  PS.imp (ps_if hc ha hb) fun D σ H ⟨hide, H0, ρ, n, out, S, e, k⟩ => by
    simp only [exS] at e
    obtain ⟨x, ex, e1⟩ := bnd e
    obtain ⟨t, et, e2⟩ := bnd e1
    have := asB_some et; subst this
    have w1 : ∀ i ∈ o1.filter (fun i => o2.contains i), i ∈ o1 := fun i hi => (List.mem_filter.mp hi).1
    have w2 : ∀ i ∈ o1.filter (fun i => o2.contains i), i ∈ o2 := fun i hi => by simpa using (List.mem_filter.mp hi).2
    refine ⟨hide, own, ρ, t, S.er, S.m, ex, fun H1 s => ?_⟩
    have S1 := S.step (own' := own) s (fun i h => h)
    have f : Same (cut (hd hide own σ) H) (cut (hd hide own σ) H1) := cut_same s
    have kk : ∀ {o3 : List Nat}, (∀ i ∈ o1.filter (fun i => o2.contains i), i ∈ o3) → OutOk X.K M hide own o3 L H0 H1 σ D out := fun {o3} w => by
      have k1 := k.pre f
      cases out with
      | nx ρ' => exact fun σ' H' S' g => k1 σ' H' (S'.step (Same.refl _) w) (g.trans (cut_anti (hd_anti w)))
      | rt d => exact k1
      | bk ρ' => exact k1
      | ct ρ' => exact k1
    cases t with
    | true => exact iteT ⟨hide, H0, ρ, n, out, S1, by simpa using e2, kk w1⟩
    | false => exact iteF ⟨hide, H0, ρ, n, out, S1, by simpa using e2, kk w2⟩
mutual
theorem ale_al : ∀ (c : CE), ∀ i ∈ ale c, i ∈ al c
  | .var _, i, h => by simp [ale] at h
  | .cst _, i, h => by simp [ale] at h
  | .glb _ _, i, h => by simp [ale] at h
  | .no, i, h => by simp [ale] at h
  | .bin _ a b, i, h => by simpa only [al, ale] using h
  | .neg _, i, h => by simp [ale] at h
  | .cmp _ _, i, h => by simp [ale] at h
  | .andB _ _, i, h => by simp [ale] at h
  | .orB _ _, i, h => by simp [ale] at h
  | .notB _, i, h => by simp [ale] at h
  | .one a, i, h => by simp only [al, ale] at h ⊢; exact ale_al a i h
  | .orV a b, i, h => by simp only [al, ale, List.mem_append] at h ⊢; exact h.elim (fun h => .inl (ale_al a i h)) fun h => .inr (ale_al b i h)
  | .ite _ a b, i, h => by simp only [al, ale, List.mem_append] at h ⊢; exact h.elim (fun h => .inl (ale_al a i h)) fun h => .inr (ale_al b i h)
  | .tup _, i, h => by simpa only [al, ale] using h
  | .lst _, i, h => by simpa only [al, ale] using h
  | .lstS _, i, h => by simpa only [al, ale] using h
  | .star _, i, h => by simpa only [al, ale] using h
  | .ix _ _, i, h => by simpa only [al, ale] using h
  | .sl _ _ _, i, h => by simpa only [al, ale] using h
  | .rev _, i, h => by simpa only [al, ale] using h
  | .p1 p _, i, h => by simpa only [al, ale] using h
  | .p2 p _ _, i, h => by simpa only [al, ale] using h
  | .call _ _, i, h => by simpa only [al, ale] using h
  | .cals _ _, i, h => by simpa only [al, ale] using h
  | .lc _ _ _ _ _, i, h => by simpa only [al, ale] using h
  | .dsp _ _, i, h => by simpa only [al, ale] using h
  | .dix _ _, i, h => by simpa only [al, ale] using h
  | .lc2 _ _ _ _ _ _ _ _ _, i, h => by simpa only [al, ale] using h
  | .sc2 _ _ _ _ _ _ _ _ _, i, h => by simp [ale] at h
  | .sc3 _ _ _ _ _ _ _ _ _, i, h => by simp [ale] at h
end
theorem alie_ali : ∀ (c : CI), ∀ i ∈ alie c, i ∈ ali c
  | .ofl a, i, h => by simp only [alie, ali] at h ⊢; exact ale_al a i h
  | .rng1 _, i, h => by simp [alie] at h
  | .rng2 _ _, i, h => by simp [alie] at h
  | .rng3 _ _ _, i, h => by simp [alie] at h
  | .enum a, i, h => by simp only [alie, ali] at h ⊢; exact ale_al a i h
  | .zip a b, i, h => by simp only [ali, alie, List.mem_append] at h ⊢; exact h.elim (fun h => .inl (ale_al a i h)) fun h => .inr (ale_al b i h)
/-! ### loops -/
theorem sst_for {tg iter : Expr} {body : List Stmt} {p : Pat} {ci : CI} {cb : CSs} {ob o1 : List Nat} (hp : PassesOwn (model X.prog X.w) X.A X.env X.xe) (hc : X.calm = true) (hi : SI X T M tg iter ci) (hg : SP X tg p) (hb : SSs X T M (some ob) ob o1 body cb)
    (hs : ∀ x, foldedSetIterable iter X.env x = pure x) (w : ∀ i ∈ ob, i ∈ diff own (ali ci)) (wp : ∀ i ∈ ob, i ∉ p.slots) (w1 : ∀ i ∈ ob, i ∈ o1) : SSt X T M L own ob (.For tg iter body [] pos) (.forr p ci cb ob) :=
  PS.imp (ps_for hp hc hi hg hb hs) fun D σ H ⟨hide, H0, ρ, n, out, S, e, k⟩ => by
    simp only [exS] at e
    obtain ⟨ds, eds, e1⟩ := bnd e
    generalize hf : (fun d ρ => (bindP p d ρ).bind fun ρ' => exSs T n cb ρ') = f at e1
    have wo : ∀ i ∈ ob, i ∈ own := fun i hi => diff_own i (w i hi)
    have wie : ∀ i ∈ ob, i ∈ diff own (alie ci) := fun i hi => by
      obtain ⟨h1, h2⟩ := mem_diff.mp (w i hi)
      exact mem_diff.mpr ⟨h1, fun z => h2 (alie_ali ci i z)⟩
    refine ⟨hide, own, ρ, ds, S.er, S.m, eds, fun J H1 s1 jok hz => ?_⟩
    have f0 : Same (cut (hd hide own σ) H) (cut (hd hide ob σ) H1) := fro s1 wo
    have kb := k.pre f0
    refine ⟨fun i m σ' H' => m = ds.length - i ∧ i ≤ ds.length ∧ ∃ ρ', RS X.K M hide ob H0 H' σ' ρ' ∧ Same (cut (hd hide ob σ) H1) (cut (hd hide ob σ') H') ∧ forL f (ds.drop i) ρ' = some out, ⟨ds.length, by simp, Nat.zero_le _, ρ, S.step s1 wo, Same.refl _, by simpa using e1⟩, ?_⟩
    rintro i m σ' H' ⟨rfl, hi, ρ', S', f', el⟩
    obtain ⟨jgo, jstop⟩ := jok i H' (hd hide ob σ') (((cut_anti (hd_anti w)).trans f').trans cut_le) ((cut_anti (hd_anti wie)).trans f') (fun b z hn => S'.er.nroot hn (fun i h => h) z)
    by_cases hlt : i < ds.length
    · obtain ⟨go, yld⟩ := jgo hlt
      obtain ⟨di, edi⟩ : ∃ d, ds[i]? = some d := ⟨ds[i], by simp [hlt]⟩
      have edr : ds.drop i = di :: ds.drop (i + 1) := by
        rw [List.drop_eq_getElem_cons hlt]
        rw [List.getElem?_eq_getElem hlt] at edi
        cases edi; rfl
      rw [edr] at el
      simp only [forL] at el
      obtain ⟨o, eo, el2⟩ := bnd el
      refine .inr ⟨go, fun σ2 H2 => ∃ ρ2, RS X.K M hide ob H0 H2 σ2 ρ2 ∧ Same (cut (hd hide ob σ) H1) (cut (hd hide ob σ2) H2) ∧ forL f (ds.drop (i + 1)) ρ2 = some out, fun σ2 H2 q => ⟨ds.length - (i + 1), by omega, rfl, hlt, q⟩, fun x H2 y => ?_⟩
      obtain ⟨s3, d2, ed2, ix⟩ := yld x H2 y
      rw [edi] at ed2; cases ed2
      rw [← hf] at eo
      obtain ⟨ρ2, eb, eo1⟩ := bnd eo
      have S3 := S'.step (own' := ob) s3 (fun i h => h)
      refine ⟨cut (hd hide ob σ') H2, di, cut_le, ix, bindP_ok eb, fun σ2 bd => ?_⟩
      have ag := Bnd.agree (vs := p.slots) bd fun i hi => hi
      have hh := hd_agree (hide := hide) ag wp
      have S4 : RS X.K M hide ob H0 H2 σ2 ρ2 := ⟨ER.bind bd S3.er (fun i hi z => wp i z hi) rfl eb, S3.m, S3.same, S3.hid0, fun i hi a e => S3.new i hi a (by rw [← ag.2 i (wp i hi)]; exact e)⟩
      have f4 : Same (cut (hd hide ob σ) H1) (cut (hd hide ob σ2) H2) := by
        rw [hh]; exact f'.trans (cut_same s3)
      refine ⟨hide, H0, ρ2, n, o, S4, eo1, ?_⟩
      cases o with
      | nx ρ3 => exact fun σ3 H3 S5 f5 => ⟨ρ3, S5.step (Same.refl _) w1, f4.trans (f5.trans (cut_anti (hd_anti w1))), el2⟩
      | ct ρ3 => exact ⟨ob, rfl, fun σ3 H3 S5 f5 => ⟨ρ3, S5, f4.trans f5, el2⟩⟩
      | bk ρ3 =>
        cases el2
        exact ⟨ob, rfl, fun σ3 H3 S5 f5 => kb σ3 H3 S5 (f4.trans f5)⟩
      | rt v =>
        cases el2
        exact kb
    · have hin : i = ds.length := by omega
      subst hin
      rw [List.drop_length] at el
      simp only [forL, Option.some.injEq] at el
      subst el
      exact .inl ⟨jstop (by omega), kb σ' H' S' f'⟩
theorem sst_whl {ec : Expr} {body : List Stmt} {cb : CSs} {ob o1 : List Nat} (hp : PassesOwn (model X.prog X.w) X.A X.env X.xe) (hc : SQ X T M ec cc) (hb : SSs X T M (some ob) ob o1 body cb) (wo : ∀ i ∈ ob, i ∈ own) (w1 : ∀ i ∈ ob, i ∈ o1) :
    SSt X T M L own ob (.While ec body [] pos) (.whl cc cb ob) :=
  PS.imp (ps_while hp hc hb) fun D σ H ⟨hide, H0, ρ, n, out, S, e, k⟩ => by
    simp only [exS] at e
    generalize hcf : (fun ρ => (ev T cc ρ).bind asB) = cf at e
    generalize hf : (fun ρ => exSs T n cb ρ) = f at e
    have f0 : Same (cut (hd hide own σ) H) (cut (hd hide ob σ) H) := cut_anti (hd_anti wo)
    have kb := k.pre f0
    refine ⟨fun m σ' H' => ∃ ρ', RS X.K M hide ob H0 H' σ' ρ' ∧ Same (cut (hd hide ob σ) H) (cut (hd hide ob σ') H') ∧ whileL cf f m ρ' = some out, ⟨n, ρ, S.step (Same.refl _) wo, Same.refl _, e⟩, ?_⟩
    rintro m σ' H' ⟨ρ', S', f', el⟩
    cases m with
    | zero => simp [whileL] at el
    | succ m =>
      simp only [whileL] at el
      obtain ⟨b, eb, el2⟩ := bnd el
      rw [← hcf] at eb
      obtain ⟨x, ex, ex2⟩ := bnd eb
      have := asB_some ex2; subst this
      refine ⟨hide, ob, ρ', b, S'.er, S'.m, ex, fun H1 s1 => ?_⟩
      have S1 := S'.step (own' := ob) s1 (fun i h => h)
      have f1 : Same (cut (hd hide ob σ) H) (cut (hd hide ob σ') H1) := f'.trans (cut_same s1)
      cases b with
      | true =>
        rw [if_pos rfl] at el2
        obtain ⟨o, eo, el3⟩ := bnd el2
        rw [← hf] at eo
        refine iteT ⟨fun σ2 H2 => ∃ ρ2, RS X.K M hide ob H0 H2 σ2 ρ2 ∧ Same (cut (hd hide ob σ) H) (cut (hd hide ob σ2) H2) ∧ whileL cf f m ρ2 = some out, fun σ2 H2 q => ⟨m, Nat.lt_succ_self _, q⟩, hide, H0, ρ', n, o, S1, eo, ?_⟩
        cases o with
        | nx ρ3 => exact fun σ3 H3 S5 f5 => ⟨ρ3, S5.step (Same.refl _) w1, f1.trans (f5.trans (cut_anti (hd_anti w1))), el3⟩
        | ct ρ3 => exact ⟨ob, rfl, fun σ3 H3 S5 f5 => ⟨ρ3, S5, f1.trans f5, el3⟩⟩
        | bk ρ3 =>
          cases el3
          exact ⟨ob, rfl, fun σ3 H3 S5 f5 => kb σ3 H3 S5 (f1.trans f5)⟩
        | rt v =>
          cases el3
          exact kb
      | false =>
        rw [if_neg Bool.false_ne_true] at el2
        cases el2
        exact iteF (kb σ' H1 S1 f1)
end
end DI
set_option maxRecDepth 100000
set_option maxHeartbeats 1000000
/-! DP: several names stored at once, new empty lists among them. -/
namespace DI
open PySem L2
section
variable {X : Cx} {T : Nat → List D → Option D} {M : List Nat} {L : Option (List Nat)}
def tL (K : PySem.W.Frag) (T : Nat → List D → Option D) (M : List Nat) : CEs → TA
  | .nil => tNil
  | .cons c r => tCons (tE K T M c) (tL K T M r)
def setV : List Nat → List V → L2.St → L2.St
  | i :: is, v :: vs, σ => setV is vs (σ.set i (some v))
  | _, _, σ => σ
theorem diff_nil {o : List Nat} : diff o [] = o := by simp [diff]
theorem RS.put1 {K : PySem.W.Frag} {hide : Addr → Prop} {own : List Nat} {H0 H : Hp} {σ : L2.St} {ρ : Env} {i : Nat} {v : V} {d : D} (S : RS K M hide own H0 H σ ρ) (n : i ∉ own) (h : Is K (cut (hd hide own σ) H) v d) : RS K M hide own H0 H (σ.set i (some v)) (ρ.set i (some d)) ∧ hd hide own (σ.set i (some v)) = hd hide own σ := by
  have ag : Agree [i] σ (σ.set i (some v)) := ⟨by simp, fun j hj => by rw [List.getElem?_set_ne (fun z => hj (by simp [z]))]⟩
  have hh := hd_agree (hide := hide) ag (own := own) (fun j hj z => by simp at z; exact n (z ▸ hj))
  exact ⟨⟨S.er.put n h, S.m, S.same, S.hid0, fun j hj a e => S.new j hj a (by rw [← ag.2 j (fun z => by simp at z; exact n (z ▸ hj))]; exact e)⟩, hh⟩
theorem isNil_ev {c : CE} {ρ : Env} {d : D} (h : isNil c = true) (e : ev T c ρ = some d) : c = .lst .nil ∧ d = .list [] := by
  unfold isNil at h
  split at h
  · simp only [ev, evs, Option.map_some, Option.some.injEq] at e
    exact ⟨rfl, e.symm⟩
  · cases h
theorem parL {K : PySem.W.Frag} {hide : Addr → Prop} {H0 : Hp} {σE : L2.St} {ρE ρ' : Env} {ownE : List Nat} {Q : List V → Hp → Prop} (mE : ∀ i ∈ ownE, i ∈ M) :
    ∀ (cs : CEs) (is : List Nat) {ds : List D} {σ : L2.St} {ρ : Env} {own : List Nat} {hideE : Addr → Prop} {H : Hp}, ER K hideE ownE H σE ρE → RS K M hide own H0 H σ ρ → (∀ b, hd hide own σ b → hd hideE (diff ownE (als cs)) σE b) → (∀ i ∈ is, i ∉ own) → is.Nodup →
      evs T cs ρE = some ds → setAll is ds ρ = some ρ' →
      (∀ vs H' own'', Same H H' → vs.length = is.length → RS K M hide own'' H0 H' (setV is vs σ) ρ' → Same (cut (hd hide own σ) H) (cut (hd hide own'' (setV is vs σ)) H') → (∀ j, j ∈ newsOf M is cs ∨ j ∈ own → j ∈ own'') → Q vs H') →
      tL K T M cs σE H Q
  | .nil, is, ds, σ, ρ, own, hideE, H, Ev, St, Lk, nis, ndp, e, es, k => by
    simp only [evs, Option.some.injEq] at e
    subst e
    cases is with
    | nil =>
      simp only [setAll, Option.some.injEq] at es
      subst es
      exact k [] H own (Same.refl H) rfl St (Same.refl _) (fun j h => h.elim (fun z => by cases z) id)
    | cons i is => simp [setAll] at es
  | .cons c r, is, ds, σ, ρ, own, hideE, H, Ev, St, Lk, nis, ndp, e, es, k => by
    simp only [evs] at e
    obtain ⟨d, ed, e⟩ := bnd e
    obtain ⟨ds', er, rfl⟩ := mpd e
    cases is with
    | nil => simp [setAll] at es
    | cons i is =>
      simp only [setAll] at es
      split at es
      · rename_i hl
        have ndp' := List.nodup_cons.mp ndp
        refine ⟨hideE, ownE, ρE, d, Ev, mE, ed, fun v H1 s1 r1 => ?_⟩
        have ws : ∀ b, hd hideE (diff ownE (als (.cons c r))) σE b → hd hideE (diff ownE (als r)) σE b := hd_anti (diff_sub fun j hj => by simp only [als, List.mem_append]; exact .inr hj)
        have wc : ∀ b, hd hideE (diff ownE (als (.cons c r))) σE b → hd hideE (diff ownE (al c)) σE b := hd_anti (diff_sub fun j hj => by simp only [als, List.mem_append]; exact .inl hj)
        cases q : (M.contains i && isNil c) with
        | true =>
          obtain ⟨q1, q2⟩ := Bool.and_eq_true_iff.mp q
          have hM : i ∈ M := by simpa using q1
          obtain ⟨rfl, rfl⟩ := isNil_ev q2 ed
          obtain ⟨a, rfl, na, ow⟩ := r1.fr rfl rfl
          obtain ⟨vs0, hv, _, ia⟩ := ownis_lst ow
          cases ia
          have no : diff (diff own []) [i] = own := by
            rw [diff_nil]
            unfold diff
            refine List.filter_eq_self.mpr fun j hj => ?_
            have : j ≠ i := fun z => nis i (by simp) (z ▸ hj)
            simp [this]
          obtain ⟨S1, f1⟩ := RS.owned (A := []) (i := i) (a := a) (d := .list []) St s1 na hM hl (.inl ⟨[], [], hv, rfl, Nat.zero_le _, .nil⟩)
          rw [no] at S1 f1
          refine parL mE r is (Ev.hide1 na s1 (by rw [hv]; simp)) S1 (fun b z => ?_) (fun j hj z => ?_) ndp'.2 er es fun vs H2 own'' s2 hlen S2 f2 hin => ?_
          · rcases z with z | ⟨j, hj, z⟩
            · rcases ws b (Lk b (.inl z)) with y | y
              · exact .inl (.inl y)
              · exact .inr y
            · rcases List.mem_cons.mp hj with rfl | hj
              · rw [List.getElem?_set_self (by rw [St.er.len]; exact hl)] at z
                cases z
                exact .inl (.inr rfl)
              · rw [List.getElem?_set_ne (by rintro rfl; exact nis _ (by simp) hj)] at z
                rcases ws b (Lk b (.inr ⟨j, hj, z⟩)) with y | y
                · exact .inl (.inl y)
                · exact .inr y
          · rcases List.mem_cons.mp z with w | w
            · exact ndp'.1 (w ▸ hj)
            · exact nis j (by simp [hj]) w
          · refine k (.ref a :: vs) H2 own'' (s1.trans s2) (by simp [hlen]) S2 (f1.trans f2) fun j h => hin j ?_
            rcases h with h | h
            · simp only [newsOf, q, if_true] at h
              rcases List.mem_cons.mp h with h | h
              · exact .inr (by simp [h])
              · exact .inl h
            · exact .inr (List.mem_cons_of_mem _ h)
        | false =>
          have iv : Is K (cut (hd hide own σ) H1) v d := r1.is.mono (cut_anti fun b z => wc b (Lk b z))
          obtain ⟨S1, hh⟩ := (St.step s1 fun _ z => z).put1 (nis i (by simp)) iv
          refine parL mE r is (Ev.grow s1) S1 (fun b z => ws b (Lk b (by rw [hh] at z; exact z))) (fun j hj => nis j (by simp [hj])) ndp'.2 er es fun vs H2 own'' s2 hlen S2 f2 hin => ?_
          rw [hh] at f2
          refine k (v :: vs) H2 own'' (s1.trans s2) (by simp [hlen]) S2 ((cut_same s1).trans f2) fun j h => hin j ?_
          simpa only [newsOf, q, Bool.false_eq_true, if_false] using h
      · cases es
theorem par_fin {K : PySem.W.Frag} {is : List Nat} {cs : CEs} {own : List Nat} {D : Ends} {σ : L2.St} {H : Hp} (ndp : is.Nodup) (h : tS K T M L own (newsOf M is cs ++ diff (diff own (als cs)) is) (.par is cs) D σ H) :
    tL K T M cs σ H fun vs H1 => vs.length = is.length ∧ ∀ H2, Same H1 H2 → D.nx (setV is vs σ) H2 := by
  obtain ⟨hide, H0, ρ, n, out, S, e, k⟩ := h
  simp only [exS] at e
  obtain ⟨ds, eds, e1⟩ := bnd e
  obtain ⟨ρ', es, rfl⟩ := mpd e1
  have w : ∀ j ∈ diff (diff own (als cs)) is, j ∈ own := fun j hj => diff_own j (diff_own j hj)
  refine parL (ownE := own) S.m cs is S.er (S.step (Same.refl _) w) (fun b z => hd_anti (fun j hj => diff_own j hj) b z) (fun i hi z => (mem_diff.mp z).2 hi) ndp eds es fun vs H1 own'' s hl S1 f hin => ⟨hl, fun H2 sH => ?_⟩
  refine k _ _ (S1.step sH fun j hj => hin j (List.mem_append.mp hj)) ?_
  exact ((cut_anti (hd_anti w)).trans f).trans ((cut_anti (hd_anti fun j hj => hin j (List.mem_append.mp hj))).trans (cut_same sH))
theorem tE_imp {K : PySem.W.Frag} {c : CE} {σ : L2.St} {H : Hp} {Q Q' : VK} (h : tE K T M c σ H Q) (w : ∀ v H, Q v H → Q' v H) : tE K T M c σ H Q' := by
  obtain ⟨hide, own, ρ, d, R, m, e, k⟩ := h
  exact ⟨hide, own, ρ, d, R, m, e, fun v H' s r => w v H' (k v H' s r)⟩
theorem tL_imp {K : PySem.W.Frag} : ∀ {cs : CEs} {σ : L2.St} {H : Hp} {Q Q' : List V → Hp → Prop}, tL K T M cs σ H Q → (∀ vs H, Q vs H → Q' vs H) → tL K T M cs σ H Q'
  | .nil, σ, H, Q, Q', h, w => w _ _ h
  | .cons c r, σ, H, Q, Q', h, w => tE_imp h fun v H1 q => tL_imp (cs := r) q fun vs H2 q2 => w _ _ q2
theorem sst_par2 {i j : Nat} {x y : Str} {a b : Expr} {es : CEs} {own : List Nat} {px py pt pos : Pos} {kt k2 : Nat} {pt2 : Pos} (hc : X.calm = true) (hN : X.N.Nodup) (hi : X.N[i]? = some x) (hj : X.N[j]? = some y) (hij : i ≠ j)
    (hx : X.env.scope.names.lookup x = some .local) (hy : X.env.scope.names.lookup y = some .local) (ha : PA X [a, b] (tL X.K T M es))
    (hw : swappedStores [.Tuple [.Name x px, .Name y py] kt pt] (.Tuple [a, b] k2 pt2) X.env = pure (some [x, y])) :
    SSt X T M L own (newsOf M [i, j] es ++ diff (diff own (als es)) [i, j]) (.Assign [.Tuple [.Name x px, .Name y py] kt pt] (.Tuple [a, b] k2 pt2) pos) (.par [i, j] es) :=
  PS.imp (ps_par hc hN hi hj hij hx hy (PA.imp (t' := fun σ H Q => tL X.K T M es σ H Q) ha fun _ _ _ q => q) hw) fun D σ H h => by
    have q := par_fin (by simp [hij]) h
    exact tL_imp q fun vs H1 ⟨hl, d⟩ => match vs, hl with | [v, w], _ => ⟨v, w, rfl, d _ (Same.refl _)⟩
theorem sst_par3 {i j l : Nat} {x y z : Str} {a b c : Expr} {es : CEs} {own : List Nat} {px py pz pt pos : Pos} {kt k2 : Nat} {pt2 : Pos} (hc : X.calm = true) (hN : X.N.Nodup) (hi : X.N[i]? = some x) (hj : X.N[j]? = some y) (hl : X.N[l]? = some z) (hij : i ≠ j) (hil : i ≠ l) (hjl : j ≠ l)
    (hx : X.env.scope.names.lookup x = some .local) (hy : X.env.scope.names.lookup y = some .local) (hz : X.env.scope.names.lookup z = some .local) (ha : PA X [a, b, c] (tL X.K T M es))
    (hw : swappedStores [.Tuple [.Name x px, .Name y py, .Name z pz] kt pt] (.Tuple [a, b, c] k2 pt2) X.env = pure (some [x, y, z])) :
    SSt X T M L own (newsOf M [i, j, l] es ++ diff (diff own (als es)) [i, j, l]) (.Assign [.Tuple [.Name x px, .Name y py, .Name z pz] kt pt] (.Tuple [a, b, c] k2 pt2) pos) (.par [i, j, l] es) :=
  PS.imp (ps_par3 hc hN hi hj hl hij hil hjl hx hy hz (PA.imp (t' := fun σ H Q => tL X.K T M es σ H Q) ha fun _ _ _ q => q) hw) fun D σ H h => by
    have q := par_fin (by simp [hij, hil, hjl]) h
    exact tL_imp q fun vs H1 ⟨hl, d⟩ => match vs, hl with | [u, v, w], _ => ⟨u, v, w, rfl, d _ (Same.refl _)⟩
/-- names stored in order, out of a tuple -/
def gNms (is : List Nat) : TGs := fun vs σ H Q => vs.length = is.length ∧ Q (setV is vs σ) H
theorem sgs_nms_nil : PGs X [] (gNms []) := PGs.imp pgs_nil fun vs σ H Q ⟨hl, q⟩ => by
  cases vs with
  | nil => exact ⟨rfl, q⟩
  | cons _ _ => cases hl
theorem sgs_nms_cons {i : Nat} {x : Str} {p : Pos} {is : List Nat} {es : List Expr} (hN : X.N.Nodup) (hi : X.N[i]? = some x) (hx : Loc X.env.scope x) (hf : X.fn x = true ∨ X.env.scope.names.lookup x = some .local) (h : PGs X es (gNms is)) : PGs X (.Name x p :: es) (gNms (i :: is)) :=
  PGs.imp (pgs_cons (pg_name hN hi hx hf) h rfl) fun vs σ H Q ⟨hl, q⟩ => by
    cases vs with
    | nil => cases hl
    | cons v r => exact ⟨v, r, rfl, Nat.succ.inj hl, q⟩
theorem sst_parT {is : List Nat} {es : CEs} {own : List Nat} {ts xs : List Expr} {kt k2 : Nat} {pt pt2 pos : Pos} (hc : X.calm = true) (ndp : is.Nodup) (hs : is.length ≤ 1000) (hg : PGs X ts (gNms is)) (hn : (assignEach ts X.env).length = is.length) (hst : (assignEach ts X.env).findIdx? (·.1) = none) (ha : PA X xs (tL X.K T M es))
    (hw : swappedStores [.Tuple ts kt pt] (.Tuple xs k2 pt2) X.env = pure none) :
    SSt X T M L own (newsOf M is es ++ diff (diff own (als es)) is) (.Assign [.Tuple ts kt pt] (.Tuple xs k2 pt2) pos) (.par is es) :=
  PS.imp (ps_asg (pe_tup ha) (pg_tup hc hg hn hst) rfl hw rfl) fun D σ H h => by
    have q := par_fin ndp h
    refine tL_imp q fun vs H1 ⟨hl, d⟩ => ?_
    have hz : vs.length ≤ sizeLine := by rw [hl]; exact Nat.le_trans hs (by decide)
    exact ⟨hz, fun p np => ⟨p, vs, rfl, .inl (.inl upd_same), hl, hl, d _ (same_upd_new np)⟩⟩
end
end DI
set_option maxRecDepth 100000
set_option maxHeartbeats 1000000
/-! DD: displays of dicts, looked up. -/
namespace DI
open PySem L2
section
variable {X : Cx} {T : Nat → List D → Option D} {M : List Nat} {a b : Expr} {ca cb : CE} {pos : Pos}
inductive Each (X : Cx) (T : Nat → List D → Option D) (M : List Nat) : List Expr → CEs → Prop
  | nil : Each X T M [] .nil
  | cons {e : Expr} {c : CE} {es : List Expr} {cs : CEs} : SE X T M e c → Each X T M es cs → Each X T M (e :: es) (.cons c cs)
def trsL (K : PySem.W.Frag) (T : Nat → List D → Option D) (M : List Nat) : CEs → CEs → List (TE × TE)
  | .cons k ks, .cons v vs => (tE K T M k, tE K T M v) :: trsL K T M ks vs
  | _, _ => []
theorem pps_each {pos : Pos} : ∀ {ks vs : List Expr} {ck cv : CEs}, Each X T M ks ck → Each X T M vs cv → ks.length = vs.length → PPs X pos (ks.map some) vs (trsL X.K T M ck cv)
  | _, _, _, _, .nil, .nil, _ => pps_nil
  | _, _, _, _, .cons h1 r1, .cons h2 r2, hl => pps_cons h1 h2 (pps_each r1 r2 (Nat.succ.inj hl))
theorem each_len : ∀ {es : List Expr} {cs : CEs}, Each X T M es cs → es.length = cs.length
  | _, _, .nil => rfl
  | _, _, .cons _ r => by simp [CEs.length, each_len r]
theorem is_key {K : PySem.W.Frag} {H : Hp} {v : V} {d : D} {k : Key} (h : Is K H v d) (e : keyOf d = some k) : v = kV k := by
  cases d <;> simp only [keyOf, Option.some.injEq, reduceCtorEq] at e
  · subst e; cases h; rfl
  · subst e; cases h; rfl
theorem pairsL {K : PySem.W.Frag} {hide : Addr → Prop} {own : List Nat} {σ : L2.St} {ρ : Env} {Q : List (V × V) → Hp → Prop} (m : ∀ i ∈ own, i ∈ M) : ∀ (ck cv : CEs) {H : Hp} {kds vds : List D}, ck.length = cv.length → ER K hide own H σ ρ → evs T ck ρ = some kds → evs T cv ρ = some vds →
      (∀ ps H', Same H H' → IsAll K (cut (hd hide (diff own (als cv)) σ) H') (ps.map (·.2)) vds → (∀ ks, keysOf kds = some ks → ps.map (·.1) = ks.map kV) → Q ps H') → tPairs (trsL K T M ck cv) σ H Q
  | .nil, .nil, H, kds, vds, _, R, e1, e2, k => by
    simp only [evs, Option.some.injEq] at e1 e2
    subst e1; subst e2
    exact k [] H (Same.refl H) .nil fun ks h => by simp only [keysOf, Option.some.injEq] at h; subst h; rfl
  | .nil, .cons _ _, _, _, _, hl, _, _, _, _ => by simp [CEs.length] at hl
  | .cons _ _, .nil, _, _, _, hl, _, _, _, _ => by simp [CEs.length] at hl
  | .cons c ck, .cons v cv, H, kds, vds, hl, R, e1, e2, k => by
    simp only [evs] at e1 e2
    obtain ⟨kd, ek, e1⟩ := bnd e1
    obtain ⟨kds', eks, rfl⟩ := mpd e1
    obtain ⟨vd, ev', e2⟩ := bnd e2
    obtain ⟨vds', evs', rfl⟩ := mpd e2
    have hl' : ck.length = cv.length := by simpa [CEs.length] using hl
    refine ⟨hide, own, ρ, kd, R, m, ek, fun x H1 s1 r1 => ⟨hide, own, ρ, vd, R.grow s1, m, ev', fun y H2 s2 r2 => ?_⟩⟩
    refine pairsL m ck cv hl' (R.grow (s1.trans s2)) eks evs' fun ps H3 s3 iv ik => k ((x, y) :: ps) H3 ((s1.trans s2).trans s3) ?_ ?_
    · refine .cons (r2.is.mono (hmono (by simp only [als, List.mem_append]; exact fun i h => .inl h) s3)) (iv.mono (cut_anti (hd_anti (diff_sub (by simp only [als, List.mem_append]; exact fun i h => .inr h)))))
    · intro ks h
      simp only [keysOf] at h
      obtain ⟨k0, h0, h⟩ := bnd h
      obtain ⟨ks', h1, rfl⟩ := mpd h
      have := is_key r1.is h0
      simp [this, ik ks' h1]
theorem nodup_merge : ∀ (more kvs : List (Key × V)), ((kvs ++ more).map (·.1)).Nodup → mergeK kvs more = kvs ++ more
  | [], kvs, _ => by simp [mergeK]
  | p :: r, kvs, h => by
    have hp : (kvs.any fun kv => decide (kv.1 = p.1)) = false := by
      rw [List.any_eq_false]
      intro kv hkv
      rw [List.map_append, List.nodup_append] at h
      have := h.2.2 kv.1 (List.mem_map_of_mem hkv) p.1 (by simp)
      simpa using this
    have e : putK kvs p.1 p.2 = kvs ++ [p] := by unfold putK; rw [hp]; rfl
    have : mergeK kvs (p :: r) = mergeK (putK kvs p.1 p.2) r := rfl
    rw [this, e, nodup_merge r (kvs ++ [p]) (by simpa using h)]
    simp
theorem isKv_zip {K : PySem.W.Frag} {H : Hp} : ∀ {ks : List Key} {vs : List V} {ds : List D}, IsAll K H vs ds → ks.length = ds.length → IsKv K H (ks.zip vs) ((ks.map keyD).zip ds)
  | [], _, _, .nil, _ => .nil
  | k :: ks, _, _, .cons h r, hl => .cons h (isKv_zip r (Nat.succ.inj hl))
  | [], _, _, .cons _ _, hl => by cases hl
  | _ :: _, _, _, .nil, hl => by cases hl
theorem keyOf_keyD (k : Key) : keyOf (keyD k) = some k := by cases k <;> rfl
theorem lookK_isKv {K : PySem.W.Frag} {H : Hp} {k : Key} {d : D} : ∀ {kvs : List (Key × V)} {ds : List (D × D)}, IsKv K H kvs ds → lookK ds k = some d → ∃ v, valV kvs k = some v ∧ Is K H v d
  | _, _, .nil, h => by simp [lookK] at h
  | _, _, .cons (k := k0) (v := v0) (r := r0) (d := d0) (ds := ds0) h0 r, h => by
    by_cases e : k0 = k
    · refine ⟨v0, valV_pos e, ?_⟩
      subst e
      simp only [lookK, List.find?_cons, keyOf_keyD, decide_true, Option.map_some, Option.some.injEq] at h
      subst h
      exact h0
    · have hne : decide (keyOf (keyD k0) = some k) = false := by rw [keyOf_keyD]; simpa using e
      obtain ⟨v, h1, h2⟩ := lookK_isKv r (by simpa only [lookK, List.find?_cons, hne] using h)
      exact ⟨v, by rw [valV_neg e]; exact h1, h2⟩
theorem lookK_isKvT {K : PySem.W.Frag} {H : Hp} {k : Key} : ∀ {kvs : List (List Key × V)} {ds : List (D × D)}, IsKvT K H kvs ds → lookK ds k = none
  | _, _, .nil => rfl
  | _, _, .cons h r => by
    have := lookK_isKvT (k := k) r
    simp only [lookK, List.find?_cons, keyOf, reduceCtorEq, decide_false] at this ⊢
    exact this
theorem map_some_id : ∀ {keys : List (Option Expr)}, keys.all (·.isSome) = true → keys = (keys.filterMap id).map some
  | [], _ => rfl
  | some e :: r, h => by
    simp only [List.all_cons, Option.isSome_some, Bool.true_and] at h
    simp only [List.filterMap_cons, id, List.map_cons]
    rw [← map_some_id h]
  | none :: r, h => by simp at h
theorem zip_pairs : ∀ {ps : List (V × V)} {ks : List Key}, ps.map (·.1) = ks.map kV → ps = (ks.zip (ps.map (·.2))).map fun kv => (kV kv.1, kv.2)
  | [], [], _ => rfl
  | p :: r, k :: ks, h => by
    simp only [List.map_cons, List.cons.injEq] at h
    simp only [List.map_cons, List.zip_cons_cons]
    rw [← zip_pairs h.2, ← h.1]
  | [], _ :: _, h => by simp at h
  | _ :: _, [], h => by simp at h
theorem se_dsp {keys : List (Option Expr)} {values : List Expr} {ck cv : CEs} (hc : X.calm = true) (h1 : keys.all (·.isSome) = true) (h2 : keys.length = values.length) (h3 : keys ≠ []) (h4 : keys.length ≤ 15) (hk : Each X T M (keys.filterMap id) ck) (hv : Each X T M values cv) :
    SE X T M (.Dict keys values pos) (.dsp ck cv) := by
  have ek := map_some_id h1
  have hl : (keys.filterMap id).length = values.length := by rw [← h2]; conv => rhs; rw [ek]; rw [List.length_map]
  have hcl : ck.length = cv.length := by rw [← each_len hk, ← each_len hv]; exact hl
  have pp : PPs X pos keys values (trsL X.K T M ck cv) := by rw [ek]; exact pps_each hk hv hl
  refine PE.imp (pe_disp pp h1 h2 h3 h4) fun σ H Q ⟨hide, own, ρ, d, R, m, e, k⟩ p np => ?_
  simp only [ev] at e
  obtain ⟨kds, eks, e⟩ := bnd e
  obtain ⟨vds, evs', e⟩ := bnd e
  obtain ⟨ks, eky, e⟩ := bnd (show (keysOf kds).bind (fun ks => if ks.Nodup ∧ ks.length = vds.length ∧ ks.length ≤ 15 then some (.dict ((ks.map keyD).zip vds)) else none) = some d from e)
  split at e
  · rename_i hcd
    simp only [Option.some.injEq] at e
    subst e
    have s0 : Same H (upd H p (.dK [])) := same_upd_new np
    have R1 : ER X.K (fun b => hide b ∨ b = p) own (upd H p (.dK [])) σ ρ := R.hide1 np s0 (by rw [upd_same]; simp)
    refine pairsL m ck cv hcl R1 eks evs' fun ps H2 s1 iv ik => ?_
    have hp2 : H2 p = some (.dK []) := s1 p _ upd_same
    have ep := zip_pairs (ik ks eky)
    have hlv : ps.length = vds.length := by have := iv.length; simpa using this
    refine ⟨hp2, ks.zip (ps.map (·.2)), ep, by rw [List.length_zip]; exact Nat.le_trans (Nat.min_le_left _ _) hcd.2.2, ?_⟩
    have hmk : ((ks.zip (ps.map (·.2))).map (·.1)) = ks := by
      rw [List.map_fst_zip]
      rw [List.length_map, hlv, hcd.2.1]
      exact Nat.le_refl _
    rw [nodup_merge _ [] (by rw [List.nil_append, hmk]; exact hcd.1), List.nil_append]
    have sH : Same H (upd H2 p (.dK (ks.zip (ps.map (·.2))))) := fun b o hb => by
      rw [upd_ne (ne_of_none hb np)]
      exact s1 b o (s0 b o hb)
    have hid : hd (fun b => hide b ∨ b = p) (diff own (als cv)) σ p := .inl (.inr rfl)
    have iv2 := iv.mono ((cut_upd (o := .dK (ks.zip (ps.map (·.2)))) hid).trans (cut_anti (h' := hd hide (diff own (als cv)) σ) fun b z => z.elim (fun z => .inl (.inl z)) .inr))
    have nr : ¬ hd hide (diff own (als cv)) σ p := fun z => R.nroot np diff_own z
    refine k _ _ sH (.of_is (by simp only [al, ale]) rfl ?_)
    simp only [al]
    exact .dcK (.inl (by rw [cut_no nr, upd_same])) (isKv_zip iv2 hcd.2.1)
  · cases e
theorem se_dix (hu : X.A.units + 70 < cLine) (ha : SE X T M a ca) (hb : SE X T M b cb) (hs : PlainIx b) : SE X T M (.Subscript a b pos) (.dix ca cb) :=
  PE.imp (pe_dget (by omega) ha hb (fun ov iv => by first | exact hs ov iv | rfl)) fun σ H Q ⟨hide, own, ρ, d, R, m, e, k⟩ => by
    simp only [ev] at e
    obtain ⟨x, ex, e1⟩ := bnd e
    obtain ⟨y, ey, e2⟩ := bnd e1
    refine ⟨hide, own, ρ, x, R, m, ex, fun v H1 s1 r1 => ⟨hide, own, ρ, y, R.grow s1, m, ey, fun u H2 s2 r2 => ?_⟩⟩
    cases x with
    | dict kvs =>
      simp only [dixD] at e2
      obtain ⟨k0, ek0, e3⟩ := bnd e2
      have eu := is_key r2.is ek0
      subst eu
      obtain ⟨p, rfl, q⟩ := r1.el
      rcases q with ⟨kv, hrd, ikv⟩ | ⟨kv, hrd, ikv⟩
      · obtain ⟨w, ew, iw⟩ := lookK_isKv ikv e3
        refine ⟨p, w, rfl, .inl ⟨kv, k0, ?_, rfl, ew.symm⟩, k w H2 (s1.trans s2) (.of_is (by simp only [al, ale]) rfl (iw.mono (by simp only [al]; exact cut_same s2)))⟩
        exact Rd.mono (cut_le.trans s2) hrd
      · rw [lookK_isKvT ikv] at e3; cases e3
    | _ => simp [dixD] at e2
end
end DI
set_option maxRecDepth 100000
/-! DC0: set comprehensions of two clauses, whole numbers (after the layer's list comprehensions of two clauses and its sets of truth values). -/
namespace DC
open PySem PySem.Spec PyProof.Rows L2
/-- set.add of a whole number -/
theorem addI_ok {X : Cx} {pins : List (Addr × Obj)} {σ : L2.St} {H : Hp} {s : Shared} {E : Value → Shared → Prop} {D : Addr} {S : Int → Bool} {n : Nat} {y : Int} {tk : Tok} {Q : Value → Shared → Prop} (I : Inv X pins σ H s) (hD : H D = some (SetO X.w D S n)) (room : n + 1 < scanBound)
    (h : ∀ s', Inv X pins σ (upd H D (SetO X.w D (fun j => S j || decide (j = y)) (if S y = true then n else n + 1))) s' → Q .none s') : wpAny (model X.prog X.w) X.A (call (.builtin "set.add") [.ref D, .int y tk]) Q E s := by
  refine setR_add (setO_get I hD) room fun h' sb new => ?_
  have he : ∃ u, h'.get? D = some u := by
    have ⟨o, _, _, _, ho, _⟩ := new
    exact ⟨o, ho⟩
  exact h _ (I.write (e := D) (t' := s.toks + 1) (by rw [hD]; trivial) (.inl rfl) (fun b u hb hu => (sb.2 b hb).trans hu) he (setO_new new))
theorem compTurnS2_out (elt t0 i0 t1 i1 : Expr) (ifs0 ifs1 : List Expr) (scope : Scope) (pos : Pos) (it acc : Value) (env : Env) :
    compTurn (.SetComp elt [⟨t0, i0, ifs0, 0⟩, ⟨t1, i1, ifs1, 0⟩] scope pos) 0 it acc env = (do
      standAt i0.pos
      match ← pyNext it with
      | none => pure (.done .next)
      | some v =>
        letOwnedTupleGo t0 it v
        assign t0 env v
        let mut ok := true
        for c in ifs0 do
          if ok then ok ← isTrue c env (eval c env)
        if ok then
          let x ← eval i1 env
          standAt i1.pos
          let x ← foldedSetIterable i1 env x
          let _ ← runOwn (.compStart (.SetComp elt [⟨t0, i0, ifs0, 0⟩, ⟨t1, i1, ifs1, 0⟩] scope pos) 1 (← holding [x] (pyIter x)) acc env) env
        again (.compLoop (.SetComp elt [⟨t0, i0, ifs0, 0⟩, ⟨t1, i1, ifs1, 0⟩] scope pos) 0 it acc env)) := by rfl
theorem compTurnS2_in (elt t0 i0 t1 i1 : Expr) (ifs0 ifs1 : List Expr) (scope : Scope) (pos : Pos) (it acc : Value) (env : Env) :
    compTurn (.SetComp elt [⟨t0, i0, ifs0, 0⟩, ⟨t1, i1, ifs1, 0⟩] scope pos) 1 it acc env = (do
      standAt i1.pos
      match ← pyNext it with
      | none => pure (.done .next)
      | some v =>
        letOwnedTupleGo t1 it v
        assign t1 env v
        let mut ok := true
        for c in ifs1 do
          if ok then ok ← isTrue c env (eval c env)
        if ok then
          (do let v ← eval elt env; standAt elt.pos; let _ ← call (.builtin "set.add") [acc, v])
        again (.compLoop (.SetComp elt [⟨t0, i0, ifs0, 0⟩, ⟨t1, i1, ifs1, 0⟩] scope pos) 1 it acc env)) := by rfl

section
variable {prog : Program} {w : World} {A : Around} {R : Result → Shared → Prop} {s : Shared} {elt t0 i0 t1 i1 : Expr} {ifs0 ifs1 : List Expr} {scope : Scope} {pos : Pos} {it acc : Value} {env : Env}
/-- the loop of the first clause -/
theorem compLoopS2_out (hs : ∀ x, foldedSetIterable i1 env x = pure x) (I : Nat → Shared → Prop)
    (turn : ∀ n s, I n s → wpAny (model prog w) A (pyNext it) (fun r s₁ => match r with
      | none => R (.ok .next) s₁
      | some v => wpAny (model prog w) A (letOwnedTupleGo t0 it v) (fun _ s₁' => wpAny (model prog w) A (assign t0 env v) (fun _ s₂ =>
          wpAny (model prog w) A (forIn ifs0 true fun c r => if r = true then do let ok ← isTrue c env (eval c env); pure (ForInStep.yield ok) else pure (ForInStep.yield r)) (fun ok s₃ =>
            if ok = true then wpAny (model prog w) A (eval i1 env) (fun x s₄ => wpAny (model prog w) A (pyIter x) (fun it1 s₅ =>
              codeAny (model prog w) A (.compStart (.SetComp elt [⟨t0, i0, ifs0, 0⟩, ⟨t1, i1, ifs1, 0⟩] scope pos) 1 it1 acc env) (fun r s' => match r with
                | .ok _ => ∃ m, m < n ∧ I m s'
                | .error _ => False) s₅) (notedBy (model prog w) A env fun e s' => R (.error e) s') s₄) (notedBy (model prog w) A env fun e s' => R (.error e) s') s₃
            else ∃ m, m < n ∧ I m s₃) (notedBy (model prog w) A env fun e s' => R (.error e) s') s₂) (notedBy (model prog w) A env fun e s' => R (.error e) s') s₁') (notedBy (model prog w) A env fun e s' => R (.error e) s') s₁) (notedBy (model prog w) A env fun e s' => R (.error e) s') s)
    (n : Nat) (h : I n s) :
    codeAny (model prog w) A (.compLoop (.SetComp elt [⟨t0, i0, ifs0, 0⟩, ⟨t1, i1, ifs1, 0⟩] scope pos) 0 it acc env) R s := by
  refine codeAny_loop rfl I (fun n s hI => ?_) n h
  show wpAny _ A ((compTurn (.SetComp elt [⟨t0, i0, ifs0, 0⟩, ⟨t1, i1, ifs1, 0⟩] scope pos) 0 it acc env).onRaise (fun x => do noteFrame x env; theTreesLotGoes x)) _ _ s
  refine wpAny_noted ?_
  rw [compTurnS2_out]
  refine wpAny_bind (wpAny_standAt (wpAny_bind (wpAny_mono (turn n s hI) (fun r s₁ h₁ => ?_) fun _ _ h' => h')))
  cases r with
  | none => exact wpAny_pure h₁
  | some v =>
    refine wpAny_bind (wpAny_mono h₁ (fun _ s₁' h₁' => ?_) fun _ _ h' => h')
    refine wpAny_bind (wpAny_mono h₁' (fun _ s₂ h₂ => wpAny_bind (wpAny_mono h₂ (fun ok s₃ h₃ => ?_) fun _ _ h' => h')) fun _ _ h' => h')
    cases ok with
    | false => exact wpAny_pure ⟨rfl, h₃⟩
    | true =>
      refine wpAny_bind (wpAny_mono h₃ (fun x s₄ h₄ => ?_) fun _ _ h' => h')
      refine wpAny_bind (wpAny_standAt (wpAny_bind (wpAny_of_eq (hs x) (wpAny_bind (wpAny_holding (wpAny_mono h₄ (fun it1 s₅ h₅ => ?_) fun _ _ h' => h'))))))
      refine wpAny_bind (wpAny_runOwn ?_)
      rw [Around.mark_none]
      refine codeAny_mono h₅ fun r s' hr => ?_
      cases r with
      | ok f =>
        first
          | exact wpAny_pure ⟨rfl, hr⟩
          | exact wpAny_bind (wpAny_pure (wpAny_pure ⟨rfl, hr⟩))
      | error e => exact hr.elim
/-- the loop of the second -/
theorem compLoopS2_in (I : Nat → Shared → Prop)
    (turn : ∀ n s, I n s → wpAny (model prog w) A (pyNext it) (fun r s₁ => match r with
      | none => R (.ok .next) s₁
      | some v => wpAny (model prog w) A (letOwnedTupleGo t1 it v) (fun _ s₁' => wpAny (model prog w) A (assign t1 env v) (fun _ s₂ =>
          wpAny (model prog w) A (forIn ifs1 true fun c r => if r = true then do let ok ← isTrue c env (eval c env); pure (ForInStep.yield ok) else pure (ForInStep.yield r)) (fun ok s₃ =>
            if ok = true then wpAny (model prog w) A (eval elt env) (fun x s₄ =>
              wpAny (model prog w) A (call (.builtin "set.add") [acc, x]) (fun _ s₅ => ∃ m, m < n ∧ I m s₅) (notedBy (model prog w) A env fun e s' => R (.error e) s') s₄) (notedBy (model prog w) A env fun e s' => R (.error e) s') s₃
            else ∃ m, m < n ∧ I m s₃) (notedBy (model prog w) A env fun e s' => R (.error e) s') s₂) (notedBy (model prog w) A env fun e s' => R (.error e) s') s₁') (notedBy (model prog w) A env fun e s' => R (.error e) s') s₁) (notedBy (model prog w) A env fun e s' => R (.error e) s') s)
    (n : Nat) (h : I n s) :
    codeAny (model prog w) A (.compLoop (.SetComp elt [⟨t0, i0, ifs0, 0⟩, ⟨t1, i1, ifs1, 0⟩] scope pos) 1 it acc env) R s := by
  refine codeAny_loop rfl I (fun n s hI => ?_) n h
  show wpAny _ A ((compTurn (.SetComp elt [⟨t0, i0, ifs0, 0⟩, ⟨t1, i1, ifs1, 0⟩] scope pos) 1 it acc env).onRaise (fun x => do noteFrame x env; theTreesLotGoes x)) _ _ s
  refine wpAny_noted ?_
  rw [compTurnS2_in]
  refine wpAny_bind (wpAny_standAt (wpAny_bind (wpAny_mono (turn n s hI) (fun r s₁ h₁ => ?_) fun _ _ h' => h')))
  cases r with
  | none => exact wpAny_pure h₁
  | some v =>
    refine wpAny_bind (wpAny_mono h₁ (fun _ s₁' h₁' => ?_) fun _ _ h' => h')
    refine wpAny_bind (wpAny_mono h₁' (fun _ s₂ h₂ => wpAny_bind (wpAny_mono h₂ (fun ok s₃ h₃ => ?_) fun _ _ h' => h')) fun _ _ h' => h')
    cases ok with
    | false => exact wpAny_pure ⟨rfl, h₃⟩
    | true =>
      exact wpAny_bind (wpAny_bind (wpAny_mono h₃ (fun x s₄ h₄ => wpAny_bind (wpAny_standAt (wpAny_bind (wpAny_mono h₄ (fun _ s₅ h₅ => wpAny_pure (wpAny_pure ⟨rfl, h₅⟩)) fun _ _ h' => h')))) fun _ _ h' => h'))
/-- the second clause's start -/
theorem compStartS1_ok (h0 : codeAny (model prog w) A (.compLoop (.SetComp elt [⟨t0, i0, ifs0, 0⟩, ⟨t1, i1, ifs1, 0⟩] scope pos) 1 it acc env) R s)
    (h : wpAny (model prog w) A (pyIter it) (fun it' s' => codeAny (model prog w) A (.compLoop (.SetComp elt [⟨t0, i0, ifs0, 0⟩, ⟨t1, i1, ifs1, 0⟩] scope pos) 1 it' acc env) R s')
      (notedBy (model prog w) A env fun x s' => R (.error x) s') s) :
    codeAny (model prog w) A (.compStart (.SetComp elt [⟨t0, i0, ifs0, 0⟩, ⟨t1, i1, ifs1, 0⟩] scope pos) 1 it acc env) R s := by
  refine codeAny_of_tree ?_
  show wpAny _ _ ((compStart (.SetComp elt [⟨t0, i0, ifs0, 0⟩, ⟨t1, i1, ifs1, 0⟩] scope pos) 1 it acc env).onRaise (fun x => do noteFrame x env; standAt theWindowsPlace)) _ _ s
  refine wpAny_notedAt ?_
  unfold compStart
  show wpAny _ _ (ask >>= _) _ _ s
  refine wpAny_bind (wpAny_askSetting (wpAny_ite ?_))
  split
  · first
      | exact wpAny_bind (wpAny_pure (wpAny_pure (And.intro rfl h0)))
      | exact wpAny_pure (And.intro rfl h0)
  · first
      | exact wpAny_bind (wpAny_rule (wpAny_bind (wpAny_standAt (wpAny_bind (wpAny_mono h (fun it' s' h' => wpAny_pure (And.intro rfl h')) fun _ _ x => x)))))
      | (refine wpAny_bind (wpAny_rule ?_); show wpAny _ _ (standAt i1.pos >>= _) _ _ s; exact wpAny_bind (wpAny_standAt (wpAny_bind (wpAny_mono h (fun it' s' h' => wpAny_pure (And.intro rfl h')) fun _ _ x => x))))
end

section
variable {X : Cx}
/-- [elt for tg in iter if .. for tg1 in iter1 if ..]: behind the first clause's store and tests the second source's own loop, from which Nx is reached. vs: the block's names; vs1: those of the second target -/
def tSc2 (w : World) (wi : TI) (g : TG) (tt : TT) (wi1 : TI) (g1 : TG) (tt1 : TT) (te : TE) (vs vs1 : List Nat) : TE := fun σ H Q => wi σ H fun J H1 => ∀ D, H1 D = none → ∃ W : Nat → Nat → Hp → Prop, (∃ m, W 0 m (upd H1 D (SetO w D (fun _ => false) 0))) ∧ ∀ i m H, W i m H →
  (J.stop i H ∧ Q (.ref D) H) ∨ (J.go i H ∧ ∃ Nx : Hp → Prop, (∀ H', Nx H' → ∃ m', m' < m ∧ W (i + 1) m' H') ∧ ∀ x H', J.yld i H x H' → g x (wipe σ vs) H' fun σ2 H2 => wipe σ2 vs = wipe σ vs ∧ tt σ2 H2 fun b H3 =>
    if b = true then wi1 σ2 H3 fun J1 H4 => ∃ W1 : Nat → Nat → Hp → Prop, (∃ m, W1 0 m H4) ∧ ∀ j k H, W1 j k H →
      (J1.stop j H ∧ Nx H) ∨ (J1.go j H ∧ ∃ Nx1 : Hp → Prop, (∀ H', Nx1 H' → ∃ k', k' < k ∧ W1 (j + 1) k' H') ∧ ∀ x H', J1.yld j H x H' → g1 x (wipe σ2 vs1) H' fun σ3 H5 => wipe σ3 vs1 = wipe σ2 vs1 ∧ tt1 σ3 H5 fun b H6 =>
        if b = true then te σ3 H6 fun y H7 => ∃ (c : Int) (S : Int → Bool) (n : Nat), y = .int c ∧ H7 D = some (SetO w D S n) ∧ n + 1 < scanBound ∧ Nx1 (upd H7 D (SetO w D (fun j => S j || decide (j = c)) (if S c = true then n else n + 1))) else Nx1 H6)
    else Nx H3)
theorem sc2_core {pins : List (Addr × Obj)} {s : Shared} {σ : L2.St} {H : Hp} {Q : VK} {elt tg iter tg1 iter1 : Expr} {ifs ifs1 : List Expr} {scope : Scope} {own : List (PySem.Str × Nat)} {vs1 : List Nat} {pos pos' : Pos} {wi wi1 : TI} {g g1 : TG} {tt tt1 : TT} {te : TE} {use : Option (Value → Sem Unit)} {Qf : Value → Shared → Prop}
    (hc : X.calm = true) (hN : X.N.Nodup) (I : Inv X pins σ H s) (hi : PI X tg iter wi) (ok : BlkOk X.N X.env.scope scope own) (hv : ∀ i ∈ vs1, i ∈ own.map (·.2))
    (hg : ∀ (s : Shared) (H : Hp) (C : Addr) (cl : List (PySem.Str × Addr)) (fp : List Addr), PG (X.blk s H scope (compEnvC scope cl C X.env) fp) tg g) (ht : ∀ (s : Shared) (H : Hp) (C : Addr) (cl : List (PySem.Str × Addr)) (fp : List Addr), PTs (X.blk s H scope (compEnvC scope cl C X.env) fp) ifs tt)
    (he : ∀ (s : Shared) (H : Hp) (C : Addr) (cl : List (PySem.Str × Addr)) (fp : List Addr), PE (X.blk s H scope (compEnvC scope cl C X.env) fp) elt te) (hs : ∀ x, foldedSetIterable iter X.env x = pure x)
    (hi1 : ∀ (s : Shared) (H : Hp) (C : Addr) (cl : List (PySem.Str × Addr)) (fp : List Addr), PI (X.blk s H scope (compEnvC scope cl C X.env) fp) tg1 iter1 wi1)
    (hg1 : ∀ (s : Shared) (H : Hp) (C : Addr) (cl : List (PySem.Str × Addr)) (fp : List Addr), PG (X.blk s H scope (compEnvC scope cl C X.env) fp) tg1 g1)
    (ht1 : ∀ (s : Shared) (H : Hp) (C : Addr) (cl : List (PySem.Str × Addr)) (fp : List Addr), PTs (X.blk s H scope (compEnvC scope cl C X.env) fp) ifs1 tt1)
    (hs1 : ∀ env x, foldedSetIterable iter1 env x = pure x)
    (h : tSc2 X.w wi g tt wi1 g1 tt1 te (own.map (·.2)) vs1 σ H Q)
    (hRR : ∀ D C s' m H', Inv X pins σ H' s' → Q (.ref D) H' → s'.heap.Ns C m → FpOk X pins H' C → compPost (model X.prog X.w) X.A X.xe use Qf (.ref D) C (.ok .next) s') :
    wpAny (model X.prog X.w) X.A (comprehension (.SetComp elt [⟨tg, iter, ifs, 0⟩, ⟨tg1, iter1, ifs1, 0⟩] scope pos) scope X.env pos' (newSet (.type "set")) false (eval iter X.env) use) Qf X.xe s := by
  have hfree : ∀ y ∈ scope.names, y.2 = .free → ∃ c, X.env.cells.lookup y.1 = some c := fun y hy e => by
    rcases ok.free y hy e with k | k
    · exact I.ok.has _ (.inl k)
    · exact I.ok.has _ (.inr k)
  refine wpAny_comprehension_free (use := use) rfl hs (closure_ok hfree) ok.kind (fun y hy e => by rw [ok.uniq y hy, e])
    (thn (hi.run pins s σ H _ I h) fun xv s1 hx => thn hx fun itv s2 h2 => ?_)
  obtain ⟨it, fp, tn, J, H2, e, I2, T, st2, f2, q⟩ := h2
  subst e
  refine PpSet.newSet_ok (newEnv_comp ?_)
  generalize hD : s2.heap.objs.size = D
  have hDn : H2 D = none := I2.hok.fresh (Nat.le_of_eq hD)
  obtain ⟨W, ⟨m0, w0⟩, turn⟩ := q D hDn
  -- the new list
  generalize hs3 : ({ s2 with heap := s2.heap.push { cls := .type "set", dict := none, data := .set #[] 0 (.fresh 0 0 (!X.w.params.followText "set-order")) } } : Shared) = s3
  have I3 : Inv X pins σ (upd H2 D (SetO X.w D (fun _ => false) 0)) s3 := by
    rw [← hs3]
    refine I2.laid (t' := s2.toks) (fun b o e => Heap.get?_push_of_some _ e) (Nat.le_of_eq hD) ?_
    rw [← hD]
    exact setO_new (setR_fresh X.w)
  have h3 : s3.heap = s2.heap.push { cls := .type "set", dict := none, data := .set #[] 0 (.fresh 0 0 (!X.w.params.followText "set-order")) } := by rw [← hs3]
  have sz : ∀ b ∈ fp, b < s2.heap.objs.size := fun b hb => by
    obtain ⟨o, e, _⟩ := T.obj _ _ st2 b hb
    exact Heap.lt_size e
  have f3 : ∀ b ∈ fp, FpOk X pins (upd H2 D (SetO X.w D (fun _ => false) 0)) b ∧ b < s3.heap.objs.size := fun b hb => by
    have hlt := sz b hb
    refine ⟨⟨?_, (f2 b hb).2⟩, by rw [h3, Heap.size_push]; exact Nat.lt_succ_of_lt hlt⟩
    rw [upd_ne (by rw [← hD]; exact Nat.ne_of_lt hlt)]
    exact (f2 b hb).1
  have st3 : tn 0 s3.heap := T.keep _ _ _ st2 fun b _ o e => by rw [h3]; exact Heap.get?_push_of_some _ e
  have I4 := block_start I3 ok hN f3
  have pg := hg s3 (upd H2 D (SetO X.w D (fun _ => false) 0)) s3.heap.objs.size (cellsFrom (s3.heap.objs.size + 1) scope.names (cloFrom X.env.cells scope.names [])) fp
  have pt := ht s3 (upd H2 D (SetO X.w D (fun _ => false) 0)) s3.heap.objs.size (cellsFrom (s3.heap.objs.size + 1) scope.names (cloFrom X.env.cells scope.names [])) fp
  have pe := he s3 (upd H2 D (SetO X.w D (fun _ => false) 0)) s3.heap.objs.size (cellsFrom (s3.heap.objs.size + 1) scope.names (cloFrom X.env.cells scope.names [])) fp
  have pi1 := hi1 s3 (upd H2 D (SetO X.w D (fun _ => false) 0)) s3.heap.objs.size (cellsFrom (s3.heap.objs.size + 1) scope.names (cloFrom X.env.cells scope.names [])) fp
  have pg1 := hg1 s3 (upd H2 D (SetO X.w D (fun _ => false) 0)) s3.heap.objs.size (cellsFrom (s3.heap.objs.size + 1) scope.names (cloFrom X.env.cells scope.names [])) fp
  have pt1 := ht1 s3 (upd H2 D (SetO X.w D (fun _ => false) 0)) s3.heap.objs.size (cellsFrom (s3.heap.objs.size + 1) scope.names (cloFrom X.env.cells scope.names [])) fp
  show codeAny _ _ (.compStart (.SetComp elt [⟨tg, iter, ifs, 0⟩, ⟨tg1, iter1, ifs1, 0⟩] scope pos) 0 (.ref it) (.ref D) (compEnvC scope (cellsFrom (s3.heap.objs.size + 1) scope.names (cloFrom X.env.cells scope.names [])) s3.heap.objs.size X.env)) (compPost (model X.prog X.w) X.A X.xe use Qf (.ref D) s3.heap.objs.size) { s3 with heap := pushCells (s3.heap.push { cls := .type "dict", data := .dict #[] }) scope.names }
  have nfp : ∀ b ∈ fp, (upd H2 D (SetO X.w D (fun _ => false) 0)) b = none := fun b hb => (f3 b hb).1.1
  generalize hce : compEnvC scope (cellsFrom (s3.heap.objs.size + 1) scope.names (cloFrom X.env.cells scope.names [])) s3.heap.objs.size X.env = ce at I4 pg pt pe pi1 pg1 pt1 ⊢
  have cL : ce.locals = s3.heap.objs.size := by subst hce; rfl
  generalize hH3 : upd H2 D (SetO X.w D (fun _ => false) 0) = H3 at I3 I4 pg pt pe pi1 pg1 pt1 w0 nfp f3
  generalize hs4 : ({ s3 with heap := pushCells (s3.heap.push { cls := .type "dict", data := .dict #[] }) scope.names } : Shared) = s4 at I4 ⊢
  have st4 : tn 0 s4.heap := T.keep _ _ _ st3 fun b _ o e => by rw [← hs4]; exact pushCells_keeps _ _ _ _ (Heap.get?_push_of_some _ e)
  have stat : ∀ {σ' : L2.St} {H' : Hp} {s' : Shared}, Inv (X.blk s3 H3 scope ce fp) [] σ' H' s' → (∀ b ∈ fp, H' b = none) → ∀ b ∈ fp, FpOk (X.blk s3 H3 scope ce fp) [] H' b := fun {σ' H' s'} I' hn b hb =>
    ⟨hn b hb, (I'.ok.exf b hb).1, I'.ok.exfs b hb, .inl hb, fun x c e => (I'.ok.exf b hb).2 x c e, fun p hp => absurd (show p ∈ ([] : List (Addr × Obj)) ++ [] from hp) (by simp)⟩
  have loop : codeAny (model X.prog X.w) X.A (.compLoop (.SetComp elt [⟨tg, iter, ifs, 0⟩, ⟨tg1, iter1, ifs1, 0⟩] scope pos) 0 (.ref it) (.ref D) ce) (compPost (model X.prog X.w) X.A X.xe use Qf (.ref D) s3.heap.objs.size) s4 := by
    refine compLoopS2_out (hs1 ce) (fun n s' => ∃ i H', Inv (X.blk s3 H3 scope ce fp) [] (wipe σ (own.map (·.2))) H' s' ∧ tn i s'.heap ∧ (∀ b ∈ fp, H' b = none) ∧ W i n H') ?_ m0 ⟨0, H3, I4, st4, nfp, w0⟩
    rintro n s5 ⟨i, H5, I5, st5, n5, w5⟩
    rcases turn i n H5 w5 with ⟨stop, qq⟩ | ⟨go, Nx, hNx, step⟩
    · have td := T.done (X.blk s3 H3 scope ce fp) rfl rfl rfl hc i [] s5 _ H5 (fun _ _ => False) I5 (stat I5 n5) st5 stop
      refine thnF td fun r s6 ⟨hr, I6⟩ => ?_
      subst hr
      -- back in the def's context
      have I7 : Inv X pins σ H5 s6 := I3.call' (ch := fp) I6.os I6.base I6.hok I6.bare fun b hb => ⟨(f3 b hb).1.2.2.2.1, (f3 b hb).1.2.1, (f3 b hb).1.2.2.2.2.1, (f3 b hb).1.2.2.2.2.2⟩
      have nC : H5 s3.heap.objs.size = none := by
        have z : H5 ce.locals = none := I6.free
        rw [cL] at z
        exact z
      obtain ⟨m, hn, _⟩ := I6.loc
      have hn : s6.heap.Ns ce.locals m := hn
      rw [cL] at hn
      exact hRR D s3.heap.objs.size s6 m H5 I7 qq hn (I3.fpOk (Nat.le_refl _) nC)
    · have ti := T.item (X.blk s3 H3 scope ce fp) rfl rfl rfl hc i [] s5 _ H5 (fun _ _ => False) I5 (stat I5 n5) st5 go
      refine thnF ti fun r s6 ⟨u, hr, h6⟩ => ?_
      subst hr
      refine thnF h6 fun _ s7 ⟨x, H7, I7, r7, y7, st7, n7⟩ => ?_
      have I7' := I7.pinned (stat I7 n7) (T.obj _ _ st7)
      refine thnF (pg.run _ s7 _ H7 x u _ I7' r7 (step x H7 y7)) fun _ s8 ⟨σ8, H8, I8, hw8, q8⟩ => ?_
      refine thnF (pt.run _ s8 σ8 H8 _ I8 q8) fun b s9 ⟨H9, I9, q9⟩ => ?_
      -- the turn's end, from any slots that know what the block knew at its start
      have fin : ∀ {σ9 : L2.St} {s' : Shared} {H' : Hp}, Inv (X.blk s3 H3 scope ce fp) ([] ++ pinsAt fp s7.heap) σ9 H' s' → (wipe σ (own.map (·.2))).length = σ9.length → (∀ (j : Nat) v, (wipe σ (own.map (·.2)))[j]? = some (some v) → σ9[j]? = some (some v)) → Nx H' →
          ∃ m, m < n ∧ ∃ i H', Inv (X.blk s3 H3 scope ce fp) [] (wipe σ (own.map (·.2))) H' s' ∧ tn i s'.heap ∧ (∀ b ∈ fp, H' b = none) ∧ W i m H' := fun {σ9 s' H'} I' hl hk nx => by
        obtain ⟨m', hm, w'⟩ := hNx H' nx
        have pin' : ∀ b ∈ fp, ∀ o, s7.heap.get? b = some o → s'.heap.get? b = some o ∧ H' b = none := fun b hb o e =>
          let z := I'.pin (b, o) (List.mem_append_right _ (List.mem_append_right _ (mem_pinsAt hb e)))
          ⟨z.1, z.2.1⟩
        refine ⟨m', hm, i + 1, H', (I'.unpinned (pins := [])).weak hl hk, T.keep _ _ _ st7 fun b hb o e => (pin' b hb o e).1, fun b hb => ?_, w'⟩
        obtain ⟨o, e, _⟩ := T.obj _ _ st7 b hb
        exact (pin' b hb o e).2
      have hl8 : (wipe σ (own.map (·.2))).length = σ8.length := by rw [← hw8, wipe_length]
      have hk8 : ∀ (j : Nat) v, (wipe σ (own.map (·.2)))[j]? = some (some v) → σ8[j]? = some (some v) := fun j v e => by
        rw [← hw8] at e
        exact (wipe_some e).1
      have hk9 : ∀ (j : Nat) v, (wipe σ (own.map (·.2)))[j]? = some (some v) → (wipe σ8 vs1)[j]? = some (some v) := fun j v e => by
        rw [← hw8] at e
        obtain ⟨e1, e2⟩ := wipe_some e
        rw [wipe_out fun z => e2 (hv j z)]
        exact e1
      cases b with
      | false =>
        simp only [Bool.false_eq_true, if_false] at q9 ⊢
        exact fin I9 hl8 hk8 q9
      | true =>
        simp only [if_true] at q9 ⊢
        refine thnF (pi1.run _ s9 σ8 H9 _ I9 q9) fun xv s10 hx => thnF hx fun itv s11 h11 => ?_
        obtain ⟨it1, fp1, tn1, J1, H11, e1, I11, T1, st11, f11, W1, ⟨m1, w1⟩, turn1⟩ := h11
        subst e1
        -- the inner loop
        have stat1 : ∀ {H' : Hp}, (∀ b ∈ fp1, H' b = none) → ∀ b ∈ fp1, FpOk (X.blk s3 H3 scope ce fp) ([] ++ pinsAt fp s7.heap) H' b := fun hn b hb => ⟨hn b hb, (f11 b hb).2⟩
        have loop1 : codeAny (model X.prog X.w) X.A (.compLoop (.SetComp elt [⟨tg, iter, ifs, 0⟩, ⟨tg1, iter1, ifs1, 0⟩] scope pos) 1 (.ref it1) (.ref D) ce)
            (fun r s' => match r with
              | .ok _ => ∃ m, m < n ∧ ∃ i H', Inv (X.blk s3 H3 scope ce fp) [] (wipe σ (own.map (·.2))) H' s' ∧ tn i s'.heap ∧ (∀ b ∈ fp, H' b = none) ∧ W i m H'
              | .error _ => False) s11 := by
          refine compLoopS2_in (fun k s' => ∃ j H', Inv (X.blk s3 H3 scope ce fp) ([] ++ pinsAt fp s7.heap) (wipe σ8 vs1) H' s' ∧ tn1 j s'.heap ∧ (∀ b ∈ fp1, H' b = none) ∧ W1 j k H') ?_ m1 ⟨0, H11, I11.weak (wipe_length _ _) (fun j v e => (wipe_some e).1), st11, fun b hb => (f11 b hb).1, w1⟩
          rintro k s12 ⟨j, H12, I12, st12, n12, w12⟩
          rcases turn1 j k H12 w12 with ⟨stop1, nx1⟩ | ⟨go1, Nx1, hNx1, step1⟩
          · refine thnF (T1.done (X.blk s3 H3 scope ce fp) rfl rfl rfl hc j _ s12 (wipe σ8 vs1) H12 (fun _ _ => False) I12 (stat1 n12) st12 stop1) fun r s13 ⟨hr, I13⟩ => ?_
            subst hr
            exact fin I13 (hl8.trans (wipe_length σ8 vs1).symm) hk9 nx1
          · refine thnF (T1.item (X.blk s3 H3 scope ce fp) rfl rfl rfl hc j _ s12 (wipe σ8 vs1) H12 (fun _ _ => False) I12 (stat1 n12) st12 go1) fun r s13 ⟨u1, hr, h13⟩ => ?_
            subst hr
            refine thnF h13 fun _ s14 ⟨x1, H14, I14, r14, y14, st14, n14⟩ => ?_
            have I14' := I14.pinned (stat1 n14) (T1.obj _ _ st14)
            refine thnF (pg1.run _ s14 (wipe σ8 vs1) H14 x1 u1 _ I14' r14 (step1 x1 H14 y14)) fun _ s15 ⟨σ15, H15, I15, hw15, q15⟩ => ?_
            refine thnF (pt1.run _ s15 σ15 H15 _ I15 q15) fun b1 s16 ⟨H16, I16, q16⟩ => ?_
            have fin1 : ∀ {s' : Shared} {H' : Hp}, Inv (X.blk s3 H3 scope ce fp) (([] ++ pinsAt fp s7.heap) ++ pinsAt fp1 s14.heap) σ15 H' s' → Nx1 H' → ∃ m, m < k ∧ ∃ j H', Inv (X.blk s3 H3 scope ce fp) ([] ++ pinsAt fp s7.heap) (wipe σ8 vs1) H' s' ∧ tn1 j s'.heap ∧ (∀ b ∈ fp1, H' b = none) ∧ W1 j m H' := fun {s' H'} I' nx => by
              obtain ⟨m', hm, w'⟩ := hNx1 H' nx
              have pin' : ∀ b ∈ fp1, ∀ o, s14.heap.get? b = some o → s'.heap.get? b = some o ∧ H' b = none := fun b hb o e =>
                let z := I'.pin (b, o) (List.mem_append_right _ (List.mem_append_right _ (mem_pinsAt hb e)))
                ⟨z.1, z.2.1⟩
              refine ⟨m', hm, j + 1, H', I'.unpinned.weak (by rw [← hw15, wipe_length]) (fun j v e => by rw [← hw15] at e; exact (wipe_some e).1), T1.keep _ _ _ st14 fun b hb o e => (pin' b hb o e).1, fun b hb => ?_, w'⟩
              obtain ⟨o, e, _⟩ := T1.obj _ _ st14 b hb
              exact (pin' b hb o e).2
            cases b1 with
            | false =>
              simp only [Bool.false_eq_true, if_false] at q16 ⊢
              exact fin1 I16 q16
            | true =>
              simp only [if_true] at q16 ⊢
              refine thnF (pe.run _ s16 σ15 H16 _ I16 q16) fun z s17 ⟨yv, H17, I17, r17, cb, S0, n0, ey, hD17, hz17, nx⟩ => ?_
              subst ey
              obtain ⟨tk17, rfl⟩ := r17
              exact addI_ok (X := X.blk s3 H3 scope ce fp) I17 hD17 hz17 fun s18 I18 => fin1 I18 nx
        exact compStartS1_ok loop1 (T1.self X.A 0 _ _ _ st11 loop1)
  exact PpSet.codeAny_compStart_set loop (T.self X.A 0 _ _ _ st4 loop)
/-- as a value -/
theorem pe_sc2 {elt tg iter tg1 iter1 : Expr} {ifs ifs1 : List Expr} {scope : Scope} {own : List (PySem.Str × Nat)} {vs1 : List Nat} {pos : Pos} {wi wi1 : TI} {g g1 : TG} {tt tt1 : TT} {te : TE} (hc : X.calm = true) (hN : X.N.Nodup) (hi : PI X tg iter wi) (ok : BlkOk X.N X.env.scope scope own) (hv : ∀ i ∈ vs1, i ∈ own.map (·.2))
    (hg : ∀ (s : Shared) (H : Hp) (C : Addr) (cl : List (PySem.Str × Addr)) (fp : List Addr), PG (X.blk s H scope (compEnvC scope cl C X.env) fp) tg g) (ht : ∀ (s : Shared) (H : Hp) (C : Addr) (cl : List (PySem.Str × Addr)) (fp : List Addr), PTs (X.blk s H scope (compEnvC scope cl C X.env) fp) ifs tt)
    (hi1 : ∀ (s : Shared) (H : Hp) (C : Addr) (cl : List (PySem.Str × Addr)) (fp : List Addr), PI (X.blk s H scope (compEnvC scope cl C X.env) fp) tg1 iter1 wi1)
    (hg1 : ∀ (s : Shared) (H : Hp) (C : Addr) (cl : List (PySem.Str × Addr)) (fp : List Addr), PG (X.blk s H scope (compEnvC scope cl C X.env) fp) tg1 g1) (ht1 : ∀ (s : Shared) (H : Hp) (C : Addr) (cl : List (PySem.Str × Addr)) (fp : List Addr), PTs (X.blk s H scope (compEnvC scope cl C X.env) fp) ifs1 tt1)
    (he : ∀ (s : Shared) (H : Hp) (C : Addr) (cl : List (PySem.Str × Addr)) (fp : List Addr), PE (X.blk s H scope (compEnvC scope cl C X.env) fp) elt te) (hs : ∀ x, foldedSetIterable iter X.env x = pure x) (hs1 : ∀ env x, foldedSetIterable iter1 env x = pure x) :
    PE X (.SetComp elt [⟨tg, iter, ifs, 0⟩, ⟨tg1, iter1, ifs1, 0⟩] scope pos) (tSc2 X.w wi g tt wi1 g1 tt1 te (own.map (·.2)) vs1) := by
  refine ⟨fun pins s σ H Q I h => ?_⟩
  rw [PpSet.eval_SetComp]
  refine sc2_core hc hN I hi ok hv hg ht he hs hi1 hg1 ht1 hs1 h fun D C s' m H' I' q hn f => ⟨m, hn, fun h'' sb => ?_⟩
  obtain ⟨f0, f1, f2, f3, f4, f5⟩ := f
  exact ⟨.ref D, H', I'.turned (t' := s'.toks) (fun b o hb e => (sb.2 b hb).trans e) f0 f1 f3 f4 f5, rfl, q⟩
end
end DC
set_option maxRecDepth 100000
set_option maxHeartbeats 2000000
/-! DC: sorted({.. for .. for ..}), whole numbers. -/
namespace DI
open PySem L2 DC
theorem compLL_app {f : D → Option (List D)} : ∀ {a b out : List D}, compLL f (a ++ b) = some out → ∃ oa ob, compLL f a = some oa ∧ compLL f b = some ob ∧ out = oa ++ ob
  | [], b, out, h => ⟨[], out, rfl, h, rfl⟩
  | d :: r, b, out, h => by
    simp only [List.cons_append, compLL] at h
    obtain ⟨s, hs, h⟩ := bnd h
    obtain ⟨t, ht, rfl⟩ := mpd h
    obtain ⟨oa, ob, h1, h2, rfl⟩ := compLL_app ht
    exact ⟨s ++ oa, ob, by simp [compLL, hs, h1], h2, by simp⟩
theorem compL_app {f : D → Option (Option D)} : ∀ {a b out : List D}, compL f (a ++ b) = some out → ∃ oa ob, compL f a = some oa ∧ compL f b = some ob ∧ out = oa ++ ob
  | [], b, out, h => ⟨[], out, rfl, h, rfl⟩
  | d :: r, b, out, h => by
    simp only [List.cons_append, compL] at h
    obtain ⟨s, hs, h⟩ := bnd h
    obtain ⟨t, ht, rfl⟩ := mpd h
    obtain ⟨oa, ob, h1, h2, rfl⟩ := compL_app ht
    cases s with
    | none => exact ⟨oa, ob, by simp [compL, hs, h1], h2, rfl⟩
    | some x => exact ⟨x :: oa, ob, by simp [compL, hs, h1], h2, rfl⟩
theorem asIs_app : ∀ {a b : List D} {is : List Int}, asIs (a ++ b) = some is → ∃ ia ib, asIs a = some ia ∧ asIs b = some ib ∧ is = ia ++ ib
  | [], b, is, h => ⟨[], is, rfl, h, rfl⟩
  | d :: r, b, is, h => by
    cases d with
    | int i =>
      simp only [List.cons_append, asIs] at h
      obtain ⟨t, ht, rfl⟩ := mpd h
      obtain ⟨ia, ib, h1, h2, rfl⟩ := asIs_app ht
      exact ⟨i :: ia, ib, by simp [asIs, h1], h2, rfl⟩
    | _ => simp [asIs] at h
theorem asIs_join : ∀ {a b : List D} {ia ib : List Int}, asIs a = some ia → asIs b = some ib → asIs (a ++ b) = some (ia ++ ib)
  | [], b, ia, ib, h, h2 => by
    simp only [asIs, Option.some.injEq] at h
    subst h
    exact h2
  | d :: r, b, ia, ib, h, h2 => by
    cases d with
    | int i =>
      simp only [asIs] at h
      obtain ⟨t, ht, rfl⟩ := mpd h
      simp [asIs, asIs_join ht h2]
    | _ => simp [asIs] at h
theorem compLL_join {f : D → Option (List D)} : ∀ {a b oa ob : List D}, compLL f a = some oa → compLL f b = some ob → compLL f (a ++ b) = some (oa ++ ob)
  | [], b, oa, ob, h, h2 => by
    simp only [compLL, Option.some.injEq] at h
    subst h
    exact h2
  | d :: r, b, oa, ob, h, h2 => by
    simp only [compLL] at h
    obtain ⟨s, hs, h⟩ := bnd h
    obtain ⟨t, ht, rfl⟩ := mpd h
    simp [compLL, hs, compLL_join ht h2]
theorem compL_join {f : D → Option (Option D)} : ∀ {a b oa ob : List D}, compL f a = some oa → compL f b = some ob → compL f (a ++ b) = some (oa ++ ob)
  | [], b, oa, ob, h, h2 => by
    simp only [compL, Option.some.injEq] at h
    subst h
    exact h2
  | d :: r, b, oa, ob, h, h2 => by
    simp only [compL] at h
    obtain ⟨s, hs, h⟩ := bnd h
    obtain ⟨t, ht, rfl⟩ := mpd h
    cases s <;> simp [compL, hs, compL_join ht h2]
theorem cut_ext {P P' : Addr → Prop} {H H' : Hp} (w : ∀ b, P b → P' b) (s : Same (cut P H) (cut P H')) : Same (cut P' H) (cut P' H') := fun b o e => by
  obtain ⟨n, q⟩ := cut_some e
  have n' : ¬ P b := fun z => n (w b z)
  have h := s b o (by rw [cut_no n']; exact q)
  rw [cut_no n'] at h
  rw [cut_no n]
  exact h
/-- what is hidden may change -/
theorem ER.hid_mono {K : PySem.W.Frag} {hide P : Addr → Prop} {own : List Nat} {H H' : Hp} {σ : L2.St} {ρ : Env} (R : ER K hide own H σ ρ) (s : Same (cut P H) (cut P H')) (hP : ∀ b, P b → hide b) (hex : ∀ b, P b → H' b ≠ none) : ER K hide own H' σ ρ := by
  have at' : ∀ b o, ¬ P b → H b = some o → H' b = some o := fun b o n q => by
    have h := s b o (by rw [cut_no n]; exact q)
    rwa [cut_no n] at h
  have sc : Same (cut (hd hide own σ) H) (cut (hd hide own σ) H') := cut_ext (fun b z => .inl (hP b z)) s
  refine ⟨fun b hb z => ?_, R.len, fun i d e n => ?_, fun i hi => ?_, R.dist⟩
  · by_cases p : P b
    · exact hex b p z
    · cases q : H b with
      | none => exact R.hid b hb q
      | some o => rw [at' b o p q] at z; cases z
  · obtain ⟨v, h1, h2⟩ := R.shr i d e n
    exact ⟨v, h1, h2.mono sc⟩
  · obtain ⟨a, d, h1, h2, h3, h4⟩ := R.ow i hi
    obtain ⟨u, hu⟩ := h4.some
    exact ⟨a, d, h1, h2, h3, by rw [at' a u (fun z => h3 (hP a z)) hu, ← hu]; exact h4.mono sc⟩
/-- the set at D holds is, each once -/
def Hs (w : World) (D : Addr) (H : Hp) (is : List Int) : Prop := ∃ (S : Int → Bool) (c : Nat), H D = some (SetO w D S c) ∧ (∀ k, S k = true ↔ k ∈ is) ∧ c ≤ is.length
section
variable {T : Nat → List D → Option D} {M : List Nat}
/-- what one turn of the first clause gives -/
def turnD (T : Nat → List D → Option D) (ce : CE) (pat : Pat) (cifs : CEs) (pat1 : Pat) (ci1 : CI) (cifs1 : CEs) (vs vs1 : List Nat) (ρ : Env) (d : D) : Option (List D) :=
  (bindP pat d (wipeD ρ vs)).bind fun ρ' => (evt T cifs ρ').bind fun c => if c then (evi T ci1 ρ').bind fun es => compL (fun d => (bindP pat1 d (wipeD ρ' vs1)).bind fun ρ'' => (evt T cifs1 ρ'').bind fun c => if c then (ev T ce ρ'').map some else some none) es else some []
theorem sc2_imp {K : PySem.W.Frag} {w : World} {ce : CE} {pat pat1 : Pat} {ci ci1 : CI} {cifs cifs1 : CEs} {vs vs1 : List Nat} (hm : ∀ i ∈ vs, i ∉ M) (hp : ∀ i ∈ pat.slots, i ∈ vs) (hp1 : ∀ i ∈ pat1.slots, i ∈ vs1) (hv : ∀ i ∈ vs1, i ∈ vs) (σ : L2.St) (H : Hp) (Q : VK)
    (h : tE K T M (.sc2 ce pat ci cifs pat1 ci1 cifs1 vs vs1) σ H Q) :
    tSc2 w (tI K T M ci) (tG K pat) (tTs K T M cifs) (tI K T M ci1) (tG K pat1) (tTs K T M cifs1) (tE K T M ce) vs vs1 σ H (fun v H1 => rSortedSet w [v] H1 Q) := by
  obtain ⟨hide, own, ρ, d, R, m, e, k⟩ := h
  simp only [ev] at e
  obtain ⟨x, ex, e⟩ := bnd e
  obtain ⟨ds, eds, ex⟩ := bnd ex
  obtain ⟨out, eo, rfl⟩ := mpd ex
  obtain ⟨out', eo', eo⟩ := bnd eo
  have eo' : compLL (turnD T ce pat cifs pat1 ci1 cifs1 vs vs1 ρ) ds = some out' := eo'
  split at eo; rotate_left; · cases eo
  simp only [Option.some.injEq] at eo
  subst eo
  simp only [p1D] at e
  obtain ⟨is, eis, e⟩ := bnd e
  split at e; rotate_left; · cases e
  rename_i h64
  simp only [Option.some.injEq] at e
  subst e
  have room : ∀ {a b c : List Int}, is = a ++ b ++ c → (a ++ b).length < 64 := fun {a b c} z => by rw [z, List.length_append] at h64; omega
  refine ⟨hide, own, ρ, ds, R, m, eds, fun J H1 s1 jok hz => fun D nD => ?_⟩
  have R1 := (R.grow s1).freeze (own' := diff own (alie ci)) diff_own
  have m1 : ∀ i ∈ diff own (alie ci), i ∈ M := fun i hi => m i (diff_own i hi)
  generalize ho : diff own (alie ci) = own1 at jok R1 m1
  have dv : ∀ i ∈ own1, i ∉ vs := fun i hi hv => hm i hv (m1 i hi)
  let hD : Addr → Prop := fun b => hide b ∨ b = D
  have pre : ∀ i, i ≤ ds.length → ∃ oa ob ia ib, compLL (turnD T ce pat cifs pat1 ci1 cifs1 vs vs1 ρ) (ds.take i) = some oa ∧ compLL (turnD T ce pat cifs pat1 ci1 cifs1 vs vs1 ρ) (ds.drop i) = some ob ∧ asIs oa = some ia ∧ asIs ob = some ib ∧ is = ia ++ ib := fun i hi => by
    have eo2 := eo'
    rw [← List.take_append_drop i ds] at eo2
    obtain ⟨oa, ob, h1, h2, h3⟩ := compLL_app eo2
    rw [h3] at eis
    obtain ⟨ia, ib, h4, h5, h6⟩ := asIs_app eis
    exact ⟨oa, ob, ia, ib, h1, h2, h4, h5, h6⟩
  refine ⟨fun i n H' => n = ds.length - i ∧ i ≤ ds.length ∧ Same H1 H' ∧ ∃ outd isd, compLL (turnD T ce pat cifs pat1 ci1 cifs1 vs vs1 ρ) (ds.take i) = some outd ∧ asIs outd = some isd ∧ Hs w D H' isd,
    ⟨ds.length, by simp, Nat.zero_le _, same_upd_new nD, [], [], by simp [compLL], by simp [asIs], _, 0, upd_same, by simp, Nat.le_refl _⟩, ?_⟩
  rintro i n H' ⟨rfl, hi, s2, outd, isd, hco, hai, S, c, hD1, hS, hc⟩
  have RD : ER K hD own1 H' σ ρ := R1.hide1 nD s2 (by rw [hD1]; simp)
  have sF : Same (cut (hd hide own1 σ) H1) (cut (hd hD own1 σ) H') := cut_same2 s2 fun b z => by
    rcases z with (z | z) | z
    · exact .inl (.inl z)
    · exact .inr (z ▸ nD)
    · exact .inl (.inr z)
  obtain ⟨jgo, jstop⟩ := jok i H' (hd hD own1 σ) (cut_le.trans s2) sF (fun b z => by
    rcases z with z | z
    · exact RD.hid b z
    · intro hn
      exact RD.nroot hn (fun i h => h) (.inr z))
  by_cases hlt : i < ds.length
  · obtain ⟨go, yld⟩ := jgo hlt
    refine .inr ⟨go, fun H'' => Same H1 H'' ∧ ∃ outd isd, compLL (turnD T ce pat cifs pat1 ci1 cifs1 vs vs1 ρ) (ds.take (i + 1)) = some outd ∧ asIs outd = some isd ∧ Hs w D H'' isd, fun H'' ⟨q1, q2⟩ => ⟨ds.length - (i + 1), by omega, rfl, hlt, q1, q2⟩, fun x H2 y => ?_⟩
    obtain ⟨s3, di, edi, ix⟩ := yld x H2 y
    have tk : ds.take (i + 1) = ds.take i ++ [di] := by rw [List.take_add_one, edi]; rfl
    -- what this turn gives
    obtain ⟨oa, ob, ia, ib, p1, p2, p3, p4, p5⟩ := pre (i + 1) hlt
    rw [tk] at p1
    obtain ⟨oa1, ot, p6, p7, p8⟩ := compLL_app p1
    rw [hco] at p6
    cases p6
    rw [p8] at p3
    obtain ⟨ia1, it, p9, p10, p11⟩ := asIs_app p3
    rw [hai] at p9
    cases p9
    simp only [compLL] at p7
    obtain ⟨ot', eo1, p12⟩ := bnd p7
    simp only [Option.map_some, Option.some.injEq, List.append_nil] at p12
    subst p12
    subst p11
    have hfin : ∀ {H3 : Hp}, Same H1 H3 → Hs w D H3 (isd ++ it) → Same H1 H3 ∧ ∃ outd isd, compLL (turnD T ce pat cifs pat1 ci1 cifs1 vs vs1 ρ) (ds.take (i + 1)) = some outd ∧ asIs outd = some isd ∧ Hs w D H3 isd := fun {H3} q1 q2 => ⟨q1, _, _, by rw [tk]; exact p1, by rw [p8]; exact p3, q2⟩
    obtain ⟨ρ', eb, eo2⟩ := bnd (show (bindP pat di (wipeD ρ vs)).bind _ = some _ from eo1)
    obtain ⟨cc, ec, eo3⟩ := bnd eo2
    have RW : ER K hD own1 H2 (wipe σ vs) (wipeD ρ vs) := (RD.grow s3).wiped dv
    have hh0 : hd hD own1 (wipe σ vs) = hd hD own1 σ := hd_agree wipe_agree dv
    refine ⟨cut (hd hD own1 (wipe σ vs)) H2, di, cut_le, by rw [hh0]; exact ix, bindP_ok eb, fun σ2 bd => ?_⟩
    have ag := Bnd.agree (vs := vs) bd hp
    have R2 : ER K hD own1 H2 σ2 ρ' := ER.bind bd RW (fun j hj z => dv j z (hp j hj)) rfl eb
    have ag2 : Agree vs σ σ2 := wipe_agree.trans ag
    refine ⟨wipe_eq ag2, hD, own1, ρ', cc, R2, m1, ec, fun H3 s4 => ?_⟩
    have s13 : Same H1 H3 := (s2.trans s3).trans s4
    have hD3 : H3 D = some (SetO w D S c) := (s3.trans s4) D _ hD1
    cases cc with
    | false =>
      rw [if_neg Bool.false_ne_true] at eo3
      refine iteF ?_
      have e5 : ot' = [] := (Option.some.inj eo3).symm
      subst e5
      simp only [asIs, Option.some.injEq] at p10
      subst p10
      exact hfin s13 ⟨S, c, hD3, by simpa using hS, by simpa using hc⟩
    | true =>
      rw [if_pos rfl] at eo3
      refine iteT ?_
      obtain ⟨es, ees, eo4⟩ := bnd eo3
      refine ⟨hD, own1, ρ', es, R2.grow s4, m1, ees, fun J1 H4 s5 jok1 hz1 => ?_⟩
      have s14 : Same H1 H4 := s13.trans s5
      have hD4 : H4 D = some (SetO w D S c) := s5 D _ hD3
      have R4 := ((R2.grow s4).grow s5).freeze (own' := diff own1 (alie ci1)) diff_own
      have m2 : ∀ i ∈ diff own1 (alie ci1), i ∈ M := fun i hi => m1 i (diff_own i hi)
      generalize ho2 : diff own1 (alie ci1) = own2 at jok1 R4 m2
      have dv2 : ∀ i ∈ own2, i ∉ vs1 := fun i hi z => hm i (hv i z) (m2 i hi)
      generalize hg : (fun d => (bindP pat1 d (wipeD ρ' vs1)).bind fun ρ'' => (evt T cifs1 ρ'').bind fun c => if c = true then (ev T ce ρ'').map some else some none) = g at eo4
      refine ⟨fun j k H => k = es.length - j ∧ j ≤ es.length ∧ (Same (cut (fun b => b = D) H4) (cut (fun b => b = D) H)) ∧ Same H1 H ∧ ∃ outd1 isd1, compL g (es.take j) = some outd1 ∧ asIs outd1 = some isd1 ∧ Hs w D H (isd ++ isd1), ⟨es.length, by simp, Nat.zero_le _, Same.refl _, s14, [], [], by simp [compL], by simp [asIs], S, c, hD4, by simpa using hS, by simpa using hc⟩, ?_⟩
      rintro j k5 H5 ⟨rfl, hj, sc, s15, outd1, isd1, hco1, hai1, S1, c1, hD5, hS1, hc1⟩
      have hDD : ∀ b, b = D → hD b := fun b z => .inr z
      have R5 : ER K hD own2 H5 σ2 ρ' := R4.hid_mono sc hDD (fun b z => by rw [z, hD5]; simp)
      have sf5 : Same (cut (hd hD own2 σ2) H4) (cut (hd hD own2 σ2) H5) := cut_ext (fun b z => .inl (hDD b z)) sc
      have sg5 : Same (cut (hd hD (diff own1 (ali ci1)) σ2) H4) H5 := (cut_ext (fun b z => .inl (hDD b z)) sc).trans cut_le
      obtain ⟨jgo1, jstop1⟩ := jok1 j H5 (hd hD own2 σ2) sg5 sf5 (fun b z => by
        rcases z with z | z
        · exact R5.hid b z
        · intro hn
          exact R5.nroot hn (fun i h => h) (.inr z))
      by_cases hlt1 : j < es.length
      · obtain ⟨go1, yld1⟩ := jgo1 hlt1
        refine .inr ⟨go1, fun H => Same (cut (fun b => b = D) H4) (cut (fun b => b = D) H) ∧ Same H1 H ∧ ∃ outd1 isd1, compL g (es.take (j + 1)) = some outd1 ∧ asIs outd1 = some isd1 ∧ Hs w D H (isd ++ isd1), fun H ⟨q1, q2, q3⟩ => ⟨es.length - (j + 1), by omega, rfl, hlt1, q1, q2, q3⟩, fun x1 H6 y1 => ?_⟩
        obtain ⟨s6, dj, edj, ix1⟩ := yld1 x1 H6 y1
        have tk1 : es.take (j + 1) = es.take j ++ [dj] := by rw [List.take_add_one, edj]; rfl
        have eo5 := eo4
        rw [← List.take_append_drop (j + 1) es] at eo5
        obtain ⟨oa2, ob2, q1, q2, q3⟩ := compL_app eo5
        rw [tk1] at q1
        obtain ⟨oa3, ot2, q4, q5, q6⟩ := compL_app q1
        rw [hco1] at q4
        cases q4
        rw [q3, q6] at p10
        obtain ⟨ia2, ib2, q7, q8, q9⟩ := asIs_app p10
        have q7' := q7
        obtain ⟨ia3, it2, q10, q11, q12⟩ := asIs_app q7
        rw [hai1] at q10
        cases q10
        subst q12
        have hroom : (isd ++ isd1).length < 64 := room (a := isd) (b := isd1) (c := it2 ++ ib2 ++ ib) (by rw [p5, q9]; simp)
        simp only [compL] at q5
        obtain ⟨o2, go2, q13⟩ := bnd q5
        simp only [Option.map_some, Option.some.injEq] at q13
        rw [← hg] at go2
        obtain ⟨ρ2, eb1, go3⟩ := bnd go2
        obtain ⟨cc1, ec1, go4⟩ := bnd go3
        have hfin1 : ∀ {H : Hp}, Same (cut (fun b => b = D) H4) (cut (fun b => b = D) H) → Same H1 H → Hs w D H (isd ++ (isd1 ++ it2)) → Same (cut (fun b => b = D) H4) (cut (fun b => b = D) H) ∧ Same H1 H ∧ ∃ outd1 isd1, compL g (es.take (j + 1)) = some outd1 ∧ asIs outd1 = some isd1 ∧ Hs w D H (isd ++ isd1) := fun {H} z1 z2 z3 => ⟨z1, z2, _, _, by rw [tk1]; exact q1, by rw [q6]; exact q7', z3⟩
        have RW1 : ER K hD own2 H6 (wipe σ2 vs1) (wipeD ρ' vs1) := (R5.grow s6).wiped dv2
        have hh1 : hd hD own2 (wipe σ2 vs1) = hd hD own2 σ2 := hd_agree wipe_agree dv2
        refine ⟨cut (hd hD own2 (wipe σ2 vs1)) H6, dj, cut_le, by rw [hh1]; exact ix1, bindP_ok eb1, fun σ3 bd1 => ?_⟩
        have ag3 := Bnd.agree (vs := vs1) bd1 hp1
        have R6 : ER K hD own2 H6 σ3 ρ2 := ER.bind bd1 RW1 (fun j hj z => dv2 j z (hp1 j hj)) rfl eb1
        refine ⟨wipe_eq (wipe_agree.trans ag3), hD, own2, ρ2, cc1, R6, m2, ec1, fun H7 s7 => ?_⟩
        have s57 : Same H5 H7 := s6.trans s7
        cases cc1 with
        | false =>
          rw [if_neg Bool.false_ne_true] at go4
          refine iteF ?_
          have e7 : o2 = none := (Option.some.inj go4).symm
          subst e7
          subst q13
          simp only [asIs, Option.some.injEq] at q11
          subst q11
          exact hfin1 (sc.trans (cut_same s57)) (s15.trans s57) ⟨S1, c1, s57 D _ hD5, by simpa using hS1, by simpa using hc1⟩
        | true =>
          rw [if_pos rfl] at go4
          refine iteT ?_
          obtain ⟨yd, ey, e8⟩ := mpd go4
          subst e8
          subst q13
          cases yd with
          | int z =>
            simp only [asIs, Option.map_some, Option.some.injEq] at q11
            subst q11
            refine ⟨hD, own2, ρ2, .int z, R6.grow s7, m2, ey, fun y H8 s8 r8 => ?_⟩
            have iy := r8.is
            cases iy
            have s58 : Same H5 H8 := s57.trans s8
            refine ⟨z, S1, c1, rfl, s58 D _ hD5, Nat.lt_trans (Nat.lt_of_le_of_lt (Nat.succ_le_succ hc1) (Nat.succ_lt_succ hroom)) (by decide), hfin1 ?_ ?_ ⟨_, _, upd_same, fun k0 => ?_, ?_⟩⟩
            · exact (sc.trans (cut_same s58)).trans (cut_upd rfl)
            · intro b ob hb
              rw [upd_ne (ne_of_none hb nD)]
              exact s58 b ob (s15 b ob hb)
            · rw [Bool.or_eq_true, hS1, decide_eq_true_eq]
              simp only [List.mem_append, List.mem_singleton]
              constructor
              · rintro ((h | h) | h)
                · exact .inl h
                · exact .inr (.inl h)
                · exact .inr (.inr h)
              · rintro (h | h | h)
                · exact .inl (.inl h)
                · exact .inl (.inr h)
                · exact .inr h
            · simp only [List.length_append, List.length_cons, List.length_nil] at hc1 ⊢
              split <;> omega
          | _ => simp [asIs] at q11
      · have hin1 : j = es.length := by omega
        refine .inl ⟨jstop1 (by omega), hfin s15 ?_⟩
        rw [hin1, List.take_length, eo4] at hco1
        cases hco1
        rw [p10] at hai1
        cases hai1
        exact ⟨S1, c1, hD5, hS1, hc1⟩
  · have hin : i = ds.length := by omega
    refine .inl ⟨jstop (by omega), D, S, c, rfl, hD1, ?_, fun ns p hpw hmem hlen np => ?_⟩
    · obtain ⟨oa, ob, ia, ib, p1, p2, p3, p4, p5⟩ := pre i hi
      rw [hco] at p1; cases p1
      rw [hai] at p3; cases p3
      have := room (a := isd) (b := []) (c := ib) (by simpa using p5)
      simp only [List.append_nil] at this
      omega
    · have e6 : isd = is := by
        rw [hin, List.take_length, eo'] at hco
        cases hco
        rw [eis] at hai
        cases hai
        rfl
      subst e6
      have en : ns = ssort isd := pw_unique hpw (ssort_pw isd) fun k => by rw [hmem, mem_ssort, hS]
      subst en
      have s3 := s1.trans s2
      exact k _ _ (s3.trans (same_upd_new np)) (Res.newl (by simp only [al, ale]) (R.grow s3) s3 np (by rw [List.length_map, hlen]; exact Nat.le_trans hc (Nat.le_trans (Nat.le_of_lt h64) (by decide))) (ints_isAll _))
theorem se_sc2 {X : Cx} {tg iter tg1 iter1 elt : Expr} {p0 pos pos0 : Pos} {ifs ifs1 : List Expr} {scope : Scope} {own0 : List (Str × Nat)} {ce : CE} {pat pat1 : Pat} {ci ci1 : CI} {cifs cifs1 : CEs} {vs vs1 : List Nat} (hvs : own0.map (·.2) = vs) (hc : X.calm = true) (hN : X.N.Nodup)
    (g1 : Gl X "sorted") (m1 : X.mg "sorted" = none) (b1 : bootBuiltins "sorted" = some (.builtin "sorted")) (hi : SI X T M tg iter ci) (ok : BlkOk X.N X.env.scope scope own0)
    (hg : ∀ (s : Shared) (H : Hp) (C : Addr) (cl : List (Str × Addr)) (fp : List Addr), SP (X.blk s H scope (compEnvC scope cl C X.env) fp) tg pat)
    (ht : ∀ (s : Shared) (H : Hp) (C : Addr) (cl : List (Str × Addr)) (fp : List Addr), STs (X.blk s H scope (compEnvC scope cl C X.env) fp) T M ifs cifs)
    (hi1 : ∀ (s : Shared) (H : Hp) (C : Addr) (cl : List (Str × Addr)) (fp : List Addr), SI (X.blk s H scope (compEnvC scope cl C X.env) fp) T M tg1 iter1 ci1)
    (hg1 : ∀ (s : Shared) (H : Hp) (C : Addr) (cl : List (Str × Addr)) (fp : List Addr), SP (X.blk s H scope (compEnvC scope cl C X.env) fp) tg1 pat1)
    (ht1 : ∀ (s : Shared) (H : Hp) (C : Addr) (cl : List (Str × Addr)) (fp : List Addr), STs (X.blk s H scope (compEnvC scope cl C X.env) fp) T M ifs1 cifs1)
    (he : ∀ (s : Shared) (H : Hp) (C : Addr) (cl : List (Str × Addr)) (fp : List Addr), SE (X.blk s H scope (compEnvC scope cl C X.env) fp) T M elt ce) (hs : ∀ x, foldedSetIterable iter X.env x = pure x) (hs1 : ∀ env x, foldedSetIterable iter1 env x = pure x)
    (hm : ∀ i ∈ vs, i ∉ M) (hp : ∀ i ∈ pat.slots, i ∈ vs) (hp1 : ∀ i ∈ pat1.slots, i ∈ vs1) (hv : ∀ i ∈ vs1, i ∈ vs) :
    SE X T M (.Call (.Name "sorted" p0) [.SetComp elt [⟨tg, iter, ifs, 0⟩, ⟨tg1, iter1, ifs1, 0⟩] scope pos] [] pos0) (.sc2 ce pat ci cifs pat1 ci1 cifs1 vs vs1) := by
  subst hvs
  exact PE.imp (pe_callB (cr_sortedSet hc) g1 m1 b1 (pa_cons (pe_sc2 (wi := tI X.K T M ci) (g := tG X.K pat) (tt := tTs X.K T M cifs) (wi1 := tI X.K T M ci1) (g1 := tG X.K pat1) (tt1 := tTs X.K T M cifs1) (te := tE X.K T M ce) hc hN hi ok hv hg ht hi1 hg1 ht1 he hs hs1) pa_nil rfl) (by decide) (by decide) rfl rfl) fun σ H Q h => sc2_imp hm hp hp1 hv σ H Q h
end
end DI
set_option maxRecDepth 100000
/-! DT0: set comprehensions of two clauses, tuples of whole numbers (as DC0). -/
namespace DT
open PySem PySem.Spec PyProof.Rows L2 DC
theorem setT_add {P : Program} {w : World} {A : Around} {E : Value → Shared → Prop} {s : Shared} {a x : Addr} {k : List Int} {L : List (Addr × List Int)} {es : Array (Int × Value)} {ep : Nat} {t : SetTable} {Q : Value → Shared → Prop} (R : SetTR P w s.heap a L es ep t) (hx : IsT P w s.heap k x) (hu : A.in1.units < cLine) (hfew : L.length + 1 < 64)
    (hQ : ∀ h' L' es' ep' t', Heap.SameBut a s.heap h' → SetTR P w h' a L' es' ep' t' → (k ∈ L.map (·.2) → L' = L) → (k ∉ L.map (·.2) → L'.Perm ((x, k) :: L)) → Q .none { s with heap := h', toks := s.toks + (k.length + 1) }) :
    wpAny (model P w) A (call (.builtin "set.add") [.ref a, .ref x]) Q E s := by
  obtain ⟨o, ho, hex, hd⟩ := R.ob
  refine wpAny_call_entry F.slot_set_add ⟨o, ho, hex.1⟩ F.entry_set_add ?_ (F.args_set_add_2 _ _)
  unfold Builtin.«set.add» Builtin.Frozenset.oneOther
  simp only [List.isEmpty_nil, bind_assoc]
  unfold Builtin.Frozenset.addrOf setAdd
  refine wpAny_bind (wpAny_pure ?_)
  try dsimp only
  refine wpAny_bind (wpAny_pure ?_)
  try dsimp only
  refine wpAny_bind ?_
  refine wpAny_holding ?_
  refine wpAny_bind (wpAny_pyHash_tuple hu hx ?_)
  refine add_at (s := { s with toks := s.toks + (k.length + 1) }) R hx hu hfew fun b h' L' es' ep' t' sb r c1 c2 => ?_
  show wpAny _ _ (ret Value.none) _ _ _
  exact wpAny_pure ⟨_, rfl, hQ h' L' es' ep' t' sb r c1 c2⟩
theorem addT_ok {X : Cx} {pins : List (Addr × Obj)} {σ : L2.St} {H : Hp} {s : Shared} {E : Value → Shared → Prop} {D x : Addr} {k : List Int} {L : List (Addr × List Int)} {Q : Value → Shared → Prop} (hu : X.A.units + 8 < cLine) (I : Inv X pins σ H s) (hk : SqT X.K H x (k.map V.int)) (hD : H D = some (SetTO X.prog X.w D L)) (hL : ∀ p ∈ L, SqT X.K H p.1 (p.2.map V.int)) (room : L.length + 1 < 64)
    (h : ∀ s' L', (k ∈ L.map (·.2) → L' = L) → (k ∉ L.map (·.2) → L'.Perm ((x, k) :: L)) → Inv X pins σ (upd H D (SetTO X.prog X.w D L')) s' → Q .none s') : wpAny (model X.prog X.w) X.A (call (.builtin "set.add") [.ref D, .ref x]) Q E s := by
  have R0 : SetT0 X.prog X.w s.heap D L := (I.hok D _ hD).1
  obtain ⟨es, ep, t, R⟩ := R0.full fun p hp => I.isT (hL p hp)
  refine setT_add R (I.isT hk) (by show X.A.units + 1 < _; omega) room fun h' L' es' ep' t' sb new c1 c2 => ?_
  have he : ∃ u, h'.get? D = some u := by
    have ⟨o, ho, _⟩ := new.ob
    exact ⟨o, ho⟩
  exact h _ L' c1 c2 (I.write (e := D) (t' := s.toks + (k.length + 1)) (by rw [hD]; trivial) (.inl rfl) (fun b u hb hu => (sb.2 b hb).trans hu) he (setTO_new new.t0))
section
variable {X : Cx}
/-- [elt for tg in iter if .. for tg1 in iter1 if ..]: behind the first clause's store and tests the second source's own loop, from which Nx is reached. vs: the block's names; vs1: those of the second target -/
def tSc3 (K : PySem.W.Frag) (P : Program) (w : World) (wi : TI) (g : TG) (tt : TT) (wi1 : TI) (g1 : TG) (tt1 : TT) (te : TE) (vs vs1 : List Nat) : TE := fun σ H Q => wi σ H fun J H1 => ∀ D, H1 D = none → ∃ W : Nat → Nat → Hp → Prop, (∃ m, W 0 m (upd H1 D (SetTO P w D []))) ∧ ∀ i m H, W i m H →
  (J.stop i H ∧ Q (.ref D) H) ∨ (J.go i H ∧ ∃ Nx : Hp → Prop, (∀ H', Nx H' → ∃ m', m' < m ∧ W (i + 1) m' H') ∧ ∀ x H', J.yld i H x H' → g x (wipe σ vs) H' fun σ2 H2 => wipe σ2 vs = wipe σ vs ∧ tt σ2 H2 fun b H3 =>
    if b = true then wi1 σ2 H3 fun J1 H4 => ∃ W1 : Nat → Nat → Hp → Prop, (∃ m, W1 0 m H4) ∧ ∀ j k H, W1 j k H →
      (J1.stop j H ∧ Nx H) ∨ (J1.go j H ∧ ∃ Nx1 : Hp → Prop, (∀ H', Nx1 H' → ∃ k', k' < k ∧ W1 (j + 1) k' H') ∧ ∀ x H', J1.yld j H x H' → g1 x (wipe σ2 vs1) H' fun σ3 H5 => wipe σ3 vs1 = wipe σ2 vs1 ∧ tt1 σ3 H5 fun b H6 =>
        if b = true then te σ3 H6 fun y H7 => ∃ (c : Addr) (k : List Int) (L : List (Addr × List Int)), y = .ref c ∧ SqT K H7 c (k.map V.int) ∧ H7 D = some (SetTO P w D L) ∧ (∀ p ∈ L, SqT K H7 p.1 (p.2.map V.int)) ∧ L.length + 1 < 64 ∧ ∀ L', (k ∈ L.map (·.2) → L' = L) → (k ∉ L.map (·.2) → L'.Perm ((c, k) :: L)) → Nx1 (upd H7 D (SetTO P w D L')) else Nx1 H6)
    else Nx H3)
theorem sc3_core {pins : List (Addr × Obj)} {s : Shared} {σ : L2.St} {H : Hp} {Q : VK} {elt tg iter tg1 iter1 : Expr} {ifs ifs1 : List Expr} {scope : Scope} {own : List (PySem.Str × Nat)} {vs1 : List Nat} {pos pos' : Pos} {wi wi1 : TI} {g g1 : TG} {tt tt1 : TT} {te : TE} {use : Option (Value → Sem Unit)} {Qf : Value → Shared → Prop}
    (hc : X.calm = true) (hu : X.A.units + 8 < cLine) (hN : X.N.Nodup) (I : Inv X pins σ H s) (hi : PI X tg iter wi) (ok : BlkOk X.N X.env.scope scope own) (hv : ∀ i ∈ vs1, i ∈ own.map (·.2))
    (hg : ∀ (s : Shared) (H : Hp) (C : Addr) (cl : List (PySem.Str × Addr)) (fp : List Addr), PG (X.blk s H scope (compEnvC scope cl C X.env) fp) tg g) (ht : ∀ (s : Shared) (H : Hp) (C : Addr) (cl : List (PySem.Str × Addr)) (fp : List Addr), PTs (X.blk s H scope (compEnvC scope cl C X.env) fp) ifs tt)
    (he : ∀ (s : Shared) (H : Hp) (C : Addr) (cl : List (PySem.Str × Addr)) (fp : List Addr), PE (X.blk s H scope (compEnvC scope cl C X.env) fp) elt te) (hs : ∀ x, foldedSetIterable iter X.env x = pure x)
    (hi1 : ∀ (s : Shared) (H : Hp) (C : Addr) (cl : List (PySem.Str × Addr)) (fp : List Addr), PI (X.blk s H scope (compEnvC scope cl C X.env) fp) tg1 iter1 wi1)
    (hg1 : ∀ (s : Shared) (H : Hp) (C : Addr) (cl : List (PySem.Str × Addr)) (fp : List Addr), PG (X.blk s H scope (compEnvC scope cl C X.env) fp) tg1 g1)
    (ht1 : ∀ (s : Shared) (H : Hp) (C : Addr) (cl : List (PySem.Str × Addr)) (fp : List Addr), PTs (X.blk s H scope (compEnvC scope cl C X.env) fp) ifs1 tt1)
    (hs1 : ∀ env x, foldedSetIterable iter1 env x = pure x)
    (h : tSc3 X.K X.prog X.w wi g tt wi1 g1 tt1 te (own.map (·.2)) vs1 σ H Q)
    (hRR : ∀ D C s' m H', Inv X pins σ H' s' → Q (.ref D) H' → s'.heap.Ns C m → FpOk X pins H' C → compPost (model X.prog X.w) X.A X.xe use Qf (.ref D) C (.ok .next) s') :
    wpAny (model X.prog X.w) X.A (comprehension (.SetComp elt [⟨tg, iter, ifs, 0⟩, ⟨tg1, iter1, ifs1, 0⟩] scope pos) scope X.env pos' (newSet (.type "set")) false (eval iter X.env) use) Qf X.xe s := by
  have hfree : ∀ y ∈ scope.names, y.2 = .free → ∃ c, X.env.cells.lookup y.1 = some c := fun y hy e => by
    rcases ok.free y hy e with k | k
    · exact I.ok.has _ (.inl k)
    · exact I.ok.has _ (.inr k)
  refine wpAny_comprehension_free (use := use) rfl hs (closure_ok hfree) ok.kind (fun y hy e => by rw [ok.uniq y hy, e])
    (thn (hi.run pins s σ H _ I h) fun xv s1 hx => thn hx fun itv s2 h2 => ?_)
  obtain ⟨it, fp, tn, J, H2, e, I2, T, st2, f2, q⟩ := h2
  subst e
  refine PpSet.newSet_ok (newEnv_comp ?_)
  generalize hD : s2.heap.objs.size = D
  have hDn : H2 D = none := I2.hok.fresh (Nat.le_of_eq hD)
  obtain ⟨W, ⟨m0, w0⟩, turn⟩ := q D hDn
  -- the new list
  generalize hs3 : ({ s2 with heap := s2.heap.push { cls := .type "set", dict := none, data := .set #[] 0 (.fresh 0 0 (!X.w.params.followText "set-order")) } } : Shared) = s3
  have I3 : Inv X pins σ (upd H2 D (SetTO X.prog X.w D [])) s3 := by
    rw [← hs3]
    refine I2.laid (t' := s2.toks) (fun b o e => Heap.get?_push_of_some _ e) (Nat.le_of_eq hD) ?_
    rw [← hD]
    exact setTO_new (setTR_fresh (P := X.prog) (Heap.get?_push_size _ rfl)).t0
  have h3 : s3.heap = s2.heap.push { cls := .type "set", dict := none, data := .set #[] 0 (.fresh 0 0 (!X.w.params.followText "set-order")) } := by rw [← hs3]
  have sz : ∀ b ∈ fp, b < s2.heap.objs.size := fun b hb => by
    obtain ⟨o, e, _⟩ := T.obj _ _ st2 b hb
    exact Heap.lt_size e
  have f3 : ∀ b ∈ fp, FpOk X pins (upd H2 D (SetTO X.prog X.w D [])) b ∧ b < s3.heap.objs.size := fun b hb => by
    have hlt := sz b hb
    refine ⟨⟨?_, (f2 b hb).2⟩, by rw [h3, Heap.size_push]; exact Nat.lt_succ_of_lt hlt⟩
    rw [upd_ne (by rw [← hD]; exact Nat.ne_of_lt hlt)]
    exact (f2 b hb).1
  have st3 : tn 0 s3.heap := T.keep _ _ _ st2 fun b _ o e => by rw [h3]; exact Heap.get?_push_of_some _ e
  have I4 := block_start I3 ok hN f3
  have pg := hg s3 (upd H2 D (SetTO X.prog X.w D [])) s3.heap.objs.size (cellsFrom (s3.heap.objs.size + 1) scope.names (cloFrom X.env.cells scope.names [])) fp
  have pt := ht s3 (upd H2 D (SetTO X.prog X.w D [])) s3.heap.objs.size (cellsFrom (s3.heap.objs.size + 1) scope.names (cloFrom X.env.cells scope.names [])) fp
  have pe := he s3 (upd H2 D (SetTO X.prog X.w D [])) s3.heap.objs.size (cellsFrom (s3.heap.objs.size + 1) scope.names (cloFrom X.env.cells scope.names [])) fp
  have pi1 := hi1 s3 (upd H2 D (SetTO X.prog X.w D [])) s3.heap.objs.size (cellsFrom (s3.heap.objs.size + 1) scope.names (cloFrom X.env.cells scope.names [])) fp
  have pg1 := hg1 s3 (upd H2 D (SetTO X.prog X.w D [])) s3.heap.objs.size (cellsFrom (s3.heap.objs.size + 1) scope.names (cloFrom X.env.cells scope.names [])) fp
  have pt1 := ht1 s3 (upd H2 D (SetTO X.prog X.w D [])) s3.heap.objs.size (cellsFrom (s3.heap.objs.size + 1) scope.names (cloFrom X.env.cells scope.names [])) fp
  show codeAny _ _ (.compStart (.SetComp elt [⟨tg, iter, ifs, 0⟩, ⟨tg1, iter1, ifs1, 0⟩] scope pos) 0 (.ref it) (.ref D) (compEnvC scope (cellsFrom (s3.heap.objs.size + 1) scope.names (cloFrom X.env.cells scope.names [])) s3.heap.objs.size X.env)) (compPost (model X.prog X.w) X.A X.xe use Qf (.ref D) s3.heap.objs.size) { s3 with heap := pushCells (s3.heap.push { cls := .type "dict", data := .dict #[] }) scope.names }
  have nfp : ∀ b ∈ fp, (upd H2 D (SetTO X.prog X.w D [])) b = none := fun b hb => (f3 b hb).1.1
  generalize hce : compEnvC scope (cellsFrom (s3.heap.objs.size + 1) scope.names (cloFrom X.env.cells scope.names [])) s3.heap.objs.size X.env = ce at I4 pg pt pe pi1 pg1 pt1 ⊢
  have cL : ce.locals = s3.heap.objs.size := by subst hce; rfl
  generalize hH3 : upd H2 D (SetTO X.prog X.w D []) = H3 at I3 I4 pg pt pe pi1 pg1 pt1 w0 nfp f3
  generalize hs4 : ({ s3 with heap := pushCells (s3.heap.push { cls := .type "dict", data := .dict #[] }) scope.names } : Shared) = s4 at I4 ⊢
  have st4 : tn 0 s4.heap := T.keep _ _ _ st3 fun b _ o e => by rw [← hs4]; exact pushCells_keeps _ _ _ _ (Heap.get?_push_of_some _ e)
  have stat : ∀ {σ' : L2.St} {H' : Hp} {s' : Shared}, Inv (X.blk s3 H3 scope ce fp) [] σ' H' s' → (∀ b ∈ fp, H' b = none) → ∀ b ∈ fp, FpOk (X.blk s3 H3 scope ce fp) [] H' b := fun {σ' H' s'} I' hn b hb =>
    ⟨hn b hb, (I'.ok.exf b hb).1, I'.ok.exfs b hb, .inl hb, fun x c e => (I'.ok.exf b hb).2 x c e, fun p hp => absurd (show p ∈ ([] : List (Addr × Obj)) ++ [] from hp) (by simp)⟩
  have loop : codeAny (model X.prog X.w) X.A (.compLoop (.SetComp elt [⟨tg, iter, ifs, 0⟩, ⟨tg1, iter1, ifs1, 0⟩] scope pos) 0 (.ref it) (.ref D) ce) (compPost (model X.prog X.w) X.A X.xe use Qf (.ref D) s3.heap.objs.size) s4 := by
    refine compLoopS2_out (hs1 ce) (fun n s' => ∃ i H', Inv (X.blk s3 H3 scope ce fp) [] (wipe σ (own.map (·.2))) H' s' ∧ tn i s'.heap ∧ (∀ b ∈ fp, H' b = none) ∧ W i n H') ?_ m0 ⟨0, H3, I4, st4, nfp, w0⟩
    rintro n s5 ⟨i, H5, I5, st5, n5, w5⟩
    rcases turn i n H5 w5 with ⟨stop, qq⟩ | ⟨go, Nx, hNx, step⟩
    · have td := T.done (X.blk s3 H3 scope ce fp) rfl rfl rfl hc i [] s5 _ H5 (fun _ _ => False) I5 (stat I5 n5) st5 stop
      refine thnF td fun r s6 ⟨hr, I6⟩ => ?_
      subst hr
      -- back in the def's context
      have I7 : Inv X pins σ H5 s6 := I3.call' (ch := fp) I6.os I6.base I6.hok I6.bare fun b hb => ⟨(f3 b hb).1.2.2.2.1, (f3 b hb).1.2.1, (f3 b hb).1.2.2.2.2.1, (f3 b hb).1.2.2.2.2.2⟩
      have nC : H5 s3.heap.objs.size = none := by
        have z : H5 ce.locals = none := I6.free
        rw [cL] at z
        exact z
      obtain ⟨m, hn, _⟩ := I6.loc
      have hn : s6.heap.Ns ce.locals m := hn
      rw [cL] at hn
      exact hRR D s3.heap.objs.size s6 m H5 I7 qq hn (I3.fpOk (Nat.le_refl _) nC)
    · have ti := T.item (X.blk s3 H3 scope ce fp) rfl rfl rfl hc i [] s5 _ H5 (fun _ _ => False) I5 (stat I5 n5) st5 go
      refine thnF ti fun r s6 ⟨u, hr, h6⟩ => ?_
      subst hr
      refine thnF h6 fun _ s7 ⟨x, H7, I7, r7, y7, st7, n7⟩ => ?_
      have I7' := I7.pinned (stat I7 n7) (T.obj _ _ st7)
      refine thnF (pg.run _ s7 _ H7 x u _ I7' r7 (step x H7 y7)) fun _ s8 ⟨σ8, H8, I8, hw8, q8⟩ => ?_
      refine thnF (pt.run _ s8 σ8 H8 _ I8 q8) fun b s9 ⟨H9, I9, q9⟩ => ?_
      -- the turn's end, from any slots that know what the block knew at its start
      have fin : ∀ {σ9 : L2.St} {s' : Shared} {H' : Hp}, Inv (X.blk s3 H3 scope ce fp) ([] ++ pinsAt fp s7.heap) σ9 H' s' → (wipe σ (own.map (·.2))).length = σ9.length → (∀ (j : Nat) v, (wipe σ (own.map (·.2)))[j]? = some (some v) → σ9[j]? = some (some v)) → Nx H' →
          ∃ m, m < n ∧ ∃ i H', Inv (X.blk s3 H3 scope ce fp) [] (wipe σ (own.map (·.2))) H' s' ∧ tn i s'.heap ∧ (∀ b ∈ fp, H' b = none) ∧ W i m H' := fun {σ9 s' H'} I' hl hk nx => by
        obtain ⟨m', hm, w'⟩ := hNx H' nx
        have pin' : ∀ b ∈ fp, ∀ o, s7.heap.get? b = some o → s'.heap.get? b = some o ∧ H' b = none := fun b hb o e =>
          let z := I'.pin (b, o) (List.mem_append_right _ (List.mem_append_right _ (mem_pinsAt hb e)))
          ⟨z.1, z.2.1⟩
        refine ⟨m', hm, i + 1, H', (I'.unpinned (pins := [])).weak hl hk, T.keep _ _ _ st7 fun b hb o e => (pin' b hb o e).1, fun b hb => ?_, w'⟩
        obtain ⟨o, e, _⟩ := T.obj _ _ st7 b hb
        exact (pin' b hb o e).2
      have hl8 : (wipe σ (own.map (·.2))).length = σ8.length := by rw [← hw8, wipe_length]
      have hk8 : ∀ (j : Nat) v, (wipe σ (own.map (·.2)))[j]? = some (some v) → σ8[j]? = some (some v) := fun j v e => by
        rw [← hw8] at e
        exact (wipe_some e).1
      have hk9 : ∀ (j : Nat) v, (wipe σ (own.map (·.2)))[j]? = some (some v) → (wipe σ8 vs1)[j]? = some (some v) := fun j v e => by
        rw [← hw8] at e
        obtain ⟨e1, e2⟩ := wipe_some e
        rw [wipe_out fun z => e2 (hv j z)]
        exact e1
      cases b with
      | false =>
        simp only [Bool.false_eq_true, if_false] at q9 ⊢
        exact fin I9 hl8 hk8 q9
      | true =>
        simp only [if_true] at q9 ⊢
        refine thnF (pi1.run _ s9 σ8 H9 _ I9 q9) fun xv s10 hx => thnF hx fun itv s11 h11 => ?_
        obtain ⟨it1, fp1, tn1, J1, H11, e1, I11, T1, st11, f11, W1, ⟨m1, w1⟩, turn1⟩ := h11
        subst e1
        -- the inner loop
        have stat1 : ∀ {H' : Hp}, (∀ b ∈ fp1, H' b = none) → ∀ b ∈ fp1, FpOk (X.blk s3 H3 scope ce fp) ([] ++ pinsAt fp s7.heap) H' b := fun hn b hb => ⟨hn b hb, (f11 b hb).2⟩
        have loop1 : codeAny (model X.prog X.w) X.A (.compLoop (.SetComp elt [⟨tg, iter, ifs, 0⟩, ⟨tg1, iter1, ifs1, 0⟩] scope pos) 1 (.ref it1) (.ref D) ce)
            (fun r s' => match r with
              | .ok _ => ∃ m, m < n ∧ ∃ i H', Inv (X.blk s3 H3 scope ce fp) [] (wipe σ (own.map (·.2))) H' s' ∧ tn i s'.heap ∧ (∀ b ∈ fp, H' b = none) ∧ W i m H'
              | .error _ => False) s11 := by
          refine compLoopS2_in (fun k s' => ∃ j H', Inv (X.blk s3 H3 scope ce fp) ([] ++ pinsAt fp s7.heap) (wipe σ8 vs1) H' s' ∧ tn1 j s'.heap ∧ (∀ b ∈ fp1, H' b = none) ∧ W1 j k H') ?_ m1 ⟨0, H11, I11.weak (wipe_length _ _) (fun j v e => (wipe_some e).1), st11, fun b hb => (f11 b hb).1, w1⟩
          rintro k s12 ⟨j, H12, I12, st12, n12, w12⟩
          rcases turn1 j k H12 w12 with ⟨stop1, nx1⟩ | ⟨go1, Nx1, hNx1, step1⟩
          · refine thnF (T1.done (X.blk s3 H3 scope ce fp) rfl rfl rfl hc j _ s12 (wipe σ8 vs1) H12 (fun _ _ => False) I12 (stat1 n12) st12 stop1) fun r s13 ⟨hr, I13⟩ => ?_
            subst hr
            exact fin I13 (hl8.trans (wipe_length σ8 vs1).symm) hk9 nx1
          · refine thnF (T1.item (X.blk s3 H3 scope ce fp) rfl rfl rfl hc j _ s12 (wipe σ8 vs1) H12 (fun _ _ => False) I12 (stat1 n12) st12 go1) fun r s13 ⟨u1, hr, h13⟩ => ?_
            subst hr
            refine thnF h13 fun _ s14 ⟨x1, H14, I14, r14, y14, st14, n14⟩ => ?_
            have I14' := I14.pinned (stat1 n14) (T1.obj _ _ st14)
            refine thnF (pg1.run _ s14 (wipe σ8 vs1) H14 x1 u1 _ I14' r14 (step1 x1 H14 y14)) fun _ s15 ⟨σ15, H15, I15, hw15, q15⟩ => ?_
            refine thnF (pt1.run _ s15 σ15 H15 _ I15 q15) fun b1 s16 ⟨H16, I16, q16⟩ => ?_
            have fin1 : ∀ {s' : Shared} {H' : Hp}, Inv (X.blk s3 H3 scope ce fp) (([] ++ pinsAt fp s7.heap) ++ pinsAt fp1 s14.heap) σ15 H' s' → Nx1 H' → ∃ m, m < k ∧ ∃ j H', Inv (X.blk s3 H3 scope ce fp) ([] ++ pinsAt fp s7.heap) (wipe σ8 vs1) H' s' ∧ tn1 j s'.heap ∧ (∀ b ∈ fp1, H' b = none) ∧ W1 j m H' := fun {s' H'} I' nx => by
              obtain ⟨m', hm, w'⟩ := hNx1 H' nx
              have pin' : ∀ b ∈ fp1, ∀ o, s14.heap.get? b = some o → s'.heap.get? b = some o ∧ H' b = none := fun b hb o e =>
                let z := I'.pin (b, o) (List.mem_append_right _ (List.mem_append_right _ (mem_pinsAt hb e)))
                ⟨z.1, z.2.1⟩
              refine ⟨m', hm, j + 1, H', I'.unpinned.weak (by rw [← hw15, wipe_length]) (fun j v e => by rw [← hw15] at e; exact (wipe_some e).1), T1.keep _ _ _ st14 fun b hb o e => (pin' b hb o e).1, fun b hb => ?_, w'⟩
              obtain ⟨o, e, _⟩ := T1.obj _ _ st14 b hb
              exact (pin' b hb o e).2
            cases b1 with
            | false =>
              simp only [Bool.false_eq_true, if_false] at q16 ⊢
              exact fin1 I16 q16
            | true =>
              simp only [if_true] at q16 ⊢
              refine thnF (pe.run _ s16 σ15 H16 _ I16 q16) fun z s17 ⟨yv, H17, I17, r17, cb, k0, L0, ey, hk17, hD17, hL17, hz17, nx⟩ => ?_
              subst ey
              cases r17
              exact addT_ok (X := X.blk s3 H3 scope ce fp) hu I17 hk17 hD17 hL17 hz17 fun s18 L' e1 e2 I18 => fin1 I18 (nx L' e1 e2)
        exact compStartS1_ok loop1 (T1.self X.A 0 _ _ _ st11 loop1)
  exact PpSet.codeAny_compStart_set loop (T.self X.A 0 _ _ _ st4 loop)
/-- as a value -/
theorem pe_sc3 {elt tg iter tg1 iter1 : Expr} {ifs ifs1 : List Expr} {scope : Scope} {own : List (PySem.Str × Nat)} {vs1 : List Nat} {pos : Pos} {wi wi1 : TI} {g g1 : TG} {tt tt1 : TT} {te : TE} (hc : X.calm = true) (hu : X.A.units + 8 < cLine) (hN : X.N.Nodup) (hi : PI X tg iter wi) (ok : BlkOk X.N X.env.scope scope own) (hv : ∀ i ∈ vs1, i ∈ own.map (·.2))
    (hg : ∀ (s : Shared) (H : Hp) (C : Addr) (cl : List (PySem.Str × Addr)) (fp : List Addr), PG (X.blk s H scope (compEnvC scope cl C X.env) fp) tg g) (ht : ∀ (s : Shared) (H : Hp) (C : Addr) (cl : List (PySem.Str × Addr)) (fp : List Addr), PTs (X.blk s H scope (compEnvC scope cl C X.env) fp) ifs tt)
    (hi1 : ∀ (s : Shared) (H : Hp) (C : Addr) (cl : List (PySem.Str × Addr)) (fp : List Addr), PI (X.blk s H scope (compEnvC scope cl C X.env) fp) tg1 iter1 wi1)
    (hg1 : ∀ (s : Shared) (H : Hp) (C : Addr) (cl : List (PySem.Str × Addr)) (fp : List Addr), PG (X.blk s H scope (compEnvC scope cl C X.env) fp) tg1 g1) (ht1 : ∀ (s : Shared) (H : Hp) (C : Addr) (cl : List (PySem.Str × Addr)) (fp : List Addr), PTs (X.blk s H scope (compEnvC scope cl C X.env) fp) ifs1 tt1)
    (he : ∀ (s : Shared) (H : Hp) (C : Addr) (cl : List (PySem.Str × Addr)) (fp : List Addr), PE (X.blk s H scope (compEnvC scope cl C X.env) fp) elt te) (hs : ∀ x, foldedSetIterable iter X.env x = pure x) (hs1 : ∀ env x, foldedSetIterable iter1 env x = pure x) :
    PE X (.SetComp elt [⟨tg, iter, ifs, 0⟩, ⟨tg1, iter1, ifs1, 0⟩] scope pos) (tSc3 X.K X.prog X.w wi g tt wi1 g1 tt1 te (own.map (·.2)) vs1) := by
  refine ⟨fun pins s σ H Q I h => ?_⟩
  rw [PpSet.eval_SetComp]
  refine sc3_core hc hu hN I hi ok hv hg ht he hs hi1 hg1 ht1 hs1 h fun D C s' m H' I' q hn f => ⟨m, hn, fun h'' sb => ?_⟩
  obtain ⟨f0, f1, f2, f3, f4, f5⟩ := f
  exact ⟨.ref D, H', I'.turned (t' := s'.toks) (fun b o hb e => (sb.2 b hb).trans e) f0 f1 f3 f4 f5, rfl, q⟩
end
end DT
set_option maxRecDepth 100000
set_option maxHeartbeats 2000000
/-! DT: sorted({.. for .. for ..}), pairs of whole numbers. -/
namespace DI
open PySem L2 DC DT
theorem asPs_app : ∀ {a b : List D} {is : List (Int × Int)}, asPs (a ++ b) = some is → ∃ ia ib, asPs a = some ia ∧ asPs b = some ib ∧ is = ia ++ ib
  | [], b, is, h => ⟨[], is, rfl, h, rfl⟩
  | d :: r, b, is, h => by
    rw [List.cons_append] at h
    unfold asPs at h
    split at h
    · cases ‹_ :: _ = []›
    · rename_i x y r' e
      cases e
      obtain ⟨t, ht, rfl⟩ := mpd h
      obtain ⟨ia, ib, h1, h2, rfl⟩ := asPs_app ht
      exact ⟨(x, y) :: ia, ib, by simp [asPs, h1], h2, rfl⟩
    · cases h
theorem asPs_one {d : D} {ps : List (Int × Int)} (h : asPs [d] = some ps) : ∃ x y, d = .tuple [.int x, .int y] ∧ ps = [(x, y)] := by
  unfold asPs at h
  split at h
  · cases ‹_ :: _ = []›
  · rename_i x y r' e
    cases e
    simp [asPs] at h
    exact ⟨x, y, rfl, h.symm⟩
  · cases h
theorem pok_of {q : Int × Int} (h : pok q = true) : (0 ≤ q.1 ∧ q.1 < 1000000) ∧ 0 ≤ q.2 ∧ q.2 < 1000000 := by
  unfold pok at h
  have := of_decide_eq_true h
  omega
theorem pair_is {K : PySem.W.Frag} {H : Hp} {v : V} {x y : Int} (h : Is K H v (.tuple [.int x, .int y])) : ∃ a, v = .ref a ∧ SqT K H a ([x, y].map V.int) := by
  cases h with
  | tup h n r =>
    cases r with
    | cons r1 r2 =>
      cases r2 with
      | cons r3 r4 =>
        cases r1
        cases r3
        cases r4
        exact ⟨_, rfl, h⟩
theorem sqT_recut {K : PySem.W.Frag} {hide h : Addr → Prop} {own : List Nat} {σ : L2.St} {ρ : Env} {H : Hp} {x : Addr} {xs : List V} (R : ER K hide own H σ ρ) (w : ∀ b, hide b → h b) (q : SqT K (cut h H) x xs) : SqT K (cut (hd hide own σ) H) x xs := by
  have no : ∀ u, H x = some u → (∀ vs, u ≠ .lst vs) → (∀ vs, u ≠ .dK vs) → (∀ vs, u ≠ .dT vs) → ¬ h x → ¬ hd hide own σ x := fun u e n1 n2 n3 n z => by
    rcases z with z | ⟨i, hi, z⟩
    · exact n (w x z)
    · obtain ⟨a, d, _, h2, _, h4⟩ := R.ow i hi
      rw [h2] at z
      cases z
      rcases h4 with ⟨_, _, h5, _⟩ | ⟨_, _, h5, _⟩ | ⟨_, _, h5, _⟩ <;> rw [e] at h5 <;> cases h5
      · exact n1 _ rfl
      · exact n2 _ rfl
      · exact n3 _ rfl
  rcases q with (e | ⟨o, e⟩) | q
  · obtain ⟨n, e⟩ := cut_some e
    exact .inl (.inl (by rw [cut_no (no _ e (by simp) (by simp) (by simp) n)]; exact e))
  · obtain ⟨n, e⟩ := cut_some e
    exact .inl (.inr ⟨o, by rw [cut_no (no _ e (by simp) (by simp) (by simp) n)]; exact e⟩)
  · exact .inr q
/-- the set at D holds ps, each once -/
def Ht (K : PySem.W.Frag) (P : Program) (w : World) (N : Addr → Prop) (D : Addr) (H : Hp) (ps : List (Int × Int)) : Prop := ∃ L : List (Addr × List Int), H D = some (SetTO P w D L) ∧ (∀ p ∈ L, ∃ q ∈ ps, p.2 = [q.1, q.2] ∧ SqT K (cut N H) p.1 (p.2.map V.int)) ∧ (∀ q ∈ ps, [q.1, q.2] ∈ L.map (·.2)) ∧ L.length ≤ ps.length
section
variable {K : PySem.W.Frag} {P : Program} {w : World} {N : Addr → Prop} {D : Addr} {H H' : Hp} {ps : List (Int × Int)}
theorem Ht.dom (h : Ht K P w N D H ps) : H D ≠ none := by
  obtain ⟨L, e, _⟩ := h
  rw [e]; simp
theorem Ht.grow (s : Same H H') (h : Ht K P w N D H ps) : Ht K P w N D H' ps := by
  obtain ⟨L, e, h1, h2, h3⟩ := h
  exact ⟨L, s D _ e, fun p hp => by obtain ⟨q, h4, h5, h6⟩ := h1 p hp; exact ⟨q, h4, h5, SqT.mono (cut_same s) h6⟩, h2, h3⟩
theorem sqT_upd {x : Addr} {xs : List V} {L : List (Addr × List Int)} {u : HO} (hD : H D = some (SetTO P w D L)) (h : SqT K (cut N H) x xs) : SqT K (cut N (upd H D u)) x xs := by
  have ne : ∀ v, H x = some v → v ≠ SetTO P w D L → x ≠ D := fun v e n z => by rw [z, hD] at e; exact n (Option.some.inj e).symm
  rcases h with (e | ⟨o, e⟩) | q
  · obtain ⟨n, e⟩ := cut_some e
    exact .inl (.inl (by rw [cut_no n, upd_ne (ne _ e (by simp [SetTO]))]; exact e))
  · obtain ⟨n, e⟩ := cut_some e
    exact .inl (.inr ⟨o, by rw [cut_no n, upd_ne (ne _ e (by simp [SetTO]))]; exact e⟩)
  · exact .inr q
theorem Ht.add {L L' : List (Addr × List Int)} {x : Addr} {a b : Int} (hD : H D = some (SetTO P w D L)) (h1 : ∀ p ∈ L, ∃ q ∈ ps, p.2 = [q.1, q.2] ∧ SqT K (cut N H) p.1 (p.2.map V.int)) (h2 : ∀ q ∈ ps, [q.1, q.2] ∈ L.map (·.2)) (h3 : L.length ≤ ps.length)
    (hx : SqT K (cut N H) x ([a, b].map V.int)) (e1 : [a, b] ∈ L.map (·.2) → L' = L) (e2 : [a, b] ∉ L.map (·.2) → L'.Perm ((x, [a, b]) :: L)) : Ht K P w N D (upd H D (SetTO P w D L')) (ps ++ [(a, b)]) := by
  by_cases c : [a, b] ∈ L.map (·.2)
  · rw [e1 c]
    refine ⟨L, upd_same, fun p hp => ?_, fun q hq => ?_, by rw [List.length_append]; omega⟩
    · obtain ⟨q, h4, h5, h6⟩ := h1 p hp
      exact ⟨q, List.mem_append_left _ h4, h5, sqT_upd hD h6⟩
    · rcases List.mem_append.mp hq with hq | hq
      · exact h2 q hq
      · rw [List.mem_singleton] at hq
        subst hq
        exact c
  · have pm := e2 c
    refine ⟨L', upd_same, fun p hp => ?_, fun q hq => ?_, by rw [pm.length_eq, List.length_append]; simp; omega⟩
    · rcases List.mem_cons.mp (pm.mem_iff.mp hp) with rfl | hp
      · exact ⟨(a, b), by simp, rfl, sqT_upd hD hx⟩
      · obtain ⟨q, h4, h5, h6⟩ := h1 p hp
        exact ⟨q, List.mem_append_left _ h4, h5, sqT_upd hD h6⟩
    · refine (pm.map (·.2)).mem_iff.mpr ?_
      rcases List.mem_append.mp hq with hq | hq
      · exact List.mem_cons_of_mem _ (h2 q hq)
      · rw [List.mem_singleton] at hq
        subst hq
        exact List.mem_cons_self
end
theorem code2 (x y : Int) : TS.code 1000000 [x, y] = x * 1000000 + y := by
  have e1 : (1000000 : Int) ^ 1 = 1000000 := by decide
  have e0 : (1000000 : Int) ^ 0 = 1 := by decide
  show x * 1000000 ^ 1 + (y * 1000000 ^ 0 + 0) = x * 1000000 + y
  rw [e1, e0, Int.mul_one, Int.add_zero]
def pback (c : Int) : D := .tuple [.int (c / 1000000), .int (c % 1000000)]
theorem isAll_pairs {K : PySem.W.Frag} {H : Hp} : ∀ {L : List (Addr × List Int)}, (∀ p ∈ L, ∃ q : Int × Int, pok q = true ∧ p.2 = [q.1, q.2] ∧ SqT K H p.1 (p.2.map V.int)) → IsAll K H (L.map fun q => V.ref q.1) ((L.map fun p => TS.code 1000000 p.2).map pback)
  | [], _ => .nil
  | p :: L, h => by
    obtain ⟨q, h1, h2, h3⟩ := h p List.mem_cons_self
    refine .cons ?_ (isAll_pairs fun p hp => h p (List.mem_cons_of_mem _ hp))
    have b := pok_of h1
    show Is K H (V.ref p.1) (pback (TS.code 1000000 p.2))
    rw [h2] at h3 ⊢
    rw [code2]
    have e1 : (q.1 * 1000000 + q.2) / 1000000 = q.1 := by omega
    have e2 : (q.1 * 1000000 + q.2) % 1000000 = q.2 := by omega
    unfold pback
    rw [e1, e2]
    exact .tup h3 (by show 2 ≤ _; decide) (ints_isAll [q.1, q.2])
theorem sorted_is {K : PySem.W.Frag} {hide : Addr → Prop} {own : List Nat} {σ : L2.St} {H : Hp} {ps : List (Int × Int)} {L L' : List (Addr × List Int)} (hp : ps.all pok = true) (h1 : ∀ p ∈ L, ∃ q ∈ ps, p.2 = [q.1, q.2] ∧ SqT K (cut (hd hide own σ) H) p.1 (p.2.map V.int)) (h2 : ∀ q ∈ ps, [q.1, q.2] ∈ L.map (·.2))
    (pm : L'.Perm L) (nd : (L'.map (·.2)).Nodup) (pw : L'.Pairwise (fun q r => TS.code 1000000 q.2 ≤ TS.code 1000000 r.2)) : IsAll K (cut (hd hide own σ) H) (L'.map fun q => V.ref q.1) ((ssort (ps.map pcode)).map pback) := by
  have h1' : ∀ p ∈ L', ∃ q : Int × Int, pok q = true ∧ p.2 = [q.1, q.2] ∧ SqT K (cut (hd hide own σ) H) p.1 (p.2.map V.int) := fun p hp' => by
    obtain ⟨q, h3, h4, h5⟩ := h1 p (pm.mem_iff.mp hp')
    exact ⟨q, List.all_eq_true.mp hp q h3, h4, h5⟩
  have e : ssort (ps.map pcode) = L'.map fun p => TS.code 1000000 p.2 := by
    refine pw_unique (ssort_pw _) ?_ fun k => ?_
    · rw [List.pairwise_map]
      have nd' : L'.Pairwise fun q r => q.2 ≠ r.2 := List.pairwise_map.mp nd
      have z := pw.and nd'
      refine List.Pairwise.imp_of_mem (fun {q r} hq hr z => ?_) z
      obtain ⟨q', b1, e1, _⟩ := h1' q hq
      obtain ⟨r', b2, e2, _⟩ := h1' r hr
      have b1 := pok_of b1
      have b2 := pok_of b2
      obtain ⟨z1, z2⟩ := z
      rw [e1, e2, code2, code2] at z1
      rw [e1, e2] at z2 ⊢
      rw [code2, code2]
      rcases Int.lt_or_eq_of_le z1 with z | z
      · exact z
      · exact absurd (by have : q'.1 = r'.1 := by omega
                         have : q'.2 = r'.2 := by omega
                         simp [*]) z2
    · rw [mem_ssort, List.mem_map, List.mem_map]
      constructor
      · rintro ⟨q, hq, rfl⟩
        obtain ⟨p, hp2, e2⟩ := List.mem_map.mp (h2 q hq)
        refine ⟨p, pm.mem_iff.mpr hp2, ?_⟩
        rw [e2, code2]
        rfl
      · rintro ⟨p, hp2, rfl⟩
        obtain ⟨q, h3, h4, _⟩ := h1 p (pm.mem_iff.mp hp2)
        exact ⟨q, h3, by rw [h4, code2]; rfl⟩
  rw [e]
  exact isAll_pairs h1'
section
variable {T : Nat → List D → Option D} {M : List Nat}
theorem sc3_imp {K : PySem.W.Frag} {P : Program} {w : World} {ce : CE} {pat pat1 : Pat} {ci ci1 : CI} {cifs cifs1 : CEs} {vs vs1 : List Nat} (hm : ∀ i ∈ vs, i ∉ M) (hp : ∀ i ∈ pat.slots, i ∈ vs) (hp1 : ∀ i ∈ pat1.slots, i ∈ vs1) (hv : ∀ i ∈ vs1, i ∈ vs) (σ : L2.St) (H : Hp) (Q : VK)
    (h : tE K T M (.sc3 ce pat ci cifs pat1 ci1 cifs1 vs vs1) σ H Q) :
    tSc3 K P w (tI K T M ci) (tG K pat) (tTs K T M cifs) (tI K T M ci1) (tG K pat1) (tTs K T M cifs1) (tE K T M ce) vs vs1 σ H (fun v H1 => rSortedT K P w [v] H1 Q) := by
  obtain ⟨hide, own, ρ, d, R, m, e, k⟩ := h
  simp only [ev] at e
  obtain ⟨x, ex, e⟩ := bnd e
  obtain ⟨ds, eds, ex⟩ := bnd ex
  obtain ⟨out, eo, rfl⟩ := mpd ex
  obtain ⟨out', eo', eo⟩ := bnd eo
  have eo' : compLL (turnD T ce pat cifs pat1 ci1 cifs1 vs vs1 ρ) ds = some out' := eo'
  split at eo; rotate_left; · cases eo
  simp only [Option.some.injEq] at eo
  subst eo
  simp only [tsetD] at e
  obtain ⟨is, eis, e⟩ := bnd e
  split at e; rotate_left; · cases e
  rename_i h64
  obtain ⟨h64, hpok⟩ := h64
  simp only [Option.some.injEq] at e
  subst e
  have room : ∀ {a b c : List (Int × Int)}, is = a ++ b ++ c → (a ++ b).length < 64 := fun {a b c} z => by rw [z, List.length_append] at h64; omega
  refine ⟨hide, own, ρ, ds, R, m, eds, fun J H1 s1 jok hz => fun D nD => ?_⟩
  have R1 := (R.grow s1).freeze (own' := diff own (alie ci)) diff_own
  have m1 : ∀ i ∈ diff own (alie ci), i ∈ M := fun i hi => m i (diff_own i hi)
  generalize ho : diff own (alie ci) = own1 at jok R1 m1
  have dv : ∀ i ∈ own1, i ∉ vs := fun i hi hv => hm i hv (m1 i hi)
  let hD : Addr → Prop := fun b => hide b ∨ b = D
  have pre : ∀ i, i ≤ ds.length → ∃ oa ob ia ib, compLL (turnD T ce pat cifs pat1 ci1 cifs1 vs vs1 ρ) (ds.take i) = some oa ∧ compLL (turnD T ce pat cifs pat1 ci1 cifs1 vs vs1 ρ) (ds.drop i) = some ob ∧ asPs oa = some ia ∧ asPs ob = some ib ∧ is = ia ++ ib := fun i hi => by
    have eo2 := eo'
    rw [← List.take_append_drop i ds] at eo2
    obtain ⟨oa, ob, h1, h2, h3⟩ := compLL_app eo2
    rw [h3] at eis
    obtain ⟨ia, ib, h4, h5, h6⟩ := asPs_app eis
    exact ⟨oa, ob, ia, ib, h1, h2, h4, h5, h6⟩
  refine ⟨fun i n H' => n = ds.length - i ∧ i ≤ ds.length ∧ Same H1 H' ∧ ∃ outd isd, compLL (turnD T ce pat cifs pat1 ci1 cifs1 vs vs1 ρ) (ds.take i) = some outd ∧ asPs outd = some isd ∧ Ht K P w (hd hide own σ) D H' isd,
    ⟨ds.length, by simp, Nat.zero_le _, same_upd_new nD, [], [], by simp [compLL], by simp [asPs], [], upd_same, by simp, by simp, Nat.le_refl _⟩, ?_⟩
  rintro i n H' ⟨rfl, hi, s2, outd, isd, hco, hai, hT⟩
  have RD : ER K hD own1 H' σ ρ := R1.hide1 nD s2 hT.dom
  have sF : Same (cut (hd hide own1 σ) H1) (cut (hd hD own1 σ) H') := cut_same2 s2 fun b z => by
    rcases z with (z | z) | z
    · exact .inl (.inl z)
    · exact .inr (z ▸ nD)
    · exact .inl (.inr z)
  obtain ⟨jgo, jstop⟩ := jok i H' (hd hD own1 σ) (cut_le.trans s2) sF (fun b z => by
    rcases z with z | z
    · exact RD.hid b z
    · intro hn
      exact RD.nroot hn (fun i h => h) (.inr z))
  by_cases hlt : i < ds.length
  · obtain ⟨go, yld⟩ := jgo hlt
    refine .inr ⟨go, fun H'' => Same H1 H'' ∧ ∃ outd isd, compLL (turnD T ce pat cifs pat1 ci1 cifs1 vs vs1 ρ) (ds.take (i + 1)) = some outd ∧ asPs outd = some isd ∧ Ht K P w (hd hide own σ) D H'' isd, fun H'' ⟨q1, q2⟩ => ⟨ds.length - (i + 1), by omega, rfl, hlt, q1, q2⟩, fun x H2 y => ?_⟩
    obtain ⟨s3, di, edi, ix⟩ := yld x H2 y
    have tk : ds.take (i + 1) = ds.take i ++ [di] := by rw [List.take_add_one, edi]; rfl
    -- what this turn gives
    obtain ⟨oa, ob, ia, ib, p1, p2, p3, p4, p5⟩ := pre (i + 1) hlt
    rw [tk] at p1
    obtain ⟨oa1, ot, p6, p7, p8⟩ := compLL_app p1
    rw [hco] at p6
    cases p6
    rw [p8] at p3
    obtain ⟨ia1, it, p9, p10, p11⟩ := asPs_app p3
    rw [hai] at p9
    cases p9
    simp only [compLL] at p7
    obtain ⟨ot', eo1, p12⟩ := bnd p7
    simp only [Option.map_some, Option.some.injEq, List.append_nil] at p12
    subst p12
    subst p11
    have hfin : ∀ {H3 : Hp}, Same H1 H3 → Ht K P w (hd hide own σ) D H3 (isd ++ it) → Same H1 H3 ∧ ∃ outd isd, compLL (turnD T ce pat cifs pat1 ci1 cifs1 vs vs1 ρ) (ds.take (i + 1)) = some outd ∧ asPs outd = some isd ∧ Ht K P w (hd hide own σ) D H3 isd := fun {H3} q1 q2 => ⟨q1, _, _, by rw [tk]; exact p1, by rw [p8]; exact p3, q2⟩
    obtain ⟨ρ', eb, eo2⟩ := bnd (show (bindP pat di (wipeD ρ vs)).bind _ = some _ from eo1)
    obtain ⟨cc, ec, eo3⟩ := bnd eo2
    have RW : ER K hD own1 H2 (wipe σ vs) (wipeD ρ vs) := (RD.grow s3).wiped dv
    have hh0 : hd hD own1 (wipe σ vs) = hd hD own1 σ := hd_agree wipe_agree dv
    refine ⟨cut (hd hD own1 (wipe σ vs)) H2, di, cut_le, by rw [hh0]; exact ix, bindP_ok eb, fun σ2 bd => ?_⟩
    have ag := Bnd.agree (vs := vs) bd hp
    have R2 : ER K hD own1 H2 σ2 ρ' := ER.bind bd RW (fun j hj z => dv j z (hp j hj)) rfl eb
    have ag2 : Agree vs σ σ2 := wipe_agree.trans ag
    refine ⟨wipe_eq ag2, hD, own1, ρ', cc, R2, m1, ec, fun H3 s4 => ?_⟩
    have s13 : Same H1 H3 := (s2.trans s3).trans s4
    cases cc with
    | false =>
      rw [if_neg Bool.false_ne_true] at eo3
      refine iteF ?_
      have e5 : ot' = [] := (Option.some.inj eo3).symm
      subst e5
      simp only [asPs, Option.some.injEq] at p10
      subst p10
      exact hfin s13 (by simpa using hT.grow (s3.trans s4))
    | true =>
      rw [if_pos rfl] at eo3
      refine iteT ?_
      obtain ⟨es, ees, eo4⟩ := bnd eo3
      refine ⟨hD, own1, ρ', es, R2.grow s4, m1, ees, fun J1 H4 s5 jok1 hz1 => ?_⟩
      have s14 : Same H1 H4 := s13.trans s5
      have R4 := ((R2.grow s4).grow s5).freeze (own' := diff own1 (alie ci1)) diff_own
      have m2 : ∀ i ∈ diff own1 (alie ci1), i ∈ M := fun i hi => m1 i (diff_own i hi)
      generalize ho2 : diff own1 (alie ci1) = own2 at jok1 R4 m2
      have dv2 : ∀ i ∈ own2, i ∉ vs1 := fun i hi z => hm i (hv i z) (m2 i hi)
      generalize hg : (fun d => (bindP pat1 d (wipeD ρ' vs1)).bind fun ρ'' => (evt T cifs1 ρ'').bind fun c => if c = true then (ev T ce ρ'').map some else some none) = g at eo4
      refine ⟨fun j k H => k = es.length - j ∧ j ≤ es.length ∧ (Same (cut (fun b => b = D) H4) (cut (fun b => b = D) H)) ∧ Same H1 H ∧ ∃ outd1 isd1, compL g (es.take j) = some outd1 ∧ asPs outd1 = some isd1 ∧ Ht K P w (hd hide own σ) D H (isd ++ isd1), ⟨es.length, by simp, Nat.zero_le _, Same.refl _, s14, [], [], by simp [compL], by simp [asPs], by simpa using hT.grow ((s3.trans s4).trans s5)⟩, ?_⟩
      rintro j k5 H5 ⟨rfl, hj, sc, s15, outd1, isd1, hco1, hai1, hT1⟩
      have hDD : ∀ b, b = D → hD b := fun b z => .inr z
      have R5 : ER K hD own2 H5 σ2 ρ' := R4.hid_mono sc hDD (fun b z => by rw [z]; exact hT1.dom)
      have sf5 : Same (cut (hd hD own2 σ2) H4) (cut (hd hD own2 σ2) H5) := cut_ext (fun b z => .inl (hDD b z)) sc
      have sg5 : Same (cut (hd hD (diff own1 (ali ci1)) σ2) H4) H5 := (cut_ext (fun b z => .inl (hDD b z)) sc).trans cut_le
      obtain ⟨jgo1, jstop1⟩ := jok1 j H5 (hd hD own2 σ2) sg5 sf5 (fun b z => by
        rcases z with z | z
        · exact R5.hid b z
        · intro hn
          exact R5.nroot hn (fun i h => h) (.inr z))
      by_cases hlt1 : j < es.length
      · obtain ⟨go1, yld1⟩ := jgo1 hlt1
        refine .inr ⟨go1, fun H => Same (cut (fun b => b = D) H4) (cut (fun b => b = D) H) ∧ Same H1 H ∧ ∃ outd1 isd1, compL g (es.take (j + 1)) = some outd1 ∧ asPs outd1 = some isd1 ∧ Ht K P w (hd hide own σ) D H (isd ++ isd1), fun H ⟨q1, q2, q3⟩ => ⟨es.length - (j + 1), by omega, rfl, hlt1, q1, q2, q3⟩, fun x1 H6 y1 => ?_⟩
        obtain ⟨s6, dj, edj, ix1⟩ := yld1 x1 H6 y1
        have tk1 : es.take (j + 1) = es.take j ++ [dj] := by rw [List.take_add_one, edj]; rfl
        have eo5 := eo4
        rw [← List.take_append_drop (j + 1) es] at eo5
        obtain ⟨oa2, ob2, q1, q2, q3⟩ := compL_app eo5
        rw [tk1] at q1
        obtain ⟨oa3, ot2, q4, q5, q6⟩ := compL_app q1
        rw [hco1] at q4
        cases q4
        rw [q3, q6] at p10
        obtain ⟨ia2, ib2, q7, q8, q9⟩ := asPs_app p10
        have q7' := q7
        obtain ⟨ia3, it2, q10, q11, q12⟩ := asPs_app q7
        rw [hai1] at q10
        cases q10
        subst q12
        have hroom : (isd ++ isd1).length < 64 := room (a := isd) (b := isd1) (c := it2 ++ ib2 ++ ib) (by rw [p5, q9]; simp)
        simp only [compL] at q5
        obtain ⟨o2, go2, q13⟩ := bnd q5
        simp only [Option.map_some, Option.some.injEq] at q13
        rw [← hg] at go2
        obtain ⟨ρ2, eb1, go3⟩ := bnd go2
        obtain ⟨cc1, ec1, go4⟩ := bnd go3
        have hfin1 : ∀ {H : Hp}, Same (cut (fun b => b = D) H4) (cut (fun b => b = D) H) → Same H1 H → Ht K P w (hd hide own σ) D H (isd ++ (isd1 ++ it2)) → Same (cut (fun b => b = D) H4) (cut (fun b => b = D) H) ∧ Same H1 H ∧ ∃ outd1 isd1, compL g (es.take (j + 1)) = some outd1 ∧ asPs outd1 = some isd1 ∧ Ht K P w (hd hide own σ) D H (isd ++ isd1) := fun {H} z1 z2 z3 => ⟨z1, z2, _, _, by rw [tk1]; exact q1, by rw [q6]; exact q7', z3⟩
        have RW1 : ER K hD own2 H6 (wipe σ2 vs1) (wipeD ρ' vs1) := (R5.grow s6).wiped dv2
        have hh1 : hd hD own2 (wipe σ2 vs1) = hd hD own2 σ2 := hd_agree wipe_agree dv2
        refine ⟨cut (hd hD own2 (wipe σ2 vs1)) H6, dj, cut_le, by rw [hh1]; exact ix1, bindP_ok eb1, fun σ3 bd1 => ?_⟩
        have ag3 := Bnd.agree (vs := vs1) bd1 hp1
        have R6 : ER K hD own2 H6 σ3 ρ2 := ER.bind bd1 RW1 (fun j hj z => dv2 j z (hp1 j hj)) rfl eb1
        refine ⟨wipe_eq (wipe_agree.trans ag3), hD, own2, ρ2, cc1, R6, m2, ec1, fun H7 s7 => ?_⟩
        have s57 : Same H5 H7 := s6.trans s7
        cases cc1 with
        | false =>
          rw [if_neg Bool.false_ne_true] at go4
          refine iteF ?_
          have e7 : o2 = none := (Option.some.inj go4).symm
          subst e7
          subst q13
          simp only [asPs, Option.some.injEq] at q11
          subst q11
          exact hfin1 (sc.trans (cut_same s57)) (s15.trans s57) (by simpa using hT1.grow s57)
        | true =>
          rw [if_pos rfl] at go4
          refine iteT ?_
          obtain ⟨yd, ey, e8⟩ := mpd go4
          subst e8
          subst q13
          have hyd : asPs [yd] = some it2 := q11
          obtain ⟨z0, z1, rfl, rfl⟩ := asPs_one hyd
          have hroom1 : (isd ++ isd1).length + 1 < 64 := by
            have := room (a := isd ++ isd1) (b := [(z0, z1)]) (c := ib2 ++ ib) (by rw [p5, q9]; simp)
            rwa [List.length_append] at this
          refine ⟨hD, own2, ρ2, .tuple [.int z0, .int z1], R6.grow s7, m2, ey, fun y H8 s8 r8 => ?_⟩
          have s58 : Same H5 H8 := s57.trans s8
          have s18 : Same H1 H8 := s15.trans s58
          obtain ⟨x8, rfl, h8⟩ := pair_is r8.is
          have h8c : SqT K (cut (hd hide own σ) H8) x8 ([z0, z1].map V.int) := sqT_recut ((R.grow s1).grow s18) (fun b z => .inl (.inl z)) h8
          have hT8 := hT1.grow s58
          obtain ⟨L8, hD8, hL8, hm8, hc8⟩ := hT8
          refine ⟨x8, [z0, z1], L8, rfl, SqT.mono cut_le h8c, hD8, fun p hp => by obtain ⟨q, _, _, e⟩ := hL8 p hp; exact SqT.mono cut_le e, Nat.lt_of_le_of_lt (Nat.succ_le_succ hc8) hroom1, fun L' e1 e2 => hfin1 ?_ ?_ ?_⟩
          · exact (sc.trans (cut_same s58)).trans (cut_upd rfl)
          · intro b ob hb
            rw [upd_ne (ne_of_none hb nD)]
            exact s18 b ob hb
          · rw [← List.append_assoc]
            exact Ht.add hD8 hL8 hm8 hc8 h8c e1 e2
      · have hin1 : j = es.length := by omega
        refine .inl ⟨jstop1 (by omega), hfin s15 ?_⟩
        rw [hin1, List.take_length, eo4] at hco1
        cases hco1
        rw [p10] at hai1
        cases hai1
        exact hT1
  · have hin : i = ds.length := by omega
    have e6 : isd = is := by
      rw [hin, List.take_length, eo'] at hco
      cases hco
      rw [eis] at hai
      cases hai
      rfl
    subst e6
    obtain ⟨L, hDL, hL, hm2, hc2⟩ := hT
    have okq : ∀ p ∈ L, p.2.length = 2 ∧ TS.Bd 1000000 p.2 := fun p hp => by
      obtain ⟨q, hq, e, _⟩ := hL p hp
      have := pok_of (List.all_eq_true.mp hpok q hq)
      rw [e]
      exact ⟨rfl, by intro m hm; simp at hm; omega⟩
    refine .inl ⟨jstop (by omega), D, L, 2, 1000000, rfl, hDL, fun p hp => by obtain ⟨q, _, _, e⟩ := hL p hp; exact SqT.mono cut_le e, by decide, okq, fun L' p pm nd hlen pw np => ?_⟩
    have s3 := s1.trans s2
    refine k _ _ (s3.trans (same_upd_new np)) (Res.newl (by simp only [al, ale]) (R.grow s3) s3 np (by rw [List.length_map]; exact Nat.le_trans (Nat.le_of_lt hlen) (by decide)) ?_)
    have := sorted_is (σ := σ) (hide := hide) (own := own) (K := K) (H := H') hpok hL hm2 pm nd pw
    exact this.mono (cut_anti (hd_anti diff_own))
theorem se_sc3 {X : Cx} {tg iter tg1 iter1 elt : Expr} {p0 pos pos0 : Pos} {ifs ifs1 : List Expr} {scope : Scope} {own0 : List (Str × Nat)} {ce : CE} {pat pat1 : Pat} {ci ci1 : CI} {cifs cifs1 : CEs} {vs vs1 : List Nat} (hvs : own0.map (·.2) = vs) (hc : X.calm = true) (hu : X.A.units + 70 < cLine) (hN : X.N.Nodup)
    (g1 : Gl X "sorted") (m1 : X.mg "sorted" = none) (b1 : bootBuiltins "sorted" = some (.builtin "sorted")) (hi : SI X T M tg iter ci) (ok : BlkOk X.N X.env.scope scope own0)
    (hg : ∀ (s : Shared) (H : Hp) (C : Addr) (cl : List (Str × Addr)) (fp : List Addr), SP (X.blk s H scope (compEnvC scope cl C X.env) fp) tg pat)
    (ht : ∀ (s : Shared) (H : Hp) (C : Addr) (cl : List (Str × Addr)) (fp : List Addr), STs (X.blk s H scope (compEnvC scope cl C X.env) fp) T M ifs cifs)
    (hi1 : ∀ (s : Shared) (H : Hp) (C : Addr) (cl : List (Str × Addr)) (fp : List Addr), SI (X.blk s H scope (compEnvC scope cl C X.env) fp) T M tg1 iter1 ci1)
    (hg1 : ∀ (s : Shared) (H : Hp) (C : Addr) (cl : List (Str × Addr)) (fp : List Addr), SP (X.blk s H scope (compEnvC scope cl C X.env) fp) tg1 pat1)
    (ht1 : ∀ (s : Shared) (H : Hp) (C : Addr) (cl : List (Str × Addr)) (fp : List Addr), STs (X.blk s H scope (compEnvC scope cl C X.env) fp) T M ifs1 cifs1)
    (he : ∀ (s : Shared) (H : Hp) (C : Addr) (cl : List (Str × Addr)) (fp : List Addr), SE (X.blk s H scope (compEnvC scope cl C X.env) fp) T M elt ce) (hs : ∀ x, foldedSetIterable iter X.env x = pure x) (hs1 : ∀ env x, foldedSetIterable iter1 env x = pure x)
    (hm : ∀ i ∈ vs, i ∉ M) (hp : ∀ i ∈ pat.slots, i ∈ vs) (hp1 : ∀ i ∈ pat1.slots, i ∈ vs1) (hv : ∀ i ∈ vs1, i ∈ vs) :
    SE X T M (.Call (.Name "sorted" p0) [.SetComp elt [⟨tg, iter, ifs, 0⟩, ⟨tg1, iter1, ifs1, 0⟩] scope pos] [] pos0) (.sc3 ce pat ci cifs pat1 ci1 cifs1 vs vs1) := by
  subst hvs
  exact PE.imp (pe_callB (cr_sortedT hc) g1 m1 b1 (pa_cons (DT.pe_sc3 (wi := tI X.K T M ci) (g := tG X.K pat) (tt := tTs X.K T M cifs) (wi1 := tI X.K T M ci1) (g1 := tG X.K pat1) (tt1 := tTs X.K T M cifs1) (te := tE X.K T M ce) hc (by omega) hN hi ok hv hg ht hi1 hg1 ht1 he hs hs1) pa_nil rfl) (by decide) (by decide) rfl rfl) fun σ H Q h => sc3_imp hm hp hp1 hv σ H Q h
end
end DI
set_option maxRecDepth 100000
set_option maxHeartbeats 1000000
/-! DV: min(xs, default=None). -/
namespace DI
open PySem L2
section
variable {X : Cx} {T : Nat → List D → Option D} {M : List Nat} {a b : Expr} {ca cb : CE} {p kp pos : Pos}
theorem cr_minK (hc : X.calm = true) (hu : X.A.units + 70 < cLine) : CallRK X (.builtin "min") [Str.ofString "default"] (fun xs zs H Q => ∃ a vs ds, xs = [V.ref a] ∧ zs = [V.non] ∧ SqL X.K H a vs ∧ IsAll X.K H vs ds ∧ (ds = [] ∨ alikes ds = true) ∧ (ds = [] → Q .non H) ∧ ∀ (w : V) (d : D) (ds' : List D) (i : Nat), ds = d :: ds' → vs[i]? = some w → ds[i]? = some (PySem.W.minD d ds') → Q w H) := by
  intro pins s σ H xs zs us ws Q I r rz h
  obtain ⟨a, vs, ds, rfl, rfl, hs, hr, ha, q0, q⟩ := h
  obtain ⟨u, rfl, ru⟩ := vals1 r
  cases ru
  obtain ⟨u, rfl, ru⟩ := vals1 rz
  cases ru
  have hal : PySem.W.AlikeAll ds ∧ PyData.depthAll ds ≤ 60 := by
    rcases ha with rfl | ha
    · exact alikes_of (by decide)
    · exact alikes_of ha
  obtain ⟨ha, hdp⟩ := hal
  obtain ⟨its, rv, hl, _⟩ := I.list hs
  obtain ⟨as, ra⟩ := IsAll.reads I (Same.refl H) (ndAll_of fun x hx => nd_alike (ha.1 x hx x hx)) hr rv
  refine PySem.W.min_list_default (I.ok.hd hc) hl.isList (by simpa using ra) ha (by omega) (fun hz h' tk hk => ?_) fun y ys i v h' tk bs hy hi rd hk => ?_
  · exact ⟨.non, H, I.kept (h' := h') (t' := tk) hk, rfl, q0 hz⟩
  · subst hy
    obtain ⟨w, rw', iw, j, e1, e2⟩ := best_ok I rv hr ha hi rd (fold_mem (f := fun a y => PySem.W.dataLt y a)) hk
    exact ⟨w, H, I.kept (h' := h') (t' := tk) hk, rw', q w _ _ j rfl e1 e2⟩
theorem se_minD (hc : X.calm = true) (hu : X.A.units + 70 < cLine) (g : Gl X "min") (m0 : X.mg "min" = none) (b0 : bootBuiltins "min" = some (.builtin "min")) (st : starEach [a] X.env = [(false, eval a X.env)]) (ha : SE X T M a ca) (hb : SE X T M b cb) :
    SE X T M (.Call (.Name "min" p) [a] [⟨some (Str.ofString "default"), b, kp⟩] pos) (.p2 .minD ca cb) :=
  PE.imp (pe_callBK (cr_minK hc hu) g m0 b0 (pa_cons ha pa_nil st) (pk_cons hb pk_nil) (by decide) (by decide) (by rw [st]; rfl) (by rw [st]; rfl)) fun σ H Q ⟨hide, own, ρ, d, R, m, e, k⟩ => by
    simp only [ev] at e
    obtain ⟨x, ex, e1⟩ := bnd e
    obtain ⟨y, ey, e2⟩ := bnd e1
    refine ⟨hide, own, ρ, x, R, m, ex, fun v H1 s1 r1 => ⟨hide, own, ρ, y, R.grow s1, m, ey, fun u H2 s2 r2 => ?_⟩⟩
    cases x with
    | list xs =>
      cases y with
      | none =>
        have i2 := r2.is
        cases i2
        obtain ⟨p, vs, rfl, h1, n1, q1⟩ := r1.elH
        refine ⟨p, vs, xs, rfl, rfl, ?_, (q1.mono cut_le).mono s2, ?_, fun hz => ?_, fun w d' ds' i hz e3 e4 => ?_⟩
        · exact s2.seq h1
        · cases xs with
          | nil => exact .inl rfl
          | cons d0 ds0 =>
            simp only [p2D] at e2
            split at e2
            · rename_i hz; exact .inr hz
            · cases e2
        · subst hz
          simp only [p2D, Option.some.injEq] at e2
          subst e2
          exact k _ _ (s1.trans s2) (.scal rfl (.non (K := X.K) (H := H2)))
        · subst hz
          simp only [p2D] at e2
          split at e2
          · cases e2
            obtain ⟨d2, e5, i5⟩ := q1.at' e3
            rw [e4] at e5; cases e5
            refine k _ _ (s1.trans s2) (.of_is (by simp only [al, ale]) rfl (i5.mono (hmono (fun i hi => by simp only [al]; exact List.mem_append_left _ hi) s2)))
          · cases e2
      | _ => simp [p2D] at e2
    | _ => simp [p2D] at e2
end
end DI
set_option maxRecDepth 100000
set_option maxHeartbeats 1000000
/-! DI: a compact text matches the model's own. -/
namespace DI
open PySem L2
section
variable {X : Cx} {T : Nat → List D → Option D} {M : List Nat} {L : Option (List Nat)} {own own' : List Nat} {e a b : Expr} {ca cb cc c : CE} {pos : Pos}
/-! ### a, b = x, y -/
theorem asg_fin {K : PySem.W.Frag} {p : Pat} {A : List Nat} {hide : Addr → Prop} {H0 H H1 : Hp} {σ σ' : L2.St} {ρ ρ' : Env} {d : D} {D : Ends} (S : RS K M hide own H0 H σ ρ) (s : Same H H1) (eb : bindP p d ρ = some ρ') (bd : Bnd K (cut (hd hide (diff (diff own A) p.slots) σ) H1) p d σ σ')
    (k : OutOk K M hide own (diff (diff own A) p.slots) L H0 H σ D (.nx ρ')) : D.nx σ' H1 := by
  have w : ∀ i ∈ diff (diff own A) p.slots, i ∈ own := fun i hi => diff_own i (diff_own i hi)
  have wp : ∀ i ∈ diff (diff own A) p.slots, i ∉ p.slots := fun i hi => (mem_diff.mp hi).2
  have S1 := S.step s w
  have ag := Bnd.agree (vs := p.slots) bd fun i hi => hi
  have hh := hd_agree (hide := hide) ag wp
  refine k σ' H1 ⟨ER.bind bd S1.er (fun i hi z => wp i z hi) rfl eb, S1.m, S1.same, S1.hid0, fun i hi a e => S1.new i hi a (by rw [← ag.2 i (wp i hi)]; exact e)⟩ ?_
  rw [hh]
  exact fro s w
theorem par_imp2 {K : PySem.W.Frag} {i j : Nat} {es : CEs} {D : Ends} {σ : L2.St} {H : Hp} (h : tS K T M L own (diff (diff own (al (.tup es))) (Pat.t (.cons (.v i) (.cons (.v j) .nil))).slots) (.asg (.t (.cons (.v i) (.cons (.v j) .nil))) (.tup es)) D σ H) : tPar i j (tA K T M es) D σ H := by
  obtain ⟨hide, H0, ρ, n, out, S, e, k⟩ := h
  simp only [exS] at e
  obtain ⟨d, ed, e1⟩ := bnd e
  obtain ⟨ρ', eb, rfl⟩ := mpd e1
  simp only [ev] at ed
  obtain ⟨ds, eds, rfl⟩ := mpd ed
  refine ⟨hide, own, ρ, ds, S.er, S.m, eds, fun vs H1 s r => ?_⟩
  have hl := okPs_len (by simpa only [okP] using bindP_ok eb)
  simp only [Pat.length] at hl
  match ds, hl with
  | [d1, d2], _ =>
    match vs, r with
    | [v1, v2], .cons r1 (.cons r2 .nil) =>
      refine ⟨v1, v2, rfl, asg_fin S s eb (.t (.cons (.v ?_) (.cons (.v ?_) .nil))) k⟩
      · exact r1.mono (cut_anti (hd_anti (by simpa only [al] using diff_own)))
      · exact r2.mono (cut_anti (hd_anti (by simpa only [al] using diff_own)))
theorem par_imp3 {K : PySem.W.Frag} {i j l : Nat} {es : CEs} {D : Ends} {σ : L2.St} {H : Hp} (h : tS K T M L own (diff (diff own (al (.tup es))) (Pat.t (.cons (.v i) (.cons (.v j) (.cons (.v l) .nil)))).slots) (.asg (.t (.cons (.v i) (.cons (.v j) (.cons (.v l) .nil)))) (.tup es)) D σ H) : tPar3 i j l (tA K T M es) D σ H := by
  obtain ⟨hide, H0, ρ, n, out, S, e, k⟩ := h
  simp only [exS] at e
  obtain ⟨d, ed, e1⟩ := bnd e
  obtain ⟨ρ', eb, rfl⟩ := mpd e1
  simp only [ev] at ed
  obtain ⟨ds, eds, rfl⟩ := mpd ed
  refine ⟨hide, own, ρ, ds, S.er, S.m, eds, fun vs H1 s r => ?_⟩
  have hl := okPs_len (by simpa only [okP] using bindP_ok eb)
  simp only [Pat.length] at hl
  match ds, hl with
  | [d1, d2, d3], _ =>
    match vs, r with
    | [v1, v2, v3], .cons r1 (.cons r2 (.cons r3 .nil)) =>
      refine ⟨v1, v2, v3, rfl, asg_fin S s eb (.t (.cons (.v ?_) (.cons (.v ?_) (.cons (.v ?_) .nil)))) k⟩
      · exact r1.mono (cut_anti (hd_anti (by simpa only [al] using diff_own)))
      · exact r2.mono (cut_anti (hd_anti (by simpa only [al] using diff_own)))
      · exact r3.mono (cut_anti (hd_anti (by simpa only [al] using diff_own)))
end

/-! ### equality of data, decided -/
mutual
def eqb : D → D → Bool
  | .none, .none => true
  | .bool a, .bool b => a == b
  | .int a, .int b => a == b
  | .str a, .str b => decide (a = b)
  | .list xs, .list ys => eqbs xs ys
  | .tuple xs, .tuple ys => eqbs xs ys
  | _, _ => false
def eqbs : List D → List D → Bool
  | [], [] => true
  | x :: r, y :: s => eqb x y && eqbs r s
  | _, _ => false
end
mutual
theorem eqb_eq : ∀ {x y : D}, eqb x y = true → x = y
  | .none, .none, _ => rfl
  | .bool a, .bool b, h => by simp [eqb] at h; rw [h]
  | .int a, .int b, h => by simp [eqb] at h; rw [h]
  | .str a, .str b, h => by simp [eqb] at h; rw [h]
  | .list xs, .list ys, h => by simp only [eqb] at h; rw [eqbs_eq h]
  | .tuple xs, .tuple ys, h => by simp only [eqb] at h; rw [eqbs_eq h]
  | .dict _, _, h => by simp [eqb] at h
  | .none, .bool _, h => by simp [eqb] at h
  | .none, .int _, h => by simp [eqb] at h
  | .none, .str _, h => by simp [eqb] at h
  | .none, .list _, h => by simp [eqb] at h
  | .none, .tuple _, h => by simp [eqb] at h
  | .none, .dict _, h => by simp [eqb] at h
  | .bool _, .none, h => by simp [eqb] at h
  | .bool _, .int _, h => by simp [eqb] at h
  | .bool _, .str _, h => by simp [eqb] at h
  | .bool _, .list _, h => by simp [eqb] at h
  | .bool _, .tuple _, h => by simp [eqb] at h
  | .bool _, .dict _, h => by simp [eqb] at h
  | .int _, .none, h => by simp [eqb] at h
  | .int _, .bool _, h => by simp [eqb] at h
  | .int _, .str _, h => by simp [eqb] at h
  | .int _, .list _, h => by simp [eqb] at h
  | .int _, .tuple _, h => by simp [eqb] at h
  | .int _, .dict _, h => by simp [eqb] at h
  | .str _, .none, h => by simp [eqb] at h
  | .str _, .bool _, h => by simp [eqb] at h
  | .str _, .int _, h => by simp [eqb] at h
  | .str _, .list _, h => by simp [eqb] at h
  | .str _, .tuple _, h => by simp [eqb] at h
  | .str _, .dict _, h => by simp [eqb] at h
  | .list _, .none, h => by simp [eqb] at h
  | .list _, .bool _, h => by simp [eqb] at h
  | .list _, .int _, h => by simp [eqb] at h
  | .list _, .str _, h => by simp [eqb] at h
  | .list _, .tuple _, h => by simp [eqb] at h
  | .list _, .dict _, h => by simp [eqb] at h
  | .tuple _, .none, h => by simp [eqb] at h
  | .tuple _, .bool _, h => by simp [eqb] at h
  | .tuple _, .int _, h => by simp [eqb] at h
  | .tuple _, .str _, h => by simp [eqb] at h
  | .tuple _, .list _, h => by simp [eqb] at h
  | .tuple _, .dict _, h => by simp [eqb] at h
theorem eqbs_eq : ∀ {x y : List D}, eqbs x y = true → x = y
  | [], [], _ => rfl
  | x :: r, y :: s, h => by
    simp only [eqbs, Bool.and_eq_true] at h
    rw [eqb_eq h.1, eqbs_eq h.2]
  | [], _ :: _, h => by simp [eqbs] at h
  | _ :: _, [], h => by simp [eqbs] at h
end

/-! ### the text's surroundings -/
structure Gm where
  N : List Str
  M : List Nat
  lim : Nat
  cs : List (Str × D)
  fs : List (Str × Nat × Nat)
  bs : List Str
  gs : List Str
structure CxOk (X : Cx) (Γ : Gm) (sc : Scope) (fb : Str → Bool) (T : Nat → List D → Option D) : Prop where
  N : X.N = Γ.N
  nd : Γ.N.Nodup
  scE : X.env.scope = sc
  kd : sc.kind = .function
  fn : ∀ x, fb x = true → X.fn x = true
  calm : X.calm = true
  hu : X.A.units + 70 < cLine
  room : Room Γ.lim X.A
  gd : X.A.guards = some []
  csO : ∀ x d, (x, d) ∈ Γ.cs → ∃ v u, X.mg x = some u ∧ RelV v u ∧ Is X.K (fun _ => none) v d
  fsO : ∀ (j : Nat) x k n, Γ.fs[j]? = some (x, k, n) → k ≤ Γ.lim → FD X.prog X.w X.K X.mg X.base x k n (T j)
  bsO : ∀ x ∈ Γ.bs, X.mg x = none
  gsO : ∀ x ∈ Γ.gs, X.mg x = some (.builtin "math.gcd")
def cellB (scope : Scope) (x : Str) : Bool := match scope.names.lookup x with | some .cell => true | _ => false
theorem CxOk.blk {X : Cx} {Γ : Gm} {sc : Scope} {fb : Str → Bool} {T : Nat → List D → Option D} (C : CxOk X Γ sc fb T) (scope : Scope) (hk : scope.kind = .function) (s : Shared) (H : Hp) (c : Addr) (cl : List (Str × Addr)) (fp : List Addr) :
    CxOk (X.blk s H scope (compEnvC scope cl c X.env) fp) Γ (relS scope sc) (cellB scope) T := by
  refine ⟨C.N, C.nd, ?_, hk, fun x h => ?_, C.calm, C.hu, C.room, C.gd, C.csO, C.fsO, C.bsO, C.gsO⟩
  · show relS scope X.env.scope = _
    rw [C.scE]
  · show (scope.names.lookup x == some NameKind.cell) = true
    unfold cellB at h
    split at h
    · rename_i e; rw [e]; rfl
    · cases h

/-! ### matching -/
def vis (sc : Scope) (x : Str) : Bool := match sc.names.lookup x with | some .local => true | some .cell => true | some .free => true | _ => false
def loc (sc : Scope) (x : Str) : Bool := match sc.names.lookup x with | some .local => true | some .cell => true | _ => false
def glo (sc : Scope) (x : Str) : Bool := match sc.names.lookup x with | some .globalImplicit => true | _ => false
def lcl (sc : Scope) (x : Str) : Bool := match sc.names.lookup x with | some .local => true | _ => false
def nm1 (x : Str) : Bool := decide ((x == ("__debug__" : Str)) = false) && decide ((x == ("__classdict__" : Str)) = false)
def cstB : Const → D → Bool
  | .int i, .int j => i == j
  | .bool a, .bool b => a == b
  | .none, .none => true
  | .str x, .str y => decide (x = y)
  | _, _ => false
def bopB : Bop → Operator → Bool
  | .add, .Add => true | .sub, .Sub => true | .mul, .Mult => true | .fdiv, .FloorDiv => true | .mod, .Mod => true | .pow, .Pow => true
  | _, _ => false
def copB : Cop → CmpOp → Bool
  | .eq, .Eq => true | .ne, .NotEq => true | .lt, .Lt => true | .le, .LtE => true | .gt, .Gt => true | .ge, .GtE => true | .is, .Is => true | .isn, .IsNot => true | .inn, .In => true | .nin, .NotIn => true
  | _, _ => false
def noStar : Expr → Bool
  | .Starred _ _ => false
  | _ => true
def notSet : Expr → Bool
  | .Set _ _ _ => false
  | _ => true
/-- the builtin's name, and whether it is a class -/
def P1.nm : P1 → Option (Str × Bool)
  | .len => some ("len", false) | .abs => some ("abs", false) | .int => some ("int", true) | .sum => some ("sum", false) | .min => some ("min", false) | .max => some ("max", false)
  | .repr => some ("repr", false) | .sorted => some ("sorted", false) | .list => some ("list", true) | .all => some ("all", false) | .any => some ("any", false)
  | _ => none
/-- fit for a test -/
def tst : CE → Bool
  | .orV _ _ => false
  | .ite _ _ _ => false
  | .one a => tst a
  | .andB a b => tst a && tst b
  | .orB a b => tst a && tst b
  | .notB a => tst a
  | _ => true
def oB (b : Bool) (f : Expr → Bool) (o : Option Expr) : Bool := if b then o.isNone else match o with | some e => f e | none => false
mutual
def mtP (Γ : Gm) (sc : Scope) (fb : Str → Bool) : Pat → Expr → Bool
  | .v i, .Name x _ => decide (Γ.N[i]? = some x) && loc sc x && (fb x || lcl sc x)
  | .t ps, .Tuple es _ _ => mtPs Γ sc fb ps es
  | _, _ => false
def mtPs (Γ : Gm) (sc : Scope) (fb : Str → Bool) : Pat → List Expr → Bool
  | .nil, [] => true
  | .cons p r, e :: es => mtP Γ sc fb p e && noStar e && mtPs Γ sc fb r es
  | _, _ => false
end
mutual
def mtE (Γ : Gm) : Scope → CE → Expr → Bool
  | sc, .var i, e => (match e with | .Name x _ => decide (Γ.N[i]? = some x) && vis sc x && nm1 x | _ => false)
  | _, .cst d, e => (match e with | .Constant k _ _ => cstB k d | _ => false)
  | sc, .glb x d, e => (match e with | .Name y _ => decide (x = y) && glo sc x && nm1 x && (Γ.cs.any fun p => decide (p.1 = x) && eqb p.2 d) | _ => false)
  | sc, .bin o a b, e => (match e with | .BinOp l op r _ => bopB o op && mtE Γ sc a l && mtE Γ sc b r | _ => false)
  | sc, .neg a, e => (match e with | .UnaryOp .USub x _ => mtE Γ sc a x | _ => false)
  | sc, .cmp a r, e => (match e with | .Compare l ops es _ => mtE Γ sc a l && mtC Γ sc r ops es | _ => false)
  | sc, .andB a b, e => (match e with | .BoolOp .And (x :: y :: rest) p => mtE Γ sc a x && mtE Γ sc b (.BoolOp .And (y :: rest) p) | _ => false)
  | sc, .orB a b, e => (match e with | .BoolOp .Or (x :: y :: rest) p => mtE Γ sc a x && mtE Γ sc b (.BoolOp .Or (y :: rest) p) | _ => false)
  | sc, .one a, e => (match e with | .BoolOp _ [x] _ => mtE Γ sc a x | _ => false)
  | sc, .notB a, e => (match e with | .UnaryOp .Not x _ => mtE Γ sc a x | _ => false)
  | sc, .orV a b, e => (match e with | .BoolOp .Or (x :: y :: rest) p => mtE Γ sc a x && mtE Γ sc b (.BoolOp .Or (y :: rest) p) | _ => false)
  | sc, .ite c a b, e => (match e with | .IfExp t x y _ => mtE Γ sc c t && tst c && mtE Γ sc a x && mtE Γ sc b y | _ => false)
  | sc, .tup es, e => (match e with | .Tuple xs _ _ => mtEs Γ sc es xs && decide (es.length ≤ 1000) | _ => false)
  | sc, .lst es, e => (match e with | .List xs _ => mtEs Γ sc es xs && decide (es.length ≤ 1000) | _ => false)
  | sc, .lstS es, e => (match e with | .List xs _ => mtSs Γ sc es xs | _ => false)
  | _, .star _, _ => false
  | sc, .ix a i, e => (match e with | .Subscript x y _ => plainIx y && mtE Γ sc a x && mtE Γ sc i y | _ => false)
  | sc, .sl a lo hi, e => (match e with | .Subscript x (.Slice l h none _) _ => mtE Γ sc a x && oB (isNo lo) (fun e => mtE Γ sc lo e) l && oB (isNo hi) (fun e => mtE Γ sc hi e) h | _ => false)
  | _, .no, _ => false
  | sc, .rev a, e => (match e with | .Subscript x (.Slice none none (some (.UnaryOp .USub (.Constant (.int k) _ _) _)) _) _ => decide (k = 1) && mtE Γ sc a x | _ => false)
  | sc, .p1 p a, e => (match e with | .Call (.Name x _) [y] [] _ => (match p.nm with | some (n, _) => decide (x = n) && glo sc x && Γ.bs.contains x && noStar y && mtE Γ sc a y | none => (match p, y with | .sset, .Call (.Name z _) [u] [] _ => decide (x = "sorted") && glo sc x && Γ.bs.contains x && decide (z = "set") && glo sc z && Γ.bs.contains z && noStar u && mtE Γ sc a u | _, _ => false)) | _ => false)
  | sc, .p2 p a b, e => (match e with
    | .Call (.Name x _) [y, z] [] _ => (match p with
      | .min => decide (x = "min") && glo sc x && Γ.bs.contains x && noStar y && noStar z && mtE Γ sc a y && mtE Γ sc b z
      | .max => decide (x = "max") && glo sc x && Γ.bs.contains x && noStar y && noStar z && mtE Γ sc a y && mtE Γ sc b z
      | .gcd => Γ.gs.contains x && glo sc x && nm1 x && noStar y && noStar z && mtE Γ sc a y && mtE Γ sc b z
      | _ => false)
    | .Call (.Name x _) [y] [⟨some nm, z, _⟩] _ => (match p with
      | .minD => decide (x = "min") && glo sc x && Γ.bs.contains x && noStar y && decide (nm = Str.ofString "default") && mtE Γ sc a y && mtE Γ sc b z
      | _ => false)
    | .Call (.Attribute o name apos) [z] [] cpos => (match p with
      | .index => decide (name = "index") && plainBase o && (apos.endLine == cpos.line) && noStar z && mtE Γ sc a o && mtE Γ sc b z
      | .count => decide (name = "count") && plainBase o && (apos.endLine == cpos.line) && noStar z && mtE Γ sc a o && mtE Γ sc b z
      | _ => false)
    | _ => false)
  | sc, .dsp ks vs, e => (match e with | .Dict keys values _ => keys.all (·.isSome) && decide (keys.length = values.length) && decide (keys ≠ []) && decide (keys.length ≤ 15) && mtEs Γ sc ks (keys.filterMap id) && mtEs Γ sc vs values | _ => false)
  | sc, .dix a i, e => (match e with | .Subscript x y _ => plainIx y && mtE Γ sc a x && mtE Γ sc i y | _ => false)
  | sc, .sc2 elt p it ifs p1 it1 ifs1 vs vs1, e => (match e with | .Call (.Name x _) [.SetComp el [⟨tg, iter, cs, 0⟩, ⟨tg1, iter1, cs1, 0⟩] scope _] [] _ => (decide (x = "sorted") && glo sc x && Γ.bs.contains x && mtI Γ sc it tg iter && notSet iter && blkC Γ.N sc scope (vs.map fun i => (Γ.N.getD i "", i))) && (mtP Γ (relS scope sc) (cellB scope) p tg && mtT Γ (relS scope sc) ifs cs && mtI Γ (relS scope sc) it1 tg1 iter1 && notSet iter1 && mtP Γ (relS scope sc) (cellB scope) p1 tg1 && mtT Γ (relS scope sc) ifs1 cs1 && mtE Γ (relS scope sc) elt el) && (disj vs Γ.M && subl p.slots vs && subl p1.slots vs1 && subl vs1 vs) | _ => false)
  | sc, .sc3 elt p it ifs p1 it1 ifs1 vs vs1, e => (match e with | .Call (.Name x _) [.SetComp el [⟨tg, iter, cs, 0⟩, ⟨tg1, iter1, cs1, 0⟩] scope _] [] _ => (decide (x = "sorted") && glo sc x && Γ.bs.contains x && mtI Γ sc it tg iter && notSet iter && blkC Γ.N sc scope (vs.map fun i => (Γ.N.getD i "", i))) && (mtP Γ (relS scope sc) (cellB scope) p tg && mtT Γ (relS scope sc) ifs cs && mtI Γ (relS scope sc) it1 tg1 iter1 && notSet iter1 && mtP Γ (relS scope sc) (cellB scope) p1 tg1 && mtT Γ (relS scope sc) ifs1 cs1 && mtE Γ (relS scope sc) elt el) && (disj vs Γ.M && subl p.slots vs && subl p1.slots vs1 && subl vs1 vs) | _ => false)
  | sc, .call f es, e => (match e with | .Call (.Name x _) (y :: ys) [] _ => (match Γ.fs[f]? with | some (n, k, m) => decide (x = n) && decide (k ≤ Γ.lim) && decide (es.length = m) && glo sc x && nm1 x && mtEs Γ sc es (y :: ys) | none => false) | _ => false)
  | sc, .cals f es, e => (match e with | .Call (.Name x _) (y :: ys) [] _ => (match Γ.fs[f]? with | some (n, k, m) => decide (x = n) && decide (k ≤ Γ.lim) && decide (es.length = m) && glo sc x && nm1 x && mtEs Γ sc es (y :: ys) | none => false) | _ => false)
  | sc, .lc elt p it ifs vs, e => (match e with | .ListComp x [⟨tg, iter, cs, 0⟩] scope _ => mtI Γ sc it tg iter && notSet iter && blkC Γ.N sc scope (vs.map fun i => (Γ.N.getD i "", i)) && mtP Γ (relS scope sc) (cellB scope) p tg && mtT Γ (relS scope sc) ifs cs && mtE Γ (relS scope sc) elt x && disj vs Γ.M && subl p.slots vs | _ => false)
  | _, .lc2 _ _ _ _ _ _ _ _ _, _ => false
def mtEs (Γ : Gm) : Scope → CEs → List Expr → Bool
  | _, .nil, es => es.isEmpty
  | sc, .cons c r, es => (match es with | e :: s => mtE Γ sc c e && noStar e && mtEs Γ sc r s | [] => false)
def mtSs (Γ : Gm) : Scope → CEs → List Expr → Bool
  | _, .nil, es => es.isEmpty
  | sc, .cons (.star c) r, es => (match es with | .Starred e _ :: s => mtE Γ sc c e && mtSs Γ sc r s | _ => false)
  | sc, .cons c r, es => (match es with | e :: s => mtE Γ sc c e && noStar e && mtSs Γ sc r s | [] => false)
def mtC (Γ : Gm) : Scope → Cops → List CmpOp → List Expr → Bool
  | _, .nil, _, _ => false
  | sc, .cons o c .nil, ops, es => (match ops, es with | [op], [e] => copB o op && notSet e && mtE Γ sc c e | _, _ => false)
  | sc, .cons o c r, ops, es => (match ops, es with | op :: ops, e :: es => copB o op && mtE Γ sc c e && mtC Γ sc r ops es | _, _ => false)
def mtT (Γ : Gm) : Scope → CEs → List Expr → Bool
  | _, .nil, es => es.isEmpty
  | sc, .cons c .nil, es => (match es with | [e] => mtE Γ sc c e && tst c | _ => false)
  | _, .cons _ (.cons _ _), _ => false
def mtI (Γ : Gm) : Scope → CI → Expr → Expr → Bool
  | sc, .ofl a, _, e => mtE Γ sc a e
  | sc, .rng1 a, _, e => (match e with | .Call (.Name x _) [y] [] _ => decide (x = "range") && glo sc x && Γ.bs.contains x && noStar y && mtE Γ sc a y | _ => false)
  | sc, .rng2 a b, _, e => (match e with | .Call (.Name x _) [y, z] [] _ => decide (x = "range") && glo sc x && Γ.bs.contains x && noStar y && noStar z && mtE Γ sc a y && mtE Γ sc b z | _ => false)
  | sc, .rng3 a b c, _, e => (match e with | .Call (.Name x _) [y, z, w] [] _ => decide (x = "range") && glo sc x && Γ.bs.contains x && noStar y && noStar z && noStar w && mtE Γ sc a y && mtE Γ sc b z && mtE Γ sc c w | _ => false)
  | sc, .enum a, tg, e => (match tg, e with | .Tuple _ _ _, .Call (.Name x _) [y] [] _ => decide (x = "enumerate") && glo sc x && Γ.bs.contains x && noStar y && mtE Γ sc a y | _, _ => false)
  | sc, .zip a b, tg, e => (match tg, e with | .Tuple _ _ _, .Call (.Name x _) [y, z] [] _ => decide (x = "zip") && glo sc x && Γ.bs.contains x && noStar y && noStar z && mtE Γ sc a y && mtE Γ sc b z | _, _ => false)
end
def mtO (Γ : Gm) (sc : Scope) (c : CE) (o : Option Expr) : Bool := oB (isNo c) (fun e => mtE Γ sc c e) o
end DI
set_option maxRecDepth 100000
set_option maxHeartbeats 4000000
/-! DI: a matched text keeps its word. -/
namespace DI
open PySem L2
theorem Bool.t3 {a b c : Bool} (h : (a && b && c) = true) : a = true ∧ b = true ∧ c = true := by
  cases a <;> cases b <;> cases c <;> simp at h ⊢
theorem Bool.t2 {a b : Bool} (h : (a && b) = true) : a = true ∧ b = true := by
  cases a <;> cases b <;> simp at h ⊢
section
variable {X : Cx} {Γ : Gm} {sc : Scope} {fb : Str → Bool} {T : Nat → List D → Option D}
theorem vis_ok (C : CxOk X Γ sc fb T) {x : Str} (h : vis sc x = true) : Vis X.env.scope x := by
  rw [C.scE]
  unfold vis at h
  split at h
  · exact .inl (by assumption)
  · exact .inr (.inl (by assumption))
  · exact .inr (.inr (by assumption))
  · cases h
theorem loc_ok (C : CxOk X Γ sc fb T) {x : Str} (h : loc sc x = true) : Loc X.env.scope x := by
  rw [C.scE]
  unfold loc at h
  split at h
  · exact .inl (by assumption)
  · exact .inr (by assumption)
  · cases h
theorem glo_ok (C : CxOk X Γ sc fb T) {x : Str} (h : glo sc x = true) : Gl X x := by
  show X.env.scope.names.lookup x = _
  rw [C.scE]
  unfold glo at h
  split at h
  · assumption
  · cases h
theorem lcl_ok (C : CxOk X Γ sc fb T) {x : Str} (h : lcl sc x = true) : X.env.scope.names.lookup x = some .local := by
  rw [C.scE]
  unfold lcl at h
  split at h
  · assumption
  · cases h
theorem nm1_ok {x : Str} (h : nm1 x = true) : (x == ("__debug__" : Str)) = false ∧ (x == ("__classdict__" : Str)) = false := by
  have := Bool.t2 h
  exact ⟨of_decide_eq_true this.1, of_decide_eq_true this.2⟩
theorem ns_ok {e : Expr} {es : List Expr} {env : PySem.Env} (h : noStar e = true) : starEach (e :: es) env = (false, eval e env) :: starEach es env := by
  cases e <;> first | rfl | (simp [noStar] at h)
theorem nset_ok {e : Expr} {env : PySem.Env} (h : notSet e = true) (x : Value) : foldedSetIterable e env x = pure x := by
  cases e <;> first | rfl | (simp [notSet] at h)
theorem nset_bm {e : Expr} {o : CmpOp} (h : notSet e = true) : behindInMarks o e = false := by
  cases e <;> first | rfl | (simp [notSet] at h)
def allNs : List Expr → Bool
  | [] => true
  | e :: r => noStar e && allNs r
theorem ns_any {env : PySem.Env} {pos : Pos} : ∀ {es : List Expr}, allNs es = true → (backTo pos (starEach es env)).any (·.1) = false
  | [], _ => rfl
  | e :: r, h => by
    have h := Bool.t2 h
    rw [ns_ok h.1]
    show (false || _) = false
    exact ns_any h.2
theorem mtEs_ns : ∀ {r : CEs} {es : List Expr}, mtEs Γ sc r es = true → allNs es = true
  | .nil, es, h => by cases es <;> simp_all [mtEs, allNs]
  | .cons c r, [], h => rfl
  | .cons c r, e :: s, h => by
    simp only [mtEs, Bool.and_eq_true] at h
    simp only [allNs, Bool.and_eq_true]
    exact ⟨h.1.2, mtEs_ns h.2⟩
def OkE (X : Cx) (T : Nat → List D → Option D) (M : List Nat) (e : Expr) (c : CE) : Prop := SE X T M e c ∧ (tst c = true → SQ X T M e c ∧ ∀ op xs p, e = .BoolOp op xs p → SW X T M e c)
theorem okv {M : List Nat} {e : Expr} {c : CE} (h : SE X T M e c) (he : ∀ whole, isTrue e X.env whole = (do let v ← whole; standAt e.pos; holding [v] (truthy v))) (nb : ∀ op xs p, e ≠ .BoolOp op xs p) : OkE X T M e c :=
  ⟨h, fun _ => ⟨sq_val h he, fun op xs p z => absurd z (nb op xs p)⟩⟩
theorem okw {M : List Nat} {e : Expr} {c : CE} (h : SE X T M e c) (w : tst c = true → SW X T M e c) : OkE X T M e c :=
  ⟨h, fun t => ⟨(w t).pt, fun _ _ _ _ => w t⟩⟩
theorem cst_ok {M : List Nat} {k : Const} {j : Nat} {p : Pos} {d : D} (h : cstB k d = true) : SE X T M (.Constant k j p) (.cst d) := by
  unfold cstB at h
  split at h
  · have := eq_of_beq h; subst this
    exact se_cst (v := .int _) pe_int (fun H => .int _) rfl
  · have := eq_of_beq h; subst this
    exact se_cst (v := .bl _) pe_bl (fun H => .bl _) rfl
  · exact se_cst (v := .non) pe_non (fun H => .non) rfl
  · have := of_decide_eq_true h; subst this
    exact se_cst (v := .str _) pe_str (fun H => .str _) rfl
  · cases h
theorem bop_ok {M : List Nat} {o : Bop} {op : Operator} {a b : Expr} {ca cb : CE} {p : Pos} (h : bopB o op = true) (ha : SE X T M a ca) (hb : SE X T M b cb) : SE X T M (.BinOp a op b p) (.bin o ca cb) := by
  unfold bopB at h
  split at h
  · exact se_add ha hb
  · exact se_sub ha hb
  · exact se_mul ha hb
  · exact se_fdiv ha hb
  · exact se_mod ha hb
  · exact se_pow ha hb
  · cases h
theorem cop_ok {o : Cop} {op : CmpOp} (h : copB o op = true) : op = o.op := by
  unfold copB at h
  split at h <;> first | rfl | cases h
theorem bt_range : bootBuiltins "range" = some (.type "range") := by decide +kernel
theorem bt_abs : bootBuiltins "abs" = some (.builtin "abs") := by decide +kernel
theorem bt_repr : bootBuiltins "repr" = some (.builtin "repr") := by decide +kernel
theorem bt_set : bootBuiltins "set" = some (.type "set") := by decide +kernel
theorem bt_len : bootBuiltins "len" = some (.builtin "len") := by decide +kernel
theorem bt_sum : bootBuiltins "sum" = some (.builtin "sum") := by decide +kernel
theorem bt_min : bootBuiltins "min" = some (.builtin "min") := by decide +kernel
theorem bt_max : bootBuiltins "max" = some (.builtin "max") := by decide +kernel
theorem bt_sorted : bootBuiltins "sorted" = some (.builtin "sorted") := by decide +kernel
theorem bt_all : bootBuiltins "all" = some (.builtin "all") := by decide +kernel
theorem bt_any : bootBuiltins "any" = some (.builtin "any") := by decide +kernel
theorem bt_int : bootBuiltins "int" = some (.type "int") := by decide +kernel
theorem bt_list : bootBuiltins "list" = some (.type "list") := by decide +kernel
theorem bs_ok (C : CxOk X Γ sc fb T) {x : Str} (h : Γ.bs.contains x = true) : X.mg x = none := C.bsO x (by simpa using h)
theorem gs_ok (C : CxOk X Γ sc fb T) {x : Str} (h : Γ.gs.contains x = true) : X.mg x = some (.builtin "math.gcd") := C.gsO x (by simpa using h)
theorem p1_ok (C : CxOk X Γ sc fb T) {p : P1} {n x : Str} {k : Bool} {a : Expr} {ca : CE} {p1 p2 : Pos} (hn : p.nm = some (n, k)) (hx : x = n) (hg : glo sc x = true) (hb : Γ.bs.contains x = true) (ns : noStar a = true) (ha : SE X T Γ.M a ca) : SE X T Γ.M (.Call (.Name x p1) [a] [] p2) (.p1 p ca) := by
  subst hx
  have g := glo_ok C hg
  have m := bs_ok C hb
  have st := ns_ok (es := []) (env := X.env) ns
  cases p <;> simp only [P1.nm, Option.some.injEq, Prod.mk.injEq] at hn <;> first | (obtain ⟨rfl, rfl⟩ := hn) | cases hn
  · exact se_len ⟨g, m, bt_len, by decide, by decide, st⟩ ha
  · exact se_abs ⟨g, m, bt_abs, by decide, by decide, st⟩ ha
  · exact se_int ⟨g, m, bt_int, by decide, by decide, st⟩ ha
  · exact se_repr C.gd C.hu ⟨g, m, bt_repr, by decide, by decide, st⟩ ha
  · exact se_sum C.calm ⟨g, m, bt_sum, by decide, by decide, st⟩ ha
  · exact se_min C.calm C.hu ⟨g, m, bt_min, by decide, by decide, st⟩ ha
  · exact se_max C.calm C.hu ⟨g, m, bt_max, by decide, by decide, st⟩ ha
  · exact se_sorted C.hu ⟨g, m, bt_sorted, by decide, by decide, st⟩ ha
  · exact se_list ⟨g, m, bt_list, by decide, by decide, st⟩ ha
  · exact se_all C.calm ⟨g, m, bt_all, by decide, by decide, st⟩ ha
  · exact se_any C.calm ⟨g, m, bt_any, by decide, by decide, st⟩ ha
end
mutual
theorem okP_ : ∀ (p : Pat) {sc : Scope} {fb : Str → Bool} {e : Expr} {Γ : Gm}, mtP Γ sc fb p e = true → ∀ {X : Cx} {T : Nat → List D → Option D}, CxOk X Γ sc fb T → SP X e p
  | .v i, sc, fb, e, Γ, h, X, T, C => by
    unfold mtP at h
    split at h <;> first | cases h | skip
    · rename_i heq
      cases heq
      simp only [Bool.and_eq_true, decide_eq_true_eq, Bool.or_eq_true] at h
      obtain ⟨⟨h1, h2⟩, h3⟩ := h
      exact sp_v (by rw [C.N]; exact C.nd) (by rw [C.N]; exact h1) (loc_ok C h2) (h3.elim (fun z => .inl (C.fn _ z)) fun z => .inr (lcl_ok C z))
    · rename_i heq
      cases heq
  | .t ps, sc, fb, e, Γ, h, X, T, C => by
    unfold mtP at h
    split at h <;> first | cases h | skip
    · rename_i heq
      cases heq
    · rename_i heq
      cases heq
      obtain ⟨h1, h2, h3, h4⟩ := okPs_ ps h C
      exact sp_t C.calm h1 h2 h3
  | .nil, sc, fb, e, Γ, h, X, T, C => by simp [mtP] at h
  | .cons _ _, sc, fb, e, Γ, h, X, T, C => by simp [mtP] at h
theorem okPs_ : ∀ (p : Pat) {sc : Scope} {fb : Str → Bool} {es : List Expr} {Γ : Gm}, mtPs Γ sc fb p es = true → ∀ {X : Cx} {T : Nat → List D → Option D}, CxOk X Γ sc fb T → SPs X es p ∧ (assignEach es X.env).length = p.length ∧ (assignEach es X.env).findIdx? (·.1) = none ∧ (∀ e ∈ es, noStar e = true)
  | .nil, sc, fb, [], Γ, h, X, T, C => ⟨sps_nil, rfl, rfl, by simp⟩
  | .cons p r, sc, fb, e :: es, Γ, h, X, T, C => by
    simp only [mtPs, Bool.and_eq_true] at h
    obtain ⟨⟨h1, h2⟩, h3⟩ := h
    obtain ⟨i1, i2, i3, i4⟩ := okPs_ r h3 C
    have ae : assignEach (e :: es) X.env = (false, assign e X.env) :: assignEach es X.env := by
      cases e <;> first | rfl | (simp [noStar] at h2)
    refine ⟨sps_cons (okP_ p h1 C) i1 (by rw [ae]; rfl), by rw [ae]; simp [i2, Pat.length], by rw [ae, List.findIdx?_cons]; simp [i3], fun y hy => ?_⟩
    rcases List.mem_cons.mp hy with z | z
    · rw [z]; exact h2
    · exact i4 y z
  | .nil, _, _, _ :: _, _, h, _, _, _ => by simp [mtPs] at h
  | .cons _ _, _, _, [], _, h, _, _, _ => by simp [mtPs] at h
  | .v _, _, _, _, _, h, _, _, _ => by simp [mtPs] at h
  | .t _, _, _, _, _, h, _, _, _ => by simp [mtPs] at h
end
end DI
set_option maxRecDepth 100000
set_option maxHeartbeats 2000000
/-! DI: a matched expression keeps its word. -/
namespace DI
open PySem L2
theorem mem_any {cs : List (Str × D)} {x : Str} {d : D} (h : (cs.any fun p => decide (p.1 = x) && eqb p.2 d) = true) : (x, d) ∈ cs := by
  obtain ⟨p, hp, q⟩ := List.any_eq_true.mp h
  have q := Bool.t2 q
  have e1 := of_decide_eq_true q.1
  have e2 := eqb_eq q.2
  obtain ⟨p1, p2⟩ := p
  cases e1; cases e2
  exact hp
theorem map_snd (N : List Str) : ∀ vs : List Nat, (vs.map fun i => (N.getD i "", i)).map (·.2) = vs
  | [] => rfl
  | v :: r => by simp only [List.map_cons, map_snd N r]
theorem okO {c : CE} {sc : Scope} {o : Option Expr} {Γ : Gm} {X : Cx} {T : Nat → List D → Option D} (h : oB (isNo c) (fun e => mtE Γ sc c e) o = true) (ih : ∀ {e}, mtE Γ sc c e = true → SE X T Γ.M e c) : SO X T Γ.M o c := by
  by_cases hc : c = .no
  · subst hc
    cases o with
    | none => exact .none
    | some e => simp [oB, isNo] at h
  · have hn : isNo c = false := by cases c <;> first | rfl | exact absurd rfl hc
    simp only [oB, hn, Bool.false_eq_true, if_false] at h
    cases o with
    | none => cases h
    | some e => exact .some (ih h) hc
mutual
theorem okE : ∀ (c : CE) {sc : Scope} {e : Expr} {Γ : Gm}, mtE Γ sc c e = true → ∀ {X : Cx} {fb : Str → Bool} {T : Nat → List D → Option D}, CxOk X Γ sc fb T → OkE X T Γ.M e c
  | .var i, sc, e, Γ, h, X, fb, T, C => by
    unfold mtE at h
    split at h; rotate_left; · cases h
    simp only [Bool.and_eq_true, decide_eq_true_eq] at h
    obtain ⟨⟨h1, h2⟩, h3⟩ := h
    have n := nm1_ok h3
    exact okv (se_var (by rw [C.N]; exact h1) (vis_ok C h2) n.1 n.2) (fun _ => rfl) (by intro _ _ _ z; cases z)
  | .cst d, sc, e, Γ, h, X, fb, T, C => by
    unfold mtE at h
    split at h; rotate_left; · cases h
    exact okv (cst_ok h) (fun _ => rfl) (by intro _ _ _ z; cases z)
  | .glb x d, sc, e, Γ, h, X, fb, T, C => by
    unfold mtE at h
    split at h; rotate_left; · cases h
    simp only [Bool.and_eq_true, decide_eq_true_eq] at h
    obtain ⟨⟨⟨h1, h2⟩, h3⟩, h4⟩ := h
    subst h1
    obtain ⟨v, u, m, r, is⟩ := C.csO _ _ (mem_any h4)
    exact okv (se_glb (glo_ok C h2) m r (nm1_ok h3).1 is) (fun _ => rfl) (by intro _ _ _ z; cases z)
  | .bin o a b, sc, e, Γ, h, X, fb, T, C => by
    unfold mtE at h
    split at h; rotate_left; · cases h
    simp only [Bool.and_eq_true] at h
    exact okv (bop_ok h.1.1 (okE a h.1.2 C).1 (okE b h.2 C).1) (fun _ => rfl) (by intro _ _ _ z; cases z)
  | .neg a, sc, e, Γ, h, X, fb, T, C => by
    unfold mtE at h
    split at h; rotate_left; · cases h
    exact okv (se_neg (okE a h C).1) (fun _ => rfl) (by intro _ _ _ z; cases z)
  | .cmp a r, sc, e, Γ, h, X, fb, T, C => by
    unfold mtE at h
    split at h; rotate_left; · cases h
    simp only [Bool.and_eq_true] at h
    exact ⟨se_cmp C.hu (okE a h.1 C).1 (okC r h.2 C), fun _ => ⟨sq_cmp C.hu (okE a h.1 C).1 (okC r h.2 C), by intro _ _ _ z; cases z⟩⟩
  | .andB a b, sc, e, Γ, h, X, fb, T, C => by
    unfold mtE at h
    split at h; rotate_left; · cases h
    simp only [Bool.and_eq_true] at h
    have i1 := okE a h.1 C
    have i2 := okE b h.2 C
    exact okw (se_and i1.1 i2.1) fun t => by
      simp only [tst, Bool.and_eq_true] at t
      exact sw_and (i1.2 t.1).1 ((i2.2 t.2).2 _ _ _ rfl)
  | .orB a b, sc, e, Γ, h, X, fb, T, C => by
    unfold mtE at h
    split at h; rotate_left; · cases h
    simp only [Bool.and_eq_true] at h
    have i1 := okE a h.1 C
    have i2 := okE b h.2 C
    exact okw (se_or i1.1 i2.1) fun t => by
      simp only [tst, Bool.and_eq_true] at t
      exact sw_or (i1.2 t.1).1 ((i2.2 t.2).2 _ _ _ rfl)
  | .one a, sc, e, Γ, h, X, fb, T, C => by
    unfold mtE at h
    split at h; rotate_left; · cases h
    rename_i op x p
    have i1 := okE a h C
    exact okw (se_one i1.1) fun t => by
      simp only [tst] at t
      cases op with
      | And => exact sw_oneA (i1.2 t).1
      | Or => exact sw_oneO (i1.2 t).1
  | .notB a, sc, e, Γ, h, X, fb, T, C => by
    unfold mtE at h
    split at h; rotate_left; · cases h
    have i1 := okE a h C
    exact ⟨se_not i1.1, fun t => ⟨sq_not (i1.2 (by simpa only [tst] using t)).1, by intro _ _ _ z; cases z⟩⟩
  | .orV a b, sc, e, Γ, h, X, fb, T, C => by
    unfold mtE at h
    split at h; rotate_left; · cases h
    simp only [Bool.and_eq_true] at h
    exact ⟨se_orV (okE a h.1 C).1 (okE b h.2 C).1, fun t => by simp [tst] at t⟩
  | .ite c a b, sc, e, Γ, h, X, fb, T, C => by
    unfold mtE at h
    split at h; rotate_left; · cases h
    simp only [Bool.and_eq_true] at h
    exact ⟨se_ite ((okE c h.1.1.1 C).2 h.1.1.2).1 (okE a h.1.2 C).1 (okE b h.2 C).1, fun t => by simp [tst] at t⟩
  | .tup es, sc, e, Γ, h, X, fb, T, C => by
    unfold mtE at h
    split at h; rotate_left; · cases h
    simp only [Bool.and_eq_true, decide_eq_true_eq] at h
    exact okv (se_tup (okEs es h.1 C) h.2) (fun _ => rfl) (by intro _ _ _ z; cases z)
  | .lst es, sc, e, Γ, h, X, fb, T, C => by
    unfold mtE at h
    split at h; rotate_left; · cases h
    simp only [Bool.and_eq_true, decide_eq_true_eq] at h
    exact okv (se_lst (okEs es h.1 C) h.2) (fun _ => rfl) (by intro _ _ _ z; cases z)
  | .lstS es, sc, e, Γ, h, X, fb, T, C => by
    unfold mtE at h
    split at h; rotate_left; · cases h
    exact okv (se_lstS (okSs es h C)) (fun _ => rfl) (by intro _ _ _ z; cases z)
  | .star a, sc, e, Γ, h, X, fb, T, C => by
    unfold mtE at h
    cases h
  | .ix a i, sc, e, Γ, h, X, fb, T, C => by
    unfold mtE at h
    split at h; rotate_left; · cases h
    simp only [Bool.and_eq_true] at h
    exact okv (se_ix (okE a h.1.2 C).1 (okE i h.2 C).1 (plain_sub h.1.1)) (fun _ => rfl) (by intro _ _ _ z; cases z)
  | .sl a lo hi, sc, e, Γ, h, X, fb, T, C => by
    unfold mtE at h
    split at h; rotate_left; · cases h
    simp only [Bool.and_eq_true] at h
    exact okv (se_sl (okE a h.1.1 C).1 (okO h.1.2 fun q => (okE lo q C).1) (okO h.2 fun q => (okE hi q C).1)) (fun _ => rfl) (by intro _ _ _ z; cases z)
  | .no, sc, e, Γ, h, X, fb, T, C => by
    unfold mtE at h
    cases h
  | .rev a, sc, e, Γ, h, X, fb, T, C => by
    unfold mtE at h
    split at h; rotate_left; · cases h
    simp only [Bool.and_eq_true, decide_eq_true_eq] at h
    obtain ⟨h1, h2⟩ := h
    subst h1
    exact okv (se_rev (okE a h2 C).1) (fun _ => rfl) (by intro _ _ _ z; cases z)
  | .p1 p a, sc, e, Γ, h, X, fb, T, C => by
    unfold mtE at h
    split at h; rotate_left; · cases h
    split at h
    · rename_i hn
      simp only [Bool.and_eq_true, decide_eq_true_eq] at h
      obtain ⟨⟨⟨⟨h1, h2⟩, h3⟩, h4⟩, h5⟩ := h
      exact okv (p1_ok C hn h1 h2 h3 h4 (okE a h5 C).1) (fun _ => rfl) (by intro _ _ _ z; cases z)
    · split at h; rotate_left; · cases h
      simp only [Bool.and_eq_true, decide_eq_true_eq] at h
      obtain ⟨⟨⟨⟨⟨⟨⟨h1, h2⟩, h3⟩, h4⟩, h5⟩, h6⟩, h7⟩, h8⟩ := h
      subst h1
      subst h4
      exact okv (se_sset C.calm (glo_ok C h2) (bs_ok C h3) bt_sorted (glo_ok C h5) (bs_ok C h6) bt_set (ns_ok h7) (okE a h8 C).1) (fun _ => rfl) (by intro _ _ _ z; cases z)
  | .p2 p a b, sc, e, Γ, h, X, fb, T, C => by
    unfold mtE at h
    split at h
    · split at h
      · simp only [Bool.and_eq_true, decide_eq_true_eq] at h
        obtain ⟨⟨⟨⟨⟨⟨h1, h2⟩, h3⟩, h4⟩, h5⟩, h6⟩, h7⟩ := h
        subst h1
        exact okv (se_min2 C.calm ⟨glo_ok C h2, bs_ok C h3, bt_min, by decide, by decide, by rw [ns_ok h4, ns_ok h5]; rfl, ns_ok h5⟩ (okE a h6 C).1 (okE b h7 C).1) (fun _ => rfl) (by intro _ _ _ z; cases z)
      · simp only [Bool.and_eq_true, decide_eq_true_eq] at h
        obtain ⟨⟨⟨⟨⟨⟨h1, h2⟩, h3⟩, h4⟩, h5⟩, h6⟩, h7⟩ := h
        subst h1
        exact okv (se_max2 C.calm ⟨glo_ok C h2, bs_ok C h3, bt_max, by decide, by decide, by rw [ns_ok h4, ns_ok h5]; rfl, ns_ok h5⟩ (okE a h6 C).1 (okE b h7 C).1) (fun _ => rfl) (by intro _ _ _ z; cases z)
      · simp only [Bool.and_eq_true, decide_eq_true_eq] at h
        obtain ⟨⟨⟨⟨⟨⟨h1, h2⟩, h3⟩, h4⟩, h5⟩, h6⟩, h7⟩ := h
        exact okv (se_gcd (glo_ok C h2) (gs_ok C h1) (nm1_ok h3).1 (by rw [ns_ok h4, ns_ok h5]; rfl) (ns_ok h5) (okE a h6 C).1 (okE b h7 C).1) (fun _ => rfl) (by intro _ _ _ z; cases z)
      · cases h
    · split at h
      · simp only [Bool.and_eq_true, decide_eq_true_eq] at h
        obtain ⟨⟨⟨⟨⟨⟨h1, h2⟩, h3⟩, h4⟩, h5⟩, h6⟩, h7⟩ := h
        subst h1
        subst h5
        exact okv (se_minD C.calm C.hu (glo_ok C h2) (bs_ok C h3) bt_min (ns_ok h4) (okE a h6 C).1 (okE b h7 C).1) (fun _ => rfl) (by intro _ _ _ z; cases z)
      · cases h
    · split at h
      · simp only [Bool.and_eq_true, decide_eq_true_eq] at h
        obtain ⟨⟨⟨⟨⟨h1, h2⟩, h3⟩, h4⟩, h5⟩, h6⟩ := h
        subst h1
        exact okv (se_index C.hu ⟨h2, h3, ns_ok h4⟩ (okE a h5 C).1 (okE b h6 C).1) (fun _ => rfl) (by intro _ _ _ z; cases z)
      · simp only [Bool.and_eq_true, decide_eq_true_eq] at h
        obtain ⟨⟨⟨⟨⟨h1, h2⟩, h3⟩, h4⟩, h5⟩, h6⟩ := h
        subst h1
        exact okv (se_count C.hu ⟨h2, h3, ns_ok h4⟩ (okE a h5 C).1 (okE b h6 C).1) (fun _ => rfl) (by intro _ _ _ z; cases z)
      · cases h
    · cases h
  | .dsp ks vs, sc, e, Γ, h, X, fb, T, C => by
    unfold mtE at h
    split at h; rotate_left; · cases h
    simp only [Bool.and_eq_true, decide_eq_true_eq] at h
    obtain ⟨⟨⟨⟨⟨h1, h2⟩, h3⟩, h4⟩, h5⟩, h6⟩ := h
    exact okv (se_dsp C.calm h1 h2 h3 h4 (okPl ks h5 C) (okPl vs h6 C)) (fun _ => rfl) (by intro _ _ _ z; cases z)
  | .dix a i, sc, e, Γ, h, X, fb, T, C => by
    unfold mtE at h
    split at h; rotate_left; · cases h
    simp only [Bool.and_eq_true] at h
    exact okv (se_dix C.hu (okE a h.1.2 C).1 (okE i h.2 C).1 (plain_sub h.1.1)) (fun _ => rfl) (by intro _ _ _ z; cases z)
  | .call f es, sc, e, Γ, h, X, fb, T, C => by
    unfold mtE at h
    split at h; rotate_left; · cases h
    split at h; rotate_left; · cases h
    rename_i hf
    simp only [Bool.and_eq_true, decide_eq_true_eq] at h
    obtain ⟨⟨⟨⟨⟨h1, h2⟩, h3⟩, h4⟩, h5⟩, h6⟩ := h
    subst h1
    have ns := mtEs_ns h6
    have ns := Bool.t2 ns
    exact okv (se_call (C.fsO _ _ _ _ hf h2) (C.room.mono h2) C.gd (glo_ok C h4) (nm1_ok h5).1 h3 (okEs es h6 C) (ns_ok ns.1) (ns_any ns.2)) (fun _ => rfl) (by intro _ _ _ z; cases z)
  | .cals f es, sc, e, Γ, h, X, fb, T, C => by
    unfold mtE at h
    split at h; rotate_left; · cases h
    split at h; rotate_left; · cases h
    rename_i hf
    simp only [Bool.and_eq_true, decide_eq_true_eq] at h
    obtain ⟨⟨⟨⟨⟨h1, h2⟩, h3⟩, h4⟩, h5⟩, h6⟩ := h
    subst h1
    have ns := mtEs_ns h6
    have ns := Bool.t2 ns
    exact okv (se_cals (C.fsO _ _ _ _ hf h2) (C.room.mono h2) C.gd (glo_ok C h4) (nm1_ok h5).1 h3 (okEs es h6 C) (ns_ok ns.1) (ns_any ns.2)) (fun _ => rfl) (by intro _ _ _ z; cases z)
  | .lc elt p it ifs vs, sc, e, Γ, h, X, fb, T, C => by
    unfold mtE at h
    split at h; rotate_left; · cases h
    simp only [Bool.and_eq_true] at h
    obtain ⟨⟨⟨⟨⟨⟨⟨h1, h2⟩, h3⟩, h4⟩, h5⟩, h6⟩, h7⟩, h8⟩ := h
    have bk := blkOk_by h3
    exact okv (se_lc (map_snd _ _) C.calm (by rw [C.N]; exact C.nd) (okI it h1 C) (by rw [C.N, C.scE]; exact bk) (fun s H c cl fp => okP_ p h4 (C.blk _ bk.kind s H c cl fp)) (fun s H c cl fp => okT ifs h5 (C.blk _ bk.kind s H c cl fp))
      (fun s H c cl fp => (okE elt h6 (C.blk _ bk.kind s H c cl fp)).1) (nset_ok h2) (disj_iff h7) (subl_iff h8)) (fun _ => rfl) (by intro _ _ _ z; cases z)
  | .sc2 elt p it ifs p1 it1 ifs1 vs vs1, sc, e, Γ, h, X, fb, T, C => by
    unfold mtE at h
    split at h; rotate_left; · cases h
    simp only [Bool.and_eq_true, decide_eq_true_eq] at h
    obtain ⟨⟨⟨⟨⟨⟨⟨a1, a2⟩, a3⟩, a4⟩, a5⟩, a6⟩, ⟨⟨⟨⟨⟨⟨b1, b2⟩, b3⟩, b4⟩, b5⟩, b6⟩, b7⟩⟩, ⟨⟨⟨c1, c2⟩, c3⟩, c4⟩⟩ := h
    subst a1
    have bk := blkOk_by a6
    exact okv (se_sc2 (map_snd _ _) C.calm (by rw [C.N]; exact C.nd) (glo_ok C a2) (bs_ok C a3) bt_sorted (okI it a4 C) (by rw [C.N, C.scE]; exact bk) (fun s H c cl fp => okP_ p b1 (C.blk _ bk.kind s H c cl fp)) (fun s H c cl fp => okT ifs b2 (C.blk _ bk.kind s H c cl fp))
      (fun s H c cl fp => okI it1 b3 (C.blk _ bk.kind s H c cl fp)) (fun s H c cl fp => okP_ p1 b5 (C.blk _ bk.kind s H c cl fp)) (fun s H c cl fp => okT ifs1 b6 (C.blk _ bk.kind s H c cl fp))
      (fun s H c cl fp => (okE elt b7 (C.blk _ bk.kind s H c cl fp)).1) (nset_ok a5) (fun env x => nset_ok b4 x) (disj_iff c1) (subl_iff c2) (subl_iff c3) (subl_iff c4)) (fun _ => rfl) (by intro _ _ _ z; cases z)
  | .sc3 elt p it ifs p1 it1 ifs1 vs vs1, sc, e, Γ, h, X, fb, T, C => by
    unfold mtE at h
    split at h; rotate_left; · cases h
    simp only [Bool.and_eq_true, decide_eq_true_eq] at h
    obtain ⟨⟨⟨⟨⟨⟨⟨a1, a2⟩, a3⟩, a4⟩, a5⟩, a6⟩, ⟨⟨⟨⟨⟨⟨b1, b2⟩, b3⟩, b4⟩, b5⟩, b6⟩, b7⟩⟩, ⟨⟨⟨c1, c2⟩, c3⟩, c4⟩⟩ := h
    subst a1
    have bk := blkOk_by a6
    exact okv (se_sc3 (map_snd _ _) C.calm C.hu (by rw [C.N]; exact C.nd) (glo_ok C a2) (bs_ok C a3) bt_sorted (okI it a4 C) (by rw [C.N, C.scE]; exact bk) (fun s H c cl fp => okP_ p b1 (C.blk _ bk.kind s H c cl fp)) (fun s H c cl fp => okT ifs b2 (C.blk _ bk.kind s H c cl fp))
      (fun s H c cl fp => okI it1 b3 (C.blk _ bk.kind s H c cl fp)) (fun s H c cl fp => okP_ p1 b5 (C.blk _ bk.kind s H c cl fp)) (fun s H c cl fp => okT ifs1 b6 (C.blk _ bk.kind s H c cl fp))
      (fun s H c cl fp => (okE elt b7 (C.blk _ bk.kind s H c cl fp)).1) (nset_ok a5) (fun env x => nset_ok b4 x) (disj_iff c1) (subl_iff c2) (subl_iff c3) (subl_iff c4)) (fun _ => rfl) (by intro _ _ _ z; cases z)
  | .lc2 _ _ _ _ _ _ _ _ _, sc, e, Γ, h, X, fb, T, C => by
    unfold mtE at h
    cases h
theorem okEs : ∀ (r : CEs) {sc : Scope} {es : List Expr} {Γ : Gm}, mtEs Γ sc r es = true → ∀ {X : Cx} {fb : Str → Bool} {T : Nat → List D → Option D}, CxOk X Γ sc fb T → SA X T Γ.M es r
  | .nil, sc, es, Γ, h, X, fb, T, C => by
    cases es with
    | nil => exact sa_nil
    | cons _ _ => simp [mtEs] at h
  | .cons c r, sc, es, Γ, h, X, fb, T, C => by
    cases es with
    | nil => simp [mtEs] at h
    | cons e s =>
      simp only [mtEs, Bool.and_eq_true] at h
      exact sa_cons (okE c h.1.1 C).1 (okEs r h.2 C) (ns_ok h.1.2)
theorem okPl : ∀ (r : CEs) {sc : Scope} {es : List Expr} {Γ : Gm}, mtEs Γ sc r es = true → ∀ {X : Cx} {fb : Str → Bool} {T : Nat → List D → Option D}, CxOk X Γ sc fb T → Each X T Γ.M es r
  | .nil, sc, es, Γ, h, X, fb, T, C => by
    cases es with
    | nil => exact .nil
    | cons _ _ => simp [mtEs] at h
  | .cons c r, sc, es, Γ, h, X, fb, T, C => by
    cases es with
    | nil => simp [mtEs] at h
    | cons e s =>
      simp only [mtEs, Bool.and_eq_true] at h
      exact .cons (okE c h.1.1 C).1 (okPl r h.2 C)
theorem okSs : ∀ (r : CEs) {sc : Scope} {es : List Expr} {Γ : Gm}, mtSs Γ sc r es = true → ∀ {X : Cx} {fb : Str → Bool} {T : Nat → List D → Option D}, CxOk X Γ sc fb T → SS X T Γ.M es r
  | .nil, sc, es, Γ, h, X, fb, T, C => by
    cases es with
    | nil => exact ss_nil
    | cons _ _ => simp [mtSs] at h
  | .cons c r, sc, es, Γ, h, X, fb, T, C => by
    unfold mtSs at h
    split at h
    · rename_i heq; cases heq
    · rename_i heq
      injection heq with e1 e2
      subst e1; subst e2
      split at h; rotate_left; · cases h
      simp only [Bool.and_eq_true] at h
      exact ss_star (okE _ h.1 C).1 (okSs r h.2 C) rfl
    · rename_i hne heq
      injection heq with e1 e2
      subst e1; subst e2
      split at h; rotate_left; · cases h
      simp only [Bool.and_eq_true] at h
      exact ss_cons (okE c h.1.1 C).1 (okSs r h.2 C) (fun z e => hne z e) (ns_ok h.1.2)
theorem okC : ∀ (r : Cops) {sc : Scope} {ops : List CmpOp} {es : List Expr} {Γ : Gm}, mtC Γ sc r ops es = true → ∀ {X : Cx} {fb : Str → Bool} {T : Nat → List D → Option D}, CxOk X Γ sc fb T → SC X T Γ.M r ops es
  | .nil, sc, ops, es, Γ, h, X, fb, T, C => by simp [mtC] at h
  | .cons o c .nil, sc, ops, es, Γ, h, X, fb, T, C => by
    unfold mtC at h
    split at h; rotate_left; · cases h
    simp only [Bool.and_eq_true] at h
    rw [cop_ok h.1.1]
    exact .one (okE c h.2 C).1 (nset_bm h.1.2)
  | .cons o c (.cons o2 c2 r2), sc, ops, es, Γ, h, X, fb, T, C => by
    unfold mtC at h
    split at h; rotate_left; · cases h
    simp only [Bool.and_eq_true] at h
    rw [cop_ok h.1.1]
    exact .more (okE c h.1.2 C).1 (okC (.cons o2 c2 r2) h.2 C)
theorem okT : ∀ (r : CEs) {sc : Scope} {es : List Expr} {Γ : Gm}, mtT Γ sc r es = true → ∀ {X : Cx} {fb : Str → Bool} {T : Nat → List D → Option D}, CxOk X Γ sc fb T → STs X T Γ.M es r
  | .nil, sc, es, Γ, h, X, fb, T, C => by
    cases es with
    | nil => exact sts_nil
    | cons _ _ => simp [mtT] at h
  | .cons c .nil, sc, es, Γ, h, X, fb, T, C => by
    unfold mtT at h
    split at h; rotate_left; · cases h
    simp only [Bool.and_eq_true] at h
    exact sts_one ((okE c h.1 C).2 h.2).1
  | .cons _ (.cons _ _), sc, es, Γ, h, X, fb, T, C => by simp [mtT] at h
theorem okI : ∀ (ci : CI) {sc : Scope} {tg e : Expr} {Γ : Gm}, mtI Γ sc ci tg e = true → ∀ {X : Cx} {fb : Str → Bool} {T : Nat → List D → Option D}, CxOk X Γ sc fb T → SI X T Γ.M tg e ci
  | .ofl a, sc, tg, e, Γ, h, X, fb, T, C => si_ofl (okE a (by simpa only [mtI] using h) C).1
  | .rng1 a, sc, tg, e, Γ, h, X, fb, T, C => by
    unfold mtI at h
    split at h; rotate_left; · cases h
    simp only [Bool.and_eq_true, decide_eq_true_eq] at h
    obtain ⟨⟨⟨⟨h1, h2⟩, h3⟩, h4⟩, h5⟩ := h
    subst h1
    exact si_rng1 ⟨glo_ok C h2, bs_ok C h3⟩ (okE a h5 C).1 (ns_ok h4)
  | .rng2 a b, sc, tg, e, Γ, h, X, fb, T, C => by
    unfold mtI at h
    split at h; rotate_left; · cases h
    simp only [Bool.and_eq_true, decide_eq_true_eq] at h
    obtain ⟨⟨⟨⟨⟨⟨h1, h2⟩, h3⟩, h4⟩, h5⟩, h6⟩, h7⟩ := h
    subst h1
    exact si_rng2 ⟨glo_ok C h2, bs_ok C h3⟩ (okE a h6 C).1 (okE b h7 C).1 (by rw [ns_ok h4, ns_ok h5]; rfl) (ns_ok h5)
  | .rng3 a b c, sc, tg, e, Γ, h, X, fb, T, C => by
    unfold mtI at h
    split at h; rotate_left; · cases h
    simp only [Bool.and_eq_true, decide_eq_true_eq] at h
    obtain ⟨⟨⟨⟨⟨⟨⟨⟨h1, h2⟩, h3⟩, h4⟩, h5⟩, h6⟩, h7⟩, h8⟩, h9⟩ := h
    subst h1
    exact si_rng3 ⟨glo_ok C h2, bs_ok C h3⟩ (okE a h7 C).1 (okE b h8 C).1 (okE c h9 C).1 (ns_ok h4) (ns_ok h5) (ns_ok h6) (ns_any (by simp [allNs, h5, h6]))
  | .enum a, sc, tg, e, Γ, h, X, fb, T, C => by
    unfold mtI at h
    split at h; rotate_left; · cases h
    simp only [Bool.and_eq_true, decide_eq_true_eq] at h
    obtain ⟨⟨⟨⟨h1, h2⟩, h3⟩, h4⟩, h5⟩ := h
    subst h1
    exact si_enum ⟨glo_ok C h2, bs_ok C h3⟩ (okE a h5 C).1 (ns_ok h4)
  | .zip a b, sc, tg, e, Γ, h, X, fb, T, C => by
    unfold mtI at h
    split at h; rotate_left; · cases h
    simp only [Bool.and_eq_true, decide_eq_true_eq] at h
    obtain ⟨⟨⟨⟨⟨⟨h1, h2⟩, h3⟩, h4⟩, h5⟩, h6⟩, h7⟩ := h
    subst h1
    exact si_zip ⟨glo_ok C h2, bs_ok C h3⟩ (okE a h6 C).1 (okE b h7 C).1 (ns_ok h4) (ns_ok h5) (ns_any (by simp [allNs, h5]))
end
end DI
set_option maxRecDepth 100000
set_option maxHeartbeats 4000000
/-! DI: statements matched. -/
namespace DI
open PySem L2
/-- what swapsWith says of a value and a target -/
def swB (sc : Scope) (v t : Expr) : Option Bool := match v with
  | .ListComp _ _ s vp => (match t with
    | .Name x p => some ((if sc.kind.isAnnotationScope then ScopeKind.function else sc.kind) == .function && sc.names.lookup x == some .local && p.line == vp.line && !(s.names.any fun (n, k) => n == x && (k == .local || k == .cell)))
    | _ => some false)
  | .SetComp _ _ _ _ => none
  | .DictComp _ _ _ _ _ => none
  | _ => some false
theorem swB_ok {env : PySem.Env} {sc : Scope} {v t : Expr} {b : Bool} {line : Nat} (hs : env.scope = sc) (h : swB sc v t = some b) : swapsWith v (some t) line env = pure b := by
  subst hs
  cases v <;> first | (simp only [swB, Option.some.injEq] at h; subst h; rfl) | (simp [swB] at h; done) | skip
  cases t <;> (simp only [swB, Option.some.injEq] at h; subst h; rfl)
/-- no comprehension dropped -/
def noComp : Expr → Bool
  | .ListComp _ _ _ _ => false
  | .SetComp _ _ _ _ => false
  | .DictComp _ _ _ _ _ => false
  | _ => true
theorem noComp_ok {env : PySem.Env} {v : Expr} {t : Option Expr} {line : Nat} (h : noComp v = true) : swapsWith v t line env = pure false := by
  cases v <;> first | rfl | (simp [noComp] at h)
/-- a tuple display stored into a tuple of names, swapped or not -/
def noTup : Expr → Bool
  | .Tuple _ _ _ => false
  | _ => true
def folded : Expr → Bool
  | .Tuple vs _ _ => vs.all (foldedForSure 8)
  | _ => false
def noTL : Expr → Bool
  | .Tuple _ _ _ => false
  | .List _ _ => false
  | _ => true
def noneSw (sc : Scope) (t v : Expr) : Bool := noTL t || noTup v || (match t, v with
  | .Tuple ts _ _, .Tuple vs _ _ => (!(ts.length == 2 || ts.length == 3) || vs.length != ts.length) || (vs.all (foldedForSure 8) && !(vs.any fun | .Starred .. => true | _ => false) && (sc.kind == .function)) ||
     (!(vs.any fun | .Starred .. => true | _ => false) && (sc.kind == .function) && (ts.any fun | .Name x _ => !(sc.names.lookup x == some .local) | _ => true))
  | _, _ => false)
theorem fm_len {α β : Type} (f : α → Option β) (g : α → Bool) (hg : ∀ a, g a = true → f a = none) : ∀ {l : List α}, l.any g = true → (l.filterMap f).length < l.length
  | [], h => by simp at h
  | a :: r, h => by
    cases q : g a with
    | true =>
      rw [List.filterMap_cons_none (hg a q)]
      exact Nat.lt_succ_of_le (List.length_filterMap_le f r)
    | false =>
      have h' : r.any g = true := by simpa [List.any_cons, q] using h
      have ih := fm_len f g hg h'
      cases e : f a with
      | none => rw [List.filterMap_cons_none e]; simp only [List.length_cons]; omega
      | some b => rw [List.filterMap_cons_some e]; simp only [List.length_cons]; omega
theorem noneSw_ok {env : PySem.Env} {sc : Scope} {t v : Expr} (hs : env.scope = sc) (hk : sc.kind = .function) (h : noneSw sc t v = true) : swappedStores [t] v env = pure none := by
  subst hs
  unfold noneSw at h
  cases t <;> first | rfl | skip
  · rename_i ts p
    cases v <;> first | rfl | skip
    simp [noTL, noTup] at h
  · rename_i ts k p
    cases v <;> first | rfl | skip
    rename_i vs k2 p2
    unfold swappedStores
    simp only
    split
    · rfl
    · rename_i c1
      split
      · rfl
      · rename_i c2
        simp only [noTL, noTup, Bool.false_or, Bool.or_eq_true, Bool.and_eq_true] at h
        have c1' : ((!(ts.length == 2 || ts.length == 3) || vs.length != ts.length) = true) = False := by
          simp only [eq_iff_iff, iff_false]
          intro z
          exact c1 (by rw [z]; rfl)
        split
        · rfl
        · rename_i c3
          split
          · rfl
          · rename_i c4
            rcases h with (h | h) | h
            · exact (c1'.mp (by simpa only [Bool.or_eq_true] using h)).elim
            · exact absurd h.1.1 c4
            · exfalso
              apply c3
              have := h.2
              exact (Bool.or_eq_true _ _).mpr (.inl (bne_iff_ne.mpr (Nat.ne_of_lt (fm_len _ _ (fun a ha => by cases a <;> first | rfl | (simp only [Bool.not_eq_true'] at ha; show (if _ then _ else _) = none; rw [if_neg]; rw [Bool.and_eq_true]; intro z; rw [show (env.kindOf _ == some NameKind.local) = false from ha] at z; exact absurd z.1 (by simp))) this))))
end DI
set_option maxRecDepth 100000
set_option maxHeartbeats 4000000
/-! DI: statements matched. -/
namespace DI
open PySem L2
def starB : Expr → Bool
  | .Starred .. => true
  | _ => false
theorem star_no {e : Expr} (h : noStar e = true) : starB e = false := by
  cases e <;> first | rfl | (simp [noStar] at h)
theorem par2_ok {env : PySem.Env} {sc : Scope} {x y : Str} {px py pt pt2 : Pos} {kt k2 : Nat} {a b : Expr} (hs : env.scope = sc) (hk : sc.kind = .function) (hx : sc.names.lookup x = some .local) (hy : sc.names.lookup y = some .local) (hl : (py.line == px.line) = true) (hxy : x ≠ y) (ha : noStar a = true) (hb : noStar b = true)
    (hf : (foldedForSure 8 a && foldedForSure 8 b) = false) (hc : (constantsAlone 8 a && constantsAlone 8 b) = false) : swappedStores [.Tuple [.Name x px, .Name y py] kt pt] (.Tuple [a, b] k2 pt2) env = pure (some [x, y]) := by
  subst hs
  have bk : (env.blockKind == ScopeKind.function) = true := by unfold PySem.Env.blockKind; rw [hk]; rfl
  have e1 : env.kindOf x = some .local := hx
  have e2 : env.kindOf y = some .local := hy
  have l1 : (px.line == px.line) = true := beq_self_eq_true _
  have q : (List.eraseDups [x, y]).length = 2 := by
    have : (y == x) = false := beq_eq_false_iff_ne.mpr fun z => hxy z.symm
    simp [List.eraseDups_cons, this]
  have sa := star_no ha
  have sb := star_no hb
  have f1 : [a, b].all (foldedForSure 8) = false := by simpa using hf
  have f2 : [a, b].all (constantsAlone 8) = false := by simpa using hc
  unfold swappedStores
  have bk' : (env.blockKind != ScopeKind.function) = false := by simp only [bne, bk, Bool.not_true]
  simp only [List.length_cons, List.length_nil, bk', List.any_cons, List.any_nil, List.head?_cons, Option.map_some, Option.getD_some, Expr.pos, List.filterMap_cons, List.filterMap_nil, e1, e2, hl, l1, f1, f2, q]
  refine (if_neg (by simp)).trans ((if_neg ?_).trans ((if_neg ?_).trans ((if_neg (by simp)).trans ((if_neg (by simp)).trans rfl))))
  · show ¬ (starB a || (starB b || false)) = true
    rw [sa, sb]; simp
  · simp only [beq_self_eq_true, Bool.and_self, if_true, q]
    simp
theorem par3_ok {env : PySem.Env} {sc : Scope} {x y z : Str} {px py pz pt pt2 : Pos} {kt k2 : Nat} {a b c : Expr} (hs : env.scope = sc) (hk : sc.kind = .function) (hx : sc.names.lookup x = some .local) (hy : sc.names.lookup y = some .local) (hz : sc.names.lookup z = some .local) (hl : (py.line == px.line) = true) (hl2 : (pz.line == px.line) = true)
    (hxy : x ≠ y) (hxz : x ≠ z) (hyz : y ≠ z) (ha : noStar a = true) (hb : noStar b = true) (hcs : noStar c = true)
    (hf : (foldedForSure 8 a && (foldedForSure 8 b && foldedForSure 8 c)) = false) (hc : (constantsAlone 8 a && (constantsAlone 8 b && constantsAlone 8 c)) = false) : swappedStores [.Tuple [.Name x px, .Name y py, .Name z pz] kt pt] (.Tuple [a, b, c] k2 pt2) env = pure (some [x, y, z]) := by
  subst hs
  have bk : (env.blockKind == ScopeKind.function) = true := by unfold PySem.Env.blockKind; rw [hk]; rfl
  have e1 : env.kindOf x = some .local := hx
  have e2 : env.kindOf y = some .local := hy
  have e3 : env.kindOf z = some .local := hz
  have l1 : (px.line == px.line) = true := beq_self_eq_true _
  have q : (List.eraseDups [x, y, z]).length = 3 := by
    have q1 : (y == x) = false := beq_eq_false_iff_ne.mpr fun z => hxy z.symm
    have q2 : (z == x) = false := beq_eq_false_iff_ne.mpr fun z => hxz z.symm
    have q3 : (z == y) = false := beq_eq_false_iff_ne.mpr fun z => hyz z.symm
    simp [List.eraseDups_cons, q1, q2, q3]
  have sa := star_no ha
  have sb := star_no hb
  have sc' := star_no hcs
  have f1 : [a, b, c].all (foldedForSure 8) = false := by simpa using hf
  have f2 : [a, b, c].all (constantsAlone 8) = false := by simpa using hc
  unfold swappedStores
  have bk' : (env.blockKind != ScopeKind.function) = false := by simp only [bne, bk, Bool.not_true]
  simp only [List.length_cons, List.length_nil, bk', List.any_cons, List.any_nil, List.head?_cons, Option.map_some, Option.getD_some, Expr.pos, List.filterMap_cons, List.filterMap_nil, e1, e2, e3, hl, hl2, l1, f1, f2, q]
  refine (if_neg (by simp)).trans ((if_neg ?_).trans ((if_neg ?_).trans ((if_neg (by simp)).trans ((if_neg (by simp)).trans rfl))))
  · show ¬ (starB a || (starB b || (starB c || false))) = true
    rw [sa, sb, sc']; simp
  · simp only [beq_self_eq_true, Bool.and_self, if_true, q]
    simp
end DI
set_option maxRecDepth 100000
set_option maxHeartbeats 4000000
/-! DI: a matched block keeps its word. -/
namespace DI
open PySem L2
def asgB (Γ : Gm) (sc : Scope) (fb : Str → Bool) (p : Pat) (c : CE) (tg v : Expr) : Bool := mtP Γ sc fb p tg && mtE Γ sc c v && noStar tg && decide (swB sc v tg = some false) && noneSw sc tg v
def parB (Γ : Gm) (sc : Scope) (p : Pat) (c : CE) (tg v : Expr) : Bool := match p, c, tg, v with
  | .t (.cons (.v i) (.cons (.v j) .nil)), .tup es, .Tuple [.Name x px, .Name y py] _ _, .Tuple [a, b] _ _ =>
    decide (Γ.N[i]? = some x) && decide (Γ.N[j]? = some y) && decide (i ≠ j) && decide (x ≠ y) && lcl sc x && lcl sc y && (py.line == px.line) && noStar a && noStar b && !(foldedForSure 8 a && foldedForSure 8 b) && !(constantsAlone 8 a && constantsAlone 8 b) && mtEs Γ sc es [a, b]
  | _, _, _, _ => false
def lcB (Γ : Gm) (sc : Scope) (i : Nat) (c : CE) (tg v : Expr) : Bool := match c, tg, v with
  | .lc elt p it ifs vs, .Name x px, .ListComp a b s d => decide (Γ.N[i]? = some x) && lcl sc x && mtE Γ sc (.lc elt p it ifs vs) (.ListComp a b s d) && decide (swB sc (.ListComp a b s d) (.Name x px) = some true)
  | _, _, _ => false
def ownB (Γ : Gm) (sc : Scope) (fb : Str → Bool) (i : Nat) (c : CE) (tg v : Expr) : Bool := match tg with
  | .Name x _ => decide (Γ.N[i]? = some x) && loc sc x && (fb x || lcl sc x) && mtE Γ sc c v && decide (swB sc v tg = some false)
  | _ => false
def parOB (Γ : Gm) (sc : Scope) (is : List Nat) (es : CEs) (tg v : Expr) : Bool := match is, tg, v with
  | [i, j], .Tuple [.Name x px, .Name y py] _ _, .Tuple [a, b] _ _ =>
    decide (Γ.N[i]? = some x) && decide (Γ.N[j]? = some y) && decide (i ≠ j) && decide (x ≠ y) && lcl sc x && lcl sc y && (py.line == px.line) && noStar a && noStar b && !(foldedForSure 8 a && foldedForSure 8 b) && !(constantsAlone 8 a && constantsAlone 8 b) && mtEs Γ sc es [a, b]
  | [i, j, l], .Tuple [.Name x px, .Name y py, .Name z pz] _ _, .Tuple [a, b, c] _ _ =>
    (decide (Γ.N[i]? = some x) && decide (Γ.N[j]? = some y) && decide (Γ.N[l]? = some z) && decide (i ≠ j) && decide (i ≠ l) && decide (j ≠ l) && decide (x ≠ y) && decide (x ≠ z) && decide (y ≠ z)) && (lcl sc x && lcl sc y && lcl sc z && (py.line == px.line) && (pz.line == px.line) && noStar a && noStar b && noStar c) && (!(foldedForSure 8 a && (foldedForSure 8 b && foldedForSure 8 c)) && !(constantsAlone 8 a && (constantsAlone 8 b && constantsAlone 8 c)) && mtEs Γ sc es [a, b, c])
  | _, _, _ => false
def nmsB (Γ : Gm) (sc : Scope) (fb : Str → Bool) : List Nat → List Expr → Bool
  | [], [] => true
  | i :: is, .Name x _ :: es => decide (Γ.N[i]? = some x) && loc sc x && (fb x || lcl sc x) && nmsB Γ sc fb is es
  | _, _ => false
def parTB (Γ : Gm) (sc : Scope) (fb : Str → Bool) (is : List Nat) (es : CEs) (tg v : Expr) : Bool := match tg, v with
  | .Tuple ts k p, .Tuple xs k2 p2 => nmsB Γ sc fb is ts && decide is.Nodup && decide (is.length ≤ 1000) && mtEs Γ sc es xs && noneSw sc (.Tuple ts k p) (.Tuple xs k2 p2)
  | _, _ => false
mutual
def mtS (Γ : Gm) (sc : Scope) (fb : Str → Bool) : CS → Stmt → Bool
  | .asg p c, s => (match s with | .Assign [tg] v _ => asgB Γ sc fb p c tg v || parB Γ sc p c tg v || (match p with | .v i => lcB Γ sc i c tg v | _ => false) | _ => false)
  | .own i c, s => (match s with | .Assign [tg] v _ => ownB Γ sc fb i c tg v || lcB Γ sc i c tg v | _ => false)
  | .par is es, s => (match s with | .Assign [tg] v _ => parOB Γ sc is es tg v || parTB Γ sc fb is es tg v | _ => false)
  | .app i c, s => (match s with | .Expr (.Call (.Attribute (.Name x _) nm apos) [e] [] cpos) _ => decide (nm = "append") && decide (Γ.N[i]? = some x) && vis sc x && nm1 x && (apos.endLine == cpos.line) && noStar e && mtE Γ sc c e | _ => false)
  | .put i ix c, s => (match s with | .Assign [.Subscript (.Name x _) ei _] v _ => decide (Γ.N[i]? = some x) && vis sc x && nm1 x && plainIx ei && noComp v && mtE Γ sc ix ei && mtE Γ sc c v | _ => false)
  | .ret c, s => (match s with | .Return (some e) _ => mtE Γ sc c e | _ => false)
  | .retN, s => (match s with | .Return none _ => true | _ => false)
  | .rse, _ => true
  | .pass, s => (match s with | .Pass _ => true | _ => false)
  | .brk, s => (match s with | .Break _ => true | _ => false)
  | .cnt, s => (match s with | .Continue _ => true | _ => false)
  | .exp c, s => (match s with | .Expr e _ => mtE Γ sc c e && noComp e | _ => false)
  | .ife c a b, s => (match s with | .If e x y _ => mtE Γ sc c e && tst c && mtSB Γ sc fb a x && mtSB Γ sc fb b y | _ => false)
  | .forr p it body _, s => (match s with | .For tg iter x [] _ => mtI Γ sc it tg iter && notSet iter && mtP Γ sc fb p tg && mtSB Γ sc fb body x | _ => false)
  | .whl c body _, s => (match s with | .While e x [] _ => mtE Γ sc c e && tst c && mtSB Γ sc fb body x | _ => false)
  | .ext _ _, _ => false
  | .putS _ _ _ _, _ => false
  | .pop _, _ => false
  | .popA _ _ _, _ => false
def mtSB (Γ : Gm) (sc : Scope) (fb : Str → Bool) : CSs → List Stmt → Bool
  | .nil, ss => ss.isEmpty
  | .cons c r, ss => (match ss with | s :: ss => mtS Γ sc fb c s && mtSB Γ sc fb r ss | [] => false)
end
section
variable {X : Cx} {Γ : Gm} {sc : Scope} {fb : Str → Bool} {T : Nat → List D → Option D} {L : Option (List Nat)} {own : List Nat}
theorem asg_ok (C : CxOk X Γ sc fb T) {p : Pat} {c : CE} {tg v : Expr} {pos : Pos} (h : asgB Γ sc fb p c tg v = true) : SSt X T Γ.M L own (diff (diff own (al c)) p.slots) (.Assign [tg] v pos) (.asg p c) := by
  simp only [asgB, Bool.and_eq_true, decide_eq_true_eq] at h
  obtain ⟨⟨⟨⟨h1, h2⟩, h3⟩, h4⟩, h5⟩ := h
  exact sst_asg (okE c h2 C).1 (okP_ p h1 C) (swB_ok C.scE h4) (noneSw_ok C.scE C.kd h5) (by cases tg <;> first | rfl | (simp [noStar] at h3))
theorem par_ok (C : CxOk X Γ sc fb T) {p : Pat} {c : CE} {tg v : Expr} {pos : Pos} (h : parB Γ sc p c tg v = true) : SSt X T Γ.M L own (diff (diff own (al c)) p.slots) (.Assign [tg] v pos) (.asg p c) := by
  unfold parB at h
  split at h
  · rename_i i j es x px y py kt pt a b k2 pt2
    simp only [Bool.and_eq_true, decide_eq_true_eq, Bool.not_eq_true'] at h
    obtain ⟨⟨⟨⟨⟨⟨⟨⟨⟨⟨⟨h1, h2⟩, h3⟩, h4⟩, h5⟩, h6⟩, h7⟩, h8⟩, h9⟩, h10⟩, h11⟩, h12⟩ := h
    have x1 := lcl_ok C h5
    have y1 := lcl_ok C h6
    refine PS.imp (ps_par C.calm (by rw [C.N]; exact C.nd) (by rw [C.N]; exact h1) (by rw [C.N]; exact h2) h3 x1 y1 (okEs es h12 C) (par2_ok C.scE C.kd (by rw [← C.scE]; exact x1) (by rw [← C.scE]; exact y1) h7 h4 h8 h9 h10 h11)) fun D σ H q => par_imp2 q
  · cases h
theorem okL (C : CxOk X Γ sc fb T) : ∀ {cs : CEs} {es : List Expr}, mtEs Γ sc cs es = true → PA X es (tL X.K T Γ.M cs)
  | .nil, [], h => pa_nil
  | .nil, _ :: _, h => by simp [mtEs] at h
  | .cons c r, [], h => by simp [mtEs] at h
  | .cons c r, e :: es, h => by
    simp only [mtEs, Bool.and_eq_true] at h
    exact pa_cons (okE c h.1.1 C).1 (okL C h.2) (ns_ok h.1.2)
theorem parO_ok (C : CxOk X Γ sc fb T) {is : List Nat} {es : CEs} {tg v : Expr} {pos : Pos} (h : parOB Γ sc is es tg v = true) : SSt X T Γ.M L own (newsOf Γ.M is es ++ diff (diff own (als es)) is) (.Assign [tg] v pos) (.par is es) := by
  unfold parOB at h
  split at h
  · rename_i i j x px y py kt pt a b k2 pt2
    simp only [Bool.and_eq_true, decide_eq_true_eq, Bool.not_eq_true'] at h
    obtain ⟨⟨⟨⟨⟨⟨⟨⟨⟨⟨⟨h1, h2⟩, h3⟩, h4⟩, h5⟩, h6⟩, h7⟩, h8⟩, h9⟩, h10⟩, h11⟩, h12⟩ := h
    have x1 := lcl_ok C h5
    have y1 := lcl_ok C h6
    exact sst_par2 C.calm (by rw [C.N]; exact C.nd) (by rw [C.N]; exact h1) (by rw [C.N]; exact h2) h3 x1 y1 (okL C h12) (par2_ok C.scE C.kd (by rw [← C.scE]; exact x1) (by rw [← C.scE]; exact y1) h7 h4 h8 h9 h10 h11)
  · rename_i i j l x px y py z pz kt pt a b c k2 pt2
    simp only [Bool.and_eq_true, decide_eq_true_eq, Bool.not_eq_true'] at h
    obtain ⟨⟨⟨⟨⟨⟨⟨⟨⟨⟨a1, a2⟩, a3⟩, a4⟩, a5⟩, a6⟩, a7⟩, a8⟩, a9⟩, ⟨⟨⟨⟨⟨⟨⟨b1, b2⟩, b3⟩, b4⟩, b5⟩, b6⟩, b7⟩, b8⟩⟩, ⟨⟨c1, c2⟩, c3⟩⟩ := h
    have x1 := lcl_ok C b1
    have y1 := lcl_ok C b2
    have z1 := lcl_ok C b3
    exact sst_par3 C.calm (by rw [C.N]; exact C.nd) (by rw [C.N]; exact a1) (by rw [C.N]; exact a2) (by rw [C.N]; exact a3) a4 a5 a6 x1 y1 z1 (okL C c3) (par3_ok C.scE C.kd (by rw [← C.scE]; exact x1) (by rw [← C.scE]; exact y1) (by rw [← C.scE]; exact z1) b4 b5 a7 a8 a9 b6 b7 b8 c1 c2)
  · cases h
theorem nms_ok (C : CxOk X Γ sc fb T) : ∀ {is : List Nat} {es : List Expr}, nmsB Γ sc fb is es = true → PGs X es (gNms is) ∧ (assignEach es X.env).length = is.length ∧ (assignEach es X.env).findIdx? (·.1) = none
  | [], [], _ => ⟨sgs_nms_nil, rfl, rfl⟩
  | i :: is, e :: es, h => by
    cases e with
    | Name x p =>
      simp only [nmsB, Bool.and_eq_true, decide_eq_true_eq, Bool.or_eq_true] at h
      obtain ⟨⟨⟨h1, h2⟩, h3⟩, h4⟩ := h
      obtain ⟨i1, i2, i3⟩ := nms_ok C h4
      have ae : assignEach (.Name x p :: es) X.env = (false, assign (.Name x p) X.env) :: assignEach es X.env := rfl
      exact ⟨sgs_nms_cons (by rw [C.N]; exact C.nd) (by rw [C.N]; exact h1) (loc_ok C h2) (h3.elim (fun z => .inl (C.fn _ z)) fun z => .inr (lcl_ok C z)) i1, by rw [ae]; simp [i2], by rw [ae, List.findIdx?_cons]; simp [i3]⟩
    | _ => simp [nmsB] at h
  | [], _ :: _, h => by simp [nmsB] at h
  | _ :: _, [], h => by simp [nmsB] at h
theorem parT_ok (C : CxOk X Γ sc fb T) {is : List Nat} {es : CEs} {tg v : Expr} {pos : Pos} (h : parTB Γ sc fb is es tg v = true) : SSt X T Γ.M L own (newsOf Γ.M is es ++ diff (diff own (als es)) is) (.Assign [tg] v pos) (.par is es) := by
  unfold parTB at h
  split at h; rotate_left; · cases h
  simp only [Bool.and_eq_true, decide_eq_true_eq] at h
  obtain ⟨⟨⟨⟨h1, h2⟩, h3⟩, h4⟩, h5⟩ := h
  obtain ⟨i1, i2, i3⟩ := nms_ok C h1
  exact sst_parT C.calm h2 h3 i1 i2 i3 (okL C h4) (noneSw_ok C.scE C.kd h5)
theorem lc_ok (C : CxOk X Γ sc fb T) (ow : Bool) {i : Nat} {c : CE} {tg v : Expr} {pos : Pos} (h : lcB Γ sc i c tg v = true) (hM : ow = true → i ∈ Γ.M) :
    SSt X T Γ.M L own (if ow then (i :: diff (diff own (al c)) [i]) else diff (diff own (al c)) [i]) (.Assign [tg] v pos) (if ow then .own i c else .asg (.v i) c) ∧ (∃ elt p it ifs vs, c = .lc elt p it ifs vs) := by
  unfold lcB at h
  split at h
  · rename_i elt p it ifs vs x px a b s d
    simp only [Bool.and_eq_true, decide_eq_true_eq] at h
    obtain ⟨⟨⟨h1, h2⟩, h3⟩, h4⟩ := h
    refine ⟨?_, _, _, _, _, _, rfl⟩
    unfold mtE at h3
    split at h3; rotate_left; · cases h3
    rename_i heq
    cases heq
    simp only [Bool.and_eq_true] at h3
    obtain ⟨⟨⟨⟨⟨⟨⟨g1, g2⟩, g3⟩, g4⟩, g5⟩, g6⟩, g7⟩, g8⟩ := h3
    have bk := blkOk_by g3
    have x1 := lcl_ok C h2
    exact sst_lc ow (map_snd _ _) ⟨by rw [C.N]; exact C.nd, by rw [C.N]; exact h1, .inl x1, .inr x1⟩ x1 C.calm (swB_ok C.scE h4) (okI it g1 C) (by rw [C.N, C.scE]; exact bk) (fun s H c cl fp => okP_ p g4 (C.blk _ bk.kind s H c cl fp)) (fun s H c cl fp => okT ifs g5 (C.blk _ bk.kind s H c cl fp))
      (fun s H c cl fp => (okE elt g6 (C.blk _ bk.kind s H c cl fp)).1) (nset_ok g2) (disj_iff g7) (subl_iff g8) hM
  · cases h
theorem own_ok (C : CxOk X Γ sc fb T) {i : Nat} {c : CE} {tg v : Expr} {pos : Pos} (hf : fresh c = true) (hM : i ∈ Γ.M) (h : ownB Γ sc fb i c tg v = true) : SSt X T Γ.M L own (i :: diff (diff own (ale c)) [i]) (.Assign [tg] v pos) (.own i c) := by
  unfold ownB at h
  split at h
  · rename_i x px
    simp only [Bool.and_eq_true, decide_eq_true_eq, Bool.or_eq_true] at h
    obtain ⟨⟨⟨⟨h1, h2⟩, h3⟩, h4⟩, h5⟩ := h
    exact sst_own ⟨by rw [C.N]; exact C.nd, by rw [C.N]; exact h1, loc_ok C h2, h3.elim (fun z => .inl (C.fn _ z)) fun z => .inr (lcl_ok C z)⟩ hf hM (okE c h4 C).1 (swB_ok C.scE h5)
  · cases h
end
theorem noComp_sole {env : PySem.Env} {t v : Expr} {line : Nat} (h : noComp v = true) : swapsWithSole [t] v line env = pure false := by
  have e : swapsWithSole [t] v line env = swapsWith v (some t) line env := by rfl
  rw [e]
  exact noComp_ok h
mutual
theorem okSt : ∀ (cs : CS) {sc : Scope} {fb : Str → Bool} {st : Stmt} {Γ : Gm} {L : Option (List Nat)} {own own' : List Nat}, mtS Γ sc fb cs st = true → chk Γ.M L own cs = some own' → ∀ {X : Cx} {T : Nat → List D → Option D}, CxOk X Γ sc fb T → PassesOwn (model X.prog X.w) X.A X.env X.xe → SSt X T Γ.M L own own' st cs
  | .asg p c, sc, fb, st, Γ, L, own, own', h, k, X, T, C, pp => by
    simp only [chk, Option.some.injEq] at k
    subst k
    unfold mtS at h
    split at h; rotate_left; · cases h
    simp only [Bool.or_eq_true] at h
    rcases h with (h | h) | h
    · exact asg_ok C h
    · exact par_ok C h
    · split at h
      · exact (lc_ok C false h (by intro z; cases z)).1
      · cases h
  | .own i c, sc, fb, st, Γ, L, own, own', h, k, X, T, C, pp => by
    simp only [chk] at k
    split at k
    · rename_i hk
      simp only [Bool.and_eq_true] at hk
      have hM : i ∈ Γ.M := by simpa using hk.2
      simp only [Option.some.injEq] at k
      subst k
      unfold mtS at h
      split at h; rotate_left; · cases h
      simp only [Bool.or_eq_true] at h
      rcases h with h | h
      · exact own_ok C hk.1 hM h
      · obtain ⟨q, elt, p, it, ifs, vs, e⟩ := lc_ok (L := L) (own := own) (T := T) C true h (fun _ => hM)
        subst e
        exact q
    · cases k
  | .par is es, sc, fb, st, Γ, L, own, own', h, k, X, T, C, pp => by
    simp only [chk, Option.some.injEq] at k
    subst k
    unfold mtS at h
    split at h; rotate_left; · cases h
    simp only [Bool.or_eq_true] at h
    rcases h with h | h
    · exact parO_ok C h
    · exact parT_ok C h
  | .app i c, sc, fb, st, Γ, L, own, own', h, k, X, T, C, pp => by
    simp only [chk] at k
    split at k
    · rename_i hk
      simp only [Bool.and_eq_true] at hk
      simp only [Option.some.injEq] at k
      subst k
      unfold mtS at h
      split at h; rotate_left; · cases h
      simp only [Bool.and_eq_true, decide_eq_true_eq] at h
      obtain ⟨⟨⟨⟨⟨⟨h1, h2⟩, h3⟩, h4⟩, h5⟩, h6⟩, h7⟩ := h
      subst h1
      exact sst_app (by rw [C.N]; exact h2) (vis_ok C h3) (nm1_ok h4).1 (nm1_ok h4).2 (by simpa using hk.1) (disj_iff hk.2 i (by simp)) (okE c h7 C).1 h5 (ns_ok h6)
    · cases k
  | .put i ix c, sc, fb, st, Γ, L, own, own', h, k, X, T, C, pp => by
    simp only [chk] at k
    split at k
    · rename_i hk
      simp only [Bool.and_eq_true] at hk
      simp only [Option.some.injEq] at k
      subst k
      unfold mtS at h
      split at h; rotate_left; · cases h
      simp only [Bool.and_eq_true, decide_eq_true_eq] at h
      obtain ⟨⟨⟨⟨⟨⟨h2, h3⟩, h4⟩, h5⟩, h6⟩, h7⟩, h8⟩ := h
      exact sst_put (by rw [C.N]; exact h2) (vis_ok C h3) (nm1_ok h4).1 (nm1_ok h4).2 (by simpa using hk.1) (disj_iff hk.2 i (by simp)) (okE c h8 C).1 (okE ix h7 C).1 h5 (noComp_sole h6)
    · cases k
  | .ret c, sc, fb, st, Γ, L, own, own', h, k, X, T, C, pp => by
    simp only [chk, Option.some.injEq] at k
    subst k
    unfold mtS at h
    split at h; rotate_left; · cases h
    exact sst_ret (okE c h C).1
  | .retN, sc, fb, st, Γ, L, own, own', h, k, X, T, C, pp => by
    simp only [chk, Option.some.injEq] at k
    subst k
    unfold mtS at h
    split at h; rotate_left; · cases h
    exact sst_retN
  | .rse, sc, fb, st, Γ, L, own, own', h, k, X, T, C, pp => by
    simp only [chk, Option.some.injEq] at k
    subst k
    exact sst_rse
  | .pass, sc, fb, st, Γ, L, own, own', h, k, X, T, C, pp => by
    simp only [chk, Option.some.injEq] at k
    subst k
    unfold mtS at h
    split at h; rotate_left; · cases h
    exact sst_pass
  | .brk, sc, fb, st, Γ, L, own, own', h, k, X, T, C, pp => by
    simp only [chk] at k
    obtain ⟨l, hl, k⟩ := bnd k
    split at k
    · rename_i w
      simp only [Option.some.injEq] at k
      subst k
      unfold mtS at h
      split at h; rotate_left; · cases h
      exact sst_brk hl (subl_iff w)
    · cases k
  | .cnt, sc, fb, st, Γ, L, own, own', h, k, X, T, C, pp => by
    simp only [chk] at k
    obtain ⟨l, hl, k⟩ := bnd k
    split at k
    · rename_i w
      simp only [Option.some.injEq] at k
      subst k
      unfold mtS at h
      split at h; rotate_left; · cases h
      exact sst_cnt hl (subl_iff w)
    · cases k
  | .exp c, sc, fb, st, Γ, L, own, own', h, k, X, T, C, pp => by
    simp only [chk, Option.some.injEq] at k
    subst k
    unfold mtS at h
    split at h; rotate_left; · cases h
    simp only [Bool.and_eq_true] at h
    exact sst_exp (okE c h.1 C).1 (noComp_ok h.2)
  | .ife c a b, sc, fb, st, Γ, L, own, own', h, k, X, T, C, pp => by
    simp only [chk] at k
    obtain ⟨x, kx, k⟩ := bnd k
    obtain ⟨y, ky, k⟩ := mpd k
    subst k
    unfold mtS at h
    split at h; rotate_left; · cases h
    simp only [Bool.and_eq_true] at h
    exact sst_ife ((okE c h.1.1.1 C).2 h.1.1.2).1 (okSB a h.1.2 kx C pp) (okSB b h.2 ky C pp)
  | .forr p it body ob, sc, fb, st, Γ, L, own, own', h, k, X, T, C, pp => by
    simp only [chk] at k
    split at k
    · rename_i hk
      simp only [Bool.and_eq_true] at hk
      obtain ⟨x, kx, k⟩ := bnd k
      split at k
      · rename_i w
        simp only [Option.some.injEq] at k
        subst k
        unfold mtS at h
        split at h; rotate_left; · cases h
        simp only [Bool.and_eq_true] at h
        exact sst_for pp C.calm (okI it h.1.1.1 C) (okP_ p h.1.2 C) (okSB body h.2 kx C pp) (nset_ok h.1.1.2) (subl_iff hk.1) (disj_iff hk.2) (subl_iff w)
      · cases k
    · cases k
  | .whl c body ob, sc, fb, st, Γ, L, own, own', h, k, X, T, C, pp => by
    simp only [chk] at k
    split at k
    · rename_i hk
      obtain ⟨x, kx, k⟩ := bnd k
      split at k
      · rename_i w
        simp only [Option.some.injEq] at k
        subst k
        unfold mtS at h
        split at h; rotate_left; · cases h
        simp only [Bool.and_eq_true] at h
        exact sst_whl pp ((okE c h.1.1 C).2 h.1.2).1 (okSB body h.2 kx C pp) (subl_iff hk) (subl_iff w)
      · cases k
    · cases k
  | .ext _ _, sc, fb, st, Γ, L, own, own', h, k, X, T, C, pp => by simp [chk] at k
  | .putS _ _ _ _, sc, fb, st, Γ, L, own, own', h, k, X, T, C, pp => by simp [chk] at k
  | .pop _, sc, fb, st, Γ, L, own, own', h, k, X, T, C, pp => by simp [chk] at k
  | .popA _ _ _, sc, fb, st, Γ, L, own, own', h, k, X, T, C, pp => by simp [chk] at k
theorem okSB : ∀ (cs : CSs) {sc : Scope} {fb : Str → Bool} {st : List Stmt} {Γ : Gm} {L : Option (List Nat)} {own own' : List Nat}, mtSB Γ sc fb cs st = true → chks Γ.M L own cs = some own' → ∀ {X : Cx} {T : Nat → List D → Option D}, CxOk X Γ sc fb T → PassesOwn (model X.prog X.w) X.A X.env X.xe → SSs X T Γ.M L own own' st cs
  | .nil, sc, fb, st, Γ, L, own, own', h, k, X, T, C, pp => by
    simp only [chks, Option.some.injEq] at k
    subst k
    cases st with
    | nil => exact sss_nil
    | cons _ _ => simp [mtSB] at h
  | .cons c r, sc, fb, st, Γ, L, own, own', h, k, X, T, C, pp => by
    simp only [chks] at k
    obtain ⟨x, kx, k⟩ := bnd k
    cases st with
    | nil => simp [mtSB] at h
    | cons s ss =>
      simp only [mtSB, Bool.and_eq_true] at h
      exact sss_cons (okSt c h.1 kx C pp) (okSB r h.2 k C pp)
end
end DI
set_option maxRecDepth 100000
set_option maxHeartbeats 4000000
/-! DI: a def, and a whole text of defs. -/
namespace DI
open PySem L2
structure DefR where
  name : Str
  fn : Str
  st : Stmt
  N : List Str
  ps : List Str
  M : List Nat
  lev : Nat
  body : CSs
structure PG where
  defs : List DefR
  cs : List (Str × D)
  bs : List Str
  gs : List Str
def fuel : Nat := 100000
def outD : Out → Option D
  | .rt d => some d
  | .nx _ => some .none
  | _ => none
def runD (T : Nat → List D → Option D) (n : Nat) (body : CSs) (ds : List D) : Option D := (exSs T fuel body (ds.map some ++ List.replicate (n - ds.length) none)).bind outD
def gam (G : PG) (r : DefR) : Gm := ⟨r.N, r.M, r.lev, G.cs, G.defs.map fun r => (r.name, r.lev + 1, r.ps.length), G.bs, G.gs⟩
/-- what the defs give, calls nested at most so deep -/
def TT (G : PG) : Nat → Nat → List D → Option D
  | 0, _, _ => none
  | d + 1, j, ds => (G.defs[j]?).bind fun r => runD (TT G d) r.N.length r.body ds
def defB (G : PG) (r : DefR) : Bool := mtSB (gam G r) (defScope r.st) (fun _ => true) r.body (defBody r.st) && (chks r.M none [] r.body).isSome && C8.scC r.N r.ps (defScope r.st)
/-- a def of the text, laid -/
def Laid (K : PySem.W.Frag) (mg : Str → Option Value) (r : DefR) : Prop := ∃ f fd, mg r.name = some (.ref f) ∧ Fun K r.fn r.fn r.st f fd ∧ Binds K fd r.ps []
/-- what the module holds beside the defs -/
structure Wld (K : PySem.W.Frag) (mg : Str → Option Value) (G : PG) : Prop where
  csO : ∀ x d, (x, d) ∈ G.cs → ∃ v u, mg x = some u ∧ RelV v u ∧ Is K (fun _ => none) v d
  bsO : ∀ x ∈ G.bs, mg x = none
  gsO : ∀ x ∈ G.gs, mg x = some (.builtin "math.gcd")
section
variable {P : Program} {w : World} {K : PySem.W.Frag} {mg : Str → Option Value} {base : Heap} {G : PG}
theorem start_er {N : List Str} {hide : Addr → Prop} {H : Hp} {vs : List V} {ds : List D} (hh : ∀ b, hide b → H b ≠ none) (r : IsAll K (cut hide H) vs ds) : ER K hide [] H (L2.start N vs) (ds.map some ++ List.replicate (N.length - ds.length) none) := by
  have hd0 : ∀ {σ : L2.St}, hd hide [] σ = hide := fun {σ} => funext fun b => propext ⟨fun z => z.elim id (fun ⟨i, hi, _⟩ => by cases hi), .inl⟩
  have hl := r.length
  refine ⟨hh, by simp [L2.start, hl], fun i d e _ => ?_, (fun i hi => by cases hi), fun i j a hi => by cases hi⟩
  rw [hd0]
  have hi : i < ds.length := by
    by_cases h : i < ds.length
    · exact h
    · rw [List.getElem?_append_right (by rw [List.length_map]; omega)] at e
      rw [List.getElem?_replicate] at e
      split at e <;> cases e
  rw [List.getElem?_append_left (by rw [List.length_map]; exact hi), List.getElem?_map] at e
  obtain ⟨d', e1, e2⟩ := Option.map_eq_some_iff.mp e
  cases e2
  obtain ⟨v, h1, h2⟩ := r.at e1
  refine ⟨v, ?_, h2⟩
  unfold L2.start
  rw [List.getElem?_append_left (by rw [List.length_map]; omega), List.getElem?_map, h1]
  rfl
theorem def_ok {r : DefR} {f : Addr} {fd : FuncData} {T : Nat → List D → Option D} (W : Wld K mg G) (F : Fun K r.fn r.fn r.st f fd) (h : defB G r = true)
    (hT : ∀ (j : Nat) x k n, (gam G r).fs[j]? = some (x, k, n) → k ≤ r.lev → FD P w K mg base x k n (T j)) : FnOkG P w K mg base CX0 (r.lev + 1) f fd r.ps (spD K r.ps.length fun ds => runD T r.N.length r.body ds) := by
  simp only [defB, Bool.and_eq_true] at h
  obtain ⟨⟨h1, h2⟩, h3⟩ := h
  have S := C8.fnScope_by h3
  obtain ⟨own', hk⟩ := Option.isSome_iff_exists.mp h2
  refine Fun.okG F S (fun vs H Q E q => q.1) fun cdv A outer s H vs Q E hr hgd hsp => ?_
  obtain ⟨hl, hide, ds, d, hh, ia, eg, q⟩ := hsp
  have C : CxOk (cxOf CX0 P w K mg base r.N r.fn (defScope r.st) f cdv A outer s H E).nox (gam G r) (defScope r.st) (fun _ => true) T :=
    ⟨rfl, S.nd, rfl, S.kind, fun _ _ => rfl, rfl, by have := hr.un; show (A.deeper _).units + 70 < _; omega, hr, hgd, W.csO, hT, W.bsO, W.gsO⟩
  refine ⟨_, okSB r.body h1 hk C PassesOwn.never, ?_⟩
  obtain ⟨out, eo, ed⟩ := bnd (show (exSs T fuel r.body (ds.map some ++ List.replicate (r.N.length - ds.length) none)).bind outD = some d from eg)
  refine ⟨hide, H, _, fuel, out, ⟨start_er hh ia, (fun i hi => by cases hi), Same.refl _, hh, fun i hi => by cases hi⟩, eo, ?_⟩
  cases out with
  | nx ρ' =>
    simp only [outD, Option.some.injEq] at ed
    subst ed
    exact fun σ' H' S' _ => q .non H' S'.same .non
  | rt d' =>
    simp only [outD, Option.some.injEq] at ed
    subst ed
    exact fun v H' s i => q v H' s i
  | bk ρ' => simp [outD] at ed
  | ct ρ' => simp [outD] at ed
theorem prog_ok (W : Wld K mg G) (hB : ∀ r ∈ G.defs, defB G r = true) (hF : ∀ r ∈ G.defs, Laid K mg r) :
    ∀ (d j : Nat) (r : DefR), G.defs[j]? = some r → r.lev < d → FD P w K mg base r.name (r.lev + 1) r.ps.length (TT G d j)
  | 0, _, _, _, h => absurd h (Nat.not_lt_zero _)
  | d + 1, j, r, hj, hlev => by
    have hm := List.mem_of_getElem? hj
    obtain ⟨f, fd, hmg, F, B⟩ := hF r hm
    have hb := hB r hm
    refine ⟨f, fd, r.ps, hmg, ?_, F.kp, B⟩
    have e : TT G (d + 1) j = fun ds => runD (TT G d) r.N.length r.body ds := by
      funext ds
      simp only [TT, hj, Option.bind_some]
    rw [e]
    refine def_ok W F hb fun j' x k n hf hk => ?_
    rw [gam, List.getElem?_map] at hf
    obtain ⟨r', e1, e2⟩ := Option.map_eq_some_iff.mp hf
    cases e2
    exact prog_ok W hB hF d j' r' e1 (by omega)
/-- the law, at whole numbers -/
def spLaw (K : PySem.W.Frag) : Sp := fun vs H Q _ => ∃ (a : Addr) (ns : List Int), vs = [.ref a] ∧ SqL K H a (ns.map V.int) ∧ ns.length ≤ 63 ∧ ∀ H', Q (.bl true) H'
theorem law_ok {f : Addr} {fd : FuncData} {r : DefR} {d : Nat} (W : Wld K mg G) (hB : ∀ r ∈ G.defs, defB G r = true) (hF : ∀ r ∈ G.defs, Laid K mg r)
    (hr : r ∈ G.defs) (hp : r.ps.length = 1) (F : Fun K r.fn r.fn r.st f fd) (hd : r.lev ≤ d) (h : ∀ ns : List Int, ns.length ≤ 63 → runD (TT G d) r.N.length r.body [.list (ns.map .int)] = some (.bool true)) : FnOkG P w K mg base CX0 (r.lev + 1) f fd r.ps (spLaw K) := by
  refine (def_ok (T := TT G d) W F (hB r hr) fun j x k n hf hk => ?_).imp fun vs H Q E q => ?_
  · rw [gam, List.getElem?_map] at hf
    obtain ⟨r', e1, e2⟩ := Option.map_eq_some_iff.mp hf
    cases e2
    exact prog_ok W hB hF d j r' e1 (by omega)
  · obtain ⟨a, ns, rfl, hs, hl, k⟩ := q
    refine ⟨hp.symm ▸ rfl, fun _ => False, [.list (ns.map .int)], .bool true, fun b z => z.elim, .cons ?_ .nil, h ns hl, fun v H' s i => ?_⟩
    · have c : cut (fun _ => False) H = H := funext fun b => cut_no id
      rw [c]
      refine .lst hs (by rw [List.length_map]; exact Nat.le_trans hl (by decide)) ?_
      clear h hs hl
      induction ns with
      | nil => exact .nil
      | cons n r ih => exact .cons (.int n) ih
    · cases i
      exact k H'
end
end DI
set_option maxRecDepth 100000
namespace K70
open PySem L2 DI
def top (i : Nat) : Stmt := PySem.Challenge.pw_runattimes_k70_whole_clocks_and_runs_at.main.body.getD i (.Pass ⟨0, 0, 0, 0⟩)
/-- 0: check_runs -/
def b0 : CSs := (.cons (.ife (.cmp (.p1 .len (.var 0)) (.cons .gt (.glb "MOST_RUNS" (.int 30)) .nil)) (.cons .rse .nil) .nil) (.cons (.forr (.t (.cons (.v 1) (.cons (.t (.cons (.v 2) (.cons (.v 3) .nil))) .nil))) (.enum (.var 0)) (.cons (.ife (.orB (.notB (.cmp (.cst (.int 0)) (.cons .le (.var 2) (.cons .le (.glb "MOST_DUE" (.int 10000)) .nil)))) (.orB (.notB (.cmp (.cst (.int 1)) (.cons .le (.var 3) (.cons .le (.glb "MOST_LENGTH" (.int 1000)) .nil)))) (.one (.andB (.cmp (.var 1) (.cons .gt (.cst (.int 0)) .nil)) (.one (.cmp (.ix (.ix (.var 0) (.bin .sub (.var 1) (.cst (.int 1)))) (.cst (.int 0))) (.cons .ge (.var 2) .nil))))))) (.cons .rse .nil) .nil) .nil) []) .nil))
def r0 : DefR := ⟨"check_runs", "check_runs", top 14, ["runs", "k", "due", "length"], ["runs"], [], 0, b0⟩
/-- 1: started -/
def b1 : CSs := (.cons (.own 2 (.lst .nil)) (.cons (.forr (.t (.cons (.v 3) (.cons (.t (.cons (.v 5) (.cons (.v 6) .nil))) .nil))) (.enum (.var 0)) (.cons (.asg (.v 4) (.ite (.cmp (.p1 .len (.var 2)) (.cons .gt (.cst (.int 0)) .nil)) (.ix (.ix (.var 2) (.neg (.cst (.int 1)))) (.cst (.int 2))) (.cst (.int 0)))) (.cons (.ife (.cmp (.var 1) (.cons .eq (.cst (.str "queue")) .nil)) (.cons (.asg (.v 7) (.p2 .max (.var 5) (.var 4))) (.cons (.app 2 (.tup (.cons (.var 3) (.cons (.var 7) (.cons (.bin .add (.var 7) (.var 6)) .nil))))) .nil)) (.cons (.ife (.orB (.cmp (.var 1) (.cons .eq (.cst (.str "let")) .nil)) (.one (.cmp (.var 4) (.cons .le (.var 5) .nil)))) (.cons (.app 2 (.tup (.cons (.var 3) (.cons (.var 5) (.cons (.bin .add (.var 5) (.var 6)) .nil))))) .nil) (.cons (.ife (.cmp (.var 1) (.cons .eq (.cst (.str "replace")) .nil)) (.cons (.asg (.t (.cons (.v 8) (.cons (.v 7) (.cons (.v 9) .nil)))) (.ix (.var 2) (.neg (.cst (.int 1))))) (.cons (.put 2 (.neg (.cst (.int 1))) (.tup (.cons (.var 8) (.cons (.var 7) (.cons (.var 5) .nil))))) (.cons (.app 2 (.tup (.cons (.var 3) (.cons (.var 5) (.cons (.bin .add (.var 5) (.var 6)) .nil))))) .nil))) .nil) .nil)) .nil)) .nil)) [2]) (.cons (.ret (.var 2)) .nil)))
def r1 : DefR := ⟨"started", "started", top 16, ["runs", "rule", "found", "k", "free", "due", "length", "start", "last", "_"], ["runs", "rule"], [2], 0, b1⟩
/-- 2: check_zone -/
def b2 : CSs := (.cons (.ife (.notB (.cmp (.cst (.int 1)) (.cons .le (.p1 .len (.var 0)) (.cons .le (.glb "MOST_PAIRS" (.int 6)) .nil)))) (.cons .rse .nil) .nil) (.cons (.forr (.t (.cons (.v 1) (.cons (.t (.cons (.v 2) (.cons (.v 3) .nil))) .nil))) (.enum (.var 0)) (.cons (.ife (.orB (.notB (.cmp (.cst (.int 0)) (.cons .le (.var 2) (.cons .le (.glb "MOST_TIME" (.int 1000000)) .nil)))) (.one (.notB (.cmp (.neg (.glb "MOST_OFFSET" (.int 1440))) (.cons .le (.var 3) (.cons .le (.glb "MOST_OFFSET" (.int 1440)) .nil)))))) (.cons .rse .nil) .nil) (.cons (.ife (.orB (.andB (.cmp (.var 1) (.cons .eq (.cst (.int 0)) .nil)) (.one (.cmp (.var 2) (.cons .ne (.cst (.int 0)) .nil)))) (.one (.andB (.cmp (.var 1) (.cons .gt (.cst (.int 0)) .nil)) (.one (.cmp (.ix (.ix (.var 0) (.bin .sub (.var 1) (.cst (.int 1)))) (.cst (.int 0))) (.cons .ge (.var 2) .nil)))))) (.cons .rse .nil) .nil) .nil)) []) .nil))
def r2 : DefR := ⟨"check_zone", "check_zone", top 30, ["zone", "k", "time", "offset"], ["zone"], [], 0, b2⟩
/-- 3: spans_of -/
def b3 : CSs := (.cons (.asg (.v 1) (.lstS (.cons (.star (.lc (.var 3) (.t (.cons (.v 3) (.cons (.v 5) .nil))) (.ofl (.sl (.var 0) (.cst (.int 1)) .no)) .nil [3, 5])) (.cons (.cst .none) .nil)))) (.cons (.ret (.lc (.tup (.cons (.bin .add (.var 3) (.var 4)) (.cons (.ite (.cmp (.var 2) (.cons .is (.cst .none) .nil)) (.cst .none) (.bin .add (.var 2) (.var 4))) (.cons (.var 4) .nil)))) (.t (.cons (.t (.cons (.v 3) (.cons (.v 4) .nil))) (.cons (.v 2) .nil))) (.zip (.var 0) (.var 1)) .nil [2, 3, 4])) .nil))
def r3 : DefR := ⟨"spans_of", "spans_of", top 33, ["zone", "ends", "end", "time", "offset", "_"], ["zone"], [], 0, b3⟩
/-- 4: joined -/
def b4 : CSs := (.cons (.own 1 (.lst .nil)) (.cons (.forr (.t (.cons (.v 2) (.cons (.v 3) .nil))) (.ofl (.var 0)) (.cons (.ife (.andB (.cmp (.p1 .len (.var 1)) (.cons .gt (.cst (.int 0)) .nil)) (.one (.cmp (.ix (.ix (.var 1) (.neg (.cst (.int 1)))) (.cst (.int 1))) (.cons .eq (.var 2) .nil)))) (.cons (.put 1 (.neg (.cst (.int 1))) (.tup (.cons (.ix (.ix (.var 1) (.neg (.cst (.int 1)))) (.cst (.int 0))) (.cons (.var 3) .nil)))) .nil) (.cons (.app 1 (.tup (.cons (.var 2) (.cons (.var 3) .nil)))) .nil)) .nil) [1]) (.cons (.ret (.var 1)) .nil)))
def r4 : DefR := ⟨"joined", "joined", top 39, ["spans", "found", "first", "end"], ["spans"], [1], 0, b4⟩
/-- 5: check_rule -/
def b5 : CSs := (.cons (.asg (.v 1) (.tup (.cons (.tup (.cons (.cst (.int 1)) (.cons (.glb "MOST_WAIT" (.int 1000)) .nil))) (.cons (.tup (.cons (.cst (.int 1)) (.cons (.glb "MOST_FACTOR" (.int 5)) .nil))) (.cons (.tup (.cons (.ix (.var 0) (.cst (.int 0))) (.cons (.glb "MOST_CAP" (.int 100000)) .nil))) (.cons (.tup (.cons (.cst (.int 1)) (.cons (.glb "MOST_TRIES" (.int 20)) .nil))) .nil)))))) (.cons (.forr (.t (.cons (.v 2) (.cons (.t (.cons (.v 3) (.cons (.v 4) .nil))) .nil))) (.enum (.var 1)) (.cons (.ife (.notB (.cmp (.var 3) (.cons .le (.ix (.var 0) (.var 2)) (.cons .le (.var 4) .nil)))) (.cons .rse .nil) .nil) .nil) []) .nil))
def r5 : DefR := ⟨"check_rule", "check_rule", top 48, ["rule", "bounds", "k", "least", "most"], ["rule"], [], 0, b5⟩
/-- 6: waits_of -/
def b6 : CSs := (.cons (.asg (.t (.cons (.v 4) (.cons (.v 5) (.cons (.v 6) (.cons (.v 7) .nil))))) (.var 0)) (.cons (.own 1 (.lst .nil)) (.cons (.asg (.v 2) (.var 4)) (.cons (.forr (.v 3) (.rng1 (.bin .sub (.var 7) (.cst (.int 1)))) (.cons (.app 1 (.p2 .min (.var 2) (.var 6))) (.cons (.asg (.v 2) (.bin .mul (.p2 .min (.var 2) (.var 6)) (.var 5))) .nil)) [1]) (.cons (.ret (.var 1)) .nil)))))
def r6 : DefR := ⟨"waits_of", "waits_of", top 49, ["rule", "found", "wait", "_", "first", "factor", "cap", "tries"], ["rule"], [1], 0, b6⟩
/-- 7: _law_draws -/
def b7 : CSs := (.cons (.own 1 (.lst .nil)) (.cons (.forr (.v 2) (.rng1 (.p2 .min (.cst (.int 63)) (.p1 .len (.var 0)))) (.cons (.asg (.v 3) (.p1 .abs (.ix (.var 0) (.var 2)))) (.cons (.ife (.cmp (.var 3) (.cons .ge (.bin .pow (.cst (.int 10)) (.cst (.int 18))) .nil)) (.cons (.forr (.v 4) (.rng1 (.cst (.int 60))) (.cons (.ife (.cmp (.var 3) (.cons .gt (.cst (.int 0)) .nil)) (.cons (.app 1 (.bin .mod (.p1 .int (.var 3)) (.cst (.int 65536)))) (.cons (.asg (.v 3) (.bin .fdiv (.var 3) (.cst (.int 65536)))) .nil)) .nil) .nil) [1]) .nil) (.cons (.asg (.v 5) (.bin .mod (.p1 .int (.bin .add (.bin .mul (.var 3) (.cst (.int 48271))) (.bin .mul (.bin .add (.var 2) (.cst (.int 1))) (.cst (.int 69621))))) (.cst (.int 2147483647)))) (.cons (.asg (.v 5) (.bin .mod (.p1 .int (.bin .add (.bin .add (.bin .mul (.var 5) (.cst (.int 16807))) (.bin .mul (.cst (.int 11)) (.var 2))) (.cst (.int 5)))) (.cst (.int 2147483629)))) (.cons (.app 1 (.bin .mod (.p1 .int (.var 5)) (.cst (.int 65536)))) (.cons (.app 1 (.bin .mod (.p1 .int (.bin .fdiv (.var 5) (.cst (.int 65536)))) (.cst (.int 32768)))) .nil))))) .nil)) [1]) (.cons (.ret (.var 1)) .nil)))
def r7 : DefR := ⟨"_law_draws", "_law_draws", top 56, ["script", "draws", "k", "rest", "turn", "stirred"], ["script"], [1], 0, b7⟩
/-- 8: _law_mix -/
def b8 : CSs := (.cons (.asg (.v 3) (.cst (.int 0))) (.cons (.ife (.cmp (.p1 .len (.var 0)) (.cons .gt (.cst (.int 0)) .nil)) (.cons (.asg (.v 3) (.ix (.var 0) (.bin .mod (.p1 .int (.var 1)) (.p1 .len (.var 0))))) .nil) .nil) (.cons (.ife (.cmp (.var 1) (.cons .lt (.p1 .len (.var 0)) .nil)) (.cons (.ret (.bin .mod (.p1 .int (.var 3)) (.var 2))) .nil) .nil) (.cons (.ret (.bin .mod (.p1 .int (.bin .fdiv (.p1 .int (.bin .add (.bin .mul (.var 3) (.cst (.int 7919))) (.bin .mul (.var 1) (.cst (.int 104729))))) (.cst (.int 3)))) (.var 2))) .nil))))
def r8 : DefR := ⟨"_law_mix", "_law_mix", top 57, ["draws", "k", "many", "cell"], ["draws", "k", "many"], [], 0, b8⟩
/-- 9: _law_local -/
def b9 : CSs := (.cons (.asg (.v 2) (.cst (.int 0))) (.cons (.forr (.t (.cons (.v 3) (.cons (.v 4) .nil))) (.ofl (.var 0)) (.cons (.ife (.cmp (.var 3) (.cons .le (.var 1) .nil)) (.cons (.asg (.v 2) (.bin .add (.var 1) (.var 4))) .nil) .nil) .nil) []) (.cons (.ret (.var 2)) .nil)))
def r9 : DefR := ⟨"_law_local", "_law_local", top 58, ["zone", "time", "found", "start", "offset"], ["zone", "time"], [], 0, b9⟩
/-- 10: _law_comes -/
def b10 : CSs := (.cons (.own 2 (.lst .nil)) (.cons (.forr (.v 3) (.rng1 (.p1 .len (.var 0))) (.cons (.asg (.v 4) (.bin .sub (.var 1) (.ix (.ix (.var 0) (.var 3)) (.cst (.int 1))))) (.cons (.ife (.andB (.cmp (.var 4) (.cons .ge (.ix (.ix (.var 0) (.var 3)) (.cst (.int 0))) .nil)) (.one (.orB (.cmp (.var 3) (.cons .eq (.bin .sub (.p1 .len (.var 0)) (.cst (.int 1))) .nil)) (.one (.cmp (.var 4) (.cons .lt (.ix (.ix (.var 0) (.bin .add (.var 3) (.cst (.int 1)))) (.cst (.int 0))) .nil)))))) (.cons (.app 2 (.var 4)) .nil) .nil) .nil)) [2]) (.cons (.ret (.var 2)) .nil)))
def r10 : DefR := ⟨"_law_comes", "_law_comes", top 59, ["zone", "goal", "found", "k", "time"], ["zone", "goal"], [2], 0, b10⟩
/-- 11: _law_later -/
def b11 : CSs := (.cons (.forr (.v 2) (.rng1 (.p1 .len (.var 0))) (.cons (.asg (.v 3) (.cst .none)) (.cons (.ife (.cmp (.var 2) (.cons .lt (.bin .sub (.p1 .len (.var 0)) (.cst (.int 1))) .nil)) (.cons (.asg (.v 3) (.bin .sub (.ix (.ix (.var 0) (.bin .add (.var 2) (.cst (.int 1)))) (.cst (.int 0))) (.cst (.int 1)))) .nil) .nil) (.cons (.ife (.orB (.cmp (.var 3) (.cons .is (.cst .none) .nil)) (.one (.cmp (.bin .add (.var 3) (.ix (.ix (.var 0) (.var 2)) (.cst (.int 1)))) (.cons .gt (.var 1) .nil)))) (.cons (.ret (.p2 .max (.ix (.ix (.var 0) (.var 2)) (.cst (.int 0))) (.bin .sub (.bin .add (.var 1) (.cst (.int 1))) (.ix (.ix (.var 0) (.var 2)) (.cst (.int 1)))))) .nil) .nil) .nil))) []) (.cons (.ret (.cst .none)) .nil))
def r11 : DefR := ⟨"_law_later", "_law_later", top 62, ["zone", "goal", "k", "last"], ["zone", "goal"], [], 0, b11⟩
/-- 12: _law_worked -/
def b12 : CSs := (.cons (.own 2 (.lst .nil)) (.cons (.forr (.v 3) (.rng1 (.p1 .len (.var 0))) (.cons (.asg (.t (.cons (.v 5) (.cons (.v 6) .nil))) (.ix (.var 0) (.var 3))) (.cons (.asg (.v 4) (.ix (.ix (.bin .add (.lst (.cons (.tup (.cons (.cst (.int 0)) (.cons (.cst (.int 0)) (.cons (.cst (.int 0)) .nil)))) .nil)) (.var 2)) (.neg (.cst (.int 1)))) (.cst (.int 2)))) (.cons (.ife (.orB (.cmp (.var 1) (.cons .eq (.cst (.str "let")) .nil)) (.one (.cmp (.var 4) (.cons .le (.var 5) .nil)))) (.cons (.app 2 (.tup (.cons (.var 3) (.cons (.var 5) (.cons (.bin .add (.var 5) (.var 6)) .nil))))) .nil) (.cons (.ife (.cmp (.var 1) (.cons .eq (.cst (.str "queue")) .nil)) (.cons (.app 2 (.tup (.cons (.var 3) (.cons (.var 4) (.cons (.bin .add (.var 4) (.var 6)) .nil))))) .nil) (.cons (.ife (.cmp (.var 1) (.cons .eq (.cst (.str "replace")) .nil)) (.cons (.put 2 (.neg (.cst (.int 1))) (.tup (.cons (.ix (.ix (.var 2) (.neg (.cst (.int 1)))) (.cst (.int 0))) (.cons (.ix (.ix (.var 2) (.neg (.cst (.int 1)))) (.cst (.int 1))) (.cons (.var 5) .nil))))) (.cons (.app 2 (.tup (.cons (.var 3) (.cons (.var 5) (.cons (.bin .add (.var 5) (.var 6)) .nil))))) .nil)) .nil) .nil)) .nil)) .nil))) [2]) (.cons (.ret (.var 2)) .nil)))
def r12 : DefR := ⟨"_law_worked", "_law_worked", top 64, ["runs", "rule", "found", "k", "last", "due", "length"], ["runs", "rule"], [2], 0, b12⟩
/-- 13: check_asked -/
def b13 : CSs := (.cons (.exp (.cals 0 (.cons (.var 0) .nil))) (.cons (.ife (.cmp (.var 1) (.cons .nin (.glb "RULES" (.tuple [(.str "let"), (.str "skip"), (.str "queue"), (.str "replace")])) .nil)) (.cons .rse .nil) .nil) .nil))
def r13 : DefR := ⟨"check_asked", "check_asked", top 15, ["runs", "rule"], ["runs", "rule"], [], 1, b13⟩
/-- 14: queue_waits -/
def b14 : CSs := (.cons (.exp (.cals 0 (.cons (.var 0) .nil))) (.cons (.ret (.lc (.bin .sub (.var 2) (.ix (.ix (.var 0) (.var 1)) (.cst (.int 0)))) (.t (.cons (.v 1) (.cons (.v 2) (.cons (.v 3) .nil)))) (.ofl (.call 1 (.cons (.var 0) (.cons (.cst (.str "queue")) .nil)))) .nil [1, 2, 3])) .nil))
def r14 : DefR := ⟨"queue_waits", "queue_waits", top 21, ["runs", "k", "start", "_"], ["runs"], [], 1, b14⟩
/-- 15: local_at -/
def b15 : CSs := (.cons (.exp (.cals 2 (.cons (.var 0) .nil))) (.cons (.ife (.cmp (.var 1) (.cons .lt (.cst (.int 0)) .nil)) (.cons .rse .nil) .nil) (.cons (.ret (.bin .add (.var 1) (.ix (.lc (.var 3) (.t (.cons (.v 2) (.cons (.v 3) .nil))) (.ofl (.var 0)) (.cons (.cmp (.var 2) (.cons .le (.var 1) .nil)) .nil) [2, 3]) (.neg (.cst (.int 1)))))) .nil)))
def r15 : DefR := ⟨"local_at", "local_at", top 31, ["zone", "time", "start", "offset"], ["zone", "time"], [], 1, b15⟩
/-- 16: check_local -/
def b16 : CSs := (.cons (.exp (.cals 2 (.cons (.var 0) .nil))) (.cons (.ife (.notB (.cmp (.glb "LEAST_LOCAL" (.int (-1000000))) (.cons .le (.var 1) (.cons .le (.glb "MOST_LOCAL" (.int 3000000)) .nil)))) (.cons .rse .nil) .nil) .nil))
def r16 : DefR := ⟨"check_local", "check_local", top 32, ["zone", "local_time"], ["zone", "local_time"], [], 1, b16⟩
/-- 17: comes_at -/
def b17 : CSs := (.cons (.own 2 (.lst .nil)) (.cons (.forr (.t (.cons (.v 3) (.cons (.v 4) (.cons (.v 5) .nil)))) (.ofl (.call 3 (.cons (.var 0) .nil))) (.cons (.ife (.andB (.cmp (.var 3) (.cons .le (.var 1) .nil)) (.one (.orB (.cmp (.var 4) (.cons .is (.cst .none) .nil)) (.one (.cmp (.var 1) (.cons .lt (.var 4) .nil)))))) (.cons (.app 2 (.bin .sub (.var 1) (.var 5))) .nil) .nil) .nil) [2]) (.cons (.ret (.var 2)) .nil)))
def r17 : DefR := ⟨"comes_at", "comes_at", top 34, ["zone", "local_time", "found", "first", "end", "offset"], ["zone", "local_time"], [2], 1, b17⟩
/-- 18: next_start -/
def b18 : CSs := (.cons (.forr (.t (.cons (.v 2) (.cons (.v 3) (.cons (.v 4) .nil)))) (.ofl (.call 3 (.cons (.var 0) .nil))) (.cons (.ife (.orB (.cmp (.var 3) (.cons .is (.cst .none) .nil)) (.one (.cmp (.bin .sub (.var 3) (.cst (.int 1))) (.cons .gt (.var 1) .nil)))) (.cons (.ret (.bin .sub (.p2 .max (.var 2) (.bin .add (.var 1) (.cst (.int 1)))) (.var 4))) .nil) .nil) .nil) []) (.cons (.ret (.cst (.int 0))) .nil))
def r18 : DefR := ⟨"next_start", "next_start", top 36, ["zone", "local_time", "first", "end", "offset"], ["zone", "local_time"], [], 1, b18⟩
/-- 19: marks_of -/
def b19 : CSs := (.cons (.asg (.v 1) (.call 3 (.cons (.var 0) .nil))) (.cons (.ret (.sc2 (.var 2) (.t (.cons (.v 3) (.cons (.v 4) (.cons (.v 5) .nil)))) (.ofl (.var 1)) .nil (.v 2) (.ofl (.tup (.cons (.var 3) (.cons (.var 4) .nil)))) (.cons (.cmp (.var 2) (.cons .isn (.cst .none) .nil)) .nil) [3, 4, 5, 2] [2])) .nil))
def r19 : DefR := ⟨"marks_of", "marks_of", top 38, ["zone", "told", "mark", "first", "end", "_"], ["zone"], [], 1, b19⟩
/-- 20: try_waits -/
def b20 : CSs := (.cons (.exp (.cals 5 (.cons (.var 0) .nil))) (.cons (.ret (.call 6 (.cons (.var 0) .nil))) .nil))
def r20 : DefR := ⟨"try_waits", "try_waits", top 50, ["rule"], ["rule"], [], 1, b20⟩
/-- 21: times_of -/
def b21 : CSs := (.cons (.own 1 (.lst (.cons (.cst (.int 0)) .nil))) (.cons (.forr (.v 2) (.ofl (.call 6 (.cons (.var 0) .nil))) (.cons (.app 1 (.bin .add (.ix (.var 1) (.neg (.cst (.int 1)))) (.var 2))) .nil) [1]) (.cons (.ret (.var 1)) .nil)))
def r21 : DefR := ⟨"times_of", "times_of", top 51, ["rule", "found", "wait"], ["rule"], [1], 1, b21⟩
/-- 22: is_capped -/
def b22 : CSs := (.cons (.exp (.cals 5 (.cons (.var 0) .nil))) (.cons (.asg (.t (.cons (.v 3) (.cons (.v 4) (.cons (.v 5) (.cons (.v 6) .nil))))) (.var 0)) (.cons (.asg (.v 1) (.var 3)) (.cons (.forr (.v 2) (.rng1 (.bin .sub (.var 6) (.cst (.int 2)))) (.cons (.asg (.v 1) (.bin .mul (.var 1) (.var 4))) .nil) []) (.cons (.ret (.cmp (.var 1) (.cons .gt (.var 5) .nil))) .nil)))))
def r22 : DefR := ⟨"is_capped", "is_capped", top 54, ["rule", "wait", "_", "first", "factor", "cap", "tries"], ["rule"], [], 1, b22⟩
def b23f0 : CSs := (.cons (.asg (.v 4) (.bin .add (.bin .add (.ix (.ix (.var 2) (.neg (.cst (.int 1)))) (.cst (.int 0))) (.cst (.int 1))) (.bin .mul (.cals 8 (.cons (.var 0) (.cons (.bin .add (.bin .add (.var 1) (.cst (.int 4))) (.bin .mul (.cst (.int 3)) (.var 3))) (.cons (.ix (.lst (.cons (.cst (.int 2000)) (.cons (.cst (.int 60000)) (.cons (.cst (.int 200)) .nil)))) (.cals 8 (.cons (.var 0) (.cons (.bin .add (.var 1) (.cst (.int 3))) (.cons (.cst (.int 3)) .nil))))) .nil)))) (.ix (.lst (.cons (.cst (.int 1)) (.cons (.cst (.int 3)) .nil))) (.cals 8 (.cons (.var 0) (.cons (.bin .add (.bin .add (.var 1) (.cst (.int 5))) (.bin .mul (.cst (.int 3)) (.var 3))) (.cons (.cst (.int 2)) .nil)))))))) (.cons (.ife (.cmp (.var 4) (.cons .le (.cst (.int 1000000)) .nil)) (.cons (.app 2 (.tup (.cons (.var 4) (.cons (.bin .sub (.cals 8 (.cons (.var 0) (.cons (.bin .add (.bin .add (.var 1) (.cst (.int 6))) (.bin .mul (.cst (.int 3)) (.var 3))) (.cons (.cst (.int 2881)) .nil)))) (.cst (.int 1440))) .nil)))) .nil) .nil) .nil))
/-- 23: _law_zone -/
def b23 : CSs := (.cons (.own 2 (.lst (.cons (.tup (.cons (.cst (.int 0)) (.cons (.bin .sub (.cals 8 (.cons (.var 0) (.cons (.var 1) (.cons (.cst (.int 2881)) .nil)))) (.cst (.int 1440))) .nil))) .nil))) (.cons (.forr (.v 3) (.rng1 (.ix (.lst (.cons (.cst (.int 5)) (.cons (.cals 8 (.cons (.var 0) (.cons (.bin .add (.var 1) (.cst (.int 1))) (.cons (.cst (.int 6)) .nil)))) .nil))) (.cals 8 (.cons (.var 0) (.cons (.bin .add (.var 1) (.cst (.int 2))) (.cons (.cst (.int 2)) .nil)))))) b23f0 [2]) (.cons (.ret (.var 2)) .nil)))
def r23 : DefR := ⟨"_law_zone", "_law_zone", top 60, ["draws", "first", "found", "t", "later"], ["draws", "first"], [2], 1, b23⟩
/-- 24: _law_spans -/
def b24e0 : CE := (.bin .add (.var 6) (.var 7))
def b24e1 : CE := (.bin .add (.ix (.ix (.var 0) (.bin .add (.var 2) (.cst (.int 1)))) (.cst (.int 0))) (.ix (.ix (.var 0) (.var 2)) (.cst (.int 1))))
def b24a : CS := .asg (.v 1) (.bin .add (.lc b24e0 (.t (.cons (.v 6) (.cons (.v 7) .nil))) (.ofl (.var 0)) .nil [6, 7]) (.lc b24e1 (.v 2) (.rng1 (.bin .sub (.p1 .len (.var 0)) (.cst (.int 1)))) .nil [2]))
def b24c : CS := .asg (.v 4) (.p1 .len (.call 10 (.cons (.var 0) (.cons (.ix (.var 1) (.var 2)) .nil))))
def b24t : CE := (.cmp (.var 4) (.cons .ne (.cst (.int 1)) .nil))
def b24j : CS := .ife (.andB (.cmp (.var 5) (.cons .ne (.lst .nil) .nil)) (.one (.cmp (.ix (.ix (.var 5) (.neg (.cst (.int 1)))) (.cst (.int 1))) (.cons .eq (.ix (.var 1) (.var 2)) .nil)))) (.cons (.put 5 (.neg (.cst (.int 1))) (.tup (.cons (.ix (.ix (.var 5) (.neg (.cst (.int 1)))) (.cst (.int 0))) (.cons (.ix (.var 1) (.bin .add (.var 2) (.cst (.int 1)))) .nil)))) .nil) (.cons (.app 5 (.tup (.cons (.ix (.var 1) (.var 2)) (.cons (.ix (.var 1) (.bin .add (.var 2) (.cst (.int 1)))) .nil)))) .nil)
def b24m : CE := (.cmp (.var 4) (.cons .gt (.cst (.int 1)) .nil))
def b24f : CSs := .cons b24c (.cons (.ife b24t (.cons (.ife b24m (.cons (.asg (.v 5) (.var 7)) .nil) (.cons (.asg (.v 5) (.var 6)) .nil)) (.cons b24j (.cons (.ife b24m (.cons (.asg (.v 7) (.var 5)) .nil) (.cons (.asg (.v 6) (.var 5)) .nil)) .nil))) .nil) .nil)
def b24 : CSs := .cons b24a (.cons (.asg (.v 1) (.p1 .sset (.var 1))) (.cons (.asg (.v 6) (.lst .nil)) (.cons (.asg (.v 7) (.lst .nil)) (.cons (.forr (.v 2) (.rng1 (.bin .sub (.p1 .len (.var 1)) (.cst (.int 1)))) b24f []) (.cons (.ret (.tup (.cons (.var 6) (.cons (.var 7) .nil)))) .nil)))))
def r24 : DefR := ⟨"_law_spans", "_law_spans", top 61, ["zone", "marks", "k", "found", "many", "row", "start", "offset"], ["zone"], [5], 1, b24⟩
def b25e0 : CE := (.tup (.cons (.var 3) (.cons (.var 4) .nil)))
/-- 25: worked -/
def b25 : CSs := (.cons (.exp (.cals 13 (.cons (.var 0) (.cons (.var 1) .nil)))) (.cons (.ret (.lc b25e0 (.t (.cons (.v 2) (.cons (.v 3) (.cons (.v 4) .nil)))) (.ofl (.call 1 (.cons (.var 0) (.cons (.var 1) .nil)))) .nil [2, 3, 4])) .nil))
def r25 : DefR := ⟨"worked", "worked", top 17, ["runs", "rule", "_", "start", "end"], ["runs", "rule"], [], 2, b25⟩
def b26e0 : CE := (.var 3)
def b26t0 : CEs := (.cons (.cmp (.var 3) (.cons .nin (.var 2) .nil)) .nil)
def b26e1 : CE := (.var 3)
/-- 26: lost_runs -/
def b26 : CSs := (.cons (.exp (.cals 13 (.cons (.var 0) (.cons (.var 1) .nil)))) (.cons (.asg (.v 2) (.lc b26e1 (.t (.cons (.v 3) (.cons (.v 4) (.cons (.v 4) .nil)))) (.ofl (.call 1 (.cons (.var 0) (.cons (.var 1) .nil)))) .nil [3, 4])) (.cons (.ret (.lc b26e0 (.v 3) (.rng1 (.p1 .len (.var 0))) b26t0 [3])) .nil)))
def r26 : DefR := ⟨"lost_runs", "lost_runs", top 18, ["runs", "rule", "told", "k", "_"], ["runs", "rule"], [], 2, b26⟩
def b27e0 : CE := (.var 2)
def b27t0 : CEs := (.cons (.cmp (.bin .sub (.var 4) (.var 3)) (.cons .lt (.ix (.ix (.var 0) (.var 2)) (.cst (.int 1))) .nil)) .nil)
/-- 27: broken_runs -/
def b27 : CSs := (.cons (.exp (.cals 13 (.cons (.var 0) (.cons (.var 1) .nil)))) (.cons (.ret (.lc b27e0 (.t (.cons (.v 2) (.cons (.v 3) (.cons (.v 4) .nil)))) (.ofl (.call 1 (.cons (.var 0) (.cons (.var 1) .nil)))) b27t0 [2, 3, 4])) .nil))
def r27 : DefR := ⟨"broken_runs", "broken_runs", top 19, ["runs", "rule", "k", "start", "end"], ["runs", "rule"], [], 2, b27⟩
def b28e0 : CE := (.cst (.int 1))
def b28t0 : CEs := (.cons (.cmp (.var 6) (.cons .le (.var 5) (.cons .lt (.var 7) .nil))) .nil)
def b28e1 : CE := (.p1 .len (.lc b28e0 (.t (.cons (.v 4) (.cons (.v 6) (.cons (.v 7) .nil)))) (.ofl (.var 2)) b28t0 [4, 6, 7]))
/-- 28: most_at_once -/
def b28 : CSs := (.cons (.exp (.cals 13 (.cons (.var 0) (.cons (.var 1) .nil)))) (.cons (.asg (.v 2) (.call 1 (.cons (.var 0) (.cons (.var 1) .nil)))) (.cons (.asg (.v 3) (.lc b28e1 (.t (.cons (.v 4) (.cons (.v 5) (.cons (.v 4) .nil)))) (.ofl (.var 2)) .nil [4, 5])) (.cons (.ret (.ite (.cmp (.p1 .len (.var 3)) (.cons .gt (.cst (.int 0)) .nil)) (.p1 .max (.var 3)) (.cst (.int 0)))) .nil))))
def r28 : DefR := ⟨"most_at_once", "most_at_once", top 20, ["runs", "rule", "told", "counts", "_", "start", "one", "two"], ["runs", "rule"], [], 2, b28⟩
/-- 29: comes -/
def b29 : CSs := (.cons (.exp (.cals 16 (.cons (.var 0) (.cons (.var 1) .nil)))) (.cons (.ret (.call 17 (.cons (.var 0) (.cons (.var 1) .nil)))) .nil))
def r29 : DefR := ⟨"comes", "comes", top 35, ["zone", "local_time"], ["zone", "local_time"], [], 2, b29⟩
def b30f0 : CSs := (.cons (.ife (.cmp (.var 6) (.cons .nin (.var 7) .nil)) (.cons .rse .nil) .nil) .nil)
/-- 30: run_starts -/
def b30 : CSs := (.cons (.exp (.cals 16 (.cons (.var 0) (.cons (.var 1) .nil)))) (.cons (.forr (.t (.cons (.v 5) (.cons (.t (.cons (.v 6) (.cons (.v 7) .nil))) .nil))) (.enum (.tup (.cons (.tup (.cons (.var 2) (.cons (.glb "TWICE" (.tuple [(.str "first"), (.str "last"), (.str "each")])) .nil))) (.cons (.tup (.cons (.var 3) (.cons (.glb "NEVER" (.tuple [(.str "skip"), (.str "next")])) .nil))) .nil)))) b30f0 []) (.cons (.asg (.v 4) (.call 17 (.cons (.var 0) (.cons (.var 1) .nil)))) (.cons (.ife (.cmp (.p1 .len (.var 4)) (.cons .eq (.cst (.int 0)) .nil)) (.cons (.ret (.ite (.cmp (.var 3) (.cons .eq (.cst (.str "next")) .nil)) (.lst (.cons (.cals 18 (.cons (.var 0) (.cons (.var 1) .nil))) .nil)) (.lst .nil))) .nil) .nil) (.cons (.ife (.cmp (.var 2) (.cons .eq (.cst (.str "each")) .nil)) (.cons (.ret (.var 4)) .nil) .nil) (.cons (.ret (.ite (.cmp (.var 2) (.cons .eq (.cst (.str "first")) .nil)) (.sl (.var 4) .no (.cst (.int 1))) (.sl (.var 4) (.neg (.cst (.int 1))) .no))) .nil))))))
def r30 : DefR := ⟨"run_starts", "run_starts", top 37, ["zone", "local_time", "twice", "never", "told", "k", "rule", "rules"], ["zone", "local_time", "twice", "never"], [], 2, b30⟩
def b31e0 : CE := (.tup (.cons (.var 2) (.cons (.var 3) .nil)))
def b31t0 : CEs := (.cons (.cmp (.p1 .len (.call 17 (.cons (.var 0) (.cons (.var 2) .nil)))) (.cons .eq (.cst (.int 0)) .nil)) .nil)
/-- 31: clock_gaps -/
def b31 : CSs := (.cons (.exp (.cals 2 (.cons (.var 0) .nil))) (.cons (.asg (.v 1) (.call 19 (.cons (.var 0) .nil))) (.cons (.ret (.call 4 (.cons (.lc b31e0 (.t (.cons (.v 2) (.cons (.v 3) .nil))) (.zip (.var 1) (.sl (.var 1) (.cst (.int 1)) .no)) b31t0 [2, 3]) .nil))) .nil)))
def r31 : DefR := ⟨"clock_gaps", "clock_gaps", top 40, ["zone", "marks", "one", "two"], ["zone"], [], 2, b31⟩
def b32e0 : CE := (.tup (.cons (.var 2) (.cons (.var 3) .nil)))
def b32t0 : CEs := (.cons (.cmp (.p1 .len (.call 17 (.cons (.var 0) (.cons (.var 2) .nil)))) (.cons .gt (.cst (.int 1)) .nil)) .nil)
/-- 32: clock_doubles -/
def b32 : CSs := (.cons (.exp (.cals 2 (.cons (.var 0) .nil))) (.cons (.asg (.v 1) (.call 19 (.cons (.var 0) .nil))) (.cons (.ret (.call 4 (.cons (.lc b32e0 (.t (.cons (.v 2) (.cons (.v 3) .nil))) (.zip (.var 1) (.sl (.var 1) (.cst (.int 1)) .no)) b32t0 [2, 3]) .nil))) .nil)))
def r32 : DefR := ⟨"clock_doubles", "clock_doubles", top 41, ["zone", "marks", "one", "two"], ["zone"], [], 2, b32⟩
/-- 33: try_times -/
def b33 : CSs := (.cons (.exp (.cals 5 (.cons (.var 0) .nil))) (.cons (.ret (.call 21 (.cons (.var 0) .nil))) .nil))
def r33 : DefR := ⟨"try_times", "try_times", top 52, ["rule"], ["rule"], [], 2, b33⟩
def b34e0 : CE := (.var 2)
def b34t0 : CEs := (.cons (.cmp (.var 2) (.cons .le (.var 1) .nil)) .nil)
/-- 34: within -/
def b34 : CSs := (.cons (.exp (.cals 5 (.cons (.var 0) .nil))) (.cons (.ife (.notB (.cmp (.cst (.int 0)) (.cons .le (.var 1) (.cons .le (.glb "MOST_BUDGET" (.int 1000000)) .nil)))) (.cons .rse .nil) .nil) (.cons (.ret (.p1 .len (.lc b34e0 (.v 2) (.ofl (.call 21 (.cons (.var 0) .nil))) b34t0 [2]))) .nil)))
def r34 : DefR := ⟨"within", "within", top 53, ["rule", "budget", "time"], ["rule", "budget"], [], 2, b34⟩
def b35f0 : CSs := (.cons (.asg (.v 8) (.dix (.dsp (.cons (.cst (.str "first")) (.cons (.cst (.str "last")) (.cons (.cst (.str "each")) .nil))) (.cons (.sl (.var 6) .no (.cst (.int 1))) (.cons (.sl (.var 6) (.neg (.cst (.int 1))) .no) (.cons (.var 6) .nil)))) (.var 7))) (.cons (.ife (.orB (.cmp (.call 30 (.cons (.var 1) (.cons (.var 4) (.cons (.var 7) (.cons (.cst (.str "skip")) .nil))))) (.cons .ne (.var 8) .nil)) (.one (.cmp (.call 30 (.cons (.var 1) (.cons (.var 4) (.cons (.var 7) (.cons (.cst (.str "next")) .nil))))) (.cons .ne (.ix (.lst (.cons (.var 8) (.cons (.lst (.cons (.call 11 (.cons (.var 1) (.cons (.var 4) .nil))) .nil)) .nil))) (.p1 .int (.cmp (.var 6) (.cons .eq (.lst .nil) .nil)))) .nil)))) (.cons (.ret (.cst (.bool false))) .nil) .nil) .nil))
def b35f1 : CSs := (.cons (.asg (.v 6) (.call 10 (.cons (.var 1) (.cons (.var 4) .nil)))) (.cons (.ife (.cmp (.p1 .repr (.call 29 (.cons (.var 1) (.cons (.var 4) .nil)))) (.cons .ne (.p1 .repr (.var 6)) .nil)) (.cons (.ret (.cst (.bool false))) .nil) .nil) (.cons (.forr (.v 7) (.ofl (.lst (.cons (.cst (.str "first")) (.cons (.cst (.str "last")) (.cons (.cst (.str "each")) .nil))))) b35f0 []) .nil)))
def b35e2 : CE := (.bin .add (.bin .add (.ix (.ix (.var 1) (.var 3)) (.cst (.int 0))) (.ix (.ix (.var 1) (.var 3)) (.cst (.int 1)))) (.var 9))
def b35f3 : CSs := (.cons (.asg (.v 2) (.bin .add (.bin .add (.var 2) (.lc b35e2 (.v 9) (.ofl (.lst (.cons (.neg (.cst (.int 1))) (.cons (.cst (.int 0)) (.cons (.cst (.int 1)) (.cons (.cst (.int 700)) .nil)))))) .nil [9])) (.lst (.cons (.bin .sub (.bin .add (.ix (.ix (.var 1) (.var 3)) (.cst (.int 0))) (.ix (.ix (.var 1) (.bin .sub (.var 3) (.cst (.int 1)))) (.cst (.int 1)))) (.cst (.int 1))) (.cons (.bin .add (.ix (.ix (.var 1) (.var 3)) (.cst (.int 0))) (.ix (.ix (.var 1) (.bin .sub (.var 3) (.cst (.int 1)))) (.cst (.int 1)))) .nil))))) .nil)
/-- 35: _law_zones -/
def b35 : CSs := (.cons (.asg (.v 1) (.call 23 (.cons (.var 0) (.cons (.cst (.int 10)) .nil)))) (.cons (.asg (.v 2) (.lst .nil)) (.cons (.forr (.v 3) (.rng1 (.p1 .len (.var 1))) b35f3 []) (.cons (.forr (.v 4) (.ofl (.var 2)) b35f1 []) (.cons (.asg (.v 5) (.ix (.lst (.cons (.ix (.ix (.var 1) (.neg (.cst (.int 1)))) (.cst (.int 0))) (.cons (.cals 8 (.cons (.var 0) (.cons (.cst (.int 40)) (.cons (.cst (.int 60000)) .nil)))) .nil))) (.cals 8 (.cons (.var 0) (.cons (.cst (.int 41)) (.cons (.cst (.int 2)) .nil)))))) (.cons (.ret (.andB (.cmp (.call 15 (.cons (.var 1) (.cons (.var 5) .nil))) (.cons .eq (.call 9 (.cons (.var 1) (.cons (.var 5) .nil))) .nil)) (.one (.cmp (.tup (.cons (.call 31 (.cons (.var 1) .nil)) (.cons (.call 32 (.cons (.var 1) .nil)) .nil))) (.cons .eq (.call 24 (.cons (.var 1) .nil)) .nil))))) .nil))))))
def r35 : DefR := ⟨"_law_zones", "_law_zones", top 63, ["draws", "zone", "spots", "k", "goal", "time", "due", "twice", "want", "more"], ["draws"], [], 3, b35⟩
def b36e0 : CE := (.bin .sub (.var 8) (.ix (.ix (.var 3) (.var 7)) (.cst (.int 0))))
def b36e1 : CE := (.var 7)
def b36t1 : CEs := (.cons (.cmp (.bin .sub (.var 9) (.var 8)) (.cons .lt (.ix (.ix (.var 3) (.var 7)) (.cst (.int 1))) .nil)) .nil)
def b36e2 : CE := (.ix (.var 11) (.cst (.int 0)))
def b36e3 : CE := (.var 7)
def b36t3 : CEs := (.cons (.cmp (.var 7) (.cons .nin (.lc b36e2 (.v 11) (.ofl (.var 5)) .nil [11]) .nil)) .nil)
def b36e4 : CE := (.tup (.cons (.ix (.var 11) (.cst (.int 1))) (.cons (.ix (.var 11) (.cst (.int 2))) .nil)))
def b36e5 : CE := (.var 11)
def b36t5 : CEs := (.cons (.cmp (.ix (.var 11) (.cst (.int 1))) (.cons .le (.ix (.var 10) (.cst (.int 1))) (.cons .lt (.ix (.var 11) (.cst (.int 2))) .nil))) .nil)
def b36e6 : CE := (.p1 .len (.lc b36e5 (.v 11) (.ofl (.var 5)) b36t5 [11]))
def b36f7 : CSs := (.cons (.asg (.v 5) (.call 12 (.cons (.var 3) (.cons (.var 2) .nil)))) (.cons (.asg (.v 6) (.p1 .max (.bin .add (.lst (.cons (.cst (.int 0)) .nil)) (.lc b36e6 (.v 10) (.ofl (.var 5)) .nil [10])))) (.cons (.ife (.orB (.cmp (.p1 .repr (.call 25 (.cons (.var 3) (.cons (.var 2) .nil)))) (.cons .ne (.p1 .repr (.lc b36e4 (.v 11) (.ofl (.var 5)) .nil [11])) .nil)) (.one (.cmp (.call 28 (.cons (.var 3) (.cons (.var 2) .nil))) (.cons .ne (.var 6) .nil)))) (.cons (.ret (.cst (.bool false))) .nil) .nil) (.cons (.ife (.cmp (.call 26 (.cons (.var 3) (.cons (.var 2) .nil))) (.cons .ne (.lc b36e3 (.v 7) (.rng1 (.p1 .len (.var 3))) b36t3 [7]) .nil)) (.cons (.ret (.cst (.bool false))) .nil) .nil) (.cons (.ife (.cmp (.call 27 (.cons (.var 3) (.cons (.var 2) .nil))) (.cons .ne (.lc b36e1 (.t (.cons (.v 7) (.cons (.v 8) (.cons (.v 9) .nil)))) (.ofl (.var 5)) b36t1 [7, 8, 9]) .nil)) (.cons (.ret (.cst (.bool false))) .nil) .nil) .nil)))))
def b36f8 : CSs := (.cons (.ife (.cmp (.var 4) (.cons .le (.cst (.int 10000)) .nil)) (.cons (.app 3 (.tup (.cons (.var 4) (.cons (.bin .add (.cst (.int 1)) (.cals 8 (.cons (.var 0) (.cons (.bin .add (.cst (.int 60)) (.bin .mul (.cst (.int 2)) (.var 1))) (.cons (.ix (.lst (.cons (.cst (.int 40)) (.cons (.cst (.int 400)) (.cons (.cst (.int 1000)) .nil)))) (.cals 8 (.cons (.var 0) (.cons (.cst (.int 53)) (.cons (.cst (.int 3)) .nil))))) .nil))))) .nil)))) .nil) .nil) (.cons (.asg (.v 4) (.bin .add (.bin .add (.var 4) (.cst (.int 1))) (.cals 8 (.cons (.var 0) (.cons (.bin .add (.cst (.int 61)) (.bin .mul (.cst (.int 2)) (.var 1))) (.cons (.ix (.lst (.cons (.cst (.int 20)) (.cons (.cst (.int 300)) (.cons (.cst (.int 700)) .nil)))) (.cals 8 (.cons (.var 0) (.cons (.cst (.int 54)) (.cons (.cst (.int 3)) .nil))))) .nil)))))) .nil))
/-- 36: _law_runs -/
def b36 : CSs := (.cons (.par [3, 4] (.cons (.lst .nil) (.cons (.cals 8 (.cons (.var 0) (.cons (.cst (.int 50)) (.cons (.cst (.int 300)) .nil)))) .nil))) (.cons (.forr (.v 1) (.rng1 (.ix (.lst (.cons (.cst (.int 30)) (.cons (.cals 8 (.cons (.var 0) (.cons (.cst (.int 51)) (.cons (.cst (.int 31)) .nil)))) .nil))) (.cals 8 (.cons (.var 0) (.cons (.cst (.int 52)) (.cons (.cst (.int 2)) .nil)))))) b36f8 [3]) (.cons (.forr (.v 2) (.ofl (.lst (.cons (.cst (.str "let")) (.cons (.cst (.str "skip")) (.cons (.cst (.str "queue")) (.cons (.cst (.str "replace")) .nil)))))) b36f7 []) (.cons (.ret (.cmp (.call 14 (.cons (.var 3) .nil)) (.cons .eq (.lc b36e0 (.t (.cons (.v 7) (.cons (.v 8) (.cons (.v 9) .nil)))) (.ofl (.call 12 (.cons (.var 3) (.cons (.cst (.str "queue")) .nil)))) .nil [7, 8, 9]) .nil))) .nil))))
def r36 : DefR := ⟨"_law_runs", "_law_runs", top 65, ["draws", "t", "rule", "runs", "time", "rows", "most", "k", "start", "end", "one", "row"], ["draws"], [3], 3, b36⟩
def b37e0 : CE := (.var 11)
def b37t0 : CEs := (.cons (.cmp (.var 11) (.cons .le (.var 5) .nil)) .nil)
def b37e1 : CE := (.p1 .sum (.sl (.var 8) .no (.var 3)))
def b37f2 : CSs := (.cons (.app 8 (.p2 .min (.var 10) (.ix (.var 2) (.cst (.int 2))))) (.cons (.app 9 (.var 10)) (.cons (.asg (.v 10) (.bin .mul (.var 10) (.var 7))) .nil)))
/-- 37: law -/
def b37 : CSs := (.cons (.asg (.v 1) (.call 7 (.cons (.var 0) .nil))) (.cons (.asg (.t (.cons (.v 6) (.cons (.v 7) .nil))) (.tup (.cons (.bin .add (.cst (.int 1)) (.cals 8 (.cons (.var 1) (.cons (.cst (.int 130)) (.cons (.cst (.int 1000)) .nil))))) (.cons (.bin .add (.cst (.int 1)) (.cals 8 (.cons (.var 1) (.cons (.cst (.int 131)) (.cons (.cst (.int 5)) .nil))))) .nil)))) (.cons (.asg (.v 2) (.tup (.cons (.var 6) (.cons (.var 7) (.cons (.ix (.lst (.cons (.cst (.int 100000)) (.cons (.bin .add (.var 6) (.cals 8 (.cons (.var 1) (.cons (.cst (.int 132)) (.cons (.cst (.int 9000)) .nil))))) .nil))) (.cals 8 (.cons (.var 1) (.cons (.cst (.int 133)) (.cons (.cst (.int 2)) .nil))))) (.cons (.ix (.lst (.cons (.cst (.int 20)) (.cons (.bin .add (.cst (.int 1)) (.cals 8 (.cons (.var 1) (.cons (.cst (.int 134)) (.cons (.cst (.int 20)) .nil))))) .nil))) (.cals 8 (.cons (.var 1) (.cons (.cst (.int 135)) (.cons (.cst (.int 2)) .nil))))) .nil)))))) (.cons (.par [8, 9, 10] (.cons (.lst .nil) (.cons (.lst .nil) (.cons (.var 6) .nil)))) (.cons (.forr (.v 3) (.rng1 (.bin .sub (.ix (.var 2) (.cst (.int 3))) (.cst (.int 1)))) b37f2 [8, 9]) (.cons (.asg (.v 4) (.lc b37e1 (.v 3) (.rng1 (.ix (.var 2) (.cst (.int 3)))) .nil [3])) (.cons (.ife (.orB (.cmp (.call 20 (.cons (.var 2) .nil)) (.cons .ne (.var 8) .nil)) (.orB (.cmp (.call 33 (.cons (.var 2) .nil)) (.cons .ne (.var 4) .nil)) (.one (.cmp (.p1 .repr (.cals 22 (.cons (.var 2) .nil))) (.cons .ne (.p1 .repr (.cmp (.var 8) (.cons .ne (.var 9) .nil))) .nil))))) (.cons (.ret (.cst (.bool false))) .nil) .nil) (.cons (.asg (.v 5) (.ix (.lst (.cons (.cst (.int 1000000)) (.cons (.cals 8 (.cons (.var 1) (.cons (.cst (.int 136)) (.cons (.cst (.int 60000)) .nil)))) .nil))) (.cals 8 (.cons (.var 1) (.cons (.cst (.int 137)) (.cons (.cst (.int 2)) .nil)))))) (.cons (.ret (.andB (.cmp (.cals 34 (.cons (.var 2) (.cons (.var 5) .nil))) (.cons .eq (.p1 .len (.lc b37e0 (.v 11) (.ofl (.var 4)) b37t0 [11])) .nil)) (.andB (.cals 35 (.cons (.var 1) .nil)) (.one (.cals 36 (.cons (.var 1) .nil)))))) .nil)))))))))
def r37 : DefR := ⟨"law", "law", top 66, ["script", "draws", "rule", "t", "told", "budget", "first", "factor", "waits", "plain", "wait", "time"], ["script"], [8, 9], 4, b37⟩
def G : PG := ⟨[r0, r1, r2, r3, r4, r5, r6, r7, r8, r9, r10, r11, r12, r13, r14, r15, r16, r17, r18, r19, r20, r21, r22, r23, r24, r25, r26, r27, r28, r29, r30, r31, r32, r33, r34, r35, r36, r37], [("MOST_RUNS", (.int 30)), ("MOST_DUE", (.int 10000)), ("MOST_LENGTH", (.int 1000)), ("MOST_PAIRS", (.int 6)), ("MOST_TIME", (.int 1000000)), ("MOST_OFFSET", (.int 1440)), ("MOST_WAIT", (.int 1000)), ("MOST_FACTOR", (.int 5)), ("MOST_CAP", (.int 100000)), ("MOST_TRIES", (.int 20)), ("RULES", (.tuple [(.str "let"), (.str "skip"), (.str "queue"), (.str "replace")])), ("LEAST_LOCAL", (.int (-1000000))), ("MOST_LOCAL", (.int 3000000)), ("TWICE", (.tuple [(.str "first"), (.str "last"), (.str "each")])), ("NEVER", (.tuple [(.str "skip"), (.str "next")])), ("MOST_BUDGET", (.int 1000000))], ["abs", "enumerate", "int", "len", "max", "min", "range", "repr", "set", "sorted", "sum", "zip"], []⟩
end K70
set_option maxRecDepth 100000
set_option maxHeartbeats 1000000
/-! LD: _law_draws and _law_mix, the same in every law. -/
namespace DI
open PySem
def bDraws : CSs := (.cons (.own 1 (.lst .nil)) (.cons (.forr (.v 2) (.rng1 (.p2 .min (.cst (.int 63)) (.p1 .len (.var 0)))) (.cons (.asg (.v 3) (.p1 .abs (.ix (.var 0) (.var 2)))) (.cons (.ife (.cmp (.var 3) (.cons .ge (.bin .pow (.cst (.int 10)) (.cst (.int 18))) .nil)) (.cons (.forr (.v 4) (.rng1 (.cst (.int 60))) (.cons (.ife (.cmp (.var 3) (.cons .gt (.cst (.int 0)) .nil)) (.cons (.app 1 (.bin .mod (.p1 .int (.var 3)) (.cst (.int 65536)))) (.cons (.asg (.v 3) (.bin .fdiv (.var 3) (.cst (.int 65536)))) .nil)) .nil) .nil) [1]) .nil) (.cons (.asg (.v 5) (.bin .mod (.p1 .int (.bin .add (.bin .mul (.var 3) (.cst (.int 48271))) (.bin .mul (.bin .add (.var 2) (.cst (.int 1))) (.cst (.int 69621))))) (.cst (.int 2147483647)))) (.cons (.asg (.v 5) (.bin .mod (.p1 .int (.bin .add (.bin .add (.bin .mul (.var 5) (.cst (.int 16807))) (.bin .mul (.cst (.int 11)) (.var 2))) (.cst (.int 5)))) (.cst (.int 2147483629)))) (.cons (.app 1 (.bin .mod (.p1 .int (.var 5)) (.cst (.int 65536)))) (.cons (.app 1 (.bin .mod (.p1 .int (.bin .fdiv (.var 5) (.cst (.int 65536)))) (.cst (.int 32768)))) .nil))))) .nil)) [1]) (.cons (.ret (.var 1)) .nil)))
def bMix : CSs := (.cons (.asg (.v 3) (.cst (.int 0))) (.cons (.ife (.cmp (.p1 .len (.var 0)) (.cons .gt (.cst (.int 0)) .nil)) (.cons (.asg (.v 3) (.ix (.var 0) (.bin .mod (.p1 .int (.var 1)) (.p1 .len (.var 0))))) .nil) .nil) (.cons (.ife (.cmp (.var 1) (.cons .lt (.p1 .len (.var 0)) .nil)) (.cons (.ret (.bin .mod (.p1 .int (.var 3)) (.var 2))) .nil) .nil) (.cons (.ret (.bin .mod (.p1 .int (.bin .fdiv (.p1 .int (.bin .add (.bin .mul (.var 3) (.cst (.int 7919))) (.bin .mul (.var 1) (.cst (.int 104729))))) (.cst (.int 3)))) (.var 2))) .nil))))
def mixF (draws : List Int) (k many : Int) : Int :=
  if k < draws.length then (draws.getD (k % draws.length).toNat 0) % many else (((if draws = [] then 0 else draws.getD (k % draws.length).toNat 0) * 7919 + k * 104729) / 3) % many
theorem mixF_pos (draws : List Int) (k : Int) {many : Int} (h : 0 < many) : 0 ≤ mixF draws k many := by
  unfold mixF; split <;> exact Int.emod_nonneg _ (by omega)
theorem mixF_lt (draws : List Int) (k : Int) {many : Int} (h : 0 < many) : mixF draws k many < many := by
  unfold mixF; split <;> exact Int.emod_lt_of_pos _ h
variable {T : Nat → List D → Option D}
theorem atI_map {draws : List Int} {k : Int} (h : 0 ≤ k) (h2 : k < draws.length) : L2.atI (draws.map PyData.int) k = some (.int (draws.getD k.toNat 0)) := by
  unfold L2.atI L2.ixN
  rw [List.length_map, if_pos h, if_pos h2]
  have hn : k.toNat < draws.length := by omega
  simp [List.getElem?_map, List.getD_eq_getElem?_getD, List.getElem?_eq_getElem hn]
theorem r_mix (draws : List Int) (k : Int) {many : Int} (hk : 0 ≤ k) (hm : 0 < many) : runD T 4 bMix [.list (draws.map .int), .int k, .int many] = some (.int (mixF draws k many)) := by
  have s1 : DI.small64 7919 = true := by decide
  have s2 : DI.small64 104729 = true := by decide
  by_cases hd : draws = []
  · subst hd
    have : ¬ k < 0 := by omega
    simp [bMix, runD, exSs, exS, ev, evs, evc, bindP, binD, addD, mulD, modD, fdivD, cmpD, ltD, gtD, ordD, asB, p1D, ixD, outD, hm, s1, s2, mixF, this]
  · have hl : 0 < draws.length := List.length_pos_iff.mpr hd
    have h0 : 0 ≤ k % (draws.length : Int) := Int.emod_nonneg _ (by omega)
    have h1 : k % (draws.length : Int) < draws.length := Int.emod_lt_of_pos _ (by omega)
    have ha := atI_map h0 h1
    by_cases hk2 : k < draws.length
    · simp [bMix, runD, exSs, exS, ev, evs, evc, bindP, binD, addD, mulD, modD, fdivD, cmpD, ltD, gtD, ordD, asB, p1D, ixD, outD, hm, s1, s2, mixF, hl, hd, hk2, ha]
    · simp [bMix, runD, exSs, exS, ev, evs, evc, bindP, binD, addD, mulD, modD, fdivD, cmpD, ltD, gtD, ordD, asB, p1D, ixD, outD, hm, s1, s2, mixF, hl, hd, hk2, ha]
/-! ### loops -/
theorem forL_inv {f : D → Env → Option Out} (P : Nat → Env → Prop) : ∀ (ds : List D) (i : Nat) (ρ : Env), P i ρ → (∀ (j : Nat) (d : D) (ρ : Env), ds[j]? = some d → P (i + j) ρ → ∃ ρ', f d ρ = some (.nx ρ') ∧ P (i + j + 1) ρ') → ∃ ρ', forL f ds ρ = some (.nx ρ') ∧ P (i + ds.length) ρ'
  | [], i, ρ, h, _ => ⟨ρ, rfl, h⟩
  | d :: r, i, ρ, h, st => by
    obtain ⟨ρ1, e1, h1⟩ := st 0 d ρ rfl h
    obtain ⟨ρ2, e2, h2⟩ := forL_inv P r (i + 1) ρ1 h1 fun j d ρ hj hp => by
      obtain ⟨ρ', e, h⟩ := st (j + 1) d ρ (by simpa using hj) (by rw [show i + (j + 1) = i + 1 + j by omega]; exact hp)
      exact ⟨ρ', e, by rw [show i + 1 + j + 1 = i + (j + 1) + 1 by omega]; exact h⟩
    exact ⟨ρ2, by simp [forL, e1, e2], by rw [show i + (d :: r).length = i + 1 + r.length by simp; omega]; exact h2⟩
/-! ### _law_draws -/
def dIn : CS := .forr (.v 4) (.rng1 (.cst (.int 60))) (.cons (.ife (.cmp (.var 3) (.cons .gt (.cst (.int 0)) .nil)) (.cons (.app 1 (.bin .mod (.p1 .int (.var 3)) (.cst (.int 65536)))) (.cons (.asg (.v 3) (.bin .fdiv (.var 3) (.cst (.int 65536)))) .nil)) .nil) .nil) [1]
def dBody : CSs := .cons (.asg (.v 3) (.p1 .abs (.ix (.var 0) (.var 2)))) (.cons (.ife (.cmp (.var 3) (.cons .ge (.bin .pow (.cst (.int 10)) (.cst (.int 18))) .nil)) (.cons dIn .nil) (.cons (.asg (.v 5) (.bin .mod (.p1 .int (.bin .add (.bin .mul (.var 3) (.cst (.int 48271))) (.bin .mul (.bin .add (.var 2) (.cst (.int 1))) (.cst (.int 69621))))) (.cst (.int 2147483647)))) (.cons (.asg (.v 5) (.bin .mod (.p1 .int (.bin .add (.bin .add (.bin .mul (.var 5) (.cst (.int 16807))) (.bin .mul (.cst (.int 11)) (.var 2))) (.cst (.int 5)))) (.cst (.int 2147483629)))) (.cons (.app 1 (.bin .mod (.p1 .int (.var 5)) (.cst (.int 65536)))) (.cons (.app 1 (.bin .mod (.p1 .int (.bin .fdiv (.var 5) (.cst (.int 65536)))) (.cst (.int 32768)))) .nil))))) .nil)
theorem bDraws_eq : bDraws = .cons (.own 1 (.lst .nil)) (.cons (.forr (.v 2) (.rng1 (.p2 .min (.cst (.int 63)) (.p1 .len (.var 0)))) dBody [1]) (.cons (.ret (.var 1)) .nil)) := rfl
def okDs (n : Nat) (ds : List Int) : Prop := ds.length ≤ n ∧ ∀ x ∈ ds, 0 ≤ x ∧ x < 65536
theorem okDs.push {n : Nat} {ds : List Int} {x : Int} (h : okDs n ds) (h0 : 0 ≤ x) (h1 : x < 65536) : okDs (n + 1) (ds ++ [x]) :=
  ⟨by simpa using h.1, fun y hy => by rcases List.mem_append.mp hy with z | z; exact h.2 y z; simp at z; subst z; exact ⟨h0, h1⟩⟩
theorem rng_at {n : Nat} {ds : List D} {j : Nat} {d : D} (h : rngD 0 (n : Int) = some ds) (hj : ds[j]? = some d) : j < n ∧ d = .int j := by
  unfold rngD at h
  split at h
  · simp only [Option.some.injEq] at h
    subst h
    rw [List.getElem?_map] at hj
    obtain ⟨i, h1, h2⟩ := Option.map_eq_some_iff.mp hj
    have hlt := (List.getElem?_eq_some_iff.mp h1).1
    have hv := (List.getElem?_eq_some_iff.mp h1).2
    simp at hv hlt
    subst hv
    exact ⟨by omega, by rw [← h2]; simp⟩
  · cases h
theorem rng_some {n : Nat} (h : n ≤ 1000) : ∃ ds, rngD 0 (n : Int) = some ds ∧ ds.length = n := by
  unfold rngD
  rw [if_pos (by rw [PySem.sizeLine]; refine ⟨by decide, by decide, by omega, by omega, by omega⟩)]
  exact ⟨_, rfl, by simp⟩
theorem dIn_ok {n : Nat} (ns : List Int) (ds : List Int) (k : Option D) (rest : Int) (turn st : Option D) (hr : 0 ≤ rest) (m : Nat) (hm : m ≤ 100000) (h : okDs m ds) :
    ∃ ds' rest' turn', exS T n dIn [some (.list (ns.map .int)), some (.list (ds.map .int)), k, some (.int rest), turn, st] = some (.nx [some (.list (ns.map .int)), some (.list (ds'.map .int)), k, some (.int rest'), turn', st]) ∧ okDs (m + 60) ds' := by
  obtain ⟨rs, e1, e2⟩ := rng_some (n := 60) (by decide)
  have key := forL_inv (f := fun d ρ => (bindP (.v 4) d ρ).bind fun ρ' => exSs T n (.cons (.ife (.cmp (.var 3) (.cons .gt (.cst (.int 0)) .nil)) (.cons (.app 1 (.bin .mod (.p1 .int (.var 3)) (.cst (.int 65536)))) (.cons (.asg (.v 3) (.bin .fdiv (.var 3) (.cst (.int 65536)))) .nil)) .nil) .nil) ρ')
    (fun i ρ => ∃ ds' rest' turn', ρ = [some (.list (ns.map .int)), some (.list (ds'.map .int)), k, some (.int rest'), turn', st] ∧ okDs (m + i) ds' ∧ 0 ≤ rest') rs 0 _ ⟨ds, rest, turn, rfl, h, hr⟩ (fun j d ρ hj ⟨ds1, r1, t1, hρ, h1, h2⟩ => by
      subst hρ
      obtain ⟨hj60, rfl⟩ := rng_at e1 hj
      have hlen : ds1.length < sizeLine := by have := h1.1; rw [PySem.sizeLine]; omega
      by_cases hp : 0 < r1
      · refine ⟨_, by simp [bindP, exSs, exS, ev, evc, cmpD, gtD, ordD, asB, p1D, binD, modD, fdivD, slot, appD, hp, hlen] <;> rfl, ds1 ++ [r1 % 65536], r1 / 65536, some (.int j), ?_, ?_, by omega⟩
        · simp
        · rw [show m + (0 + j + 1) = (m + (0 + j)) + 1 by omega]
          exact h1.push (Int.emod_nonneg _ (by decide)) (Int.emod_lt_of_pos _ (by decide))
      · refine ⟨_, by simp [bindP, exSs, exS, ev, evc, cmpD, gtD, ordD, asB, hp] <;> rfl, ds1, r1, some (.int j), rfl, ⟨Nat.le_trans h1.1 (by omega), h1.2⟩, h2⟩)
  obtain ⟨ρ', q1, ds', r', t', rfl, q2, q3⟩ := key
  refine ⟨ds', r', t', ?_, by rw [e2] at q2; simpa using q2⟩
  simp only [dIn, exS, evi, ev, Option.bind_some, asI]
  rw [show (60 : Int) = ((60 : Nat) : Int) from rfl, e1]
  exact q1
end DI
set_option maxRecDepth 100000
set_option maxHeartbeats 1000000
namespace DI
open PySem
variable {T : Nat → List D → Option D}
theorem hp18 : DI.powD (.int 10) (.int 18) = some (.int 1000000000000000000) := by simp [DI.powD]
theorem step_big {n : Nat} (scr : List D) (ds ds' : List Int) (j : Nat) (z w rest' : Int) (rest turn st turn' : Option D) (ha : L2.atI scr (j : Int) = some (.int z)) (hab : (if z < 0 then -z else z) = w) (hbig : 1000000000000000000 ≤ w)
    (q1 : exS T n dIn [some (.list scr), some (.list (ds.map .int)), some (.int j), some (.int w), turn, st] = some (.nx [some (.list scr), some (.list (ds'.map .int)), some (.int j), some (.int rest'), turn', st])) :
    exSs T n dBody [some (.list scr), some (.list (ds.map .int)), some (.int j), rest, turn, st] = some (.nx [some (.list scr), some (.list (ds'.map .int)), some (.int j), some (.int rest'), turn', st]) := by
  simp [dBody, bindP, exSs, exS, ev, evc, cmpD, geD, ordD, asB, p1D, binD, ixD, ha, hab, hp18, hbig, q1]
theorem mul_r {w c : Int} (h : DI.small64 c = true) : mulD (.int w) (.int c) = some (.int (w * c)) := by
  show (if (DI.small64 w || DI.small64 c) = true then some (PyData.int (w * c)) else none) = _
  rw [if_pos (by rw [h, Bool.or_true])]
theorem mul_l {w c : Int} (h : DI.small64 c = true) : mulD (.int c) (.int w) = some (.int (c * w)) := by
  show (if (DI.small64 c || DI.small64 w) = true then some (PyData.int (c * w)) else none) = _
  rw [if_pos (by rw [h, Bool.true_or])]
theorem mod_c {w c : Int} (h : 0 < c) : modD (.int w) (.int c) = some (.int (w % c)) := if_pos h
theorem fdiv_c {w c : Int} (h : 0 < c ∧ c < 2 ^ 64) : fdivD (.int w) (.int c) = some (.int (w / c)) := if_pos h
def sA : CS := .asg (.v 5) (.bin .mod (.p1 .int (.bin .add (.bin .mul (.var 3) (.cst (.int 48271))) (.bin .mul (.bin .add (.var 2) (.cst (.int 1))) (.cst (.int 69621))))) (.cst (.int 2147483647)))
def sB : CS := .asg (.v 5) (.bin .mod (.p1 .int (.bin .add (.bin .add (.bin .mul (.var 5) (.cst (.int 16807))) (.bin .mul (.cst (.int 11)) (.var 2))) (.cst (.int 5)))) (.cst (.int 2147483629)))
def sC : CS := .app 1 (.bin .mod (.p1 .int (.var 5)) (.cst (.int 65536)))
def sD : CS := .app 1 (.bin .mod (.p1 .int (.bin .fdiv (.var 5) (.cst (.int 65536)))) (.cst (.int 32768)))
theorem dBody_eq : dBody = .cons (.asg (.v 3) (.p1 .abs (.ix (.var 0) (.var 2)))) (.cons (.ife (.cmp (.var 3) (.cons .ge (.bin .pow (.cst (.int 10)) (.cst (.int 18))) .nil)) (.cons dIn .nil) (.cons sA (.cons sB (.cons sC (.cons sD .nil))))) .nil) := rfl
theorem sA_ok {n : Nat} (a0 a1 a4 a5 : Option D) (j w : Int) : ∃ A, exS T n sA [a0, a1, some (.int j), some (.int w), a4, a5] = some (.nx [a0, a1, some (.int j), some (.int w), a4, some (.int A)]) := by
  refine ⟨(w * 48271 + (j + 1) * 69621) % 2147483647, ?_⟩
  simp only [sA, exS, ev, List.getElem?_cons_succ, List.getElem?_cons_zero, Option.join_some, Option.bind_some, binD, mul_r (c := 48271) (by decide), mul_r (c := 69621) (by decide), addD, p1D, mod_c (c := 2147483647) (by decide)]
  rfl
theorem sB_ok {n : Nat} (a0 a1 a3 a4 : Option D) (j A : Int) : ∃ B, exS T n sB [a0, a1, some (.int j), a3, a4, some (.int A)] = some (.nx [a0, a1, some (.int j), a3, a4, some (.int B)]) := by
  refine ⟨(A * 16807 + 11 * j + 5) % 2147483629, ?_⟩
  simp only [sB, exS, ev, List.getElem?_cons_succ, List.getElem?_cons_zero, Option.join_some, Option.bind_some, binD, mul_r (c := 16807) (by decide), mul_l (c := 11) (by decide), addD, p1D, mod_c (c := 2147483629) (by decide)]
  rfl
theorem sC_ok {n : Nat} (a0 a2 a3 a4 : Option D) (ds : List Int) (B : Int) (hlen : ds.length < sizeLine) : exS T n sC [a0, some (.list (ds.map .int)), a2, a3, a4, some (.int B)] = some (.nx [a0, some (.list ((ds ++ [B % 65536]).map .int)), a2, a3, a4, some (.int B)]) := by
  simp only [sC, exS, ev, List.getElem?_cons_succ, List.getElem?_cons_zero, Option.join_some, Option.bind_some, p1D, binD, mod_c (w := B) (c := 65536) (by decide), slot, appD, List.length_map, if_pos hlen, Option.map_some, List.map_append, List.map_cons, List.map_nil, List.set]
theorem sD_ok {n : Nat} (a0 a2 a3 a4 : Option D) (ds : List Int) (B : Int) (hlen : ds.length < sizeLine) : exS T n sD [a0, some (.list (ds.map .int)), a2, a3, a4, some (.int B)] = some (.nx [a0, some (.list ((ds ++ [B / 65536 % 32768]).map .int)), a2, a3, a4, some (.int B)]) := by
  simp only [sD, exS, ev, List.getElem?_cons_succ, List.getElem?_cons_zero, Option.join_some, Option.bind_some, p1D, binD, fdiv_c (w := B) (c := 65536) (by decide), mod_c (w := B / 65536) (c := 32768) (by decide), slot, appD, List.length_map, if_pos hlen, Option.map_some, List.map_append, List.map_cons, List.map_nil, List.set]
theorem ife_f {n : Nat} {c : CE} {e f : CSs} {ρ : Env} (h : ev T c ρ = some (.bool false)) : exS T n (.ife c e f) ρ = exSs T n f ρ := by
  simp only [exS, h, Option.bind_some, asB, Bool.false_eq_true, if_false]
theorem cons_nx {n : Nat} {c : CS} {r : CSs} {ρ ρ' : Env} (h : exS T n c ρ = some (.nx ρ')) : exSs T n (.cons c r) ρ = exSs T n r ρ' := by
  simp only [exSs, h, Option.bind_some]
theorem step_small {n : Nat} (scr : List D) (ds : List Int) (j : Nat) (z w : Int) (rest turn st : Option D) (ha : L2.atI scr (j : Int) = some (.int z)) (hab : (if z < 0 then -z else z) = w) (hbig : ¬ 1000000000000000000 ≤ w) (hlen : ds.length < sizeLine) (hlen1 : ds.length + 1 < sizeLine) :
    ∃ x y t, exSs T n dBody [some (.list scr), some (.list (ds.map .int)), some (.int j), rest, turn, st] = some (.nx [some (.list scr), some (.list ((ds ++ [x] ++ [y]).map .int)), some (.int j), some (.int w), turn, t]) ∧ 0 ≤ x ∧ x < 65536 ∧ 0 ≤ y ∧ y < 65536 := by
  obtain ⟨A, hA⟩ := sA_ok (T := T) (n := n) (some (.list scr)) (some (.list (ds.map .int))) turn st j w
  obtain ⟨B, hB⟩ := sB_ok (T := T) (n := n) (some (.list scr)) (some (.list (ds.map .int))) (some (.int w)) turn j A
  have h0 : exS T n (.asg (.v 3) (.p1 .abs (.ix (.var 0) (.var 2)))) [some (.list scr), some (.list (ds.map .int)), some (.int j), rest, turn, st] = some (.nx [some (.list scr), some (.list (ds.map .int)), some (.int j), some (.int w), turn, st]) := by
    simp only [exS, ev, List.getElem?_cons_succ, List.getElem?_cons_zero, Option.join_some, Option.bind_some, ixD, ha, p1D, hab, bindP]
    rfl
  have hc : ev T (.cmp (.var 3) (.cons .ge (.bin .pow (.cst (.int 10)) (.cst (.int 18))) .nil)) [some (.list scr), some (.list (ds.map .int)), some (.int j), some (.int w), turn, st] = some (.bool false) := by
    simp only [ev, evc, List.getElem?_cons_succ, List.getElem?_cons_zero, Option.join_some, Option.bind_some, binD, hp18, cmpD, geD, ordD, decide_eq_false hbig, Bool.false_eq_true, if_false, Option.map_some]
  refine ⟨B % 65536, B / 65536 % 32768, some (.int B), ?_, Int.emod_nonneg _ (by decide), Int.emod_lt_of_pos _ (by decide), Int.emod_nonneg _ (by decide), Int.lt_trans (Int.emod_lt_of_pos _ (by decide)) (by decide)⟩
  rw [dBody_eq, cons_nx h0]
  have hi : exS T n (.ife (.cmp (.var 3) (.cons .ge (.bin .pow (.cst (.int 10)) (.cst (.int 18))) .nil)) (.cons dIn .nil) (.cons sA (.cons sB (.cons sC (.cons sD .nil))))) [some (.list scr), some (.list (ds.map .int)), some (.int j), some (.int w), turn, st] = some (.nx [some (.list scr), some (.list ((ds ++ [B % 65536] ++ [B / 65536 % 32768]).map .int)), some (.int j), some (.int w), turn, some (.int B)]) := by
    rw [ife_f hc, cons_nx hA, cons_nx hB, cons_nx (sC_ok _ _ _ _ ds B hlen), cons_nx (sD_ok _ _ _ _ _ B (by simpa using hlen1))]
    rfl
  rw [cons_nx hi]
  rfl
end DI
set_option maxRecDepth 100000
namespace K70
open PySem L2 DI
theorem h0 : defB G r0 = true := by decide +kernel
theorem h1 : defB G r1 = true := by decide +kernel
theorem h2 : defB G r2 = true := by decide +kernel
theorem h3 : defB G r3 = true := by decide +kernel
theorem h4 : defB G r4 = true := by decide +kernel
theorem h5 : defB G r5 = true := by decide +kernel
theorem h6 : defB G r6 = true := by decide +kernel
theorem h7 : defB G r7 = true := by decide +kernel
theorem h8 : defB G r8 = true := by decide +kernel
theorem h9 : defB G r9 = true := by decide +kernel
theorem h10 : defB G r10 = true := by decide +kernel
theorem h11 : defB G r11 = true := by decide +kernel
theorem h12 : defB G r12 = true := by decide +kernel
theorem h13 : defB G r13 = true := by decide +kernel
theorem h14 : defB G r14 = true := by decide +kernel
theorem h15 : defB G r15 = true := by decide +kernel
theorem h16 : defB G r16 = true := by decide +kernel
theorem h17 : defB G r17 = true := by decide +kernel
theorem h18 : defB G r18 = true := by decide +kernel
theorem h19 : defB G r19 = true := by decide +kernel
theorem h20 : defB G r20 = true := by decide +kernel
theorem h21 : defB G r21 = true := by decide +kernel
theorem h22 : defB G r22 = true := by decide +kernel
theorem h23 : defB G r23 = true := by decide +kernel
theorem h25 : defB G r25 = true := by decide +kernel
theorem h26 : defB G r26 = true := by decide +kernel
theorem h27 : defB G r27 = true := by decide +kernel
theorem h28 : defB G r28 = true := by decide +kernel
theorem h29 : defB G r29 = true := by decide +kernel
theorem h30 : defB G r30 = true := by decide +kernel
theorem h31 : defB G r31 = true := by decide +kernel
theorem h32 : defB G r32 = true := by decide +kernel
theorem h33 : defB G r33 = true := by decide +kernel
theorem h34 : defB G r34 = true := by decide +kernel
theorem h35 : defB G r35 = true := by decide +kernel
theorem h36 : defB G r36 = true := by decide +kernel
theorem h37 : defB G r37 = true := by decide +kernel
end K70
set_option maxRecDepth 100000
set_option maxHeartbeats 1000000
/-! DX: the data-level meaning as equations for simp, arguments first. -/
namespace DI
open PySem
def a1 (f : D → Option D) : Option D → Option D
  | some x => f x
  | none => none
def a2 (f : D → D → Option D) : Option D → Option D → Option D
  | some x, some y => f x y
  | _, _ => none
def andO : Option D → Option D → Option D
  | some (.bool false), _ => some (.bool false)
  | some (.bool true), some (.bool c) => some (.bool c)
  | _, _ => none
def orO : Option D → Option D → Option D
  | some (.bool true), _ => some (.bool true)
  | some (.bool false), some (.bool c) => some (.bool c)
  | _, _ => none
def notO : Option D → Option D
  | some (.bool b) => some (.bool (!b))
  | _ => none
def iteO : Option D → Option D → Option D → Option D
  | some (.bool true), x, _ => x
  | some (.bool false), _, y => y
  | _, _, _ => none
def bO : Option Bool → Option D
  | some b => some (.bool b)
  | none => none
def cm (o : Cop) : Option D → Option D → Option D
  | some x, some y => bO (cmpD o x y)
  | _, _ => none
def ch3b (o : Cop) (y : D) : Option Bool → Option D → Option D
  | some true, some w => bO (cmpD o y w)
  | some false, _ => some (.bool false)
  | _, _ => none
def ch3 (o o' : Cop) : Option D → Option D → Option D → Option D
  | some x, some y, z => ch3b o' y (cmpD o x y) z
  | _, _, _ => none
def orVb (x : D) : Option Bool → Option D → Option D
  | some true, _ => some x
  | some false, y => y
  | none, _ => none
def orVO : Option D → Option D → Option D
  | some x, y => orVb x (truthD x) y
  | none, _ => none
def tupO : Option (List D) → Option D
  | some xs => some (.tuple xs)
  | none => none
def lstO : Option (List D) → Option D
  | some xs => some (.list xs)
  | none => none
def lstSO : Option (List D) → Option D
  | some xs => if xs.length ≤ sizeLine then some (.list xs) else none
  | none => none
def cnsO : Option D → Option (List D) → Option (List D)
  | some x, some xs => some (x :: xs)
  | _, _ => none
def appOb : Option (List D) → Option (List D) → Option (List D)
  | some xs, some ys => some (xs ++ ys)
  | _, _ => none
def appO : Option D → Option (List D) → Option (List D)
  | some x, y => appOb (listOf x) y
  | _, _ => none
def slO : Option D → Option (Option Int) → Option (Option Int) → Option D
  | some x, some l, some h => slD x l h
  | _, _, _ => none
def clO (g : List D → Option D) : Option (List D) → Option D
  | some xs => g xs
  | none => none
def scO : Option D → Option D
  | some d => if scalar d then some d else none
  | none => none
def dspO : Option (List D) → Option (List D) → Option D
  | some x, some y => dspD x y
  | _, _ => none
def lcC : Option Bool → Option D → Option (Option D)
  | some true, some x => some (some x)
  | some false, _ => some none
  | _, _ => none
def lcK (f : D → Option (Option D)) : Option (List D) → Option D
  | some ds => (compL f ds).map .list
  | none => none
def tsO : Option D → Option Bool → Option Bool
  | some (.bool true), y => y
  | some (.bool false), _ => some false
  | _, _ => none
def r1O : Option D → Option (List D)
  | some (.int j) => rngD 0 j
  | _ => none
def r2O : Option D → Option D → Option (List D)
  | some (.int i), some (.int j) => rngD i j
  | _, _ => none
def r3O : Option D → Option D → Option D → Option (List D)
  | some (.int i), some (.int j), some (.int k) => rng3D i j k
  | _, _, _ => none
def ofO : Option D → Option (List D)
  | some x => listOf x
  | none => none
def enO : Option D → Option (List D)
  | some (.list xs) => some (enumD 0 xs)
  | some (.tuple xs) => some (enumD 0 xs)
  | _ => none
def zpO : Option D → Option D → Option (List D)
  | some (.list xs), some (.list ys) => some (zipD xs ys)
  | _, _ => none
section
variable (T : Nat → List D → Option D)
def lcE (elt : CE) (ifs : CEs) : Option Env → Option (Option D)
  | some ρ => lcC (evt T ifs ρ) (ev T elt ρ)
  | none => none
def lcF (elt : CE) (p : Pat) (ifs : CEs) (vs : List Nat) (ρ : Env) (d : D) : Option (Option D) := lcE T elt ifs (bindP p d (wipeD ρ vs))
end
section
variable {f : D → Option D} {g : D → D → Option D} {x y z : D} {b c : Bool} {o o' : Cop} {xs ys : List D} {X Y : Option D}
@[simp] theorem a1_s : a1 f (some x) = f x := rfl
@[simp] theorem a2_s : a2 g (some x) (some y) = g x y := rfl
@[simp] theorem bO_s : bO (some b) = some (.bool b) := rfl
@[simp] theorem cm_s : cm o (some x) (some y) = bO (cmpD o x y) := rfl
@[simp] theorem andO_s : andO (some (.bool b)) (some (.bool c)) = some (.bool (b && c)) := by cases b <;> rfl
@[simp] theorem andO_f : andO (some (.bool false)) X = some (.bool false) := rfl
@[simp] theorem andO_t : andO (some (.bool true)) (some (.bool c)) = some (.bool c) := rfl
@[simp] theorem orO_s : orO (some (.bool b)) (some (.bool c)) = some (.bool (b || c)) := by cases b <;> rfl
@[simp] theorem orO_t : orO (some (.bool true)) X = some (.bool true) := rfl
@[simp] theorem orO_f : orO (some (.bool false)) (some (.bool c)) = some (.bool c) := rfl
@[simp] theorem notO_s : notO (some (.bool b)) = some (.bool (!b)) := rfl
@[simp] theorem iteO_t : iteO (some (.bool true)) X Y = X := rfl
@[simp] theorem iteO_f : iteO (some (.bool false)) X Y = Y := rfl
theorem iteO_s : iteO (some (.bool b)) X Y = if b then X else Y := by cases b <;> rfl
@[simp] theorem iteO_p {p : Prop} [Decidable p] : iteO (some (.bool (decide p))) X Y = if p then X else Y := by by_cases h : p <;> simp [h]
def ch3c : Option Bool → Option Bool → Option D
  | some true, w => bO w
  | some false, _ => some (.bool false)
  | none, _ => none
@[simp] theorem ch3_s : ch3 o o' (some x) (some y) (some z) = ch3c (cmpD o x y) (cmpD o' y z) := by
  show ch3b o' y (cmpD o x y) (some z) = _
  cases cmpD o x y with
  | none => rfl
  | some t => cases t <;> rfl
@[simp] theorem ch3c_s : ch3c (some b) (some c) = some (.bool (b && c)) := by cases b <;> rfl
@[simp] theorem orVO_s : orVO (some x) X = orVb x (truthD x) X := rfl
@[simp] theorem orVb_t : orVb x (some true) X = some x := rfl
@[simp] theorem orVb_f : orVb x (some false) X = X := rfl
@[simp] theorem truthD_n : truthD .none = some false := rfl
@[simp] theorem truthD_l : truthD (.list xs) = some (!xs.isEmpty) := rfl
@[simp] theorem truthD_t : truthD (.tuple xs) = some (!xs.isEmpty) := rfl
@[simp] theorem tupO_s : tupO (some xs) = some (.tuple xs) := rfl
@[simp] theorem lstO_s : lstO (some xs) = some (.list xs) := rfl
@[simp] theorem lstSO_s (h : xs.length ≤ sizeLine) : lstSO (some xs) = some (.list xs) := if_pos h
@[simp] theorem cnsO_s : cnsO (some x) (some xs) = some (x :: xs) := rfl
@[simp] theorem appO_l : appO (some (.list xs)) (some ys) = some (xs ++ ys) := rfl
@[simp] theorem appO_t : appO (some (.tuple xs)) (some ys) = some (xs ++ ys) := rfl
@[simp] theorem slO_s {l h : Option Int} : slO (some (.list xs)) (some l) (some h) = some (.list (cutD xs l h)) := rfl
@[simp] theorem clO_s {q : List D → Option D} : clO q (some xs) = q xs := rfl
@[simp] theorem scO_b : scO (some (.bool b)) = some (.bool b) := rfl
@[simp] theorem scO_i {i : Int} : scO (some (.int i)) = some (.int i) := rfl
@[simp] theorem scO_n : scO (some .none) = some .none := rfl
@[simp] theorem scO_x {s : Str} : scO (some (.str s)) = some (.str s) := rfl
@[simp] theorem dspO_s : dspO (some xs) (some ys) = dspD xs ys := rfl
@[simp] theorem lcC_t : lcC (some true) (some x) = some (some x) := rfl
@[simp] theorem lcC_f : lcC (some false) X = some none := rfl
@[simp] theorem lcC_p {p : Prop} [Decidable p] : lcC (some (decide p)) (some x) = some (if p then some x else none) := by by_cases h : p <;> simp [h]
theorem lcC_s : lcC (some b) (some x) = some (if b then some x else none) := by cases b <;> rfl
@[simp] theorem lcK_s {q : D → Option (Option D)} : lcK q (some xs) = (compL q xs).map .list := rfl
@[simp] theorem tsO_t {w : Option Bool} : tsO (some (.bool true)) w = w := rfl
@[simp] theorem tsO_f {w : Option Bool} : tsO (some (.bool false)) w = some false := rfl
@[simp] theorem tsO_1 : tsO (some (.bool b)) (some true) = some b := by cases b <;> rfl
@[simp] theorem r1O_s {j : Int} : r1O (some (.int j)) = rngD 0 j := rfl
@[simp] theorem r2O_s {i j : Int} : r2O (some (.int i)) (some (.int j)) = rngD i j := rfl
@[simp] theorem r3O_s {i j k : Int} : r3O (some (.int i)) (some (.int j)) (some (.int k)) = rng3D i j k := rfl
@[simp] theorem ofO_l : ofO (some (.list xs)) = some xs := rfl
@[simp] theorem ofO_t : ofO (some (.tuple xs)) = some xs := rfl
@[simp] theorem enO_s : enO (some (.list xs)) = some (enumD 0 xs) := rfl
@[simp] theorem enO_t : enO (some (.tuple xs)) = some (enumD 0 xs) := rfl
@[simp] theorem zpO_s : zpO (some (.list xs)) (some (.list ys)) = some (zipD xs ys) := rfl
end
section
variable {T : Nat → List D → Option D} {ρ : Env} {a b c e : CE} {es r : CEs} {o o' : Cop} {i j : Nat} {x : D}
@[simp] theorem slot_0 {u : Option D} : slot (u :: ρ) 0 = u := by cases u <;> rfl
@[simp] theorem slot_s {u : Option D} : slot (u :: ρ) (i + 1) = slot ρ i := rfl
@[simp] theorem ev_var : ev T (.var i) ρ = slot ρ i := by simp only [ev, slot]
@[simp] theorem ev_cst : ev T (.cst x) ρ = some x := by simp only [ev]
@[simp] theorem ev_glb {n : Str} : ev T (.glb n x) ρ = some x := by simp only [ev]
@[simp] theorem ev_bin {q : Bop} : ev T (.bin q a b) ρ = a2 (binD q) (ev T a ρ) (ev T b ρ) := by
  simp only [ev]; cases ev T a ρ <;> cases ev T b ρ <;> rfl
@[simp] theorem ev_neg : ev T (.neg a) ρ = a1 negD (ev T a ρ) := by simp only [ev]; cases ev T a ρ <;> rfl
@[simp] theorem ev_cmp1 : ev T (.cmp a (.cons o b .nil)) ρ = cm o (ev T a ρ) (ev T b ρ) := by
  simp only [ev, evc]
  cases ev T a ρ <;> cases ev T b ρ <;> try rfl
  rename_i x y; show ((cmpD o x y).bind _).map _ = bO (cmpD o x y)
  cases cmpD o x y with
  | none => rfl
  | some t => cases t <;> rfl
@[simp] theorem ev_cmp2 : ev T (.cmp a (.cons o b (.cons o' c .nil))) ρ = ch3 o o' (ev T a ρ) (ev T b ρ) (ev T c ρ) := by
  simp only [ev, evc]
  cases ev T a ρ <;> cases ev T b ρ <;> (try rfl)
  rename_i x y
  show ((cmpD o x y).bind _).map _ = ch3b o' y (cmpD o x y) (ev T c ρ)
  cases cmpD o x y with
  | none => rfl
  | some t =>
    cases t
    · rfl
    · cases ev T c ρ with
      | none => rfl
      | some z =>
        show ((cmpD o' y z).bind _).map _ = bO (cmpD o' y z)
        cases cmpD o' y z with
        | none => rfl
        | some t => cases t <;> rfl
@[simp] theorem ev_and : ev T (.andB a b) ρ = andO (ev T a ρ) (ev T b ρ) := by
  simp only [ev]
  cases ev T a ρ with
  | none => rfl
  | some x => cases x with
    | bool t => cases t with
      | false => rfl
      | true => cases ev T b ρ with
        | none => rfl
        | some y => cases y <;> rfl
    | _ => rfl
@[simp] theorem ev_or : ev T (.orB a b) ρ = orO (ev T a ρ) (ev T b ρ) := by
  simp only [ev]
  cases ev T a ρ with
  | none => rfl
  | some x => cases x with
    | bool t => cases t with
      | true => rfl
      | false => cases ev T b ρ with
        | none => rfl
        | some y => cases y <;> rfl
    | _ => rfl
@[simp] theorem ev_one : ev T (.one a) ρ = ev T a ρ := by simp only [ev]
@[simp] theorem ev_not : ev T (.notB a) ρ = notO (ev T a ρ) := by
  simp only [ev]
  cases ev T a ρ with
  | none => rfl
  | some x => cases x <;> rfl
@[simp] theorem ev_orV : ev T (.orV a b) ρ = orVO (ev T a ρ) (ev T b ρ) := by
  simp only [ev]
  cases ev T a ρ with
  | none => rfl
  | some x =>
    show (truthD x).bind _ = orVb x (truthD x) (ev T b ρ)
    cases truthD x with
    | none => rfl
    | some t => cases t <;> rfl
@[simp] theorem ev_ite : ev T (.ite c a b) ρ = iteO (ev T c ρ) (ev T a ρ) (ev T b ρ) := by
  simp only [ev]
  cases ev T c ρ with
  | none => rfl
  | some x => cases x with
    | bool t => cases t <;> rfl
    | _ => rfl
@[simp] theorem ev_tup : ev T (.tup es) ρ = tupO (evs T es ρ) := by simp only [ev]; cases evs T es ρ <;> rfl
@[simp] theorem ev_lst : ev T (.lst es) ρ = lstO (evs T es ρ) := by simp only [ev]; cases evs T es ρ <;> rfl
@[simp] theorem ev_lstS : ev T (.lstS es) ρ = lstSO (evS T es ρ) := by simp only [ev]; cases evS T es ρ <;> rfl
@[simp] theorem ev_ix : ev T (.ix a b) ρ = a2 ixD (ev T a ρ) (ev T b ρ) := by
  simp only [ev]; cases ev T a ρ <;> cases ev T b ρ <;> rfl
@[simp] theorem ev_sl : ev T (.sl a b c) ρ = slO (ev T a ρ) (partE b (ev T b ρ)) (partE c (ev T c ρ)) := by
  simp only [ev]; cases ev T a ρ <;> cases partE b (ev T b ρ) <;> cases partE c (ev T c ρ) <;> rfl
@[simp] theorem partE_no {u : Option D} : partE .no u = some none := rfl
theorem partE_i {u : Int} (h : isNo a = false) : partE a (some (.int u)) = some (some u) := by unfold partE; rw [h]; rfl
@[simp] theorem partE_var {u : Int} : partE (.var i) (some (.int u)) = some (some u) := rfl
@[simp] theorem partE_cst {u : Int} : partE (.cst x) (some (.int u)) = some (some u) := rfl
@[simp] theorem partE_neg {u : Int} : partE (.neg a) (some (.int u)) = some (some u) := rfl
@[simp] theorem partE_bin {u : Int} {q : Bop} : partE (.bin q a b) (some (.int u)) = some (some u) := rfl
@[simp] theorem ev_rev : ev T (.rev a) ρ = a1 revD (ev T a ρ) := by simp only [ev]; cases ev T a ρ <;> rfl
@[simp] theorem ev_p1 {p : P1} : ev T (.p1 p a) ρ = a1 (p1D p) (ev T a ρ) := by simp only [ev]; cases ev T a ρ <;> rfl
@[simp] theorem ev_p2 {p : P2} : ev T (.p2 p a b) ρ = a2 (p2D p) (ev T a ρ) (ev T b ρ) := by
  simp only [ev]; cases ev T a ρ <;> cases ev T b ρ <;> rfl
@[simp] theorem ev_dsp : ev T (.dsp es r) ρ = dspO (evs T es ρ) (evs T r ρ) := by
  simp only [ev]; cases evs T es ρ <;> cases evs T r ρ <;> rfl
@[simp] theorem ev_dix : ev T (.dix a b) ρ = a2 dixD (ev T a ρ) (ev T b ρ) := by
  simp only [ev]; cases ev T a ρ <;> cases ev T b ρ <;> rfl
@[simp] theorem ev_call : ev T (.call i es) ρ = clO (T i) (evs T es ρ) := by simp only [ev]; cases evs T es ρ <;> rfl
@[simp] theorem ev_cals : ev T (.cals i es) ρ = scO (clO (T i) (evs T es ρ)) := by
  simp only [ev]
  cases evs T es ρ with
  | none => rfl
  | some x => show (T i x).bind _ = scO (T i x); cases T i x <;> rfl
@[simp] theorem ev_lc {p : Pat} {it : CI} {vs : List Nat} : ev T (.lc a p it es vs) ρ = lcK (lcF T a p es vs ρ) (evi T it ρ) := by
  simp only [ev]
  cases evi T it ρ with
  | none => rfl
  | some ds =>
    show (compL _ ds).map _ = (compL _ ds).map _
    congr 2
    funext d
    unfold lcF lcE
    cases bindP p d (wipeD ρ vs) with
    | none => rfl
    | some ρ' =>
      show (evt T es ρ').bind _ = lcC (evt T es ρ') (ev T a ρ')
      cases evt T es ρ' with
      | none => rfl
      | some t => cases t with
        | false => rfl
        | true => show (ev T a ρ').map _ = _; cases ev T a ρ' <;> rfl
@[simp] theorem lcE_s : lcE T a es (some ρ) = lcC (evt T es ρ) (ev T a ρ) := rfl
@[simp] theorem evs_nil : evs T .nil ρ = some [] := by simp only [evs]
@[simp] theorem evs_cons : evs T (.cons e r) ρ = cnsO (ev T e ρ) (evs T r ρ) := by
  simp only [evs]; cases ev T e ρ <;> cases evs T r ρ <;> rfl
@[simp] theorem evS_nil : evS T .nil ρ = some [] := by simp only [evS]
@[simp] theorem evS_star : evS T (.cons (.star a) r) ρ = appO (ev T a ρ) (evS T r ρ) := by
  simp only [evS]
  cases ev T a ρ with
  | none => cases evS T r ρ <;> rfl
  | some x =>
    show (listOf x).bind _ = appOb (listOf x) (evS T r ρ)
    cases evS T r ρ <;> cases listOf x <;> rfl
theorem evS_cons (h : ∀ a, e ≠ .star a) : evS T (.cons e r) ρ = cnsO (ev T e ρ) (evS T r ρ) := by
  rw [evS.eq_3 T ρ e r h]
  cases ev T e ρ <;> cases evS T r ρ <;> rfl
@[simp] theorem evS_tup : evS T (.cons (.tup es) r) ρ = cnsO (ev T (.tup es) ρ) (evS T r ρ) := evS_cons (by intro a; exact CE.noConfusion)
@[simp] theorem evS_cst : evS T (.cons (.cst x) r) ρ = cnsO (ev T (.cst x) ρ) (evS T r ρ) := evS_cons (by intro a; exact CE.noConfusion)
@[simp] theorem evS_var : evS T (.cons (.var i) r) ρ = cnsO (ev T (.var i) ρ) (evS T r ρ) := evS_cons (by intro a; exact CE.noConfusion)
@[simp] theorem evS_bin {q : Bop} : evS T (.cons (.bin q a b) r) ρ = cnsO (ev T (.bin q a b) ρ) (evS T r ρ) := evS_cons (by intro a; exact CE.noConfusion)
@[simp] theorem evS_ix : evS T (.cons (.ix a b) r) ρ = cnsO (ev T (.ix a b) ρ) (evS T r ρ) := evS_cons (by intro a; exact CE.noConfusion)
@[simp] theorem evt_nil : evt T .nil ρ = some true := by simp only [evt]
@[simp] theorem evt_cons : evt T (.cons e r) ρ = tsO (ev T e ρ) (evt T r ρ) := by
  simp only [evt]
  cases ev T e ρ with
  | none => rfl
  | some x => cases x with
    | bool t => cases t <;> rfl
    | _ => rfl
@[simp] theorem evi_ofl : evi T (.ofl a) ρ = ofO (ev T a ρ) := by simp only [evi]; cases ev T a ρ <;> rfl
@[simp] theorem evi_rng1 : evi T (.rng1 a) ρ = r1O (ev T a ρ) := by
  simp only [evi]
  cases ev T a ρ with
  | none => rfl
  | some x => cases x <;> rfl
@[simp] theorem evi_rng2 : evi T (.rng2 a b) ρ = r2O (ev T a ρ) (ev T b ρ) := by
  simp only [evi]
  cases ev T a ρ with
  | none => rfl
  | some x => cases ev T b ρ with
    | none => cases x <;> rfl
    | some y => cases x <;> cases y <;> rfl
@[simp] theorem evi_rng3 : evi T (.rng3 a b c) ρ = r3O (ev T a ρ) (ev T b ρ) (ev T c ρ) := by
  simp only [evi]
  cases ev T a ρ with
  | none => rfl
  | some x => cases ev T b ρ with
    | none => cases x <;> rfl
    | some y => cases ev T c ρ with
      | none => cases x <;> cases y <;> rfl
      | some z => cases x <;> cases y <;> cases z <;> rfl
@[simp] theorem evi_enum : evi T (.enum a) ρ = enO (ev T a ρ) := by
  simp only [evi]
  cases ev T a ρ with
  | none => rfl
  | some x => cases x <;> rfl
@[simp] theorem evi_zip : evi T (.zip a b) ρ = zpO (ev T a ρ) (ev T b ρ) := by
  simp only [evi]
  cases ev T a ρ with
  | none => rfl
  | some x => cases ev T b ρ with
    | none => cases x <;> rfl
    | some y => cases x <;> cases y <;> rfl
end
/-! ### statements -/
section
variable (T : Nat → List D → Option D) (n : Nat)
def kn (r : CSs) : Option Out → Option Out
  | some (.nx ρ) => exSs T n r ρ
  | some (.rt d) => some (.rt d)
  | some (.bk ρ) => some (.bk ρ)
  | some (.ct ρ) => some (.ct ρ)
  | none => none
def nxO : Option Env → Option Out
  | some ρ => some (.nx ρ)
  | none => none
def rtO : Option D → Option Out
  | some d => some (.rt d)
  | none => none
def asgO (p : Pat) (ρ : Env) : Option D → Option Out
  | some d => nxO (bindP p d ρ)
  | none => none
def ownO (i : Nat) (ρ : Env) : Option D → Option Out
  | some d => if isMut d && decide (i < ρ.length) then some (.nx (ρ.set i (some d))) else none
  | none => none
def parO (is : List Nat) (ρ : Env) : Option (List D) → Option Out
  | some ds => nxO (setAll is ds ρ)
  | none => none
def stO (i : Nat) (ρ : Env) : Option D → Option Out
  | some d => some (.nx (ρ.set i (some d)))
  | none => none
def a3 (g : D → D → D → Option D) : Option D → Option D → Option D → Option D
  | some x, some y, some z => g x y z
  | _, _, _ => none
def ifO : Option D → Option Out → Option Out → Option Out
  | some (.bool true), x, _ => x
  | some (.bool false), _, y => y
  | _, _, _ => none
def exO (ρ : Env) : Option D → Option Out
  | some _ => some (.nx ρ)
  | none => none
def stF (p : Pat) (body : CSs) (d : D) (ρ : Env) : Option Out := kn T n body (nxO (bindP p d ρ))
def forK (p : Pat) (body : CSs) (ρ : Env) : Option (List D) → Option Out
  | some ds => forL (stF T n p body) ds ρ
  | none => none
end
section
variable {T : Nat → List D → Option D} {n : Nat} {ρ ρ' : Env} {c : CE} {e : CE} {es : CEs} {p : Pat} {s : CS} {r r' : CSs} {i : Nat} {d x y z : D} {X Y : Option Out}
@[simp] theorem kn_nx : kn T n r (some (.nx ρ)) = exSs T n r ρ := rfl
@[simp] theorem kn_rt : kn T n r (some (.rt d)) = some (.rt d) := rfl
@[simp] theorem kn_bk : kn T n r (some (.bk ρ)) = some (.bk ρ) := rfl
@[simp] theorem kn_ct : kn T n r (some (.ct ρ)) = some (.ct ρ) := rfl
@[simp] theorem nxO_s : nxO (some ρ) = some (.nx ρ) := rfl
@[simp] theorem rtO_s : rtO (some d) = some (.rt d) := rfl
@[simp] theorem asgO_s : asgO p ρ (some d) = nxO (bindP p d ρ) := rfl
@[simp] theorem parO_s {is : List Nat} {ds : List D} : parO is ρ (some ds) = nxO (setAll is ds ρ) := rfl
@[simp] theorem setAll_nil : setAll [] [] ρ = some ρ := rfl
@[simp] theorem stO_s : stO i ρ (some d) = some (.nx (ρ.set i (some d))) := rfl
@[simp] theorem a3_s {g : D → D → D → Option D} : a3 g (some x) (some y) (some z) = g x y z := rfl
@[simp] theorem ifO_t : ifO (some (.bool true)) X Y = X := rfl
@[simp] theorem ifO_f : ifO (some (.bool false)) X Y = Y := rfl
theorem ifO_s {b : Bool} : ifO (some (.bool b)) X Y = if b then X else Y := by cases b <;> rfl
@[simp] theorem ifO_p {q : Prop} [Decidable q] : ifO (some (.bool (decide q))) X Y = if q then X else Y := by by_cases h : q <;> simp [h]
@[simp] theorem exO_s : exO ρ (some d) = some (.nx ρ) := rfl
@[simp] theorem forK_s {ds : List D} : forK T n p r ρ (some ds) = forL (stF T n p r) ds ρ := rfl
def cE (u : Option D) : Option Env → Option Env
  | some r => some (u :: r)
  | none => none
def putE (v : Option D) : Nat → Env → Option Env
  | 0, _ :: r => some (v :: r)
  | i + 1, u :: r => cE u (putE v i r)
  | _, [] => none
theorem putE_eq {v : Option D} : ∀ (i : Nat) (ρ : Env), putE v i ρ = if i < ρ.length then some (ρ.set i v) else none
  | 0, _ :: _ => by simp [putE]
  | i + 1, u :: r => by
    simp only [putE, putE_eq i r, List.length_cons, Nat.add_lt_add_iff_right, List.set_cons_succ]
    split <;> rfl
  | 0, [] => rfl
  | _ + 1, [] => rfl
@[simp] theorem putE_0 {u v : Option D} {r : Env} : putE v 0 (u :: r) = some (v :: r) := rfl
@[simp] theorem putE_s {u v : Option D} {r : Env} : putE v (i + 1) (u :: r) = cE u (putE v i r) := rfl
@[simp] theorem cE_s {u : Option D} {r : Env} : cE u (some r) = some (u :: r) := rfl
@[simp] theorem bindP_v : bindP (.v i) d ρ = putE (some d) i ρ := by simp only [bindP, putE_eq]
@[simp] theorem ownO_l {xs : List D} : ownO i ρ (some (.list xs)) = nxO (putE (some (.list xs)) i ρ) := by
  simp only [ownO, isMut, Bool.true_and, decide_eq_true_eq, putE_eq]; split <;> rfl
def sK (is : List Nat) (ds : List D) : Option Env → Option Env
  | some ρ => setAll is ds ρ
  | none => none
@[simp] theorem sK_s {is : List Nat} {ds : List D} : sK is ds (some ρ) = setAll is ds ρ := rfl
@[simp] theorem setAll_cons {is : List Nat} {ds : List D} : setAll (i :: is) (d :: ds) ρ = sK is ds (putE (some d) i ρ) := by
  simp only [setAll, putE_eq]; split <;> rfl
@[simp] theorem bindP_t {q : Pat} {xs : List D} : bindP (.t q) (.tuple xs) ρ = bindPs q xs ρ := by simp only [bindP]
@[simp] theorem bindP_tl {q : Pat} {xs : List D} : bindP (.t q) (.list xs) ρ = bindPs q xs ρ := by simp only [bindP]
@[simp] theorem bindPs_nil : bindPs .nil [] ρ = some ρ := by simp only [bindPs]
def bK (q : Pat) (xs : List D) : Option Env → Option Env
  | some ρ => bindPs q xs ρ
  | none => none
@[simp] theorem bK_s {q : Pat} {xs : List D} : bK q xs (some ρ) = bindPs q xs ρ := rfl
@[simp] theorem bindPs_cons {q : Pat} {xs : List D} : bindPs (.cons p q) (d :: xs) ρ = bK q xs (bindP p d ρ) := by
  simp only [bindPs]; cases bindP p d ρ <;> rfl
@[simp] theorem wipeD_nil : wipeD ρ [] = ρ := rfl
@[simp] theorem wipeD_cons {vs : List Nat} : wipeD ρ (i :: vs) = (wipeD ρ vs).set i none := rfl
@[simp] theorem exS_asg : exS T n (.asg p e) ρ = asgO p ρ (ev T e ρ) := by
  simp only [exS]
  cases ev T e ρ with
  | none => rfl
  | some x => show (bindP p x ρ).map _ = nxO (bindP p x ρ); cases bindP p x ρ <;> rfl
@[simp] theorem exS_own : exS T n (.own i e) ρ = ownO i ρ (ev T e ρ) := by simp only [exS]; cases ev T e ρ <;> rfl
@[simp] theorem exS_par {is : List Nat} : exS T n (.par is es) ρ = parO is ρ (evs T es ρ) := by
  simp only [exS]
  cases evs T es ρ with
  | none => rfl
  | some x => show (setAll is x ρ).map _ = nxO (setAll is x ρ); cases setAll is x ρ <;> rfl
@[simp] theorem exS_app : exS T n (.app i e) ρ = stO i ρ (a2 appD (slot ρ i) (ev T e ρ)) := by
  simp only [exS]
  cases ev T e ρ with
  | none => cases slot ρ i <;> rfl
  | some x => cases slot ρ i with
    | none => rfl
    | some y => show (appD y x).map _ = stO i ρ (appD y x); cases appD y x <;> rfl
@[simp] theorem exS_put : exS T n (.put i c e) ρ = stO i ρ (a3 putD (slot ρ i) (ev T c ρ) (ev T e ρ)) := by
  simp only [exS]
  cases ev T e ρ with
  | none => cases slot ρ i <;> cases ev T c ρ <;> rfl
  | some x => cases ev T c ρ with
    | none => cases slot ρ i <;> rfl
    | some k => cases slot ρ i with
      | none => rfl
      | some y => show (putD y k x).map _ = stO i ρ (putD y k x); cases putD y k x <;> rfl
@[simp] theorem exS_ret : exS T n (.ret e) ρ = rtO (ev T e ρ) := by simp only [exS]; cases ev T e ρ <;> rfl
@[simp] theorem exS_retN : exS T n .retN ρ = some (.rt .none) := by simp only [exS]
@[simp] theorem exS_pass : exS T n .pass ρ = some (.nx ρ) := by simp only [exS]
@[simp] theorem exS_brk : exS T n .brk ρ = some (.bk ρ) := by simp only [exS]
@[simp] theorem exS_cnt : exS T n .cnt ρ = some (.ct ρ) := by simp only [exS]
@[simp] theorem exS_rse : exS T n .rse ρ = none := by simp only [exS]
@[simp] theorem exS_exp : exS T n (.exp e) ρ = exO ρ (ev T e ρ) := by simp only [exS]; cases ev T e ρ <;> rfl
@[simp] theorem exS_ife : exS T n (.ife c r r') ρ = ifO (ev T c ρ) (exSs T n r ρ) (exSs T n r' ρ) := by
  simp only [exS]
  cases ev T c ρ with
  | none => rfl
  | some x => cases x with
    | bool t => cases t <;> rfl
    | _ => rfl
@[simp] theorem exSs_nil : exSs T n .nil ρ = some (.nx ρ) := by simp only [exSs]
@[simp] theorem exSs_cons : exSs T n (.cons s r) ρ = kn T n r (exS T n s ρ) := by
  simp only [exSs]
  cases exS T n s ρ with
  | none => rfl
  | some o => cases o <;> rfl
theorem stF_def : stF T n p r d ρ = kn T n r (nxO (bindP p d ρ)) := rfl
@[simp] theorem exS_for {it : CI} {o : List Nat} : exS T n (.forr p it r o) ρ = forK T n p r ρ (evi T it ρ) := by
  simp only [exS]
  cases evi T it ρ with
  | none => rfl
  | some ds =>
    show forL _ ds ρ = forL _ ds ρ
    congr 1
    funext d ρ
    unfold stF
    cases bindP p d ρ <;> rfl
end
/-! ### operations -/
section
variable {i j k : Int} {b c : Bool} {x y : D} {xs ys : List D}
@[simp] theorem binD_add : binD .add = addD := rfl
@[simp] theorem binD_sub : binD .sub = subD := rfl
@[simp] theorem binD_mul : binD .mul = mulD := rfl
@[simp] theorem binD_fdiv : binD .fdiv = fdivD := rfl
@[simp] theorem binD_mod : binD .mod = modD := rfl
@[simp] theorem binD_pow : binD .pow = powD := rfl
@[simp] theorem addD_i : addD (.int i) (.int j) = some (.int (i + j)) := rfl
@[simp] theorem addD_l (h : xs.length + ys.length ≤ sizeLine) : addD (.list xs) (.list ys) = some (.list (xs ++ ys)) := if_pos h
@[simp] theorem subD_i : subD (.int i) (.int j) = some (.int (i - j)) := rfl
theorem mulD_r (h : -18446744073709551616 < j ∧ j < 18446744073709551616) : mulD (.int i) (.int j) = some (.int (i * j)) := by
  show (if (small64 i || small64 j) = true then _ else _) = _
  rw [if_pos]
  rw [Bool.or_eq_true]; exact .inr (decide_eq_true h)
theorem mulD_l (h : -18446744073709551616 < i ∧ i < 18446744073709551616) : mulD (.int i) (.int j) = some (.int (i * j)) := by
  show (if (small64 i || small64 j) = true then _ else _) = _
  rw [if_pos]
  rw [Bool.or_eq_true]; exact .inl (decide_eq_true h)
@[simp] theorem fdivD_i (h : 0 < j) (h2 : j < 18446744073709551616) : fdivD (.int i) (.int j) = some (.int (i / j)) := if_pos ⟨h, h2⟩
@[simp] theorem modD_i (h : 0 < j) : modD (.int i) (.int j) = some (.int (i % j)) := if_pos h
@[simp] theorem negD_i : negD (.int i) = some (.int (-i)) := rfl
@[simp] theorem cmpD_eq : cmpD .eq x y = eqD x y := rfl
@[simp] theorem cmpD_ne : cmpD .ne x y = (eqD x y).map (!·) := rfl
@[simp] theorem cmpD_lt : cmpD .lt (.int i) (.int j) = some (decide (i < j)) := rfl
@[simp] theorem cmpD_le : cmpD .le (.int i) (.int j) = some (decide (i ≤ j)) := rfl
@[simp] theorem cmpD_gt : cmpD .gt (.int i) (.int j) = some (decide (j < i)) := rfl
@[simp] theorem cmpD_ge : cmpD .ge (.int i) (.int j) = some (decide (j ≤ i)) := rfl
@[simp] theorem cmpD_is : cmpD .is x y = isD x y := rfl
@[simp] theorem cmpD_isn : cmpD .isn x y = (isD x y).map (!·) := rfl
@[simp] theorem cmpD_inn : cmpD .inn x y = inD x y := rfl
@[simp] theorem cmpD_nin : cmpD .nin x y = (inD x y).map (!·) := rfl
@[simp] theorem isD_nn : isD .none .none = some true := rfl
@[simp] theorem isD_in : isD (.int i) .none = some false := rfl
@[simp] theorem isD_ln : isD (.list xs) .none = some false := rfl
@[simp] theorem isD_tn : isD (.tuple xs) .none = some false := rfl
@[simp] theorem isD_bb : isD (.bool b) (.bool c) = some (decide (b = c)) := rfl
@[simp] theorem eqD_i : eqD (.int i) (.int j) = some (decide (i = j)) := by
  have h : okEq (.int i) (.int j) = true := rfl
  show (if okEq (.int i) (.int j) = true then some (PyData.eqv (.int i) (.int j)) else none) = _
  rw [if_pos h]
  simp only [PyData.eqv]; congr 1
@[simp] theorem eqD_s {s t : Str} (h : PySem.PyData.strOk s = true) (h' : PySem.PyData.strOk t = true) : eqD (.str s) (.str t) = some (decide (s = t)) := by
  have hh : okEq (.str s) (.str t) = true := by simp [okEq, SeqAt.shaped, PyData.canLay0, PyData.depth, h, h']
  show (if okEq (.str s) (.str t) = true then some (PyData.eqv (.str s) (.str t)) else none) = _
  rw [if_pos hh]
  simp only [PyData.eqv]; congr 1
@[simp] theorem p1D_len_l : p1D .len (.list xs) = some (.int xs.length) := rfl
@[simp] theorem p1D_len_t : p1D .len (.tuple xs) = some (.int xs.length) := rfl
@[simp] theorem p1D_abs : p1D .abs (.int i) = some (.int (if i < 0 then -i else i)) := rfl
@[simp] theorem p1D_int : p1D .int (.int i) = some (.int i) := rfl
@[simp] theorem p1D_intb : p1D .int (.bool b) = some (.int (if b then 1 else 0)) := rfl
@[simp] theorem p2D_min : p2D .min (.int i) (.int j) = some (.int (if j < i then j else i)) := rfl
@[simp] theorem p2D_max : p2D .max (.int i) (.int j) = some (.int (if j > i then j else i)) := rfl
@[simp] theorem ixD_l : ixD (.list xs) (.int i) = L2.atI xs i := rfl
@[simp] theorem ixD_t : ixD (.tuple xs) (.int i) = L2.atI xs i := rfl
@[simp] theorem appD_l (h : xs.length < sizeLine) : appD (.list xs) x = some (.list (xs ++ [x])) := if_pos h
theorem atI_n {α : Type} {xs : List α} {n : Nat} {x : α} (h : xs[n]? = some x) : L2.atI xs (n : Int) = some x := by
  have h1 := (List.getElem?_eq_some_iff.mp h).1
  have h2 : (n : Int) < (xs.length : Int) := by omega
  simp only [L2.atI, L2.ixN, if_pos (Int.natCast_nonneg n), if_pos h2, Option.bind_some, Int.toNat_natCast, h]
@[simp] theorem atI_0 {α : Type} {x : α} {xs : List α} : L2.atI (x :: xs) 0 = some x := atI_n (n := 0) rfl
@[simp] theorem atI_1 {α : Type} {x y : α} {xs : List α} : L2.atI (x :: y :: xs) 1 = some y := atI_n (n := 1) rfl
@[simp] theorem atI_2 {α : Type} {x y z : α} {xs : List α} : L2.atI (x :: y :: z :: xs) 2 = some z := atI_n (n := 2) rfl
@[simp] theorem atI_3 {α : Type} {x y z w : α} {xs : List α} : L2.atI (x :: y :: z :: w :: xs) 3 = some w := atI_n (n := 3) rfl
theorem atI_nat {α : Type} {xs : List α} {n : Nat} (h : n < xs.length) : L2.atI xs (n : Int) = some xs[n] := by
  simp [L2.atI, L2.ixN, h]
theorem atI_last {α : Type} {xs : List α} {x : α} : L2.atI (xs ++ [x]) (-1) = some x := by
  have h1 : ¬ (0 : Int) ≤ -1 := by decide
  have h2 : -((xs ++ [x]).length : Int) ≤ -1 := by simp; omega
  have h3 : (-1 + ((xs ++ [x]).length : Int)).toNat = xs.length := by simp; omega
  simp only [L2.atI, L2.ixN, if_neg h1, if_pos h2, Option.bind_some, h3]
  simp
@[simp] theorem outD_rt {d : D} : outD (.rt d) = some d := rfl
@[simp] theorem outD_nx {ρ : Env} : outD (.nx ρ) = some .none := rfl
end

/-! ### loops -/
section
variable {α σ : Type}
theorem forL_fold {f : D → Env → Option Out} (enc : α → D) (R : σ → Env → Prop) (g : σ → α → σ) : ∀ (xs : List α) (s : σ) (ρ : Env), R s ρ → (∀ s x ρ, x ∈ xs → R s ρ → ∃ ρ', f (enc x) ρ = some (.nx ρ') ∧ R (g s x) ρ') →
    ∃ ρ', forL f (xs.map enc) ρ = some (.nx ρ') ∧ R (xs.foldl g s) ρ'
  | [], s, ρ, h, _ => ⟨ρ, rfl, h⟩
  | x :: r, s, ρ, h, st => by
    obtain ⟨ρ1, e1, h1⟩ := st s x ρ List.mem_cons_self h
    obtain ⟨ρ2, e2, h2⟩ := forL_fold enc R g r (g s x) ρ1 h1 fun s y ρ hy => st s y ρ (List.mem_cons_of_mem _ hy)
    exact ⟨ρ2, by simp [forL, e1, e2], h2⟩
/-- a loop that may return -/
theorem forL_ret {f : D → Env → Option Out} (enc : α → D) (R : σ → Env → Prop) (g : σ → α → σ ⊕ D) : ∀ (xs : List α) (s : σ) (ρ : Env), R s ρ →
    (∀ s x ρ, x ∈ xs → R s ρ → match g s x with | .inl s' => ∃ ρ', f (enc x) ρ = some (.nx ρ') ∧ R s' ρ' | .inr d => f (enc x) ρ = some (.rt d)) →
    match xs.foldl (fun (t : σ ⊕ D) x => match t with | .inl s => g s x | .inr d => .inr d) (.inl s) with
    | .inl s' => ∃ ρ', forL f (xs.map enc) ρ = some (.nx ρ') ∧ R s' ρ'
    | .inr d => forL f (xs.map enc) ρ = some (.rt d)
  | [], s, ρ, h, _ => ⟨ρ, rfl, h⟩
  | x :: r, s, ρ, h, st => by
    have hst := st s x ρ List.mem_cons_self h
    rw [List.foldl_cons]
    show match r.foldl _ (g s x) with | .inl s' => _ | .inr d => _
    cases hg : g s x with
    | inl s1 =>
      rw [hg] at hst
      obtain ⟨ρ1, e1, h1⟩ := hst
      have ih := forL_ret enc R g r s1 ρ1 h1 fun s y ρ hy => st s y ρ (List.mem_cons_of_mem _ hy)
      split <;> rename_i e <;> rw [e] at ih
      · obtain ⟨ρ2, e2, h2⟩ := ih
        exact ⟨ρ2, by simp [forL, e1, e2], h2⟩
      · simp [forL, e1, ih]
    | inr d =>
      rw [hg] at hst
      have : ∀ l : List α, l.foldl (fun (t : σ ⊕ D) x => match t with | .inl s => g s x | .inr d => .inr d) (.inr d) = .inr d := by
        intro l; induction l with
        | nil => rfl
        | cons y l ih => exact ih
      rw [this]
      simp [forL, hst]
theorem compL_map {f : D → Option (Option D)} (enc : α → D) (g : α → Option D) : ∀ (xs : List α), (∀ x ∈ xs, f (enc x) = some (g x)) → compL f (xs.map enc) = some (xs.filterMap g)
  | [], _ => rfl
  | x :: r, h => by
    simp only [List.map_cons, compL, h x List.mem_cons_self, Option.bind_some, compL_map enc g r fun y hy => h y (List.mem_cons_of_mem _ hy), Option.map_some]
    cases hg : g x <;> simp [List.filterMap_cons, hg]
theorem lc_map {T : Nat → List D → Option D} {elt : CE} {p : Pat} {ifs : CEs} {vs : List Nat} {ρ : Env} {β : Type} (enc : α → D) (enc' : β → D) (g : α → β) (xs : List α) (h : ∀ x ∈ xs, lcF T elt p ifs vs ρ (enc x) = some (some (enc' (g x)))) : compL (lcF T elt p ifs vs ρ) (xs.map enc) = some ((xs.map g).map enc') := by
  rw [compL_map enc (fun x => some (enc' (g x))) xs h]
  simp [List.filterMap_eq_map, Function.comp]
theorem lc_filter {T : Nat → List D → Option D} {elt : CE} {p : Pat} {ifs : CEs} {vs : List Nat} {ρ : Env} {β : Type} (enc : α → D) (enc' : β → D) (q : α → Bool) (g : α → β) (xs : List α) (h : ∀ x ∈ xs, lcF T elt p ifs vs ρ (enc x) = some (if q x then some (enc' (g x)) else none)) : compL (lcF T elt p ifs vs ρ) (xs.map enc) = some (((xs.filter q).map g).map enc') := by
  rw [compL_map enc (fun x => if q x then some (enc' (g x)) else none) xs h]
  congr 1
  induction xs with
  | nil => rfl
  | cons x r ih =>
    have ih' := ih fun y hy => h y (List.mem_cons_of_mem _ hy)
    simp only [List.filterMap_cons, List.filter_cons]
    cases q x <;> simp [ih']
end
def rK : Option Out → Option D
  | some o => outD o
  | none => none
@[simp] theorem rK_nx {ρ : Env} : rK (some (.nx ρ)) = some .none := rfl
@[simp] theorem rK_rt {d : D} : rK (some (.rt d)) = some d := rfl
theorem run_eq {T : Nat → List D → Option D} {n : Nat} {body : CSs} {ds : List D} (ρ : Env) (hρ : ds.map some ++ List.replicate (n - ds.length) none = ρ) : runD T n body ds = rK (exSs T fuel body ρ) := by
  unfold runD; rw [hρ]
  cases exSs T fuel body ρ <;> rfl
end DI
set_option maxRecDepth 100000
set_option maxHeartbeats 1000000
/-! DY: plain data: equality, membership, repr. -/
namespace DI
open PySem
mutual
/-- None, truth values, whole numbers and nests of them, no deeper than k -/
def gd : D → Nat → Bool
  | .none, _ => true
  | .bool _, _ => true
  | .int _, _ => true
  | .list xs, k + 1 => gds xs k
  | .tuple xs, k + 1 => gds xs k
  | _, _ => false
def gds : List D → Nat → Bool
  | [], _ => true
  | x :: r, k => gd x k && gds r k
end
mutual
theorem gd_depth : ∀ {d : D} {k : Nat}, gd d k = true → d.depth ≤ k
  | .none, _, _ => Nat.zero_le _
  | .bool _, _, _ => Nat.zero_le _
  | .int _, _, _ => Nat.zero_le _
  | .list xs, k + 1, h => by
    simp only [gd] at h
    simp only [PyData.depth]
    have := gds_depth h
    omega
  | .tuple xs, k + 1, h => by
    simp only [gd] at h
    simp only [PyData.depth]
    have := gds_depth h
    omega
  | .list _, 0, h => by simp [gd] at h
  | .tuple _, 0, h => by simp [gd] at h
  | .str _, _, h => by simp [gd] at h
  | .dict _, _, h => by simp [gd] at h
theorem gds_depth : ∀ {xs : List D} {k : Nat}, gds xs k = true → PyData.depthAll xs ≤ k
  | [], _, _ => Nat.zero_le _
  | x :: r, k, h => by
    simp only [gds, Bool.and_eq_true] at h
    simp only [PyData.depthAll]
    have h1 := gd_depth h.1
    have h2 := gds_depth h.2
    omega
end
mutual
theorem gd_lay : ∀ {d : D} {k : Nat}, gd d k = true → d.canLay0 = true
  | .none, _, _ => rfl
  | .bool _, _, _ => rfl
  | .int _, _, _ => rfl
  | .list xs, k + 1, h => by simp only [gd] at h; simp only [PyData.canLay0]; exact gds_lay h
  | .tuple xs, k + 1, h => by simp only [gd] at h; simp only [PyData.canLay0]; exact gds_lay h
  | .list _, 0, h => by simp [gd] at h
  | .tuple _, 0, h => by simp [gd] at h
  | .str _, _, h => by simp [gd] at h
  | .dict _, _, h => by simp [gd] at h
theorem gds_lay : ∀ {xs : List D} {k : Nat}, gds xs k = true → PyData.canLayAll0 xs = true
  | [], _, _ => rfl
  | x :: r, k, h => by
    simp only [gds, Bool.and_eq_true] at h
    simp only [PyData.canLayAll0, gd_lay h.1, gds_lay h.2, Bool.and_self]
end
theorem gd_shaped {d : D} {k : Nat} (h : gd d k = true) (hk : k ≤ 64) : SeqAt.shaped d = true := by
  unfold SeqAt.shaped
  rw [gd_lay h, Bool.true_and]
  exact decide_eq_true (Nat.le_trans (gd_depth h) hk)
mutual
theorem gd_eqv : ∀ {d : D} {k : Nat}, gd d k = true → PyData.eqv d d = true
  | .none, _, _ => rfl
  | .bool b, _, _ => by simp [PyData.eqv]
  | .int _, _, _ => by simp [PyData.eqv]
  | .list xs, k + 1, h => by simp only [gd] at h; simp only [PyData.eqv]; exact gds_eqv h
  | .tuple xs, k + 1, h => by simp only [gd] at h; simp only [PyData.eqv]; exact gds_eqv h
  | .list _, 0, h => by simp [gd] at h
  | .tuple _, 0, h => by simp [gd] at h
  | .str _, _, h => by simp [gd] at h
  | .dict _, _, h => by simp [gd] at h
theorem gds_eqv : ∀ {xs : List D} {k : Nat}, gds xs k = true → PyData.eqvAll xs xs = true
  | [], _, _ => rfl
  | x :: r, k, h => by
    simp only [gds, Bool.and_eq_true] at h
    simp only [PyData.eqvAll, gd_eqv h.1, gds_eqv h.2, Bool.and_self]
end
mutual
theorem gd_mono : ∀ {d : D} {k l : Nat}, k ≤ l → gd d k = true → gd d l = true
  | .none, _, _, _, _ => rfl
  | .bool _, _, _, _, _ => rfl
  | .int _, _, _, _, _ => rfl
  | .list xs, k + 1, l + 1, hl, h => by simp only [gd] at h ⊢; exact gds_mono (Nat.le_of_succ_le_succ hl) h
  | .tuple xs, k + 1, l + 1, hl, h => by simp only [gd] at h ⊢; exact gds_mono (Nat.le_of_succ_le_succ hl) h
  | .list _, 0, _, _, h => by simp [gd] at h
  | .tuple _, 0, _, _, h => by simp [gd] at h
  | .list _, _ + 1, 0, hl, _ => by omega
  | .tuple _, _ + 1, 0, hl, _ => by omega
  | .str _, _, _, _, h => by simp [gd] at h
  | .dict _, _, _, _, h => by simp [gd] at h
theorem gds_mono : ∀ {xs : List D} {k l : Nat}, k ≤ l → gds xs k = true → gds xs l = true
  | [], _, _, _, _ => rfl
  | x :: r, k, l, hl, h => by
    simp only [gds, Bool.and_eq_true] at h ⊢
    exact ⟨gd_mono hl h.1, gds_mono hl h.2⟩
end
theorem gds_map {α : Type} {f : α → D} {k : Nat} : ∀ {xs : List α}, (∀ x ∈ xs, gd (f x) k = true) → gds (xs.map f) k = true
  | [], _ => rfl
  | x :: r, h => by
    simp only [List.map_cons, gds, h x List.mem_cons_self, gds_map fun y hy => h y (List.mem_cons_of_mem _ hy), Bool.and_self]
@[simp] theorem gd_int {i : Int} {k : Nat} : gd (.int i) k = true := by simp only [gd]
@[simp] theorem gd_none {k : Nat} : gd .none k = true := by simp only [gd]
@[simp] theorem gd_bool {b : Bool} {k : Nat} : gd (.bool b) k = true := by simp only [gd]
@[simp] theorem gd_list {xs : List D} {k : Nat} : gd (.list xs) (k + 1) = gds xs k := by simp only [gd]
@[simp] theorem gd_tuple {xs : List D} {k : Nat} : gd (.tuple xs) (k + 1) = gds xs k := by simp only [gd]
@[simp] theorem gds_nil {k : Nat} : gds [] k = true := by simp only [gds]
@[simp] theorem gds_cons {x : D} {xs : List D} {k : Nat} : gds (x :: xs) k = (gd x k && gds xs k) := by simp only [gds]
@[simp] theorem gds_ints {xs : List Int} {k : Nat} : gds (xs.map .int) k = true := gds_map fun _ _ => gd_int
theorem gds_append {xs ys : List D} {k : Nat} (h : gds xs k = true) (h' : gds ys k = true) : gds (xs ++ ys) k = true := by
  induction xs with
  | nil => exact h'
  | cons x r ih => simp only [gds, Bool.and_eq_true] at h; simp only [List.cons_append, gds, h.1, ih h.2, Bool.and_self]
theorem eqD_good {d e : D} {k l : Nat} (h : gd d k = true) (h' : gd e l = true) (hk : k ≤ 64) (hl : l ≤ 64) : eqD d e = some (PyData.eqv d e) := if_pos (by unfold okEq; rw [gd_shaped h hk, gd_shaped h' hl]; rfl)
theorem eqD_refl {d : D} {k : Nat} (h : gd d k = true) (hk : k ≤ 64) : eqD d d = some true := by rw [eqD_good h h hk hk, gd_eqv h]
/-- == of lists of alike things -/
theorem eqvAll_map {α : Type} [DecidableEq α] {f : α → D} (hf : ∀ a b, PyData.eqv (f a) (f b) = decide (a = b)) : ∀ (xs ys : List α), PyData.eqvAll (xs.map f) (ys.map f) = decide (xs = ys)
  | [], [] => rfl
  | [], y :: ys => by simp [PyData.eqvAll]
  | x :: xs, [] => by simp [PyData.eqvAll]
  | x :: xs, y :: ys => by
    simp only [List.map_cons, PyData.eqvAll, hf, eqvAll_map hf xs ys]
    by_cases h : x = y <;> by_cases h' : xs = ys <;> simp [h, h']
theorem eqv_int (a b : Int) : PyData.eqv (.int a) (.int b) = decide (a = b) := by simp only [PyData.eqv]; by_cases h : a = b <;> simp [h]
theorem eqD_ints {xs ys : List Int} : eqD (.list (xs.map .int)) (.list (ys.map .int)) = some (decide (xs = ys)) := by
  rw [eqD_good (k := 1) (l := 1) (by simp) (by simp) (by decide) (by decide)]
  simp only [PyData.eqv, eqvAll_map eqv_int]
theorem eqD_nil {xs : List D} {k : Nat} (h : gds xs k = true) (hk : k < 64) : eqD (.list xs) (.list []) = some (decide (xs = [])) := by
  rw [eqD_good (k := k + 1) (l := 1) (by simpa using h) (by simp) (by omega) (by decide)]
  cases xs <;> simp [PyData.eqv, PyData.eqvAll]
theorem eqD_nil_ints {xs : List Int} : eqD (.list (xs.map .int)) (.list []) = some (decide (xs = [])) := by
  rw [eqD_nil (k := 0) (by simp) (by decide)]; simp
theorem inD_good {x : D} {xs : List D} {k : Nat} (h : gd x k = true) (h' : gds xs k = true) (hk : k < 64) : inD x (.list xs) = some (xs.any fun z => PyData.eqv z x) := if_pos (by unfold okEq; rw [gd_shaped (k := k) h (by omega), gd_shaped (d := .list xs) (k := k + 1) (by simpa using h') (by omega)]; rfl)
theorem inD_ints {x : Int} {xs : List Int} : inD (.int x) (.list (xs.map .int)) = some (decide (x ∈ xs)) := by
  rw [inD_good (k := 0) (by simp) (by simp) (by decide)]
  congr 1
  induction xs with
  | nil => rfl
  | cons y r ih =>
    rw [List.map_cons, List.any_cons, ih, eqv_int]
    by_cases h : y = x <;> by_cases h' : x ∈ r <;> simp [h, h', eq_comm]
    intro z; exact absurd z.symm h
theorem strOk_of {x : Str} (h : ∀ k : Nat, 0x110000 ≤ k → k ∉ x.cps.toList) : PySem.PyData.strOk x = true := by
  unfold PySem.PyData.strOk
  rw [Array.all_eq_true_iff_forall_mem]
  intro c hc
  refine decide_eq_true ?_
  apply Nat.lt_of_not_le
  intro z
  exact h c z (Array.mem_toList_iff.mpr hc)
/-! ### repr -/
mutual
def sm (B : Nat) : D → Bool
  | .none => true
  | .bool _ => true
  | .int i => decide (-(B : Int) ≤ i ∧ i ≤ B)
  | .list xs => sms B xs
  | .tuple xs => sms B xs
  | _ => false
def sms (B : Nat) : List D → Bool
  | [] => true
  | x :: r => sm B x && sms B r
end
theorem shown_high : ∀ (n : Nat) (d : D), gd d n = true → ∀ k : Nat, 0x110000 ≤ k → k ∉ d.shown.cps.toList := by
  intro n
  induction n with
  | zero =>
    intro d h k hk
    cases d with
    | none => intro z; rw [PyProof.Rows.mem_shown_none] at z; simp at z; omega
    | bool b => intro z; rw [PyProof.Rows.mem_shown_bool] at z; split at z <;> simp at z <;> omega
    | int i => exact PyProof.Rows.shown_int_free' (by omega) i
    | _ => simp [gd] at h
  | succ n ih =>
    intro d h k hk
    have all : ∀ xs : List D, gds xs n = true → ∀ t ∈ PyData.shownAll xs, k ∉ t.cps.toList := fun xs hx => PyProof.Rows.shownAll_free fun x hm => by
      refine ih x ?_ k hk
      clear ih h
      induction xs with
      | nil => cases hm
      | cons y r ih =>
        simp only [gds, Bool.and_eq_true] at hx
        rcases List.mem_cons.mp hm with rfl | hm
        · exact hx.1
        · exact ih hx.2 hm
    cases d with
    | none => intro z; rw [PyProof.Rows.mem_shown_none] at z; simp at z; omega
    | bool b => intro z; rw [PyProof.Rows.mem_shown_bool] at z; split at z <;> simp at z <;> omega
    | int i => exact PyProof.Rows.shown_int_free' (by omega) i
    | list xs =>
      intro z
      rw [PyData.shown_list, PyProof.Rows.mem_cps_append, PyProof.Rows.mem_cps_append, PyProof.Rows.signs_lbrack, PyProof.Rows.signs_rbrack, PyProof.Rows.mem_join] at z
      rcases z with (z | (⟨t, ht, hc⟩ | ⟨_, z⟩)) | z
      · simp at z; omega
      · exact all xs (by simpa only [gd] using h) t ht hc
      · rw [PyProof.Rows.signs_sep] at z; simp at z; omega
      · simp at z; omega
    | tuple xs =>
      intro z
      rw [PyData.shown_tuple, PyProof.Rows.mem_cps_append, PyProof.Rows.mem_cps_append, PyProof.Rows.signs_lparen, PyProof.Rows.mem_join, PyProof.Rows.signs_tuple_end] at z
      rcases z with (z | (⟨t, ht, hc⟩ | ⟨_, z⟩)) | z
      · simp at z; omega
      · exact all xs (by simpa only [gd] using h) t ht hc
      · rw [PyProof.Rows.signs_sep] at z; simp at z; omega
      · split at z <;> simp at z <;> omega
    | _ => simp [gd] at h
theorem int_len {i : Int} (h : -1000000000000 < i ∧ i < 1000000000000) : (PyData.shown (.int i)).length ≤ 13 := by
  rw [PyData.shown_int]
  have := int_text_length_le10 (a := i) (k := 12) (by decide) (by omega)
  rw [ofString_length]
  exact this
mutual
theorem sm_short : ∀ {d : D}, sm 900000000000 d = true → d.intsShort 13 = true
  | .none, _ => rfl
  | .bool _, _ => rfl
  | .int i, h => by
    simp only [sm, decide_eq_true_eq] at h
    simp only [PyData.intsShort, decide_eq_true_eq]
    exact int_len ⟨by omega, by omega⟩
  | .list xs, h => by simp only [sm] at h; simp only [PyData.intsShort]; exact sms_short h
  | .tuple xs, h => by simp only [sm] at h; simp only [PyData.intsShort]; exact sms_short h
  | .str _, h => by simp [sm] at h
  | .dict _, h => by simp [sm] at h
theorem sms_short : ∀ {xs : List D}, sms 900000000000 xs = true → PyData.intsShortAll 13 xs = true
  | [], _ => rfl
  | x :: r, h => by
    simp only [sms, Bool.and_eq_true] at h
    simp only [PyData.intsShortAll, sm_short h.1, sms_short h.2, Bool.and_self]
end
theorem log_le {i : Int} (h : -900000000000 ≤ i ∧ i ≤ 900000000000) (h0 : i ≠ 0) : i.natAbs.log2 < 40 := by
  rw [Nat.log2_lt (by omega)]
  omega
mutual
theorem sm_show : ∀ {d : D}, sm 900000000000 d = true → d.showable = true
  | .none, _ => rfl
  | .bool _, _ => rfl
  | .int i, h => by
    simp only [sm, decide_eq_true_eq] at h
    simp only [PyData.showable, decide_eq_true_eq]
    by_cases h0 : i = 0
    · subst h0; decide
    · have := log_le ⟨by omega, by omega⟩ h0; omega
  | .list xs, h => by simp only [sm] at h; simp only [PyData.showable]; exact sms_show h
  | .tuple xs, h => by simp only [sm] at h; simp only [PyData.showable]; exact sms_show h
  | .str _, h => by simp [sm] at h
  | .dict _, h => by simp [sm] at h
theorem sms_show : ∀ {xs : List D}, sms 900000000000 xs = true → PyData.showableAll xs = true
  | [], _ => rfl
  | x :: r, h => by
    simp only [sms, Bool.and_eq_true] at h
    simp only [PyData.showableAll, sm_show h.1, sms_show h.2, Bool.and_self]
end
mutual
/-- how many leaves and lists, at most -/
def cn : D → Nat
  | .list xs => cns xs
  | .tuple xs => cns xs
  | _ => 0
def cns : List D → Nat
  | [] => 0
  | x :: r => cn x + cns r + 1
end
mutual
theorem weight_le : ∀ {d : D}, sm 900000000000 d = true → d.weight ≤ 84 * cn d + 83
  | .none, _ => Nat.zero_le _
  | .bool _, _ => Nat.zero_le _
  | .int i, h => by
    simp only [sm, decide_eq_true_eq] at h
    simp only [PyData.weight, cn]
    by_cases h0 : i = 0
    · subst h0; simp
    · have := log_le ⟨by omega, by omega⟩ h0
      split <;> omega
  | .list xs, h => by simp only [sm] at h; simp only [PyData.weight, cn]; have := weights_le h; omega
  | .tuple xs, h => by simp only [sm] at h; simp only [PyData.weight, cn]; have := weights_le h; omega
  | .str _, h => by simp [sm] at h
  | .dict _, h => by simp [sm] at h
theorem weights_le : ∀ {xs : List D}, sms 900000000000 xs = true → PyData.weightAll xs ≤ 84 * cns xs
  | [], _ => Nat.zero_le _
  | x :: r, h => by
    simp only [sms, Bool.and_eq_true] at h
    simp only [PyData.weightAll, cns]
    have h1 := weight_le h.1
    have h2 := weights_le h.2
    omega
end
mutual
theorem gd_nd : ∀ {d : D} {k : Nat}, gd d k = true → nd d = true
  | .none, _, _ => rfl
  | .bool _, _, _ => rfl
  | .int _, _, _ => rfl
  | .list xs, k + 1, h => by simp only [gd] at h; simp only [nd]; exact gds_nd h
  | .tuple xs, k + 1, h => by simp only [gd] at h; simp only [nd]; exact gds_nd h
  | .list _, 0, h => by simp [gd] at h
  | .tuple _, 0, h => by simp [gd] at h
  | .str _, _, h => by simp [gd] at h
  | .dict _, _, h => by simp [gd] at h
theorem gds_nd : ∀ {xs : List D} {k : Nat}, gds xs k = true → ndAll xs = true
  | [], _, _ => rfl
  | x :: r, k, h => by
    simp only [gds, Bool.and_eq_true] at h
    simp only [ndAll, gd_nd h.1, gds_nd h.2, Bool.and_self]
end
theorem repr_ok {d : D} {k : Nat} (h : gd d k = true) (hk : k ≤ 60) (hs : sm 900000000000 d = true) (hw : cn d ≤ 12000) : p1D .repr d = some (.str d.shown) ∧ PySem.PyData.strOk d.shown = true := by
  have hlen : d.shown.length ≤ 15728653 := by
    refine PyProof.Rows.shown_le13 ?_ (sm_short hs)
    unfold PyData.layable0
    have := weight_le hs
    simp only [gd_lay h, Bool.true_and, Bool.and_eq_true, decide_eq_true_eq]
    have := gd_depth h
    constructor <;> omega
  constructor
  · show (if _ then _ else _) = _
    rw [if_pos]
    simp only [gd_nd h, sm_show hs, Bool.true_and, Bool.and_eq_true, decide_eq_true_eq]
    have := gd_depth h
    rw [PySem.sizeLine]
    constructor <;> omega
  · exact strOk_of (shown_high k d h)
theorem sms_map {α : Type} {f : α → D} {B : Nat} : ∀ {xs : List α}, (∀ x ∈ xs, sm B (f x) = true) → sms B (xs.map f) = true
  | [], _ => rfl
  | x :: r, h => by
    simp only [List.map_cons, sms, h x List.mem_cons_self, sms_map fun y hy => h y (List.mem_cons_of_mem _ hy), Bool.and_self]
theorem cns_map {α : Type} {f : α → D} {c : Nat} : ∀ {xs : List α}, (∀ x ∈ xs, cn (f x) ≤ c) → cns (xs.map f) ≤ xs.length * (c + 1)
  | [], _ => Nat.zero_le _
  | x :: r, h => by
    have h1 := h x List.mem_cons_self
    have h2 := cns_map fun y hy => h y (List.mem_cons_of_mem _ hy)
    simp only [List.map_cons, cns, List.length_cons, Nat.add_mul]
    omega
/-- repr(x) != repr(y) where both are the same -/
theorem repr_same {d : D} {k : Nat} (h : gd d k = true) (hk : k ≤ 60) (hs : sm 900000000000 d = true) (hw : cn d ≤ 12000) : cm .ne (p1D .repr d) (p1D .repr d) = some (.bool false) := by
  obtain ⟨h1, h2⟩ := repr_ok h hk hs hw
  rw [h1]
  simp [h2]
/-! ### enumerate, zip -/
theorem enumD_map {α : Type} {f : α → D} : ∀ (xs : List α) (k : Nat), enumD k (xs.map f) = (xs.zipIdx k).map fun p => .tuple [.int (p.2 : Nat), f p.1]
  | [], _ => rfl
  | x :: r, k => by simp only [List.map_cons, enumD, List.zipIdx_cons, enumD_map r (k + 1)]
theorem zipD_map {α β : Type} {f : α → D} {g : β → D} : ∀ (xs : List α) (ys : List β), zipD (xs.map f) (ys.map g) = (xs.zip ys).map fun p => .tuple [f p.1, g p.2]
  | [], _ => by simp [zipD]
  | _ :: _, [] => by simp [zipD]
  | x :: xs, y :: ys => by simp [zipD, zipD_map xs ys]
theorem rngD_map {lo hi : Int} (h : -4611686018427387904 ≤ lo) (h1 : lo < 4611686018427387904) (h2 : -4611686018427387904 ≤ hi) (h3 : hi < 4611686018427387904) (h4 : (hi - lo).toNat ≤ 16777216) : rngD lo hi = some ((List.range (hi - lo).toNat).map fun (i : Nat) => .int (lo + i)) := if_pos ⟨h, h1, h2, h3, h4⟩
theorem rng0 {n : Nat} (h : n ≤ 16777216) : rngD 0 (n : Int) = some ((List.range n).map fun (i : Nat) => .int i) := by
  rw [rngD_map (by decide) (by decide) (by omega) (by omega) (by simpa using h)]
  simp
theorem rng0' {i : Int} (h : i ≤ 16777216) (h' : -4611686018427387904 ≤ i) : rngD 0 i = some ((List.range i.toNat).map fun (i : Nat) => .int i) := by
  rw [rngD_map (by decide) (by decide) (by omega) (by omega) (by omega)]
  simp
theorem atI_map_nat {α : Type} {f : α → D} {xs : List α} {n : Nat} (h : n < xs.length) : L2.atI (xs.map f) (n : Int) = some (f xs[n]) := by
  rw [atI_nat (by simpa using h)]; simp
theorem cutD_from {xs : List D} {n : Nat} : cutD xs (some (n : Int)) none = xs.drop n := by
  unfold cutD
  simp only [HT.sIx_none, HT.sIx_nat]
  rw [List.take_of_length_le (by simp)]
  by_cases h : n ≤ xs.length
  · rw [Nat.min_eq_left h]
  · rw [Nat.min_eq_right (by omega), List.drop_of_length_le (by omega), List.drop_of_length_le (by omega)]
theorem cutD_to {xs : List D} {n : Nat} : cutD xs none (some (n : Int)) = xs.take n := by
  unfold cutD
  simp only [HT.sIx_none, HT.sIx_nat]
  simp only [List.drop_zero, Nat.sub_zero]
  rw [List.take_eq_take_iff]; omega
/-- a search: the first that fits is returned -/
theorem forL_find {α : Type} {f : D → Env → Option Out} (enc : α → D) (R : Env → Prop) (q : α → Bool) (h : α → D) : ∀ (xs : List α) (ρ : Env), R ρ →
    (∀ x ρ, x ∈ xs → R ρ → if q x then f (enc x) ρ = some (.rt (h x)) else ∃ ρ', f (enc x) ρ = some (.nx ρ') ∧ R ρ') →
    match xs.find? q with | some x => forL f (xs.map enc) ρ = some (.rt (h x)) | none => ∃ ρ', forL f (xs.map enc) ρ = some (.nx ρ') ∧ R ρ'
  | [], ρ, r, _ => ⟨ρ, rfl, r⟩
  | x :: xs, ρ, r, st => by
    have hx := st x ρ List.mem_cons_self r
    rw [List.find?_cons]
    cases hq : q x with
    | true =>
      rw [hq] at hx
      simp only [if_true] at hx
      simp [forL, hx]
    | false =>
      rw [hq] at hx
      simp only [Bool.false_eq_true, if_false] at hx
      obtain ⟨ρ1, e1, r1⟩ := hx
      have ih := forL_find enc R q h xs ρ1 r1 fun y ρ hy => st y ρ (List.mem_cons_of_mem _ hy)
      show match xs.find? q with | some x => _ | none => _
      cases hf : xs.find? q with
      | some y => rw [hf] at ih; simp [forL, e1, ih]
      | none =>
        rw [hf] at ih
        obtain ⟨ρ2, e2, r2⟩ := ih
        exact ⟨ρ2, by simp [forL, e1, e2], r2⟩
end DI
namespace DI
open PySem
/-- a fold with a state that grows by at most one a turn -/
theorem forL_foldB {α σ : Type} {f : D → Env → Option Out} (enc : α → D) (R : σ → Env → Prop) (len : σ → Nat) (g : σ → α → σ) (hg : ∀ s x, len (g s x) ≤ len s + 1) (xs : List α) (s0 : σ) (ρ : Env) (h0 : R s0 ρ)
    (st : ∀ s x ρ, x ∈ xs → len s < len s0 + xs.length → R s ρ → ∃ ρ', f (enc x) ρ = some (.nx ρ') ∧ R (g s x) ρ') : ∃ ρ', forL f (xs.map enc) ρ = some (.nx ρ') ∧ R (xs.foldl g s0) ρ' := by
  have key : ∀ (ys : List α) (s : σ) (ρ : Env), (∀ y ∈ ys, y ∈ xs) → len s + ys.length ≤ len s0 + xs.length → R s ρ → ∃ ρ', forL f (ys.map enc) ρ = some (.nx ρ') ∧ R (ys.foldl g s) ρ' := by
    intro ys
    induction ys with
    | nil => intro s ρ _ _ r; exact ⟨ρ, rfl, r⟩
    | cons y ys ih =>
      intro s ρ hm hl r
      rw [List.length_cons] at hl
      obtain ⟨ρ1, e1, r1⟩ := st s y ρ (hm y List.mem_cons_self) (by omega) r
      have := hg s y
      obtain ⟨ρ2, e2, r2⟩ := ih _ ρ1 (fun w hw => hm w (List.mem_cons_of_mem _ hw)) (by omega) r1
      exact ⟨ρ2, by simp [forL, e1, e2], r2⟩
  exact key xs s0 ρ (fun _ h => h) (Nat.le_refl _) h0
theorem atI_last1 {α : Type} {x : α} : L2.atI [x] (-1) = some x := atI_last (xs := [])
theorem atI_last2 {α : Type} {x y : α} {xs : List α} : L2.atI (y :: (xs ++ [x])) (-1) = some x := atI_last (xs := y :: xs)
theorem putD_last {xs : List D} {x y : D} : putD (.list (xs ++ [x])) (.int (-1)) y = some (.list (xs ++ [y])) := by
  have h1 : ¬ (0 : Int) ≤ -1 := by decide
  have h2 : -((xs ++ [x]).length : Int) ≤ -1 := by simp; omega
  have h3 : (-1 + ((xs ++ [x]).length : Int)).toNat = xs.length := by simp; omega
  simp only [putD, L2.ixN, if_neg h1, if_pos h2, h3, Option.map_some]
  simp
theorem asIs_map : ∀ xs : List Int, asIs (xs.map .int) = some xs
  | [] => rfl
  | x :: r => by simp [asIs, asIs_map r]
theorem sum_ints {xs : List Int} : p1D .sum (.list (xs.map .int)) = some (.int xs.sum) := by simp [p1D, asIs_map]
theorem depth_ints : ∀ xs : List Int, PyData.depthAll (xs.map .int) = 0
  | [] => rfl
  | x :: r => by simp [PyData.depthAll, PyData.depth, depth_ints r]
theorem alikes_ints (xs : List Int) : alikes (xs.map .int) = true := by
  unfold alikes
  rw [depth_ints]
  simp only [Bool.and_eq_true, List.all_eq_true]
  refine ⟨⟨fun x hx y hy => ?_, fun x hx => ?_⟩, by decide⟩
  · obtain ⟨i, _, rfl⟩ := List.mem_map.mp hx
    obtain ⟨j, _, rfl⟩ := List.mem_map.mp hy
    simp [PySem.W.alike]
  · obtain ⟨i, _, rfl⟩ := List.mem_map.mp hx
    rfl
theorem max_ints {x : Int} {xs : List Int} : p1D .max (.list (.int x :: xs.map .int)) = some (.int (xs.foldl max x)) := by
  have h := alikes_ints (x :: xs)
  rw [List.map_cons] at h
  simp only [p1D, h, if_true, PySem.W.maxD_ints]
theorem min_ints {x : Int} {xs : List Int} : p1D .min (.list (.int x :: xs.map .int)) = some (.int (xs.foldl min x)) := by
  have h := alikes_ints (x :: xs)
  rw [List.map_cons] at h
  simp only [p1D, h, if_true, PySem.W.minD_ints]
theorem map_snd_zipIdx {α : Type} (xs : List α) : (List.range xs.length).map (fun (k : Nat) => PyData.int k) = xs.zipIdx.map fun p => .int (p.2 : Nat) := by
  refine List.ext_getElem? fun k => ?_
  rw [List.getElem?_map, List.getElem?_map, List.getElem?_zipIdx]
  by_cases h : k < xs.length
  · simp [h]
  · simp [h]
theorem pick2 {a b m : Int} (h0 : 0 ≤ m) (h1 : m < 2) : ∃ v, L2.atI [PyData.int a, .int b] m = some (.int v) ∧ (v = a ∨ v = b) := by
  have : m = 0 ∨ m = 1 := by omega
  rcases this with rfl | rfl
  · exact ⟨a, by simp, .inl rfl⟩
  · exact ⟨b, by simp, .inr rfl⟩
theorem pick3 {a b c m : Int} (h0 : 0 ≤ m) (h1 : m < 3) : ∃ v, L2.atI [PyData.int a, .int b, .int c] m = some (.int v) ∧ (v = a ∨ v = b ∨ v = c) := by
  have : m = 0 ∨ m = 1 ∨ m = 2 := by omega
  rcases this with rfl | rfl | rfl
  · exact ⟨a, by simp, .inl rfl⟩
  · exact ⟨b, by simp, .inr (.inl rfl)⟩
  · exact ⟨c, by simp [L2.atI, L2.ixN], .inr (.inr rfl)⟩
theorem nil_or_app {α : Type} (l : List α) : l = [] ∨ ∃ xs x, l = xs ++ [x] := by
  rcases List.eq_nil_or_concat l with h | ⟨xs, x, h⟩
  · exact .inl h
  · exact .inr ⟨xs, x, by rw [h, List.concat_eq_append]⟩
theorem line0 : 0 < sizeLine := by decide
end DI
set_option maxRecDepth 100000
set_option maxHeartbeats 1000000
namespace K70
open PySem DI
abbrev dP (p : Int × Int) : D := .tuple [.int p.1, .int p.2]
abbrev dT (p : Int × Int × Int) : D := .tuple [.int p.1, .int p.2.1, .int p.2.2]
abbrev dZ (z : List (Int × Int)) : D := .list (z.map dP)
structure OkZ (z : List (Int × Int)) : Prop where
  len1 : 1 ≤ z.length
  len6 : z.length ≤ 6
  bd : ∀ (k : Nat) (p : Int × Int), z[k]? = some p → 0 ≤ p.1 ∧ p.1 ≤ 1000000 ∧ -1440 ≤ p.2 ∧ p.2 ≤ 1440
  fst : ∀ p, z[0]? = some p → p.1 = 0
  inc : ∀ (k : Nat) (p q : Int × Int), z[k]? = some p → z[k + 1]? = some q → p.1 < q.1
theorem atI_get {α : Type} {f : α → D} {xs : List α} {i : Int} {k : Nat} {x : α} (hi : i = k) (h : xs[k]? = some x) : L2.atI (xs.map f) i = some (f x) := by
  obtain ⟨h1, h2⟩ := List.getElem?_eq_some_iff.mp h
  rw [hi, atI_map_nat h1, h2]
theorem tt (d j : Nat) (ds : List D) (r : DefR) (h : G.defs[j]? = some r) : TT G (d + 1) j ds = runD (TT G d) r.N.length r.body ds := by
  simp only [TT, h, Option.bind_some]
theorem s2 {d : Nat} (h : 0 < d) {z : List (Int × Int)} (hz : OkZ z) : TT G d 2 [dZ z] = some .none := by
  obtain ⟨d, rfl⟩ : ∃ e, d = e + 1 := ⟨d - 1, by omega⟩
  rw [tt d 2 _ r2 rfl]
  have l1 := hz.len1
  have l6 := hz.len6
  have key := forL_fold (f := stF (TT G d) fuel (.t (.cons (.v 1) (.cons (.t (.cons (.v 2) (.cons (.v 3) .nil))) .nil))) (.cons (.ife (.orB (.notB (.cmp (.cst (.int 0)) (.cons .le (.var 2) (.cons .le (.glb "MOST_TIME" (.int 1000000)) .nil)))) (.one (.notB (.cmp (.neg (.glb "MOST_OFFSET" (.int 1440))) (.cons .le (.var 3) (.cons .le (.glb "MOST_OFFSET" (.int 1440)) .nil)))))) (.cons .rse .nil) .nil) (.cons (.ife (.orB (.andB (.cmp (.var 1) (.cons .eq (.cst (.int 0)) .nil)) (.one (.cmp (.var 2) (.cons .ne (.cst (.int 0)) .nil)))) (.one (.andB (.cmp (.var 1) (.cons .gt (.cst (.int 0)) .nil)) (.one (.cmp (.ix (.ix (.var 0) (.bin .sub (.var 1) (.cst (.int 1)))) (.cst (.int 0))) (.cons .ge (.var 2) .nil)))))) (.cons .rse .nil) .nil) .nil)))
    (fun p : (Int × Int) × Nat => .tuple [.int (p.2 : Nat), dP p.1]) (fun (_ : Unit) ρ => ∃ a b c, ρ = [some (dZ z), a, b, c]) (fun s _ => s) z.zipIdx () [some (dZ z), none, none, none] ⟨_, _, _, rfl⟩ (by
      rintro - ⟨⟨t, o⟩, k⟩ ρ hm ⟨a, b, c, rfl⟩
      have hk := List.mem_zipIdx_iff_getElem?.mp hm
      simp only at hk
      obtain ⟨b1, b2, b3, b4⟩ := hz.bd k _ hk
      refine ⟨[some (dZ z), some (.int k), some (.int t), some (.int o)], ?_, _, _, _, rfl⟩
      rcases k with _ | k
      · have := hz.fst _ hk
        simp only at this b1 b2 b3 b4
        simp [stF_def, b1, b2, b3, b4, this]
      · simp only at b1 b2 b3 b4
        have hlt := (List.getElem?_eq_some_iff.mp hk).1
        have hq : z[k]? = some z[k] := List.getElem?_eq_getElem (by omega)
        have hi := hz.inc k _ _ hq hk
        simp only at hi
        have ha : L2.atI (z.map dP) (k : Int) = some (dP z[k]) := atI_get rfl hq
        have h1 : ¬ ((k : Int) + 1 = 0) := by omega
        have h2 : (0 : Int) < k + 1 := by omega
        have h3 : ¬ t ≤ z[k].1 := by omega
        simp [stF_def, b1, b2, b3, b4, ha, h1, h2, h3])
  obtain ⟨ρ', e, a, b, c, rfl⟩ := key
  rw [run_eq [some (dZ z), none, none, none] rfl]
  rw [show r2.body = b2 from rfl]
  have c1 : (1 : Int) ≤ z.length := by omega
  have c2 : (z.length : Int) ≤ 6 := by omega
  simp [b2, c1, c2, enumD_map, e]
end K70
set_option maxRecDepth 100000
set_option maxHeartbeats 1000000
namespace K70
open PySem DI
local macro_rules
  | `(tactic| simp! only [$ls,*]) => `(tactic| simp only [DI.a1_s, DI.a2_s, DI.bO_s, DI.cm_s, DI.andO_s, DI.andO_f, DI.andO_t, DI.orO_s, DI.orO_t, DI.orO_f, DI.notO_s, DI.iteO_t, DI.iteO_f, DI.iteO_p, DI.ch3_s, DI.ch3c_s, DI.orVO_s, DI.orVb_t, DI.orVb_f, DI.truthD_n, DI.truthD_l, DI.truthD_t, DI.tupO_s, DI.lstO_s, DI.lstSO_s, DI.cnsO_s, DI.appO_l, DI.appO_t, DI.slO_s, DI.clO_s, DI.scO_b, DI.scO_i, DI.scO_n, DI.scO_x, DI.dspO_s, DI.lcC_t, DI.lcC_f, DI.lcC_p, DI.lcK_s, DI.tsO_t, DI.tsO_f, DI.tsO_1, DI.r1O_s, DI.r2O_s, DI.r3O_s, DI.ofO_l, DI.ofO_t, DI.enO_s, DI.enO_t, DI.zpO_s, DI.slot_0, DI.slot_s, DI.ev_var, DI.ev_cst, DI.ev_glb, DI.ev_bin, DI.ev_neg, DI.ev_cmp1, DI.ev_cmp2, DI.ev_and, DI.ev_or, DI.ev_one, DI.ev_not, DI.ev_orV, DI.ev_ite, DI.ev_tup, DI.ev_lst, DI.ev_lstS, DI.ev_ix, DI.ev_sl, DI.partE_no, DI.partE_var, DI.partE_cst, DI.partE_neg, DI.partE_bin, DI.ev_rev, DI.ev_p1, DI.ev_p2, DI.ev_dsp, DI.ev_dix, DI.ev_call, DI.ev_cals, DI.ev_lc, DI.lcE_s, DI.evs_nil, DI.evs_cons, DI.evS_nil, DI.evS_star, DI.evS_tup, DI.evS_cst, DI.evS_var, DI.evS_bin, DI.evS_ix, DI.evt_nil, DI.evt_cons, DI.evi_ofl, DI.evi_rng1, DI.evi_rng2, DI.evi_rng3, DI.evi_enum, DI.evi_zip, DI.kn_nx, DI.kn_rt, DI.kn_bk, DI.kn_ct, DI.nxO_s, DI.rtO_s, DI.asgO_s, DI.parO_s, DI.setAll_nil, DI.stO_s, DI.a3_s, DI.ifO_t, DI.ifO_f, DI.ifO_p, DI.exO_s, DI.forK_s, DI.putE_0, DI.putE_s, DI.cE_s, DI.bindP_v, DI.ownO_l, DI.sK_s, DI.setAll_cons, DI.bindP_t, DI.bindP_tl, DI.bindPs_nil, DI.bK_s, DI.bindPs_cons, DI.wipeD_nil, DI.wipeD_cons, DI.exS_asg, DI.exS_own, DI.exS_par, DI.exS_app, DI.exS_put, DI.exS_ret, DI.exS_retN, DI.exS_pass, DI.exS_brk, DI.exS_cnt, DI.exS_rse, DI.exS_exp, DI.exS_ife, DI.exSs_nil, DI.exSs_cons, DI.exS_for, DI.binD_add, DI.binD_sub, DI.binD_mul, DI.binD_fdiv, DI.binD_mod, DI.binD_pow, DI.addD_i, DI.addD_l, DI.subD_i, DI.fdivD_i, DI.modD_i, DI.negD_i, DI.cmpD_eq, DI.cmpD_ne, DI.cmpD_lt, DI.cmpD_le, DI.cmpD_gt, DI.cmpD_ge, DI.cmpD_is, DI.cmpD_isn, DI.cmpD_inn, DI.cmpD_nin, DI.isD_nn, DI.isD_in, DI.isD_ln, DI.isD_tn, DI.isD_bb, DI.eqD_i, DI.eqD_s, DI.p1D_len_l, DI.p1D_len_t, DI.p1D_abs, DI.p1D_int, DI.p1D_intb, DI.p2D_min, DI.p2D_max, DI.ixD_l, DI.ixD_t, DI.appD_l, DI.atI_0, DI.atI_1, DI.atI_2, DI.atI_3, DI.outD_rt, DI.outD_nx, DI.rK_nx, DI.rK_rt, List.set_cons_zero, List.set_cons_succ, decide_true, decide_false, Bool.not_true, Bool.not_false, Bool.and_true, Bool.true_and, Bool.and_false, Bool.false_and, Bool.or_true, Bool.true_or, Bool.or_false, Bool.false_or, if_true, if_false, Bool.false_eq_true, Option.map_some, Option.bind_some, List.map_cons, List.map_nil, List.map_append, List.cons_append, List.nil_append, not_true_eq_false, not_false_eq_true, and_true, true_and, Bool.not_not, eq_self, List.length_append, List.length_map, List.length_cons, List.length_nil, Nat.zero_add, Int.natCast_zero, Int.natCast_add, Int.cast_ofNat_Int, Int.natCast_one, Nat.succ_eq_add_one, $ls,*])
local macro_rules
  | `(tactic| simp! only [$ls,*] $l:location) => `(tactic| simp only [DI.a1_s, DI.a2_s, DI.bO_s, DI.cm_s, DI.andO_s, DI.andO_f, DI.andO_t, DI.orO_s, DI.orO_t, DI.orO_f, DI.notO_s, DI.iteO_t, DI.iteO_f, DI.iteO_p, DI.ch3_s, DI.ch3c_s, DI.orVO_s, DI.orVb_t, DI.orVb_f, DI.truthD_n, DI.truthD_l, DI.truthD_t, DI.tupO_s, DI.lstO_s, DI.lstSO_s, DI.cnsO_s, DI.appO_l, DI.appO_t, DI.slO_s, DI.clO_s, DI.scO_b, DI.scO_i, DI.scO_n, DI.scO_x, DI.dspO_s, DI.lcC_t, DI.lcC_f, DI.lcC_p, DI.lcK_s, DI.tsO_t, DI.tsO_f, DI.tsO_1, DI.r1O_s, DI.r2O_s, DI.r3O_s, DI.ofO_l, DI.ofO_t, DI.enO_s, DI.enO_t, DI.zpO_s, DI.slot_0, DI.slot_s, DI.ev_var, DI.ev_cst, DI.ev_glb, DI.ev_bin, DI.ev_neg, DI.ev_cmp1, DI.ev_cmp2, DI.ev_and, DI.ev_or, DI.ev_one, DI.ev_not, DI.ev_orV, DI.ev_ite, DI.ev_tup, DI.ev_lst, DI.ev_lstS, DI.ev_ix, DI.ev_sl, DI.partE_no, DI.partE_var, DI.partE_cst, DI.partE_neg, DI.partE_bin, DI.ev_rev, DI.ev_p1, DI.ev_p2, DI.ev_dsp, DI.ev_dix, DI.ev_call, DI.ev_cals, DI.ev_lc, DI.lcE_s, DI.evs_nil, DI.evs_cons, DI.evS_nil, DI.evS_star, DI.evS_tup, DI.evS_cst, DI.evS_var, DI.evS_bin, DI.evS_ix, DI.evt_nil, DI.evt_cons, DI.evi_ofl, DI.evi_rng1, DI.evi_rng2, DI.evi_rng3, DI.evi_enum, DI.evi_zip, DI.kn_nx, DI.kn_rt, DI.kn_bk, DI.kn_ct, DI.nxO_s, DI.rtO_s, DI.asgO_s, DI.parO_s, DI.setAll_nil, DI.stO_s, DI.a3_s, DI.ifO_t, DI.ifO_f, DI.ifO_p, DI.exO_s, DI.forK_s, DI.putE_0, DI.putE_s, DI.cE_s, DI.bindP_v, DI.ownO_l, DI.sK_s, DI.setAll_cons, DI.bindP_t, DI.bindP_tl, DI.bindPs_nil, DI.bK_s, DI.bindPs_cons, DI.wipeD_nil, DI.wipeD_cons, DI.exS_asg, DI.exS_own, DI.exS_par, DI.exS_app, DI.exS_put, DI.exS_ret, DI.exS_retN, DI.exS_pass, DI.exS_brk, DI.exS_cnt, DI.exS_rse, DI.exS_exp, DI.exS_ife, DI.exSs_nil, DI.exSs_cons, DI.exS_for, DI.binD_add, DI.binD_sub, DI.binD_mul, DI.binD_fdiv, DI.binD_mod, DI.binD_pow, DI.addD_i, DI.addD_l, DI.subD_i, DI.fdivD_i, DI.modD_i, DI.negD_i, DI.cmpD_eq, DI.cmpD_ne, DI.cmpD_lt, DI.cmpD_le, DI.cmpD_gt, DI.cmpD_ge, DI.cmpD_is, DI.cmpD_isn, DI.cmpD_inn, DI.cmpD_nin, DI.isD_nn, DI.isD_in, DI.isD_ln, DI.isD_tn, DI.isD_bb, DI.eqD_i, DI.eqD_s, DI.p1D_len_l, DI.p1D_len_t, DI.p1D_abs, DI.p1D_int, DI.p1D_intb, DI.p2D_min, DI.p2D_max, DI.ixD_l, DI.ixD_t, DI.appD_l, DI.atI_0, DI.atI_1, DI.atI_2, DI.atI_3, DI.outD_rt, DI.outD_nx, DI.rK_nx, DI.rK_rt, List.set_cons_zero, List.set_cons_succ, decide_true, decide_false, Bool.not_true, Bool.not_false, Bool.and_true, Bool.true_and, Bool.and_false, Bool.false_and, Bool.or_true, Bool.true_or, Bool.or_false, Bool.false_or, if_true, if_false, Bool.false_eq_true, Option.map_some, Option.bind_some, List.map_cons, List.map_nil, List.map_append, List.cons_append, List.nil_append, not_true_eq_false, not_false_eq_true, and_true, true_and, Bool.not_not, eq_self, List.length_append, List.length_map, List.length_cons, List.length_nil, Nat.zero_add, Int.natCast_zero, Int.natCast_add, Int.cast_ofNat_Int, Int.natCast_one, Nat.succ_eq_add_one, $ls,*] $l)
def tz (z : List (Int × Int)) (k : Nat) : Int := (z.getD k (0, 0)).1
def oz (z : List (Int × Int)) (k : Nat) : Int := (z.getD k (0, 0)).2
theorem z_at {z : List (Int × Int)} {k : Nat} (h : k < z.length) : z[k]? = some (tz z k, oz z k) := by
  rw [List.getElem?_eq_getElem h]
  simp [tz, oz, List.getD_eq_getElem?_getD, List.getElem?_eq_getElem h]
theorem ix_z {z : List (Int × Int)} {k : Nat} {i : Int} (h : k < z.length) (hi : i = k) : L2.atI (z.map dP) i = some (.tuple [.int (tz z k), .int (oz z k)]) := atI_get hi (z_at h)
abbrev dO : Option Int → D
  | none => .none
  | some i => .int i
abbrev dS (s : Int × Option Int × Int) : D := .tuple [.int s.1, dO s.2.1, .int s.2.2]
def spansZ (z : List (Int × Int)) : List (Int × Option Int × Int) := (List.range z.length).map fun k => (tz z k + oz z k, if k + 1 < z.length then some (tz z (k + 1) + oz z k) else none, oz z k)
theorem s3 {d : Nat} (h : 0 < d) (z : List (Int × Int)) (hz : z.length ≤ 1000) : TT G d 3 [dZ z] = some (.list ((spansZ z).map dS)) := by
  obtain ⟨d, rfl⟩ : ∃ e, d = e + 1 := ⟨d - 1, by omega⟩
  rw [tt d 3 _ r3 rfl]
  rw [run_eq [some (dZ z), none, none, none, none, none] rfl]
  rw [show r3.body = b3 from rfl]
  have e1 : cutD (z.map dP) (some 1) none = (z.drop 1).map dP := by
    rw [show (1 : Int) = ((1 : Nat) : Int) from rfl, cutD_from, List.map_drop]
  have c1 : ∀ T ρ, (T = TT G d) → ρ = [some (dZ z), none, none, none, none, none] → compL (lcF T (.var 3) (.t (.cons (.v 3) (.cons (.v 5) .nil))) .nil [3, 5] ρ) ((z.drop 1).map dP) = some (((z.drop 1).map (·.1)).map .int) := by
    intro T ρ _ hρ; subst hρ
    exact lc_map dP .int (·.1) (z.drop 1) fun p _ => by simp! only [lcF]
  have hl : ((z.drop 1).map (·.1)).length + 1 ≤ sizeLine := by rw [PySem.sizeLine]; simp; omega
  have e2 : ((z.drop 1).map (·.1)).map PyData.int ++ [PyData.none] = ((z.drop 1).map (fun (p : Int × Int) => some p.1) ++ [none]).map dO := by simp only [List.map_append, List.map_map, List.map_cons, List.map_nil]; rfl
  have c2 : ∀ T ρ, (T = TT G d) → ρ = [some (dZ z), some (.list (((z.drop 1).map (fun (p : Int × Int) => some p.1) ++ [none]).map dO)), none, none, none, none] → compL (lcF T (.tup (.cons (.bin .add (.var 3) (.var 4)) (.cons (.ite (.cmp (.var 2) (.cons .is (.cst .none) .nil)) (.cst .none) (.bin .add (.var 2) (.var 4))) (.cons (.var 4) .nil)))) (.t (.cons (.t (.cons (.v 3) (.cons (.v 4) .nil))) (.cons (.v 2) .nil))) .nil [2, 3, 4] ρ) ((z.zip ((z.drop 1).map (fun (p : Int × Int) => some p.1) ++ [none])).map fun p => .tuple [dP p.1, dO p.2]) = some (((z.zip ((z.drop 1).map (fun (p : Int × Int) => some p.1) ++ [none])).map fun p => (p.1.1 + p.1.2, p.2.map (· + p.1.2), p.1.2)).map dS) := by
    intro T ρ _ hρ; subst hρ
    refine lc_map _ dS _ _ fun p _ => ?_
    obtain ⟨⟨t, o⟩, e⟩ := p
    cases e <;> simp! only [lcF, Option.map_none]
  have e3 : (z.zip ((z.drop 1).map (fun (p : Int × Int) => some p.1) ++ [none])).map (fun p => (p.1.1 + p.1.2, p.2.map (· + p.1.2), p.1.2)) = spansZ z := by
    refine List.ext_getElem? fun k => ?_
    unfold spansZ
    rw [List.getElem?_map, List.getElem?_map]
    by_cases hk : k < z.length
    · have hr : (List.range z.length)[k]? = some k := by simp [hk]
      rw [hr, (List.getElem?_zip_eq_some (z := ((tz z k, oz z k), if k + 1 < z.length then some (tz z (k + 1)) else none))).mpr ⟨z_at hk, ?_⟩]
      · by_cases h1 : k + 1 < z.length <;> simp [h1]
      · by_cases h1 : k + 1 < z.length
        · rw [if_pos h1, List.getElem?_append_left (by simp; omega)]
          rw [List.getElem?_map, List.getElem?_drop, Nat.add_comm 1 k, z_at h1]; rfl
        · rw [if_neg h1, List.getElem?_append_right (by simp; omega)]
          have : k - ((z.drop 1).map (fun (p : Int × Int) => some p.1)).length = 0 := by simp; omega
          rw [this]; rfl
    · have h1 : (List.range z.length)[k]? = none := by simp; omega
      have h2 : (z.zip ((z.drop 1).map (fun (p : Int × Int) => some p.1) ++ [none]))[k]? = none := by
        rw [List.getElem?_eq_none]; simp; omega
      rw [h1, h2]; rfl
  rw [← e3]
  generalize hes : ((z.drop 1).map (fun (p : Int × Int) => some p.1) ++ [none] : List (Option Int)) = es at e2 c2
  have hl' : ((z.drop 1).map (·.1)).length + (0 + 1) ≤ sizeLine := hl
  rw [List.length_map] at hl'
  simp! only [b3, e1, c1 _ _ rfl rfl, hl']
  simp! only [e2, zipD_map, c2 _ _ rfl rfl]
def okC (z : List (Int × Int)) (g : Int) (k : Nat) : Bool := decide (tz z k ≤ g - oz z k) && (decide (k + 1 = z.length) || decide (g - oz z k < tz z (k + 1)))
/-- the times at which a local time comes -/
def comesZ (z : List (Int × Int)) (g : Int) : List Int := ((List.range z.length).filter (okC z g)).map fun k => g - oz z k
theorem comesZ_len (z : List (Int × Int)) (g : Int) : (comesZ z g).length ≤ z.length := by
  unfold comesZ
  rw [List.length_map]
  exact Nat.le_trans (List.length_filter_le _ _) (by simp)
theorem foldl_app {α β : Type} (q : α → Bool) (h : α → β) : ∀ (xs : List α) (acc : List β), xs.foldl (fun acc x => if q x then acc ++ [h x] else acc) acc = acc ++ (xs.filter q).map h
  | [], acc => by simp
  | x :: xs, acc => by
    rw [List.foldl_cons, foldl_app q h xs, List.filter_cons]
    cases q x <;> simp
/-- a fold that appends; the list stays short -/
theorem forL_app {α β : Type} {f : D → DI.Env → Option Out} (enc : α → D) (q : α → Bool) (h : α → β) (R : List β → DI.Env → Prop) (xs : List α) (ρ : DI.Env) (h0 : R [] ρ)
    (st : ∀ (s : List β) x ρ, x ∈ xs → s.length < xs.length → R s ρ → ∃ ρ', f (enc x) ρ = some (.nx ρ') ∧ R (if q x then s ++ [h x] else s) ρ') :
    ∃ ρ', forL f (xs.map enc) ρ = some (.nx ρ') ∧ R ((xs.filter q).map h) ρ' := by
  have key : ∀ (ys : List α) (s : List β) (ρ : DI.Env), (∀ y ∈ ys, y ∈ xs) → s.length + ys.length ≤ xs.length → R s ρ → ∃ ρ', forL f (ys.map enc) ρ = some (.nx ρ') ∧ R (s ++ (ys.filter q).map h) ρ' := by
    intro ys
    induction ys with
    | nil => intro s ρ _ _ r; exact ⟨ρ, rfl, by simpa using r⟩
    | cons y ys ih =>
      intro s ρ hm hl r
      rw [List.length_cons] at hl
      obtain ⟨ρ1, e1, r1⟩ := st s y ρ (hm y List.mem_cons_self) (by omega) r
      have hlen : (if q y then s ++ [h y] else s).length ≤ s.length + 1 := by split <;> simp
      obtain ⟨ρ2, e2, r2⟩ := ih _ ρ1 (fun w hw => hm w (List.mem_cons_of_mem _ hw)) (by omega) r1
      refine ⟨ρ2, by simp [forL, e1, e2], ?_⟩
      rw [List.filter_cons]
      cases hq : q y <;> simpa [hq] using r2
  simpa using key xs [] ρ (fun _ h => h) (by simp) h0
theorem s10 {d : Nat} (h : 0 < d) {z : List (Int × Int)} (g : Int) (hz : z.length ≤ 1000) : TT G d 10 [dZ z, .int g] = some (.list ((comesZ z g).map .int)) := by
  obtain ⟨d, rfl⟩ : ∃ e, d = e + 1 := ⟨d - 1, by omega⟩
  rw [tt d 10 _ r10 rfl]
  obtain ⟨ρ', e, k, t, rfl⟩ := forL_app (f := stF (TT G d) fuel (.v 3) (.cons (.asg (.v 4) (.bin .sub (.var 1) (.ix (.ix (.var 0) (.var 3)) (.cst (.int 1))))) (.cons (.ife (.andB (.cmp (.var 4) (.cons .ge (.ix (.ix (.var 0) (.var 3)) (.cst (.int 0))) .nil)) (.one (.orB (.cmp (.var 3) (.cons .eq (.bin .sub (.p1 .len (.var 0)) (.cst (.int 1))) .nil)) (.one (.cmp (.var 4) (.cons .lt (.ix (.ix (.var 0) (.bin .add (.var 3) (.cst (.int 1)))) (.cst (.int 0))) .nil)))))) (.cons (.app 2 (.var 4)) .nil) .nil) .nil)))
    (fun (k : Nat) => .int k) (okC z g) (fun k => g - oz z k) (fun acc ρ => ∃ k t, ρ = [some (dZ z), some (.int g), some (.list (acc.map .int)), k, t]) (List.range z.length) [some (dZ z), some (.int g), some (.list []), none, none] ⟨_, _, rfl⟩ (by
      rintro s k ρ hm hs ⟨k0, t0, rfl⟩
      have hk : k < z.length := by simpa using hm
      have ha := ix_z (i := (k : Int)) hk rfl
      have hsz : s.length < sizeLine := by rw [PySem.sizeLine]; simp at hs; omega
      refine ⟨_, ?_, some (.int k), some (.int (g - oz z k)), rfl⟩
      unfold okC
      by_cases h1 : tz z k ≤ g - oz z k
      · by_cases h2 : k + 1 = z.length
        · have h2' := decide_eq_true (p := (k : Int) = (z.length : Int) - 1) (by omega)
          simp! only [stF_def, ha, h1, h2', decide_eq_true_eq, h2, hsz]
        · have h2' := decide_eq_false (p := (k : Int) = (z.length : Int) - 1) (by omega)
          have hb := ix_z (z := z) (k := k + 1) (i := (k : Int) + 1) (by omega) (by omega)
          by_cases h3 : g - oz z k < tz z (k + 1)
          · simp! only [stF_def, ha, hb, h1, h2', decide_eq_true_eq, h2, h3, hsz]
          · simp! only [stF_def, ha, hb, h1, h2', decide_eq_true_eq, h2, h3, hsz]
      · simp! only [stF_def, ha, h1])
  rw [run_eq [some (dZ z), some (.int g), none, none, none] rfl]
  rw [show r10.body = b10 from rfl]
  have hr := rng0 (n := z.length) (by omega)
  simp! only [b10, hr, e, comesZ]
end K70
set_option maxRecDepth 100000
set_option maxHeartbeats 1000000
namespace K70
open PySem DI
local macro_rules
  | `(tactic| simp! only [$ls,*]) => `(tactic| simp only [DI.a1_s, DI.a2_s, DI.bO_s, DI.cm_s, DI.andO_s, DI.andO_f, DI.andO_t, DI.orO_s, DI.orO_t, DI.orO_f, DI.notO_s, DI.iteO_t, DI.iteO_f, DI.iteO_p, DI.ch3_s, DI.ch3c_s, DI.orVO_s, DI.orVb_t, DI.orVb_f, DI.truthD_n, DI.truthD_l, DI.truthD_t, DI.tupO_s, DI.lstO_s, DI.lstSO_s, DI.cnsO_s, DI.appO_l, DI.appO_t, DI.slO_s, DI.clO_s, DI.scO_b, DI.scO_i, DI.scO_n, DI.scO_x, DI.dspO_s, DI.lcC_t, DI.lcC_f, DI.lcC_p, DI.lcK_s, DI.tsO_t, DI.tsO_f, DI.tsO_1, DI.r1O_s, DI.r2O_s, DI.r3O_s, DI.ofO_l, DI.ofO_t, DI.enO_s, DI.enO_t, DI.zpO_s, DI.slot_0, DI.slot_s, DI.ev_var, DI.ev_cst, DI.ev_glb, DI.ev_bin, DI.ev_neg, DI.ev_cmp1, DI.ev_cmp2, DI.ev_and, DI.ev_or, DI.ev_one, DI.ev_not, DI.ev_orV, DI.ev_ite, DI.ev_tup, DI.ev_lst, DI.ev_lstS, DI.ev_ix, DI.ev_sl, DI.partE_no, DI.partE_var, DI.partE_cst, DI.partE_neg, DI.partE_bin, DI.ev_rev, DI.ev_p1, DI.ev_p2, DI.ev_dsp, DI.ev_dix, DI.ev_call, DI.ev_cals, DI.ev_lc, DI.lcE_s, DI.evs_nil, DI.evs_cons, DI.evS_nil, DI.evS_star, DI.evS_tup, DI.evS_cst, DI.evS_var, DI.evS_bin, DI.evS_ix, DI.evt_nil, DI.evt_cons, DI.evi_ofl, DI.evi_rng1, DI.evi_rng2, DI.evi_rng3, DI.evi_enum, DI.evi_zip, DI.kn_nx, DI.kn_rt, DI.kn_bk, DI.kn_ct, DI.nxO_s, DI.rtO_s, DI.asgO_s, DI.parO_s, DI.setAll_nil, DI.stO_s, DI.a3_s, DI.ifO_t, DI.ifO_f, DI.ifO_p, DI.exO_s, DI.forK_s, DI.putE_0, DI.putE_s, DI.cE_s, DI.bindP_v, DI.ownO_l, DI.sK_s, DI.setAll_cons, DI.bindP_t, DI.bindP_tl, DI.bindPs_nil, DI.bK_s, DI.bindPs_cons, DI.wipeD_nil, DI.wipeD_cons, DI.exS_asg, DI.exS_own, DI.exS_par, DI.exS_app, DI.exS_put, DI.exS_ret, DI.exS_retN, DI.exS_pass, DI.exS_brk, DI.exS_cnt, DI.exS_rse, DI.exS_exp, DI.exS_ife, DI.exSs_nil, DI.exSs_cons, DI.exS_for, DI.binD_add, DI.binD_sub, DI.binD_mul, DI.binD_fdiv, DI.binD_mod, DI.binD_pow, DI.addD_i, DI.addD_l, DI.subD_i, DI.fdivD_i, DI.modD_i, DI.negD_i, DI.cmpD_eq, DI.cmpD_ne, DI.cmpD_lt, DI.cmpD_le, DI.cmpD_gt, DI.cmpD_ge, DI.cmpD_is, DI.cmpD_isn, DI.cmpD_inn, DI.cmpD_nin, DI.isD_nn, DI.isD_in, DI.isD_ln, DI.isD_tn, DI.isD_bb, DI.eqD_i, DI.eqD_s, DI.p1D_len_l, DI.p1D_len_t, DI.p1D_abs, DI.p1D_int, DI.p1D_intb, DI.p2D_min, DI.p2D_max, DI.ixD_l, DI.ixD_t, DI.appD_l, DI.atI_0, DI.atI_1, DI.atI_2, DI.atI_3, DI.outD_rt, DI.outD_nx, DI.rK_nx, DI.rK_rt, List.set_cons_zero, List.set_cons_succ, decide_true, decide_false, Bool.not_true, Bool.not_false, Bool.and_true, Bool.true_and, Bool.and_false, Bool.false_and, Bool.or_true, Bool.true_or, Bool.or_false, Bool.false_or, if_true, if_false, Bool.false_eq_true, Option.map_some, Option.bind_some, List.map_cons, List.map_nil, List.map_append, List.cons_append, List.nil_append, not_true_eq_false, not_false_eq_true, and_true, true_and, Bool.not_not, eq_self, List.length_append, List.length_map, List.length_cons, List.length_nil, Nat.zero_add, Int.natCast_zero, Int.natCast_add, Int.cast_ofNat_Int, Int.natCast_one, Nat.succ_eq_add_one, $ls,*])
local macro_rules
  | `(tactic| simp! only [$ls,*] $l:location) => `(tactic| simp only [DI.a1_s, DI.a2_s, DI.bO_s, DI.cm_s, DI.andO_s, DI.andO_f, DI.andO_t, DI.orO_s, DI.orO_t, DI.orO_f, DI.notO_s, DI.iteO_t, DI.iteO_f, DI.iteO_p, DI.ch3_s, DI.ch3c_s, DI.orVO_s, DI.orVb_t, DI.orVb_f, DI.truthD_n, DI.truthD_l, DI.truthD_t, DI.tupO_s, DI.lstO_s, DI.lstSO_s, DI.cnsO_s, DI.appO_l, DI.appO_t, DI.slO_s, DI.clO_s, DI.scO_b, DI.scO_i, DI.scO_n, DI.scO_x, DI.dspO_s, DI.lcC_t, DI.lcC_f, DI.lcC_p, DI.lcK_s, DI.tsO_t, DI.tsO_f, DI.tsO_1, DI.r1O_s, DI.r2O_s, DI.r3O_s, DI.ofO_l, DI.ofO_t, DI.enO_s, DI.enO_t, DI.zpO_s, DI.slot_0, DI.slot_s, DI.ev_var, DI.ev_cst, DI.ev_glb, DI.ev_bin, DI.ev_neg, DI.ev_cmp1, DI.ev_cmp2, DI.ev_and, DI.ev_or, DI.ev_one, DI.ev_not, DI.ev_orV, DI.ev_ite, DI.ev_tup, DI.ev_lst, DI.ev_lstS, DI.ev_ix, DI.ev_sl, DI.partE_no, DI.partE_var, DI.partE_cst, DI.partE_neg, DI.partE_bin, DI.ev_rev, DI.ev_p1, DI.ev_p2, DI.ev_dsp, DI.ev_dix, DI.ev_call, DI.ev_cals, DI.ev_lc, DI.lcE_s, DI.evs_nil, DI.evs_cons, DI.evS_nil, DI.evS_star, DI.evS_tup, DI.evS_cst, DI.evS_var, DI.evS_bin, DI.evS_ix, DI.evt_nil, DI.evt_cons, DI.evi_ofl, DI.evi_rng1, DI.evi_rng2, DI.evi_rng3, DI.evi_enum, DI.evi_zip, DI.kn_nx, DI.kn_rt, DI.kn_bk, DI.kn_ct, DI.nxO_s, DI.rtO_s, DI.asgO_s, DI.parO_s, DI.setAll_nil, DI.stO_s, DI.a3_s, DI.ifO_t, DI.ifO_f, DI.ifO_p, DI.exO_s, DI.forK_s, DI.putE_0, DI.putE_s, DI.cE_s, DI.bindP_v, DI.ownO_l, DI.sK_s, DI.setAll_cons, DI.bindP_t, DI.bindP_tl, DI.bindPs_nil, DI.bK_s, DI.bindPs_cons, DI.wipeD_nil, DI.wipeD_cons, DI.exS_asg, DI.exS_own, DI.exS_par, DI.exS_app, DI.exS_put, DI.exS_ret, DI.exS_retN, DI.exS_pass, DI.exS_brk, DI.exS_cnt, DI.exS_rse, DI.exS_exp, DI.exS_ife, DI.exSs_nil, DI.exSs_cons, DI.exS_for, DI.binD_add, DI.binD_sub, DI.binD_mul, DI.binD_fdiv, DI.binD_mod, DI.binD_pow, DI.addD_i, DI.addD_l, DI.subD_i, DI.fdivD_i, DI.modD_i, DI.negD_i, DI.cmpD_eq, DI.cmpD_ne, DI.cmpD_lt, DI.cmpD_le, DI.cmpD_gt, DI.cmpD_ge, DI.cmpD_is, DI.cmpD_isn, DI.cmpD_inn, DI.cmpD_nin, DI.isD_nn, DI.isD_in, DI.isD_ln, DI.isD_tn, DI.isD_bb, DI.eqD_i, DI.eqD_s, DI.p1D_len_l, DI.p1D_len_t, DI.p1D_abs, DI.p1D_int, DI.p1D_intb, DI.p2D_min, DI.p2D_max, DI.ixD_l, DI.ixD_t, DI.appD_l, DI.atI_0, DI.atI_1, DI.atI_2, DI.atI_3, DI.outD_rt, DI.outD_nx, DI.rK_nx, DI.rK_rt, List.set_cons_zero, List.set_cons_succ, decide_true, decide_false, Bool.not_true, Bool.not_false, Bool.and_true, Bool.true_and, Bool.and_false, Bool.false_and, Bool.or_true, Bool.true_or, Bool.or_false, Bool.false_or, if_true, if_false, Bool.false_eq_true, Option.map_some, Option.bind_some, List.map_cons, List.map_nil, List.map_append, List.cons_append, List.nil_append, not_true_eq_false, not_false_eq_true, and_true, true_and, Bool.not_not, eq_self, List.length_append, List.length_map, List.length_cons, List.length_nil, Nat.zero_add, Int.natCast_zero, Int.natCast_add, Int.cast_ofNat_Int, Int.natCast_one, Nat.succ_eq_add_one, $ls,*] $l)
theorem spansZ_len (z : List (Int × Int)) : (spansZ z).length = z.length := by simp [spansZ]
def qS (g : Int) (s : Int × Option Int × Int) : Bool := decide (s.1 ≤ g) && (match s.2.1 with | none => true | some e => decide (g < e))
theorem comes_spans (z : List (Int × Int)) (g : Int) : ((spansZ z).filter (qS g)).map (fun s => g - s.2.2) = comesZ z g := by
  unfold spansZ comesZ
  rw [List.filter_map, List.map_map]
  have : (List.range z.length).filter (qS g ∘ fun k => (tz z k + oz z k, if k + 1 < z.length then some (tz z (k + 1) + oz z k) else none, oz z k)) = (List.range z.length).filter (okC z g) := by
    refine List.filter_congr fun k hk => ?_
    have hk : k < z.length := by simpa using hk
    simp only [Function.comp, qS, okC]
    by_cases h1 : k + 1 < z.length
    · have h2 : ¬ k + 1 = z.length := by omega
      simp only [if_pos h1, h2, decide_false, Bool.false_or]
      rw [decide_eq_decide.mpr (show tz z k + oz z k ≤ g ↔ tz z k ≤ g - oz z k by omega), decide_eq_decide.mpr (show g < tz z (k + 1) + oz z k ↔ g - oz z k < tz z (k + 1) by omega)]
    · have h2 : k + 1 = z.length := by omega
      simp only [if_neg h1, decide_eq_true h2, Bool.true_or, Bool.and_true]
      rw [decide_eq_decide.mpr (show tz z k + oz z k ≤ g ↔ tz z k ≤ g - oz z k by omega)]
  rw [this]
  rfl
theorem s17 {d : Nat} (h : 1 < d) {z : List (Int × Int)} (g : Int) (hz : z.length ≤ 1000) : TT G d 17 [dZ z, .int g] = some (.list ((comesZ z g).map .int)) := by
  obtain ⟨d, rfl⟩ : ∃ e, d = e + 1 := ⟨d - 1, by omega⟩
  rw [tt d 17 _ r17 rfl]
  obtain ⟨ρ', e, a, b, c, rfl⟩ := forL_app (f := stF (TT G d) fuel (.t (.cons (.v 3) (.cons (.v 4) (.cons (.v 5) .nil)))) (.cons (.ife (.andB (.cmp (.var 3) (.cons .le (.var 1) .nil)) (.one (.orB (.cmp (.var 4) (.cons .is (.cst .none) .nil)) (.one (.cmp (.var 1) (.cons .lt (.var 4) .nil)))))) (.cons (.app 2 (.bin .sub (.var 1) (.var 5))) .nil) .nil) .nil))
    dS (qS g) (fun s => g - s.2.2) (fun acc ρ => ∃ a b c, ρ = [some (dZ z), some (.int g), some (.list (acc.map .int)), a, b, c]) (spansZ z) [some (dZ z), some (.int g), some (.list []), none, none, none] ⟨_, _, _, rfl⟩ (by
      rintro s ⟨x, e, o⟩ ρ hm hs ⟨a0, b0, c0, rfl⟩
      have hsz : s.length < sizeLine := by rw [PySem.sizeLine]; rw [spansZ_len] at hs; omega
      refine ⟨_, ?_, some (.int x), some (dO e), some (.int o), rfl⟩
      unfold qS
      by_cases h1 : x ≤ g
      · cases e with
        | none => simp! only [stF_def, h1, hsz]
        | some e => by_cases h2 : g < e <;> simp! only [stF_def, h1, h2, hsz]
      · simp! only [stF_def, h1])
  rw [run_eq [some (dZ z), some (.int g), none, none, none, none] rfl]
  rw [show r17.body = b17 from rfl]
  rw [comes_spans] at e
  simp! only [b17, s3 (d := d) (by omega) z hz, e]
def qL (z : List (Int × Int)) (g : Int) (k : Nat) : Bool := decide (k + 1 = z.length) || decide (g < tz z (k + 1) - 1 + oz z k)
def laterZ (z : List (Int × Int)) (g : Int) : Int := match (List.range z.length).find? (qL z g) with
  | some k => if g + 1 - oz z k > tz z k then g + 1 - oz z k else tz z k
  | none => 0
theorem later_some {z : List (Int × Int)} (g : Int) (h : 1 ≤ z.length) : ∃ k, (List.range z.length).find? (qL z g) = some k := by
  cases e : (List.range z.length).find? (qL z g) with
  | some k => exact ⟨k, rfl⟩
  | none =>
    have := List.find?_eq_none.mp e (z.length - 1) (by simp; omega)
    simp [qL] at this
    omega
theorem s11 {d : Nat} (h : 0 < d) {z : List (Int × Int)} (g : Int) (h1 : 1 ≤ z.length) (hz : z.length ≤ 1000) : TT G d 11 [dZ z, .int g] = some (.int (laterZ z g)) := by
  obtain ⟨d, rfl⟩ : ∃ e, d = e + 1 := ⟨d - 1, by omega⟩
  rw [tt d 11 _ r11 rfl]
  have key := forL_find (f := stF (TT G d) fuel (.v 2) (.cons (.asg (.v 3) (.cst .none)) (.cons (.ife (.cmp (.var 2) (.cons .lt (.bin .sub (.p1 .len (.var 0)) (.cst (.int 1))) .nil)) (.cons (.asg (.v 3) (.bin .sub (.ix (.ix (.var 0) (.bin .add (.var 2) (.cst (.int 1)))) (.cst (.int 0))) (.cst (.int 1)))) .nil) .nil) (.cons (.ife (.orB (.cmp (.var 3) (.cons .is (.cst .none) .nil)) (.one (.cmp (.bin .add (.var 3) (.ix (.ix (.var 0) (.var 2)) (.cst (.int 1)))) (.cons .gt (.var 1) .nil)))) (.cons (.ret (.p2 .max (.ix (.ix (.var 0) (.var 2)) (.cst (.int 0))) (.bin .sub (.bin .add (.var 1) (.cst (.int 1))) (.ix (.ix (.var 0) (.var 2)) (.cst (.int 1)))))) .nil) .nil) .nil))))
    (fun (k : Nat) => .int k) (fun ρ => ∃ a b, ρ = [some (dZ z), some (.int g), a, b]) (qL z g) (fun k => .int (if g + 1 - oz z k > tz z k then g + 1 - oz z k else tz z k)) (List.range z.length) [some (dZ z), some (.int g), none, none] ⟨_, _, rfl⟩ (by
      rintro k ρ hm ⟨a, b, rfl⟩
      have hk : k < z.length := by simpa using hm
      have ha := ix_z (i := (k : Int)) hk rfl
      unfold qL
      by_cases h2 : k + 1 = z.length
      · have h3 : ¬ (k : Int) < (z.length : Int) - 1 := by omega
        simp! only [stF_def, ha, h2, h3]
      · have h3 : (k : Int) < (z.length : Int) - 1 := by omega
        have hb := ix_z (z := z) (k := k + 1) (i := (k : Int) + 1) (by omega) (by omega)
        by_cases h4 : g < tz z (k + 1) - 1 + oz z k
        · simp! only [stF_def, ha, hb, h2, h3, h4]
        · simp! only [stF_def, ha, hb, h2, h3, h4]
          exact ⟨_, rfl, _, _, rfl⟩)
  obtain ⟨k, hk⟩ := later_some g h1
  rw [hk] at key
  rw [run_eq [some (dZ z), some (.int g), none, none] rfl]
  rw [show r11.body = b11 from rfl]
  have hr := rng0 (n := z.length) (by omega)
  simp only at key
  simp! only [b11, hr, key, laterZ, hk]
theorem s18 {d : Nat} (h : 1 < d) {z : List (Int × Int)} (g : Int) (h1 : 1 ≤ z.length) (hz : z.length ≤ 1000) : TT G d 18 [dZ z, .int g] = some (.int (laterZ z g)) := by
  obtain ⟨d, rfl⟩ : ∃ e, d = e + 1 := ⟨d - 1, by omega⟩
  rw [tt d 18 _ r18 rfl]
  have key := forL_find (f := stF (TT G d) fuel (.t (.cons (.v 2) (.cons (.v 3) (.cons (.v 4) .nil)))) (.cons (.ife (.orB (.cmp (.var 3) (.cons .is (.cst .none) .nil)) (.one (.cmp (.bin .sub (.var 3) (.cst (.int 1))) (.cons .gt (.var 1) .nil)))) (.cons (.ret (.bin .sub (.p2 .max (.var 2) (.bin .add (.var 1) (.cst (.int 1)))) (.var 4))) .nil) .nil) .nil))
    (fun k => dS (tz z k + oz z k, if k + 1 < z.length then some (tz z (k + 1) + oz z k) else none, oz z k)) (fun ρ => ∃ a b c, ρ = [some (dZ z), some (.int g), a, b, c]) (qL z g) (fun k => .int (if g + 1 - oz z k > tz z k then g + 1 - oz z k else tz z k)) (List.range z.length) [some (dZ z), some (.int g), none, none, none] ⟨_, _, _, rfl⟩ (by
      rintro k ρ hm ⟨a, b, c, rfl⟩
      have hk : k < z.length := by simpa using hm
      unfold qL
      by_cases h2 : k + 1 = z.length
      · have h3 : ¬ k + 1 < z.length := by omega
        simp only [h2, decide_true, Bool.true_or, if_true, Nat.lt_irrefl, if_false]
        have e1 : (if g + 1 > tz z k + oz z k then g + 1 else tz z k + oz z k) - oz z k = if g + 1 - oz z k > tz z k then g + 1 - oz z k else tz z k := by split <;> split <;> omega
        rw [← e1]
        simp [stF_def]
      · have h3 : k + 1 < z.length := by omega
        simp only [h2, h3, decide_false, Bool.false_or, if_true]
        by_cases h4 : g < tz z (k + 1) - 1 + oz z k
        · have h5 : g < tz z (k + 1) + oz z k - 1 := by omega
          have e1 : (if g + 1 > tz z k + oz z k then g + 1 else tz z k + oz z k) - oz z k = if g + 1 - oz z k > tz z k then g + 1 - oz z k else tz z k := by split <;> split <;> omega
          rw [← e1]
          simp! only [stF_def, h4, h5]
        · have h5 : ¬ g < tz z (k + 1) + oz z k - 1 := by omega
          simp! only [stF_def, h4, h5]
          exact ⟨_, rfl, _, _, _, rfl⟩)
  obtain ⟨k, hk⟩ := later_some g h1
  rw [hk] at key
  rw [run_eq [some (dZ z), some (.int g), none, none, none] rfl]
  rw [show r18.body = b18 from rfl]
  have e2 : (spansZ z).map dS = (List.range z.length).map fun k => dS (tz z k + oz z k, if k + 1 < z.length then some (tz z (k + 1) + oz z k) else none, oz z k) := by
    unfold spansZ; rw [List.map_map]; rfl
  simp only at key
  simp! only [b18, s3 (d := d) (by omega) z hz, e2, key, laterZ, hk]
theorem s16 {d : Nat} (h : 1 < d) {z : List (Int × Int)} (hz : OkZ z) {g : Int} (g1 : -1000000 ≤ g) (g2 : g ≤ 3000000) : TT G d 16 [dZ z, .int g] = some .none := by
  obtain ⟨d, rfl⟩ : ∃ e, d = e + 1 := ⟨d - 1, by omega⟩
  rw [tt d 16 _ r16 rfl]
  rw [run_eq [some (dZ z), some (.int g)] rfl]
  rw [show r16.body = b16 from rfl]
  simp! only [b16, s2 (d := d) (by omega) hz, g1, g2]
theorem s29 {d : Nat} (h : 2 < d) {z : List (Int × Int)} (hz : OkZ z) {g : Int} (g1 : -1000000 ≤ g) (g2 : g ≤ 3000000) : TT G d 29 [dZ z, .int g] = some (.list ((comesZ z g).map .int)) := by
  obtain ⟨d, rfl⟩ : ∃ e, d = e + 1 := ⟨d - 1, by omega⟩
  rw [tt d 29 _ r29 rfl]
  rw [run_eq [some (dZ z), some (.int g)] rfl]
  rw [show r29.body = b29 from rfl]
  have := hz.len6
  simp! only [b29, s16 (d := d) (by omega) hz g1 g2, s17 (d := d) (by omega) (z := z) g (by omega)]
def startsZ (z : List (Int × Int)) (g : Int) (tw nv : Str) : List Int :=
  if comesZ z g = [] then (if nv = "next" then [laterZ z g] else []) else if tw = "each" then comesZ z g else if tw = "first" then (comesZ z g).take 1 else (comesZ z g).drop ((comesZ z g).length - 1)
theorem cutD_1 {xs : List D} : cutD xs none (some 1) = xs.take 1 := cutD_to (n := 1)
theorem cutD_m1 {xs : List D} : cutD xs (some (-1)) none = xs.drop (xs.length - 1) := by
  unfold cutD
  have e1 : HT.sIx xs.length xs.length none = xs.length := rfl
  have e2 : HT.sIx xs.length 0 (some (-1)) = xs.length - 1 := by
    show (if (-1 : Int) < 0 then ((-1 : Int) + (xs.length : Int)).toNat else min (-1 : Int).toNat xs.length) = _
    rw [if_pos (by decide)]; omega
  rw [e1, e2]
  rw [List.take_of_length_le (by simp)]
theorem s30 {d : Nat} (h : 2 < d) {z : List (Int × Int)} (hz : OkZ z) {g : Int} (g1 : -1000000 ≤ g) (g2 : g ≤ 3000000) {tw nv : Str} (ht : inD (.str tw) (.tuple [.str "first", .str "last", .str "each"]) = some true) (hn : inD (.str nv) (.tuple [.str "skip", .str "next"]) = some true)
    (k1 : PySem.PyData.strOk tw = true) (k2 : PySem.PyData.strOk nv = true) : TT G d 30 [dZ z, .int g, .str tw, .str nv] = some (.list ((startsZ z g tw nv).map .int)) := by
  obtain ⟨d, rfl⟩ : ∃ e, d = e + 1 := ⟨d - 1, by omega⟩
  rw [tt d 30 _ r30 rfl]
  rw [run_eq [some (dZ z), some (.int g), some (.str tw), some (.str nv), none, none, none, none] rfl]
  rw [show r30.body = b30 from rfl]
  have := hz.len6
  have o1 : PySem.PyData.strOk "next" = true := by decide +kernel
  have o2 : PySem.PyData.strOk "each" = true := by decide +kernel
  have o3 : PySem.PyData.strOk "first" = true := by decide +kernel
  have e0 : ((comesZ z g).length : Int) = 0 ↔ comesZ z g = [] := by
    rw [← List.length_eq_zero_iff]; omega
  unfold startsZ
  have hc := s17 (d := d) (by omega) (z := z) g (by omega)
  by_cases c0 : comesZ z g = []
  · have c0' : decide (((comesZ z g).length : Int) = 0) = true := decide_eq_true (e0.mpr c0)
    rw [if_pos c0]
    by_cases c1 : nv = "next"
    · rw [if_pos c1]
      simp! only [b30, b30f0, s16 (d := d) (by omega) hz g1 g2, enumD, forL, stF_def, ht, hn, hc, s18 (d := d) (by omega) g hz.len1 (by omega), c0', decide_eq_true c1, o1, k2]
    · rw [if_neg c1]
      simp! only [b30, b30f0, s16 (d := d) (by omega) hz g1 g2, enumD, forL, stF_def, ht, hn, hc, s18 (d := d) (by omega) g hz.len1 (by omega), c0', decide_eq_false c1, o1, k2]
  · have c0' : decide (((comesZ z g).length : Int) = 0) = false := decide_eq_false fun q => c0 (e0.mp q)
    rw [if_neg c0]
    by_cases c1 : tw = "each"
    · rw [if_pos c1]
      simp! only [b30, b30f0, s16 (d := d) (by omega) hz g1 g2, enumD, forL, stF_def, ht, hn, hc, c0', decide_eq_true c1, o2, k1]
    · rw [if_neg c1]
      by_cases c2 : tw = "first"
      · rw [if_pos c2]
        simp! only [b30, b30f0, s16 (d := d) (by omega) hz g1 g2, enumD, forL, stF_def, ht, hn, hc, c0', decide_eq_false c1, decide_eq_true c2, o2, o3, k1, cutD_1, List.map_take]
      · rw [if_neg c2]
        simp! only [b30, b30f0, s16 (d := d) (by omega) hz g1 g2, enumD, forL, stF_def, ht, hn, hc, c0', decide_eq_false c1, decide_eq_false c2, o2, o3, k1, cutD_m1, List.map_drop]
end K70
set_option maxRecDepth 100000
set_option maxHeartbeats 1000000
namespace K70
open PySem DI
local macro_rules
  | `(tactic| simp! only [$ls,*]) => `(tactic| simp only [DI.a1_s, DI.a2_s, DI.bO_s, DI.cm_s, DI.andO_s, DI.andO_f, DI.andO_t, DI.orO_s, DI.orO_t, DI.orO_f, DI.notO_s, DI.iteO_t, DI.iteO_f, DI.iteO_p, DI.ch3_s, DI.ch3c_s, DI.orVO_s, DI.orVb_t, DI.orVb_f, DI.truthD_n, DI.truthD_l, DI.truthD_t, DI.tupO_s, DI.lstO_s, DI.lstSO_s, DI.cnsO_s, DI.appO_l, DI.appO_t, DI.slO_s, DI.clO_s, DI.scO_b, DI.scO_i, DI.scO_n, DI.scO_x, DI.dspO_s, DI.lcC_t, DI.lcC_f, DI.lcC_p, DI.lcK_s, DI.tsO_t, DI.tsO_f, DI.tsO_1, DI.r1O_s, DI.r2O_s, DI.r3O_s, DI.ofO_l, DI.ofO_t, DI.enO_s, DI.enO_t, DI.zpO_s, DI.slot_0, DI.slot_s, DI.ev_var, DI.ev_cst, DI.ev_glb, DI.ev_bin, DI.ev_neg, DI.ev_cmp1, DI.ev_cmp2, DI.ev_and, DI.ev_or, DI.ev_one, DI.ev_not, DI.ev_orV, DI.ev_ite, DI.ev_tup, DI.ev_lst, DI.ev_lstS, DI.ev_ix, DI.ev_sl, DI.partE_no, DI.partE_var, DI.partE_cst, DI.partE_neg, DI.partE_bin, DI.ev_rev, DI.ev_p1, DI.ev_p2, DI.ev_dsp, DI.ev_dix, DI.ev_call, DI.ev_cals, DI.ev_lc, DI.lcE_s, DI.evs_nil, DI.evs_cons, DI.evS_nil, DI.evS_star, DI.evS_tup, DI.evS_cst, DI.evS_var, DI.evS_bin, DI.evS_ix, DI.evt_nil, DI.evt_cons, DI.evi_ofl, DI.evi_rng1, DI.evi_rng2, DI.evi_rng3, DI.evi_enum, DI.evi_zip, DI.kn_nx, DI.kn_rt, DI.kn_bk, DI.kn_ct, DI.nxO_s, DI.rtO_s, DI.asgO_s, DI.parO_s, DI.setAll_nil, DI.stO_s, DI.a3_s, DI.ifO_t, DI.ifO_f, DI.ifO_p, DI.exO_s, DI.forK_s, DI.putE_0, DI.putE_s, DI.cE_s, DI.bindP_v, DI.ownO_l, DI.sK_s, DI.setAll_cons, DI.bindP_t, DI.bindP_tl, DI.bindPs_nil, DI.bK_s, DI.bindPs_cons, DI.wipeD_nil, DI.wipeD_cons, DI.exS_asg, DI.exS_own, DI.exS_par, DI.exS_app, DI.exS_put, DI.exS_ret, DI.exS_retN, DI.exS_pass, DI.exS_brk, DI.exS_cnt, DI.exS_rse, DI.exS_exp, DI.exS_ife, DI.exSs_nil, DI.exSs_cons, DI.exS_for, DI.binD_add, DI.binD_sub, DI.binD_mul, DI.binD_fdiv, DI.binD_mod, DI.binD_pow, DI.addD_i, DI.addD_l, DI.subD_i, DI.fdivD_i, DI.modD_i, DI.negD_i, DI.cmpD_eq, DI.cmpD_ne, DI.cmpD_lt, DI.cmpD_le, DI.cmpD_gt, DI.cmpD_ge, DI.cmpD_is, DI.cmpD_isn, DI.cmpD_inn, DI.cmpD_nin, DI.isD_nn, DI.isD_in, DI.isD_ln, DI.isD_tn, DI.isD_bb, DI.eqD_i, DI.eqD_s, DI.p1D_len_l, DI.p1D_len_t, DI.p1D_abs, DI.p1D_int, DI.p1D_intb, DI.p2D_min, DI.p2D_max, DI.ixD_l, DI.ixD_t, DI.appD_l, DI.atI_0, DI.atI_1, DI.atI_2, DI.atI_3, DI.outD_rt, DI.outD_nx, DI.rK_nx, DI.rK_rt, List.set_cons_zero, List.set_cons_succ, decide_true, decide_false, Bool.not_true, Bool.not_false, Bool.and_true, Bool.true_and, Bool.and_false, Bool.false_and, Bool.or_true, Bool.true_or, Bool.or_false, Bool.false_or, if_true, if_false, Bool.false_eq_true, Option.map_some, Option.bind_some, List.map_cons, List.map_nil, List.map_append, List.cons_append, List.nil_append, not_true_eq_false, not_false_eq_true, and_true, true_and, Bool.not_not, eq_self, List.length_append, List.length_map, List.length_cons, List.length_nil, Nat.zero_add, Int.natCast_zero, Int.natCast_add, Int.cast_ofNat_Int, Int.natCast_one, Nat.succ_eq_add_one, $ls,*])
local macro_rules
  | `(tactic| simp! only [$ls,*] $l:location) => `(tactic| simp only [DI.a1_s, DI.a2_s, DI.bO_s, DI.cm_s, DI.andO_s, DI.andO_f, DI.andO_t, DI.orO_s, DI.orO_t, DI.orO_f, DI.notO_s, DI.iteO_t, DI.iteO_f, DI.iteO_p, DI.ch3_s, DI.ch3c_s, DI.orVO_s, DI.orVb_t, DI.orVb_f, DI.truthD_n, DI.truthD_l, DI.truthD_t, DI.tupO_s, DI.lstO_s, DI.lstSO_s, DI.cnsO_s, DI.appO_l, DI.appO_t, DI.slO_s, DI.clO_s, DI.scO_b, DI.scO_i, DI.scO_n, DI.scO_x, DI.dspO_s, DI.lcC_t, DI.lcC_f, DI.lcC_p, DI.lcK_s, DI.tsO_t, DI.tsO_f, DI.tsO_1, DI.r1O_s, DI.r2O_s, DI.r3O_s, DI.ofO_l, DI.ofO_t, DI.enO_s, DI.enO_t, DI.zpO_s, DI.slot_0, DI.slot_s, DI.ev_var, DI.ev_cst, DI.ev_glb, DI.ev_bin, DI.ev_neg, DI.ev_cmp1, DI.ev_cmp2, DI.ev_and, DI.ev_or, DI.ev_one, DI.ev_not, DI.ev_orV, DI.ev_ite, DI.ev_tup, DI.ev_lst, DI.ev_lstS, DI.ev_ix, DI.ev_sl, DI.partE_no, DI.partE_var, DI.partE_cst, DI.partE_neg, DI.partE_bin, DI.ev_rev, DI.ev_p1, DI.ev_p2, DI.ev_dsp, DI.ev_dix, DI.ev_call, DI.ev_cals, DI.ev_lc, DI.lcE_s, DI.evs_nil, DI.evs_cons, DI.evS_nil, DI.evS_star, DI.evS_tup, DI.evS_cst, DI.evS_var, DI.evS_bin, DI.evS_ix, DI.evt_nil, DI.evt_cons, DI.evi_ofl, DI.evi_rng1, DI.evi_rng2, DI.evi_rng3, DI.evi_enum, DI.evi_zip, DI.kn_nx, DI.kn_rt, DI.kn_bk, DI.kn_ct, DI.nxO_s, DI.rtO_s, DI.asgO_s, DI.parO_s, DI.setAll_nil, DI.stO_s, DI.a3_s, DI.ifO_t, DI.ifO_f, DI.ifO_p, DI.exO_s, DI.forK_s, DI.putE_0, DI.putE_s, DI.cE_s, DI.bindP_v, DI.ownO_l, DI.sK_s, DI.setAll_cons, DI.bindP_t, DI.bindP_tl, DI.bindPs_nil, DI.bK_s, DI.bindPs_cons, DI.wipeD_nil, DI.wipeD_cons, DI.exS_asg, DI.exS_own, DI.exS_par, DI.exS_app, DI.exS_put, DI.exS_ret, DI.exS_retN, DI.exS_pass, DI.exS_brk, DI.exS_cnt, DI.exS_rse, DI.exS_exp, DI.exS_ife, DI.exSs_nil, DI.exSs_cons, DI.exS_for, DI.binD_add, DI.binD_sub, DI.binD_mul, DI.binD_fdiv, DI.binD_mod, DI.binD_pow, DI.addD_i, DI.addD_l, DI.subD_i, DI.fdivD_i, DI.modD_i, DI.negD_i, DI.cmpD_eq, DI.cmpD_ne, DI.cmpD_lt, DI.cmpD_le, DI.cmpD_gt, DI.cmpD_ge, DI.cmpD_is, DI.cmpD_isn, DI.cmpD_inn, DI.cmpD_nin, DI.isD_nn, DI.isD_in, DI.isD_ln, DI.isD_tn, DI.isD_bb, DI.eqD_i, DI.eqD_s, DI.p1D_len_l, DI.p1D_len_t, DI.p1D_abs, DI.p1D_int, DI.p1D_intb, DI.p2D_min, DI.p2D_max, DI.ixD_l, DI.ixD_t, DI.appD_l, DI.atI_0, DI.atI_1, DI.atI_2, DI.atI_3, DI.outD_rt, DI.outD_nx, DI.rK_nx, DI.rK_rt, List.set_cons_zero, List.set_cons_succ, decide_true, decide_false, Bool.not_true, Bool.not_false, Bool.and_true, Bool.true_and, Bool.and_false, Bool.false_and, Bool.or_true, Bool.true_or, Bool.or_false, Bool.false_or, if_true, if_false, Bool.false_eq_true, Option.map_some, Option.bind_some, List.map_cons, List.map_nil, List.map_append, List.cons_append, List.nil_append, not_true_eq_false, not_false_eq_true, and_true, true_and, Bool.not_not, eq_self, List.length_append, List.length_map, List.length_cons, List.length_nil, Nat.zero_add, Int.natCast_zero, Int.natCast_add, Int.cast_ofNat_Int, Int.natCast_one, Nat.succ_eq_add_one, $ls,*] $l)
/-! ### sorted, each once -/
theorem mem_sins {x y : Int} : ∀ {l : List Int}, y ∈ sins x l ↔ y = x ∨ y ∈ l
  | [] => by simp [sins]
  | z :: r => by
    unfold sins
    split
    · simp
    · split
      · rename_i h; subst h; simp
      · simp only [List.mem_cons, mem_sins (l := r)]
        constructor
        · rintro (h | h | h) <;> simp [h]
        · rintro (h | h | h) <;> simp [h]
theorem mem_ssort {y : Int} {l : List Int} : y ∈ ssort l ↔ y ∈ l := by
  unfold ssort
  induction l with
  | nil => simp
  | cons x r ih => simp [mem_sins, ih]
theorem sorted_sins {x : Int} : ∀ {l : List Int}, l.Pairwise (· < ·) → (sins x l).Pairwise (· < ·)
  | [], _ => by simp [sins]
  | z :: r, h => by
    rw [List.pairwise_cons] at h
    unfold sins
    split
    · rename_i q
      refine List.pairwise_cons.mpr ⟨fun a ha => ?_, List.pairwise_cons.mpr h⟩
      rcases List.mem_cons.mp ha with rfl | ha
      · exact q
      · have := h.1 a ha; omega
    · split
      · exact List.pairwise_cons.mpr h
      · refine List.pairwise_cons.mpr ⟨fun a ha => ?_, sorted_sins h.2⟩
        rcases mem_sins.mp ha with rfl | ha
        · omega
        · exact h.1 a ha
theorem sorted_ssort (l : List Int) : (ssort l).Pairwise (· < ·) := by
  unfold ssort
  induction l with
  | nil => simp
  | cons x r ih => exact sorted_sins ih
theorem sorted_ext : ∀ {l m : List Int}, l.Pairwise (· < ·) → m.Pairwise (· < ·) → (∀ y, y ∈ l ↔ y ∈ m) → l = m
  | [], [], _, _, _ => rfl
  | [], b :: m, _, _, h => by have := (h b).mpr (by simp); simp at this
  | a :: l, [], _, _, h => by have := (h a).mp (by simp); simp at this
  | a :: l, b :: m, h1, h2, h => by
    rw [List.pairwise_cons] at h1 h2
    have e : a = b := by
      rcases List.mem_cons.mp ((h a).mp (by simp)) with q | q
      · exact q
      · rcases List.mem_cons.mp ((h b).mpr (by simp)) with p | p
        · exact p.symm
        · have := h1.1 b p; have := h2.1 a q; omega
    subst e
    rw [sorted_ext h1.2 h2.2 fun y => ?_]
    constructor
    · intro hy
      rcases List.mem_cons.mp ((h y).mp (List.mem_cons_of_mem _ hy)) with q | q
      · have := h1.1 y hy; omega
      · exact q
    · intro hy
      rcases List.mem_cons.mp ((h y).mpr (List.mem_cons_of_mem _ hy)) with q | q
      · have := h2.1 y hy; omega
      · exact q
theorem ssort_ext {l m : List Int} (h : ∀ y, y ∈ l ↔ y ∈ m) : ssort l = ssort m :=
  sorted_ext (sorted_ssort l) (sorted_ssort m) fun y => by rw [mem_ssort, mem_ssort]; exact h y
theorem sset_ints {l : List Int} (h : l.length < 64) : p1D .sset (.list (l.map .int)) = some (.list ((ssort l).map .int)) := by
  simp only [p1D, asIs_map, Option.bind_some, if_pos h]
theorem sins_len (x : Int) : ∀ l : List Int, (sins x l).length ≤ l.length + 1
  | [] => by simp [sins]
  | z :: r => by
    unfold sins
    split
    · simp
    · split
      · simp
      · have := sins_len x r; simp; omega
theorem ssort_len (l : List Int) : (ssort l).length ≤ l.length := by
  unfold ssort
  induction l with
  | nil => simp
  | cons x r ih =>
    have := sins_len x (r.foldr sins [])
    rw [List.foldr_cons, List.length_cons]; omega
/-! ### marks_of -/
def rawZ (z : List (Int × Int)) : List Int := (spansZ z).flatMap fun s => s.1 :: s.2.1.toList
def marksZ (z : List (Int × Int)) : List Int := ssort (rawZ z)
theorem compLL_map {α : Type} {f : D → Option (List D)} (enc : α → D) (g : α → List D) : ∀ (xs : List α), (∀ x ∈ xs, f (enc x) = some (g x)) → compLL f (xs.map enc) = some (xs.flatMap g)
  | [], _ => rfl
  | x :: r, h => by
    simp only [List.map_cons, compLL, h x List.mem_cons_self, Option.bind_some, compLL_map enc g r fun y hy => h y (List.mem_cons_of_mem _ hy), Option.map_some, List.flatMap_cons]
theorem rawZ_len (z : List (Int × Int)) : (rawZ z).length ≤ 2 * z.length := by
  unfold rawZ
  rw [← spansZ_len z]
  induction spansZ z with
  | nil => simp
  | cons s r ih =>
    obtain ⟨a, e, b⟩ := s
    rw [List.flatMap_cons, List.length_append]
    have h2 : (a :: e.toList).length ≤ 2 := by cases e <;> simp
    have h3 : (((a, e, b) : Int × Option Int × Int).1 :: ((a, e, b) : Int × Option Int × Int).2.1.toList).length ≤ 2 := h2
    have h4 : ((a, e, b) :: r).length = r.length + 1 := rfl
    omega
theorem marksZ_len (z : List (Int × Int)) : (marksZ z).length ≤ 2 * z.length := Nat.le_trans (ssort_len _) (rawZ_len z)
theorem s19 {d : Nat} (h : 1 < d) (z : List (Int × Int)) (hz : z.length ≤ 6) : TT G d 19 [dZ z] = some (.list ((marksZ z).map .int)) := by
  obtain ⟨d, rfl⟩ : ∃ e, d = e + 1 := ⟨d - 1, by omega⟩
  rw [tt d 19 _ r19 rfl]
  rw [run_eq [some (dZ z), none, none, none, none, none] rfl]
  rw [show r19.body = b19 from rfl]
  have hl := rawZ_len z
  have e1 : (rawZ z).map PyData.int = (spansZ z).flatMap fun s => (s.1 :: s.2.1.toList).map PyData.int := by unfold rawZ; rw [List.map_flatMap]
  simp! only [b19, s3 (d := d) (by omega) z (by omega)]
  simp only [ev]
  rw [evi_ofl, ev_var]
  simp! only []
  rw [compLL_map dS (fun s => (s.1 :: s.2.1.toList).map .int) _ fun s _ => ?_]
  · rw [← e1]
    simp! only []
    rw [if_pos (by rw [PySem.sizeLine]; omega)]
    simp! only []
    rw [sset_ints (by omega)]
    simp! only [marksZ]
  · obtain ⟨a, e, b⟩ := s
    cases e with
    | none => simp! only [compL, Option.toList, List.getElem?_cons_succ, List.getElem?_cons_zero, Option.join_some]
    | some e => simp! only [compL, Option.toList, List.getElem?_cons_succ, List.getElem?_cons_zero, Option.join_some]
def jstep (acc : List (Int × Int)) (p : Int × Int) : List (Int × Int) := match acc.getLast? with
  | some l => if l.2 = p.1 then acc.dropLast ++ [(l.1, p.2)] else acc ++ [p]
  | none => acc ++ [p]
theorem jstep_nil (p : Int × Int) : jstep [] p = [p] := rfl
theorem jstep_app (xs : List (Int × Int)) (l p : Int × Int) : jstep (xs ++ [l]) p = if l.2 = p.1 then xs ++ [(l.1, p.2)] else xs ++ [l] ++ [p] := by simp [jstep]
theorem jstep_len (acc : List (Int × Int)) (p : Int × Int) : (jstep acc p).length ≤ acc.length + 1 := by
  rcases nil_or_app acc with rfl | ⟨xs, l, rfl⟩
  · simp [jstep_nil]
  · rw [jstep_app]; split <;> simp
def joinZ (ps : List (Int × Int)) : List (Int × Int) := ps.foldl jstep []
theorem s4 {d : Nat} (h : 0 < d) (ps : List (Int × Int)) (hp : ps.length ≤ 1000) : TT G d 4 [dZ ps] = some (dZ (joinZ ps)) := by
  obtain ⟨d, rfl⟩ : ∃ e, d = e + 1 := ⟨d - 1, by omega⟩
  rw [tt d 4 _ r4 rfl]
  obtain ⟨ρ', e, a, b, rfl⟩ := forL_foldB (f := stF (TT G d) fuel (.t (.cons (.v 2) (.cons (.v 3) .nil))) (.cons (.ife (.andB (.cmp (.p1 .len (.var 1)) (.cons .gt (.cst (.int 0)) .nil)) (.one (.cmp (.ix (.ix (.var 1) (.neg (.cst (.int 1)))) (.cst (.int 1))) (.cons .eq (.var 2) .nil)))) (.cons (.put 1 (.neg (.cst (.int 1))) (.tup (.cons (.ix (.ix (.var 1) (.neg (.cst (.int 1)))) (.cst (.int 0))) (.cons (.var 3) .nil)))) .nil) (.cons (.app 1 (.tup (.cons (.var 2) (.cons (.var 3) .nil)))) .nil)) .nil))
    dP (fun acc ρ => ∃ a b, ρ = [some (dZ ps), some (.list (acc.map dP)), a, b]) List.length jstep jstep_len ps [] [some (dZ ps), some (.list []), none, none] ⟨_, _, rfl⟩ (by
      rintro acc ⟨x, y⟩ ρ hm hs ⟨a, b, rfl⟩
      have hz : acc.length < sizeLine := by rw [PySem.sizeLine]; simp at hs; omega
      refine ⟨_, ?_, some (.int x), some (.int y), rfl⟩
      rcases nil_or_app acc with rfl | ⟨xs, l, rfl⟩
      · have c : decide ((0 : Int) < 0) = false := rfl
        simp! only [stF_def, jstep_nil, c, line0]
      · obtain ⟨l1, l2⟩ := l
        have c : decide ((0 : Int) < (xs.length : Int) + 1) = true := decide_eq_true (by omega)
        rw [jstep_app]
        by_cases c2 : l2 = x
        · rw [if_pos c2]
          simp! only [stF_def, c, atI_last, decide_eq_true c2, putD_last]
        · rw [if_neg c2]
          have hz' : xs.length + (0 + 1) < sizeLine := by simpa using hz
          simp! only [stF_def, c, atI_last, decide_eq_false c2]
          rw [appD_l (by simpa using hz)]
          simp! only [])
  rw [run_eq [some (dZ ps), none, none, none] rfl]
  rw [show r4.body = b4 from rfl]
  simp! only [b4, e, joinZ]
def pairsM (ms : List Int) : List (Int × Int) := ms.zip (ms.drop 1)
def gapsZ (z : List (Int × Int)) : List (Int × Int) := joinZ ((pairsM (marksZ z)).filter fun p => decide ((comesZ z p.1).length = 0))
def doublesZ (z : List (Int × Int)) : List (Int × Int) := joinZ ((pairsM (marksZ z)).filter fun p => decide (1 < (comesZ z p.1).length))
theorem cutD_f1 {xs : List D} : cutD xs (some 1) none = xs.drop 1 := cutD_from (n := 1)
theorem s31 {d : Nat} (h : 2 < d) {z : List (Int × Int)} (hz : OkZ z) : TT G d 31 [dZ z] = some (dZ (gapsZ z)) := by
  obtain ⟨d, rfl⟩ : ∃ e, d = e + 1 := ⟨d - 1, by omega⟩
  rw [tt d 31 _ r31 rfl]
  rw [run_eq [some (dZ z), none, none, none] rfl]
  rw [show r31.body = b31 from rfl]
  have l6 := hz.len6
  have hml := marksZ_len z
  generalize hm : marksZ z = ms at hml
  have e1 : zipD (ms.map PyData.int) ((ms.drop 1).map PyData.int) = (pairsM ms).map dP := zipD_map ms (ms.drop 1)
  have e2 : compL (lcF (TT G d) b31e0 (.t (.cons (.v 2) (.cons (.v 3) .nil))) b31t0 [2, 3] [some (dZ z), some (.list (ms.map .int)), none, none]) ((pairsM ms).map dP) = some ((((pairsM ms).filter fun p => decide ((comesZ z p.1).length = 0)).map id).map dP) :=
    lc_filter dP dP _ id _ fun p _ => by
      have hc := s17 (d := d) (by omega) (z := z) p.1 (by omega)
      by_cases c : (comesZ z p.1).length = 0
      · simp! only [lcF, b31e0, b31t0, hc, c, id]
      · have c' : decide (((comesZ z p.1).length : Int) = 0) = false := decide_eq_false (by omega)
        simp! only [lcF, b31e0, b31t0, hc, c', decide_eq_false c]
  have hpl : (((pairsM ms).filter fun p => decide ((comesZ z p.1).length = 0)).map id).length ≤ 1000 := by
    rw [List.length_map]
    have := List.length_filter_le (fun p => decide ((comesZ z p.1).length = 0)) (pairsM ms)
    have : (pairsM ms).length ≤ ms.length := by unfold pairsM; simp
    omega
  have hj := s4 (d := d) (by omega) _ hpl
  simp! only [b31, s2 (d := d) (by omega) hz, s19 (d := d) (by omega) z l6, hm, cutD_f1]
  rw [← List.map_drop, e1, e2]
  simp! only [hj]
  rw [List.map_id]
  simp only [gapsZ, hm]
theorem s32 {d : Nat} (h : 2 < d) {z : List (Int × Int)} (hz : OkZ z) : TT G d 32 [dZ z] = some (dZ (doublesZ z)) := by
  obtain ⟨d, rfl⟩ : ∃ e, d = e + 1 := ⟨d - 1, by omega⟩
  rw [tt d 32 _ r32 rfl]
  rw [run_eq [some (dZ z), none, none, none] rfl]
  rw [show r32.body = b32 from rfl]
  have l6 := hz.len6
  have hml := marksZ_len z
  generalize hm : marksZ z = ms at hml
  have e1 : zipD (ms.map PyData.int) ((ms.drop 1).map PyData.int) = (pairsM ms).map dP := zipD_map ms (ms.drop 1)
  have e2 : compL (lcF (TT G d) b32e0 (.t (.cons (.v 2) (.cons (.v 3) .nil))) b32t0 [2, 3] [some (dZ z), some (.list (ms.map .int)), none, none]) ((pairsM ms).map dP) = some ((((pairsM ms).filter fun p => decide (1 < (comesZ z p.1).length)).map id).map dP) :=
    lc_filter dP dP _ id _ fun p _ => by
      have hc := s17 (d := d) (by omega) (z := z) p.1 (by omega)
      by_cases c : 1 < (comesZ z p.1).length
      · have c' : decide (1 < ((comesZ z p.1).length : Int)) = true := decide_eq_true (by omega)
        simp! only [lcF, b32e0, b32t0, hc, c', decide_eq_true c, id]
      · have c' : decide (1 < ((comesZ z p.1).length : Int)) = false := decide_eq_false (by omega)
        simp! only [lcF, b32e0, b32t0, hc, c', decide_eq_false c]
  have hpl : (((pairsM ms).filter fun p => decide (1 < (comesZ z p.1).length)).map id).length ≤ 1000 := by
    rw [List.length_map]
    have := List.length_filter_le (fun p => decide (1 < (comesZ z p.1).length)) (pairsM ms)
    have : (pairsM ms).length ≤ ms.length := by unfold pairsM; simp
    omega
  have hj := s4 (d := d) (by omega) _ hpl
  simp! only [b32, s2 (d := d) (by omega) hz, s19 (d := d) (by omega) z l6, hm, cutD_f1]
  rw [← List.map_drop, e1, e2]
  simp! only [hj]
  rw [List.map_id]
  simp only [doublesZ, hm]
/-! ### local_at -/
def localZ (z : List (Int × Int)) (t : Int) : Int := z.foldl (fun f p => if p.1 ≤ t then t + p.2 else f) 0
theorem s9 {d : Nat} (h : 0 < d) (z : List (Int × Int)) (t : Int) : TT G d 9 [dZ z, .int t] = some (.int (localZ z t)) := by
  obtain ⟨d, rfl⟩ : ∃ e, d = e + 1 := ⟨d - 1, by omega⟩
  rw [tt d 9 _ r9 rfl]
  obtain ⟨ρ', e, a, b, rfl⟩ := forL_fold (f := stF (TT G d) fuel (.t (.cons (.v 3) (.cons (.v 4) .nil))) (.cons (.ife (.cmp (.var 3) (.cons .le (.var 1) .nil)) (.cons (.asg (.v 2) (.bin .add (.var 1) (.var 4))) .nil) .nil) .nil))
    dP (fun (f : Int) ρ => ∃ a b, ρ = [some (dZ z), some (.int t), some (.int f), a, b]) (fun f p => if p.1 ≤ t then t + p.2 else f) z 0 [some (dZ z), some (.int t), some (.int 0), none, none] ⟨_, _, rfl⟩ (by
      rintro f ⟨x, y⟩ ρ hm ⟨a, b, rfl⟩
      refine ⟨_, ?_, some (.int x), some (.int y), rfl⟩
      by_cases c : x ≤ t <;> simp! only [stF_def, c])
  rw [run_eq [some (dZ z), some (.int t), none, none, none] rfl]
  rw [show r9.body = b9 from rfl]
  simp! only [b9, e, localZ]
theorem local_last (t : Int) : ∀ (z : List (Int × Int)) (f : Int), (z.filter fun p => decide (p.1 ≤ t)) ≠ [] → ∃ xs l, (z.filter fun p => decide (p.1 ≤ t)) = xs ++ [l] ∧ z.foldl (fun f p => if p.1 ≤ t then t + p.2 else f) f = t + l.2 := by
  intro z
  induction z with
  | nil => intro f h; simp at h
  | cons p r ih =>
    intro f h
    rw [List.foldl_cons]
    by_cases hr : (r.filter fun p => decide (p.1 ≤ t)) = []
    · have hp : p.1 ≤ t := by
        apply Decidable.byContradiction; intro q
        apply h
        rw [List.filter_cons, if_neg (by simpa using q), hr]
      refine ⟨[], p, by rw [List.filter_cons, if_pos (by simpa using hp), hr]; rfl, ?_⟩
      have key : ∀ (l : List (Int × Int)) (f : Int), (l.filter fun p => decide (p.1 ≤ t)) = [] → l.foldl (fun f p => if p.1 ≤ t then t + p.2 else f) f = f := by
        intro l
        induction l with
        | nil => intro f _; rfl
        | cons q l ih2 =>
          intro f hq
          rw [List.filter_cons] at hq
          split at hq
          · cases hq
          · rename_i c
            rw [List.foldl_cons, if_neg (by simpa using c)]
            exact ih2 f hq
      rw [key r _ hr, if_pos hp]
    · obtain ⟨xs, l, e1, e2⟩ := ih (if p.1 ≤ t then t + p.2 else f) hr
      rw [List.filter_cons, e1, e2]
      split
      · exact ⟨p :: xs, l, rfl, rfl⟩
      · exact ⟨xs, l, rfl, rfl⟩
theorem s15 {d : Nat} (h : 1 < d) {z : List (Int × Int)} (hz : OkZ z) {t : Int} (ht : 0 ≤ t) : TT G d 15 [dZ z, .int t] = some (.int (localZ z t)) := by
  obtain ⟨d, rfl⟩ : ∃ e, d = e + 1 := ⟨d - 1, by omega⟩
  rw [tt d 15 _ r15 rfl]
  rw [run_eq [some (dZ z), some (.int t), none, none] rfl]
  rw [show r15.body = b15 from rfl]
  have e : compL (lcF (TT G d) (.var 3) (.t (.cons (.v 2) (.cons (.v 3) .nil))) (.cons (.cmp (.var 2) (.cons .le (.var 1) .nil)) .nil) [2, 3] [some (dZ z), some (.int t), none, none]) (z.map dP) = some (((z.filter fun p => decide (p.1 ≤ t)).map (·.2)).map .int) :=
    lc_filter dP .int _ _ _ fun p _ => by by_cases c : p.1 ≤ t <;> simp! only [lcF, c]
  have hne : (z.filter fun p => decide (p.1 ≤ t)) ≠ [] := by
    have l1 := hz.len1
    have h0 := z_at (z := z) (k := 0) (by omega)
    have := hz.fst _ h0
    simp only at this
    intro q
    have hm : (tz z 0, oz z 0) ∈ z.filter fun p => decide (p.1 ≤ t) := List.mem_filter.mpr ⟨List.mem_of_getElem? h0, decide_eq_true (by simp only; omega)⟩
    rw [q] at hm
    cases hm
  obtain ⟨xs, l, e1, e2⟩ := local_last t z 0 hne
  have c : ¬ t < 0 := by omega
  simp! only [b15, s2 (d := d) (by omega) hz, decide_eq_false c, e, e1, atI_last, localZ, e2]
end K70
set_option maxRecDepth 100000
set_option maxHeartbeats 1000000
namespace K70
open PySem DI
local macro_rules
  | `(tactic| simp! only [$ls,*]) => `(tactic| simp only [DI.a1_s, DI.a2_s, DI.bO_s, DI.cm_s, DI.andO_s, DI.andO_f, DI.andO_t, DI.orO_s, DI.orO_t, DI.orO_f, DI.notO_s, DI.iteO_t, DI.iteO_f, DI.iteO_p, DI.ch3_s, DI.ch3c_s, DI.orVO_s, DI.orVb_t, DI.orVb_f, DI.truthD_n, DI.truthD_l, DI.truthD_t, DI.tupO_s, DI.lstO_s, DI.lstSO_s, DI.cnsO_s, DI.appO_l, DI.appO_t, DI.slO_s, DI.clO_s, DI.scO_b, DI.scO_i, DI.scO_n, DI.scO_x, DI.dspO_s, DI.lcC_t, DI.lcC_f, DI.lcC_p, DI.lcK_s, DI.tsO_t, DI.tsO_f, DI.tsO_1, DI.r1O_s, DI.r2O_s, DI.r3O_s, DI.ofO_l, DI.ofO_t, DI.enO_s, DI.enO_t, DI.zpO_s, DI.slot_0, DI.slot_s, DI.ev_var, DI.ev_cst, DI.ev_glb, DI.ev_bin, DI.ev_neg, DI.ev_cmp1, DI.ev_cmp2, DI.ev_and, DI.ev_or, DI.ev_one, DI.ev_not, DI.ev_orV, DI.ev_ite, DI.ev_tup, DI.ev_lst, DI.ev_lstS, DI.ev_ix, DI.ev_sl, DI.partE_no, DI.partE_var, DI.partE_cst, DI.partE_neg, DI.partE_bin, DI.ev_rev, DI.ev_p1, DI.ev_p2, DI.ev_dsp, DI.ev_dix, DI.ev_call, DI.ev_cals, DI.ev_lc, DI.lcE_s, DI.evs_nil, DI.evs_cons, DI.evS_nil, DI.evS_star, DI.evS_tup, DI.evS_cst, DI.evS_var, DI.evS_bin, DI.evS_ix, DI.evt_nil, DI.evt_cons, DI.evi_ofl, DI.evi_rng1, DI.evi_rng2, DI.evi_rng3, DI.evi_enum, DI.evi_zip, DI.kn_nx, DI.kn_rt, DI.kn_bk, DI.kn_ct, DI.nxO_s, DI.rtO_s, DI.asgO_s, DI.parO_s, DI.setAll_nil, DI.stO_s, DI.a3_s, DI.ifO_t, DI.ifO_f, DI.ifO_p, DI.exO_s, DI.forK_s, DI.putE_0, DI.putE_s, DI.cE_s, DI.bindP_v, DI.ownO_l, DI.sK_s, DI.setAll_cons, DI.bindP_t, DI.bindP_tl, DI.bindPs_nil, DI.bK_s, DI.bindPs_cons, DI.wipeD_nil, DI.wipeD_cons, DI.exS_asg, DI.exS_own, DI.exS_par, DI.exS_app, DI.exS_put, DI.exS_ret, DI.exS_retN, DI.exS_pass, DI.exS_brk, DI.exS_cnt, DI.exS_rse, DI.exS_exp, DI.exS_ife, DI.exSs_nil, DI.exSs_cons, DI.exS_for, DI.binD_add, DI.binD_sub, DI.binD_mul, DI.binD_fdiv, DI.binD_mod, DI.binD_pow, DI.addD_i, DI.addD_l, DI.subD_i, DI.fdivD_i, DI.modD_i, DI.negD_i, DI.cmpD_eq, DI.cmpD_ne, DI.cmpD_lt, DI.cmpD_le, DI.cmpD_gt, DI.cmpD_ge, DI.cmpD_is, DI.cmpD_isn, DI.cmpD_inn, DI.cmpD_nin, DI.isD_nn, DI.isD_in, DI.isD_ln, DI.isD_tn, DI.isD_bb, DI.eqD_i, DI.eqD_s, DI.p1D_len_l, DI.p1D_len_t, DI.p1D_abs, DI.p1D_int, DI.p1D_intb, DI.p2D_min, DI.p2D_max, DI.ixD_l, DI.ixD_t, DI.appD_l, DI.atI_0, DI.atI_1, DI.atI_2, DI.atI_3, DI.outD_rt, DI.outD_nx, DI.rK_nx, DI.rK_rt, List.set_cons_zero, List.set_cons_succ, decide_true, decide_false, Bool.not_true, Bool.not_false, Bool.and_true, Bool.true_and, Bool.and_false, Bool.false_and, Bool.or_true, Bool.true_or, Bool.or_false, Bool.false_or, if_true, if_false, Bool.false_eq_true, Option.map_some, Option.bind_some, List.map_cons, List.map_nil, List.map_append, List.cons_append, List.nil_append, not_true_eq_false, not_false_eq_true, and_true, true_and, Bool.not_not, eq_self, List.length_append, List.length_map, List.length_cons, List.length_nil, Nat.zero_add, Int.natCast_zero, Int.natCast_add, Int.cast_ofNat_Int, Int.natCast_one, Nat.succ_eq_add_one, $ls,*])
local macro_rules
  | `(tactic| simp! only [$ls,*] $l:location) => `(tactic| simp only [DI.a1_s, DI.a2_s, DI.bO_s, DI.cm_s, DI.andO_s, DI.andO_f, DI.andO_t, DI.orO_s, DI.orO_t, DI.orO_f, DI.notO_s, DI.iteO_t, DI.iteO_f, DI.iteO_p, DI.ch3_s, DI.ch3c_s, DI.orVO_s, DI.orVb_t, DI.orVb_f, DI.truthD_n, DI.truthD_l, DI.truthD_t, DI.tupO_s, DI.lstO_s, DI.lstSO_s, DI.cnsO_s, DI.appO_l, DI.appO_t, DI.slO_s, DI.clO_s, DI.scO_b, DI.scO_i, DI.scO_n, DI.scO_x, DI.dspO_s, DI.lcC_t, DI.lcC_f, DI.lcC_p, DI.lcK_s, DI.tsO_t, DI.tsO_f, DI.tsO_1, DI.r1O_s, DI.r2O_s, DI.r3O_s, DI.ofO_l, DI.ofO_t, DI.enO_s, DI.enO_t, DI.zpO_s, DI.slot_0, DI.slot_s, DI.ev_var, DI.ev_cst, DI.ev_glb, DI.ev_bin, DI.ev_neg, DI.ev_cmp1, DI.ev_cmp2, DI.ev_and, DI.ev_or, DI.ev_one, DI.ev_not, DI.ev_orV, DI.ev_ite, DI.ev_tup, DI.ev_lst, DI.ev_lstS, DI.ev_ix, DI.ev_sl, DI.partE_no, DI.partE_var, DI.partE_cst, DI.partE_neg, DI.partE_bin, DI.ev_rev, DI.ev_p1, DI.ev_p2, DI.ev_dsp, DI.ev_dix, DI.ev_call, DI.ev_cals, DI.ev_lc, DI.lcE_s, DI.evs_nil, DI.evs_cons, DI.evS_nil, DI.evS_star, DI.evS_tup, DI.evS_cst, DI.evS_var, DI.evS_bin, DI.evS_ix, DI.evt_nil, DI.evt_cons, DI.evi_ofl, DI.evi_rng1, DI.evi_rng2, DI.evi_rng3, DI.evi_enum, DI.evi_zip, DI.kn_nx, DI.kn_rt, DI.kn_bk, DI.kn_ct, DI.nxO_s, DI.rtO_s, DI.asgO_s, DI.parO_s, DI.setAll_nil, DI.stO_s, DI.a3_s, DI.ifO_t, DI.ifO_f, DI.ifO_p, DI.exO_s, DI.forK_s, DI.putE_0, DI.putE_s, DI.cE_s, DI.bindP_v, DI.ownO_l, DI.sK_s, DI.setAll_cons, DI.bindP_t, DI.bindP_tl, DI.bindPs_nil, DI.bK_s, DI.bindPs_cons, DI.wipeD_nil, DI.wipeD_cons, DI.exS_asg, DI.exS_own, DI.exS_par, DI.exS_app, DI.exS_put, DI.exS_ret, DI.exS_retN, DI.exS_pass, DI.exS_brk, DI.exS_cnt, DI.exS_rse, DI.exS_exp, DI.exS_ife, DI.exSs_nil, DI.exSs_cons, DI.exS_for, DI.binD_add, DI.binD_sub, DI.binD_mul, DI.binD_fdiv, DI.binD_mod, DI.binD_pow, DI.addD_i, DI.addD_l, DI.subD_i, DI.fdivD_i, DI.modD_i, DI.negD_i, DI.cmpD_eq, DI.cmpD_ne, DI.cmpD_lt, DI.cmpD_le, DI.cmpD_gt, DI.cmpD_ge, DI.cmpD_is, DI.cmpD_isn, DI.cmpD_inn, DI.cmpD_nin, DI.isD_nn, DI.isD_in, DI.isD_ln, DI.isD_tn, DI.isD_bb, DI.eqD_i, DI.eqD_s, DI.p1D_len_l, DI.p1D_len_t, DI.p1D_abs, DI.p1D_int, DI.p1D_intb, DI.p2D_min, DI.p2D_max, DI.ixD_l, DI.ixD_t, DI.appD_l, DI.atI_0, DI.atI_1, DI.atI_2, DI.atI_3, DI.outD_rt, DI.outD_nx, DI.rK_nx, DI.rK_rt, List.set_cons_zero, List.set_cons_succ, decide_true, decide_false, Bool.not_true, Bool.not_false, Bool.and_true, Bool.true_and, Bool.and_false, Bool.false_and, Bool.or_true, Bool.true_or, Bool.or_false, Bool.false_or, if_true, if_false, Bool.false_eq_true, Option.map_some, Option.bind_some, List.map_cons, List.map_nil, List.map_append, List.cons_append, List.nil_append, not_true_eq_false, not_false_eq_true, and_true, true_and, Bool.not_not, eq_self, List.length_append, List.length_map, List.length_cons, List.length_nil, Nat.zero_add, Int.natCast_zero, Int.natCast_add, Int.cast_ofNat_Int, Int.natCast_one, Nat.succ_eq_add_one, $ls,*] $l)
theorem stF_of {T : Nat → List D → Option D} {n : Nat} {p : Pat} {body : CSs} {d : D} {ρ ρ1 : DI.Env} {r : Option Out} (h : bindP p d ρ = some ρ1) (h2 : exSs T n body ρ1 = r) : stF T n p body d ρ = r := by
  unfold stF; rw [h]; exact h2
theorem s7 {d : Nat} (h : 0 < d) {ns : List Int} (hl : ns.length ≤ 63) : ∃ ds : List Int, TT G d 7 [.list (ns.map .int)] = some (.list (ds.map .int)) ∧ ds.length ≤ 10000 ∧ ∀ x ∈ ds, 0 ≤ x ∧ x < 65536 := by
  obtain ⟨d, rfl⟩ : ∃ e, d = e + 1 := ⟨d - 1, by omega⟩
  generalize hT : TT G d = T
  have hr := rng0 (n := ns.length) (by omega)
  obtain ⟨ρ', e, ds, k, rest, turn, st, rfl, q⟩ := forL_inv (f := stF T fuel (.v 2) dBody)
    (fun i ρ => ∃ ds k rest turn st, ρ = [some (.list (ns.map .int)), some (.list (ds.map .int)), k, rest, turn, st] ∧ okDs (60 * i) ds) ((List.range ns.length).map fun (i : Nat) => .int i) 0 [some (.list (ns.map .int)), some (.list []), none, none, none, none] ⟨[], none, none, none, none, rfl, Nat.zero_le _, by simp⟩ (by
      rintro j x ρ hj ⟨ds, k, rest, turn, st, rfl, h1⟩
      rw [List.getElem?_map] at hj
      obtain ⟨i, hi, rfl⟩ := Option.map_eq_some_iff.mp hj
      obtain ⟨hjn, rfl⟩ := List.getElem?_eq_some_iff.mp hi
      simp only [List.getElem_range, List.length_range] at hjn ⊢
      have hl2 : ds.length ≤ 60 * (0 + j) := h1.1
      have hlen : ds.length < sizeLine := by rw [PySem.sizeLine]; omega
      have hlen1 : ds.length + 1 < sizeLine := by rw [PySem.sizeLine]; omega
      have ha := atI_map (draws := ns) (k := (j : Int)) (by omega) (by omega)
      generalize ns.getD (j : Int).toNat 0 = z at ha
      have hw : 0 ≤ (if z < 0 then -z else z) := by split <;> omega
      have hb : bindP (.v 2) (.int j) [some (.list (ns.map .int)), some (.list (ds.map .int)), k, rest, turn, st] = some [some (.list (ns.map .int)), some (.list (ds.map .int)), some (.int j), rest, turn, st] := by simp! only []
      by_cases hbig : 1000000000000000000 ≤ (if z < 0 then -z else z)
      · obtain ⟨ds', rest', turn', q1, q2⟩ := dIn_ok (T := T) (n := fuel) ns ds (some (.int j)) _ turn st hw (60 * (0 + j)) (by omega) h1
        have q3 := stF_of hb (step_big _ ds ds' j z _ rest' rest turn st turn' ha rfl hbig q1)
        exact ⟨_, q3, ds', _, _, _, _, rfl, by rw [show 60 * (0 + j + 1) = 60 * (0 + j) + 60 by omega]; exact q2⟩
      · obtain ⟨x, y, t, q1, x0, x1, y0, y1⟩ := step_small (T := T) (n := fuel) (ns.map .int) ds j z _ rest turn st ha rfl hbig hlen hlen1
        have q3 := stF_of hb q1
        exact ⟨_, q3, _, _, _, _, _, rfl, ⟨Nat.le_trans ((h1.push x0 x1).push y0 y1).1 (by omega), ((h1.push x0 x1).push y0 y1).2⟩⟩)
  simp only [Nat.zero_add, List.length_map, List.length_range] at e q
  refine ⟨ds, ?_, by have := q.1; omega, q.2⟩
  rw [tt d 7 _ r7 rfl, run_eq [some (.list (ns.map .int)), none, none, none, none, none] rfl, show r7.body = bDraws from rfl, hT, bDraws_eq]
  have hmin : (if (ns.length : Int) < 63 then (ns.length : Int) else 63) = ns.length := by split <;> omega
  simp! only [hmin, hr, e]
theorem s8 {d : Nat} (h : 0 < d) (ds : List Int) {k many : Int} (hk : 0 ≤ k) (hm : 0 < many) : TT G d 8 [.list (ds.map .int), .int k, .int many] = some (.int (mixF ds k many)) := by
  obtain ⟨d, rfl⟩ : ∃ e, d = e + 1 := ⟨d - 1, by omega⟩
  rw [tt d 8 _ r8 rfl]
  exact r_mix ds k hk hm
end K70
set_option maxRecDepth 100000
set_option maxHeartbeats 1000000
namespace K70
open PySem DI
local macro_rules
  | `(tactic| simp! only [$ls,*]) => `(tactic| simp only [DI.a1_s, DI.a2_s, DI.bO_s, DI.cm_s, DI.andO_s, DI.andO_f, DI.andO_t, DI.orO_s, DI.orO_t, DI.orO_f, DI.notO_s, DI.iteO_t, DI.iteO_f, DI.iteO_p, DI.ch3_s, DI.ch3c_s, DI.orVO_s, DI.orVb_t, DI.orVb_f, DI.truthD_n, DI.truthD_l, DI.truthD_t, DI.tupO_s, DI.lstO_s, DI.lstSO_s, DI.cnsO_s, DI.appO_l, DI.appO_t, DI.slO_s, DI.clO_s, DI.scO_b, DI.scO_i, DI.scO_n, DI.scO_x, DI.dspO_s, DI.lcC_t, DI.lcC_f, DI.lcC_p, DI.lcK_s, DI.tsO_t, DI.tsO_f, DI.tsO_1, DI.r1O_s, DI.r2O_s, DI.r3O_s, DI.ofO_l, DI.ofO_t, DI.enO_s, DI.enO_t, DI.zpO_s, DI.slot_0, DI.slot_s, DI.ev_var, DI.ev_cst, DI.ev_glb, DI.ev_bin, DI.ev_neg, DI.ev_cmp1, DI.ev_cmp2, DI.ev_and, DI.ev_or, DI.ev_one, DI.ev_not, DI.ev_orV, DI.ev_ite, DI.ev_tup, DI.ev_lst, DI.ev_lstS, DI.ev_ix, DI.ev_sl, DI.partE_no, DI.partE_var, DI.partE_cst, DI.partE_neg, DI.partE_bin, DI.ev_rev, DI.ev_p1, DI.ev_p2, DI.ev_dsp, DI.ev_dix, DI.ev_call, DI.ev_cals, DI.ev_lc, DI.lcE_s, DI.evs_nil, DI.evs_cons, DI.evS_nil, DI.evS_star, DI.evS_tup, DI.evS_cst, DI.evS_var, DI.evS_bin, DI.evS_ix, DI.evt_nil, DI.evt_cons, DI.evi_ofl, DI.evi_rng1, DI.evi_rng2, DI.evi_rng3, DI.evi_enum, DI.evi_zip, DI.kn_nx, DI.kn_rt, DI.kn_bk, DI.kn_ct, DI.nxO_s, DI.rtO_s, DI.asgO_s, DI.parO_s, DI.setAll_nil, DI.stO_s, DI.a3_s, DI.ifO_t, DI.ifO_f, DI.ifO_p, DI.exO_s, DI.forK_s, DI.putE_0, DI.putE_s, DI.cE_s, DI.bindP_v, DI.ownO_l, DI.sK_s, DI.setAll_cons, DI.bindP_t, DI.bindP_tl, DI.bindPs_nil, DI.bK_s, DI.bindPs_cons, DI.wipeD_nil, DI.wipeD_cons, DI.exS_asg, DI.exS_own, DI.exS_par, DI.exS_app, DI.exS_put, DI.exS_ret, DI.exS_retN, DI.exS_pass, DI.exS_brk, DI.exS_cnt, DI.exS_rse, DI.exS_exp, DI.exS_ife, DI.exSs_nil, DI.exSs_cons, DI.exS_for, DI.binD_add, DI.binD_sub, DI.binD_mul, DI.binD_fdiv, DI.binD_mod, DI.binD_pow, DI.addD_i, DI.addD_l, DI.subD_i, DI.fdivD_i, DI.modD_i, DI.negD_i, DI.cmpD_eq, DI.cmpD_ne, DI.cmpD_lt, DI.cmpD_le, DI.cmpD_gt, DI.cmpD_ge, DI.cmpD_is, DI.cmpD_isn, DI.cmpD_inn, DI.cmpD_nin, DI.isD_nn, DI.isD_in, DI.isD_ln, DI.isD_tn, DI.isD_bb, DI.eqD_i, DI.eqD_s, DI.p1D_len_l, DI.p1D_len_t, DI.p1D_abs, DI.p1D_int, DI.p1D_intb, DI.p2D_min, DI.p2D_max, DI.ixD_l, DI.ixD_t, DI.appD_l, DI.atI_0, DI.atI_1, DI.atI_2, DI.atI_3, DI.outD_rt, DI.outD_nx, DI.rK_nx, DI.rK_rt, List.set_cons_zero, List.set_cons_succ, decide_true, decide_false, Bool.not_true, Bool.not_false, Bool.and_true, Bool.true_and, Bool.and_false, Bool.false_and, Bool.or_true, Bool.true_or, Bool.or_false, Bool.false_or, if_true, if_false, Bool.false_eq_true, Option.map_some, Option.bind_some, List.map_cons, List.map_nil, List.map_append, List.cons_append, List.nil_append, not_true_eq_false, not_false_eq_true, and_true, true_and, Bool.not_not, eq_self, List.length_append, List.length_map, List.length_cons, List.length_nil, Nat.zero_add, Int.natCast_zero, Int.natCast_add, Int.cast_ofNat_Int, Int.natCast_one, Nat.succ_eq_add_one, $ls,*])
local macro_rules
  | `(tactic| simp! only [$ls,*] $l:location) => `(tactic| simp only [DI.a1_s, DI.a2_s, DI.bO_s, DI.cm_s, DI.andO_s, DI.andO_f, DI.andO_t, DI.orO_s, DI.orO_t, DI.orO_f, DI.notO_s, DI.iteO_t, DI.iteO_f, DI.iteO_p, DI.ch3_s, DI.ch3c_s, DI.orVO_s, DI.orVb_t, DI.orVb_f, DI.truthD_n, DI.truthD_l, DI.truthD_t, DI.tupO_s, DI.lstO_s, DI.lstSO_s, DI.cnsO_s, DI.appO_l, DI.appO_t, DI.slO_s, DI.clO_s, DI.scO_b, DI.scO_i, DI.scO_n, DI.scO_x, DI.dspO_s, DI.lcC_t, DI.lcC_f, DI.lcC_p, DI.lcK_s, DI.tsO_t, DI.tsO_f, DI.tsO_1, DI.r1O_s, DI.r2O_s, DI.r3O_s, DI.ofO_l, DI.ofO_t, DI.enO_s, DI.enO_t, DI.zpO_s, DI.slot_0, DI.slot_s, DI.ev_var, DI.ev_cst, DI.ev_glb, DI.ev_bin, DI.ev_neg, DI.ev_cmp1, DI.ev_cmp2, DI.ev_and, DI.ev_or, DI.ev_one, DI.ev_not, DI.ev_orV, DI.ev_ite, DI.ev_tup, DI.ev_lst, DI.ev_lstS, DI.ev_ix, DI.ev_sl, DI.partE_no, DI.partE_var, DI.partE_cst, DI.partE_neg, DI.partE_bin, DI.ev_rev, DI.ev_p1, DI.ev_p2, DI.ev_dsp, DI.ev_dix, DI.ev_call, DI.ev_cals, DI.ev_lc, DI.lcE_s, DI.evs_nil, DI.evs_cons, DI.evS_nil, DI.evS_star, DI.evS_tup, DI.evS_cst, DI.evS_var, DI.evS_bin, DI.evS_ix, DI.evt_nil, DI.evt_cons, DI.evi_ofl, DI.evi_rng1, DI.evi_rng2, DI.evi_rng3, DI.evi_enum, DI.evi_zip, DI.kn_nx, DI.kn_rt, DI.kn_bk, DI.kn_ct, DI.nxO_s, DI.rtO_s, DI.asgO_s, DI.parO_s, DI.setAll_nil, DI.stO_s, DI.a3_s, DI.ifO_t, DI.ifO_f, DI.ifO_p, DI.exO_s, DI.forK_s, DI.putE_0, DI.putE_s, DI.cE_s, DI.bindP_v, DI.ownO_l, DI.sK_s, DI.setAll_cons, DI.bindP_t, DI.bindP_tl, DI.bindPs_nil, DI.bK_s, DI.bindPs_cons, DI.wipeD_nil, DI.wipeD_cons, DI.exS_asg, DI.exS_own, DI.exS_par, DI.exS_app, DI.exS_put, DI.exS_ret, DI.exS_retN, DI.exS_pass, DI.exS_brk, DI.exS_cnt, DI.exS_rse, DI.exS_exp, DI.exS_ife, DI.exSs_nil, DI.exSs_cons, DI.exS_for, DI.binD_add, DI.binD_sub, DI.binD_mul, DI.binD_fdiv, DI.binD_mod, DI.binD_pow, DI.addD_i, DI.addD_l, DI.subD_i, DI.fdivD_i, DI.modD_i, DI.negD_i, DI.cmpD_eq, DI.cmpD_ne, DI.cmpD_lt, DI.cmpD_le, DI.cmpD_gt, DI.cmpD_ge, DI.cmpD_is, DI.cmpD_isn, DI.cmpD_inn, DI.cmpD_nin, DI.isD_nn, DI.isD_in, DI.isD_ln, DI.isD_tn, DI.isD_bb, DI.eqD_i, DI.eqD_s, DI.p1D_len_l, DI.p1D_len_t, DI.p1D_abs, DI.p1D_int, DI.p1D_intb, DI.p2D_min, DI.p2D_max, DI.ixD_l, DI.ixD_t, DI.appD_l, DI.atI_0, DI.atI_1, DI.atI_2, DI.atI_3, DI.outD_rt, DI.outD_nx, DI.rK_nx, DI.rK_rt, List.set_cons_zero, List.set_cons_succ, decide_true, decide_false, Bool.not_true, Bool.not_false, Bool.and_true, Bool.true_and, Bool.and_false, Bool.false_and, Bool.or_true, Bool.true_or, Bool.or_false, Bool.false_or, if_true, if_false, Bool.false_eq_true, Option.map_some, Option.bind_some, List.map_cons, List.map_nil, List.map_append, List.cons_append, List.nil_append, not_true_eq_false, not_false_eq_true, and_true, true_and, Bool.not_not, eq_self, List.length_append, List.length_map, List.length_cons, List.length_nil, Nat.zero_add, Int.natCast_zero, Int.natCast_add, Int.cast_ofNat_Int, Int.natCast_one, Nat.succ_eq_add_one, $ls,*] $l)
structure PreZ (n : Nat) (z : List (Int × Int)) : Prop where
  len1 : 1 ≤ z.length
  lenn : z.length ≤ n
  bd : ∀ (k : Nat) (p : Int × Int), z[k]? = some p → 0 ≤ p.1 ∧ p.1 ≤ 1000000 ∧ -1440 ≤ p.2 ∧ p.2 ≤ 1440
  fst : ∀ p, z[0]? = some p → p.1 = 0
  inc : ∀ (k : Nat) (p q : Int × Int), z[k]? = some p → z[k + 1]? = some q → p.1 < q.1
theorem PreZ.push {n : Nat} {xs : List (Int × Int)} {l : Int × Int} {t o : Int} (h : PreZ n (xs ++ [l])) (ht : l.1 < t) (ht2 : t ≤ 1000000) (ho : -1440 ≤ o ∧ o ≤ 1440) : PreZ (n + 1) (xs ++ [l] ++ [(t, o)]) := by
  have hl : (xs ++ [l])[xs.length]? = some l := by simp
  have hn : (xs ++ [l]).length = xs.length + 1 := by simp
  have lb := h.bd _ _ hl
  have at' : ∀ {k : Nat} {p : Int × Int}, (xs ++ [l] ++ [(t, o)])[k]? = some p → (xs ++ [l])[k]? = some p ∨ (k = xs.length + 1 ∧ p = (t, o)) := fun {k p} e => by
    by_cases hk : k < (xs ++ [l]).length
    · rw [List.getElem?_append_left hk] at e; exact .inl e
    · rw [List.getElem?_append_right (by omega)] at e
      have : k - (xs ++ [l]).length = 0 := by
        have := (List.getElem?_eq_some_iff.mp e).1
        simp only [List.length_singleton] at this; omega
      rw [this] at e
      simp at e
      exact .inr ⟨by omega, e.symm⟩
  refine ⟨by simp, by have := h.lenn; simp at this ⊢; omega, fun k p e => ?_, fun p e => ?_, fun k p q e1 e2 => ?_⟩
  · rcases at' e with e | ⟨_, rfl⟩
    · exact h.bd k p e
    · exact ⟨by simp only; omega, ht2, ho.1, ho.2⟩
  · rcases at' e with e | ⟨k0, _⟩
    · exact h.fst p e
    · omega
  · rcases at' e1 with e1 | ⟨k1, rfl⟩
    · rcases at' e2 with e2 | ⟨k2, rfl⟩
      · exact h.inc k p q e1 e2
      · have : k = xs.length := by omega
        subst this
        rw [hl] at e1; cases e1
        exact ht
    · rcases at' e2 with e2 | ⟨k2, _⟩
      · have := (List.getElem?_eq_some_iff.mp e2).1; omega
      · omega
theorem PreZ.up {n m : Nat} {z : List (Int × Int)} (h : PreZ n z) (hm : n ≤ m) : PreZ m z := ⟨h.len1, Nat.le_trans h.lenn hm, h.bd, h.fst, h.inc⟩
section
variable {d : Nat}
theorem s23 (h : 1 < d) (ds : List Int) : ∃ z, TT G d 23 [.list (ds.map .int), .int 10] = some (dZ z) ∧ OkZ z := by
  obtain ⟨d, rfl⟩ : ∃ e, d = e + 1 := ⟨d - 1, by omega⟩
  have hd : 0 < d := by omega
  have h10 := s8 hd ds (k := 10) (many := 2881) (by decide) (by decide)
  have h11 := s8 hd ds (k := 11) (many := 6) (by decide) (by decide)
  have h12 := s8 hd ds (k := 12) (many := 2) (by decide) (by decide)
  have h13 := s8 hd ds (k := 13) (many := 3) (by decide) (by decide)
  have q0 := mixF_pos ds 10 (many := 2881) (by decide)
  have q1 := mixF_lt ds 10 (many := 2881) (by decide)
  obtain ⟨n, en, hn⟩ := pick2 (a := 5) (b := mixF ds 11 6) (mixF_pos ds 12 (many := 2) (by decide)) (mixF_lt ds 12 (many := 2) (by decide))
  have q2 := mixF_pos ds 11 (many := 6) (by decide)
  have q3 := mixF_lt ds 11 (many := 6) (by decide)
  obtain ⟨v, ev, hv⟩ := pick3 (a := 2000) (b := 60000) (c := 200) (mixF_pos ds 13 (many := 3) (by decide)) (mixF_lt ds 13 (many := 3) (by decide))
  have v0 : 0 < v := by omega
  have n5 : n.toNat ≤ 5 := by omega
  obtain ⟨ρ', e, xs, l, t, la, rfl, hp⟩ := forL_inv (f := stF (TT G d) fuel (.v 3) b23f0)
    (fun i ρ => ∃ xs l t la, ρ = [some (.list (ds.map .int)), some (.int 10), some (.list ((xs ++ [l]).map dP)), t, la] ∧ PreZ (i + 1) (xs ++ [l]))
    ((List.range n.toNat).map fun (k : Nat) => .int k) 0 [some (.list (ds.map .int)), some (.int 10), some (.list [.tuple [.int 0, .int (mixF ds 10 2881 - 1440)]]), none, none] ⟨[], (0, mixF ds 10 2881 - 1440), none, none, rfl, by
      refine ⟨by simp, by simp, fun k p e => ?_, fun p e => ?_, fun k p q e1 e2 => ?_⟩
      · have := (List.getElem?_eq_some_iff.mp e).1
        simp at this; subst this
        simp at e; subst e
        exact ⟨by simp, by simp, by simp only; omega, by simp only; omega⟩
      · simp at e; subst e; rfl
      · simp at e2⟩ (by
      rintro j x ρ hj ⟨xs, ⟨l1, l2⟩, t, la, rfl, hp⟩
      rw [List.getElem?_map] at hj
      obtain ⟨i, hi, rfl⟩ := Option.map_eq_some_iff.mp hj
      obtain ⟨hjn, e0⟩ := List.getElem?_eq_some_iff.mp hi
      rw [List.getElem_range] at e0
      subst e0
      rw [List.length_range] at hjn
      have m3 : mulD (.int 3) (.int (j : Int)) = some (.int (3 * (j : Int))) := mulD_l (by decide)
      have a4 : (10 : Int) + 4 + 3 * (j : Int) = 14 + 3 * (j : Int) := rfl
      have h14 := s8 hd ds (k := 14 + 3 * (j : Int)) (many := v) (by omega) v0
      have h15 := s8 hd ds (k := 15 + 3 * (j : Int)) (many := 2) (by omega) (by decide)
      have h16 := s8 hd ds (k := 16 + 3 * (j : Int)) (many := 2881) (by omega) (by decide)
      obtain ⟨w, ew, hw⟩ := pick2 (a := 1) (b := 3) (mixF_pos ds (15 + 3 * (j : Int)) (many := 2) (by decide)) (mixF_lt ds (15 + 3 * (j : Int)) (many := 2) (by decide))
      have p1 := mixF_pos ds (14 + 3 * (j : Int)) v0
      have p3 := mixF_pos ds (16 + 3 * (j : Int)) (many := 2881) (by decide)
      have p4 := mixF_lt ds (16 + 3 * (j : Int)) (many := 2881) (by decide)
      have mw : mulD (.int (mixF ds (14 + 3 * (j : Int)) v)) (.int w) = some (.int (mixF ds (14 + 3 * (j : Int)) v * w)) := mulD_r (by omega)
      have hz : xs.length + 1 < sizeLine := by
        have := hp.lenn; rw [PySem.sizeLine]; simp at this; omega
      have hl := hp.bd xs.length (l1, l2) (by simp)
      have pw : 0 ≤ mixF ds (14 + 3 * (j : Int)) v * w := by rcases hw with rfl | rfl <;> omega
      by_cases c : l1 + 1 + mixF ds (14 + 3 * (j : Int)) v * w ≤ 1000000
      · refine ⟨_, ?_, xs ++ [(l1, l2)], (l1 + 1 + mixF ds (14 + 3 * (j : Int)) v * w, mixF ds (16 + 3 * (j : Int)) 2881 - 1440), some (.int j), some (.int (l1 + 1 + mixF ds (14 + 3 * (j : Int)) v * w)), rfl, hp.push (by simp only; omega) c (by omega)⟩
        simp! only [stF_def, b23f0, c, m3, Int.reduceAdd, h13, h14, h15, h16, ev, ew, mw, hz, atI_last]
      · refine ⟨_, ?_, xs, (l1, l2), some (.int j), some (.int (l1 + 1 + mixF ds (14 + 3 * (j : Int)) v * w)), rfl, hp.up (by omega)⟩
        simp! only [stF_def, b23f0, c, m3, Int.reduceAdd, h13, h14, h15, h16, ev, ew, mw, hz, atI_last])
  simp only [Nat.zero_add, List.length_map, List.length_range] at e hp
  refine ⟨xs ++ [l], ?_, ⟨hp.len1, by have := hp.lenn; omega, hp.bd, hp.fst, hp.inc⟩⟩
  rw [tt (d) 23 _ r23 rfl, run_eq [some (.list (ds.map .int)), some (.int 10), none, none, none] rfl, show r23.body = b23 from rfl]
  simp only [List.map_append, List.map_cons, List.map_nil] at e
  simp! only [b23, h10, h11, h12, Int.reduceAdd, en, rng0' (i := n) (by omega) (by omega), e]
  simp only [dZ, List.map_append, List.map_cons, List.map_nil]
end
/-! ### _law_spans -/
def rawL (z : List (Int × Int)) : List Int := z.map (fun p => p.1 + p.2) ++ (List.range (z.length - 1)).map fun k => tz z (k + 1) + oz z k
theorem mem_rawL {z : List (Int × Int)} {y : Int} : y ∈ rawL z ↔ (∃ k, k < z.length ∧ y = tz z k + oz z k) ∨ ∃ k, k + 1 < z.length ∧ y = tz z (k + 1) + oz z k := by
  unfold rawL
  rw [List.mem_append, List.mem_map, List.mem_map]
  constructor
  · rintro (⟨p, hp, rfl⟩ | ⟨k, hk, rfl⟩)
    · obtain ⟨k, hk, e⟩ := List.getElem_of_mem hp
      have := z_at hk
      rw [List.getElem?_eq_getElem hk, e] at this
      have := Option.some.inj this
      exact .inl ⟨k, hk, by rw [this]⟩
    · have hk : k < z.length - 1 := by simpa using hk
      exact .inr ⟨k, by omega, rfl⟩
  · rintro (⟨k, hk, rfl⟩ | ⟨k, hk, rfl⟩)
    · exact .inl ⟨_, List.mem_of_getElem? (z_at hk), rfl⟩
    · exact .inr ⟨k, by simp; omega, rfl⟩
theorem mem_rawZ {z : List (Int × Int)} {y : Int} : y ∈ rawZ z ↔ (∃ k, k < z.length ∧ y = tz z k + oz z k) ∨ ∃ k, k + 1 < z.length ∧ y = tz z (k + 1) + oz z k := by
  unfold rawZ spansZ
  rw [List.mem_flatMap]
  constructor
  · rintro ⟨s, hs, hy⟩
    obtain ⟨k, hk, rfl⟩ := List.mem_map.mp hs
    have hk : k < z.length := by simpa using hk
    simp only at hy
    rcases List.mem_cons.mp hy with rfl | hy
    · exact .inl ⟨k, hk, rfl⟩
    · by_cases h1 : k + 1 < z.length
      · rw [if_pos h1] at hy
        simp at hy
        exact .inr ⟨k, h1, hy⟩
      · rw [if_neg h1] at hy
        simp at hy
  · rintro (⟨k, hk, rfl⟩ | ⟨k, hk, rfl⟩)
    · exact ⟨_, List.mem_map.mpr ⟨k, by simpa using hk, rfl⟩, by simp⟩
    · exact ⟨_, List.mem_map.mpr ⟨k, by simp; omega, rfl⟩, by rw [if_pos hk]; simp⟩
theorem rawL_sort (z : List (Int × Int)) : ssort (rawL z) = marksZ z := ssort_ext fun y => by rw [mem_rawL, mem_rawZ]
def bstep (z : List (Int × Int)) (s : List (Int × Int) × List (Int × Int)) (p : Int × Int) : List (Int × Int) × List (Int × Int) :=
  if (comesZ z p.1).length = 1 then s else if 1 < (comesZ z p.1).length then (s.1, jstep s.2 p) else (jstep s.1 p, s.2)
theorem bstep_fold (z : List (Int × Int)) : ∀ (ps : List (Int × Int)) (a b : List (Int × Int)), ps.foldl (bstep z) (a, b) = ((ps.filter fun p => decide ((comesZ z p.1).length = 0)).foldl jstep a, (ps.filter fun p => decide (1 < (comesZ z p.1).length)).foldl jstep b)
  | [], _, _ => rfl
  | p :: ps, a, b => by
    rw [List.foldl_cons, List.filter_cons, List.filter_cons]
    unfold bstep
    by_cases h1 : (comesZ z p.1).length = 1
    · have h0 : ¬ (comesZ z p.1).length = 0 := by omega
      have h2 : ¬ 1 < (comesZ z p.1).length := by omega
      simp only [h1, if_true]
      have := bstep_fold z ps a b
      unfold bstep at this
      simpa using this
    · by_cases h2 : 1 < (comesZ z p.1).length
      · have h0 : ¬ (comesZ z p.1).length = 0 := by omega
        simp only [h1, h2, h0, if_true, if_false, decide_true, decide_false, List.foldl_cons, Bool.false_eq_true]
        exact bstep_fold z ps a (jstep b p)
      · have h0 : (comesZ z p.1).length = 0 := by omega
        simp only [h1, h2, if_true, if_false, decide_true, decide_false, List.foldl_cons, Bool.false_eq_true]
        rw [if_pos (decide_eq_true h0), List.foldl_cons]
        exact bstep_fold z ps (jstep a p) b
theorem pairs_at {ms : List Int} {k : Nat} {p : Int × Int} (h : (pairsM ms)[k]? = some p) : ms[k]? = some p.1 ∧ ms[k + 1]? = some p.2 := by
  unfold pairsM at h
  have := List.getElem?_zip_eq_some.mp h
  rw [List.getElem?_drop, Nat.add_comm 1 k] at this
  exact this
theorem pairs_len (ms : List Int) : (pairsM ms).length = ms.length - 1 := by unfold pairsM; simp
theorem j24 {T : Nat → List D → Option D} {n : Nat} {a0 a3 a4 a6 a7 : Option D} {ms : List Int} {k : Nat} {x y : Int} (acc : List (Int × Int)) (hx : ms[k]? = some x) (hy : ms[k + 1]? = some y) (hz : acc.length < 1000) :
    exS T n b24j [a0, some (.list (ms.map .int)), some (.int k), a3, a4, some (.list (acc.map dP)), a6, a7] = some (.nx [a0, some (.list (ms.map .int)), some (.int k), a3, a4, some (.list ((jstep acc (x, y)).map dP)), a6, a7]) := by
  have e1 : L2.atI (ms.map PyData.int) (k : Int) = some (.int x) := atI_get rfl hx
  have e2 : L2.atI (ms.map PyData.int) ((k : Int) + 1) = some (.int y) := atI_get (by omega) hy
  have sz : ∀ m, m ≤ 1000 → m < sizeLine := fun m hm => by rw [PySem.sizeLine]; omega
  have hg : gds (acc.map dP) 1 = true := gds_map fun p _ => by simp
  have hnil := eqD_nil hg (by decide)
  rcases nil_or_app acc with rfl | ⟨xs, ⟨l1, l2⟩, rfl⟩
  · simp only [List.map_nil] at hnil
    have c : decide (([] : List D) = []) = true := rfl
    simp! only [b24j, hnil, c, jstep_nil, e1, e2, line0]
  · have c : decide ((xs ++ [(l1, l2)]).map dP = []) = false := decide_eq_false (by simp)
    rw [c] at hnil
    simp only [List.map_append, List.map_cons, List.map_nil] at hnil
    rw [jstep_app]
    by_cases c2 : l2 = x
    · rw [if_pos c2]
      simp! only [b24j, hnil, atI_last, decide_eq_true c2, e1, e2, putD_last]
    · rw [if_neg c2]
      have hz' := sz (xs.length + 1) (by simp at hz; omega)
      simp! only [b24j, hnil, atI_last, decide_eq_false c2, e1, e2, hz']
theorem s24 {d : Nat} (h : 1 < d) {z : List (Int × Int)} (hz : OkZ z) : TT G d 24 [dZ z] = some (.tuple [dZ (gapsZ z), dZ (doublesZ z)]) := by
  obtain ⟨d, rfl⟩ : ∃ e, d = e + 1 := ⟨d - 1, by omega⟩
  rw [tt d 24 _ r24 rfl, run_eq [some (dZ z), none, none, none, none, none, none, none] rfl, show r24.body = b24 from rfl]
  have l1 := hz.len1
  have l6 := hz.len6
  have e0 : compL (lcF (TT G d) b24e0 (.t (.cons (.v 6) (.cons (.v 7) .nil))) .nil [6, 7] [some (dZ z), none, none, none, none, none, none, none]) (z.map dP) = some ((z.map fun p => p.1 + p.2).map .int) :=
    lc_map dP .int _ _ fun p _ => by simp! only [lcF, b24e0]
  have e1 : compL (lcF (TT G d) b24e1 (.v 2) .nil [2] [some (dZ z), none, none, none, none, none, none, none]) ((List.range (z.length - 1)).map fun (k : Nat) => .int k) = some (((List.range (z.length - 1)).map fun k => tz z (k + 1) + oz z k).map .int) :=
    lc_map (fun (k : Nat) => PyData.int k) .int _ _ fun k hk => by
      have hk : k < z.length - 1 := by simpa using hk
      have ha := ix_z (z := z) (k := k) (i := (k : Int)) (by omega) rfl
      have hb := ix_z (z := z) (k := k + 1) (i := (k : Int) + 1) (by omega) (by omega)
      simp! only [lcF, b24e1, ha, hb]
  have er : rngD 0 ((z.length : Int) - 1) = some ((List.range (z.length - 1)).map fun (k : Nat) => .int k) := by
    rw [rng0' (by omega) (by omega), show ((z.length : Int) - 1).toNat = z.length - 1 by omega]
  have hml := marksZ_len z
  have hraw : ssort (rawL z) = marksZ z := rawL_sort z
  have hrl : (rawL z).length < 64 := by unfold rawL; simp; omega
  have hss := sset_ints hrl
  rw [hraw] at hss
  generalize hms : marksZ z = ms at *
  have er2 : rngD 0 ((ms.length : Int) - 1) = some ((pairsM ms).zipIdx.map fun p => .int (p.2 : Nat)) := by
    rw [rng0' (by omega) (by omega), ← map_snd_zipIdx, pairs_len, show ((ms.length : Int) - 1).toNat = ms.length - 1 by omega]
  have key := forL_foldB (f := stF (TT G d) fuel (.v 2) b24f) (fun p : (Int × Int) × Nat => .int (p.2 : Nat))
    (fun (s : List (Int × Int) × List (Int × Int)) ρ => ∃ k m r, ρ = [some (dZ z), some (.list (ms.map .int)), k, none, m, r, some (.list (s.1.map dP)), some (.list (s.2.map dP))]) (fun s => s.1.length + s.2.length) (fun s p => bstep z s p.1) (fun s p => by
      have h1 := jstep_len s.1 p.1
      have h2 := jstep_len s.2 p.1
      unfold bstep
      split
      · omega
      · split
        · simp only; omega
        · simp only; omega) (pairsM ms).zipIdx ([], []) [some (dZ z), some (.list (ms.map .int)), none, none, none, none, some (.list []), some (.list [])] ⟨_, _, _, rfl⟩ (by
      rintro ⟨a, b⟩ ⟨⟨x, y⟩, k⟩ ρ hm hs ⟨k0, m0, r0, rfl⟩
      have hq := List.mem_zipIdx_iff_getElem?.mp hm
      obtain ⟨hx, hy⟩ := pairs_at hq
      simp only at hx hy hs
      rw [List.length_zipIdx, pairs_len] at hs
      simp only [List.length_nil] at hs
      have e1 : L2.atI (ms.map PyData.int) (k : Int) = some (.int x) := atI_get rfl hx
      have hc := s10 (d := d) (by omega) (z := z) x (by omega)
      unfold bstep
      simp only
      by_cases c1 : (comesZ z x).length = 1
      · rw [if_pos c1]
        have c1' : decide (((comesZ z x).length : Int) = 1) = true := decide_eq_true (by omega)
        refine ⟨_, ?_, some (.int k), some (.int (comesZ z x).length), r0, rfl⟩
        simp! only [stF_def, b24f, b24c, b24t, e1, hc, c1']
      · have c1' : decide (((comesZ z x).length : Int) = 1) = false := decide_eq_false (by omega)
        rw [if_neg c1]
        by_cases c2 : 1 < (comesZ z x).length
        · rw [if_pos c2]
          have c2' : decide (1 < ((comesZ z x).length : Int)) = true := decide_eq_true (by omega)
          refine ⟨_, ?_, some (.int k), some (.int (comesZ z x).length), some (.list ((jstep b (x, y)).map dP)), rfl⟩
          have hj := fun a0 a3 a4 a6 a7 => j24 (T := TT G d) (n := fuel) (a0 := a0) (a3 := a3) (a4 := a4) (a6 := a6) (a7 := a7) b hx hy (by omega)
          simp! only [stF_def, b24f, b24c, b24t, b24m, e1, hc, c1', c2', hj]
        · rw [if_neg c2]
          have c2' : decide (1 < ((comesZ z x).length : Int)) = false := decide_eq_false (by omega)
          refine ⟨_, ?_, some (.int k), some (.int (comesZ z x).length), some (.list ((jstep a (x, y)).map dP)), rfl⟩
          have hj := fun a0 a3 a4 a6 a7 => j24 (T := TT G d) (n := fuel) (a0 := a0) (a3 := a3) (a4 := a4) (a6 := a6) (a7 := a7) a hx hy (by omega)
          simp! only [stF_def, b24f, b24c, b24t, b24m, e1, hc, c1', c2', hj])
  obtain ⟨ρ', e, k, m, r, rfl⟩ := key
  have hfold : (pairsM ms).zipIdx.foldl (fun s p => bstep z s p.1) ([], []) = (gapsZ z, doublesZ z) := by
    have : ∀ (l : List (Int × Int)) (n : Nat) (s : List (Int × Int) × List (Int × Int)), (l.zipIdx n).foldl (fun s p => bstep z s p.1) s = l.foldl (bstep z) s := by
      intro l
      induction l with
      | nil => intro n s; rfl
      | cons p r ih => intro n s; rw [List.zipIdx_cons, List.foldl_cons, List.foldl_cons, ih]
    rw [this, bstep_fold]
    unfold gapsZ doublesZ joinZ
    rw [hms]
  rw [hfold] at e
  have hll : (z.map fun p => p.1 + p.2).length + ((List.range (z.length - 1)).map fun k => tz z (k + 1) + oz z k).length ≤ sizeLine := by rw [PySem.sizeLine]; simp; omega
  simp only [List.length_map, List.length_range] at hll
  have hraw2 : (z.map fun p => p.1 + p.2).map PyData.int ++ ((List.range (z.length - 1)).map fun k => tz z (k + 1) + oz z k).map PyData.int = (rawL z).map .int := by unfold rawL; rw [List.map_append]
  have st0 : exS (TT G d) fuel b24a [some (dZ z), none, none, none, none, none, none, none] = some (.nx [some (dZ z), some (.list ((rawL z).map .int)), none, none, none, none, none, none]) := by
    rw [← hraw2]
    simp! only [b24a, e0, er, e1, List.length_range, hll]
  rw [show b24 = .cons b24a (.cons (.asg (.v 1) (.p1 .sset (.var 1))) (.cons (.asg (.v 6) (.lst .nil)) (.cons (.asg (.v 7) (.lst .nil)) (.cons (.forr (.v 2) (.rng1 (.bin .sub (.p1 .len (.var 1)) (.cst (.int 1)))) b24f []) (.cons (.ret (.tup (.cons (.var 6) (.cons (.var 7) .nil)))) .nil))))) from rfl]
  rw [exSs_cons, st0]
  simp! only [hss, er2, e]
end K70
set_option maxRecDepth 100000
set_option maxHeartbeats 1000000
namespace K70
open PySem DI
local macro_rules
  | `(tactic| simp! only [$ls,*]) => `(tactic| simp only [DI.a1_s, DI.a2_s, DI.bO_s, DI.cm_s, DI.andO_s, DI.andO_f, DI.andO_t, DI.orO_s, DI.orO_t, DI.orO_f, DI.notO_s, DI.iteO_t, DI.iteO_f, DI.iteO_p, DI.ch3_s, DI.ch3c_s, DI.orVO_s, DI.orVb_t, DI.orVb_f, DI.truthD_n, DI.truthD_l, DI.truthD_t, DI.tupO_s, DI.lstO_s, DI.lstSO_s, DI.cnsO_s, DI.appO_l, DI.appO_t, DI.slO_s, DI.clO_s, DI.scO_b, DI.scO_i, DI.scO_n, DI.scO_x, DI.dspO_s, DI.lcC_t, DI.lcC_f, DI.lcC_p, DI.lcK_s, DI.tsO_t, DI.tsO_f, DI.tsO_1, DI.r1O_s, DI.r2O_s, DI.r3O_s, DI.ofO_l, DI.ofO_t, DI.enO_s, DI.enO_t, DI.zpO_s, DI.slot_0, DI.slot_s, DI.ev_var, DI.ev_cst, DI.ev_glb, DI.ev_bin, DI.ev_neg, DI.ev_cmp1, DI.ev_cmp2, DI.ev_and, DI.ev_or, DI.ev_one, DI.ev_not, DI.ev_orV, DI.ev_ite, DI.ev_tup, DI.ev_lst, DI.ev_lstS, DI.ev_ix, DI.ev_sl, DI.partE_no, DI.partE_var, DI.partE_cst, DI.partE_neg, DI.partE_bin, DI.ev_rev, DI.ev_p1, DI.ev_p2, DI.ev_dsp, DI.ev_dix, DI.ev_call, DI.ev_cals, DI.ev_lc, DI.lcE_s, DI.evs_nil, DI.evs_cons, DI.evS_nil, DI.evS_star, DI.evS_tup, DI.evS_cst, DI.evS_var, DI.evS_bin, DI.evS_ix, DI.evt_nil, DI.evt_cons, DI.evi_ofl, DI.evi_rng1, DI.evi_rng2, DI.evi_rng3, DI.evi_enum, DI.evi_zip, DI.kn_nx, DI.kn_rt, DI.kn_bk, DI.kn_ct, DI.nxO_s, DI.rtO_s, DI.asgO_s, DI.parO_s, DI.setAll_nil, DI.stO_s, DI.a3_s, DI.ifO_t, DI.ifO_f, DI.ifO_p, DI.exO_s, DI.forK_s, DI.putE_0, DI.putE_s, DI.cE_s, DI.bindP_v, DI.ownO_l, DI.sK_s, DI.setAll_cons, DI.bindP_t, DI.bindP_tl, DI.bindPs_nil, DI.bK_s, DI.bindPs_cons, DI.wipeD_nil, DI.wipeD_cons, DI.exS_asg, DI.exS_own, DI.exS_par, DI.exS_app, DI.exS_put, DI.exS_ret, DI.exS_retN, DI.exS_pass, DI.exS_brk, DI.exS_cnt, DI.exS_rse, DI.exS_exp, DI.exS_ife, DI.exSs_nil, DI.exSs_cons, DI.exS_for, DI.binD_add, DI.binD_sub, DI.binD_mul, DI.binD_fdiv, DI.binD_mod, DI.binD_pow, DI.addD_i, DI.addD_l, DI.subD_i, DI.fdivD_i, DI.modD_i, DI.negD_i, DI.cmpD_eq, DI.cmpD_ne, DI.cmpD_lt, DI.cmpD_le, DI.cmpD_gt, DI.cmpD_ge, DI.cmpD_is, DI.cmpD_isn, DI.cmpD_inn, DI.cmpD_nin, DI.isD_nn, DI.isD_in, DI.isD_ln, DI.isD_tn, DI.isD_bb, DI.eqD_i, DI.eqD_s, DI.p1D_len_l, DI.p1D_len_t, DI.p1D_abs, DI.p1D_int, DI.p1D_intb, DI.p2D_min, DI.p2D_max, DI.ixD_l, DI.ixD_t, DI.appD_l, DI.atI_0, DI.atI_1, DI.atI_2, DI.atI_3, DI.outD_rt, DI.outD_nx, DI.rK_nx, DI.rK_rt, List.set_cons_zero, List.set_cons_succ, decide_true, decide_false, Bool.not_true, Bool.not_false, Bool.and_true, Bool.true_and, Bool.and_false, Bool.false_and, Bool.or_true, Bool.true_or, Bool.or_false, Bool.false_or, if_true, if_false, Bool.false_eq_true, Option.map_some, Option.bind_some, List.map_cons, List.map_nil, List.map_append, List.cons_append, List.nil_append, not_true_eq_false, not_false_eq_true, and_true, true_and, Bool.not_not, eq_self, List.length_append, List.length_map, List.length_cons, List.length_nil, Nat.zero_add, Int.natCast_zero, Int.natCast_add, Int.cast_ofNat_Int, Int.natCast_one, Nat.succ_eq_add_one, $ls,*])
local macro_rules
  | `(tactic| simp! only [$ls,*] $l:location) => `(tactic| simp only [DI.a1_s, DI.a2_s, DI.bO_s, DI.cm_s, DI.andO_s, DI.andO_f, DI.andO_t, DI.orO_s, DI.orO_t, DI.orO_f, DI.notO_s, DI.iteO_t, DI.iteO_f, DI.iteO_p, DI.ch3_s, DI.ch3c_s, DI.orVO_s, DI.orVb_t, DI.orVb_f, DI.truthD_n, DI.truthD_l, DI.truthD_t, DI.tupO_s, DI.lstO_s, DI.lstSO_s, DI.cnsO_s, DI.appO_l, DI.appO_t, DI.slO_s, DI.clO_s, DI.scO_b, DI.scO_i, DI.scO_n, DI.scO_x, DI.dspO_s, DI.lcC_t, DI.lcC_f, DI.lcC_p, DI.lcK_s, DI.tsO_t, DI.tsO_f, DI.tsO_1, DI.r1O_s, DI.r2O_s, DI.r3O_s, DI.ofO_l, DI.ofO_t, DI.enO_s, DI.enO_t, DI.zpO_s, DI.slot_0, DI.slot_s, DI.ev_var, DI.ev_cst, DI.ev_glb, DI.ev_bin, DI.ev_neg, DI.ev_cmp1, DI.ev_cmp2, DI.ev_and, DI.ev_or, DI.ev_one, DI.ev_not, DI.ev_orV, DI.ev_ite, DI.ev_tup, DI.ev_lst, DI.ev_lstS, DI.ev_ix, DI.ev_sl, DI.partE_no, DI.partE_var, DI.partE_cst, DI.partE_neg, DI.partE_bin, DI.ev_rev, DI.ev_p1, DI.ev_p2, DI.ev_dsp, DI.ev_dix, DI.ev_call, DI.ev_cals, DI.ev_lc, DI.lcE_s, DI.evs_nil, DI.evs_cons, DI.evS_nil, DI.evS_star, DI.evS_tup, DI.evS_cst, DI.evS_var, DI.evS_bin, DI.evS_ix, DI.evt_nil, DI.evt_cons, DI.evi_ofl, DI.evi_rng1, DI.evi_rng2, DI.evi_rng3, DI.evi_enum, DI.evi_zip, DI.kn_nx, DI.kn_rt, DI.kn_bk, DI.kn_ct, DI.nxO_s, DI.rtO_s, DI.asgO_s, DI.parO_s, DI.setAll_nil, DI.stO_s, DI.a3_s, DI.ifO_t, DI.ifO_f, DI.ifO_p, DI.exO_s, DI.forK_s, DI.putE_0, DI.putE_s, DI.cE_s, DI.bindP_v, DI.ownO_l, DI.sK_s, DI.setAll_cons, DI.bindP_t, DI.bindP_tl, DI.bindPs_nil, DI.bK_s, DI.bindPs_cons, DI.wipeD_nil, DI.wipeD_cons, DI.exS_asg, DI.exS_own, DI.exS_par, DI.exS_app, DI.exS_put, DI.exS_ret, DI.exS_retN, DI.exS_pass, DI.exS_brk, DI.exS_cnt, DI.exS_rse, DI.exS_exp, DI.exS_ife, DI.exSs_nil, DI.exSs_cons, DI.exS_for, DI.binD_add, DI.binD_sub, DI.binD_mul, DI.binD_fdiv, DI.binD_mod, DI.binD_pow, DI.addD_i, DI.addD_l, DI.subD_i, DI.fdivD_i, DI.modD_i, DI.negD_i, DI.cmpD_eq, DI.cmpD_ne, DI.cmpD_lt, DI.cmpD_le, DI.cmpD_gt, DI.cmpD_ge, DI.cmpD_is, DI.cmpD_isn, DI.cmpD_inn, DI.cmpD_nin, DI.isD_nn, DI.isD_in, DI.isD_ln, DI.isD_tn, DI.isD_bb, DI.eqD_i, DI.eqD_s, DI.p1D_len_l, DI.p1D_len_t, DI.p1D_abs, DI.p1D_int, DI.p1D_intb, DI.p2D_min, DI.p2D_max, DI.ixD_l, DI.ixD_t, DI.appD_l, DI.atI_0, DI.atI_1, DI.atI_2, DI.atI_3, DI.outD_rt, DI.outD_nx, DI.rK_nx, DI.rK_rt, List.set_cons_zero, List.set_cons_succ, decide_true, decide_false, Bool.not_true, Bool.not_false, Bool.and_true, Bool.true_and, Bool.and_false, Bool.false_and, Bool.or_true, Bool.true_or, Bool.or_false, Bool.false_or, if_true, if_false, Bool.false_eq_true, Option.map_some, Option.bind_some, List.map_cons, List.map_nil, List.map_append, List.cons_append, List.nil_append, not_true_eq_false, not_false_eq_true, and_true, true_and, Bool.not_not, eq_self, List.length_append, List.length_map, List.length_cons, List.length_nil, Nat.zero_add, Int.natCast_zero, Int.natCast_add, Int.cast_ofNat_Int, Int.natCast_one, Nat.succ_eq_add_one, $ls,*] $l)
structure OkR (rs : List (Int × Int)) : Prop where
  len : rs.length ≤ 30
  bd : ∀ (k : Nat) (p : Int × Int), rs[k]? = some p → 0 ≤ p.1 ∧ p.1 ≤ 10000 ∧ 1 ≤ p.2 ∧ p.2 ≤ 1000
  inc : ∀ (k : Nat) (p q : Int × Int), rs[k]? = some p → rs[k + 1]? = some q → p.1 < q.1
theorem s0 {d : Nat} (h : 0 < d) {rs : List (Int × Int)} (hr : OkR rs) : TT G d 0 [dZ rs] = some .none := by
  obtain ⟨d, rfl⟩ : ∃ e, d = e + 1 := ⟨d - 1, by omega⟩
  rw [tt d 0 _ r0 rfl]
  have l1 := hr.len
  have key := forL_fold (f := stF (TT G d) fuel (.t (.cons (.v 1) (.cons (.t (.cons (.v 2) (.cons (.v 3) .nil))) .nil))) (.cons (.ife (.orB (.notB (.cmp (.cst (.int 0)) (.cons .le (.var 2) (.cons .le (.glb "MOST_DUE" (.int 10000)) .nil)))) (.orB (.notB (.cmp (.cst (.int 1)) (.cons .le (.var 3) (.cons .le (.glb "MOST_LENGTH" (.int 1000)) .nil)))) (.one (.andB (.cmp (.var 1) (.cons .gt (.cst (.int 0)) .nil)) (.one (.cmp (.ix (.ix (.var 0) (.bin .sub (.var 1) (.cst (.int 1)))) (.cst (.int 0))) (.cons .ge (.var 2) .nil))))))) (.cons .rse .nil) .nil) .nil))
    (fun p : (Int × Int) × Nat => .tuple [.int (p.2 : Nat), dP p.1]) (fun (_ : Unit) ρ => ∃ a b c, ρ = [some (dZ rs), a, b, c]) (fun s _ => s) rs.zipIdx () [some (dZ rs), none, none, none] ⟨_, _, _, rfl⟩ (by
      rintro - ⟨⟨t, o⟩, k⟩ ρ hm ⟨a, b, c, rfl⟩
      have hk := List.mem_zipIdx_iff_getElem?.mp hm
      simp only at hk
      obtain ⟨b1, b2, b3, b4⟩ := hr.bd k _ hk
      simp only at b1 b2 b3 b4
      refine ⟨[some (dZ rs), some (.int k), some (.int t), some (.int o)], ?_, _, _, _, rfl⟩
      rcases k with _ | k
      · simp [stF_def, b1, b2, b3, b4]
      · have hlt := (List.getElem?_eq_some_iff.mp hk).1
        have hq : rs[k]? = some rs[k] := List.getElem?_eq_getElem (by omega)
        have hi := hr.inc k _ _ hq hk
        simp only at hi
        have ha : L2.atI (rs.map dP) (k : Int) = some (dP rs[k]) := atI_get rfl hq
        have h2 : (0 : Int) < k + 1 := by omega
        have h3 : ¬ t ≤ rs[k].1 := by omega
        simp [stF_def, b1, b2, b3, b4, ha, h2, h3])
  obtain ⟨ρ', e, a, b, c, rfl⟩ := key
  rw [run_eq [some (dZ rs), none, none, none] rfl]
  rw [show r0.body = b0 from rfl]
  have c1 : ¬ (30 : Int) < rs.length := by omega
  simp [b0, c1, enumD_map, e]
def lastE (acc : List (Int × Int × Int)) : Int := match acc.getLast? with
  | some x => x.2.2
  | none => 0
@[simp] theorem lastE_nil : lastE [] = 0 := rfl
@[simp] theorem lastE_app {xs : List (Int × Int × Int)} {x : Int × Int × Int} : lastE (xs ++ [x]) = x.2.2 := by simp [lastE]
def wstep (rule : Str) (acc : List (Int × Int × Int)) (x : (Int × Int) × Nat) : List (Int × Int × Int) :=
  if rule = "queue" then acc ++ [((x.2 : Int), (if lastE acc > x.1.1 then lastE acc else x.1.1), (if lastE acc > x.1.1 then lastE acc else x.1.1) + x.1.2)]
  else if rule = "let" ∨ lastE acc ≤ x.1.1 then acc ++ [((x.2 : Int), x.1.1, x.1.1 + x.1.2)]
  else if rule = "replace" then (match acc.getLast? with | some l => acc.dropLast ++ [(l.1, l.2.1, x.1.1)] | none => acc) ++ [((x.2 : Int), x.1.1, x.1.1 + x.1.2)]
  else acc
theorem wstep_len (rule : Str) (acc : List (Int × Int × Int)) (x : (Int × Int) × Nat) : (wstep rule acc x).length ≤ acc.length + 1 := by
  unfold wstep
  rcases nil_or_app acc with rfl | ⟨init, l, rfl⟩
  · split
    · simp
    · split
      · simp
      · split <;> simp
  · split
    · simp
    · split
      · simp
      · split <;> simp
def workedR (rule : Str) (rs : List (Int × Int)) : List (Int × Int × Int) := rs.zipIdx.foldl (wstep rule) []
theorem wstep_app {rule : Str} {xs : List (Int × Int × Int)} {l : Int × Int × Int} {x : (Int × Int) × Nat} : wstep rule (xs ++ [l]) x =
    if rule = "queue" then xs ++ [l] ++ [((x.2 : Int), (if l.2.2 > x.1.1 then l.2.2 else x.1.1), (if l.2.2 > x.1.1 then l.2.2 else x.1.1) + x.1.2)]
    else if rule = "let" ∨ l.2.2 ≤ x.1.1 then xs ++ [l] ++ [((x.2 : Int), x.1.1, x.1.1 + x.1.2)]
    else if rule = "replace" then xs ++ [(l.1, l.2.1, x.1.1)] ++ [((x.2 : Int), x.1.1, x.1.1 + x.1.2)]
    else xs ++ [l] := by simp [wstep]
theorem wstep_nil {rule : Str} {x : (Int × Int) × Nat} (h : 0 ≤ x.1.1) : wstep rule [] x = if rule = "queue" then [((x.2 : Int), x.1.1, x.1.1 + x.1.2)] else [((x.2 : Int), x.1.1, x.1.1 + x.1.2)] := by
  have h2 : ¬ x.1.1 < 0 := by omega
  simp [wstep, h, h2]
theorem s1 {d : Nat} (h : 0 < d) {rs : List (Int × Int)} (hr : OkR rs) {rule : Str} (hk : PySem.PyData.strOk rule = true) : TT G d 1 [dZ rs, .str rule] = some (.list ((workedR rule rs).map dT)) := by
  obtain ⟨d, rfl⟩ : ∃ e, d = e + 1 := ⟨d - 1, by omega⟩
  rw [tt d 1 _ r1 rfl]
  have l1 := hr.len
  have o1 : PySem.PyData.strOk "queue" = true := by decide +kernel
  have o2 : PySem.PyData.strOk "let" = true := by decide +kernel
  have o3 : PySem.PyData.strOk "replace" = true := by decide +kernel
  have key := forL_foldB (f := stF (TT G d) fuel (.t (.cons (.v 3) (.cons (.t (.cons (.v 5) (.cons (.v 6) .nil))) .nil))) (.cons (.asg (.v 4) (.ite (.cmp (.p1 .len (.var 2)) (.cons .gt (.cst (.int 0)) .nil)) (.ix (.ix (.var 2) (.neg (.cst (.int 1)))) (.cst (.int 2))) (.cst (.int 0)))) (.cons (.ife (.cmp (.var 1) (.cons .eq (.cst (.str "queue")) .nil)) (.cons (.asg (.v 7) (.p2 .max (.var 5) (.var 4))) (.cons (.app 2 (.tup (.cons (.var 3) (.cons (.var 7) (.cons (.bin .add (.var 7) (.var 6)) .nil))))) .nil)) (.cons (.ife (.orB (.cmp (.var 1) (.cons .eq (.cst (.str "let")) .nil)) (.one (.cmp (.var 4) (.cons .le (.var 5) .nil)))) (.cons (.app 2 (.tup (.cons (.var 3) (.cons (.var 5) (.cons (.bin .add (.var 5) (.var 6)) .nil))))) .nil) (.cons (.ife (.cmp (.var 1) (.cons .eq (.cst (.str "replace")) .nil)) (.cons (.asg (.t (.cons (.v 8) (.cons (.v 7) (.cons (.v 9) .nil)))) (.ix (.var 2) (.neg (.cst (.int 1))))) (.cons (.put 2 (.neg (.cst (.int 1))) (.tup (.cons (.var 8) (.cons (.var 7) (.cons (.var 5) .nil))))) (.cons (.app 2 (.tup (.cons (.var 3) (.cons (.var 5) (.cons (.bin .add (.var 5) (.var 6)) .nil))))) .nil))) .nil) .nil)) .nil)) .nil)))
    (fun p : (Int × Int) × Nat => .tuple [.int (p.2 : Nat), dP p.1]) (fun acc ρ => ∃ a3 a4 a5 a6 a7 a8 a9, ρ = [some (dZ rs), some (.str rule), some (.list (acc.map dT)), a3, a4, a5, a6, a7, a8, a9]) List.length (wstep rule) (wstep_len rule) rs.zipIdx [] [some (dZ rs), some (.str rule), some (.list []), none, none, none, none, none, none, none] ⟨_, _, _, _, _, _, _, rfl⟩ (by
      rintro acc ⟨⟨t, o⟩, k⟩ ρ hm hs ⟨a3, a4, a5, a6, a7, a8, a9, rfl⟩
      have hz : acc.length + 1 < sizeLine := by rw [PySem.sizeLine]; simp at hs; omega
      have hz' : acc.length < sizeLine := by omega
      have hq := List.mem_zipIdx_iff_getElem?.mp hm
      simp only at hq
      obtain ⟨b1, b2, b3, b4⟩ := hr.bd k _ hq
      simp only at b1 b2 b3 b4
      rcases nil_or_app acc with rfl | ⟨init, ⟨x, y, w⟩, rfl⟩
      · have c0 : decide ((0 : Int) < 0) = false := rfl
        rw [wstep_nil b1]
        by_cases c1 : rule = "queue"
        · refine ⟨_, ?_, some (.int k), some (.int 0), some (.int t), some (.int o), some (.int t), a8, a9, rfl⟩
          have c2 : (if (0 : Int) > t then (0 : Int) else t) = t := if_neg (by omega)
          rw [if_pos c1]
          simp! only [stF_def, o1, hk, decide_eq_true c1, c0, c2, line0]
        · refine ⟨_, ?_, some (.int k), some (.int 0), some (.int t), some (.int o), a7, a8, a9, rfl⟩
          rw [if_neg c1]
          simp! only [stF_def, o1, o2, o3, hk, decide_eq_false c1, c0, b1, line0]
      · have c0 : decide ((0 : Int) < (init.length : Int) + 1) = true := decide_eq_true (by omega)
        have z1 : (init ++ [(x, y, w)]).length = init.length + 1 := by simp
        have z2 : init.length + (0 + 1) < sizeLine := by omega
        have z3 : init.length + 1 < sizeLine := by omega
        rw [wstep_app]
        by_cases c1 : rule = "queue"
        · refine ⟨_, ?_, some (.int k), some (.int w), some (.int t), some (.int o), some (.int (if w > t then w else t)), a8, a9, rfl⟩
          rw [if_pos c1]
          simp! only [stF_def, o1, hk, decide_eq_true c1, c0, atI_last, z3]
        · rw [if_neg c1]
          by_cases c2 : rule = "let" ∨ w ≤ t
          · refine ⟨_, ?_, some (.int k), some (.int w), some (.int t), some (.int o), a7, a8, a9, rfl⟩
            rw [if_pos c2]
            have c3 : (decide (rule = "let") || decide (w ≤ t)) = true := by simpa using c2
            simp! only [stF_def, o1, o2, hk, decide_eq_false c1, c0, atI_last, z3, c3]
          · rw [if_neg c2]
            have c3 : (decide (rule = "let") || decide (w ≤ t)) = false := by simpa using c2
            by_cases c4 : rule = "replace"
            · refine ⟨_, ?_, some (.int k), some (.int w), some (.int t), some (.int o), some (.int y), some (.int x), some (.int w), rfl⟩
              rw [if_pos c4]
              simp! only [stF_def, o1, o2, o3, hk, decide_eq_false c1, decide_eq_true c4, c0, atI_last, z3, c3, putD_last]
            · refine ⟨_, ?_, some (.int k), some (.int w), some (.int t), some (.int o), a7, a8, a9, rfl⟩
              rw [if_neg c4]
              simp! only [stF_def, o1, o2, o3, hk, decide_eq_false c1, decide_eq_false c4, c0, atI_last, z3, c3])
  obtain ⟨ρ', e, a3, a4, a5, a6, a7, a8, a9, rfl⟩ := key
  rw [run_eq [some (dZ rs), some (.str rule), none, none, none, none, none, none, none, none] rfl]
  rw [show r1.body = b1 from rfl]
  simp! only [b1, enumD_map, e, workedR]
theorem s12 {d : Nat} (h : 0 < d) {rs : List (Int × Int)} (hr : OkR rs) {rule : Str} (hk : PySem.PyData.strOk rule = true) : TT G d 12 [dZ rs, .str rule] = some (.list ((workedR rule rs).map dT)) := by
  obtain ⟨d, rfl⟩ : ∃ e, d = e + 1 := ⟨d - 1, by omega⟩
  rw [tt d 12 _ r12 rfl]
  have l1 := hr.len
  have o1 : PySem.PyData.strOk "queue" = true := by decide +kernel
  have o2 : PySem.PyData.strOk "let" = true := by decide +kernel
  have o3 : PySem.PyData.strOk "replace" = true := by decide +kernel
  have key := forL_foldB (f := stF (TT G d) fuel (.v 3) (.cons (.asg (.t (.cons (.v 5) (.cons (.v 6) .nil))) (.ix (.var 0) (.var 3))) (.cons (.asg (.v 4) (.ix (.ix (.bin .add (.lst (.cons (.tup (.cons (.cst (.int 0)) (.cons (.cst (.int 0)) (.cons (.cst (.int 0)) .nil)))) .nil)) (.var 2)) (.neg (.cst (.int 1)))) (.cst (.int 2)))) (.cons (.ife (.orB (.cmp (.var 1) (.cons .eq (.cst (.str "let")) .nil)) (.one (.cmp (.var 4) (.cons .le (.var 5) .nil)))) (.cons (.app 2 (.tup (.cons (.var 3) (.cons (.var 5) (.cons (.bin .add (.var 5) (.var 6)) .nil))))) .nil) (.cons (.ife (.cmp (.var 1) (.cons .eq (.cst (.str "queue")) .nil)) (.cons (.app 2 (.tup (.cons (.var 3) (.cons (.var 4) (.cons (.bin .add (.var 4) (.var 6)) .nil))))) .nil) (.cons (.ife (.cmp (.var 1) (.cons .eq (.cst (.str "replace")) .nil)) (.cons (.put 2 (.neg (.cst (.int 1))) (.tup (.cons (.ix (.ix (.var 2) (.neg (.cst (.int 1)))) (.cst (.int 0))) (.cons (.ix (.ix (.var 2) (.neg (.cst (.int 1)))) (.cst (.int 1))) (.cons (.var 5) .nil))))) (.cons (.app 2 (.tup (.cons (.var 3) (.cons (.var 5) (.cons (.bin .add (.var 5) (.var 6)) .nil))))) .nil)) .nil) .nil)) .nil)) .nil))))
    (fun p : (Int × Int) × Nat => .int (p.2 : Nat)) (fun acc ρ => ∃ a3 a4 a5 a6, ρ = [some (dZ rs), some (.str rule), some (.list (acc.map dT)), a3, a4, a5, a6]) List.length (wstep rule) (wstep_len rule) rs.zipIdx [] [some (dZ rs), some (.str rule), some (.list []), none, none, none, none] ⟨_, _, _, _, rfl⟩ (by
      rintro acc ⟨⟨t, o⟩, k⟩ ρ hm hs ⟨a3, a4, a5, a6, rfl⟩
      have hz : acc.length + 1 < sizeLine := by rw [PySem.sizeLine]; simp at hs; omega
      have hz' : acc.length < sizeLine := by omega
      have hq := List.mem_zipIdx_iff_getElem?.mp hm
      simp only at hq
      obtain ⟨b1, b2, b3, b4⟩ := hr.bd k _ hq
      simp only at b1 b2 b3 b4
      have hx : L2.atI (rs.map dP) (k : Int) = some (.tuple [.int t, .int o]) := atI_get rfl hq
      rcases nil_or_app acc with rfl | ⟨init, ⟨x, y, w⟩, rfl⟩
      · have z0 : 0 + 1 + 0 ≤ sizeLine := by decide
        rw [wstep_nil b1]
        refine ⟨_, ?_, some (.int k), some (.int 0), some (.int t), some (.int o), rfl⟩
        by_cases c1 : rule = "let"
        · simp! only [stF_def, o2, hk, decide_eq_true c1, hx, line0, z0, atI_last1, ite_self, b1]
        · simp! only [stF_def, o2, hk, decide_eq_false c1, hx, line0, z0, atI_last1, ite_self, b1]
      · have z1 : (init ++ [(x, y, w)]).length = init.length + 1 := by simp
        have z2 : 0 + 1 + (init.length + (0 + 1)) ≤ sizeLine := by omega
        have z2' : 1 + (init.length + 1) ≤ sizeLine := by omega
        have z3 : init.length + 1 < sizeLine := by omega
        rw [wstep_app]
        by_cases c2 : rule = "let" ∨ w ≤ t
        · have c3 : (decide (rule = "let") || decide (w ≤ t)) = true := by simpa using c2
          refine ⟨_, ?_, some (.int k), some (.int w), some (.int t), some (.int o), rfl⟩
          by_cases c1 : rule = "queue"
          · have c4 : ¬ rule = "let" := by rw [c1]; decide +kernel
            have c5 : w ≤ t := c2.resolve_left c4
            have c6 : (if w > t then w else t) = t := if_neg (by omega)
            rw [if_pos c1]
            simp! only [stF_def, o1, o2, hk, hx, z2, z2', atI_last2, z3, c3, c6]
          · rw [if_neg c1, if_pos c2]
            simp! only [stF_def, o1, o2, hk, hx, z2, z2', atI_last2, z3, c3]
        · have c3 : (decide (rule = "let") || decide (w ≤ t)) = false := by simpa using c2
          by_cases c1 : rule = "queue"
          · have c6 : (if w > t then w else t) = w := if_pos (by omega)
            rw [if_pos c1]
            refine ⟨_, ?_, some (.int k), some (.int w), some (.int t), some (.int o), rfl⟩
            simp! only [stF_def, o1, o2, hk, hx, z2, z2', atI_last2, z3, c3, c6, decide_eq_true c1]
          · rw [if_neg c1, if_neg c2]
            refine ⟨_, ?_, some (.int k), some (.int w), some (.int t), some (.int o), rfl⟩
            by_cases c4 : rule = "replace"
            · rw [if_pos c4]
              simp! only [stF_def, o1, o2, o3, hk, hx, z2, z2', atI_last, atI_last2, z3, c3, decide_eq_false c1, decide_eq_true c4, putD_last]
            · rw [if_neg c4]
              simp! only [stF_def, o1, o2, o3, hk, hx, z2, z2', atI_last2, z3, c3, decide_eq_false c1, decide_eq_false c4])
  obtain ⟨ρ', e, a3, a4, a5, a6, rfl⟩ := key
  rw [run_eq [some (dZ rs), some (.str rule), none, none, none, none, none] rfl]
  rw [show r12.body = b12 from rfl]
  have hr' := rng0 (n := rs.length) (by omega)
  rw [map_snd_zipIdx] at hr'
  simp! only [b12, hr', e, workedR]
end K70
set_option maxRecDepth 100000
set_option maxHeartbeats 1000000
namespace K70
open PySem DI
local macro_rules
  | `(tactic| simp! only [$ls,*]) => `(tactic| simp only [DI.a1_s, DI.a2_s, DI.bO_s, DI.cm_s, DI.andO_s, DI.andO_f, DI.andO_t, DI.orO_s, DI.orO_t, DI.orO_f, DI.notO_s, DI.iteO_t, DI.iteO_f, DI.iteO_p, DI.ch3_s, DI.ch3c_s, DI.orVO_s, DI.orVb_t, DI.orVb_f, DI.truthD_n, DI.truthD_l, DI.truthD_t, DI.tupO_s, DI.lstO_s, DI.lstSO_s, DI.cnsO_s, DI.appO_l, DI.appO_t, DI.slO_s, DI.clO_s, DI.scO_b, DI.scO_i, DI.scO_n, DI.scO_x, DI.dspO_s, DI.lcC_t, DI.lcC_f, DI.lcC_p, DI.lcK_s, DI.tsO_t, DI.tsO_f, DI.tsO_1, DI.r1O_s, DI.r2O_s, DI.r3O_s, DI.ofO_l, DI.ofO_t, DI.enO_s, DI.enO_t, DI.zpO_s, DI.slot_0, DI.slot_s, DI.ev_var, DI.ev_cst, DI.ev_glb, DI.ev_bin, DI.ev_neg, DI.ev_cmp1, DI.ev_cmp2, DI.ev_and, DI.ev_or, DI.ev_one, DI.ev_not, DI.ev_orV, DI.ev_ite, DI.ev_tup, DI.ev_lst, DI.ev_lstS, DI.ev_ix, DI.ev_sl, DI.partE_no, DI.partE_var, DI.partE_cst, DI.partE_neg, DI.partE_bin, DI.ev_rev, DI.ev_p1, DI.ev_p2, DI.ev_dsp, DI.ev_dix, DI.ev_call, DI.ev_cals, DI.ev_lc, DI.lcE_s, DI.evs_nil, DI.evs_cons, DI.evS_nil, DI.evS_star, DI.evS_tup, DI.evS_cst, DI.evS_var, DI.evS_bin, DI.evS_ix, DI.evt_nil, DI.evt_cons, DI.evi_ofl, DI.evi_rng1, DI.evi_rng2, DI.evi_rng3, DI.evi_enum, DI.evi_zip, DI.kn_nx, DI.kn_rt, DI.kn_bk, DI.kn_ct, DI.nxO_s, DI.rtO_s, DI.asgO_s, DI.parO_s, DI.setAll_nil, DI.stO_s, DI.a3_s, DI.ifO_t, DI.ifO_f, DI.ifO_p, DI.exO_s, DI.forK_s, DI.putE_0, DI.putE_s, DI.cE_s, DI.bindP_v, DI.ownO_l, DI.sK_s, DI.setAll_cons, DI.bindP_t, DI.bindP_tl, DI.bindPs_nil, DI.bK_s, DI.bindPs_cons, DI.wipeD_nil, DI.wipeD_cons, DI.exS_asg, DI.exS_own, DI.exS_par, DI.exS_app, DI.exS_put, DI.exS_ret, DI.exS_retN, DI.exS_pass, DI.exS_brk, DI.exS_cnt, DI.exS_rse, DI.exS_exp, DI.exS_ife, DI.exSs_nil, DI.exSs_cons, DI.exS_for, DI.binD_add, DI.binD_sub, DI.binD_mul, DI.binD_fdiv, DI.binD_mod, DI.binD_pow, DI.addD_i, DI.addD_l, DI.subD_i, DI.fdivD_i, DI.modD_i, DI.negD_i, DI.cmpD_eq, DI.cmpD_ne, DI.cmpD_lt, DI.cmpD_le, DI.cmpD_gt, DI.cmpD_ge, DI.cmpD_is, DI.cmpD_isn, DI.cmpD_inn, DI.cmpD_nin, DI.isD_nn, DI.isD_in, DI.isD_ln, DI.isD_tn, DI.isD_bb, DI.eqD_i, DI.eqD_s, DI.p1D_len_l, DI.p1D_len_t, DI.p1D_abs, DI.p1D_int, DI.p1D_intb, DI.p2D_min, DI.p2D_max, DI.ixD_l, DI.ixD_t, DI.appD_l, DI.atI_0, DI.atI_1, DI.atI_2, DI.atI_3, DI.outD_rt, DI.outD_nx, DI.rK_nx, DI.rK_rt, List.set_cons_zero, List.set_cons_succ, decide_true, decide_false, Bool.not_true, Bool.not_false, Bool.and_true, Bool.true_and, Bool.and_false, Bool.false_and, Bool.or_true, Bool.true_or, Bool.or_false, Bool.false_or, if_true, if_false, Bool.false_eq_true, Option.map_some, Option.bind_some, List.map_cons, List.map_nil, List.map_append, List.cons_append, List.nil_append, not_true_eq_false, not_false_eq_true, and_true, true_and, Bool.not_not, eq_self, List.length_append, List.length_map, List.length_cons, List.length_nil, Nat.zero_add, Int.natCast_zero, Int.natCast_add, Int.cast_ofNat_Int, Int.natCast_one, Nat.succ_eq_add_one, $ls,*])
local macro_rules
  | `(tactic| simp! only [$ls,*] $l:location) => `(tactic| simp only [DI.a1_s, DI.a2_s, DI.bO_s, DI.cm_s, DI.andO_s, DI.andO_f, DI.andO_t, DI.orO_s, DI.orO_t, DI.orO_f, DI.notO_s, DI.iteO_t, DI.iteO_f, DI.iteO_p, DI.ch3_s, DI.ch3c_s, DI.orVO_s, DI.orVb_t, DI.orVb_f, DI.truthD_n, DI.truthD_l, DI.truthD_t, DI.tupO_s, DI.lstO_s, DI.lstSO_s, DI.cnsO_s, DI.appO_l, DI.appO_t, DI.slO_s, DI.clO_s, DI.scO_b, DI.scO_i, DI.scO_n, DI.scO_x, DI.dspO_s, DI.lcC_t, DI.lcC_f, DI.lcC_p, DI.lcK_s, DI.tsO_t, DI.tsO_f, DI.tsO_1, DI.r1O_s, DI.r2O_s, DI.r3O_s, DI.ofO_l, DI.ofO_t, DI.enO_s, DI.enO_t, DI.zpO_s, DI.slot_0, DI.slot_s, DI.ev_var, DI.ev_cst, DI.ev_glb, DI.ev_bin, DI.ev_neg, DI.ev_cmp1, DI.ev_cmp2, DI.ev_and, DI.ev_or, DI.ev_one, DI.ev_not, DI.ev_orV, DI.ev_ite, DI.ev_tup, DI.ev_lst, DI.ev_lstS, DI.ev_ix, DI.ev_sl, DI.partE_no, DI.partE_var, DI.partE_cst, DI.partE_neg, DI.partE_bin, DI.ev_rev, DI.ev_p1, DI.ev_p2, DI.ev_dsp, DI.ev_dix, DI.ev_call, DI.ev_cals, DI.ev_lc, DI.lcE_s, DI.evs_nil, DI.evs_cons, DI.evS_nil, DI.evS_star, DI.evS_tup, DI.evS_cst, DI.evS_var, DI.evS_bin, DI.evS_ix, DI.evt_nil, DI.evt_cons, DI.evi_ofl, DI.evi_rng1, DI.evi_rng2, DI.evi_rng3, DI.evi_enum, DI.evi_zip, DI.kn_nx, DI.kn_rt, DI.kn_bk, DI.kn_ct, DI.nxO_s, DI.rtO_s, DI.asgO_s, DI.parO_s, DI.setAll_nil, DI.stO_s, DI.a3_s, DI.ifO_t, DI.ifO_f, DI.ifO_p, DI.exO_s, DI.forK_s, DI.putE_0, DI.putE_s, DI.cE_s, DI.bindP_v, DI.ownO_l, DI.sK_s, DI.setAll_cons, DI.bindP_t, DI.bindP_tl, DI.bindPs_nil, DI.bK_s, DI.bindPs_cons, DI.wipeD_nil, DI.wipeD_cons, DI.exS_asg, DI.exS_own, DI.exS_par, DI.exS_app, DI.exS_put, DI.exS_ret, DI.exS_retN, DI.exS_pass, DI.exS_brk, DI.exS_cnt, DI.exS_rse, DI.exS_exp, DI.exS_ife, DI.exSs_nil, DI.exSs_cons, DI.exS_for, DI.binD_add, DI.binD_sub, DI.binD_mul, DI.binD_fdiv, DI.binD_mod, DI.binD_pow, DI.addD_i, DI.addD_l, DI.subD_i, DI.fdivD_i, DI.modD_i, DI.negD_i, DI.cmpD_eq, DI.cmpD_ne, DI.cmpD_lt, DI.cmpD_le, DI.cmpD_gt, DI.cmpD_ge, DI.cmpD_is, DI.cmpD_isn, DI.cmpD_inn, DI.cmpD_nin, DI.isD_nn, DI.isD_in, DI.isD_ln, DI.isD_tn, DI.isD_bb, DI.eqD_i, DI.eqD_s, DI.p1D_len_l, DI.p1D_len_t, DI.p1D_abs, DI.p1D_int, DI.p1D_intb, DI.p2D_min, DI.p2D_max, DI.ixD_l, DI.ixD_t, DI.appD_l, DI.atI_0, DI.atI_1, DI.atI_2, DI.atI_3, DI.outD_rt, DI.outD_nx, DI.rK_nx, DI.rK_rt, List.set_cons_zero, List.set_cons_succ, decide_true, decide_false, Bool.not_true, Bool.not_false, Bool.and_true, Bool.true_and, Bool.and_false, Bool.false_and, Bool.or_true, Bool.true_or, Bool.or_false, Bool.false_or, if_true, if_false, Bool.false_eq_true, Option.map_some, Option.bind_some, List.map_cons, List.map_nil, List.map_append, List.cons_append, List.nil_append, not_true_eq_false, not_false_eq_true, and_true, true_and, Bool.not_not, eq_self, List.length_append, List.length_map, List.length_cons, List.length_nil, Nat.zero_add, Int.natCast_zero, Int.natCast_add, Int.cast_ofNat_Int, Int.natCast_one, Nat.succ_eq_add_one, $ls,*] $l)
theorem wstep_ix {rule : Str} {n : Nat} {acc : List (Int × Int × Int)} {x : (Int × Int) × Nat} (hx : x.2 < n) (h : ∀ t ∈ acc, ∃ k : Nat, k < n ∧ t.1 = k) : ∀ t ∈ wstep rule acc x, ∃ k : Nat, k < n ∧ t.1 = k := by
  intro t ht
  rcases nil_or_app acc with rfl | ⟨xs, l, rfl⟩
  · unfold wstep at ht
    have hq : ∀ {a b : Int}, t ∈ ([] : List (Int × Int × Int)) ++ [((x.2 : Int), a, b)] → ∃ k : Nat, k < n ∧ t.1 = k := fun hm => by
      simp at hm; exact ⟨x.2, hx, by rw [hm]⟩
    split at ht
    · exact hq ht
    · split at ht
      · exact hq ht
      · split at ht
        · exact hq ht
        · cases ht
  · have hl := h l (by simp)
    have hxs : ∀ t ∈ xs, ∃ k : Nat, k < n ∧ t.1 = k := fun t ht => h t (by simp [ht])
    have key : ∀ {a b c e : Int}, t ∈ xs ++ [(l.1, c, e)] ++ [((x.2 : Int), a, b)] → ∃ k : Nat, k < n ∧ t.1 = k := fun hm => by
      rcases List.mem_append.mp hm with hm | hm
      · rcases List.mem_append.mp hm with hm | hm
        · exact hxs t hm
        · simp at hm; rw [hm]; exact hl
      · simp at hm; exact ⟨x.2, hx, by rw [hm]⟩
    rw [wstep_app] at ht
    split at ht
    · exact key (c := l.2.1) (e := l.2.2) ht
    · split at ht
      · exact key (c := l.2.1) (e := l.2.2) ht
      · split at ht
        · exact key ht
        · exact h t ht
theorem worked_ix (rule : Str) (rs : List (Int × Int)) : ∀ t ∈ workedR rule rs, ∃ k : Nat, k < rs.length ∧ t.1 = k := by
  unfold workedR
  have key : ∀ (l : List ((Int × Int) × Nat)) (acc : List (Int × Int × Int)), (∀ x ∈ l, x.2 < rs.length) → (∀ t ∈ acc, ∃ k : Nat, k < rs.length ∧ t.1 = k) → ∀ t ∈ l.foldl (wstep rule) acc, ∃ k : Nat, k < rs.length ∧ t.1 = k := by
    intro l
    induction l with
    | nil => intro acc _ h; exact h
    | cons x r ih =>
      intro acc hl h
      rw [List.foldl_cons]
      exact ih _ (fun y hy => hl y (List.mem_cons_of_mem _ hy)) (wstep_ix (hl x List.mem_cons_self) h)
  refine key _ _ (fun x hx => ?_) (fun t ht => by cases ht)
  exact (List.getElem?_eq_some_iff.mp (List.mem_zipIdx_iff_getElem?.mp hx)).1
theorem worked_len (rule : Str) (rs : List (Int × Int)) : (workedR rule rs).length ≤ rs.length := by
  unfold workedR
  have key : ∀ (l : List ((Int × Int) × Nat)) (acc : List (Int × Int × Int)), (l.foldl (wstep rule) acc).length ≤ acc.length + l.length := by
    intro l
    induction l with
    | nil => intro acc; simp
    | cons x r ih =>
      intro acc
      rw [List.foldl_cons]
      have := ih (wstep rule acc x)
      have := wstep_len rule acc x
      simp only [List.length_cons]; omega
  have := key rs.zipIdx []
  simpa using this
abbrev dRules : D := .tuple [.str "let", .str "skip", .str "queue", .str "replace"]
section
variable {d : Nat} {rs : List (Int × Int)} {rule : Str}
theorem s13 (h : 1 < d) (hr : OkR rs) (hi : inD (.str rule) dRules = some true) : TT G d 13 [dZ rs, .str rule] = some .none := by
  obtain ⟨d, rfl⟩ : ∃ e, d = e + 1 := ⟨d - 1, by omega⟩
  rw [tt d 13 _ r13 rfl, run_eq [some (dZ rs), some (.str rule)] rfl, show r13.body = b13 from rfl]
  simp! only [b13, s0 (d := d) (by omega) hr, hi]
def wR (rs : List (Int × Int)) (t : Int × Int × Int) : Int × Int := rs.getD t.1.toNat (0, 0)
theorem wR_at {t : Int × Int × Int} (h : ∃ k : Nat, k < rs.length ∧ t.1 = k) : L2.atI (rs.map dP) t.1 = some (dP (wR rs t)) := by
  obtain ⟨k, hk, e⟩ := h
  refine atI_get e ?_
  unfold wR
  rw [e, Int.toNat_natCast, List.getD_eq_getElem?_getD, List.getElem?_eq_getElem hk]
  rfl
theorem s14 (h : 1 < d) (hr : OkR rs) : TT G d 14 [dZ rs] = some (.list (((workedR "queue" rs).map fun t => t.2.1 - (wR rs t).1).map .int)) := by
  obtain ⟨d, rfl⟩ : ∃ e, d = e + 1 := ⟨d - 1, by omega⟩
  rw [tt d 14 _ r14 rfl, run_eq [some (dZ rs), none, none, none] rfl, show r14.body = b14 from rfl]
  have e : compL (lcF (TT G d) (.bin .sub (.var 2) (.ix (.ix (.var 0) (.var 1)) (.cst (.int 0)))) (.t (.cons (.v 1) (.cons (.v 2) (.cons (.v 3) .nil)))) .nil [1, 2, 3] [some (dZ rs), none, none, none]) ((workedR "queue" rs).map dT) = some (((workedR "queue" rs).map fun t => t.2.1 - (wR rs t).1).map .int) :=
    lc_map dT .int _ _ fun t ht => by
      have hx := wR_at (worked_ix _ _ t ht)
      simp! only [lcF, hx]
  simp! only [b14, s0 (d := d) (by omega) hr, s1 (d := d) (by omega) hr (rule := "queue") (by decide +kernel), e]
theorem s25 (h : 2 < d) (hr : OkR rs) (hi : inD (.str rule) dRules = some true) (hk : PySem.PyData.strOk rule = true) : TT G d 25 [dZ rs, .str rule] = some (.list (((workedR rule rs).map (·.2)).map dP)) := by
  obtain ⟨d, rfl⟩ : ∃ e, d = e + 1 := ⟨d - 1, by omega⟩
  rw [tt d 25 _ r25 rfl, run_eq [some (dZ rs), some (.str rule), none, none, none] rfl, show r25.body = b25 from rfl]
  have e : compL (lcF (TT G d) b25e0 (.t (.cons (.v 2) (.cons (.v 3) (.cons (.v 4) .nil)))) .nil [2, 3, 4] [some (dZ rs), some (.str rule), none, none, none]) ((workedR rule rs).map dT) = some (((workedR rule rs).map (·.2)).map dP) :=
    lc_map dT dP _ _ fun t ht => by simp! only [lcF, b25e0]
  simp! only [b25, s13 (d := d) (by omega) hr hi, s1 (d := d) (by omega) hr hk, e]
def lostR (rule : Str) (rs : List (Int × Int)) : List Int := ((List.range rs.length).filter fun (k : Nat) => !decide ((k : Int) ∈ (workedR rule rs).map (·.1))).map fun (k : Nat) => (k : Int)
theorem s26 (h : 2 < d) (hr : OkR rs) (hi : inD (.str rule) dRules = some true) (hk : PySem.PyData.strOk rule = true) : TT G d 26 [dZ rs, .str rule] = some (.list ((lostR rule rs).map .int)) := by
  obtain ⟨d, rfl⟩ : ∃ e, d = e + 1 := ⟨d - 1, by omega⟩
  rw [tt d 26 _ r26 rfl, run_eq [some (dZ rs), some (.str rule), none, none, none] rfl, show r26.body = b26 from rfl]
  have e : compL (lcF (TT G d) b26e1 (.t (.cons (.v 3) (.cons (.v 4) (.cons (.v 4) .nil)))) .nil [3, 4] [some (dZ rs), some (.str rule), none, none, none]) ((workedR rule rs).map dT) = some (((workedR rule rs).map (·.1)).map .int) :=
    lc_map dT .int _ _ fun t ht => by simp! only [lcF, b26e1]
  have e2 : compL (lcF (TT G d) b26e0 (.v 3) b26t0 [3] [some (dZ rs), some (.str rule), some (.list (((workedR rule rs).map (·.1)).map .int)), none, none]) ((List.range rs.length).map fun (k : Nat) => .int k) = some ((lostR rule rs).map .int) :=
    lc_filter (fun (k : Nat) => PyData.int k) .int (fun (k : Nat) => !decide ((k : Int) ∈ (workedR rule rs).map (·.1))) (fun (k : Nat) => (k : Int)) _ fun k _ => by
      simp! only [lcF, b26e0, b26t0, inD_ints]
      rw [lcC_s]
  have l1 := hr.len
  simp! only [b26, s13 (d := d) (by omega) hr hi, s1 (d := d) (by omega) hr hk, e, rng0 (n := rs.length) (by omega)]
  rw [e2]
  simp! only []
def brokenR (rule : Str) (rs : List (Int × Int)) : List Int := ((workedR rule rs).filter fun t => decide (t.2.2 - t.2.1 < (wR rs t).2)).map (·.1)
theorem s27 (h : 2 < d) (hr : OkR rs) (hi : inD (.str rule) dRules = some true) (hk : PySem.PyData.strOk rule = true) : TT G d 27 [dZ rs, .str rule] = some (.list ((brokenR rule rs).map .int)) := by
  obtain ⟨d, rfl⟩ : ∃ e, d = e + 1 := ⟨d - 1, by omega⟩
  rw [tt d 27 _ r27 rfl, run_eq [some (dZ rs), some (.str rule), none, none, none] rfl, show r27.body = b27 from rfl]
  have e : compL (lcF (TT G d) b27e0 (.t (.cons (.v 2) (.cons (.v 3) (.cons (.v 4) .nil)))) b27t0 [2, 3, 4] [some (dZ rs), some (.str rule), none, none, none]) ((workedR rule rs).map dT) = some ((brokenR rule rs).map .int) :=
    lc_filter dT .int (fun t => decide (t.2.2 - t.2.1 < (wR rs t).2)) _ _ fun t ht => by
      have hx := wR_at (worked_ix _ _ t ht)
      simp! only [lcF, b27e0, b27t0, hx]
      simp only [decide_eq_true_eq]
  simp! only [b27, s13 (d := d) (by omega) hr hi, s1 (d := d) (by omega) hr hk, e]
def cntR (W : List (Int × Int × Int)) (x : Int) : Int := ((W.filter fun t => decide (t.2.1 ≤ x) && decide (x < t.2.2)).length : Nat)
def mostR (rule : Str) (rs : List (Int × Int)) : Int := ((workedR rule rs).map fun t => cntR (workedR rule rs) t.2.1).foldl max 0
theorem s28 (h : 2 < d) (hr : OkR rs) (hi : inD (.str rule) dRules = some true) (hk : PySem.PyData.strOk rule = true) : TT G d 28 [dZ rs, .str rule] = some (.int (mostR rule rs)) := by
  obtain ⟨d, rfl⟩ : ∃ e, d = e + 1 := ⟨d - 1, by omega⟩
  rw [tt d 28 _ r28 rfl, run_eq [some (dZ rs), some (.str rule), none, none, none, none, none, none] rfl, show r28.body = b28 from rfl]
  unfold mostR
  have hs := s1 (d := d) (by omega) hr hk
  generalize workedR rule rs = W at hs
  have e1 : ∀ (x : Int) (a : Option D), compL (lcF (TT G d) b28e0 (.t (.cons (.v 4) (.cons (.v 6) (.cons (.v 7) .nil)))) b28t0 [4, 6, 7] [some (dZ rs), some (.str rule), some (.list (W.map dT)), none, a, some (.int x), none, none]) (W.map dT) = some (((W.filter fun t => decide (t.2.1 ≤ x) && decide (x < t.2.2)).map fun _ => (1 : Int)).map .int) := fun x a =>
    lc_filter dT .int (fun t => decide (t.2.1 ≤ x) && decide (x < t.2.2)) (fun _ => (1 : Int)) _ fun t ht => by
      simp! only [lcF, b28e0, b28t0]
      rw [lcC_s]
  have e : compL (lcF (TT G d) b28e1 (.t (.cons (.v 4) (.cons (.v 5) (.cons (.v 4) .nil)))) .nil [4, 5] [some (dZ rs), some (.str rule), some (.list (W.map dT)), none, none, none, none, none]) (W.map dT) = some ((W.map fun t => cntR W t.2.1).map .int) :=
    lc_map dT .int _ _ fun t ht => by
      simp! only [lcF, b28e1, e1, cntR]
  simp! only [b28, s13 (d := d) (by omega) hr hi, hs, e]
  cases W with
  | nil => simp! only []; rfl
  | cons t r =>
    have c : decide ((0 : Int) < (r.length : Int) + 1) = true := decide_eq_true (by omega)
    have c' : (0 : Int) < (r.length : Int) + 1 := by omega
    simp! only [c, c']
    rw [max_ints]
    simp! only [List.foldl_cons]
    have : max 0 (cntR (t :: r) t.2.1) = cntR (t :: r) t.2.1 := by unfold cntR; omega
    rw [this]
end
end K70
set_option maxRecDepth 100000
set_option maxHeartbeats 1000000
namespace K70
open PySem DI
local macro_rules
  | `(tactic| simp! only [$ls,*]) => `(tactic| simp only [DI.a1_s, DI.a2_s, DI.bO_s, DI.cm_s, DI.andO_s, DI.andO_f, DI.andO_t, DI.orO_s, DI.orO_t, DI.orO_f, DI.notO_s, DI.iteO_t, DI.iteO_f, DI.iteO_p, DI.ch3_s, DI.ch3c_s, DI.orVO_s, DI.orVb_t, DI.orVb_f, DI.truthD_n, DI.truthD_l, DI.truthD_t, DI.tupO_s, DI.lstO_s, DI.lstSO_s, DI.cnsO_s, DI.appO_l, DI.appO_t, DI.slO_s, DI.clO_s, DI.scO_b, DI.scO_i, DI.scO_n, DI.scO_x, DI.dspO_s, DI.lcC_t, DI.lcC_f, DI.lcC_p, DI.lcK_s, DI.tsO_t, DI.tsO_f, DI.tsO_1, DI.r1O_s, DI.r2O_s, DI.r3O_s, DI.ofO_l, DI.ofO_t, DI.enO_s, DI.enO_t, DI.zpO_s, DI.slot_0, DI.slot_s, DI.ev_var, DI.ev_cst, DI.ev_glb, DI.ev_bin, DI.ev_neg, DI.ev_cmp1, DI.ev_cmp2, DI.ev_and, DI.ev_or, DI.ev_one, DI.ev_not, DI.ev_orV, DI.ev_ite, DI.ev_tup, DI.ev_lst, DI.ev_lstS, DI.ev_ix, DI.ev_sl, DI.partE_no, DI.partE_var, DI.partE_cst, DI.partE_neg, DI.partE_bin, DI.ev_rev, DI.ev_p1, DI.ev_p2, DI.ev_dsp, DI.ev_dix, DI.ev_call, DI.ev_cals, DI.ev_lc, DI.lcE_s, DI.evs_nil, DI.evs_cons, DI.evS_nil, DI.evS_star, DI.evS_tup, DI.evS_cst, DI.evS_var, DI.evS_bin, DI.evS_ix, DI.evt_nil, DI.evt_cons, DI.evi_ofl, DI.evi_rng1, DI.evi_rng2, DI.evi_rng3, DI.evi_enum, DI.evi_zip, DI.kn_nx, DI.kn_rt, DI.kn_bk, DI.kn_ct, DI.nxO_s, DI.rtO_s, DI.asgO_s, DI.parO_s, DI.setAll_nil, DI.stO_s, DI.a3_s, DI.ifO_t, DI.ifO_f, DI.ifO_p, DI.exO_s, DI.forK_s, DI.putE_0, DI.putE_s, DI.cE_s, DI.bindP_v, DI.ownO_l, DI.sK_s, DI.setAll_cons, DI.bindP_t, DI.bindP_tl, DI.bindPs_nil, DI.bK_s, DI.bindPs_cons, DI.wipeD_nil, DI.wipeD_cons, DI.exS_asg, DI.exS_own, DI.exS_par, DI.exS_app, DI.exS_put, DI.exS_ret, DI.exS_retN, DI.exS_pass, DI.exS_brk, DI.exS_cnt, DI.exS_rse, DI.exS_exp, DI.exS_ife, DI.exSs_nil, DI.exSs_cons, DI.exS_for, DI.binD_add, DI.binD_sub, DI.binD_mul, DI.binD_fdiv, DI.binD_mod, DI.binD_pow, DI.addD_i, DI.addD_l, DI.subD_i, DI.fdivD_i, DI.modD_i, DI.negD_i, DI.cmpD_eq, DI.cmpD_ne, DI.cmpD_lt, DI.cmpD_le, DI.cmpD_gt, DI.cmpD_ge, DI.cmpD_is, DI.cmpD_isn, DI.cmpD_inn, DI.cmpD_nin, DI.isD_nn, DI.isD_in, DI.isD_ln, DI.isD_tn, DI.isD_bb, DI.eqD_i, DI.eqD_s, DI.p1D_len_l, DI.p1D_len_t, DI.p1D_abs, DI.p1D_int, DI.p1D_intb, DI.p2D_min, DI.p2D_max, DI.ixD_l, DI.ixD_t, DI.appD_l, DI.atI_0, DI.atI_1, DI.atI_2, DI.atI_3, DI.outD_rt, DI.outD_nx, DI.rK_nx, DI.rK_rt, List.set_cons_zero, List.set_cons_succ, decide_true, decide_false, Bool.not_true, Bool.not_false, Bool.and_true, Bool.true_and, Bool.and_false, Bool.false_and, Bool.or_true, Bool.true_or, Bool.or_false, Bool.false_or, if_true, if_false, Bool.false_eq_true, Option.map_some, Option.bind_some, List.map_cons, List.map_nil, List.map_append, List.cons_append, List.nil_append, not_true_eq_false, not_false_eq_true, and_true, true_and, Bool.not_not, eq_self, List.length_append, List.length_map, List.length_cons, List.length_nil, Nat.zero_add, Int.natCast_zero, Int.natCast_add, Int.cast_ofNat_Int, Int.natCast_one, Nat.succ_eq_add_one, $ls,*])
local macro_rules
  | `(tactic| simp! only [$ls,*] $l:location) => `(tactic| simp only [DI.a1_s, DI.a2_s, DI.bO_s, DI.cm_s, DI.andO_s, DI.andO_f, DI.andO_t, DI.orO_s, DI.orO_t, DI.orO_f, DI.notO_s, DI.iteO_t, DI.iteO_f, DI.iteO_p, DI.ch3_s, DI.ch3c_s, DI.orVO_s, DI.orVb_t, DI.orVb_f, DI.truthD_n, DI.truthD_l, DI.truthD_t, DI.tupO_s, DI.lstO_s, DI.lstSO_s, DI.cnsO_s, DI.appO_l, DI.appO_t, DI.slO_s, DI.clO_s, DI.scO_b, DI.scO_i, DI.scO_n, DI.scO_x, DI.dspO_s, DI.lcC_t, DI.lcC_f, DI.lcC_p, DI.lcK_s, DI.tsO_t, DI.tsO_f, DI.tsO_1, DI.r1O_s, DI.r2O_s, DI.r3O_s, DI.ofO_l, DI.ofO_t, DI.enO_s, DI.enO_t, DI.zpO_s, DI.slot_0, DI.slot_s, DI.ev_var, DI.ev_cst, DI.ev_glb, DI.ev_bin, DI.ev_neg, DI.ev_cmp1, DI.ev_cmp2, DI.ev_and, DI.ev_or, DI.ev_one, DI.ev_not, DI.ev_orV, DI.ev_ite, DI.ev_tup, DI.ev_lst, DI.ev_lstS, DI.ev_ix, DI.ev_sl, DI.partE_no, DI.partE_var, DI.partE_cst, DI.partE_neg, DI.partE_bin, DI.ev_rev, DI.ev_p1, DI.ev_p2, DI.ev_dsp, DI.ev_dix, DI.ev_call, DI.ev_cals, DI.ev_lc, DI.lcE_s, DI.evs_nil, DI.evs_cons, DI.evS_nil, DI.evS_star, DI.evS_tup, DI.evS_cst, DI.evS_var, DI.evS_bin, DI.evS_ix, DI.evt_nil, DI.evt_cons, DI.evi_ofl, DI.evi_rng1, DI.evi_rng2, DI.evi_rng3, DI.evi_enum, DI.evi_zip, DI.kn_nx, DI.kn_rt, DI.kn_bk, DI.kn_ct, DI.nxO_s, DI.rtO_s, DI.asgO_s, DI.parO_s, DI.setAll_nil, DI.stO_s, DI.a3_s, DI.ifO_t, DI.ifO_f, DI.ifO_p, DI.exO_s, DI.forK_s, DI.putE_0, DI.putE_s, DI.cE_s, DI.bindP_v, DI.ownO_l, DI.sK_s, DI.setAll_cons, DI.bindP_t, DI.bindP_tl, DI.bindPs_nil, DI.bK_s, DI.bindPs_cons, DI.wipeD_nil, DI.wipeD_cons, DI.exS_asg, DI.exS_own, DI.exS_par, DI.exS_app, DI.exS_put, DI.exS_ret, DI.exS_retN, DI.exS_pass, DI.exS_brk, DI.exS_cnt, DI.exS_rse, DI.exS_exp, DI.exS_ife, DI.exSs_nil, DI.exSs_cons, DI.exS_for, DI.binD_add, DI.binD_sub, DI.binD_mul, DI.binD_fdiv, DI.binD_mod, DI.binD_pow, DI.addD_i, DI.addD_l, DI.subD_i, DI.fdivD_i, DI.modD_i, DI.negD_i, DI.cmpD_eq, DI.cmpD_ne, DI.cmpD_lt, DI.cmpD_le, DI.cmpD_gt, DI.cmpD_ge, DI.cmpD_is, DI.cmpD_isn, DI.cmpD_inn, DI.cmpD_nin, DI.isD_nn, DI.isD_in, DI.isD_ln, DI.isD_tn, DI.isD_bb, DI.eqD_i, DI.eqD_s, DI.p1D_len_l, DI.p1D_len_t, DI.p1D_abs, DI.p1D_int, DI.p1D_intb, DI.p2D_min, DI.p2D_max, DI.ixD_l, DI.ixD_t, DI.appD_l, DI.atI_0, DI.atI_1, DI.atI_2, DI.atI_3, DI.outD_rt, DI.outD_nx, DI.rK_nx, DI.rK_rt, List.set_cons_zero, List.set_cons_succ, decide_true, decide_false, Bool.not_true, Bool.not_false, Bool.and_true, Bool.true_and, Bool.and_false, Bool.false_and, Bool.or_true, Bool.true_or, Bool.or_false, Bool.false_or, if_true, if_false, Bool.false_eq_true, Option.map_some, Option.bind_some, List.map_cons, List.map_nil, List.map_append, List.cons_append, List.nil_append, not_true_eq_false, not_false_eq_true, and_true, true_and, Bool.not_not, eq_self, List.length_append, List.length_map, List.length_cons, List.length_nil, Nat.zero_add, Int.natCast_zero, Int.natCast_add, Int.cast_ofNat_Int, Int.natCast_one, Nat.succ_eq_add_one, $ls,*] $l)
def InB (m : Int) (t : Int × Int × Int) : Prop := 0 ≤ t.2.1 ∧ t.2.1 ≤ m ∧ 0 ≤ t.2.2 ∧ t.2.2 ≤ m
theorem wstep_bd {rule : Str} {acc : List (Int × Int × Int)} {x : (Int × Int) × Nat} {m : Int} (hm : 10000 ≤ m) (hx : 0 ≤ x.1.1 ∧ x.1.1 ≤ 10000 ∧ 1 ≤ x.1.2 ∧ x.1.2 ≤ 1000) (h : ∀ t ∈ acc, InB m t) : ∀ t ∈ wstep rule acc x, InB (m + 1000) t := by
  have up : ∀ {t : Int × Int × Int}, InB m t → InB (m + 1000) t := fun ⟨a, b, c, e⟩ => ⟨a, by omega, c, by omega⟩
  intro t ht
  rcases nil_or_app acc with rfl | ⟨xs, ⟨l1, l2, l3⟩, rfl⟩
  · have h2 : ¬ x.1.1 < 0 := by omega
    rw [wstep_nil hx.1] at ht
    have : t = ((x.2 : Int), x.1.1, x.1.1 + x.1.2) := by split at ht <;> simpa using ht
    subst this
    exact ⟨hx.1, by simp only; omega, by simp only; omega, by simp only; omega⟩
  · obtain ⟨q1, q2, q3, q4⟩ := h (l1, l2, l3) (by simp)
    simp only at q1 q2 q3 q4
    have hxs : ∀ t ∈ xs, InB (m + 1000) t := fun t ht => up (h t (by simp [ht]))
    have key : ∀ {a c e : Int}, (0 ≤ c ∧ c ≤ m + 1000) → (0 ≤ e ∧ e ≤ m) → t ∈ xs ++ [(l1, l2, c)] ++ [((x.2 : Int), e, e + x.1.2)] → InB (m + 1000) t := fun hc he hm => by
      rcases List.mem_append.mp hm with hm | hm
      · rcases List.mem_append.mp hm with hm | hm
        · exact hxs t hm
        · simp at hm; subst hm; exact ⟨by simp only; omega, by simp only; omega, hc.1, hc.2⟩
      · simp at hm; subst hm; exact ⟨he.1, by simp only; omega, by simp only; omega, by simp only; omega⟩
    rw [wstep_app] at ht
    simp only at ht
    split at ht
    · exact key (a := 0) ⟨q3, by omega⟩ (by split <;> omega) ht
    · split at ht
      · exact key (a := 0) ⟨q3, by omega⟩ ⟨by omega, by omega⟩ ht
      · split at ht
        · exact key (a := 0) ⟨by omega, by omega⟩ ⟨by omega, by omega⟩ ht
        · exact up (h t ht)
theorem worked_bd (rule : Str) {rs : List (Int × Int)} (hr : OkR rs) : ∀ t ∈ workedR rule rs, InB 41000 t := by
  unfold workedR
  have key : ∀ (l : List ((Int × Int) × Nat)) (acc : List (Int × Int × Int)) (m : Int), 10000 ≤ m → (∀ x ∈ l, 0 ≤ x.1.1 ∧ x.1.1 ≤ 10000 ∧ 1 ≤ x.1.2 ∧ x.1.2 ≤ 1000) → (∀ t ∈ acc, InB m t) → ∀ t ∈ l.foldl (wstep rule) acc, InB (m + 1000 * l.length) t := by
    intro l
    induction l with
    | nil => intro acc m _ _ h; simpa using h
    | cons x r ih =>
      intro acc m hm hl h
      rw [List.foldl_cons]
      have := ih (wstep rule acc x) (m + 1000) (by omega) (fun y hy => hl y (List.mem_cons_of_mem _ hy)) (wstep_bd hm (hl x List.mem_cons_self) h)
      intro t ht
      have := this t ht
      rw [List.length_cons]
      have e : m + 1000 + 1000 * (r.length : Int) = m + 1000 * ((r.length + 1 : Nat) : Int) := by omega
      rwa [e] at this
  have h2 := key rs.zipIdx [] 11000 (by omega) (fun x hx => by
    have hq := List.mem_zipIdx_iff_getElem?.mp hx
    exact hr.bd _ _ hq) (fun t ht => by cases ht)
  intro t ht
  obtain ⟨a, b, c, e⟩ := h2 t ht
  have := hr.len
  rw [List.length_zipIdx] at b e
  exact ⟨a, by omega, c, by omega⟩
structure PreR (rs : List (Int × Int)) (time : Int) : Prop where
  t0 : 0 ≤ time
  bd : ∀ (k : Nat) (p : Int × Int), rs[k]? = some p → 0 ≤ p.1 ∧ p.1 ≤ 10000 ∧ 1 ≤ p.2 ∧ p.2 ≤ 1000
  inc : ∀ (k : Nat) (p q : Int × Int), rs[k]? = some p → rs[k + 1]? = some q → p.1 < q.1
  lt : ∀ (k : Nat) (p : Int × Int), rs[k]? = some p → p.1 < time
theorem PreR.push {rs : List (Int × Int)} {time l t' : Int} (h : PreR rs time) (ht : time ≤ 10000) (hl : 1 ≤ l ∧ l ≤ 1000) (ht' : time < t') : PreR (rs ++ [(time, l)]) t' := by
  have at' : ∀ {k : Nat} {p : Int × Int}, (rs ++ [(time, l)])[k]? = some p → rs[k]? = some p ∨ (k = rs.length ∧ p = (time, l)) := fun {k p} e => by
    by_cases hk : k < rs.length
    · rw [List.getElem?_append_left hk] at e; exact .inl e
    · rw [List.getElem?_append_right (by omega)] at e
      have : k - rs.length = 0 := by
        have := (List.getElem?_eq_some_iff.mp e).1
        simp at this; omega
      rw [this] at e
      simp at e
      exact .inr ⟨by omega, e.symm⟩
  have := h.t0
  refine ⟨by omega, fun k p e => ?_, fun k p q e1 e2 => ?_, fun k p e => ?_⟩
  · rcases at' e with e | ⟨_, rfl⟩
    · exact h.bd k p e
    · exact ⟨h.t0, ht, hl.1, hl.2⟩
  · rcases at' e1 with e1 | ⟨k1, rfl⟩
    · rcases at' e2 with e2 | ⟨_, rfl⟩
      · exact h.inc k p q e1 e2
      · exact h.lt k p e1
    · rcases at' e2 with e2 | ⟨k2, _⟩
      · have := (List.getElem?_eq_some_iff.mp e2).1; omega
      · omega
  · rcases at' e with e | ⟨_, rfl⟩
    · have := h.lt k p e; omega
    · exact ht'
theorem PreR.later {rs : List (Int × Int)} {time t' : Int} (h : PreR rs time) (ht' : time < t') : PreR rs t' := by
  have := h.t0
  exact ⟨by omega, h.bd, h.inc, fun k p e => by have := h.lt k p e; omega⟩
def ruleL : List Str := ["let", "skip", "queue", "replace"]
theorem rule_ok : ∀ x ∈ ruleL, PySem.PyData.strOk x = true ∧ inD (.str x) dRules = some true := by decide +kernel
section
variable {d : Nat}
theorem runs_made (h : 0 < d) (ds : List Int) : ∀ n : Nat, n ≤ 30 → ∀ m : Int, 0 ≤ m → ∃ rs t time, forL (stF (TT G d) fuel (.v 1) b36f8) ((List.range n).map fun (k : Nat) => .int k) [some (.list (ds.map .int)), none, none, some (.list []), some (.int m), none, none, none, none, none, none, none] = some (.nx [some (.list (ds.map .int)), t, none, some (dZ rs), some (.int time), none, none, none, none, none, none, none]) ∧ OkR rs := by
  intro n hn m hm
  obtain ⟨ρ', e, rs, t, time, rfl, hl, hp⟩ := forL_inv (f := stF (TT G d) fuel (.v 1) b36f8)
    (fun i ρ => ∃ rs t time, ρ = [some (.list (ds.map .int)), t, none, some (.list (rs.map dP)), some (.int time), none, none, none, none, none, none, none] ∧ rs.length ≤ i ∧ PreR rs time)
    ((List.range n).map fun (k : Nat) => .int k) 0 [some (.list (ds.map .int)), none, none, some (.list []), some (.int m), none, none, none, none, none, none, none] ⟨[], none, m, rfl, Nat.zero_le _, ⟨hm, by simp, by simp, by simp⟩⟩ (by
      rintro j x ρ hj ⟨rs, t, time, rfl, hl, hp⟩
      rw [List.getElem?_map] at hj
      obtain ⟨i, hi, rfl⟩ := Option.map_eq_some_iff.mp hj
      obtain ⟨hjn, e0⟩ := List.getElem?_eq_some_iff.mp hi
      rw [List.getElem_range] at e0
      subst e0
      rw [List.length_range] at hjn
      have m2 : mulD (.int 2) (.int (j : Int)) = some (.int (2 * (j : Int))) := mulD_l (by decide)
      have h53 := s8 (d := d) h ds (k := 53) (many := 3) (by decide) (by decide)
      have h54 := s8 (d := d) h ds (k := 54) (many := 3) (by decide) (by decide)
      obtain ⟨v, ev, hv⟩ := pick3 (a := 40) (b := 400) (c := 1000) (mixF_pos ds 53 (many := 3) (by decide)) (mixF_lt ds 53 (many := 3) (by decide))
      obtain ⟨w, ew, hw⟩ := pick3 (a := 20) (b := 300) (c := 700) (mixF_pos ds 54 (many := 3) (by decide)) (mixF_lt ds 54 (many := 3) (by decide))
      have v0 : 0 < v := by omega
      have v1 : v ≤ 1000 := by omega
      have w0 : 0 < w := by omega
      have h60 := s8 (d := d) h ds (k := 60 + 2 * (j : Int)) (many := v) (by omega) v0
      have h61 := s8 (d := d) h ds (k := 61 + 2 * (j : Int)) (many := w) (by omega) w0
      have p1 := mixF_pos ds (60 + 2 * (j : Int)) v0
      have p2 := mixF_lt ds (60 + 2 * (j : Int)) v0
      have p3 := mixF_pos ds (61 + 2 * (j : Int)) w0
      have hz : rs.length < sizeLine := by rw [PySem.sizeLine]; omega
      by_cases c : time ≤ 10000
      · refine ⟨_, ?_, rs ++ [(time, 1 + mixF ds (60 + 2 * (j : Int)) v)], some (.int j), time + 1 + mixF ds (61 + 2 * (j : Int)) w, rfl, by simp; omega, hp.push c (by omega) (by omega)⟩
        simp! only [stF_def, b36f8, c, m2, h53, h54, ev, ew, h60, h61, hz]
      · refine ⟨_, ?_, rs, some (.int j), time + 1 + mixF ds (61 + 2 * (j : Int)) w, rfl, by omega, hp.later (by omega)⟩
        simp! only [stF_def, b36f8, c, m2, h53, h54, ev, ew, h60, h61, hz])
  simp only [Nat.zero_add, List.length_map, List.length_range] at e hl
  exact ⟨rs, t, time, e, ⟨by omega, hp.bd, hp.inc⟩⟩
theorem one_rule (h : 2 < d) {rs : List (Int × Int)} (hr : OkR rs) {rule : Str} (hm : rule ∈ ruleL) (a0 a1 a2 a4 a5 a6 : Option D) :
    stF (TT G d) fuel (.v 2) b36f7 (.str rule) [a0, a1, a2, some (dZ rs), a4, a5, a6, none, none, none, none, none] = some (.nx [a0, a1, some (.str rule), some (dZ rs), a4, some (.list ((workedR rule rs).map dT)), some (.int (mostR rule rs)), none, none, none, none, none]) := by
  obtain ⟨hk, hi⟩ := rule_ok rule hm
  have hl := hr.len
  have h12 := s12 (d := d) (by omega) hr hk
  have h25 := s25 h hr hi hk
  have h26 := s26 h hr hi hk
  have h27 := s27 h hr hi hk
  have h28 := s28 h hr hi hk
  have hx := worked_ix rule rs
  have hb := worked_bd rule hr
  have hwl := worked_len rule rs
  unfold mostR lostR brokenR at *
  generalize workedR rule rs = W at *
  have e5 : ∀ (x : Int × Int × Int), compL (lcF (TT G d) b36e5 (.v 11) b36t5 [11] [a0, a1, some (.str rule), some (dZ rs), a4, some (.list (W.map dT)), a6, none, none, none, some (dT x), none]) (W.map dT) = some ((W.filter fun t => decide (t.2.1 ≤ x.2.1) && decide (x.2.1 < t.2.2)).map dT) := fun x => by
    have := lc_filter (T := TT G d) (elt := b36e5) (p := .v 11) (ifs := b36t5) (vs := [11]) (ρ := [a0, a1, some (.str rule), some (dZ rs), a4, some (.list (W.map dT)), a6, none, none, none, some (dT x), none]) dT dT (fun t => decide (t.2.1 ≤ x.2.1) && decide (x.2.1 < t.2.2)) id W fun t ht => by
      simp! only [lcF, b36e5, b36t5, id]
      rw [lcC_s]
    rwa [List.map_id] at this
  have e6 : compL (lcF (TT G d) b36e6 (.v 10) .nil [10] [a0, a1, some (.str rule), some (dZ rs), a4, some (.list (W.map dT)), a6, none, none, none, none, none]) (W.map dT) = some ((W.map fun t => cntR W t.2.1).map .int) :=
    lc_map dT .int _ _ fun t ht => by
      simp! only [lcF, b36e6]
      rw [e5 t]
      simp! only [cntR]
  have e4 : ∀ a : Option D, compL (lcF (TT G d) b36e4 (.v 11) .nil [11] [a0, a1, some (.str rule), some (dZ rs), a4, some (.list (W.map dT)), a, none, none, none, none, none]) (W.map dT) = some ((W.map (·.2)).map dP) := fun a =>
    lc_map dT dP _ _ fun t ht => by simp! only [lcF, b36e4]
  have e2 : ∀ (a : Option D) (k : Int), compL (lcF (TT G d) b36e2 (.v 11) .nil [11] [a0, a1, some (.str rule), some (dZ rs), a4, some (.list (W.map dT)), a, some (.int k), none, none, none, none]) (W.map dT) = some ((W.map (·.1)).map .int) := fun a k =>
    lc_map dT .int _ _ fun t ht => by simp! only [lcF, b36e2]
  have e3 : ∀ a : Option D, compL (lcF (TT G d) b36e3 (.v 7) b36t3 [7] [a0, a1, some (.str rule), some (dZ rs), a4, some (.list (W.map dT)), a, none, none, none, none, none]) ((List.range rs.length).map fun (k : Nat) => .int k) = some ((((List.range rs.length).filter fun (k : Nat) => !decide ((k : Int) ∈ W.map (·.1))).map fun (k : Nat) => (k : Int)).map .int) := fun a =>
    lc_filter (fun (k : Nat) => PyData.int k) .int (fun (k : Nat) => !decide ((k : Int) ∈ W.map (·.1))) (fun (k : Nat) => (k : Int)) _ fun k _ => by
      simp! only [lcF, b36e3, b36t3, e2, inD_ints]
      rw [lcC_s]
  have e1 : ∀ a : Option D, compL (lcF (TT G d) b36e1 (.t (.cons (.v 7) (.cons (.v 8) (.cons (.v 9) .nil)))) b36t1 [7, 8, 9] [a0, a1, some (.str rule), some (dZ rs), a4, some (.list (W.map dT)), a, none, none, none, none, none]) (W.map dT) = some (((W.filter fun t => decide (t.2.2 - t.2.1 < (wR rs t).2)).map (·.1)).map .int) := fun a =>
    lc_filter dT .int (fun t => decide (t.2.2 - t.2.1 < (wR rs t).2)) _ _ fun t ht => by
      have hx := wR_at (hx t ht)
      simp! only [lcF, b36e1, b36t1, hx]
      simp only [decide_eq_true_eq]
  have rep : cm .ne (p1D .repr (.list ((W.map (·.2)).map dP))) (p1D .repr (.list ((W.map (·.2)).map dP))) = some (.bool false) := by
    refine repr_same (k := 2) ?_ (by decide) ?_ ?_
    · rw [gd_list]; exact gds_map fun p _ => by simp
    · simp only [sm]
      exact sms_map fun p hp => by
        obtain ⟨t, ht, rfl⟩ := List.mem_map.mp hp
        obtain ⟨q1, q2, q3, q4⟩ := hb t ht
        simp only [sm, sms, Bool.and_true, Bool.and_eq_true, decide_eq_true_eq]
        omega
    · simp only [cn]
      have := cns_map (f := dP) (c := 2) (xs := W.map (·.2)) fun p _ => by simp [cn, cns]
      rw [List.length_map] at this
      omega
  have hz : 0 + 1 + W.length ≤ sizeLine := by rw [PySem.sizeLine]; omega
  have hz2 : 1 + W.length ≤ sizeLine := by rw [PySem.sizeLine]; omega
  simp! only [stF_def, b36f7, h12, e6, hz, hz2, max_ints, h25, e4, rep, h28, h26, rng0 (n := rs.length) (by omega), h27, e3, eqD_ints, e1]
theorem s36 (h : 3 < d) (ds : List Int) : TT G d 36 [.list (ds.map .int)] = some (.bool true) := by
  obtain ⟨d, rfl⟩ : ∃ e, d = e + 1 := ⟨d - 1, by omega⟩
  rw [tt d 36 _ r36 rfl, run_eq [some (.list (ds.map .int)), none, none, none, none, none, none, none, none, none, none, none] rfl, show r36.body = b36 from rfl]
  have h50 := s8 (d := d) (by omega) ds (k := 50) (many := 300) (by decide) (by decide)
  have h51 := s8 (d := d) (by omega) ds (k := 51) (many := 31) (by decide) (by decide)
  have h52 := s8 (d := d) (by omega) ds (k := 52) (many := 2) (by decide) (by decide)
  obtain ⟨v, ev, hv⟩ := pick2 (a := 30) (b := mixF ds 51 31) (mixF_pos ds 52 (many := 2) (by decide)) (mixF_lt ds 52 (many := 2) (by decide))
  have p1 := mixF_pos ds 51 (many := 31) (by decide)
  have p2 := mixF_lt ds 51 (many := 31) (by decide)
  obtain ⟨rs, t, time, e, hr⟩ := runs_made (d := d) (by omega) ds v.toNat (by omega) (mixF ds 50 300) (mixF_pos ds 50 (by decide))
  obtain ⟨ρ', e2, a2, a5, a6, rfl⟩ := forL_fold (f := stF (TT G d) fuel (.v 2) b36f7) PyData.str (fun (_ : Unit) ρ => ∃ a2 a5 a6, ρ = [some (.list (ds.map .int)), t, a2, some (dZ rs), some (.int time), a5, a6, none, none, none, none, none]) (fun s _ => s) ruleL () [some (.list (ds.map .int)), t, none, some (dZ rs), some (.int time), none, none, none, none, none, none, none] ⟨_, _, _, rfl⟩ (by
    rintro - x ρ hm ⟨a2, a5, a6, rfl⟩
    exact ⟨_, one_rule (by omega) hr hm _ _ _ _ _ _, _, _, _, rfl⟩)
  have hk : PySem.PyData.strOk "queue" = true := by decide +kernel
  have h12 := s12 (d := d) (by omega) hr hk
  have e0 : compL (lcF (TT G d) b36e0 (.t (.cons (.v 7) (.cons (.v 8) (.cons (.v 9) .nil)))) .nil [7, 8, 9] [some (.list (ds.map .int)), t, a2, some (dZ rs), some (.int time), a5, a6, none, none, none, none, none]) ((workedR "queue" rs).map dT) = some (((workedR "queue" rs).map fun t => t.2.1 - (wR rs t).1).map .int) :=
    lc_map dT .int _ _ fun t ht => by
      have hx := wR_at (worked_ix _ _ t ht)
      simp! only [lcF, b36e0, hx]
  simp only [ruleL, List.map_cons, List.map_nil] at e2
  simp! only [b36, h50, h51, h52, ev, rng0' (i := v) (by omega) (by omega), e, e2, s14 (d := d) (by omega) hr, h12, e0, eqD_ints]
end
end K70
set_option maxRecDepth 100000
set_option maxHeartbeats 1000000
namespace K70
open PySem DI
local macro_rules
  | `(tactic| simp! only [$ls,*]) => `(tactic| simp only [DI.a1_s, DI.a2_s, DI.bO_s, DI.cm_s, DI.andO_s, DI.andO_f, DI.andO_t, DI.orO_s, DI.orO_t, DI.orO_f, DI.notO_s, DI.iteO_t, DI.iteO_f, DI.iteO_p, DI.ch3_s, DI.ch3c_s, DI.orVO_s, DI.orVb_t, DI.orVb_f, DI.truthD_n, DI.truthD_l, DI.truthD_t, DI.tupO_s, DI.lstO_s, DI.lstSO_s, DI.cnsO_s, DI.appO_l, DI.appO_t, DI.slO_s, DI.clO_s, DI.scO_b, DI.scO_i, DI.scO_n, DI.scO_x, DI.dspO_s, DI.lcC_t, DI.lcC_f, DI.lcC_p, DI.lcK_s, DI.tsO_t, DI.tsO_f, DI.tsO_1, DI.r1O_s, DI.r2O_s, DI.r3O_s, DI.ofO_l, DI.ofO_t, DI.enO_s, DI.enO_t, DI.zpO_s, DI.slot_0, DI.slot_s, DI.ev_var, DI.ev_cst, DI.ev_glb, DI.ev_bin, DI.ev_neg, DI.ev_cmp1, DI.ev_cmp2, DI.ev_and, DI.ev_or, DI.ev_one, DI.ev_not, DI.ev_orV, DI.ev_ite, DI.ev_tup, DI.ev_lst, DI.ev_lstS, DI.ev_ix, DI.ev_sl, DI.partE_no, DI.partE_var, DI.partE_cst, DI.partE_neg, DI.partE_bin, DI.ev_rev, DI.ev_p1, DI.ev_p2, DI.ev_dsp, DI.ev_dix, DI.ev_call, DI.ev_cals, DI.ev_lc, DI.lcE_s, DI.evs_nil, DI.evs_cons, DI.evS_nil, DI.evS_star, DI.evS_tup, DI.evS_cst, DI.evS_var, DI.evS_bin, DI.evS_ix, DI.evt_nil, DI.evt_cons, DI.evi_ofl, DI.evi_rng1, DI.evi_rng2, DI.evi_rng3, DI.evi_enum, DI.evi_zip, DI.kn_nx, DI.kn_rt, DI.kn_bk, DI.kn_ct, DI.nxO_s, DI.rtO_s, DI.asgO_s, DI.parO_s, DI.setAll_nil, DI.stO_s, DI.a3_s, DI.ifO_t, DI.ifO_f, DI.ifO_p, DI.exO_s, DI.forK_s, DI.putE_0, DI.putE_s, DI.cE_s, DI.bindP_v, DI.ownO_l, DI.sK_s, DI.setAll_cons, DI.bindP_t, DI.bindP_tl, DI.bindPs_nil, DI.bK_s, DI.bindPs_cons, DI.wipeD_nil, DI.wipeD_cons, DI.exS_asg, DI.exS_own, DI.exS_par, DI.exS_app, DI.exS_put, DI.exS_ret, DI.exS_retN, DI.exS_pass, DI.exS_brk, DI.exS_cnt, DI.exS_rse, DI.exS_exp, DI.exS_ife, DI.exSs_nil, DI.exSs_cons, DI.exS_for, DI.binD_add, DI.binD_sub, DI.binD_mul, DI.binD_fdiv, DI.binD_mod, DI.binD_pow, DI.addD_i, DI.addD_l, DI.subD_i, DI.fdivD_i, DI.modD_i, DI.negD_i, DI.cmpD_eq, DI.cmpD_ne, DI.cmpD_lt, DI.cmpD_le, DI.cmpD_gt, DI.cmpD_ge, DI.cmpD_is, DI.cmpD_isn, DI.cmpD_inn, DI.cmpD_nin, DI.isD_nn, DI.isD_in, DI.isD_ln, DI.isD_tn, DI.isD_bb, DI.eqD_i, DI.eqD_s, DI.p1D_len_l, DI.p1D_len_t, DI.p1D_abs, DI.p1D_int, DI.p1D_intb, DI.p2D_min, DI.p2D_max, DI.ixD_l, DI.ixD_t, DI.appD_l, DI.atI_0, DI.atI_1, DI.atI_2, DI.atI_3, DI.outD_rt, DI.outD_nx, DI.rK_nx, DI.rK_rt, List.set_cons_zero, List.set_cons_succ, decide_true, decide_false, Bool.not_true, Bool.not_false, Bool.and_true, Bool.true_and, Bool.and_false, Bool.false_and, Bool.or_true, Bool.true_or, Bool.or_false, Bool.false_or, if_true, if_false, Bool.false_eq_true, Option.map_some, Option.bind_some, List.map_cons, List.map_nil, List.map_append, List.cons_append, List.nil_append, not_true_eq_false, not_false_eq_true, and_true, true_and, Bool.not_not, eq_self, List.length_append, List.length_map, List.length_cons, List.length_nil, Nat.zero_add, Int.natCast_zero, Int.natCast_add, Int.cast_ofNat_Int, Int.natCast_one, Nat.succ_eq_add_one, $ls,*])
local macro_rules
  | `(tactic| simp! only [$ls,*] $l:location) => `(tactic| simp only [DI.a1_s, DI.a2_s, DI.bO_s, DI.cm_s, DI.andO_s, DI.andO_f, DI.andO_t, DI.orO_s, DI.orO_t, DI.orO_f, DI.notO_s, DI.iteO_t, DI.iteO_f, DI.iteO_p, DI.ch3_s, DI.ch3c_s, DI.orVO_s, DI.orVb_t, DI.orVb_f, DI.truthD_n, DI.truthD_l, DI.truthD_t, DI.tupO_s, DI.lstO_s, DI.lstSO_s, DI.cnsO_s, DI.appO_l, DI.appO_t, DI.slO_s, DI.clO_s, DI.scO_b, DI.scO_i, DI.scO_n, DI.scO_x, DI.dspO_s, DI.lcC_t, DI.lcC_f, DI.lcC_p, DI.lcK_s, DI.tsO_t, DI.tsO_f, DI.tsO_1, DI.r1O_s, DI.r2O_s, DI.r3O_s, DI.ofO_l, DI.ofO_t, DI.enO_s, DI.enO_t, DI.zpO_s, DI.slot_0, DI.slot_s, DI.ev_var, DI.ev_cst, DI.ev_glb, DI.ev_bin, DI.ev_neg, DI.ev_cmp1, DI.ev_cmp2, DI.ev_and, DI.ev_or, DI.ev_one, DI.ev_not, DI.ev_orV, DI.ev_ite, DI.ev_tup, DI.ev_lst, DI.ev_lstS, DI.ev_ix, DI.ev_sl, DI.partE_no, DI.partE_var, DI.partE_cst, DI.partE_neg, DI.partE_bin, DI.ev_rev, DI.ev_p1, DI.ev_p2, DI.ev_dsp, DI.ev_dix, DI.ev_call, DI.ev_cals, DI.ev_lc, DI.lcE_s, DI.evs_nil, DI.evs_cons, DI.evS_nil, DI.evS_star, DI.evS_tup, DI.evS_cst, DI.evS_var, DI.evS_bin, DI.evS_ix, DI.evt_nil, DI.evt_cons, DI.evi_ofl, DI.evi_rng1, DI.evi_rng2, DI.evi_rng3, DI.evi_enum, DI.evi_zip, DI.kn_nx, DI.kn_rt, DI.kn_bk, DI.kn_ct, DI.nxO_s, DI.rtO_s, DI.asgO_s, DI.parO_s, DI.setAll_nil, DI.stO_s, DI.a3_s, DI.ifO_t, DI.ifO_f, DI.ifO_p, DI.exO_s, DI.forK_s, DI.putE_0, DI.putE_s, DI.cE_s, DI.bindP_v, DI.ownO_l, DI.sK_s, DI.setAll_cons, DI.bindP_t, DI.bindP_tl, DI.bindPs_nil, DI.bK_s, DI.bindPs_cons, DI.wipeD_nil, DI.wipeD_cons, DI.exS_asg, DI.exS_own, DI.exS_par, DI.exS_app, DI.exS_put, DI.exS_ret, DI.exS_retN, DI.exS_pass, DI.exS_brk, DI.exS_cnt, DI.exS_rse, DI.exS_exp, DI.exS_ife, DI.exSs_nil, DI.exSs_cons, DI.exS_for, DI.binD_add, DI.binD_sub, DI.binD_mul, DI.binD_fdiv, DI.binD_mod, DI.binD_pow, DI.addD_i, DI.addD_l, DI.subD_i, DI.fdivD_i, DI.modD_i, DI.negD_i, DI.cmpD_eq, DI.cmpD_ne, DI.cmpD_lt, DI.cmpD_le, DI.cmpD_gt, DI.cmpD_ge, DI.cmpD_is, DI.cmpD_isn, DI.cmpD_inn, DI.cmpD_nin, DI.isD_nn, DI.isD_in, DI.isD_ln, DI.isD_tn, DI.isD_bb, DI.eqD_i, DI.eqD_s, DI.p1D_len_l, DI.p1D_len_t, DI.p1D_abs, DI.p1D_int, DI.p1D_intb, DI.p2D_min, DI.p2D_max, DI.ixD_l, DI.ixD_t, DI.appD_l, DI.atI_0, DI.atI_1, DI.atI_2, DI.atI_3, DI.outD_rt, DI.outD_nx, DI.rK_nx, DI.rK_rt, List.set_cons_zero, List.set_cons_succ, decide_true, decide_false, Bool.not_true, Bool.not_false, Bool.and_true, Bool.true_and, Bool.and_false, Bool.false_and, Bool.or_true, Bool.true_or, Bool.or_false, Bool.false_or, if_true, if_false, Bool.false_eq_true, Option.map_some, Option.bind_some, List.map_cons, List.map_nil, List.map_append, List.cons_append, List.nil_append, not_true_eq_false, not_false_eq_true, and_true, true_and, Bool.not_not, eq_self, List.length_append, List.length_map, List.length_cons, List.length_nil, Nat.zero_add, Int.natCast_zero, Int.natCast_add, Int.cast_ofNat_Int, Int.natCast_one, Nat.succ_eq_add_one, $ls,*] $l)
abbrev dR (f a c t : Int) : D := .tuple [.int f, .int a, .int c, .int t]
structure OkT (f a c t : Int) : Prop where
  f1 : 1 ≤ f
  f2 : f ≤ 1000
  a1 : 1 ≤ a
  a2 : a ≤ 5
  c1 : f ≤ c
  c2 : c ≤ 100000
  t1 : 1 ≤ t
  t2 : t ≤ 20
section
variable {d : Nat} {f a c t : Int}
theorem s5 (h : 0 < d) (o : OkT f a c t) : TT G d 5 [dR f a c t] = some .none := by
  obtain ⟨d, rfl⟩ : ∃ e, d = e + 1 := ⟨d - 1, by omega⟩
  rw [tt d 5 _ r5 rfl]
  rw [run_eq [some (dR f a c t), none, none, none, none] rfl]
  rw [show r5.body = b5 from rfl]
  simp [b5, enumD, forL, stF_def, o.f1, o.f2, o.a1, o.a2, o.c1, o.c2, o.t1, o.t2]
/-- Python's min -/
def mn (i j : Int) : Int := if j < i then j else i
def pw (f a : Int) (k : Nat) : Int := f * a ^ k
theorem pw_succ (f a : Int) (k : Nat) : pw f a (k + 1) = pw f a k * a := by unfold pw; rw [Int.pow_succ, Int.mul_assoc]
theorem pw_pos {f a : Int} (hf : 1 ≤ f) (ha : 1 ≤ a) : ∀ k, 1 ≤ pw f a k
  | 0 => by unfold pw; simpa using hf
  | k + 1 => by
    rw [pw_succ]
    have := pw_pos hf ha k
    have := Int.mul_le_mul_of_nonneg_left (a := 1) (b := a) (c := pw f a k) ha (by omega)
    omega
theorem pw_mono {f a : Int} (hf : 1 ≤ f) (ha : 1 ≤ a) (k : Nat) : ∀ j, pw f a k ≤ pw f a (k + j)
  | 0 => Int.le_refl _
  | j + 1 => by
    have h1 := pw_mono hf ha k j
    have h2 := pw_pos hf ha (k + j)
    have h3 := Int.mul_le_mul_of_nonneg_left (a := 1) (b := a) (c := pw f a (k + j)) ha (by omega)
    rw [← Nat.add_assoc, pw_succ]
    omega
theorem mn_step {p c a : Int} (ha : 1 ≤ a) (hc : 1 ≤ c) (hp : 1 ≤ p) : mn (mn p c * a) c = mn (p * a) c := by
  have h1 := Int.mul_le_mul_of_nonneg_left (a := 1) (b := a) (c := c) ha (by omega)
  have h2 := Int.mul_le_mul_of_nonneg_left (a := 1) (b := a) (c := p) ha (by omega)
  unfold mn
  by_cases h : c < p
  · rw [if_pos h]
    by_cases h3 : c < c * a
    · rw [if_pos h3, if_pos (by omega)]
    · rw [if_neg h3, if_pos (by omega)]; omega
  · rw [if_neg h]
def waitsF (f a c : Int) (n : Nat) : List Int := (List.range n).map fun k => mn (pw f a k) c
theorem range_at {n j : Nat} {d : D} (h : ((List.range n).map fun (k : Nat) => PyData.int k)[j]? = some d) : j < n ∧ d = .int j := by
  rw [List.getElem?_map] at h
  obtain ⟨i, h1, h2⟩ := Option.map_eq_some_iff.mp h
  obtain ⟨h3, h4⟩ := List.getElem?_eq_some_iff.mp h1
  simp at h3 h4
  subst h4
  exact ⟨h3, h2.symm⟩
theorem s6 (h : 0 < d) (o : OkT f a c t) : TT G d 6 [dR f a c t] = some (.list ((waitsF f a c (t - 1).toNat).map .int)) := by
  obtain ⟨d, rfl⟩ : ∃ e, d = e + 1 := ⟨d - 1, by omega⟩
  rw [tt d 6 _ r6 rfl]
  obtain ⟨f1, f2, a1, a2, c1, c2, t1, t2⟩ := o
  have sm : -18446744073709551616 < a ∧ a < 18446744073709551616 := by omega
  obtain ⟨ρ', e, w, i, rfl, hw⟩ := forL_inv (f := stF (TT G d) fuel (.v 3) (.cons (.app 1 (.p2 .min (.var 2) (.var 6))) (.cons (.asg (.v 2) (.bin .mul (.p2 .min (.var 2) (.var 6)) (.var 5))) .nil)))
    (fun k ρ => ∃ w i, ρ = [some (dR f a c t), some (.list ((waitsF f a c k).map .int)), some (.int w), i, some (.int f), some (.int a), some (.int c), some (.int t)] ∧ mn w c = mn (pw f a k) c)
    ((List.range (t - 1).toNat).map fun (k : Nat) => .int k) 0 [some (dR f a c t), some (.list []), some (.int f), none, some (.int f), some (.int a), some (.int c), some (.int t)] ⟨f, none, rfl, by simp [pw]⟩ (by
      rintro j x ρ hj ⟨w, i, rfl, hw⟩
      obtain ⟨hjn, rfl⟩ := range_at hj
      have hz : (waitsF f a c (0 + j)).length < sizeLine := by rw [PySem.sizeLine]; simp [waitsF]; omega
      refine ⟨_, ?_, mn w c * a, some (.int j), rfl, ?_⟩
      · have hs : waitsF f a c (0 + j + 1) = waitsF f a c (0 + j) ++ [mn w c] := by rw [hw]; simp [waitsF, List.range_succ]
        rw [hs]
        generalize waitsF f a c (0 + j) = ws at hz
        simp! only [stF_def, hz, mulD_r sm, mn]
      · rw [hw, mn_step a1 (by omega) (pw_pos f1 a1 _), ← pw_succ])
  rw [run_eq [some (dR f a c t), none, none, none, none, none, none, none] rfl]
  rw [show r6.body = b6 from rfl]
  have hr := rng0' (i := t - 1) (by omega) (by omega)
  simp only [Nat.zero_add, List.length_map, List.length_range] at e
  simp! only [b6, hr, e]
theorem s20 (h : 1 < d) (o : OkT f a c t) : TT G d 20 [dR f a c t] = some (.list ((waitsF f a c (t - 1).toNat).map .int)) := by
  obtain ⟨d, rfl⟩ : ∃ e, d = e + 1 := ⟨d - 1, by omega⟩
  rw [tt d 20 _ r20 rfl]
  rw [run_eq [some (dR f a c t)] rfl]
  rw [show r20.body = b20 from rfl]
  simp! only [b20, s5 (d := d) (by omega) o, s6 (d := d) (by omega) o]
def sumsF (ws : List Int) (n : Nat) : List Int := (List.range n).map fun t => (ws.take t).sum
theorem s21 (h : 1 < d) (o : OkT f a c t) : TT G d 21 [dR f a c t] = some (.list ((sumsF (waitsF f a c (t - 1).toNat) t.toNat).map .int)) := by
  obtain ⟨d, rfl⟩ : ∃ e, d = e + 1 := ⟨d - 1, by omega⟩
  rw [tt d 21 _ r21 rfl]
  generalize hws : waitsF f a c (t - 1).toNat = ws
  have t1 := o.t1
  have t2 := o.t2
  have hl : ws.length + 1 = t.toNat := by rw [← hws]; simp [waitsF]; omega
  obtain ⟨ρ', e, w, rfl⟩ := forL_inv (f := stF (TT G d) fuel (.v 2) (.cons (.app 1 (.bin .add (.ix (.var 1) (.neg (.cst (.int 1)))) (.var 2))) .nil))
    (fun k ρ => ∃ w, ρ = [some (dR f a c t), some (.list ((sumsF ws (k + 1)).map .int)), w])
    (ws.map .int) 0 [some (dR f a c t), some (.list [.int 0]), none] ⟨none, by simp [sumsF, List.range_succ]⟩ (by
      rintro j x ρ hj ⟨w, rfl⟩
      rw [List.getElem?_map] at hj
      obtain ⟨y, hy, rfl⟩ := Option.map_eq_some_iff.mp hj
      have hjl := (List.getElem?_eq_some_iff.mp hy).1
      have hz : j + 1 < sizeLine := by rw [PySem.sizeLine]; omega
      refine ⟨_, ?_, some (.int y), rfl⟩
      have ht : (ws.take (j + 1)).sum = (ws.take j).sum + y := by rw [List.take_succ, hy]; simp
      have hs : sumsF ws (j + 1) = sumsF ws j ++ [(ws.take j).sum] := by simp [sumsF, List.range_succ]
      have hs2 : sumsF ws (j + 1 + 1) = sumsF ws j ++ [(ws.take j).sum] ++ [(ws.take j).sum + y] := by rw [← ht, ← hs]; simp [sumsF, List.range_succ]
      have hn : (sumsF ws j).length = j := by simp [sumsF]
      simp only [Nat.zero_add, hs, hs2]
      have hz' : (sumsF ws j).length + 1 < sizeLine := by rw [hn]; exact hz
      simp! only [stF_def, atI_last, hz'])
  rw [run_eq [some (dR f a c t), none, none] rfl]
  rw [show r21.body = b21 from rfl]
  simp only [Nat.zero_add, List.length_map, hl] at e
  simp! only [b21, s6 (d := d) (by omega) o, hws, e]
theorem s33 (h : 2 < d) (o : OkT f a c t) : TT G d 33 [dR f a c t] = some (.list ((sumsF (waitsF f a c (t - 1).toNat) t.toNat).map .int)) := by
  obtain ⟨d, rfl⟩ : ∃ e, d = e + 1 := ⟨d - 1, by omega⟩
  rw [tt d 33 _ r33 rfl]
  rw [run_eq [some (dR f a c t)] rfl]
  rw [show r33.body = b33 from rfl]
  simp! only [b33, s5 (d := d) (by omega) o, s21 (d := d) (by omega) o]
theorem s34 (h : 2 < d) (o : OkT f a c t) {b : Int} (h0 : 0 ≤ b) (h1 : b ≤ 1000000) : TT G d 34 [dR f a c t, .int b] = some (.int ((sumsF (waitsF f a c (t - 1).toNat) t.toNat).filter (fun x => decide (x ≤ b))).length) := by
  obtain ⟨d, rfl⟩ : ∃ e, d = e + 1 := ⟨d - 1, by omega⟩
  rw [tt d 34 _ r34 rfl]
  rw [run_eq [some (dR f a c t), some (.int b), none] rfl]
  rw [show r34.body = b34 from rfl]
  generalize hs : sumsF (waitsF f a c (t - 1).toNat) t.toNat = ss
  have e : compL (lcF (TT G d) b34e0 (.v 2) b34t0 [2] [some (dR f a c t), some (.int b), none]) (ss.map .int) = some (((ss.filter (fun x => decide (x ≤ b))).map id).map .int) :=
    lc_filter .int .int (fun x => decide (x ≤ b)) id ss fun x _ => by by_cases q : x ≤ b <;> simp! only [lcF, b34e0, b34t0, q, id]
  simp! only [b34, s5 (d := d) (by omega) o, s21 (d := d) (by omega) o, h0, h1, hs, e, Option.map_id]
theorem s22 (h : 1 < d) (o : OkT f a c t) : TT G d 22 [dR f a c t] = some (.bool (decide (c < pw f a (t - 2).toNat))) := by
  obtain ⟨d, rfl⟩ : ∃ e, d = e + 1 := ⟨d - 1, by omega⟩
  rw [tt d 22 _ r22 rfl]
  have a1 := o.a1
  have a2 := o.a2
  have t1 := o.t1
  have t2 := o.t2
  have sm : -18446744073709551616 < a ∧ a < 18446744073709551616 := by omega
  obtain ⟨ρ', e, i, rfl⟩ := forL_inv (f := stF (TT G d) fuel (.v 2) (.cons (.asg (.v 1) (.bin .mul (.var 1) (.var 4))) .nil))
    (fun k ρ => ∃ i, ρ = [some (dR f a c t), some (.int (pw f a k)), i, some (.int f), some (.int a), some (.int c), some (.int t)])
    ((List.range (t - 2).toNat).map fun (k : Nat) => .int k) 0 [some (dR f a c t), some (.int f), none, some (.int f), some (.int a), some (.int c), some (.int t)] ⟨none, by simp [pw]⟩ (by
      rintro j x ρ hj ⟨i, rfl⟩
      refine ⟨_, ?_, some x, rfl⟩
      simp! only [stF_def, pw_succ, mulD_r sm])
  rw [run_eq [some (dR f a c t), none, none, none, none, none, none] rfl]
  rw [show r22.body = b22 from rfl]
  have hr := rng0' (i := t - 2) (by omega) (by omega)
  simp only [Nat.zero_add, List.length_map, List.length_range] at e
  simp! only [b22, s5 (d := d) (by omega) o, hr, e]
end
theorem capped {f a c t : Int} (o : OkT f a c t) : (!decide (waitsF f a c (t - 1).toNat = (List.range (t - 1).toNat).map (pw f a))) = decide (c < pw f a (t - 2).toNat) := by
  have e : waitsF f a c (t - 1).toNat = (List.range (t - 1).toNat).map (pw f a) ↔ ∀ k < (t - 1).toNat, pw f a k ≤ c := by
    unfold waitsF
    constructor
    · intro h k hk
      have := congrArg (·[k]?) h
      have hk' : (List.range (t - 1).toNat)[k]? = some k := by rw [List.getElem?_range hk]
      simp only [List.getElem?_map, hk', Option.map_some, Option.some.injEq] at this
      unfold mn at this
      split at this <;> omega
    · intro h
      refine List.map_congr_left fun k hk => ?_
      have := h k (by simpa using hk)
      unfold mn
      rw [if_neg (by omega)]
  rw [← decide_not, decide_eq_decide, e, ← Decidable.not_iff_not, Decidable.not_not]
  constructor
  · intro h hc
    by_cases ht : t = 1
    · subst ht
      have := o.c1
      simp [pw] at hc
      omega
    · have := h (t - 2).toNat (by have := o.t1; omega)
      omega
  · intro h k hk
    have := pw_mono o.f1 o.a1 k ((t - 2).toNat - k)
    have e : k + ((t - 2).toNat - k) = (t - 2).toNat := by omega
    rw [e] at this
    omega
end K70
set_option maxRecDepth 100000
set_option maxHeartbeats 1000000
namespace K70
open PySem DI
local macro_rules
  | `(tactic| simp! only [$ls,*]) => `(tactic| simp only [DI.a1_s, DI.a2_s, DI.bO_s, DI.cm_s, DI.andO_s, DI.andO_f, DI.andO_t, DI.orO_s, DI.orO_t, DI.orO_f, DI.notO_s, DI.iteO_t, DI.iteO_f, DI.iteO_p, DI.ch3_s, DI.ch3c_s, DI.orVO_s, DI.orVb_t, DI.orVb_f, DI.truthD_n, DI.truthD_l, DI.truthD_t, DI.tupO_s, DI.lstO_s, DI.lstSO_s, DI.cnsO_s, DI.appO_l, DI.appO_t, DI.slO_s, DI.clO_s, DI.scO_b, DI.scO_i, DI.scO_n, DI.scO_x, DI.dspO_s, DI.lcC_t, DI.lcC_f, DI.lcC_p, DI.lcK_s, DI.tsO_t, DI.tsO_f, DI.tsO_1, DI.r1O_s, DI.r2O_s, DI.r3O_s, DI.ofO_l, DI.ofO_t, DI.enO_s, DI.enO_t, DI.zpO_s, DI.slot_0, DI.slot_s, DI.ev_var, DI.ev_cst, DI.ev_glb, DI.ev_bin, DI.ev_neg, DI.ev_cmp1, DI.ev_cmp2, DI.ev_and, DI.ev_or, DI.ev_one, DI.ev_not, DI.ev_orV, DI.ev_ite, DI.ev_tup, DI.ev_lst, DI.ev_lstS, DI.ev_ix, DI.ev_sl, DI.partE_no, DI.partE_var, DI.partE_cst, DI.partE_neg, DI.partE_bin, DI.ev_rev, DI.ev_p1, DI.ev_p2, DI.ev_dsp, DI.ev_dix, DI.ev_call, DI.ev_cals, DI.ev_lc, DI.lcE_s, DI.evs_nil, DI.evs_cons, DI.evS_nil, DI.evS_star, DI.evS_tup, DI.evS_cst, DI.evS_var, DI.evS_bin, DI.evS_ix, DI.evt_nil, DI.evt_cons, DI.evi_ofl, DI.evi_rng1, DI.evi_rng2, DI.evi_rng3, DI.evi_enum, DI.evi_zip, DI.kn_nx, DI.kn_rt, DI.kn_bk, DI.kn_ct, DI.nxO_s, DI.rtO_s, DI.asgO_s, DI.parO_s, DI.setAll_nil, DI.stO_s, DI.a3_s, DI.ifO_t, DI.ifO_f, DI.ifO_p, DI.exO_s, DI.forK_s, DI.putE_0, DI.putE_s, DI.cE_s, DI.bindP_v, DI.ownO_l, DI.sK_s, DI.setAll_cons, DI.bindP_t, DI.bindP_tl, DI.bindPs_nil, DI.bK_s, DI.bindPs_cons, DI.wipeD_nil, DI.wipeD_cons, DI.exS_asg, DI.exS_own, DI.exS_par, DI.exS_app, DI.exS_put, DI.exS_ret, DI.exS_retN, DI.exS_pass, DI.exS_brk, DI.exS_cnt, DI.exS_rse, DI.exS_exp, DI.exS_ife, DI.exSs_nil, DI.exSs_cons, DI.exS_for, DI.binD_add, DI.binD_sub, DI.binD_mul, DI.binD_fdiv, DI.binD_mod, DI.binD_pow, DI.addD_i, DI.addD_l, DI.subD_i, DI.fdivD_i, DI.modD_i, DI.negD_i, DI.cmpD_eq, DI.cmpD_ne, DI.cmpD_lt, DI.cmpD_le, DI.cmpD_gt, DI.cmpD_ge, DI.cmpD_is, DI.cmpD_isn, DI.cmpD_inn, DI.cmpD_nin, DI.isD_nn, DI.isD_in, DI.isD_ln, DI.isD_tn, DI.isD_bb, DI.eqD_i, DI.eqD_s, DI.p1D_len_l, DI.p1D_len_t, DI.p1D_abs, DI.p1D_int, DI.p1D_intb, DI.p2D_min, DI.p2D_max, DI.ixD_l, DI.ixD_t, DI.appD_l, DI.atI_0, DI.atI_1, DI.atI_2, DI.atI_3, DI.outD_rt, DI.outD_nx, DI.rK_nx, DI.rK_rt, List.set_cons_zero, List.set_cons_succ, decide_true, decide_false, Bool.not_true, Bool.not_false, Bool.and_true, Bool.true_and, Bool.and_false, Bool.false_and, Bool.or_true, Bool.true_or, Bool.or_false, Bool.false_or, if_true, if_false, Bool.false_eq_true, Option.map_some, Option.bind_some, List.map_cons, List.map_nil, List.map_append, List.cons_append, List.nil_append, not_true_eq_false, not_false_eq_true, and_true, true_and, Bool.not_not, eq_self, List.length_append, List.length_map, List.length_cons, List.length_nil, Nat.zero_add, Int.natCast_zero, Int.natCast_add, Int.cast_ofNat_Int, Int.natCast_one, Nat.succ_eq_add_one, $ls,*])
local macro_rules
  | `(tactic| simp! only [$ls,*] $l:location) => `(tactic| simp only [DI.a1_s, DI.a2_s, DI.bO_s, DI.cm_s, DI.andO_s, DI.andO_f, DI.andO_t, DI.orO_s, DI.orO_t, DI.orO_f, DI.notO_s, DI.iteO_t, DI.iteO_f, DI.iteO_p, DI.ch3_s, DI.ch3c_s, DI.orVO_s, DI.orVb_t, DI.orVb_f, DI.truthD_n, DI.truthD_l, DI.truthD_t, DI.tupO_s, DI.lstO_s, DI.lstSO_s, DI.cnsO_s, DI.appO_l, DI.appO_t, DI.slO_s, DI.clO_s, DI.scO_b, DI.scO_i, DI.scO_n, DI.scO_x, DI.dspO_s, DI.lcC_t, DI.lcC_f, DI.lcC_p, DI.lcK_s, DI.tsO_t, DI.tsO_f, DI.tsO_1, DI.r1O_s, DI.r2O_s, DI.r3O_s, DI.ofO_l, DI.ofO_t, DI.enO_s, DI.enO_t, DI.zpO_s, DI.slot_0, DI.slot_s, DI.ev_var, DI.ev_cst, DI.ev_glb, DI.ev_bin, DI.ev_neg, DI.ev_cmp1, DI.ev_cmp2, DI.ev_and, DI.ev_or, DI.ev_one, DI.ev_not, DI.ev_orV, DI.ev_ite, DI.ev_tup, DI.ev_lst, DI.ev_lstS, DI.ev_ix, DI.ev_sl, DI.partE_no, DI.partE_var, DI.partE_cst, DI.partE_neg, DI.partE_bin, DI.ev_rev, DI.ev_p1, DI.ev_p2, DI.ev_dsp, DI.ev_dix, DI.ev_call, DI.ev_cals, DI.ev_lc, DI.lcE_s, DI.evs_nil, DI.evs_cons, DI.evS_nil, DI.evS_star, DI.evS_tup, DI.evS_cst, DI.evS_var, DI.evS_bin, DI.evS_ix, DI.evt_nil, DI.evt_cons, DI.evi_ofl, DI.evi_rng1, DI.evi_rng2, DI.evi_rng3, DI.evi_enum, DI.evi_zip, DI.kn_nx, DI.kn_rt, DI.kn_bk, DI.kn_ct, DI.nxO_s, DI.rtO_s, DI.asgO_s, DI.parO_s, DI.setAll_nil, DI.stO_s, DI.a3_s, DI.ifO_t, DI.ifO_f, DI.ifO_p, DI.exO_s, DI.forK_s, DI.putE_0, DI.putE_s, DI.cE_s, DI.bindP_v, DI.ownO_l, DI.sK_s, DI.setAll_cons, DI.bindP_t, DI.bindP_tl, DI.bindPs_nil, DI.bK_s, DI.bindPs_cons, DI.wipeD_nil, DI.wipeD_cons, DI.exS_asg, DI.exS_own, DI.exS_par, DI.exS_app, DI.exS_put, DI.exS_ret, DI.exS_retN, DI.exS_pass, DI.exS_brk, DI.exS_cnt, DI.exS_rse, DI.exS_exp, DI.exS_ife, DI.exSs_nil, DI.exSs_cons, DI.exS_for, DI.binD_add, DI.binD_sub, DI.binD_mul, DI.binD_fdiv, DI.binD_mod, DI.binD_pow, DI.addD_i, DI.addD_l, DI.subD_i, DI.fdivD_i, DI.modD_i, DI.negD_i, DI.cmpD_eq, DI.cmpD_ne, DI.cmpD_lt, DI.cmpD_le, DI.cmpD_gt, DI.cmpD_ge, DI.cmpD_is, DI.cmpD_isn, DI.cmpD_inn, DI.cmpD_nin, DI.isD_nn, DI.isD_in, DI.isD_ln, DI.isD_tn, DI.isD_bb, DI.eqD_i, DI.eqD_s, DI.p1D_len_l, DI.p1D_len_t, DI.p1D_abs, DI.p1D_int, DI.p1D_intb, DI.p2D_min, DI.p2D_max, DI.ixD_l, DI.ixD_t, DI.appD_l, DI.atI_0, DI.atI_1, DI.atI_2, DI.atI_3, DI.outD_rt, DI.outD_nx, DI.rK_nx, DI.rK_rt, List.set_cons_zero, List.set_cons_succ, decide_true, decide_false, Bool.not_true, Bool.not_false, Bool.and_true, Bool.true_and, Bool.and_false, Bool.false_and, Bool.or_true, Bool.true_or, Bool.or_false, Bool.false_or, if_true, if_false, Bool.false_eq_true, Option.map_some, Option.bind_some, List.map_cons, List.map_nil, List.map_append, List.cons_append, List.nil_append, not_true_eq_false, not_false_eq_true, and_true, true_and, Bool.not_not, eq_self, List.length_append, List.length_map, List.length_cons, List.length_nil, Nat.zero_add, Int.natCast_zero, Int.natCast_add, Int.cast_ofNat_Int, Int.natCast_one, Nat.succ_eq_add_one, $ls,*] $l)
def twiceL : List Str := ["first", "last", "each"]
theorem twice_ok : ∀ x ∈ twiceL, PySem.PyData.strOk x = true ∧ inD (.str x) (.tuple [.str "first", .str "last", .str "each"]) = some true := by decide +kernel
theorem never_ok : (PySem.PyData.strOk "skip" = true ∧ inD (.str "skip") (.tuple [.str "skip", .str "next"]) = some true) ∧ (PySem.PyData.strOk "next" = true ∧ inD (.str "next") (.tuple [.str "skip", .str "next"]) = some true) := by decide +kernel
/-- what is wanted -/
def wantZ (z : List (Int × Int)) (g : Int) (tw : Str) : List Int := if tw = "each" then comesZ z g else if tw = "first" then (comesZ z g).take 1 else (comesZ z g).drop ((comesZ z g).length - 1)
theorem starts_skip (z : List (Int × Int)) (g : Int) (tw : Str) : startsZ z g tw "skip" = wantZ z g tw := by
  have h : ¬ (("skip" : Str) = "next") := by decide +kernel
  unfold startsZ wantZ
  by_cases c : comesZ z g = []
  · rw [if_pos c, if_neg h, c]; simp
  · rw [if_neg c]
theorem starts_next (z : List (Int × Int)) (g : Int) (tw : Str) : startsZ z g tw "next" = if comesZ z g = [] then [laterZ z g] else wantZ z g tw := by
  unfold startsZ wantZ
  simp only [if_true]
theorem look3 (a b c : D) {tw : Str} (h : tw ∈ twiceL) : a2 dixD (dspD [.str "first", .str "last", .str "each"] [a, b, c]) (some (.str tw)) = some (if tw = "each" then c else if tw = "first" then a else b) := by
  have hn : ([.inr "first", .inr "last", .inr "each"] : List L2.Key).Nodup := by decide +kernel
  have e1 : dspD [.str "first", .str "last", .str "each"] [a, b, c] = some (.dict [(.str "first", a), (.str "last", b), (.str "each", c)]) := by
    simp only [dspD, keysOf, keyOf, Option.bind_some, Option.map_some]
    rw [if_pos ⟨hn, rfl, by decide⟩]
    rfl
  rw [e1]
  have f1 : ¬ (("first" : Str) = "each") := by decide +kernel
  have f2 : ¬ (("last" : Str) = "each") := by decide +kernel
  have f3 : ¬ (("last" : Str) = "first") := by decide +kernel
  have f4 : ¬ (("first" : Str) = "last") := by decide +kernel
  simp only [twiceL, List.mem_cons, List.not_mem_nil, or_false] at h
  simp only [a2_s, dixD, keyOf, Option.bind_some, lookK, List.find?_cons]
  rcases h with rfl | rfl | rfl
  · simp [f1]
  · simp [f2, f3, f4]
  · have f5 : ¬ (("first" : Str) = "each") := f1
    simp [f1, f2]
section
variable {d : Nat}
theorem one_twice (h : 2 < d) {z : List (Int × Int)} (hz : OkZ z) {g : Int} (g1 : -1000000 ≤ g) (g2 : g ≤ 3000000) {tw : Str} (hm : tw ∈ twiceL) (a0 a2 a3 a7 a8 : Option D) :
    stF (TT G d) fuel (.v 7) b35f0 (.str tw) [a0, some (dZ z), a2, a3, some (.int g), none, some (.list ((comesZ z g).map .int)), a7, a8, none] = some (.nx [a0, some (dZ z), a2, a3, some (.int g), none, some (.list ((comesZ z g).map .int)), some (.str tw), some (.list ((wantZ z g tw).map .int)), none]) := by
  obtain ⟨k1, ht⟩ := twice_ok tw hm
  obtain ⟨⟨n1, n2⟩, ⟨n3, n4⟩⟩ := never_ok
  have hs := s30 h hz g1 g2 ht n2 k1 n1
  have hn := s30 h hz g1 g2 ht n4 k1 n3
  have hl := s11 (d := d) (by omega) g hz.len1 (by have := hz.len6; omega)
  rw [starts_skip] at hs
  rw [starts_next] at hn
  have hw : (if tw = "each" then PyData.list ((comesZ z g).map .int) else if tw = "first" then .list (((comesZ z g).map PyData.int).take 1) else .list (((comesZ z g).map PyData.int).drop (((comesZ z g).map PyData.int).length - 1))) = .list ((wantZ z g tw).map .int) := by
    unfold wantZ
    split
    · rfl
    · split
      · rw [List.map_take]
      · rw [List.map_drop, List.length_map]
  have hk := look3 (.list (((comesZ z g).map PyData.int).take 1)) (.list (((comesZ z g).map PyData.int).drop (((comesZ z g).map PyData.int).length - 1))) (.list ((comesZ z g).map .int)) hm
  rw [hw] at hk
  rw [List.length_map] at hk
  by_cases c : comesZ z g = []
  · rw [if_pos c] at hn
    simp! only [stF_def, b35f0, cutD_1, cutD_m1, hk, hs, hn, eqD_ints, eqD_nil_ints, decide_eq_true c, hl]
    rw [show [PyData.int (laterZ z g)] = [laterZ z g].map .int from rfl, eqD_ints]
    simp! only []
  · rw [if_neg c] at hn
    simp! only [stF_def, b35f0, cutD_1, cutD_m1, hk, hs, hn, eqD_ints, eqD_nil_ints, decide_eq_false c, hl]
theorem one_goal (h : 2 < d) {z : List (Int × Int)} (hz : OkZ z) {g : Int} (g1 : -1000000 ≤ g) (g2 : g ≤ 3000000) (a0 a2 a3 a4 a6 a7 a8 : Option D) :
    ∃ b6 b7 b8, stF (TT G d) fuel (.v 4) b35f1 (.int g) [a0, some (dZ z), a2, a3, a4, none, a6, a7, a8, none] = some (.nx [a0, some (dZ z), a2, a3, some (.int g), none, b6, b7, b8, none]) := by
  have hl6 := hz.len6
  have hl := comesZ_len z g
  have h10 := s10 (d := d) (by omega) (z := z) g (by omega)
  have h29 := s29 h hz g1 g2
  obtain ⟨ρ', e, b7, b8, rfl⟩ := forL_fold (f := stF (TT G d) fuel (.v 7) b35f0) PyData.str (fun (_ : Unit) ρ => ∃ a7 a8, ρ = [a0, some (dZ z), a2, a3, some (.int g), none, some (.list ((comesZ z g).map .int)), a7, a8, none]) (fun s _ => s) twiceL () [a0, some (dZ z), a2, a3, some (.int g), none, some (.list ((comesZ z g).map .int)), a7, a8, none] ⟨_, _, rfl⟩ (by
    rintro - x ρ hm ⟨a7, a8, rfl⟩
    exact ⟨_, one_twice h hz g1 g2 hm _ _ _ _ _, _, _, rfl⟩)
  simp only [twiceL, List.map_cons, List.map_nil] at e
  have hb : ∀ x ∈ comesZ z g, -2000000 ≤ x ∧ x ≤ 4000000 := by
    intro x hx
    unfold comesZ at hx
    obtain ⟨k, hk, rfl⟩ := List.mem_map.mp hx
    have hk := (List.mem_filter.mp hk).1
    have hb := hz.bd k _ (z_at (by simpa using hk))
    simp only at hb
    omega
  have rep : cm .ne (p1D .repr (.list ((comesZ z g).map .int))) (p1D .repr (.list ((comesZ z g).map .int))) = some (.bool false) := by
    refine repr_same (k := 1) (by simp) (by decide) ?_ ?_
    · simp only [sm]
      exact sms_map fun x hx => by
        have := hb x hx
        simp only [sm, decide_eq_true_eq]; omega
    · simp only [cn]
      have := cns_map (f := PyData.int) (c := 0) (xs := comesZ z g) fun p _ => by simp [cn]
      omega
  refine ⟨some (.list ((comesZ z g).map .int)), b7, b8, ?_⟩
  simp! only [stF_def, b35f1, h10, h29, rep, e]
theorem spots_step {z : List (Int × Int)} (hz : OkZ z) {T : Nat → List D → Option D} (a0 a3 : Option D) (sp : List Int) (hs : sp.length ≤ 1000) {k : Nat} (hk : k < z.length) :
    ∃ ms : List Int, stF T fuel (.v 3) b35f3 (.int k) [a0, some (dZ z), some (.list (sp.map .int)), a3, none, none, none, none, none, none] = some (.nx [a0, some (dZ z), some (.list ((sp ++ ms).map .int)), some (.int k), none, none, none, none, none, none]) ∧ ms.length = 6 ∧ ∀ x ∈ ms, -1000000 ≤ x ∧ x ≤ 3000000 := by
  have ha := ix_z (i := (k : Int)) hk rfl
  have hb := hz.bd k _ (z_at hk)
  simp only at hb
  obtain ⟨p, hp, hpb⟩ : ∃ p : Int × Int, L2.atI (z.map dP) ((k : Int) - 1) = some (dP p) ∧ 0 ≤ p.1 ∧ p.1 ≤ 1000000 ∧ -1440 ≤ p.2 ∧ p.2 ≤ 1440 := by
    by_cases h0 : k = 0
    · subst h0
      rcases nil_or_app z with rfl | ⟨xs, l, rfl⟩
      · simp at hk
      · refine ⟨l, ?_, hz.bd xs.length l (by simp)⟩
        rw [List.map_append]
        exact atI_last
    · refine ⟨(tz z (k - 1), oz z (k - 1)), ?_, hz.bd (k - 1) _ (z_at (by omega))⟩
      exact ix_z (k := k - 1) (by omega) (by omega)
  refine ⟨[tz z k + oz z k + -1, tz z k + oz z k + 0, tz z k + oz z k + 1, tz z k + oz z k + 700] ++ [tz z k + p.2 - 1, tz z k + p.2], ?_, rfl, fun x hx => ?_⟩
  · have e : compL (lcF T b35e2 (.v 9) .nil [9] [a0, some (dZ z), some (.list (sp.map .int)), some (.int k), none, none, none, none, none, none]) ([-1, 0, 1, 700].map PyData.int) = some (([-1, 0, 1, 700].map fun m => tz z k + oz z k + m).map .int) :=
      lc_map PyData.int .int _ _ fun m _ => by simp! only [lcF, b35e2, ha]
    simp only [List.map_cons, List.map_nil] at e
    have z1 : sp.length + (0 + 1 + 1 + 1 + 1) ≤ sizeLine := by rw [PySem.sizeLine]; omega
    have z2 : sp.length + (0 + 1 + 1 + 1 + 1) + (0 + 1 + 1) ≤ sizeLine := by rw [PySem.sizeLine]; omega
    have z3 : sp.length + 4 ≤ sizeLine := by rw [PySem.sizeLine]; omega
    have z4 : sp.length + 4 + 2 ≤ sizeLine := by rw [PySem.sizeLine]; omega
    simp! only [stF_def, b35f3, ha, hp, e, Nat.reduceAdd, z3, z4]
    simp only [List.append_assoc, List.cons_append, List.nil_append]
  · simp only [List.mem_append, List.mem_cons, List.not_mem_nil, or_false] at hx
    omega
theorem s35 (h : 3 < d) (ds : List Int) : TT G d 35 [.list (ds.map .int)] = some (.bool true) := by
  obtain ⟨d, rfl⟩ : ∃ e, d = e + 1 := ⟨d - 1, by omega⟩
  rw [tt d 35 _ r35 rfl, run_eq [some (.list (ds.map .int)), none, none, none, none, none, none, none, none, none] rfl, show r35.body = b35 from rfl]
  obtain ⟨z, h23, hz⟩ := s23 (d := d) (by omega) ds
  have h40 := s8 (d := d) (by omega) ds (k := 40) (many := 60000) (by decide) (by decide)
  have h41 := s8 (d := d) (by omega) ds (k := 41) (many := 2) (by decide) (by decide)
  have l1 := hz.len1
  have l6 := hz.len6
  obtain ⟨ρ1, e1, sp, a3, rfl, hs1, hs2⟩ := forL_inv (f := stF (TT G d) fuel (.v 3) b35f3)
    (fun i ρ => ∃ sp a3, ρ = [some (.list (ds.map .int)), some (dZ z), some (.list (sp.map .int)), a3, none, none, none, none, none, none] ∧ sp.length = 6 * i ∧ ∀ x ∈ sp, -1000000 ≤ x ∧ x ≤ 3000000)
    ((List.range z.length).map fun (k : Nat) => .int k) 0 [some (.list (ds.map .int)), some (dZ z), some (.list []), none, none, none, none, none, none, none] ⟨[], none, rfl, rfl, by simp⟩ (by
      rintro j x ρ hj ⟨sp, a3, rfl, q1, q2⟩
      rw [List.getElem?_map] at hj
      obtain ⟨i, hi, rfl⟩ := Option.map_eq_some_iff.mp hj
      obtain ⟨hjn, e0⟩ := List.getElem?_eq_some_iff.mp hi
      rw [List.getElem_range] at e0
      subst e0
      rw [List.length_range] at hjn
      obtain ⟨ms, e, m1, m2⟩ := spots_step hz (T := TT G d) (some (.list (ds.map .int))) a3 sp (by omega) hjn
      refine ⟨_, e, _, _, rfl, by simp; omega, fun x hx => ?_⟩
      rcases List.mem_append.mp hx with hx | hx
      · exact q2 x hx
      · exact m2 x hx)
  obtain ⟨ρ2, e2, a4, a6, a7, a8, rfl⟩ := forL_fold (f := stF (TT G d) fuel (.v 4) b35f1) PyData.int
    (fun (_ : Unit) ρ => ∃ a4 a6 a7 a8, ρ = [some (.list (ds.map .int)), some (dZ z), some (.list (sp.map .int)), a3, a4, none, a6, a7, a8, none]) (fun s _ => s) sp () [some (.list (ds.map .int)), some (dZ z), some (.list (sp.map .int)), a3, none, none, none, none, none, none] ⟨_, _, _, _, rfl⟩ (by
    rintro - x ρ hm ⟨a4, a6, a7, a8, rfl⟩
    obtain ⟨q1, q2⟩ := hs2 x hm
    obtain ⟨b6, b7, b8, e⟩ := one_goal (d := d) (by omega) hz q1 q2 (some (.list (ds.map .int))) (some (.list (sp.map .int))) a3 a4 a6 a7 a8
    exact ⟨_, e, _, _, _, _, rfl⟩)
  obtain ⟨xs, ⟨lt, lo⟩, hzl⟩ : ∃ xs l, z = xs ++ [l] := by
    rcases nil_or_app z with rfl | q
    · simp at l1
    · exact q
  have hlast : L2.atI (z.map dP) (-1) = some (.tuple [.int lt, .int lo]) := by rw [hzl, List.map_append]; exact atI_last
  have hlb := hz.bd xs.length (lt, lo) (by rw [hzl]; simp)
  simp only at hlb
  obtain ⟨v, ev, hv⟩ := pick2 (a := lt) (b := mixF ds 40 60000) (mixF_pos ds 41 (many := 2) (by decide)) (mixF_lt ds 41 (many := 2) (by decide))
  have p1 := mixF_pos ds 40 (many := 60000) (by decide)
  have v0 : 0 ≤ v := by omega
  have hg : gd (.tuple [dZ (gapsZ z), dZ (doublesZ z)]) 3 = true := by
    have hp : ∀ ps : List (Int × Int), gds (ps.map dP) 1 = true := fun ps => gds_map fun p _ => by simp
    simp [hp]
  simp! only [b35, h23, rng0 (n := z.length) (by omega), e1, e2, hlast, h40, h41, ev, s15 (d := d) (by omega) hz v0, s9 (d := d) (by omega) z v, s31 (d := d) (by omega) hz, s32 (d := d) (by omega) hz, s24 (d := d) (by omega) hz, eqD_refl hg (by decide)]
/-! ### law -/
theorem s37 (h : 4 < d) {ns : List Int} (hl : ns.length ≤ 63) : runD (TT G d) 12 b37 [.list (ns.map .int)] = some (.bool true) := by
  obtain ⟨ds, h7, _, _⟩ := s7 (d := d) (by omega) hl
  rw [run_eq [some (.list (ns.map .int)), none, none, none, none, none, none, none, none, none, none, none] rfl]
  have hd : 0 < d := by omega
  have m130 := s8 hd ds (k := 130) (many := 1000) (by decide) (by decide)
  have m131 := s8 hd ds (k := 131) (many := 5) (by decide) (by decide)
  have m132 := s8 hd ds (k := 132) (many := 9000) (by decide) (by decide)
  have m133 := s8 hd ds (k := 133) (many := 2) (by decide) (by decide)
  have m134 := s8 hd ds (k := 134) (many := 20) (by decide) (by decide)
  have m135 := s8 hd ds (k := 135) (many := 2) (by decide) (by decide)
  have m136 := s8 hd ds (k := 136) (many := 60000) (by decide) (by decide)
  have m137 := s8 hd ds (k := 137) (many := 2) (by decide) (by decide)
  have p130 := mixF_pos ds 130 (many := 1000) (by decide)
  have q130 := mixF_lt ds 130 (many := 1000) (by decide)
  have p131 := mixF_pos ds 131 (many := 5) (by decide)
  have q131 := mixF_lt ds 131 (many := 5) (by decide)
  have p132 := mixF_pos ds 132 (many := 9000) (by decide)
  have q132 := mixF_lt ds 132 (many := 9000) (by decide)
  have p134 := mixF_pos ds 134 (many := 20) (by decide)
  have q134 := mixF_lt ds 134 (many := 20) (by decide)
  have p136 := mixF_pos ds 136 (many := 60000) (by decide)
  have q136 := mixF_lt ds 136 (many := 60000) (by decide)
  generalize hf : 1 + mixF ds 130 1000 = f
  generalize ha : 1 + mixF ds 131 5 = a
  obtain ⟨c, ec, hc⟩ := pick2 (a := 100000) (b := f + mixF ds 132 9000) (mixF_pos ds 133 (many := 2) (by decide)) (mixF_lt ds 133 (many := 2) (by decide))
  obtain ⟨t, et, ht⟩ := pick2 (a := 20) (b := 1 + mixF ds 134 20) (mixF_pos ds 135 (many := 2) (by decide)) (mixF_lt ds 135 (many := 2) (by decide))
  obtain ⟨b, eb, hb⟩ := pick2 (a := 1000000) (b := mixF ds 136 60000) (mixF_pos ds 137 (many := 2) (by decide)) (mixF_lt ds 137 (many := 2) (by decide))
  have o : OkT f a c t := ⟨by omega, by omega, by omega, by omega, by omega, by omega, by omega, by omega⟩
  obtain ⟨f1, f2, a1', a2', c1, c2, t1, t2⟩ := id o
  have sma : -18446744073709551616 < a ∧ a < 18446744073709551616 := by omega
  obtain ⟨ρ', e, i, rfl⟩ := forL_inv (f := stF (TT G d) fuel (.v 3) b37f2)
    (fun k ρ => ∃ i, ρ = [some (.list (ns.map .int)), some (.list (ds.map .int)), some (dR f a c t), i, none, none, some (.int f), some (.int a), some (.list ((waitsF f a c k).map .int)), some (.list (((List.range k).map (pw f a)).map .int)), some (.int (pw f a k)), none])
    ((List.range (t - 1).toNat).map fun (k : Nat) => .int k) 0 [some (.list (ns.map .int)), some (.list (ds.map .int)), some (dR f a c t), none, none, none, some (.int f), some (.int a), some (.list []), some (.list []), some (.int f), none] ⟨none, by simp [waitsF, pw]⟩ (by
      rintro j x ρ hj ⟨i, rfl⟩
      obtain ⟨hjn, rfl⟩ := range_at hj
      have z1 : (waitsF f a c (0 + j)).length < sizeLine := by rw [PySem.sizeLine]; simp [waitsF]; omega
      have z2 : j < sizeLine := by rw [PySem.sizeLine]; omega
      have e1 : waitsF f a c (0 + j + 1) = waitsF f a c (0 + j) ++ [if c < pw f a (0 + j) then c else pw f a (0 + j)] := by simp [waitsF, List.range_succ, mn]
      have e2 : (List.range (0 + j + 1)).map (pw f a) = (List.range (0 + j)).map (pw f a) ++ [pw f a (0 + j)] := by simp [List.range_succ]
      refine ⟨_, ?_, some (.int j), rfl⟩
      rw [e1, e2, pw_succ]
      have z3 : ((List.range (0 + j)).map (pw f a)).length < sizeLine := by simpa using z2
      generalize waitsF f a c (0 + j) = ws at z1
      generalize (List.range (0 + j)).map (pw f a) = ps at z3
      simp! only [stF_def, b37f2, z1, z3, mulD_r sma])
  simp only [Nat.zero_add, List.length_map, List.length_range] at e
  have hcap := capped o
  generalize hw : waitsF f a c (t - 1).toNat = ws at *
  generalize hp : (List.range (t - 1).toNat).map (pw f a) = ps at *
  have es : compL (lcF (TT G d) b37e1 (.v 3) .nil [3] [some (.list (ns.map .int)), some (.list (ds.map .int)), some (dR f a c t), i, none, none, some (.int f), some (.int a), some (.list (ws.map .int)), some (.list (ps.map .int)), some (.int (pw f a (t - 1).toNat)), none]) ((List.range t.toNat).map fun (k : Nat) => .int k) = some ((sumsF ws t.toNat).map .int) :=
    lc_map (fun (k : Nat) => PyData.int k) .int (fun t => (ws.take t).sum) _ fun k _ => by
      simp! only [lcF, b37e1]
      rw [cutD_to, ← List.map_take, sum_ints]
      simp! only []
  have h20 := s20 (d := d) (by omega) o
  have h33 := s33 (d := d) (by omega) o
  have h22 := s22 (d := d) (by omega) o
  have h34 := s34 (d := d) (by omega) o (b := b) (by omega) (by omega)
  rw [hw] at h20 h33 h34
  have rep : cm .ne (p1D .repr (.bool (decide (c < pw f a (t - 2).toNat)))) (p1D .repr (.bool (decide (c < pw f a (t - 2).toNat)))) = some (.bool false) := repr_same (k := 0) (by simp) (by decide) (by simp [sm]) (by simp [cn])
  have el : compL (lcF (TT G d) b37e0 (.v 11) b37t0 [11] [some (.list (ns.map .int)), some (.list (ds.map .int)), some (dR f a c t), i, some (.list ((sumsF ws t.toNat).map .int)), some (.int b), some (.int f), some (.int a), some (.list (ws.map .int)), some (.list (ps.map .int)), some (.int (pw f a (t - 1).toNat)), none]) ((sumsF ws t.toNat).map .int) = some ((((sumsF ws t.toNat).filter fun x => decide (x ≤ b)).map id).map .int) :=
    lc_filter .int .int (fun x => decide (x ≤ b)) id _ fun x _ => by by_cases q : x ≤ b <;> simp! only [lcF, b37e0, b37t0, q, id]
  simp! only [b37, h7, m130, m131, hf, ha, m132, m133, ec, m134, m135, et, rng0' (i := t - 1) (by omega) (by omega), e, rng0' (i := t) (by omega) (by omega), es, h20, eqD_ints, h33, h22, hcap, rep, m136, m137, eb, h34, el, List.map_id, s35 (d := d) (by omega) ds, s36 (d := d) (by omega) ds]
end
end K70
set_option maxRecDepth 100000
set_option maxHeartbeats 2000000
/-! DL: a loop that changes one of two lists of a tuple through another name. -/
namespace DI
open PySem L2
def wM : CE := .p1 .len (.call 10 (.cons (.var 0) (.cons (.ix (.var 1) (.var 2)) .nil)))
def wT : CE := .cmp (.var 4) (.cons .ne (.cst (.int 1)) .nil)
def wG : CE := .cmp (.var 4) (.cons .gt (.cst (.int 1)) .nil)
def wR : CE := .p1 .int wG
def wI : CE := .neg (.cst (.int 1))
def wQ : CE := .andB (.cmp (.var 5) (.cons .ne (.lst .nil) .nil)) (.one (.cmp (.ix (.ix (.var 5) wI) (.cst (.int 1))) (.cons .eq (.ix (.var 1) (.var 2)) .nil)))
def wP : CE := .tup (.cons (.ix (.ix (.var 5) wI) (.cst (.int 0))) (.cons (.ix (.var 1) (.bin .add (.var 2) (.cst (.int 1)))) .nil))
def wA : CE := .tup (.cons (.ix (.var 1) (.var 2)) (.cons (.ix (.var 1) (.bin .add (.var 2) (.cst (.int 1)))) .nil))
def wS : CE := .p1 .sset (.var 1)
def wL : CI := .rng1 (.bin .sub (.p1 .len (.var 1)) (.cst (.int 1)))
def wJ : CS := .ife wQ (.cons (.put 5 wI wP) .nil) (.cons (.app 5 wA) .nil)
def wF : CSs := .cons (.asg (.v 4) wM) (.cons (.ife wT (.cons (.ife wG (.cons (.asg (.v 5) (.var 7)) .nil) (.cons (.asg (.v 5) (.var 6)) .nil)) (.cons wJ (.cons (.ife wG (.cons (.asg (.v 7) (.var 5)) .nil) (.cons (.asg (.v 6) (.var 5)) .nil)) .nil))) .nil) .nil)
def wB (s0 : CS) : CSs := .cons s0 (.cons (.asg (.v 1) wS) (.cons (.asg (.v 6) (.lst .nil)) (.cons (.asg (.v 7) (.lst .nil)) (.cons (.forr (.v 2) wL wF []) (.cons (.ret (.tup (.cons (.var 6) (.cons (.var 7) .nil)))) .nil)))))
section
variable {K : PySem.W.Frag} {hide : Addr → Prop} {H H' : Hp} {σ : L2.St} {ρ : Env}
/-- a slot that stands for nothing may hold anything -/
theorem ER.any {i : Nat} {x : V} (R : ER K hide [] H σ ρ) (h : ∀ d, ρ[i]? ≠ some (some d)) : ER K hide [] H (σ.set i (some x)) ρ := by
  have e0 : ∀ {τ : L2.St}, hd hide [] τ = hide := fun {τ} => funext fun b => propext ⟨fun z => z.elim id (fun ⟨i, hi, _⟩ => by cases hi), .inl⟩
  refine ⟨R.hid, by simp [R.len], fun j d e nj => ?_, (fun j hj => by cases hj), fun j k a hj => by cases hj⟩
  have hij : i ≠ j := fun z => by subst z; exact h d e
  rw [List.getElem?_set_ne hij, e0]
  have := R.shr j d e nj
  rwa [e0] at this
theorem hd0 {τ : L2.St} : hd hide [] τ = hide := funext fun b => propext ⟨fun z => z.elim id (fun ⟨i, hi, _⟩ => by cases hi), .inl⟩
/-- less is known -/
theorem ER.less {ρ' : Env} (R : ER K hide [] H σ ρ) (hl : ρ'.length = ρ.length) (h : ∀ (i : Nat) (d : D), ρ'[i]? = some (some d) → ρ[i]? = some (some d)) : ER K hide [] H σ ρ' :=
  ⟨R.hid, by rw [R.len, hl], fun i d e n => R.shr i d (h i d e) n, (fun j hj => by cases hj), fun j k a hj => by cases hj⟩
end
/-- whole numbers alone -/
def intsD : D → Prop
  | .tuple ds => ∃ is : List Int, ds = is.map .int
  | _ => False
theorem Is.ints_cut {K : PySem.W.Frag} {h h' : Addr → Prop} {H : Hp} {v : V} {is : List Int} (i : Is K (cut h H) v (.tuple (is.map .int))) (w : ∀ b, h' b → h b ∨ ∃ vs, H b = some (.lst vs)) : Is K (cut h' H) v (.tuple (is.map .int)) := by
  cases i with
  | tup hq hn ha =>
    have e := ha.ints
    subst e
    refine .tup ?_ hn (.of_ints _)
    rcases hq with hq | hq
    · rcases hq with hq | ⟨o, hq⟩
      · obtain ⟨n, e⟩ := cut_some hq
        refine .inl (.inl ?_)
        rw [cut_no fun z => ?_]
        · exact e
        · rcases w _ z with z | ⟨vs, z⟩
          · exact n z
          · rw [z] at e; cases e
      · obtain ⟨n, e⟩ := cut_some hq
        refine .inl (.inr ⟨o, ?_⟩)
        rw [cut_no fun z => ?_]
        · exact e
        · rcases w _ z with z | ⟨vs, z⟩
          · exact n z
          · rw [z] at e; cases e
    · exact .inr hq
/-- the tuple of two lists, and all that goes with it -/
structure Two (K : PySem.W.Frag) (hide : Addr → Prop) (H0 H : Hp) (σ : L2.St) (ρ : Env) (t a b : Addr) (va vb : List V) (ga gb : List D) : Prop where
  er : ER K (fun x => (hide x ∨ x = a) ∨ x = b) [] H σ ρ
  s3 : σ[3]? = some (some (.ref t))
  ht : H t = some (.tup [.ref a, .ref b])
  ha : H a = some (.lst va)
  hb : H b = some (.lst vb)
  ab : a ≠ b
  la : va.length ≤ sizeLine
  lb : vb.length ≤ sizeLine
  ia : IsAll K (cut (fun x => (hide x ∨ x = a) ∨ x = b) H) va ga
  ib : IsAll K (cut (fun x => (hide x ∨ x = a) ∨ x = b) H) vb gb
  same : Same H0 H
  na : H0 a = none
  nb : H0 b = none
  ha0 : ¬ hide a
  hb0 : ¬ hide b
  ht0 : ¬ hide t
section
variable {K : PySem.W.Frag} {hide : Addr → Prop} {H0 H H' : Hp} {σ : L2.St} {ρ : Env} {t a b : Addr} {va vb : List V} {ga gb : List D}
theorem Two.grow (I : Two K hide H0 H σ ρ t a b va vb ga gb) (s : Same H H') : Two K hide H0 H' σ ρ t a b va vb ga gb :=
  ⟨I.er.grow s, I.s3, s _ _ I.ht, s _ _ I.ha, s _ _ I.hb, I.ab, I.la, I.lb, I.ia.mono (cut_same s), I.ib.mono (cut_same s), I.same.trans s, I.na, I.nb, I.ha0, I.hb0, I.ht0⟩
theorem Two.store {i : Nat} {x : V} {d : D} (I : Two K hide H0 H σ ρ t a b va vb ga gb) (hi : i ≠ 3) (h : Is K (cut (fun x => (hide x ∨ x = a) ∨ x = b) H) x d) : Two K hide H0 H (σ.set i (some x)) (ρ.set i (some d)) t a b va vb ga gb :=
  ⟨I.er.put (by simp) (by rw [hd0]; exact h), by rw [List.getElem?_set_ne hi]; exact I.s3, I.ht, I.ha, I.hb, I.ab, I.la, I.lb, I.ia, I.ib, I.same, I.na, I.nb, I.ha0, I.hb0, I.ht0⟩
theorem Two.junk {i : Nat} {x : V} (I : Two K hide H0 H σ ρ t a b va vb ga gb) (hi : i ≠ 3) (h : ∀ d, ρ[i]? ≠ some (some d)) : Two K hide H0 H (σ.set i (some x)) ρ t a b va vb ga gb :=
  ⟨I.er.any h, by rw [List.getElem?_set_ne hi]; exact I.s3, I.ht, I.ha, I.hb, I.ab, I.la, I.lb, I.ia, I.ib, I.same, I.na, I.nb, I.ha0, I.hb0, I.ht0⟩
/-- the two lists as data, for the heap as it stands -/
theorem Two.isA (I : Two K hide H0 H σ ρ t a b va vb ga gb) : Is K (cut (fun x => hide x ∨ x = b) H) (.ref a) (.list ga) :=
  .lst (.inl (.inl (by rw [cut_no fun z => z.elim I.ha0 I.ab]; exact I.ha))) I.la (I.ia.mono (cut_anti fun x z => z.elim (fun z => .inl (.inl z)) .inr))
theorem Two.isB (I : Two K hide H0 H σ ρ t a b va vb ga gb) : Is K (cut (fun x => hide x ∨ x = a) H) (.ref b) (.list gb) :=
  .lst (.inl (.inl (by rw [cut_no fun z => z.elim I.hb0 fun q => I.ab q.symm]; exact I.hb))) I.lb (I.ib.mono (cut_anti fun x z => .inl z))
theorem Two.whole (I : Two K hide H0 H σ ρ t a b va vb ga gb) : Is K (cut hide H) (.ref t) (.tuple [.list ga, .list gb]) :=
  .tup (.inl (.inl (by rw [cut_no I.ht0]; exact I.ht))) (by show 2 ≤ sizeLine; decide)
    (.cons (I.isA.mono (cut_anti fun x z => .inl z)) (.cons (I.isB.mono (cut_anti fun x z => .inl z)) .nil))
theorem Two.seeA (I : Two K hide H0 H σ ρ t a b va vb ga gb) (h5 : σ[5]? = some (some (.ref a))) (h : ∀ d, ρ[5]? ≠ some (some d)) : ER K (fun x => hide x ∨ x = b) [] H σ (ρ.set 5 (some (.list ga))) := by
  have e : σ = σ.set 5 (some (.ref a)) := by
    refine List.ext_getElem? fun j => ?_
    by_cases hj : 5 = j
    · subst hj
      rw [List.getElem?_set_self (List.getElem?_eq_some_iff.mp h5).1, h5]
    · rw [List.getElem?_set_ne hj]
  have R : ER K (fun x => hide x ∨ x = b) [] H σ ρ :=
    ⟨fun x hx => I.er.hid x (hx.elim (fun z => .inl (.inl z)) .inr), I.er.len, fun i d ei n => by
      obtain ⟨v, h1, h2⟩ := I.er.shr i d ei n
      rw [hd0] at h2 ⊢
      exact ⟨v, h1, h2.mono (cut_anti fun x z => z.elim (fun z => .inl (.inl z)) .inr)⟩, (fun j hj => by cases hj), fun j k a hj => by cases hj⟩
  rw [e]
  exact R.put (by simp) (by rw [hd0]; exact I.isA)
theorem Two.seeB (I : Two K hide H0 H σ ρ t a b va vb ga gb) (h5 : σ[5]? = some (some (.ref b))) (h : ∀ d, ρ[5]? ≠ some (some d)) : ER K (fun x => hide x ∨ x = a) [] H σ (ρ.set 5 (some (.list gb))) := by
  have e : σ = σ.set 5 (some (.ref b)) := by
    refine List.ext_getElem? fun j => ?_
    by_cases hj : 5 = j
    · subst hj
      rw [List.getElem?_set_self (List.getElem?_eq_some_iff.mp h5).1, h5]
    · rw [List.getElem?_set_ne hj]
  have R : ER K (fun x => hide x ∨ x = a) [] H σ ρ :=
    ⟨fun x hx => I.er.hid x (.inl hx), I.er.len, fun i d ei n => by
      obtain ⟨v, h1, h2⟩ := I.er.shr i d ei n
      rw [hd0] at h2 ⊢
      exact ⟨v, h1, h2.mono (cut_anti fun x z => .inl z)⟩, (fun j hj => by cases hj), fun j k a hj => by cases hj⟩
  rw [e]
  exact R.put (by simp) (by rw [hd0]; exact I.isB)
/-- one of the lists changed -/
theorem Two.setA {vn : List V} {gn : List D} (I : Two K hide H0 H σ ρ t a b va vb ga gb) (hl : vn.length ≤ sizeLine) (h : IsAll K (cut (fun x => (hide x ∨ x = a) ∨ x = b) H) vn gn) : Two K hide H0 (upd H a (.lst vn)) σ ρ t a b vn vb gn gb := by
  have sc : Same (cut (fun x => (hide x ∨ x = a) ∨ x = b) H) (cut (fun x => (hide x ∨ x = a) ∨ x = b) (upd H a (.lst vn))) := cut_upd (.inl (.inr rfl))
  have nt : t ≠ a := fun z => by have := I.ht; rw [z, I.ha] at this; cases this
  refine ⟨⟨fun x hx => ?_, I.er.len, fun i d ei n => ?_, (fun j hj => by cases hj), fun j k a hj => by cases hj⟩, I.s3, by rw [upd_ne nt]; exact I.ht, upd_same, by rw [upd_ne I.ab.symm]; exact I.hb, I.ab, hl, I.lb, h.mono sc, I.ib.mono sc, fun x o e => ?_, I.na, I.nb, I.ha0, I.hb0, I.ht0⟩
  · by_cases hx' : x = a
    · rw [hx', upd_same]; simp
    · rw [upd_ne hx']; exact I.er.hid x hx
  · obtain ⟨v, h1, h2⟩ := I.er.shr i d ei n
    rw [hd0] at h2 ⊢
    exact ⟨v, h1, h2.mono sc⟩
  · have : x ≠ a := fun z => by rw [z, I.na] at e; cases e
    rw [upd_ne this]; exact I.same x o e
theorem Two.setB {vn : List V} {gn : List D} (I : Two K hide H0 H σ ρ t a b va vb ga gb) (hl : vn.length ≤ sizeLine) (h : IsAll K (cut (fun x => (hide x ∨ x = a) ∨ x = b) H) vn gn) : Two K hide H0 (upd H b (.lst vn)) σ ρ t a b va vn ga gn := by
  have sc : Same (cut (fun x => (hide x ∨ x = a) ∨ x = b) H) (cut (fun x => (hide x ∨ x = a) ∨ x = b) (upd H b (.lst vn))) := cut_upd (.inr rfl)
  have nt : t ≠ b := fun z => by have := I.ht; rw [z, I.hb] at this; cases this
  refine ⟨⟨fun x hx => ?_, I.er.len, fun i d ei n => ?_, (fun j hj => by cases hj), fun j k a hj => by cases hj⟩, I.s3, by rw [upd_ne nt]; exact I.ht, by rw [upd_ne I.ab]; exact I.ha, upd_same, I.ab, I.la, hl, I.ia.mono sc, h.mono sc, fun x o e => ?_, I.na, I.nb, I.ha0, I.hb0, I.ht0⟩
  · by_cases hx' : x = b
    · rw [hx', upd_same]; simp
    · rw [upd_ne hx']; exact I.er.hid x hx
  · obtain ⟨v, h1, h2⟩ := I.er.shr i d ei n
    rw [hd0] at h2 ⊢
    exact ⟨v, h1, h2.mono sc⟩
  · have : x ≠ b := fun z => by rw [z, I.nb] at e; cases e
    rw [upd_ne this]; exact I.same x o e
end
/-! ### the statements -/
section
variable {X : Cx} {T : Nat → List D → Option D} {M : List Nat} {pos : Pos}
/-- name[i] = e, the list's name plain -/
def tPutR (K : PySem.W.Frag) (T : Nat → List D → Option D) (M : List Nat) (i : Nat) (ci c : CE) : TS := fun D σ H => tE K T M c σ H fun v H1 => ∃ a vs, σ[i]? = some (some (.ref a)) ∧ tE K T M ci σ H1 fun w H2 => ∃ k j, w = .int k ∧ H2 a = some (.lst vs) ∧ ixN vs.length k = some j ∧ D.nx σ (upd H2 a (.lst (vs.set j v)))
theorem ps_putR {x : Str} {i : Nat} {ei e : Expr} {ci c : CE} {p1 p2 : Pos} (hN : X.N[i]? = some x) (hv : Vis X.env.scope x) (d1 : (x == ("__debug__" : Str)) = false) (d2 : (x == ("__classdict__" : Str)) = false) (he : SE X T M e c) (hx : SE X T M ei ci)
    (hpx : plainIx ei = true) (hs : swapsWithSole [.Subscript (.Name x p1) ei p2] e pos.line X.env = pure false) : PS X (.Assign [.Subscript (.Name x p1) ei p2] e pos) (tPutR X.K T M i ci c) :=
  PS.imp (ps_asg he (pg_sub (pe_var hN hv d1 d2) hx set_list (assign_sub hpx)) hs) fun D σ H ⟨hide, own, ρ, d, R, m, ed, q⟩ => ⟨hide, own, ρ, d, R, m, ed, fun v H1 s r => by
    obtain ⟨a, vs, e1, hide2, own2, ρ2, d2, R2, m2, ed2, q2⟩ := q v H1 s r
    refine ⟨_, e1, hide2, own2, ρ2, d2, R2, m2, ed2, fun w H2 s2 r2 => ?_⟩
    obtain ⟨k, j, e2, e3, e4, e5⟩ := q2 w H2 s2 r2
    exact ⟨a, vs, k, j, rfl, e2, e3, e4, e5⟩⟩
def tAppR (K : PySem.W.Frag) (T : Nat → List D → Option D) (M : List Nat) (i : Nat) (c : CE) : TS := fun D σ H => ∃ a vs, σ[i]? = some (some (.ref a)) ∧ H a = some (.lst vs) ∧ tE K T M c σ H fun v H1 => H1 a = some (.lst vs) ∧ vs.length < sizeLine ∧ D.nx σ (upd H1 a (.lst (vs ++ [v])))
theorem ps_appR {x : Str} {i : Nat} {e : Expr} {c : CE} {apos cpos p1 : Pos} (hN : X.N[i]? = some x) (hv : Vis X.env.scope x) (d1 : (x == ("__debug__" : Str)) = false) (d2 : (x == ("__classdict__" : Str)) = false) (he : SE X T M e c) (line : (apos.endLine == cpos.line) = true) (st : starEach [e] X.env = [(false, eval e X.env)]) :
    PS X (.Expr (.Call (.Attribute (.Name x p1) "append" apos) [e] [] cpos) pos) (tAppR X.K T M i c) :=
  PS.imp (ps_expr (pe_bm PySem.F.plainAttrs_list PySem.F.slot_list_append PySem.F.type_list_append mt_append (pe_var hN hv d1 d2) (pa_cons he pa_nil st) rfl (by rw [st]; rfl) line st rfl) rfl) fun D σ H ⟨a, vs, e1, e2, hide, own, ρ, d, R, m, ed, q⟩ => by
    refine ⟨_, e1, .inl ⟨rfl, vs, .of e2⟩, hide, own, ρ, d, R, m, ed, fun v H1 s r => ?_⟩
    obtain ⟨e3, e4, e5⟩ := q v H1 s r
    exact ⟨a, vs, v, rfl, rfl, e3, e4, e5⟩
end
end DI
set_option maxRecDepth 100000
set_option maxHeartbeats 2000000
namespace DI
open PySem L2
local macro_rules
  | `(tactic| simp! only [$ls,*]) => `(tactic| simp only [DI.a1_s, DI.a2_s, DI.bO_s, DI.cm_s, DI.andO_s, DI.andO_f, DI.andO_t, DI.orO_s, DI.orO_t, DI.orO_f, DI.notO_s, DI.iteO_t, DI.iteO_f, DI.iteO_p, DI.ch3_s, DI.ch3c_s, DI.orVO_s, DI.orVb_t, DI.orVb_f, DI.truthD_n, DI.truthD_l, DI.truthD_t, DI.tupO_s, DI.lstO_s, DI.lstSO_s, DI.cnsO_s, DI.appO_l, DI.appO_t, DI.slO_s, DI.clO_s, DI.scO_b, DI.scO_i, DI.scO_n, DI.scO_x, DI.dspO_s, DI.lcC_t, DI.lcC_f, DI.lcC_p, DI.lcK_s, DI.tsO_t, DI.tsO_f, DI.tsO_1, DI.r1O_s, DI.r2O_s, DI.r3O_s, DI.ofO_l, DI.ofO_t, DI.enO_s, DI.enO_t, DI.zpO_s, DI.slot_0, DI.slot_s, DI.ev_var, DI.ev_cst, DI.ev_glb, DI.ev_bin, DI.ev_neg, DI.ev_cmp1, DI.ev_cmp2, DI.ev_and, DI.ev_or, DI.ev_one, DI.ev_not, DI.ev_orV, DI.ev_ite, DI.ev_tup, DI.ev_lst, DI.ev_lstS, DI.ev_ix, DI.ev_sl, DI.partE_no, DI.partE_var, DI.partE_cst, DI.partE_neg, DI.partE_bin, DI.ev_rev, DI.ev_p1, DI.ev_p2, DI.ev_dsp, DI.ev_dix, DI.ev_call, DI.ev_cals, DI.ev_lc, DI.lcE_s, DI.evs_nil, DI.evs_cons, DI.evS_nil, DI.evS_star, DI.evS_tup, DI.evS_cst, DI.evS_var, DI.evS_bin, DI.evS_ix, DI.evt_nil, DI.evt_cons, DI.evi_ofl, DI.evi_rng1, DI.evi_rng2, DI.evi_rng3, DI.evi_enum, DI.evi_zip, DI.kn_nx, DI.kn_rt, DI.kn_bk, DI.kn_ct, DI.nxO_s, DI.rtO_s, DI.asgO_s, DI.parO_s, DI.setAll_nil, DI.stO_s, DI.a3_s, DI.ifO_t, DI.ifO_f, DI.ifO_p, DI.exO_s, DI.forK_s, DI.putE_0, DI.putE_s, DI.cE_s, DI.bindP_v, DI.ownO_l, DI.sK_s, DI.setAll_cons, DI.bindP_t, DI.bindP_tl, DI.bindPs_nil, DI.bK_s, DI.bindPs_cons, DI.wipeD_nil, DI.wipeD_cons, DI.exS_asg, DI.exS_own, DI.exS_par, DI.exS_app, DI.exS_put, DI.exS_ret, DI.exS_retN, DI.exS_pass, DI.exS_brk, DI.exS_cnt, DI.exS_rse, DI.exS_exp, DI.exS_ife, DI.exSs_nil, DI.exSs_cons, DI.exS_for, DI.binD_add, DI.binD_sub, DI.binD_mul, DI.binD_fdiv, DI.binD_mod, DI.binD_pow, DI.addD_i, DI.addD_l, DI.subD_i, DI.fdivD_i, DI.modD_i, DI.negD_i, DI.cmpD_eq, DI.cmpD_ne, DI.cmpD_lt, DI.cmpD_le, DI.cmpD_gt, DI.cmpD_ge, DI.cmpD_is, DI.cmpD_isn, DI.cmpD_inn, DI.cmpD_nin, DI.isD_nn, DI.isD_in, DI.isD_ln, DI.isD_tn, DI.isD_bb, DI.eqD_i, DI.eqD_s, DI.p1D_len_l, DI.p1D_len_t, DI.p1D_abs, DI.p1D_int, DI.p1D_intb, DI.p2D_min, DI.p2D_max, DI.ixD_l, DI.ixD_t, DI.appD_l, DI.atI_0, DI.atI_1, DI.atI_2, DI.atI_3, DI.outD_rt, DI.outD_nx, DI.rK_nx, DI.rK_rt, List.set_cons_zero, List.set_cons_succ, decide_true, decide_false, Bool.not_true, Bool.not_false, Bool.and_true, Bool.true_and, Bool.and_false, Bool.false_and, Bool.or_true, Bool.true_or, Bool.or_false, Bool.false_or, if_true, if_false, Bool.false_eq_true, Option.map_some, Option.bind_some, List.map_cons, List.map_nil, List.map_append, List.cons_append, List.nil_append, not_true_eq_false, not_false_eq_true, and_true, true_and, Bool.not_not, eq_self, List.length_append, List.length_map, List.length_cons, List.length_nil, Nat.zero_add, Int.natCast_zero, Int.natCast_add, Int.cast_ofNat_Int, Int.natCast_one, Nat.succ_eq_add_one, $ls,*])
local macro_rules
  | `(tactic| simp! only [$ls,*] $l:location) => `(tactic| simp only [DI.a1_s, DI.a2_s, DI.bO_s, DI.cm_s, DI.andO_s, DI.andO_f, DI.andO_t, DI.orO_s, DI.orO_t, DI.orO_f, DI.notO_s, DI.iteO_t, DI.iteO_f, DI.iteO_p, DI.ch3_s, DI.ch3c_s, DI.orVO_s, DI.orVb_t, DI.orVb_f, DI.truthD_n, DI.truthD_l, DI.truthD_t, DI.tupO_s, DI.lstO_s, DI.lstSO_s, DI.cnsO_s, DI.appO_l, DI.appO_t, DI.slO_s, DI.clO_s, DI.scO_b, DI.scO_i, DI.scO_n, DI.scO_x, DI.dspO_s, DI.lcC_t, DI.lcC_f, DI.lcC_p, DI.lcK_s, DI.tsO_t, DI.tsO_f, DI.tsO_1, DI.r1O_s, DI.r2O_s, DI.r3O_s, DI.ofO_l, DI.ofO_t, DI.enO_s, DI.enO_t, DI.zpO_s, DI.slot_0, DI.slot_s, DI.ev_var, DI.ev_cst, DI.ev_glb, DI.ev_bin, DI.ev_neg, DI.ev_cmp1, DI.ev_cmp2, DI.ev_and, DI.ev_or, DI.ev_one, DI.ev_not, DI.ev_orV, DI.ev_ite, DI.ev_tup, DI.ev_lst, DI.ev_lstS, DI.ev_ix, DI.ev_sl, DI.partE_no, DI.partE_var, DI.partE_cst, DI.partE_neg, DI.partE_bin, DI.ev_rev, DI.ev_p1, DI.ev_p2, DI.ev_dsp, DI.ev_dix, DI.ev_call, DI.ev_cals, DI.ev_lc, DI.lcE_s, DI.evs_nil, DI.evs_cons, DI.evS_nil, DI.evS_star, DI.evS_tup, DI.evS_cst, DI.evS_var, DI.evS_bin, DI.evS_ix, DI.evt_nil, DI.evt_cons, DI.evi_ofl, DI.evi_rng1, DI.evi_rng2, DI.evi_rng3, DI.evi_enum, DI.evi_zip, DI.kn_nx, DI.kn_rt, DI.kn_bk, DI.kn_ct, DI.nxO_s, DI.rtO_s, DI.asgO_s, DI.parO_s, DI.setAll_nil, DI.stO_s, DI.a3_s, DI.ifO_t, DI.ifO_f, DI.ifO_p, DI.exO_s, DI.forK_s, DI.putE_0, DI.putE_s, DI.cE_s, DI.bindP_v, DI.ownO_l, DI.sK_s, DI.setAll_cons, DI.bindP_t, DI.bindP_tl, DI.bindPs_nil, DI.bK_s, DI.bindPs_cons, DI.wipeD_nil, DI.wipeD_cons, DI.exS_asg, DI.exS_own, DI.exS_par, DI.exS_app, DI.exS_put, DI.exS_ret, DI.exS_retN, DI.exS_pass, DI.exS_brk, DI.exS_cnt, DI.exS_rse, DI.exS_exp, DI.exS_ife, DI.exSs_nil, DI.exSs_cons, DI.exS_for, DI.binD_add, DI.binD_sub, DI.binD_mul, DI.binD_fdiv, DI.binD_mod, DI.binD_pow, DI.addD_i, DI.addD_l, DI.subD_i, DI.fdivD_i, DI.modD_i, DI.negD_i, DI.cmpD_eq, DI.cmpD_ne, DI.cmpD_lt, DI.cmpD_le, DI.cmpD_gt, DI.cmpD_ge, DI.cmpD_is, DI.cmpD_isn, DI.cmpD_inn, DI.cmpD_nin, DI.isD_nn, DI.isD_in, DI.isD_ln, DI.isD_tn, DI.isD_bb, DI.eqD_i, DI.eqD_s, DI.p1D_len_l, DI.p1D_len_t, DI.p1D_abs, DI.p1D_int, DI.p1D_intb, DI.p2D_min, DI.p2D_max, DI.ixD_l, DI.ixD_t, DI.appD_l, DI.atI_0, DI.atI_1, DI.atI_2, DI.atI_3, DI.outD_rt, DI.outD_nx, DI.rK_nx, DI.rK_rt, List.set_cons_zero, List.set_cons_succ, decide_true, decide_false, Bool.not_true, Bool.not_false, Bool.and_true, Bool.true_and, Bool.and_false, Bool.false_and, Bool.or_true, Bool.true_or, Bool.or_false, Bool.false_or, if_true, if_false, Bool.false_eq_true, Option.map_some, Option.bind_some, List.map_cons, List.map_nil, List.map_append, List.cons_append, List.nil_append, not_true_eq_false, not_false_eq_true, and_true, true_and, Bool.not_not, eq_self, List.length_append, List.length_map, List.length_cons, List.length_nil, Nat.zero_add, Int.natCast_zero, Int.natCast_add, Int.cast_ofNat_Int, Int.natCast_one, Nat.succ_eq_add_one, $ls,*] $l)
abbrev dP2 (p : Int × Int) : D := .tuple [.int p.1, .int p.2]
section
variable {T : Nat → List D → Option D} {n : Nat} {s0 s1 s2 s3 s4 s5 s6 s7 : Option D}
def wMv (T : Nat → List D → Option D) (s0 s1 s2 : Option D) : Option D := a1 (p1D .len) (clO (T 10) (cnsO s0 (cnsO (a2 ixD s1 s2) (some []))))
theorem evM : ev T wM [s0, s1, s2, s3, s4, s5, s6, s7] = wMv T s0 s1 s2 := by simp! only [wM, wMv]
def wTv (s4 : Option D) : Option D := cm .ne s4 (some (.int 1))
theorem evT : ev T wT [s0, s1, s2, s3, s4, s5, s6, s7] = wTv s4 := by simp! only [wT, wTv]
def wGv (s4 : Option D) : Option D := cm .gt s4 (some (.int 1))
theorem evG : ev T wG [s0, s1, s2, s3, s4, s5, s6, s7] = wGv s4 := by simp! only [wG, wGv]
theorem evR : ev T wR [s0, s1, s2, s3, s4, s5, s6, s7] = a1 (p1D .int) (wGv s4) := by simp! only [wR, evG]
theorem evI : ev T wI [s0, s1, s2, s3, s4, s5, s6, s7] = some (.int (-1)) := by simp! only [wI]
def wQv (s1 s2 s5 : Option D) : Option D := andO (cm .ne s5 (some (.list []))) (cm .eq (a2 ixD (a2 ixD s5 (some (.int (-1)))) (some (.int 1))) (a2 ixD s1 s2))
theorem evQ : ev T wQ [s0, s1, s2, s3, s4, s5, s6, s7] = wQv s1 s2 s5 := by simp! only [wQ, wQv, wI]
def wPv (s1 s2 s5 : Option D) : Option D := tupO (cnsO (a2 ixD (a2 ixD s5 (some (.int (-1)))) (some (.int 0))) (cnsO (a2 ixD s1 (a2 addD s2 (some (.int 1)))) (some [])))
theorem evP : ev T wP [s0, s1, s2, s3, s4, s5, s6, s7] = wPv s1 s2 s5 := by simp! only [wP, wPv, wI]
def wAv (s1 s2 : Option D) : Option D := tupO (cnsO (a2 ixD s1 s2) (cnsO (a2 ixD s1 (a2 addD s2 (some (.int 1)))) (some [])))
theorem evA : ev T wA [s0, s1, s2, s3, s4, s5, s6, s7] = wAv s1 s2 := by simp! only [wA, wAv]
/-- what the statement that changes the row does to it -/
def Jn (ms : List Int) (k : Int) (gx gn : List (Int × Int)) : Prop :=
  ∃ q : Bool, wQv (some (.list (ms.map .int))) (some (.int k)) (some (.list (gx.map dP2))) = some (.bool q) ∧
    ((q = true ∧ ∃ p j, wPv (some (.list (ms.map .int))) (some (.int k)) (some (.list (gx.map dP2))) = some (dP2 p) ∧ ixN gx.length (-1) = some j ∧ gn = gx.set j p) ∨
     (q = false ∧ ∃ p, wAv (some (.list (ms.map .int))) (some (.int k)) = some (dP2 p) ∧ gx.length < sizeLine ∧ gn = gx ++ [p]))
theorem atI_some {α : Type} {f : α → D} {xs : List α} {i : Int} {d : D} (h : atI (xs.map f) i = some d) : ∃ x, atI xs i = some x ∧ d = f x := by
  unfold atI at h ⊢
  rw [List.length_map] at h
  obtain ⟨j, e1, e2⟩ := bnd h
  rw [List.getElem?_map] at e2
  obtain ⟨x, e3, rfl⟩ := Option.map_eq_some_iff.mp e2
  exact ⟨x, by rw [e1]; exact e3, rfl⟩
theorem ix_ints {ms : List Int} {k : Option D} {d : D} (h : a2 ixD (some (.list (ms.map .int))) k = some d) : ∃ x : Int, d = .int x := by
  cases k with
  | none => cases h
  | some k =>
    cases k with
    | int k =>
      obtain ⟨x, _, e⟩ := atI_some (f := PyData.int) (show atI (ms.map .int) k = some d from h)
      exact ⟨x, e⟩
    | _ => cases h
theorem wJ_step {ms : List Int} {k : Int} {gx : List (Int × Int)} {o : Out} (h : exS T n wJ [s0, some (.list (ms.map .int)), some (.int k), none, s4, some (.list (gx.map dP2)), s6, s7] = some o) :
    ∃ gn, Jn ms k gx gn ∧ o = .nx [s0, some (.list (ms.map .int)), some (.int k), none, s4, some (.list (gn.map dP2)), s6, s7] := by
  simp! only [wJ, evQ, evP, evA, evI] at h
  generalize hq : wQv (some (.list (ms.map .int))) (some (.int k)) (some (.list (gx.map dP2))) = qv at h
  match qv, h with
  | some (.bool true), h =>
    rw [ifO_t] at h
    generalize hp : wPv (some (.list (ms.map .int))) (some (.int k)) (some (.list (gx.map dP2))) = pv at h
    cases pv with
    | none => cases h
    | some pd =>
      obtain ⟨p, rfl⟩ : ∃ p, pd = dP2 p := by
        unfold wPv at hp
        generalize hy : a2 ixD (some (.list (ms.map .int))) (a2 addD (some (.int k)) (some (.int 1))) = yv at hp
        generalize hl : a2 ixD (some (.list (gx.map dP2))) (some (.int (-1))) = lv at hp
        cases lv with
        | none => cases hp
        | some ld =>
          obtain ⟨⟨l1, l2⟩, _, rfl⟩ := atI_some (f := dP2) (show atI (gx.map dP2) (-1) = some ld from hl)
          cases yv with
          | none => simp! only [] at hp; cases hp
          | some yd =>
            obtain ⟨y, rfl⟩ := ix_ints hy
            simp! only [Option.some.injEq] at hp
            exact ⟨(l1, y), hp.symm⟩
      simp! only [putD, List.length_map] at h
      cases hj : ixN gx.length (-1) with
      | none => rw [hj] at h; cases h
      | some j =>
        rw [hj] at h
        simp! only [Option.some.injEq] at h
        refine ⟨gx.set j p, ⟨true, hq, .inl ⟨rfl, p, j, hp, hj, rfl⟩⟩, ?_⟩
        rw [← h, List.map_set]
  | some (.bool false), h =>
    rw [ifO_f] at h
    generalize hp : wAv (some (.list (ms.map .int))) (some (.int k)) = pv at h
    cases pv with
    | none => cases h
    | some pd =>
      obtain ⟨p, rfl⟩ : ∃ p, pd = dP2 p := by
        unfold wAv at hp
        generalize hy : a2 ixD (some (.list (ms.map .int))) (a2 addD (some (.int k)) (some (.int 1))) = yv at hp
        generalize hl : a2 ixD (some (.list (ms.map .int))) (some (.int k)) = lv at hp
        cases lv with
        | none => cases hp
        | some ld =>
          obtain ⟨x, rfl⟩ := ix_ints hl
          cases yv with
          | none => simp! only [] at hp; cases hp
          | some yd =>
            obtain ⟨y, rfl⟩ := ix_ints hy
            simp! only [Option.some.injEq] at hp
            exact ⟨(x, y), hp.symm⟩
      by_cases hz : gx.length < sizeLine
      · have hz' : (gx.map dP2).length < sizeLine := by rw [List.length_map]; exact hz
        rw [a2_s, appD_l hz'] at h
        simp! only [Option.some.injEq] at h
        exact ⟨gx ++ [p], ⟨false, hq, .inr ⟨rfl, p, hp, hz, rfl⟩⟩, by rw [← h, List.map_append]; rfl⟩
      · have : appD (.list (gx.map dP2)) (dP2 p) = none := if_neg (by rw [List.length_map]; exact hz)
        rw [a2_s, this] at h
        cases h
  | none, h => cases h
  | some .none, h => cases h
  | some (.int _), h => cases h
  | some (.str _), h => cases h
  | some (.list _), h => cases h
  | some (.tuple _), h => cases h
  | some (.dict _), h => cases h
theorem ifO_cases {c : Option D} {x y : Option Out} {o : Out} (h : ifO c x y = some o) : (c = some (.bool true) ∧ x = some o) ∨ (c = some (.bool false) ∧ y = some o) := by
  match c, h with
  | some (.bool true), h => exact .inl ⟨rfl, h⟩
  | some (.bool false), h => exact .inr ⟨rfl, h⟩
theorem wF_step {ms : List Int} {k : Int} {ga gb : List (Int × Int)} {o : Out} (h : exSs T n wF [s0, some (.list (ms.map .int)), some (.int k), none, s4, s5, some (.list (ga.map dP2)), some (.list (gb.map dP2))] = some o) :
    ∃ md, wMv T s0 (some (.list (ms.map .int))) (some (.int k)) = some md ∧
      ((wTv (some md) = some (.bool false) ∧ o = .nx [s0, some (.list (ms.map .int)), some (.int k), none, some md, s5, some (.list (ga.map dP2)), some (.list (gb.map dP2))]) ∨
       (wTv (some md) = some (.bool true) ∧ ((wGv (some md) = some (.bool true) ∧ ∃ gn s, Jn ms k gb gn ∧ o = .nx [s0, some (.list (ms.map .int)), some (.int k), none, some md, s, some (.list (ga.map dP2)), some (.list (gn.map dP2))]) ∨
         (wGv (some md) = some (.bool false) ∧ ∃ gn s, Jn ms k ga gn ∧ o = .nx [s0, some (.list (ms.map .int)), some (.int k), none, some md, s, some (.list (gn.map dP2)), some (.list (gb.map dP2))])))) := by
  simp! only [wF, evM] at h
  generalize hm : wMv T s0 (some (.list (ms.map .int))) (some (.int k)) = mv at h
  cases mv with
  | none => cases h
  | some md =>
    refine ⟨md, rfl, ?_⟩
    simp! only [evT] at h
    generalize hr : ifO _ _ _ = r at h
    cases r with
    | none => cases h
    | some o1 =>
      rcases ifO_cases hr with ⟨c, hr⟩ | ⟨c, hr⟩
      · refine .inr ⟨c, ?_⟩
        simp! only [evG] at hr
        generalize hr2 : ifO _ _ _ = r2 at hr
        cases r2 with
        | none => cases hr
        | some o2 =>
          rcases ifO_cases hr2 with ⟨c2, hr2⟩ | ⟨c2, hr2⟩
          · cases hr2
            simp! only [] at hr
            generalize hj : exS T n wJ _ = j at hr
            cases j with
            | none => cases hr
            | some o3 =>
              obtain ⟨gn, J, rfl⟩ := wJ_step hj
              simp! only [evG, c2] at hr
              cases hr
              simp! only [Option.some.injEq] at h
              exact .inl ⟨c2, gn, _, J, h.symm⟩
          · cases hr2
            simp! only [] at hr
            generalize hj : exS T n wJ _ = j at hr
            cases j with
            | none => cases hr
            | some o3 =>
              obtain ⟨gn, J, rfl⟩ := wJ_step hj
              simp! only [evG, c2] at hr
              cases hr
              simp! only [Option.some.injEq] at h
              exact .inr ⟨c2, gn, _, J, h.symm⟩
      · cases hr
        simp! only [Option.some.injEq] at h
        exact .inl ⟨c, h.symm⟩
end
end DI
set_option maxRecDepth 100000
set_option maxHeartbeats 2000000
namespace DI
open PySem L2
def spB (Γ : Gm) (sc : Scope) (fb : Str → Bool) (s0c : CS) (ss : List Stmt) : Bool := match ss with
  | [s0, .Assign [.Tuple [.Name x1 px1, .Name x3 px3] _ _] (.Tuple [e1, .Tuple [.List [] pl1, .List [] pl2] k3 pt3] _ _) _,
     .For tg it [.Assign [.Name x4 px4] em _, .If et [.Assign [.Name x5 px5] (.Subscript (.Name y3 py3) er pos6) _, .If eq [.Assign [.Subscript (.Name z5 _) ei _] ep _] [.Expr (.Call (.Attribute (.Name w5 _) nm apos) [ea] [] cpos) _] _] [] _] [] _,
     .Return (some (.Name u3 _)) _] =>
    (mtS Γ sc fb s0c s0) &&
    (decide (Γ.N[1]? = some x1) && decide (Γ.N[3]? = some x3) && decide (x1 ≠ x3) && lcl sc x1 && lcl sc x3 && (px3.line == px1.line) && noStar e1 && !(foldedForSure 8 e1 && foldedForSure 8 (.Tuple [.List [] pl1, .List [] pl2] k3 pt3)) && !(constantsAlone 8 e1 && constantsAlone 8 (.Tuple [.List [] pl1, .List [] pl2] k3 pt3)) && mtE Γ sc wS e1) &&
    (mtI Γ sc wL tg it && notSet it && mtP Γ sc fb (.v 2) tg) &&
    (decide (Γ.N[4]? = some x4) && loc sc x4 && (fb x4 || lcl sc x4) && mtE Γ sc wM em && decide (swB sc em (.Name x4 px4) = some false)) &&
    (mtE Γ sc wT et) &&
    (decide (Γ.N[5]? = some x5) && loc sc x5 && (fb x5 || lcl sc x5) && decide (Γ.N[3]? = some y3) && vis sc y3 && nm1 y3 && plainIx er && mtE Γ sc wR er && decide (swB sc (.Subscript (.Name y3 py3) er pos6) (.Name x5 px5) = some false)) &&
    (mtE Γ sc wQ eq) &&
    (decide (Γ.N[5]? = some z5) && vis sc z5 && nm1 z5 && plainIx ei && noComp ep && mtE Γ sc wI ei && mtE Γ sc wP ep) &&
    (decide (nm = "append") && decide (Γ.N[5]? = some w5) && vis sc w5 && nm1 w5 && (apos.endLine == cpos.line) && noStar ea && mtE Γ sc wA ea) &&
    (decide (Γ.N[3]? = some u3) && vis sc u3 && nm1 u3)
  | _ => false
def tJ (K : PySem.W.Frag) (T : Nat → List D → Option D) (M : List Nat) : TS := tIfS (tQ K T M wQ) (tPutR K T M 5 wI wP) (tAppR K T M 5 wA)
def tBd (K : PySem.W.Frag) (T : Nat → List D → Option D) (M : List Nat) : TS := tSeq (tAsg (tE K T M wM) (gName 4)) (tIfS (tQ K T M wT) (tSeq (tAsg (tOp (rIxT K) (tVar 3) (tE K T M wR)) (gName 5)) (tJ K T M)) tNext)
def tW (K : PySem.W.Frag) (T : Nat → List D → Option D) (M : List Nat) (s0c : CS) : TS :=
  tSeq (tS K T M none [] [] s0c) (tSeq (tPar 1 3 (tCons (tE K T M wS) (tCons (tTup (tCons (tLst tNil) (tCons (tLst tNil) tNil))) tNil))) (tSeq (tFor (tI K T M wL) (tG K (.v 2)) (tBd K T M)) (tRet (tVar 3))))
theorem spB_ok {X : Cx} {Γ : Gm} {sc : Scope} {fb : Str → Bool} {T : Nat → List D → Option D} {s0c : CS} {ss : List Stmt} (h : spB Γ sc fb s0c ss = true) (hk : chk Γ.M none [] s0c = some []) (C : CxOk X Γ sc fb T) (pp : PassesOwn (model X.prog X.w) X.A X.env X.xe) : PSs X ss (tW X.K T Γ.M s0c) := by
  unfold spB at h
  split at h; rotate_left; · cases h
  rename_i s0 x1 px1 x3 px3 _ _ e1 pl1 pl2 k3 pt3 _ _ _ tg it x4 px4 em _ et x5 px5 y3 py3 er pos6 _ eq z5 _ ei _ ep _ w5 _ nm apos ea cpos _ _ _ _ u3 _ _
  simp only [Bool.and_eq_true, decide_eq_true_eq, Bool.not_eq_true', Bool.or_eq_true] at h
  obtain ⟨⟨⟨⟨⟨⟨⟨⟨⟨h0, a⟩, b⟩, c⟩, d⟩, e⟩, f⟩, g⟩, i⟩, j⟩ := h
  obtain ⟨⟨⟨⟨⟨⟨⟨⟨⟨a1, a2⟩, a3⟩, a4⟩, a5⟩, a6⟩, a7⟩, a8⟩, a9⟩, a10⟩ := a
  obtain ⟨⟨b1, b2⟩, b3⟩ := b
  obtain ⟨⟨⟨⟨c1, c2⟩, c3⟩, c4⟩, c5⟩ := c
  obtain ⟨⟨⟨⟨⟨⟨⟨⟨e1', e2⟩, e3⟩, e4⟩, e5⟩, e6⟩, e7⟩, e8⟩, e9⟩ := e
  obtain ⟨⟨⟨⟨⟨⟨g1, g2⟩, g3⟩, g4⟩, g5⟩, g6⟩, g7⟩ := g
  obtain ⟨⟨⟨⟨⟨⟨i1, i2⟩, i3⟩, i4⟩, i5⟩, i6⟩, i7⟩ := i
  obtain ⟨⟨j1, j2⟩, j3⟩ := j
  subst i1
  have nd : X.N.Nodup := by rw [C.N]; exact C.nd
  have N : ∀ {n : Nat} {x : Str}, Γ.N[n]? = some x → X.N[n]? = some x := fun q => by rw [C.N]; exact q
  have fnl : ∀ {x : Str}, fb x = true ∨ lcl sc x = true → X.fn x = true ∨ X.env.scope.names.lookup x = some .local := fun q => q.elim (fun z => .inl (C.fn _ z)) fun z => .inr (lcl_ok C z)
  refine pss_cons (okSt s0c h0 hk C pp) (pss_cons ?_ (pss_cons ?_ (pss_one (ps_ret (pe_var (N j1) (vis_ok C j2) (nm1_ok j3).1 (nm1_ok j3).2)))))
  · have x1l := lcl_ok C a4
    have x3l := lcl_ok C a5
    exact ps_par C.calm nd (N a1) (N a2) (by decide) x1l x3l (pa_cons (okE wS a10 C).1 (pa_cons (pe_tup (pa_cons (pe_lst pa_nil) (pa_cons (pe_lst pa_nil) pa_nil))) pa_nil) (ns_ok a7))
      (par2_ok C.scE C.kd (by rw [← C.scE]; exact x1l) (by rw [← C.scE]; exact x3l) a6 a3 a7 rfl a8 a9)
  · refine ps_for pp C.calm (okI wL b1 C) (okP_ (.v 2) b3 C) (pss_cons ?_ (pss_one ?_)) (nset_ok b2)
    · exact ps_set nd (N c1) (loc_ok C c2) (okE wM c4 C).1 (swB_ok C.scE c5) (fnl c3)
    · refine ps_if ((okE wT d C).2 rfl).1 (pss_cons ?_ (pss_one ?_)) pss_nil
      · exact ps_set nd (N e1') (loc_ok C e2) (pe_ix ix_tup (pe_var (N e4) (vis_ok C e5) (nm1_ok e6).1 (nm1_ok e6).2) (okE wR e8 C).1 (plain_sub e7)) (swB_ok C.scE e9) (fnl e3)
      · exact ps_if ((okE wQ f C).2 rfl).1 (pss_one (ps_putR (N g1) (vis_ok C g2) (nm1_ok g3).1 (nm1_ok g3).2 (okE wP g7 C).1 (okE wI g6 C).1 g4 (noComp_sole g5)))
          (pss_one (ps_appR (N i2) (vis_ok C i3) (nm1_ok i4).1 (nm1_ok i4).2 (okE wA i7 C).1 i5 (ns_ok i6)))
section
variable {K : PySem.W.Frag} {T : Nat → List D → Option D} {M : List Nat}
theorem nilM : ∀ i ∈ ([] : List Nat), i ∈ M := fun i h => by cases h
theorem Res.is0 {h : Addr → Prop} {σ : L2.St} {H H' : Hp} {c : CE} {v : V} {d : D} (r : Res K h [] σ H H' c v d) : Is K (cut h H') v d := by
  have := r.is
  rwa [show diff [] (al c) = [] from rfl, hd0] at this
/-- the row's change -/
theorem tJ_ok {h3 h2 : Addr → Prop} {H : Hp} {σ : L2.St} {D : Ends} {s0 s4 : Option PyData} {ms : List Int} {k : Int} {gx gn : List (Int × Int)} {x : Addr} {vx : List V} (J : Jn ms k gx gn)
    (see : ∀ H', Same H H' → ER K h3 [] H' σ [s0, some (.list (ms.map .int)), some (.int k), none, s4, some (.list (gx.map dP2)), none, none]) (hx : H x = some (.lst vx)) (s5 : σ[5]? = some (some (.ref x)))
    (ia : ∀ H', Same H H' → IsAll K (cut h2 H') vx (gx.map dP2)) (w : ∀ b, h2 b → h3 b ∨ b = x)
    (fin : ∀ H' vn, Same H H' → vn.length ≤ sizeLine → IsAll K (cut h2 H') vn (gn.map dP2) → D.nx σ (upd H' x (.lst vn))) (lx : vx.length ≤ sizeLine) : tJ K T M D σ H := by
  obtain ⟨q, hq, J⟩ := J
  have hl : vx.length = gx.length := by rw [(ia H (Same.refl _)).length, List.length_map]
  refine ⟨h3, [], _, q, see H (Same.refl _), nilM, by rw [evQ]; exact hq, fun H1 s1 => ?_⟩
  rcases J with ⟨rfl, p, j, hp, hj, rfl⟩ | ⟨rfl, p, hp, hz, rfl⟩
  · rw [if_pos rfl]
    refine ⟨h3, [], _, dP2 p, see H1 s1, nilM, by rw [evP]; exact hp, fun v H2 s2 r2 => ⟨x, vx, s5, h3, [], _, .int (-1), see H2 (s1.trans s2), nilM, evI, fun u H3 s3 r3 => ?_⟩⟩
    have i3 := r3.is0
    cases i3
    have s : Same H H3 := (s1.trans s2).trans s3
    have iv : Is K (cut h2 H3) v (dP2 p) := Is.ints_cut (is := [p.1, p.2]) (r2.is0.mono (cut_same s3)) fun b hb => (w b hb).elim .inl fun e => .inr ⟨vx, by rw [e]; exact s _ _ hx⟩
    refine ⟨-1, j, rfl, s _ _ hx, by rw [hl]; exact hj, fin H3 _ s (by rw [List.length_set]; exact lx) ?_⟩
    rw [List.map_set]
    exact (ia H3 s).set j iv
  · rw [if_neg (by decide)]
    refine ⟨x, vx, s5, s1 _ _ hx, h3, [], _, dP2 p, see H1 s1, nilM, by rw [evA]; exact hp, fun v H2 s2 r2 => ?_⟩
    have s : Same H H2 := s1.trans s2
    have iv : Is K (cut h2 H2) v (dP2 p) := Is.ints_cut (is := [p.1, p.2]) r2.is0 fun b hb => (w b hb).elim .inl fun e => .inr ⟨vx, by rw [e]; exact s _ _ hx⟩
    refine ⟨s _ _ hx, by rw [hl]; exact hz, fin H2 _ s (by rw [List.length_append]; show vx.length + 1 ≤ _; rw [hl]; exact hz) ?_⟩
    rw [List.map_append]
    exact (ia H2 s).append (.cons iv .nil)
abbrev rE (s0 : Option PyData) (ms : List Int) (k s4 : Option PyData) : Env := [s0, some (.list (ms.map .int)), k, none, s4, none, none, none]
/-- one turn -/
theorem tBd_ok {n : Nat} {hide : Addr → Prop} {H0 H : Hp} {σ : L2.St} {D : Ends} {s0 s4 s5 : Option PyData} {ms : List Int} {k : Int} {ga gb : List (Int × Int)} {t a b : Addr} {va vb : List V} {o : Out}
    (I : Two K hide H0 H σ (rE s0 ms (some (.int k)) s4) t a b va vb (ga.map dP2) (gb.map dP2)) (h : exSs T n wF [s0, some (.list (ms.map .int)), some (.int k), none, s4, s5, some (.list (ga.map dP2)), some (.list (gb.map dP2))] = some o)
    (fin : ∀ (σ' : L2.St) (H' : Hp) (va' vb' : List V) (ga' gb' : List (Int × Int)) (s4' s5' : Option PyData), o = .nx [s0, some (.list (ms.map .int)), some (.int k), none, s4', s5', some (.list (ga'.map dP2)), some (.list (gb'.map dP2))] → Two K hide H0 H' σ' (rE s0 ms (some (.int k)) s4') t a b va' vb' (ga'.map dP2) (gb'.map dP2) → Same (cut (fun x => (hide x ∨ x = a) ∨ x = b) H) (cut (fun x => (hide x ∨ x = a) ∨ x = b) H') → D.nx σ' H') : tBd K T M D σ H := by
  obtain ⟨md, hm, hc⟩ := wF_step h
  refine ⟨_, [], _, md, I.er, nilM, by rw [evM]; exact hm, fun v H1 s1 r1 => ?_⟩
  have I1 : Two K hide H0 H1 (σ.set 4 (some v)) (rE s0 ms (some (.int k)) (some md)) t a b va vb (ga.map dP2) (gb.map dP2) := (I.grow s1).store (by decide) r1.is0
  show tIfS (tQ K T M wT) (tSeq (tAsg (tOp (rIxT K) (tVar 3) (tE K T M wR)) (gName 5)) (tJ K T M)) tNext D (σ.set 4 (some v)) H1
  generalize σ.set 4 (some v) = σ1 at I1
  rcases hc with ⟨ht, ho⟩ | ⟨ht, hc⟩
  · refine ⟨_, [], _, false, I1.er, nilM, by rw [evT]; exact ht, fun H2 s2 => ?_⟩
    refine iteF ?_
    exact fin σ1 H2 va vb ga gb (some md) s5 ho (I1.grow s2) (cut_same (s1.trans s2))
  · refine ⟨_, [], _, true, I1.er, nilM, by rw [evT]; exact ht, fun H2 s2 => ?_⟩
    refine iteT ?_
    have I2 := I1.grow s2
    have h5 : 5 < σ1.length := by rw [I2.er.len]; show 5 < 8; decide
    rcases hc with ⟨hg, gn, s, J, ho⟩ | ⟨hg, gn, s, J, ho⟩
    · refine ⟨.ref t, I2.s3, _, [], _, .int 1, I2.er, nilM, by rw [evR, hg]; rfl, fun u H3 s3 r3 => ?_⟩
      have i3 := r3.is0
      cases i3
      refine ⟨t, [.ref a, .ref b], 1, .ref b, rfl, rfl, .inl (.inl (s3 _ _ I2.ht)), rfl, ?_⟩
      have I3 := (I2.grow s3).junk (i := 5) (x := .ref b) (by decide) (fun d q => by cases q)
      show tJ K T M D (σ1.set 5 (some (.ref b))) H3
      have s5' : (σ1.set 5 (some (V.ref b)))[5]? = some (some (.ref b)) := List.getElem?_set_self h5
      exact tJ_ok J (fun H' s' => (I3.grow s').seeB s5' (fun d q => by cases q)) I3.hb s5' (fun H' s' => (I3.grow s').ib) (fun x z => z) (fun H' vn s' hl hi => fin _ _ _ _ ga gn _ _ ho ((I3.grow s').setB hl hi) ((cut_same (((s1.trans s2).trans s3).trans s')).trans (cut_upd (.inr rfl)))) I3.lb
    · refine ⟨.ref t, I2.s3, _, [], _, .int 0, I2.er, nilM, by rw [evR, hg]; rfl, fun u H3 s3 r3 => ?_⟩
      have i3 := r3.is0
      cases i3
      refine ⟨t, [.ref a, .ref b], 0, .ref a, rfl, rfl, .inl (.inl (s3 _ _ I2.ht)), rfl, ?_⟩
      have I3 := (I2.grow s3).junk (i := 5) (x := .ref a) (by decide) (fun d q => by cases q)
      show tJ K T M D (σ1.set 5 (some (.ref a))) H3
      have s5' : (σ1.set 5 (some (V.ref a)))[5]? = some (some (.ref a)) := List.getElem?_set_self h5
      exact tJ_ok J (fun H' s' => (I3.grow s').seeA s5' (fun d q => by cases q)) I3.ha s5' (fun H' s' => (I3.grow s').ia) (fun x z => z.elim (fun z => z.elim (fun z => .inl (.inl z)) .inr) fun z => .inl (.inr z)) (fun H' vn s' hl hi => fin _ _ _ _ gn gb _ _ ho ((I3.grow s').setA hl hi) ((cut_same (((s1.trans s2).trans s3).trans s')).trans (cut_upd (.inl (.inr rfl))))) I3.la
end
end DI
set_option maxRecDepth 100000
set_option maxHeartbeats 2000000
namespace DI
open PySem L2
local macro_rules
  | `(tactic| simp! only [$ls,*]) => `(tactic| simp only [DI.a1_s, DI.a2_s, DI.bO_s, DI.cm_s, DI.andO_s, DI.andO_f, DI.andO_t, DI.orO_s, DI.orO_t, DI.orO_f, DI.notO_s, DI.iteO_t, DI.iteO_f, DI.iteO_p, DI.ch3_s, DI.ch3c_s, DI.orVO_s, DI.orVb_t, DI.orVb_f, DI.truthD_n, DI.truthD_l, DI.truthD_t, DI.tupO_s, DI.lstO_s, DI.lstSO_s, DI.cnsO_s, DI.appO_l, DI.appO_t, DI.slO_s, DI.clO_s, DI.scO_b, DI.scO_i, DI.scO_n, DI.scO_x, DI.dspO_s, DI.lcC_t, DI.lcC_f, DI.lcC_p, DI.lcK_s, DI.tsO_t, DI.tsO_f, DI.tsO_1, DI.r1O_s, DI.r2O_s, DI.r3O_s, DI.ofO_l, DI.ofO_t, DI.enO_s, DI.enO_t, DI.zpO_s, DI.slot_0, DI.slot_s, DI.ev_var, DI.ev_cst, DI.ev_glb, DI.ev_bin, DI.ev_neg, DI.ev_cmp1, DI.ev_cmp2, DI.ev_and, DI.ev_or, DI.ev_one, DI.ev_not, DI.ev_orV, DI.ev_ite, DI.ev_tup, DI.ev_lst, DI.ev_lstS, DI.ev_ix, DI.ev_sl, DI.partE_no, DI.partE_var, DI.partE_cst, DI.partE_neg, DI.partE_bin, DI.ev_rev, DI.ev_p1, DI.ev_p2, DI.ev_dsp, DI.ev_dix, DI.ev_call, DI.ev_cals, DI.ev_lc, DI.lcE_s, DI.evs_nil, DI.evs_cons, DI.evS_nil, DI.evS_star, DI.evS_tup, DI.evS_cst, DI.evS_var, DI.evS_bin, DI.evS_ix, DI.evt_nil, DI.evt_cons, DI.evi_ofl, DI.evi_rng1, DI.evi_rng2, DI.evi_rng3, DI.evi_enum, DI.evi_zip, DI.kn_nx, DI.kn_rt, DI.kn_bk, DI.kn_ct, DI.nxO_s, DI.rtO_s, DI.asgO_s, DI.parO_s, DI.setAll_nil, DI.stO_s, DI.a3_s, DI.ifO_t, DI.ifO_f, DI.ifO_p, DI.exO_s, DI.forK_s, DI.putE_0, DI.putE_s, DI.cE_s, DI.bindP_v, DI.ownO_l, DI.sK_s, DI.setAll_cons, DI.bindP_t, DI.bindP_tl, DI.bindPs_nil, DI.bK_s, DI.bindPs_cons, DI.wipeD_nil, DI.wipeD_cons, DI.exS_asg, DI.exS_own, DI.exS_par, DI.exS_app, DI.exS_put, DI.exS_ret, DI.exS_retN, DI.exS_pass, DI.exS_brk, DI.exS_cnt, DI.exS_rse, DI.exS_exp, DI.exS_ife, DI.exSs_nil, DI.exSs_cons, DI.exS_for, DI.binD_add, DI.binD_sub, DI.binD_mul, DI.binD_fdiv, DI.binD_mod, DI.binD_pow, DI.addD_i, DI.addD_l, DI.subD_i, DI.fdivD_i, DI.modD_i, DI.negD_i, DI.cmpD_eq, DI.cmpD_ne, DI.cmpD_lt, DI.cmpD_le, DI.cmpD_gt, DI.cmpD_ge, DI.cmpD_is, DI.cmpD_isn, DI.cmpD_inn, DI.cmpD_nin, DI.isD_nn, DI.isD_in, DI.isD_ln, DI.isD_tn, DI.isD_bb, DI.eqD_i, DI.eqD_s, DI.p1D_len_l, DI.p1D_len_t, DI.p1D_abs, DI.p1D_int, DI.p1D_intb, DI.p2D_min, DI.p2D_max, DI.ixD_l, DI.ixD_t, DI.appD_l, DI.atI_0, DI.atI_1, DI.atI_2, DI.atI_3, DI.outD_rt, DI.outD_nx, DI.rK_nx, DI.rK_rt, List.set_cons_zero, List.set_cons_succ, decide_true, decide_false, Bool.not_true, Bool.not_false, Bool.and_true, Bool.true_and, Bool.and_false, Bool.false_and, Bool.or_true, Bool.true_or, Bool.or_false, Bool.false_or, if_true, if_false, Bool.false_eq_true, Option.map_some, Option.bind_some, List.map_cons, List.map_nil, List.map_append, List.cons_append, List.nil_append, not_true_eq_false, not_false_eq_true, and_true, true_and, Bool.not_not, eq_self, List.length_append, List.length_map, List.length_cons, List.length_nil, Nat.zero_add, Int.natCast_zero, Int.natCast_add, Int.cast_ofNat_Int, Int.natCast_one, Nat.succ_eq_add_one, $ls,*])
local macro_rules
  | `(tactic| simp! only [$ls,*] $l:location) => `(tactic| simp only [DI.a1_s, DI.a2_s, DI.bO_s, DI.cm_s, DI.andO_s, DI.andO_f, DI.andO_t, DI.orO_s, DI.orO_t, DI.orO_f, DI.notO_s, DI.iteO_t, DI.iteO_f, DI.iteO_p, DI.ch3_s, DI.ch3c_s, DI.orVO_s, DI.orVb_t, DI.orVb_f, DI.truthD_n, DI.truthD_l, DI.truthD_t, DI.tupO_s, DI.lstO_s, DI.lstSO_s, DI.cnsO_s, DI.appO_l, DI.appO_t, DI.slO_s, DI.clO_s, DI.scO_b, DI.scO_i, DI.scO_n, DI.scO_x, DI.dspO_s, DI.lcC_t, DI.lcC_f, DI.lcC_p, DI.lcK_s, DI.tsO_t, DI.tsO_f, DI.tsO_1, DI.r1O_s, DI.r2O_s, DI.r3O_s, DI.ofO_l, DI.ofO_t, DI.enO_s, DI.enO_t, DI.zpO_s, DI.slot_0, DI.slot_s, DI.ev_var, DI.ev_cst, DI.ev_glb, DI.ev_bin, DI.ev_neg, DI.ev_cmp1, DI.ev_cmp2, DI.ev_and, DI.ev_or, DI.ev_one, DI.ev_not, DI.ev_orV, DI.ev_ite, DI.ev_tup, DI.ev_lst, DI.ev_lstS, DI.ev_ix, DI.ev_sl, DI.partE_no, DI.partE_var, DI.partE_cst, DI.partE_neg, DI.partE_bin, DI.ev_rev, DI.ev_p1, DI.ev_p2, DI.ev_dsp, DI.ev_dix, DI.ev_call, DI.ev_cals, DI.ev_lc, DI.lcE_s, DI.evs_nil, DI.evs_cons, DI.evS_nil, DI.evS_star, DI.evS_tup, DI.evS_cst, DI.evS_var, DI.evS_bin, DI.evS_ix, DI.evt_nil, DI.evt_cons, DI.evi_ofl, DI.evi_rng1, DI.evi_rng2, DI.evi_rng3, DI.evi_enum, DI.evi_zip, DI.kn_nx, DI.kn_rt, DI.kn_bk, DI.kn_ct, DI.nxO_s, DI.rtO_s, DI.asgO_s, DI.parO_s, DI.setAll_nil, DI.stO_s, DI.a3_s, DI.ifO_t, DI.ifO_f, DI.ifO_p, DI.exO_s, DI.forK_s, DI.putE_0, DI.putE_s, DI.cE_s, DI.bindP_v, DI.ownO_l, DI.sK_s, DI.setAll_cons, DI.bindP_t, DI.bindP_tl, DI.bindPs_nil, DI.bK_s, DI.bindPs_cons, DI.wipeD_nil, DI.wipeD_cons, DI.exS_asg, DI.exS_own, DI.exS_par, DI.exS_app, DI.exS_put, DI.exS_ret, DI.exS_retN, DI.exS_pass, DI.exS_brk, DI.exS_cnt, DI.exS_rse, DI.exS_exp, DI.exS_ife, DI.exSs_nil, DI.exSs_cons, DI.exS_for, DI.binD_add, DI.binD_sub, DI.binD_mul, DI.binD_fdiv, DI.binD_mod, DI.binD_pow, DI.addD_i, DI.addD_l, DI.subD_i, DI.fdivD_i, DI.modD_i, DI.negD_i, DI.cmpD_eq, DI.cmpD_ne, DI.cmpD_lt, DI.cmpD_le, DI.cmpD_gt, DI.cmpD_ge, DI.cmpD_is, DI.cmpD_isn, DI.cmpD_inn, DI.cmpD_nin, DI.isD_nn, DI.isD_in, DI.isD_ln, DI.isD_tn, DI.isD_bb, DI.eqD_i, DI.eqD_s, DI.p1D_len_l, DI.p1D_len_t, DI.p1D_abs, DI.p1D_int, DI.p1D_intb, DI.p2D_min, DI.p2D_max, DI.ixD_l, DI.ixD_t, DI.appD_l, DI.atI_0, DI.atI_1, DI.atI_2, DI.atI_3, DI.outD_rt, DI.outD_nx, DI.rK_nx, DI.rK_rt, List.set_cons_zero, List.set_cons_succ, decide_true, decide_false, Bool.not_true, Bool.not_false, Bool.and_true, Bool.true_and, Bool.and_false, Bool.false_and, Bool.or_true, Bool.true_or, Bool.or_false, Bool.false_or, if_true, if_false, Bool.false_eq_true, Option.map_some, Option.bind_some, List.map_cons, List.map_nil, List.map_append, List.cons_append, List.nil_append, not_true_eq_false, not_false_eq_true, and_true, true_and, Bool.not_not, eq_self, List.length_append, List.length_map, List.length_cons, List.length_nil, Nat.zero_add, Int.natCast_zero, Int.natCast_add, Int.cast_ofNat_Int, Int.natCast_one, Nat.succ_eq_add_one, $ls,*] $l)
theorem sset_is {d e : D} (h : p1D .sset d = some e) : ∃ ms : List Int, e = .list (ms.map .int) := by
  cases d with
  | list xs =>
    simp only [p1D] at h
    obtain ⟨is, _, h⟩ := bnd h
    split at h
    · cases h; exact ⟨_, rfl⟩
    · cases h
  | _ => cases h
section
variable {K : PySem.W.Frag} {T : Nat → List D → Option D} {M : List Nat} {n : Nat}
theorem tW_ok {s0c : CS} {hide : Addr → Prop} {H0 : Hp} {σ0 : L2.St} {zd : PyData} {out : Out} {Q : VK}
    (S0 : RS K M hide [] H0 H0 σ0 [some zd, none, none, none, none, none, none, none]) (h : exSs T n (wB s0c) [some zd, none, none, none, none, none, none, none] = some out)
    (hs0 : ∀ o, exS T n s0c [some zd, none, none, none, none, none, none, none] = some o → ∃ md0, o = .nx [some zd, some md0, none, none, none, none, none, none])
    (q : ∀ v H' d, outD out = some d → Same H0 H' → Is K (cut hide H') v d → Q v H') : tW K T M s0c { nx := fun _ H' => Q .non H', rt := Q } σ0 H0 := by
  unfold wB at h
  rw [exSs_cons] at h
  generalize e0 : exS T n s0c _ = r0 at h
  cases r0 with
  | none => cases h
  | some o0 =>
    obtain ⟨md0, rfl⟩ := hs0 o0 e0
    rw [kn_nx, exSs_cons] at h
    have evS1 : ∀ s2 s3 s4 s5 s6 s7 : Option PyData, ev T wS [some zd, some md0, s2, s3, s4, s5, s6, s7] = p1D .sset md0 := fun s2 s3 s4 s5 s6 s7 => by simp! only [wS]
    rw [exS_asg, evS1] at h
    generalize hm : p1D .sset md0 = mv at h
    cases mv with
    | none => cases h
    | some md =>
      obtain ⟨ms, rfl⟩ := sset_is hm
      simp! only [] at h
      generalize hl : evi T wL _ = lv at h
      cases lv with
      | none => cases h
      | some ks =>
        have hks : ∀ (i : Nat) (d : PyData), ks[i]? = some d → ∃ k : Int, d = PyData.int k := fun i d hd => by
          have hl' := hl
          simp! only [wL] at hl'
          obtain ⟨_, e, _⟩ := rngD_some hl'
          rw [e, List.getElem?_map] at hd
          obtain ⟨j, _, rfl⟩ := Option.map_eq_some_iff.mp hd
          exact ⟨_, rfl⟩
        simp! only [] at h
        generalize hf : forL _ ks _ = fv at h
        cases fv with
        | none => cases h
        | some o4 =>
          refine ⟨hide, H0, _, n, _, S0, e0, fun σ1 H1 S1 f1 => ?_⟩
          refine ⟨hide, [], _, .list (ms.map .int), S1.er, nilM, by rw [evS1]; exact hm, fun v H2 s2 r2 => ⟨Nat.zero_le _, fun a na => ⟨Nat.zero_le _, fun b nb => ⟨by show 2 ≤ sizeLine; decide, fun t nt => ⟨v, .ref t, rfl, ?_⟩⟩⟩⟩⟩
          have sa := same_upd_new (o := HO.lst []) na
          have sb := same_upd_new (o := HO.lst []) nb
          have st := same_upd_new (o := HO.tup [V.ref a, .ref b]) nt
          have hba : b ≠ a := fun z => by rw [z, upd_same] at nb; cases nb
          have hta : t ≠ a := fun z => by rw [z, upd_ne hba.symm, upd_same] at nt; cases nt
          have htb : t ≠ b := fun z => by rw [z, upd_same] at nt; cases nt
          have s02 : Same H0 H2 := S1.same.trans s2
          have na0 : H0 a = none := s02.free na
          have nb0 : H0 b = none := s02.free (sa.free nb)
          have nt0 : H0 t = none := s02.free (sa.free (sb.free nt))
          have R1 := (S1.er.grow s2).put (i := 1) (d := .list (ms.map .int)) (by simp) (by rw [hd0]; exact r2.is0)
          have R2 := R1.hide1 na sa (by rw [upd_same]; simp)
          have R3 := R2.hide1 nb sb (by rw [upd_same]; simp)
          have R4 := (R3.grow st).any (i := 3) (x := .ref t) (fun d z => by cases z)
          have I : Two K hide H0 (upd (upd (upd H2 a (.lst [])) b (.lst [])) t (.tup [.ref a, .ref b])) ((σ1.set 1 (some v)).set 3 (some (.ref t))) (rE (some zd) ms none none) t a b [] [] (([] : List (Int × Int)).map dP2) (([] : List (Int × Int)).map dP2) :=
            ⟨R4, List.getElem?_set_self (by rw [List.length_set, S1.er.len]; show 3 < 8; decide), upd_same, by rw [upd_ne hta.symm, upd_ne hba.symm, upd_same], by rw [upd_ne htb.symm, upd_same], hba.symm, Nat.zero_le _, Nat.zero_le _, .nil, .nil, ((s02.trans sa).trans sb).trans st, na0, nb0, fun z => S0.hid0 a z na0, fun z => S0.hid0 b z nb0, fun z => S0.hid0 t z nt0⟩
          generalize upd (upd (upd H2 a (.lst [])) b (.lst [])) t (.tup [.ref a, .ref b]) = H4 at I
          generalize (σ1.set 1 (some v)).set 3 (some (.ref t)) = σ4 at I
          clear R1 R2 R3 R4 nb nt sa sb st
          show tFor (tI K T M wL) (tG K (.v 2)) (tBd K T M) { nx := tRet (tVar 3) { nx := fun _ H' => Q .non H', rt := Q }, rt := Q } σ4 H4
          refine ⟨_, [], _, ks, I.er, nilM, by rw [← hl]; simp! only [wL], fun J H5 s5 jok hz => ?_⟩
          have d0 : ∀ l : List Nat, diff [] l = [] := fun l => rfl
          rw [d0, d0, hd0] at jok
          have I5 := I.grow s5
          refine ⟨fun i m σ' H' => m = ks.length - i ∧ i ≤ ks.length ∧ ∃ (va vb : List V) (ga gb : List (Int × Int)) (kd s4 s5' : Option PyData), Two K hide H0 H' σ' (rE (some zd) ms kd s4) t a b va vb (ga.map dP2) (gb.map dP2) ∧ Same (cut (fun x => (hide x ∨ x = a) ∨ x = b) H5) (cut (fun x => (hide x ∨ x = a) ∨ x = b) H') ∧
            forL (stF T n (.v 2) wF) (ks.drop i) [some zd, some (.list (ms.map .int)), kd, none, s4, s5', some (.list (ga.map dP2)), some (.list (gb.map dP2))] = some o4, ⟨ks.length, by simp, Nat.zero_le _, [], [], [], [], none, none, none, I5, Same.refl _, by simpa using hf⟩, ?_⟩
          rintro i m σ' H' ⟨rfl, hi, va, vb, ga, gb, kd, s4, s5', I', sc, el⟩
          obtain ⟨jgo, jstop⟩ := jok i H' (fun x => (hide x ∨ x = a) ∨ x = b) (sc.trans cut_le) sc I'.er.hid
          by_cases hlt : i < ks.length
          · obtain ⟨go, yld⟩ := jgo hlt
            refine .inr ⟨go, fun σ2 H2 => i + 1 ≤ ks.length ∧ ∃ (va vb : List V) (ga gb : List (Int × Int)) (kd s4 s5' : Option PyData), Two K hide H0 H2 σ2 (rE (some zd) ms kd s4) t a b va vb (ga.map dP2) (gb.map dP2) ∧ Same (cut (fun x => (hide x ∨ x = a) ∨ x = b) H5) (cut (fun x => (hide x ∨ x = a) ∨ x = b) H2) ∧
              forL (stF T n (.v 2) wF) (ks.drop (i + 1)) [some zd, some (.list (ms.map .int)), kd, none, s4, s5', some (.list (ga.map dP2)), some (.list (gb.map dP2))] = some o4, fun σ2 H2 z => ⟨ks.length - (i + 1), by omega, rfl, z.1, z.2⟩, fun x H2 y => ?_⟩
            obtain ⟨s3, d2, ed2, ix⟩ := yld x H2 y
            obtain ⟨k, rfl⟩ := hks i d2 ed2
            have edr : ks.drop i = .int k :: ks.drop (i + 1) := by
              rw [List.drop_eq_getElem_cons hlt]
              rw [List.getElem?_eq_getElem hlt] at ed2
              rw [Option.some.inj ed2]
            rw [edr] at el
            simp only [forL] at el
            obtain ⟨o, eo, el2⟩ := bnd el
            simp! only [stF_def] at eo
            refine ⟨_, .int k, cut_le, ix, by simp only [okP], fun σ2 bd => ?_⟩
            cases bd with
            | v iv =>
              have I2 : Two K hide H0 H2 _ (rE (some zd) ms (some (.int k)) s4) t a b va vb (ga.map dP2) (gb.map dP2) := (I'.grow s3).store (i := 2) (by decide) iv
              exact tBd_ok I2 eo fun σ6 H6 va6 vb6 ga6 gb6 s46 s56 ho I6 sc6 => by
                subst ho
                exact ⟨hlt, va6, vb6, ga6, gb6, _, s46, s56, I6, (sc.trans (cut_same s3)).trans sc6, el2⟩
          · have hin : i = ks.length := by omega
            subst hin
            rw [List.drop_length] at el
            simp only [forL, Option.some.injEq] at el
            subst el
            simp! only [Option.some.injEq] at h
            subst h
            exact .inl ⟨jstop (Nat.le_refl _), .ref t, I'.s3, q _ H' _ rfl I'.same I'.whole⟩
end
end DI
set_option maxRecDepth 100000
set_option maxHeartbeats 4000000
/-! DI20: a text of defs of which some are walked by hand. -/
namespace DI
open PySem L2
section
variable {P : Program} {w : World} {K : PySem.W.Frag} {mg : Str → Option Value} {base : Heap} {G : PG}
/-- the def keeps its word, whatever it calls does -/
def DefOk (P : Program) (w : World) (K : PySem.W.Frag) (mg : Str → Option Value) (base : Heap) (G : PG) (r : DefR) : Prop := ∀ (f : Addr) (fd : FuncData) (T : Nat → List D → Option D), Fun K r.fn r.fn r.st f fd →
  (∀ (j : Nat) x k n, (gam G r).fs[j]? = some (x, k, n) → k ≤ r.lev → FD P w K mg base x k n (T j)) → FnOkG P w K mg base CX0 (r.lev + 1) f fd r.ps (spD K r.ps.length fun ds => runD T r.N.length r.body ds)
theorem DefOk.of {r : DefR} (W : Wld K mg G) (h : defB G r = true) : DefOk P w K mg base G r := fun f fd T F hT => def_ok W F h hT
theorem DefOk.two {r : DefR} {s0c : CS} (W : Wld K mg G) (hb : r.body = wB s0c) (hN : r.N.length = 8) (hps : r.ps.length = 1) (h1 : spB (gam G r) (defScope r.st) (fun _ => true) s0c (defBody r.st) = true) (hk : chk r.M none [] s0c = some []) (h3 : C8.scC r.N r.ps (defScope r.st) = true)
    (hs0 : ∀ (T : Nat → List D → Option D) (n : Nat) (zd : D) (o : Out), exS T n s0c [some zd, none, none, none, none, none, none, none] = some o → ∃ md0, o = .nx [some zd, some md0, none, none, none, none, none, none]) : DefOk P w K mg base G r := by
  intro f fd T F hT
  have S := C8.fnScope_by h3
  refine Fun.okG F S (fun vs H Q E q => q.1) fun cdv A outer s H vs Q E hr hgd hsp => ?_
  obtain ⟨hl, hide, ds, d, hh, ia, eg, q⟩ := hsp
  have C : CxOk (cxOf CX0 P w K mg base r.N r.fn (defScope r.st) f cdv A outer s H E).nox (gam G r) (defScope r.st) (fun _ => true) T :=
    ⟨rfl, S.nd, rfl, S.kind, fun _ _ => rfl, rfl, by have := hr.un; show (A.deeper _).units + 70 < _; omega, hr, hgd, W.csO, hT, W.bsO, W.gsO⟩
  refine ⟨_, spB_ok h1 hk C PassesOwn.never, ?_⟩
  have hd1 : ds.length = 1 := by rw [← ia.length, hl, hps]
  obtain ⟨zd, rfl⟩ : ∃ zd, ds = [zd] := by
    match ds, hd1 with
    | [zd], _ => exact ⟨zd, rfl⟩
  have hρ : [zd].map some ++ List.replicate (r.N.length - [zd].length) none = [some zd, none, none, none, none, none, none, none] := by rw [hN]; rfl
  obtain ⟨out, eo, ed⟩ := bnd (show (exSs T fuel r.body ([zd].map some ++ List.replicate (r.N.length - [zd].length) none)).bind outD = some d from eg)
  rw [hρ, hb] at eo
  have R := start_er (N := r.N) hh ia
  rw [hρ] at R
  refine tW_ok (n := fuel) (out := out) ⟨R, (fun i hi => by cases hi), Same.refl _, hh, fun i hi => by cases hi⟩ eo (hs0 T fuel zd) fun v H' d' e s i => ?_
  rw [ed] at e
  cases e
  exact q v H' s i
theorem prog_ok2 (hB : ∀ r ∈ G.defs, DefOk P w K mg base G r) (hF : ∀ r ∈ G.defs, Laid K mg r) :
    ∀ (d j : Nat) (r : DefR), G.defs[j]? = some r → r.lev < d → FD P w K mg base r.name (r.lev + 1) r.ps.length (TT G d j)
  | 0, _, _, _, h => absurd h (Nat.not_lt_zero _)
  | d + 1, j, r, hj, hlev => by
    have hm := List.mem_of_getElem? hj
    obtain ⟨f, fd, hmg, F, B⟩ := hF r hm
    refine ⟨f, fd, r.ps, hmg, ?_, F.kp, B⟩
    have e : TT G (d + 1) j = fun ds => runD (TT G d) r.N.length r.body ds := by
      funext ds
      simp only [TT, hj, Option.bind_some]
    rw [e]
    refine hB r hm f fd (TT G d) F fun j' x k n hf hk => ?_
    rw [gam, List.getElem?_map] at hf
    obtain ⟨r', e1, e2⟩ := Option.map_eq_some_iff.mp hf
    cases e2
    exact prog_ok2 hB hF d j' r' e1 (by omega)
theorem law_ok2 {f : Addr} {fd : FuncData} {r : DefR} {d : Nat} (hB : ∀ r ∈ G.defs, DefOk P w K mg base G r) (hF : ∀ r ∈ G.defs, Laid K mg r)
    (hr : r ∈ G.defs) (hp : r.ps.length = 1) (F : Fun K r.fn r.fn r.st f fd) (hd : r.lev ≤ d) (h : ∀ ns : List Int, ns.length ≤ 63 → runD (TT G d) r.N.length r.body [.list (ns.map .int)] = some (.bool true)) : FnOkG P w K mg base CX0 (r.lev + 1) f fd r.ps (spLaw K) := by
  refine (hB r hr f fd (TT G d) F fun j x k n hf hk => ?_).imp fun vs H Q E q => ?_
  · rw [gam, List.getElem?_map] at hf
    obtain ⟨r', e1, e2⟩ := Option.map_eq_some_iff.mp hf
    cases e2
    exact prog_ok2 hB hF d j r' e1 (by omega)
  · obtain ⟨a, ns, rfl, hs, hl, k⟩ := q
    refine ⟨hp.symm ▸ rfl, fun _ => False, [.list (ns.map .int)], .bool true, fun b z => z.elim, .cons ?_ .nil, h ns hl, fun v H' s i => ?_⟩
    · have c : cut (fun _ => False) H = H := funext fun b => cut_no id
      rw [c]
      refine .lst hs (by rw [List.length_map]; exact Nat.le_trans hl (by decide)) ?_
      clear h hs hl
      induction ns with
      | nil => exact .nil
      | cons n r ih => exact .cons (.int n) ih
    · cases i
      exact k H'
end
end DI
set_option maxRecDepth 100000
set_option maxHeartbeats 4000000
namespace K70
open PySem DI L2
local macro_rules
  | `(tactic| simp! only [$ls,*]) => `(tactic| simp only [DI.a1_s, DI.a2_s, DI.bO_s, DI.cm_s, DI.andO_s, DI.andO_f, DI.andO_t, DI.orO_s, DI.orO_t, DI.orO_f, DI.notO_s, DI.iteO_t, DI.iteO_f, DI.iteO_p, DI.ch3_s, DI.ch3c_s, DI.orVO_s, DI.orVb_t, DI.orVb_f, DI.truthD_n, DI.truthD_l, DI.truthD_t, DI.tupO_s, DI.lstO_s, DI.lstSO_s, DI.cnsO_s, DI.appO_l, DI.appO_t, DI.slO_s, DI.clO_s, DI.scO_b, DI.scO_i, DI.scO_n, DI.scO_x, DI.dspO_s, DI.lcC_t, DI.lcC_f, DI.lcC_p, DI.lcK_s, DI.tsO_t, DI.tsO_f, DI.tsO_1, DI.r1O_s, DI.r2O_s, DI.r3O_s, DI.ofO_l, DI.ofO_t, DI.enO_s, DI.enO_t, DI.zpO_s, DI.slot_0, DI.slot_s, DI.ev_var, DI.ev_cst, DI.ev_glb, DI.ev_bin, DI.ev_neg, DI.ev_cmp1, DI.ev_cmp2, DI.ev_and, DI.ev_or, DI.ev_one, DI.ev_not, DI.ev_orV, DI.ev_ite, DI.ev_tup, DI.ev_lst, DI.ev_lstS, DI.ev_ix, DI.ev_sl, DI.partE_no, DI.partE_var, DI.partE_cst, DI.partE_neg, DI.partE_bin, DI.ev_rev, DI.ev_p1, DI.ev_p2, DI.ev_dsp, DI.ev_dix, DI.ev_call, DI.ev_cals, DI.ev_lc, DI.lcE_s, DI.evs_nil, DI.evs_cons, DI.evS_nil, DI.evS_star, DI.evS_tup, DI.evS_cst, DI.evS_var, DI.evS_bin, DI.evS_ix, DI.evt_nil, DI.evt_cons, DI.evi_ofl, DI.evi_rng1, DI.evi_rng2, DI.evi_rng3, DI.evi_enum, DI.evi_zip, DI.kn_nx, DI.kn_rt, DI.kn_bk, DI.kn_ct, DI.nxO_s, DI.rtO_s, DI.asgO_s, DI.parO_s, DI.setAll_nil, DI.stO_s, DI.a3_s, DI.ifO_t, DI.ifO_f, DI.ifO_p, DI.exO_s, DI.forK_s, DI.putE_0, DI.putE_s, DI.cE_s, DI.bindP_v, DI.ownO_l, DI.sK_s, DI.setAll_cons, DI.bindP_t, DI.bindP_tl, DI.bindPs_nil, DI.bK_s, DI.bindPs_cons, DI.wipeD_nil, DI.wipeD_cons, DI.exS_asg, DI.exS_own, DI.exS_par, DI.exS_app, DI.exS_put, DI.exS_ret, DI.exS_retN, DI.exS_pass, DI.exS_brk, DI.exS_cnt, DI.exS_rse, DI.exS_exp, DI.exS_ife, DI.exSs_nil, DI.exSs_cons, DI.exS_for, DI.binD_add, DI.binD_sub, DI.binD_mul, DI.binD_fdiv, DI.binD_mod, DI.binD_pow, DI.addD_i, DI.addD_l, DI.subD_i, DI.fdivD_i, DI.modD_i, DI.negD_i, DI.cmpD_eq, DI.cmpD_ne, DI.cmpD_lt, DI.cmpD_le, DI.cmpD_gt, DI.cmpD_ge, DI.cmpD_is, DI.cmpD_isn, DI.cmpD_inn, DI.cmpD_nin, DI.isD_nn, DI.isD_in, DI.isD_ln, DI.isD_tn, DI.isD_bb, DI.eqD_i, DI.eqD_s, DI.p1D_len_l, DI.p1D_len_t, DI.p1D_abs, DI.p1D_int, DI.p1D_intb, DI.p2D_min, DI.p2D_max, DI.ixD_l, DI.ixD_t, DI.appD_l, DI.atI_0, DI.atI_1, DI.atI_2, DI.atI_3, DI.outD_rt, DI.outD_nx, DI.rK_nx, DI.rK_rt, List.set_cons_zero, List.set_cons_succ, decide_true, decide_false, Bool.not_true, Bool.not_false, Bool.and_true, Bool.true_and, Bool.and_false, Bool.false_and, Bool.or_true, Bool.true_or, Bool.or_false, Bool.false_or, if_true, if_false, Bool.false_eq_true, Option.map_some, Option.bind_some, List.map_cons, List.map_nil, List.map_append, List.cons_append, List.nil_append, not_true_eq_false, not_false_eq_true, and_true, true_and, Bool.not_not, eq_self, List.length_append, List.length_map, List.length_cons, List.length_nil, Nat.zero_add, Int.natCast_zero, Int.natCast_add, Int.cast_ofNat_Int, Int.natCast_one, Nat.succ_eq_add_one, $ls,*])
local macro_rules
  | `(tactic| simp! only [$ls,*] $l:location) => `(tactic| simp only [DI.a1_s, DI.a2_s, DI.bO_s, DI.cm_s, DI.andO_s, DI.andO_f, DI.andO_t, DI.orO_s, DI.orO_t, DI.orO_f, DI.notO_s, DI.iteO_t, DI.iteO_f, DI.iteO_p, DI.ch3_s, DI.ch3c_s, DI.orVO_s, DI.orVb_t, DI.orVb_f, DI.truthD_n, DI.truthD_l, DI.truthD_t, DI.tupO_s, DI.lstO_s, DI.lstSO_s, DI.cnsO_s, DI.appO_l, DI.appO_t, DI.slO_s, DI.clO_s, DI.scO_b, DI.scO_i, DI.scO_n, DI.scO_x, DI.dspO_s, DI.lcC_t, DI.lcC_f, DI.lcC_p, DI.lcK_s, DI.tsO_t, DI.tsO_f, DI.tsO_1, DI.r1O_s, DI.r2O_s, DI.r3O_s, DI.ofO_l, DI.ofO_t, DI.enO_s, DI.enO_t, DI.zpO_s, DI.slot_0, DI.slot_s, DI.ev_var, DI.ev_cst, DI.ev_glb, DI.ev_bin, DI.ev_neg, DI.ev_cmp1, DI.ev_cmp2, DI.ev_and, DI.ev_or, DI.ev_one, DI.ev_not, DI.ev_orV, DI.ev_ite, DI.ev_tup, DI.ev_lst, DI.ev_lstS, DI.ev_ix, DI.ev_sl, DI.partE_no, DI.partE_var, DI.partE_cst, DI.partE_neg, DI.partE_bin, DI.ev_rev, DI.ev_p1, DI.ev_p2, DI.ev_dsp, DI.ev_dix, DI.ev_call, DI.ev_cals, DI.ev_lc, DI.lcE_s, DI.evs_nil, DI.evs_cons, DI.evS_nil, DI.evS_star, DI.evS_tup, DI.evS_cst, DI.evS_var, DI.evS_bin, DI.evS_ix, DI.evt_nil, DI.evt_cons, DI.evi_ofl, DI.evi_rng1, DI.evi_rng2, DI.evi_rng3, DI.evi_enum, DI.evi_zip, DI.kn_nx, DI.kn_rt, DI.kn_bk, DI.kn_ct, DI.nxO_s, DI.rtO_s, DI.asgO_s, DI.parO_s, DI.setAll_nil, DI.stO_s, DI.a3_s, DI.ifO_t, DI.ifO_f, DI.ifO_p, DI.exO_s, DI.forK_s, DI.putE_0, DI.putE_s, DI.cE_s, DI.bindP_v, DI.ownO_l, DI.sK_s, DI.setAll_cons, DI.bindP_t, DI.bindP_tl, DI.bindPs_nil, DI.bK_s, DI.bindPs_cons, DI.wipeD_nil, DI.wipeD_cons, DI.exS_asg, DI.exS_own, DI.exS_par, DI.exS_app, DI.exS_put, DI.exS_ret, DI.exS_retN, DI.exS_pass, DI.exS_brk, DI.exS_cnt, DI.exS_rse, DI.exS_exp, DI.exS_ife, DI.exSs_nil, DI.exSs_cons, DI.exS_for, DI.binD_add, DI.binD_sub, DI.binD_mul, DI.binD_fdiv, DI.binD_mod, DI.binD_pow, DI.addD_i, DI.addD_l, DI.subD_i, DI.fdivD_i, DI.modD_i, DI.negD_i, DI.cmpD_eq, DI.cmpD_ne, DI.cmpD_lt, DI.cmpD_le, DI.cmpD_gt, DI.cmpD_ge, DI.cmpD_is, DI.cmpD_isn, DI.cmpD_inn, DI.cmpD_nin, DI.isD_nn, DI.isD_in, DI.isD_ln, DI.isD_tn, DI.isD_bb, DI.eqD_i, DI.eqD_s, DI.p1D_len_l, DI.p1D_len_t, DI.p1D_abs, DI.p1D_int, DI.p1D_intb, DI.p2D_min, DI.p2D_max, DI.ixD_l, DI.ixD_t, DI.appD_l, DI.atI_0, DI.atI_1, DI.atI_2, DI.atI_3, DI.outD_rt, DI.outD_nx, DI.rK_nx, DI.rK_rt, List.set_cons_zero, List.set_cons_succ, decide_true, decide_false, Bool.not_true, Bool.not_false, Bool.and_true, Bool.true_and, Bool.and_false, Bool.false_and, Bool.or_true, Bool.true_or, Bool.or_false, Bool.false_or, if_true, if_false, Bool.false_eq_true, Option.map_some, Option.bind_some, List.map_cons, List.map_nil, List.map_append, List.cons_append, List.nil_append, not_true_eq_false, not_false_eq_true, and_true, true_and, Bool.not_not, eq_self, List.length_append, List.length_map, List.length_cons, List.length_nil, Nat.zero_add, Int.natCast_zero, Int.natCast_add, Int.cast_ofNat_Int, Int.natCast_one, Nat.succ_eq_add_one, $ls,*] $l)
theorem q24 : spB (gam G r24) (defScope r24.st) (fun _ => true) b24a (defBody r24.st) = true := by decide +kernel
theorem s24a (T : Nat → List D → Option D) (n : Nat) (zd : D) (o : Out) (h : exS T n b24a [some zd, none, none, none, none, none, none, none] = some o) : ∃ md0, o = .nx [some zd, some md0, none, none, none, none, none, none] := by
  unfold b24a at h
  rw [exS_asg] at h
  generalize ev T _ _ = e at h
  cases e with
  | none => cases h
  | some md =>
    simp! only [Option.some.injEq] at h
    exact ⟨md, h.symm⟩
theorem d24 {P : Program} {w : World} {K : PySem.W.Frag} {mg : Str → Option Value} {base : Heap} (W : Wld K mg G) : DefOk P w K mg base G r24 :=
  DefOk.two W (s0c := b24a) rfl rfl rfl q24 rfl (by decide +kernel) s24a
end K70
set_option maxRecDepth 100000
set_option maxHeartbeats 1000000
/-! DI21: what the module holds, collected. -/
namespace DI
open PySem L2
section
variable {K : PySem.W.Frag} {mg : Str → Option Value} {h : Heap} {r : DefR} {x y : Str} {st : Stmt} {Z : Prop} {f : Addr} {od an : Option Addr} {sl : Array (Option Value)} {oc kV dc pm cd ct : Value}
theorem laid_of (hx : r.name = x) (hy : r.fn = y) (hs : r.st = st) (X : K.In h) (G : h.Ns mainGlobals mg)
    (b : ∀ (kV doc pm : Value) (an : Option Addr) (cdv ct : Value) (us : List Value), us.length = r.ps.length → bindArgs (PySem.W.fnOf y y (defArgs st) (defBody st) (defScope st) .none kV doc pm an cdv ct) ⟨us, []⟩ = pure (r.ps.zip us))
    (a : PySem.W.nsIn K mainGlobals x = some (some (.ref f))) (l : K.lookup f = some ⟨oc, od, .func (PySem.W.fnOf y y (defArgs st) (defBody st) (defScope st) .none kV dc pm an cd ct), sl⟩) (c : PySem.W.codeIn K cd y = true) (k : PySem.W.keepIn K (.ref f) = true) : Laid K mg r := by
  subst hx; subst hy; subst hs
  exact ⟨f, _, PySem.W.mg_of X G a, fun_mk (st := r.st) l c k, (fun_mk (st := r.st) l c k).binds b⟩
theorem laid_then (hx : r.name = x) (hy : r.fn = y) (hs : r.st = st) (X : K.In h) (G : h.Ns mainGlobals mg)
    (b : ∀ (kV doc pm : Value) (an : Option Addr) (cdv ct : Value) (us : List Value), us.length = r.ps.length → bindArgs (PySem.W.fnOf y y (defArgs st) (defBody st) (defScope st) .none kV doc pm an cdv ct) ⟨us, []⟩ = pure (r.ps.zip us))
    (a : PySem.W.nsIn K mainGlobals x = some (some (.ref f))) (l : K.lookup f = some ⟨oc, od, .func (PySem.W.fnOf y y (defArgs st) (defBody st) (defScope st) .none kV dc pm an cd ct), sl⟩) (c : PySem.W.codeIn K cd y = true) (k : PySem.W.keepIn K (.ref f) = true) (cont : Laid K mg r → Z) : Z :=
  cont (laid_of hx hy hs X G b a l c k)
/-- the law itself, with how its arguments are bound -/
def LawAt (K : PySem.W.Frag) (mg : Str → Option Value) (r : DefR) : Prop := ∃ f fd, mg r.name = some (.ref f) ∧ Fun K r.fn r.fn r.st f fd ∧ ∀ us : List Value, us.length = r.ps.length → bindArgs fd ⟨us, []⟩ = pure (r.ps.zip us)
theorem law_then (hx : r.name = x) (hy : r.fn = y) (hs : r.st = st) (X : K.In h) (G : h.Ns mainGlobals mg)
    (b : ∀ (kV doc pm : Value) (an : Option Addr) (cdv ct : Value) (us : List Value), us.length = r.ps.length → bindArgs (PySem.W.fnOf y y (defArgs st) (defBody st) (defScope st) .none kV doc pm an cdv ct) ⟨us, []⟩ = pure (r.ps.zip us))
    (a : PySem.W.nsIn K mainGlobals x = some (some (.ref f))) (l : K.lookup f = some ⟨oc, od, .func (PySem.W.fnOf y y (defArgs st) (defBody st) (defScope st) .none kV dc pm an cd ct), sl⟩) (c : PySem.W.codeIn K cd y = true) (k : PySem.W.keepIn K (.ref f) = true) (cont : Laid K mg r ∧ LawAt K mg r → Z) : Z := by
  refine cont ⟨laid_of hx hy hs X G b a l c k, ?_⟩
  subst hx; subst hy; subst hs
  exact ⟨f, _, PySem.W.mg_of X G a, fun_mk (st := r.st) l c k, fun us hl => b _ _ _ _ _ _ us hl⟩
def CstAt (K : PySem.W.Frag) (mg : Str → Option Value) (p : Str × D) : Prop := ∃ v u, mg p.1 = some u ∧ RelV v u ∧ Is K (fun _ => none) v p.2
theorem cint_then {i : Int} {t : Tok} (X : K.In h) (G : h.Ns mainGlobals mg) (a : PySem.W.nsIn K mainGlobals x = some (some (.int i t))) (cont : CstAt K mg (x, .int i) → Z) : Z :=
  cont ⟨.int i, _, PySem.W.mg_of X G a, ⟨t, rfl⟩, .int i⟩
def strsL : List Value → List Str → Bool
  | [], [] => true
  | .str s _ :: r, t :: u => decide (s = t) && strsL r u
  | _, _ => false
theorem strsL_ok : ∀ {its : List Value} {ss : List Str}, strsL its ss = true → Vals (ss.map V.str) its
  | [], [], _ => .nil
  | .str s t :: r, z :: u, e => by
    simp only [strsL, Bool.and_eq_true, decide_eq_true_eq] at e
    obtain ⟨rfl, e⟩ := e
    exact .cons ⟨t, rfl⟩ (strsL_ok e)
theorem is_strs {H : Hp} : ∀ (ss : List Str), IsAll K H (ss.map V.str) (ss.map .str)
  | [] => .nil
  | s :: r => .cons (.str s) (is_strs r)
theorem ctup_then {a : Addr} {od : Option Addr} {its : Array Value} {n : Nat} {sl : Array (Option Value)} {ss : List Str} (X : K.In h) (G : h.Ns mainGlobals mg) (e : PySem.W.nsIn K mainGlobals x = some (some (.ref a))) (l : K.lookup a = some ⟨.type "tuple", od, .seq its n, sl⟩)
    (b : (strsL its.toList ss && decide (its.size ≤ 1000)) = true) (cont : CstAt K mg (x, .tuple (ss.map .str)) → Z) : Z := by
  simp only [Bool.and_eq_true, decide_eq_true_eq] at b
  have hv := strsL_ok b.1
  have hz : its.size ≤ sizeLine := Nat.le_trans b.2 (by decide)
  exact cont ⟨.ref a, _, PySem.W.mg_of X G e, rfl, .tup (.inr ⟨_, its, n, l, rfl, rfl, hz, hv⟩) (by rw [hv.length]; simpa using hz) (is_strs ss)⟩
theorem bn_then (X : K.In h) (G : h.Ns mainGlobals mg) (a : PySem.W.nsIn K mainGlobals x = some none) (cont : mg x = none → Z) : Z := cont (PySem.W.mg_none_of X G a)
theorem gc_then (X : K.In h) (G : h.Ns mainGlobals mg) (a : PySem.W.nsIn K mainGlobals x = some (some (.builtin "math.gcd"))) (cont : mg x = some (.builtin "math.gcd") → Z) : Z := cont (PySem.W.mg_of X G a)
def AllP {α : Type} (p : α → Prop) : List α → Prop
  | [] => True
  | x :: r => p x ∧ AllP p r
theorem AllP.mem {α : Type} {p : α → Prop} : ∀ {l : List α}, AllP p l → ∀ x ∈ l, p x
  | _ :: _, h, _, .head _ => h.1
  | _ :: _, h, _, .tail _ m => AllP.mem h.2 _ m
theorem wld_of {G : PG} (c : AllP (CstAt K mg) G.cs) (b : AllP (fun x => mg x = none) G.bs) (g : AllP (fun x => mg x = some (.builtin "math.gcd")) G.gs) : Wld K mg G :=
  ⟨fun x d hm => c.mem (x, d) hm, fun x hm => b.mem x hm, fun x hm => g.mem x hm⟩
end
theorem fin_of {P : Program} {w : World} {K : PySem.W.Frag} {mg : Str → Option Value} {G : PG} {r : DefR} {fa : Addr} {d lv : Nat} {x : Str}
    (ok : ∀ base, ∀ r ∈ G.defs, DefOk P w K mg base G r) (hl : AllP (Laid K mg) G.defs) (hr : r ∈ G.defs) (hp : r.ps = [x]) (hlv : r.lev + 1 = lv) (la : LawAt K mg r) (hmg : mg r.name = some (.ref fa)) (hd : r.lev ≤ d)
    (h : ∀ ns : List Int, ns.length ≤ 63 → runD (TT G d) r.N.length r.body [.list (ns.map .int)] = some (.bool true)) :
    ∃ fd : FuncData, (∀ (s : Shared) (u : Value), BindsTo s fd ⟨[u], []⟩ [(x, u)]) ∧ ∀ base : Heap, K.In base → base.Ns mainGlobals mg → FnOkG P w K mg base CX0 lv fa fd [x] (spLaw K) := by
  obtain ⟨f, fd, e, F, b⟩ := la
  rw [hmg] at e
  cases e
  rw [hp] at b
  refine ⟨fd, fun s u => .of_eq (b [u] rfl), fun base _ _ => ?_⟩
  have := law_ok2 (ok base) hl.mem hr (by rw [hp]; rfl) F hd h
  rw [hp, hlv] at this
  exact this
end DI
set_option maxRecDepth 100000
set_option maxHeartbeats 1000000
namespace K70
open PySem DI L2
theorem all_ok {P : Program} {w : World} {K : PySem.W.Frag} {mg : Str → Option Value} (W : Wld K mg G) (base : Heap) : ∀ r ∈ G.defs, DefOk P w K mg base G r :=
  AllP.mem (show AllP (DefOk P w K mg base G) G.defs from ⟨.of W h0, .of W h1, .of W h2, .of W h3, .of W h4, .of W h5, .of W h6, .of W h7, .of W h8, .of W h9, .of W h10, .of W h11, .of W h12, .of W h13, .of W h14, .of W h15, .of W h16, .of W h17, .of W h18, .of W h19, .of W h20, .of W h21, .of W h22, .of W h23, d24 W, .of W h25, .of W h26, .of W h27, .of W h28, .of W h29, .of W h30, .of W h31, .of W h32, .of W h33, .of W h34, .of W h35, .of W h36, .of W h37, trivial⟩)
theorem fin {P : Program} {w : World} {K : PySem.W.Frag} {mg : Str → Option Value} {fa : Addr} (c : AllP (CstAt K mg) G.cs) (b : AllP (fun x => mg x = none) G.bs) (g : AllP (fun x => mg x = some (.builtin "math.gcd")) G.gs) (hl : AllP (Laid K mg) G.defs)
    (la : LawAt K mg r37) (hmg : mg "law" = some (.ref fa)) : ∃ fd : FuncData, (∀ (s : Shared) (u : Value), BindsTo s fd ⟨[u], []⟩ [("script", u)]) ∧ ∀ base : Heap, K.In base → base.Ns mainGlobals mg → FnOkG P w K mg base CX0 5 fa fd ["script"] (spLaw K) :=
  fin_of (r := r37) (d := 5) (all_ok (wld_of c b g)) hl (List.mem_of_getElem? (i := 37) rfl) rfl rfl la hmg (by decide) fun ns hn => s37 (by decide) hn
end K70
set_option maxRecDepth 100000
namespace K70
open PySem L2 DI

theorem bn0 : ∀ (kV doc pm : Value) (an : Option Addr) (cdv ct : Value) (us : List Value), us.length = r0.ps.length → bindArgs (PySem.W.fnOf "check_runs" "check_runs" (defArgs (top 14)) (defBody (top 14)) (defScope (top 14)) .none kV doc pm an cdv ct) ⟨us, []⟩ = pure (r0.ps.zip us) := fun _ _ _ _ _ _ us hl => match us, hl with | [_], _ => rfl
theorem bn1 : ∀ (kV doc pm : Value) (an : Option Addr) (cdv ct : Value) (us : List Value), us.length = r1.ps.length → bindArgs (PySem.W.fnOf "started" "started" (defArgs (top 16)) (defBody (top 16)) (defScope (top 16)) .none kV doc pm an cdv ct) ⟨us, []⟩ = pure (r1.ps.zip us) := fun _ _ _ _ _ _ us hl => match us, hl with | [_, _], _ => rfl
theorem bn2 : ∀ (kV doc pm : Value) (an : Option Addr) (cdv ct : Value) (us : List Value), us.length = r2.ps.length → bindArgs (PySem.W.fnOf "check_zone" "check_zone" (defArgs (top 30)) (defBody (top 30)) (defScope (top 30)) .none kV doc pm an cdv ct) ⟨us, []⟩ = pure (r2.ps.zip us) := fun _ _ _ _ _ _ us hl => match us, hl with | [_], _ => rfl
theorem bn3 : ∀ (kV doc pm : Value) (an : Option Addr) (cdv ct : Value) (us : List Value), us.length = r3.ps.length → bindArgs (PySem.W.fnOf "spans_of" "spans_of" (defArgs (top 33)) (defBody (top 33)) (defScope (top 33)) .none kV doc pm an cdv ct) ⟨us, []⟩ = pure (r3.ps.zip us) := fun _ _ _ _ _ _ us hl => match us, hl with | [_], _ => rfl
theorem bn4 : ∀ (kV doc pm : Value) (an : Option Addr) (cdv ct : Value) (us : List Value), us.length = r4.ps.length → bindArgs (PySem.W.fnOf "joined" "joined" (defArgs (top 39)) (defBody (top 39)) (defScope (top 39)) .none kV doc pm an cdv ct) ⟨us, []⟩ = pure (r4.ps.zip us) := fun _ _ _ _ _ _ us hl => match us, hl with | [_], _ => rfl
theorem bn5 : ∀ (kV doc pm : Value) (an : Option Addr) (cdv ct : Value) (us : List Value), us.length = r5.ps.length → bindArgs (PySem.W.fnOf "check_rule" "check_rule" (defArgs (top 48)) (defBody (top 48)) (defScope (top 48)) .none kV doc pm an cdv ct) ⟨us, []⟩ = pure (r5.ps.zip us) := fun _ _ _ _ _ _ us hl => match us, hl with | [_], _ => rfl
theorem bn6 : ∀ (kV doc pm : Value) (an : Option Addr) (cdv ct : Value) (us : List Value), us.length = r6.ps.length → bindArgs (PySem.W.fnOf "waits_of" "waits_of" (defArgs (top 49)) (defBody (top 49)) (defScope (top 49)) .none kV doc pm an cdv ct) ⟨us, []⟩ = pure (r6.ps.zip us) := fun _ _ _ _ _ _ us hl => match us, hl with | [_], _ => rfl
theorem bn7 : ∀ (kV doc pm : Value) (an : Option Addr) (cdv ct : Value) (us : List Value), us.length = r7.ps.length → bindArgs (PySem.W.fnOf "_law_draws" "_law_draws" (defArgs (top 56)) (defBody (top 56)) (defScope (top 56)) .none kV doc pm an cdv ct) ⟨us, []⟩ = pure (r7.ps.zip us) := fun _ _ _ _ _ _ us hl => match us, hl with | [_], _ => rfl
theorem bn8 : ∀ (kV doc pm : Value) (an : Option Addr) (cdv ct : Value) (us : List Value), us.length = r8.ps.length → bindArgs (PySem.W.fnOf "_law_mix" "_law_mix" (defArgs (top 57)) (defBody (top 57)) (defScope (top 57)) .none kV doc pm an cdv ct) ⟨us, []⟩ = pure (r8.ps.zip us) := fun _ _ _ _ _ _ us hl => match us, hl with | [_, _, _], _ => rfl
theorem bn9 : ∀ (kV doc pm : Value) (an : Option Addr) (cdv ct : Value) (us : List Value), us.length = r9.ps.length → bindArgs (PySem.W.fnOf "_law_local" "_law_local" (defArgs (top 58)) (defBody (top 58)) (defScope (top 58)) .none kV doc pm an cdv ct) ⟨us, []⟩ = pure (r9.ps.zip us) := fun _ _ _ _ _ _ us hl => match us, hl with | [_, _], _ => rfl
theorem bn10 : ∀ (kV doc pm : Value) (an : Option Addr) (cdv ct : Value) (us : List Value), us.length = r10.ps.length → bindArgs (PySem.W.fnOf "_law_comes" "_law_comes" (defArgs (top 59)) (defBody (top 59)) (defScope (top 59)) .none kV doc pm an cdv ct) ⟨us, []⟩ = pure (r10.ps.zip us) := fun _ _ _ _ _ _ us hl => match us, hl with | [_, _], _ => rfl
theorem bn11 : ∀ (kV doc pm : Value) (an : Option Addr) (cdv ct : Value) (us : List Value), us.length = r11.ps.length → bindArgs (PySem.W.fnOf "_law_later" "_law_later" (defArgs (top 62)) (defBody (top 62)) (defScope (top 62)) .none kV doc pm an cdv ct) ⟨us, []⟩ = pure (r11.ps.zip us) := fun _ _ _ _ _ _ us hl => match us, hl with | [_, _], _ => rfl
theorem bn12 : ∀ (kV doc pm : Value) (an : Option Addr) (cdv ct : Value) (us : List Value), us.length = r12.ps.length → bindArgs (PySem.W.fnOf "_law_worked" "_law_worked" (defArgs (top 64)) (defBody (top 64)) (defScope (top 64)) .none kV doc pm an cdv ct) ⟨us, []⟩ = pure (r12.ps.zip us) := fun _ _ _ _ _ _ us hl => match us, hl with | [_, _], _ => rfl
theorem bn13 : ∀ (kV doc pm : Value) (an : Option Addr) (cdv ct : Value) (us : List Value), us.length = r13.ps.length → bindArgs (PySem.W.fnOf "check_asked" "check_asked" (defArgs (top 15)) (defBody (top 15)) (defScope (top 15)) .none kV doc pm an cdv ct) ⟨us, []⟩ = pure (r13.ps.zip us) := fun _ _ _ _ _ _ us hl => match us, hl with | [_, _], _ => rfl
theorem bn14 : ∀ (kV doc pm : Value) (an : Option Addr) (cdv ct : Value) (us : List Value), us.length = r14.ps.length → bindArgs (PySem.W.fnOf "queue_waits" "queue_waits" (defArgs (top 21)) (defBody (top 21)) (defScope (top 21)) .none kV doc pm an cdv ct) ⟨us, []⟩ = pure (r14.ps.zip us) := fun _ _ _ _ _ _ us hl => match us, hl with | [_], _ => rfl
theorem bn15 : ∀ (kV doc pm : Value) (an : Option Addr) (cdv ct : Value) (us : List Value), us.length = r15.ps.length → bindArgs (PySem.W.fnOf "local_at" "local_at" (defArgs (top 31)) (defBody (top 31)) (defScope (top 31)) .none kV doc pm an cdv ct) ⟨us, []⟩ = pure (r15.ps.zip us) := fun _ _ _ _ _ _ us hl => match us, hl with | [_, _], _ => rfl
theorem bn16 : ∀ (kV doc pm : Value) (an : Option Addr) (cdv ct : Value) (us : List Value), us.length = r16.ps.length → bindArgs (PySem.W.fnOf "check_local" "check_local" (defArgs (top 32)) (defBody (top 32)) (defScope (top 32)) .none kV doc pm an cdv ct) ⟨us, []⟩ = pure (r16.ps.zip us) := fun _ _ _ _ _ _ us hl => match us, hl with | [_, _], _ => rfl
theorem bn17 : ∀ (kV doc pm : Value) (an : Option Addr) (cdv ct : Value) (us : List Value), us.length = r17.ps.length → bindArgs (PySem.W.fnOf "comes_at" "comes_at" (defArgs (top 34)) (defBody (top 34)) (defScope (top 34)) .none kV doc pm an cdv ct) ⟨us, []⟩ = pure (r17.ps.zip us) := fun _ _ _ _ _ _ us hl => match us, hl with | [_, _], _ => rfl
theorem bn18 : ∀ (kV doc pm : Value) (an : Option Addr) (cdv ct : Value) (us : List Value), us.length = r18.ps.length → bindArgs (PySem.W.fnOf "next_start" "next_start" (defArgs (top 36)) (defBody (top 36)) (defScope (top 36)) .none kV doc pm an cdv ct) ⟨us, []⟩ = pure (r18.ps.zip us) := fun _ _ _ _ _ _ us hl => match us, hl with | [_, _], _ => rfl
theorem bn19 : ∀ (kV doc pm : Value) (an : Option Addr) (cdv ct : Value) (us : List Value), us.length = r19.ps.length → bindArgs (PySem.W.fnOf "marks_of" "marks_of" (defArgs (top 38)) (defBody (top 38)) (defScope (top 38)) .none kV doc pm an cdv ct) ⟨us, []⟩ = pure (r19.ps.zip us) := fun _ _ _ _ _ _ us hl => match us, hl with | [_], _ => rfl
theorem bn20 : ∀ (kV doc pm : Value) (an : Option Addr) (cdv ct : Value) (us : List Value), us.length = r20.ps.length → bindArgs (PySem.W.fnOf "try_waits" "try_waits" (defArgs (top 50)) (defBody (top 50)) (defScope (top 50)) .none kV doc pm an cdv ct) ⟨us, []⟩ = pure (r20.ps.zip us) := fun _ _ _ _ _ _ us hl => match us, hl with | [_], _ => rfl
theorem bn21 : ∀ (kV doc pm : Value) (an : Option Addr) (cdv ct : Value) (us : List Value), us.length = r21.ps.length → bindArgs (PySem.W.fnOf "times_of" "times_of" (defArgs (top 51)) (defBody (top 51)) (defScope (top 51)) .none kV doc pm an cdv ct) ⟨us, []⟩ = pure (r21.ps.zip us) := fun _ _ _ _ _ _ us hl => match us, hl with | [_], _ => rfl
theorem bn22 : ∀ (kV doc pm : Value) (an : Option Addr) (cdv ct : Value) (us : List Value), us.length = r22.ps.length → bindArgs (PySem.W.fnOf "is_capped" "is_capped" (defArgs (top 54)) (defBody (top 54)) (defScope (top 54)) .none kV doc pm an cdv ct) ⟨us, []⟩ = pure (r22.ps.zip us) := fun _ _ _ _ _ _ us hl => match us, hl with | [_], _ => rfl
theorem bn23 : ∀ (kV doc pm : Value) (an : Option Addr) (cdv ct : Value) (us : List Value), us.length = r23.ps.length → bindArgs (PySem.W.fnOf "_law_zone" "_law_zone" (defArgs (top 60)) (defBody (top 60)) (defScope (top 60)) .none kV doc pm an cdv ct) ⟨us, []⟩ = pure (r23.ps.zip us) := fun _ _ _ _ _ _ us hl => match us, hl with | [_, _], _ => rfl
theorem bn24 : ∀ (kV doc pm : Value) (an : Option Addr) (cdv ct : Value) (us : List Value), us.length = r24.ps.length → bindArgs (PySem.W.fnOf "_law_spans" "_law_spans" (defArgs (top 61)) (defBody (top 61)) (defScope (top 61)) .none kV doc pm an cdv ct) ⟨us, []⟩ = pure (r24.ps.zip us) := fun _ _ _ _ _ _ us hl => match us, hl with | [_], _ => rfl
theorem bn25 : ∀ (kV doc pm : Value) (an : Option Addr) (cdv ct : Value) (us : List Value), us.length = r25.ps.length → bindArgs (PySem.W.fnOf "worked" "worked" (defArgs (top 17)) (defBody (top 17)) (defScope (top 17)) .none kV doc pm an cdv ct) ⟨us, []⟩ = pure (r25.ps.zip us) := fun _ _ _ _ _ _ us hl => match us, hl with | [_, _], _ => rfl
theorem bn26 : ∀ (kV doc pm : Value) (an : Option Addr) (cdv ct : Value) (us : List Value), us.length = r26.ps.length → bindArgs (PySem.W.fnOf "lost_runs" "lost_runs" (defArgs (top 18)) (defBody (top 18)) (defScope (top 18)) .none kV doc pm an cdv ct) ⟨us, []⟩ = pure (r26.ps.zip us) := fun _ _ _ _ _ _ us hl => match us, hl with | [_, _], _ => rfl
theorem bn27 : ∀ (kV doc pm : Value) (an : Option Addr) (cdv ct : Value) (us : List Value), us.length = r27.ps.length → bindArgs (PySem.W.fnOf "broken_runs" "broken_runs" (defArgs (top 19)) (defBody (top 19)) (defScope (top 19)) .none kV doc pm an cdv ct) ⟨us, []⟩ = pure (r27.ps.zip us) := fun _ _ _ _ _ _ us hl => match us, hl with | [_, _], _ => rfl
theorem bn28 : ∀ (kV doc pm : Value) (an : Option Addr) (cdv ct : Value) (us : List Value), us.length = r28.ps.length → bindArgs (PySem.W.fnOf "most_at_once" "most_at_once" (defArgs (top 20)) (defBody (top 20)) (defScope (top 20)) .none kV doc pm an cdv ct) ⟨us, []⟩ = pure (r28.ps.zip us) := fun _ _ _ _ _ _ us hl => match us, hl with | [_, _], _ => rfl
theorem bn29 : ∀ (kV doc pm : Value) (an : Option Addr) (cdv ct : Value) (us : List Value), us.length = r29.ps.length → bindArgs (PySem.W.fnOf "comes" "comes" (defArgs (top 35)) (defBody (top 35)) (defScope (top 35)) .none kV doc pm an cdv ct) ⟨us, []⟩ = pure (r29.ps.zip us) := fun _ _ _ _ _ _ us hl => match us, hl with | [_, _], _ => rfl
theorem bn30 : ∀ (kV doc pm : Value) (an : Option Addr) (cdv ct : Value) (us : List Value), us.length = r30.ps.length → bindArgs (PySem.W.fnOf "run_starts" "run_starts" (defArgs (top 37)) (defBody (top 37)) (defScope (top 37)) .none kV doc pm an cdv ct) ⟨us, []⟩ = pure (r30.ps.zip us) := fun _ _ _ _ _ _ us hl => match us, hl with | [_, _, _, _], _ => rfl
theorem bn31 : ∀ (kV doc pm : Value) (an : Option Addr) (cdv ct : Value) (us : List Value), us.length = r31.ps.length → bindArgs (PySem.W.fnOf "clock_gaps" "clock_gaps" (defArgs (top 40)) (defBody (top 40)) (defScope (top 40)) .none kV doc pm an cdv ct) ⟨us, []⟩ = pure (r31.ps.zip us) := fun _ _ _ _ _ _ us hl => match us, hl with | [_], _ => rfl
theorem bn32 : ∀ (kV doc pm : Value) (an : Option Addr) (cdv ct : Value) (us : List Value), us.length = r32.ps.length → bindArgs (PySem.W.fnOf "clock_doubles" "clock_doubles" (defArgs (top 41)) (defBody (top 41)) (defScope (top 41)) .none kV doc pm an cdv ct) ⟨us, []⟩ = pure (r32.ps.zip us) := fun _ _ _ _ _ _ us hl => match us, hl with | [_], _ => rfl
theorem bn33 : ∀ (kV doc pm : Value) (an : Option Addr) (cdv ct : Value) (us : List Value), us.length = r33.ps.length → bindArgs (PySem.W.fnOf "try_times" "try_times" (defArgs (top 52)) (defBody (top 52)) (defScope (top 52)) .none kV doc pm an cdv ct) ⟨us, []⟩ = pure (r33.ps.zip us) := fun _ _ _ _ _ _ us hl => match us, hl with | [_], _ => rfl
theorem bn34 : ∀ (kV doc pm : Value) (an : Option Addr) (cdv ct : Value) (us : List Value), us.length = r34.ps.length → bindArgs (PySem.W.fnOf "within" "within" (defArgs (top 53)) (defBody (top 53)) (defScope (top 53)) .none kV doc pm an cdv ct) ⟨us, []⟩ = pure (r34.ps.zip us) := fun _ _ _ _ _ _ us hl => match us, hl with | [_, _], _ => rfl
theorem bn35 : ∀ (kV doc pm : Value) (an : Option Addr) (cdv ct : Value) (us : List Value), us.length = r35.ps.length → bindArgs (PySem.W.fnOf "_law_zones" "_law_zones" (defArgs (top 63)) (defBody (top 63)) (defScope (top 63)) .none kV doc pm an cdv ct) ⟨us, []⟩ = pure (r35.ps.zip us) := fun _ _ _ _ _ _ us hl => match us, hl with | [_], _ => rfl
theorem bn36 : ∀ (kV doc pm : Value) (an : Option Addr) (cdv ct : Value) (us : List Value), us.length = r36.ps.length → bindArgs (PySem.W.fnOf "_law_runs" "_law_runs" (defArgs (top 65)) (defBody (top 65)) (defScope (top 65)) .none kV doc pm an cdv ct) ⟨us, []⟩ = pure (r36.ps.zip us) := fun _ _ _ _ _ _ us hl => match us, hl with | [_], _ => rfl
theorem bn37 : ∀ (kV doc pm : Value) (an : Option Addr) (cdv ct : Value) (us : List Value), us.length = r37.ps.length → bindArgs (PySem.W.fnOf "law" "law" (defArgs (top 66)) (defBody (top 66)) (defScope (top 66)) .none kV doc pm an cdv ct) ⟨us, []⟩ = pure (r37.ps.zip us) := fun _ _ _ _ _ _ us hl => match us, hl with | [_], _ => rfl
theorem walk {l : PySem.W.OpenLaw} {q : Program} {loose : List Str} {XP : (Str → Option Value) → Heap → Prop} {YP : World → Heap → Prop} {d : DefRec} {K : Params → PySem.W.Frag} (hn : l.most = some 63) (hdf : d.params.defaults = [])
    (hY : ∀ (w : World) (h : Heap), YP w h → (K w.params).In h)
    (F : ∀ (w : World) (mg : Str → Option Value) (fa : Addr) (h : Heap), (K w.params).In h → h.Ns mainGlobals mg → mg d.name = some (.ref fa) →
      ∃ fd : FuncData, (∀ (s : Shared) (u : Value), BindsTo s fd ⟨[u], []⟩ [("script", u)]) ∧ ∀ base : Heap, (K w.params).In base → base.Ns mainGlobals mg → FnOkG l.prog w (K w.params) mg base CX0 5 fa fd ["script"] (spLaw (K w.params))) :
    PySem.W.WalkO q loose XP YP l.row.toRowW d [] (fun f vs => PySem.call f vs) :=
  DI.walk_ofG (n := 63) (k := 5) (x := "script") (CX := fun _ => CX0) (sp := fun w => spLaw (K w.params)) hn (by decide) hdf ⟨rfl, by decide, by decide⟩ hY F (fun _ _ a ns hl _ hS => ⟨a, ns, rfl, hS, hl, fun _ => rfl⟩) fun _ _ _ _ _ z => z
end K70
open PySem PySem.W PyProof.Rows
set_option maxRecDepth 100000 in
set_option maxHeartbeats 0 in
theorem PySem.Challenge.cw_runattimes_k70_whole_clocks_and_runs_at_holds : PySem.Challenge.rw_runattimes_k70_whole_clocks_and_runs_at.Holds := by
  w_on; o_law; k_head; (case hw => w_witness2)
  k_fill
  refine K70.walk (l := PySem.Challenge.rw_runattimes_k70_whole_clocks_and_runs_at) rfl rfl (fun w h Y => PySem.W.kIn_of Y) ?F
  case F =>
    intro w mg fa h KX G hmg
    refine' DI.laid_then (r := K70.r0) (x := "check_runs") (y := "check_runs") (st := K70.top 14) rfl rfl rfl KX G K70.bn0 ?a ?l ?c ?k ?_
    (case a => k_is); (case l => k_is); (case c => k_is); (case k => k_is)
    intro L0
    refine' DI.laid_then (r := K70.r1) (x := "started") (y := "started") (st := K70.top 16) rfl rfl rfl KX G K70.bn1 ?a ?l ?c ?k ?_
    (case a => k_is); (case l => k_is); (case c => k_is); (case k => k_is)
    intro L1
    refine' DI.laid_then (r := K70.r2) (x := "check_zone") (y := "check_zone") (st := K70.top 30) rfl rfl rfl KX G K70.bn2 ?a ?l ?c ?k ?_
    (case a => k_is); (case l => k_is); (case c => k_is); (case k => k_is)
    intro L2
    refine' DI.laid_then (r := K70.r3) (x := "spans_of") (y := "spans_of") (st := K70.top 33) rfl rfl rfl KX G K70.bn3 ?a ?l ?c ?k ?_
    (case a => k_is); (case l => k_is); (case c => k_is); (case k => k_is)
    intro L3
    refine' DI.laid_then (r := K70.r4) (x := "joined") (y := "joined") (st := K70.top 39) rfl rfl rfl KX G K70.bn4 ?a ?l ?c ?k ?_
    (case a => k_is); (case l => k_is); (case c => k_is); (case k => k_is)
    intro L4
    refine' DI.laid_then (r := K70.r5) (x := "check_rule") (y := "check_rule") (st := K70.top 48) rfl rfl rfl KX G K70.bn5 ?a ?l ?c ?k ?_
    (case a => k_is); (case l => k_is); (case c => k_is); (case k => k_is)
    intro L5
    refine' DI.laid_then (r := K70.r6) (x := "waits_of") (y := "waits_of") (st := K70.top 49) rfl rfl rfl KX G K70.bn6 ?a ?l ?c ?k ?_
    (case a => k_is); (case l => k_is); (case c => k_is); (case k => k_is)
    intro L6
    refine' DI.laid_then (r := K70.r7) (x := "_law_draws") (y := "_law_draws") (st := K70.top 56) rfl rfl rfl KX G K70.bn7 ?a ?l ?c ?k ?_
    (case a => k_is); (case l => k_is); (case c => k_is); (case k => k_is)
    intro L7
    refine' DI.laid_then (r := K70.r8) (x := "_law_mix") (y := "_law_mix") (st := K70.top 57) rfl rfl rfl KX G K70.bn8 ?a ?l ?c ?k ?_
    (case a => k_is); (case l => k_is); (case c => k_is); (case k => k_is)
    intro L8
    refine' DI.laid_then (r := K70.r9) (x := "_law_local") (y := "_law_local") (st := K70.top 58) rfl rfl rfl KX G K70.bn9 ?a ?l ?c ?k ?_
    (case a => k_is); (case l => k_is); (case c => k_is); (case k => k_is)
    intro L9
    refine' DI.laid_then (r := K70.r10) (x := "_law_comes") (y := "_law_comes") (st := K70.top 59) rfl rfl rfl KX G K70.bn10 ?a ?l ?c ?k ?_
    (case a => k_is); (case l => k_is); (case c => k_is); (case k => k_is)
    intro L10
    refine' DI.laid_then (r := K70.r11) (x := "_law_later") (y := "_law_later") (st := K70.top 62) rfl rfl rfl KX G K70.bn11 ?a ?l ?c ?k ?_
    (case a => k_is); (case l => k_is); (case c => k_is); (case k => k_is)
    intro L11
    refine' DI.laid_then (r := K70.r12) (x := "_law_worked") (y := "_law_worked") (st := K70.top 64) rfl rfl rfl KX G K70.bn12 ?a ?l ?c ?k ?_
    (case a => k_is); (case l => k_is); (case c => k_is); (case k => k_is)
    intro L12
    refine' DI.laid_then (r := K70.r13) (x := "check_asked") (y := "check_asked") (st := K70.top 15) rfl rfl rfl KX G K70.bn13 ?a ?l ?c ?k ?_
    (case a => k_is); (case l => k_is); (case c => k_is); (case k => k_is)
    intro L13
    refine' DI.laid_then (r := K70.r14) (x := "queue_waits") (y := "queue_waits") (st := K70.top 21) rfl rfl rfl KX G K70.bn14 ?a ?l ?c ?k ?_
    (case a => k_is); (case l => k_is); (case c => k_is); (case k => k_is)
    intro L14
    refine' DI.laid_then (r := K70.r15) (x := "local_at") (y := "local_at") (st := K70.top 31) rfl rfl rfl KX G K70.bn15 ?a ?l ?c ?k ?_
    (case a => k_is); (case l => k_is); (case c => k_is); (case k => k_is)
    intro L15
    refine' DI.laid_then (r := K70.r16) (x := "check_local") (y := "check_local") (st := K70.top 32) rfl rfl rfl KX G K70.bn16 ?a ?l ?c ?k ?_
    (case a => k_is); (case l => k_is); (case c => k_is); (case k => k_is)
    intro L16
    refine' DI.laid_then (r := K70.r17) (x := "comes_at") (y := "comes_at") (st := K70.top 34) rfl rfl rfl KX G K70.bn17 ?a ?l ?c ?k ?_
    (case a => k_is); (case l => k_is); (case c => k_is); (case k => k_is)
    intro L17
    refine' DI.laid_then (r := K70.r18) (x := "next_start") (y := "next_start") (st := K70.top 36) rfl rfl rfl KX G K70.bn18 ?a ?l ?c ?k ?_
    (case a => k_is); (case l => k_is); (case c => k_is); (case k => k_is)
    intro L18
    refine' DI.laid_then (r := K70.r19) (x := "marks_of") (y := "marks_of") (st := K70.top 38) rfl rfl rfl KX G K70.bn19 ?a ?l ?c ?k ?_
    (case a => k_is); (case l => k_is); (case c => k_is); (case k => k_is)
    intro L19
    refine' DI.laid_then (r := K70.r20) (x := "try_waits") (y := "try_waits") (st := K70.top 50) rfl rfl rfl KX G K70.bn20 ?a ?l ?c ?k ?_
    (case a => k_is); (case l => k_is); (case c => k_is); (case k => k_is)
    intro L20
    refine' DI.laid_then (r := K70.r21) (x := "times_of") (y := "times_of") (st := K70.top 51) rfl rfl rfl KX G K70.bn21 ?a ?l ?c ?k ?_
    (case a => k_is); (case l => k_is); (case c => k_is); (case k => k_is)
    intro L21
    refine' DI.laid_then (r := K70.r22) (x := "is_capped") (y := "is_capped") (st := K70.top 54) rfl rfl rfl KX G K70.bn22 ?a ?l ?c ?k ?_
    (case a => k_is); (case l => k_is); (case c => k_is); (case k => k_is)
    intro L22
    refine' DI.laid_then (r := K70.r23) (x := "_law_zone") (y := "_law_zone") (st := K70.top 60) rfl rfl rfl KX G K70.bn23 ?a ?l ?c ?k ?_
    (case a => k_is); (case l => k_is); (case c => k_is); (case k => k_is)
    intro L23
    refine' DI.laid_then (r := K70.r24) (x := "_law_spans") (y := "_law_spans") (st := K70.top 61) rfl rfl rfl KX G K70.bn24 ?a ?l ?c ?k ?_
    (case a => k_is); (case l => k_is); (case c => k_is); (case k => k_is)
    intro L24
    refine' DI.laid_then (r := K70.r25) (x := "worked") (y := "worked") (st := K70.top 17) rfl rfl rfl KX G K70.bn25 ?a ?l ?c ?k ?_
    (case a => k_is); (case l => k_is); (case c => k_is); (case k => k_is)
    intro L25
    refine' DI.laid_then (r := K70.r26) (x := "lost_runs") (y := "lost_runs") (st := K70.top 18) rfl rfl rfl KX G K70.bn26 ?a ?l ?c ?k ?_
    (case a => k_is); (case l => k_is); (case c => k_is); (case k => k_is)
    intro L26
    refine' DI.laid_then (r := K70.r27) (x := "broken_runs") (y := "broken_runs") (st := K70.top 19) rfl rfl rfl KX G K70.bn27 ?a ?l ?c ?k ?_
    (case a => k_is); (case l => k_is); (case c => k_is); (case k => k_is)
    intro L27
    refine' DI.laid_then (r := K70.r28) (x := "most_at_once") (y := "most_at_once") (st := K70.top 20) rfl rfl rfl KX G K70.bn28 ?a ?l ?c ?k ?_
    (case a => k_is); (case l => k_is); (case c => k_is); (case k => k_is)
    intro L28
    refine' DI.laid_then (r := K70.r29) (x := "comes") (y := "comes") (st := K70.top 35) rfl rfl rfl KX G K70.bn29 ?a ?l ?c ?k ?_
    (case a => k_is); (case l => k_is); (case c => k_is); (case k => k_is)
    intro L29
    refine' DI.laid_then (r := K70.r30) (x := "run_starts") (y := "run_starts") (st := K70.top 37) rfl rfl rfl KX G K70.bn30 ?a ?l ?c ?k ?_
    (case a => k_is); (case l => k_is); (case c => k_is); (case k => k_is)
    intro L30
    refine' DI.laid_then (r := K70.r31) (x := "clock_gaps") (y := "clock_gaps") (st := K70.top 40) rfl rfl rfl KX G K70.bn31 ?a ?l ?c ?k ?_
    (case a => k_is); (case l => k_is); (case c => k_is); (case k => k_is)
    intro L31
    refine' DI.laid_then (r := K70.r32) (x := "clock_doubles") (y := "clock_doubles") (st := K70.top 41) rfl rfl rfl KX G K70.bn32 ?a ?l ?c ?k ?_
    (case a => k_is); (case l => k_is); (case c => k_is); (case k => k_is)
    intro L32
    refine' DI.laid_then (r := K70.r33) (x := "try_times") (y := "try_times") (st := K70.top 52) rfl rfl rfl KX G K70.bn33 ?a ?l ?c ?k ?_
    (case a => k_is); (case l => k_is); (case c => k_is); (case k => k_is)
    intro L33
    refine' DI.laid_then (r := K70.r34) (x := "within") (y := "within") (st := K70.top 53) rfl rfl rfl KX G K70.bn34 ?a ?l ?c ?k ?_
    (case a => k_is); (case l => k_is); (case c => k_is); (case k => k_is)
    intro L34
    refine' DI.laid_then (r := K70.r35) (x := "_law_zones") (y := "_law_zones") (st := K70.top 63) rfl rfl rfl KX G K70.bn35 ?a ?l ?c ?k ?_
    (case a => k_is); (case l => k_is); (case c => k_is); (case k => k_is)
    intro L35
    refine' DI.laid_then (r := K70.r36) (x := "_law_runs") (y := "_law_runs") (st := K70.top 65) rfl rfl rfl KX G K70.bn36 ?a ?l ?c ?k ?_
    (case a => k_is); (case l => k_is); (case c => k_is); (case k => k_is)
    intro L36
    refine' DI.law_then (r := K70.r37) (x := "law") (y := "law") (st := K70.top 66) rfl rfl rfl KX G K70.bn37 ?a ?l ?c ?k ?_
    (case a => k_is); (case l => k_is); (case c => k_is); (case k => k_is)
    intro L37
    refine' DI.cint_then (x := "MOST_RUNS") (i := 30) KX G ?a ?_
    (case a => k_is)
    intro C0
    refine' DI.cint_then (x := "MOST_DUE") (i := 10000) KX G ?a ?_
    (case a => k_is)
    intro C1
    refine' DI.cint_then (x := "MOST_LENGTH") (i := 1000) KX G ?a ?_
    (case a => k_is)
    intro C2
    refine' DI.cint_then (x := "MOST_PAIRS") (i := 6) KX G ?a ?_
    (case a => k_is)
    intro C3
    refine' DI.cint_then (x := "MOST_TIME") (i := 1000000) KX G ?a ?_
    (case a => k_is)
    intro C4
    refine' DI.cint_then (x := "MOST_OFFSET") (i := 1440) KX G ?a ?_
    (case a => k_is)
    intro C5
    refine' DI.cint_then (x := "MOST_WAIT") (i := 1000) KX G ?a ?_
    (case a => k_is)
    intro C6
    refine' DI.cint_then (x := "MOST_FACTOR") (i := 5) KX G ?a ?_
    (case a => k_is)
    intro C7
    refine' DI.cint_then (x := "MOST_CAP") (i := 100000) KX G ?a ?_
    (case a => k_is)
    intro C8
    refine' DI.cint_then (x := "MOST_TRIES") (i := 20) KX G ?a ?_
    (case a => k_is)
    intro C9
    refine' DI.ctup_then (x := "RULES") (ss := ["let", "skip", "queue", "replace"]) KX G ?a ?l ?b ?_
    (case a => k_is); (case l => k_is); (case b => decide +kernel)
    intro C10
    refine' DI.cint_then (x := "LEAST_LOCAL") (i := (-1000000)) KX G ?a ?_
    (case a => k_is)
    intro C11
    refine' DI.cint_then (x := "MOST_LOCAL") (i := 3000000) KX G ?a ?_
    (case a => k_is)
    intro C12
    refine' DI.ctup_then (x := "TWICE") (ss := ["first", "last", "each"]) KX G ?a ?l ?b ?_
    (case a => k_is); (case l => k_is); (case b => decide +kernel)
    intro C13
    refine' DI.ctup_then (x := "NEVER") (ss := ["skip", "next"]) KX G ?a ?l ?b ?_
    (case a => k_is); (case l => k_is); (case b => decide +kernel)
    intro C14
    refine' DI.cint_then (x := "MOST_BUDGET") (i := 1000000) KX G ?a ?_
    (case a => k_is)
    intro C15
    refine' DI.bn_then (x := "abs") KX G ?a ?_
    (case a => k_is)
    intro B0
    refine' DI.bn_then (x := "enumerate") KX G ?a ?_
    (case a => k_is)
    intro B1
    refine' DI.bn_then (x := "int") KX G ?a ?_
    (case a => k_is)
    intro B2
    refine' DI.bn_then (x := "len") KX G ?a ?_
    (case a => k_is)
    intro B3
    refine' DI.bn_then (x := "max") KX G ?a ?_
    (case a => k_is)
    intro B4
    refine' DI.bn_then (x := "min") KX G ?a ?_
    (case a => k_is)
    intro B5
    refine' DI.bn_then (x := "range") KX G ?a ?_
    (case a => k_is)
    intro B6
    refine' DI.bn_then (x := "repr") KX G ?a ?_
    (case a => k_is)
    intro B7
    refine' DI.bn_then (x := "set") KX G ?a ?_
    (case a => k_is)
    intro B8
    refine' DI.bn_then (x := "sorted") KX G ?a ?_
    (case a => k_is)
    intro B9
    refine' DI.bn_then (x := "sum") KX G ?a ?_
    (case a => k_is)
    intro B10
    refine' DI.bn_then (x := "zip") KX G ?a ?_
    (case a => k_is)
    intro B11
    exact K70.fin ⟨C0, C1, C2, C3, C4, C5, C6, C7, C8, C9, C10, C11, C12, C13, C14, C15, trivial⟩ ⟨B0, B1, B2, B3, B4, B5, B6, B7, B8, B9, B10, B11, trivial⟩ trivial ⟨L0, L1, L2, L3, L4, L5, L6, L7, L8, L9, L10, L11, L12, L13, L14, L15, L16, L17, L18, L19, L20, L21, L22, L23, L24, L25, L26, L27, L28, L29, L30, L31, L32, L33, L34, L35, L36, L37.1, trivial⟩ L37.2 hmg
