import PyProof.Rows.All
import Wide.All
import OpenK.AllK
import Wide.FinOn
import HandS.ForMost
import HandS.Exc
import HandS.ExcOwn
import HandS.Walk
import HandS.TupAny
import HandS.Wide
import HandS.Style
import PyProof.ReprRoads
import HandS.Flow
import HandS.WordsExc
import HandS.IsInst
import HandS.TupMul
import HandS.Deep
import HandS.Steps
import HandS.Zip
import HandS.Rev
import HandS.Defaults
import PyProof.ReprLen
import PyProof.P3Eq
import PySem.Challenge.RW_coinplace_k13_whole_coin_by_coin
set_option Elab.async false
set_option linter.all false
set_option maxRecDepth 100000
set_option maxHeartbeats 4000000
/-! DlA: data D, what stands for it in the abstract heap (DAt), slots by data (Rel). -/
namespace Dl
open PySem L2

/-- a dict's key: an int or a text, or a tuple of such -/
inductive DK where
  | one (k : Key) | many (ks : List Key)
  deriving DecidableEq

inductive D where
  | non | bl (b : Bool) | int (i : Int) | str (x : Str)
  | tup (ds : List D) | lst (ds : List D) | fls (ds : List D) | dic (ks : List DK) (vs : List D)
  | ref (a : Addr) | ty (n : String)

/-- as the library's data; what is none of it as an empty dict -/
def dkPy : DK → PyData
  | .one (.inl i) => .int i
  | .one (.inr x) => .str x
  | .many ks => .tuple (ks.map fun k => match k with | .inl i => .int i | .inr x => .str x)
mutual
def D.py : D → PyData
  | .non => .none
  | .bl b => .bool b
  | .int i => .int i
  | .str x => .str x
  | .tup ds => .tuple (D.pys ds)
  | .lst ds => .list (D.pys ds)
  | .fls ds => .list (D.pys ds)
  | .dic ks vs => .dict ((ks.map dkPy).zip (D.pys vs))
  | .ref _ => .dict []
  | .ty _ => .dict []
def D.pys : List D → List PyData
  | [] => []
  | d :: ds => D.py d :: D.pys ds
end
theorem D.pys_map : ∀ ds : List D, D.pys ds = ds.map D.py
  | [] => rfl
  | d :: ds => by simp only [D.pys, List.map_cons, D.pys_map ds]

mutual
/-- v is the data d in H, by objects that are not owned (O) -/
inductive DAt (K : PySem.W.Frag) (O : Addr → Prop) (H : Hp) : V → D → Prop
  | non : DAt K O H .non .non
  | bl (b : Bool) : DAt K O H (.bl b) (.bl b)
  | int (i : Int) : DAt K O H (.int i) (.int i)
  | str (x : Str) : DAt K O H (.str x) (.str x)
  | ref (a : Addr) : DAt K O H (.ref a) (.ref a)
  | ty (n : String) : DAt K O H (.ty n) (.ty n)
  | lst {a : Addr} {xs : List V} {ds : List D} : ¬ O a → H a = some (.lst xs) → DAll K O H xs ds → DAt K O H (.ref a) (.lst ds)
  | fls {a : Addr} {xs : List V} {ds : List D} : (¬ O a ∧ ∃ o, H a = some (.frz o (.lst xs))) ∨ SqL K (fun _ => none) a xs → DAll K O H xs ds → DAt K O H (.ref a) (.fls ds)
  | tup {a : Addr} {xs : List V} {ds : List D} : ¬ O a → H a = some (.tup xs) → DAll K O H xs ds → DAt K O H (.ref a) (.tup ds)
  | ktup {a : Addr} {xs : List V} {ds : List D} : SqT K (fun _ => none) a xs → DAll K O H xs ds → DAt K O H (.ref a) (.tup ds)
  | dk {a : Addr} {kvs : List (Key × V)} {ds : List D} : ¬ O a → H a = some (.dK kvs) → DAll K O H (kvs.map (·.2)) ds → DAt K O H (.ref a) (.dic (kvs.map fun p => .one p.1) ds)
  | dt {a : Addr} {kvs : List (List Key × V)} {ds : List D} : ¬ O a → H a = some (.dT kvs) → DAll K O H (kvs.map (·.2)) ds → DAt K O H (.ref a) (.dic (kvs.map fun p => .many p.1) ds)
inductive DAll (K : PySem.W.Frag) (O : Addr → Prop) (H : Hp) : List V → List D → Prop
  | nil : DAll K O H [] []
  | cons {v : V} {vs : List V} {d : D} {ds : List D} : DAt K O H v d → DAll K O H vs ds → DAll K O H (v :: vs) (d :: ds)
end

section
variable {K : PySem.W.Frag} {O O' : Addr → Prop} {H H' : Hp}
/-- what is read stays read -/
abbrev Stay (O O' : Addr → Prop) (H H' : Hp) : Prop := ∀ a o, ¬ O a → H a = some o → ¬ O' a ∧ H' a = some o
mutual
theorem DAt.stay (s : Stay O O' H H') : ∀ {v : V} {d : D}, DAt K O H v d → DAt K O' H' v d
  | _, _, .non => .non
  | _, _, .bl b => .bl b
  | _, _, .int i => .int i
  | _, _, .str x => .str x
  | _, _, .ref a => .ref a
  | _, _, .ty n => .ty n
  | _, _, .lst n e h => .lst (s _ _ n e).1 (s _ _ n e).2 (DAll.stay s h)
  | _, _, .fls e h => .fls (e.imp (fun ⟨n, o, e⟩ => ⟨(s _ _ n e).1, o, (s _ _ n e).2⟩) id) (DAll.stay s h)
  | _, _, .tup n e h => .tup (s _ _ n e).1 (s _ _ n e).2 (DAll.stay s h)
  | _, _, .ktup e h => .ktup e (DAll.stay s h)
  | _, _, .dk n e h => .dk (s _ _ n e).1 (s _ _ n e).2 (DAll.stay s h)
  | _, _, .dt n e h => .dt (s _ _ n e).1 (s _ _ n e).2 (DAll.stay s h)
theorem DAll.stay (s : Stay O O' H H') : ∀ {vs : List V} {ds : List D}, DAll K O H vs ds → DAll K O' H' vs ds
  | _, _, .nil => .nil
  | _, _, .cons h t => .cons (DAt.stay s h) (DAll.stay s t)
end
theorem DAll.length : ∀ {vs : List V} {ds : List D}, DAll K O H vs ds → vs.length = ds.length
  | _, _, .nil => rfl
  | _, _, .cons _ t => by rw [List.length_cons, List.length_cons, DAll.length t]
theorem DAll.append : ∀ {vs ws : List V} {ds es : List D}, DAll K O H vs ds → DAll K O H ws es → DAll K O H (vs ++ ws) (ds ++ es)
  | _, _, _, _, .nil, h => h
  | _, _, _, _, .cons a t, h => .cons a (DAll.append t h)
theorem DAll.get : ∀ {vs : List V} {ds : List D} {i : Nat} {d : D}, DAll K O H vs ds → ds[i]? = some d → ∃ v, vs[i]? = some v ∧ DAt K O H v d
  | _, _, _, _, .nil, e => by simp at e
  | _, _, 0, _, .cons a _, e => by simp at e; subst e; exact ⟨_, by simp, a⟩
  | _, _, i + 1, _, .cons _ t, e => by
    obtain ⟨v, h1, h2⟩ := DAll.get (i := i) t (by simpa using e)
    exact ⟨v, by simpa using h1, h2⟩
theorem DAll.getV : ∀ {vs : List V} {ds : List D} {i : Nat} {v : V}, DAll K O H vs ds → vs[i]? = some v → ∃ d, ds[i]? = some d ∧ DAt K O H v d
  | _, _, _, _, .nil, e => by simp at e
  | _, _, 0, _, .cons a _, e => by simp at e; subst e; exact ⟨_, by simp, a⟩
  | _, _, i + 1, _, .cons _ t, e => by
    obtain ⟨d, h1, h2⟩ := DAll.getV (i := i) t (by simpa using e)
    exact ⟨d, by simpa using h1, h2⟩
theorem DAll.take : ∀ {vs : List V} {ds : List D} (n : Nat), DAll K O H vs ds → DAll K O H (vs.take n) (ds.take n)
  | _, _, 0, _ => .nil
  | _, _, _ + 1, .nil => .nil
  | _, _, n + 1, .cons a t => .cons a (DAll.take n t)
theorem DAll.drop : ∀ {vs : List V} {ds : List D} (n : Nat), DAll K O H vs ds → DAll K O H (vs.drop n) (ds.drop n)
  | _, _, 0, h => h
  | _, _, _ + 1, .nil => .nil
  | _, _, n + 1, .cons _ t => DAll.drop n t
theorem DAll.set {v : V} {d : D} (a : DAt K O H v d) : ∀ {vs : List V} {ds : List D} (i : Nat), DAll K O H vs ds → DAll K O H (vs.set i v) (ds.set i d)
  | _, _, _, .nil => .nil
  | _, _, 0, .cons _ t => .cons a t
  | _, _, i + 1, .cons b t => .cons b (DAll.set a i t)
theorem DAll.erase : ∀ {vs : List V} {ds : List D} (i : Nat), DAll K O H vs ds → DAll K O H (vs.eraseIdx i) (ds.eraseIdx i)
  | _, _, _, .nil => .nil
  | _, _, 0, .cons _ t => t
  | _, _, i + 1, .cons b t => .cons b (DAll.erase i t)
theorem DAll.reverse {vs : List V} {ds : List D} (h : DAll K O H vs ds) : DAll K O H vs.reverse ds.reverse := by
  induction vs generalizing ds with
  | nil => cases h; exact .nil
  | cons v vs ih => cases h with | cons a t => rw [List.reverse_cons, List.reverse_cons]; exact (ih t).append (.cons a .nil)
theorem DAll.rep {vs : List V} {ds : List D} (h : DAll K O H vs ds) : ∀ k : Nat, DAll K O H (List.replicate k vs).flatten (List.replicate k ds).flatten
  | 0 => .nil
  | k + 1 => by
    rw [List.replicate_succ, List.replicate_succ, List.flatten_cons, List.flatten_cons]
    exact h.append (DAll.rep h k)
theorem DAll.ints : ∀ {ns : List Int} {vs : List V}, DAll K O H vs (ns.map D.int) → vs = ns.map V.int
  | [], _, h => by cases h; rfl
  | n :: ns, _, h => by
    cases h with
    | cons a t =>
      cases a
      rw [DAll.ints (ns := ns) t, List.map_cons]
theorem DAll.strs : ∀ {ns : List Str} {vs : List V}, DAll K O H vs (ns.map D.str) → vs = ns.map V.str
  | [], _, h => by cases h; rfl
  | n :: ns, _, h => by
    cases h with
    | cons a t =>
      cases a
      rw [DAll.strs (ns := ns) t, List.map_cons]
theorem DAll.bls : ∀ {ns : List Bool} {vs : List V}, DAll K O H vs (ns.map D.bl) → vs = ns.map V.bl
  | [], _, h => by cases h; rfl
  | n :: ns, _, h => by
    cases h with
    | cons a t =>
      cases a
      rw [DAll.bls (ns := ns) t, List.map_cons]
theorem DAll.of_ints (K : PySem.W.Frag) (O : Addr → Prop) (H : Hp) : ∀ ns : List Int, DAll K O H (ns.map V.int) (ns.map D.int)
  | [] => .nil
  | n :: ns => .cons (.int n) (DAll.of_ints K O H ns)
theorem DAll.of_strs (K : PySem.W.Frag) (O : Addr → Prop) (H : Hp) : ∀ ns : List Str, DAll K O H (ns.map V.str) (ns.map D.str)
  | [] => .nil
  | n :: ns => .cons (.str n) (DAll.of_strs K O H ns)
/-- a tuple, a list is read -/
theorem DAt.sqT {v : V} {ds : List D} (h : DAt K O H v (.tup ds)) : ∃ a xs, v = .ref a ∧ SqT K H a xs ∧ DAll K O H xs ds := by
  cases h with
  | tup n e t => exact ⟨_, _, rfl, .inl (.inl e), t⟩
  | ktup e t =>
    refine ⟨_, _, rfl, ?_, t⟩
    rcases e with (e | ⟨o, e⟩) | e
    · cases e
    · cases e
    · exact .inr e
theorem SqL.any {a : Addr} {xs : List V} (e : SqL K (fun _ => none) a xs) : SqL K H a xs := by
  rcases e with (e | ⟨o, e⟩) | e
  · cases e
  · cases e
  · exact .inr e
theorem DAt.fls' {v : V} {ds : List D} (h : DAt K O H v (.fls ds)) : ∃ a xs, v = .ref a ∧ SqL K H a xs ∧ DAll K O H xs ds := by
  cases h with
  | fls e t =>
    rcases e with ⟨n, o, e⟩ | e
    · exact ⟨_, _, rfl, .inl (.inr ⟨o, e⟩), t⟩
    · exact ⟨_, _, rfl, SqL.any e, t⟩
theorem DAt.lst' {v : V} {ds : List D} (h : DAt K O H v (.lst ds)) : ∃ a xs, v = .ref a ∧ ¬ O a ∧ H a = some (.lst xs) ∧ DAll K O H xs ds := by
  cases h with
  | lst n e t => exact ⟨_, _, rfl, n, e, t⟩
end

/-! ### what the def's own lists and dicts are -/
/-- an owned object: its data, its parts -/
def Kids (K : PySem.W.Frag) (O : Addr → Prop) (H : Hp) : HO → D → Prop
  | .lst xs, .lst ds => DAll K O H xs ds
  | .dK kvs, .dic ks ds => ks = kvs.map (fun q => .one q.1) ∧ DAll K O H (kvs.map (·.2)) ds
  | .dT kvs, .dic ks ds => ks = kvs.map (fun q => .many q.1) ∧ DAll K O H (kvs.map (·.2)) ds
  | _, _ => False
theorem Kids.stay {K : PySem.W.Frag} {O O' : Addr → Prop} {H H' : Hp} (s : Stay O O' H H') : ∀ {o : HO} {d : D}, Kids K O H o d → Kids K O' H' o d := by
  intro o d h
  cases o <;> cases d <;> first | exact DAll.stay s h | exact ⟨h.1, h.2.stay s⟩ | exact h.elim
theorem Kids.free {K : PySem.W.Frag} {O : Addr → Prop} {H : Hp} {p : Addr} (n : ¬ O p) : ∀ {o : HO} {d : D}, H p = some o → Kids K O H o d → DAt K O H (.ref p) d := by
  intro o d e h
  cases o with
  | lst xs => cases d with
    | lst ds => exact .lst n e h
    | _ => exact h.elim
  | dK kvs => cases d with
    | dic ks ds => obtain ⟨rfl, h⟩ := h; exact .dk n e h
    | _ => exact h.elim
  | dT kvs => cases d with
    | dic ks ds => obtain ⟨rfl, h⟩ := h; exact .dt n e h
    | _ => exact h.elim
  | _ => cases d <;> exact h.elim
def Top (K : PySem.W.Frag) (O : Addr → Prop) (H : Hp) (p : Addr) (d : D) : Prop := ∃ o, H p = some o ∧ Kids K O H o d
theorem Top.stay {K : PySem.W.Frag} {O O' : Addr → Prop} {H H' : Hp} {p : Addr} {d : D} (s : Stay O O' H H') (e : H' p = H p) : Top K O H p d → Top K O' H' p d := fun ⟨o, h, k⟩ => ⟨o, e.trans h, k.stay s⟩
theorem Top.free {K : PySem.W.Frag} {O : Addr → Prop} {H : Hp} {p : Addr} {d : D} (n : ¬ O p) : Top K O H p d → DAt K O H (.ref p) d := fun ⟨_, h, k⟩ => k.free n h

/-- the hidden objects: their places, what holds of them -/
structure MC where
  O : Addr → Prop
  MI : Hp → Prop
  loc : ∀ H H' : Hp, (∀ a, O a → H' a = H a) → MI H → MI H'
  al : ∀ (H : Hp) (a : Addr), MI H → O a → H a ≠ none
/-- no hidden objects -/
def MC.no : MC := ⟨fun _ => False, fun _ => True, fun _ _ _ _ => trivial, fun _ _ _ h => h.elim⟩

inductive Cell where
  | sh (d : D) | ow (d : D)
abbrev Rho := List (Option Cell)
abbrev Om := Nat → Option Addr
/-- the ground of a def's run: the heap at its entry, the data that are in hand, new objects that are in hand -/
structure Gd where
  H0 : Hp
  pins : List (V × D)
  hid : List (Addr × D)
def Own (M : MC) (G : Gd) (om : Om) (a : Addr) : Prop := M.O a ∨ (∃ i, om i = some a) ∨ ∃ d, (a, d) ∈ G.hid
/-- what a slot holds -/
def SlotAt (K : PySem.W.Frag) (M : MC) (G : Gd) (om : Om) (σ : St) (H : Hp) (i : Nat) : Cell → Prop
  | .sh d => ∃ v, σ[i]? = some (some v) ∧ DAt K (Own M G om) H v d
  | .ow d => ∃ p, om i = some p ∧ σ[i]? = some (some (.ref p)) ∧ Top K (Own M G om) H p d
structure Rel (K : PySem.W.Frag) (M : MC) (G : Gd) (om : Om) (ρ : Rho) (σ : St) (H : Hp) : Prop where
  slot : ∀ i c, ρ[i]? = some (some c) → SlotAt K M G om σ H i c
  inj : ∀ i j p, om i = some p → om j = some p → i = j
  own : ∀ i p, om i = some p → G.H0 p = none ∧ ¬ M.O p ∧ H p ≠ none ∧ ∀ d, (p, d) ∉ G.hid
  base : ∀ a o, ¬ M.O a → G.H0 a = some o → H a = some o
  mi : M.MI H
  pin : ∀ q ∈ G.pins, DAt K (Own M G om) H q.1 q.2
  hid : ∀ q ∈ G.hid, Top K (Own M G om) H q.1 q.2 ∧ G.H0 q.1 = none ∧ ¬ M.O q.1
  hnd : (G.hid.map (·.1)).Nodup
  len : ρ.length = σ.length

section
variable {K : PySem.W.Frag} {M : MC} {G : Gd} {om : Om} {ρ : Rho} {σ : St} {H H' : Hp}
theorem Top.ne {K : PySem.W.Frag} {O : Addr → Prop} {H : Hp} {p : Addr} {d : D} (t : Top K O H p d) : H p ≠ none := by
  obtain ⟨o, e, _⟩ := t
  rw [e]; exact nofun
theorem Rel.fresh (R : Rel K M G om ρ σ H) {p : Addr} (h : H p = none) : ¬ Own M G om p := by
  rintro (z | ⟨i, z⟩ | ⟨d, z⟩)
  · exact M.al H p R.mi z h
  · exact (R.own i p z).2.2.1 h
  · exact (R.hid _ z).1.ne h
theorem Rel.fresh0 (R : Rel K M G om ρ σ H) {p : Addr} (h : H p = none) : G.H0 p = none := by
  cases e : G.H0 p with
  | none => rfl
  | some o =>
    by_cases z : M.O p
    · exact absurd h (M.al H p R.mi z)
    · rw [R.base p o z e] at h; cases h
/-- owned, but not hidden by the context: stays where all else stays -/
theorem Rel.at (R : Rel K M G om ρ σ H) (k : ∀ a o, ¬ M.O a → H a = some o → H' a = some o) {p : Addr} (n : ¬ M.O p) (h : H p ≠ none) : H' p = H p := by
  cases q : H p with
  | none => exact absurd q h
  | some o => exact k p o n q
theorem slot_stay {M' : MC} {G' : Gd} {om' : Om} {i : Nat} {c : Cell} (s : Stay (Own M G om) (Own M' G' om') H H') (he : ∀ p, om i = some p → om' i = some p ∧ H' p = H p) : SlotAt K M G om σ H i c → SlotAt K M' G' om' σ H' i c := by
  cases c with
  | sh d => rintro ⟨v, h1, h2⟩; exact ⟨v, h1, h2.stay s⟩
  | ow d => rintro ⟨p, h1, h2, h3⟩; exact ⟨p, (he p h1).1, h2, h3.stay s (he p h1).2⟩
/-- the heap grows, or changes at what is hidden -/
theorem Rel.grow (R : Rel K M G om ρ σ H) (k : ∀ a o, ¬ M.O a → H a = some o → H' a = some o) (mi : M.MI H') : Rel K M G om ρ σ H' := by
  have st : Stay (Own M G om) (Own M G om) H H' := fun a o n e => ⟨n, k a o (fun z => n (.inl z)) e⟩
  have ea : ∀ i p, om i = some p → H' p = H p := fun i p e => R.at k (R.own i p e).2.1 (R.own i p e).2.2.1
  refine ⟨fun i c e => slot_stay st (fun p h => ⟨h, ea i p h⟩) (R.slot i c e), R.inj, fun i p e => ⟨(R.own i p e).1, (R.own i p e).2.1, ?_, (R.own i p e).2.2.2⟩, fun a o n e => k a o n (R.base a o n e), mi, fun q hq => (R.pin q hq).stay st, fun q hq => ?_, R.hnd, R.len⟩
  · rw [ea i p e]; exact (R.own i p e).2.2.1
  · obtain ⟨t, h1, h2⟩ := R.hid q hq
    exact ⟨t.stay st (R.at k h2 t.ne), h1, h2⟩
/-- a new object that is not owned -/
theorem Rel.new (R : Rel K M G om ρ σ H) {p : Addr} {o : HO} (h : H p = none) : Rel K M G om ρ σ (upd H p o) := by
  refine R.grow (fun a u _ e => ?_) (M.loc H _ (fun a z => ?_) R.mi)
  · rw [upd_ne (ne_of_none e h)]; exact e
  · exact upd_ne fun e => M.al H a R.mi z (e ▸ h)
theorem stay_new {O : Addr → Prop} {p : Addr} {o : HO} (h : H p = none) : Stay O O H (upd H p o) := fun a u n e => ⟨n, by rw [upd_ne (ne_of_none e h)]; exact e⟩
theorem stay_sub {O O' : Addr → Prop} {H : Hp} (h : ∀ a, O' a → O a) : Stay O O' H H := fun a o n e => ⟨fun z => n (h a z), e⟩
def Gd.pin (G : Gd) (v : V) (d : D) : Gd := ⟨G.H0, (v, d) :: G.pins, G.hid⟩
def Gd.hide (G : Gd) (p : Addr) (d : D) : Gd := ⟨G.H0, G.pins, (p, d) :: G.hid⟩
theorem own_pin {v : V} {d : D} : Own M (G.pin v d) om = Own M G om := rfl
/-- more in hand -/
theorem Rel.pinned (R : Rel K M G om ρ σ H) {v : V} {d : D} (h : DAt K (Own M G om) H v d) : Rel K M (G.pin v d) om ρ σ H :=
  ⟨R.slot, R.inj, R.own, R.base, R.mi, fun q hq => by
    rcases List.mem_cons.mp hq with e | hq
    · subst e; exact h
    · exact R.pin q hq, R.hid, R.hnd, R.len⟩
theorem Rel.unpin {v : V} {d : D} (R : Rel K M (G.pin v d) om ρ σ H) : Rel K M G om ρ σ H ∧ DAt K (Own M G om) H v d :=
  ⟨⟨R.slot, R.inj, R.own, R.base, R.mi, fun q hq => R.pin q (List.mem_cons_of_mem _ hq), R.hid, R.hnd, R.len⟩, R.pin (v, d) List.mem_cons_self⟩
/-- a new object in hand -/
theorem Rel.hidden (R : Rel K M G om ρ σ H) {p : Addr} {o : HO} {d : D} (hp : H p = none) (h : Kids K (Own M G om) H o d) : Rel K M (G.hide p d) om ρ σ (upd H p o) := by
  have nO : ¬ Own M G om p := R.fresh hp
  have st : Stay (Own M G om) (Own M (G.hide p d) om) H (upd H p o) := fun a u n e => by
    have ne := ne_of_none e hp
    refine ⟨?_, by rw [upd_ne ne]; exact e⟩
    rintro (z | z | ⟨d', z⟩)
    · exact n (.inl z)
    · exact n (.inr (.inl z))
    · rcases List.mem_cons.mp z with z | z
      · cases z; exact ne rfl
      · exact n (.inr (.inr ⟨d', z⟩))
  refine ⟨fun i c e => slot_stay st (fun q hq => ⟨hq, upd_ne fun z => nO (.inr (.inl ⟨i, z ▸ hq⟩))⟩) (R.slot i c e), R.inj, fun i q e => ?_, fun a u n e => ?_, M.loc H _ (fun a z => upd_ne fun e => nO (.inl (e ▸ z))) R.mi, fun q hq => (R.pin q hq).stay st, fun q hq => ?_, ?_, R.len⟩
  · obtain ⟨h1, h2, h3, h4⟩ := R.own i q e
    have nq : q ≠ p := fun z => nO (.inr (.inl ⟨i, z ▸ e⟩))
    refine ⟨h1, h2, by rw [upd_ne nq]; exact h3, fun d' z => ?_⟩
    rcases List.mem_cons.mp z with z | z
    · cases z; exact nq rfl
    · exact h4 d' z
  · have z := R.base a u n e
    rw [upd_ne (ne_of_none z hp)]; exact z
  · rcases List.mem_cons.mp hq with z | z
    · subst z
      exact ⟨⟨o, upd_same, h.stay st⟩, R.fresh0 hp, fun z => nO (.inl z)⟩
    · obtain ⟨t, h1, h2⟩ := R.hid q z
      exact ⟨t.stay st (upd_ne fun e => t.ne (e ▸ hp)), h1, h2⟩
  · refine List.nodup_cons.mpr ⟨fun z => ?_, R.hnd⟩
    obtain ⟨q, hq, e⟩ := List.mem_map.mp z
    exact (R.hid q hq).1.ne (e ▸ hp)
theorem own_unhide {p : Addr} {d : D} {a : Addr} : Own M G om a → Own M (G.hide p d) om a
  | .inl z => .inl z
  | .inr (.inl z) => .inr (.inl z)
  | .inr (.inr ⟨d', z⟩) => .inr (.inr ⟨d', List.mem_cons_of_mem _ z⟩)
/-- a new object out of hand: let go -/
theorem Rel.unhide (R : Rel K M (G.hide p d) om ρ σ H) : Rel K M G om ρ σ H ∧ DAt K (Own M G om) H (.ref p) d := by
  have st : Stay (Own M (G.hide p d) om) (Own M G om) H H := stay_sub fun a z => own_unhide z
  obtain ⟨t, h1, h2⟩ := R.hid (p, d) List.mem_cons_self
  have nd := List.nodup_cons.mp R.hnd
  have n : ¬ Own M G om p := by
    rintro (z | ⟨i, z⟩ | ⟨d', z⟩)
    · exact h2 z
    · exact (R.own i p z).2.2.2 d List.mem_cons_self
    · exact nd.1 (List.mem_map.mpr ⟨_, z, rfl⟩)
  refine ⟨⟨fun i c e => slot_stay st (fun q hq => ⟨hq, rfl⟩) (R.slot i c e), R.inj, fun i q e => ?_, R.base, R.mi, fun q hq => (R.pin q hq).stay st, fun q hq => ?_, nd.2, R.len⟩, (t.stay st rfl).free n⟩
  · obtain ⟨a1, a2, a3, a4⟩ := R.own i q e
    exact ⟨a1, a2, a3, fun d' z => a4 d' (List.mem_cons_of_mem _ z)⟩
  · obtain ⟨a1, a2, a3⟩ := R.hid q (List.mem_cons_of_mem _ hq)
    exact ⟨a1.stay st rfl, a2, a3⟩
theorem own_sub {om' : Om} (h : ∀ i p, om' i = some p → om i = some p) {a : Addr} : Own M G om' a → Own M G om a
  | .inl z => .inl z
  | .inr (.inl ⟨i, z⟩) => .inr (.inl ⟨i, h i a z⟩)
  | .inr (.inr z) => .inr (.inr z)
def omDel (om : Om) (i : Nat) : Om := fun j => if j = i then none else om j
def omSet (om : Om) (i : Nat) (p : Addr) : Om := fun j => if j = i then some p else om j
theorem omDel_sub {i : Nat} : ∀ j p, omDel om i j = some p → om j = some p := fun j p h => by
  unfold omDel at h
  split at h
  · cases h
  · exact h
theorem omDel_ne {i j : Nat} (h : j ≠ i) : omDel om i j = om j := if_neg h
theorem omSet_self {i : Nat} {p : Addr} : omSet om i p i = some p := if_pos rfl
theorem omSet_ne {i j : Nat} {p : Addr} (h : j ≠ i) : omSet om i p j = om j := if_neg h
theorem slot_set {i j : Nat} {c : Cell} {x : Option V} (h : j ≠ i) : SlotAt K M G om σ H j c → SlotAt K M G om (σ.set i x) H j c := by
  have e : (σ.set i x)[j]? = σ[j]? := List.getElem?_set_ne (Ne.symm h)
  cases c with
  | sh d => rintro ⟨v, h1, h2⟩; exact ⟨v, e.trans h1, h2⟩
  | ow d => rintro ⟨p, h1, h2, h3⟩; exact ⟨p, h1, e.trans h2, h3⟩
/-- the slots behind a store -/
theorem slots_set {i : Nat} {c : Cell} {x : Option V} (hl : ρ.length = σ.length) (h1 : i < σ.length → SlotAt K M G om (σ.set i x) H i c) (h2 : ∀ j c', j ≠ i → ρ[j]? = some (some c') → SlotAt K M G om σ H j c') :
    ∀ j c', (ρ.set i (some c))[j]? = some (some c') → SlotAt K M G om (σ.set i x) H j c' := fun j c' e => by
  by_cases hj : j = i
  · subst hj
    have hl' : j < ρ.length := by
      have := (List.getElem?_eq_some_iff.mp e).1
      simpa using this
    rw [List.getElem?_set_self hl'] at e
    cases e
    exact h1 (hl ▸ hl')
  · rw [List.getElem?_set_ne (Ne.symm hj)] at e
    exact slot_set hj (h2 j c' hj e)
/-- a slot gets a datum -/
theorem Rel.set (R : Rel K M G om ρ σ H) {i : Nat} {v : V} {d : D} (h : DAt K (Own M G om) H v d) : Rel K M G (omDel om i) (ρ.set i (some (.sh d))) (σ.set i (some v)) H := by
  have st : Stay (Own M G om) (Own M G (omDel om i)) H H := stay_sub fun a z => own_sub omDel_sub z
  refine ⟨slots_set R.len (fun hi => ⟨v, List.getElem?_set_self hi, h.stay st⟩) fun j c hj e => slot_stay st (fun p hp => ⟨(omDel_ne hj).trans hp, rfl⟩) (R.slot j c e), fun a b p h1 h2 => R.inj a b p (omDel_sub a p h1) (omDel_sub b p h2), fun j p e => R.own j p (omDel_sub j p e), R.base, R.mi, fun q hq => (R.pin q hq).stay st, fun q hq => ?_, R.hnd, by simpa using R.len⟩
  obtain ⟨a1, a2, a3⟩ := R.hid q hq
  exact ⟨a1.stay st rfl, a2, a3⟩
/-- a slot gets the new object that is in hand -/
theorem Rel.setOwn {p : Addr} {d : D} (R : Rel K M (G.hide p d) om ρ σ H) {i : Nat} : Rel K M G (omSet om i p) (ρ.set i (some (.ow d))) (σ.set i (some (.ref p))) H := by
  obtain ⟨t, h1, h2⟩ := R.hid (p, d) List.mem_cons_self
  have nd := List.nodup_cons.mp R.hnd
  have nj : ∀ j, om j ≠ some p := fun j e => (R.own j p e).2.2.2 d List.mem_cons_self
  have sub : ∀ a, Own M G (omSet om i p) a → Own M (G.hide p d) om a := by
    rintro a (z | ⟨j, z⟩ | ⟨d', z⟩)
    · exact .inl z
    · by_cases hj : j = i
      · subst hj; rw [omSet_self] at z; cases z; exact .inr (.inr ⟨d, List.mem_cons_self⟩)
      · rw [omSet_ne hj] at z; exact .inr (.inl ⟨j, z⟩)
    · exact .inr (.inr ⟨d', List.mem_cons_of_mem _ z⟩)
  have st : Stay (Own M (G.hide p d) om) (Own M G (omSet om i p)) H H := stay_sub sub
  refine ⟨slots_set R.len (fun hi => ⟨p, omSet_self, List.getElem?_set_self hi, t.stay st rfl⟩) fun j c hj e => slot_stay st (fun q hq => ⟨(omSet_ne hj).trans hq, rfl⟩) (R.slot j c e), fun a b q h1 h2 => ?_, fun j q e => ?_, R.base, R.mi, fun q hq => (R.pin q hq).stay st, fun q hq => ?_, nd.2, by simpa using R.len⟩
  · by_cases ha : a = i
    · by_cases hb : b = i
      · rw [ha, hb]
      · rw [ha, omSet_self] at h1
        rw [omSet_ne hb] at h2
        exact absurd (h2.trans h1.symm) (nj b)
    · rw [omSet_ne ha] at h1
      by_cases hb : b = i
      · rw [hb, omSet_self] at h2
        exact absurd (h1.trans h2.symm) (nj a)
      · rw [omSet_ne hb] at h2
        exact R.inj a b q h1 h2
  · by_cases hj : j = i
    · rw [hj, omSet_self] at e
      cases e
      exact ⟨h1, h2, t.ne, fun d' z => nd.1 (List.mem_map.mpr ⟨_, z, rfl⟩)⟩
    · rw [omSet_ne hj] at e
      obtain ⟨q1, q2, q3, q4⟩ := R.own j q e
      exact ⟨q1, q2, q3, fun d' z => q4 d' (List.mem_cons_of_mem _ z)⟩
  · obtain ⟨a1, a2, a3⟩ := R.hid q (List.mem_cons_of_mem _ hq)
    exact ⟨a1.stay st rfl, a2, a3⟩
/-- an owned object is written -/
theorem Rel.put (R : Rel K M G om ρ σ H) {i : Nat} {p : Addr} {o : HO} {d : D} (hi : om i = some p) (hs : σ[i]? = some (some (.ref p))) (h : Kids K (Own M G om) H o d) : Rel K M G om (ρ.set i (some (.ow d))) σ (upd H p o) := by
  have hO : Own M G om p := .inr (.inl ⟨i, hi⟩)
  have nM : ¬ M.O p := (R.own i p hi).2.1
  have ne : ∀ {a : Addr}, ¬ Own M G om a → a ≠ p := fun n e => n (e ▸ hO)
  have st : Stay (Own M G om) (Own M G om) H (upd H p o) := fun a u n e => ⟨n, by rw [upd_ne (ne n)]; exact e⟩
  have es : σ.set i (some (.ref p)) = σ := by
    obtain ⟨hl, e⟩ := List.getElem?_eq_some_iff.mp hs
    rw [← e, List.set_getElem_self]
  have sl := slots_set (K := K) (M := M) (G := G) (om := om) (H := upd H p o) (i := i) (c := .ow d) (x := some (.ref p)) R.len (fun hl => ⟨p, hi, List.getElem?_set_self hl, o, upd_same, h.stay st⟩) fun j c hj e =>
    slot_stay st (fun q hq => ⟨hq, upd_ne fun z => hj (R.inj j i p (z ▸ hq) hi)⟩) (R.slot j c e)
  rw [es] at sl
  refine ⟨sl, R.inj, fun j q e => ⟨(R.own j q e).1, (R.own j q e).2.1, ?_, (R.own j q e).2.2.2⟩, fun a u n e => ?_, M.loc H _ (fun a z => upd_ne fun e => nM (e ▸ z)) R.mi, fun q hq => (R.pin q hq).stay st, fun q hq => ?_, R.hnd, by simpa using R.len⟩
  · by_cases hq : q = p
    · rw [hq, upd_same]; exact nofun
    · rw [upd_ne hq]; exact (R.own j q e).2.2.1
  · have z := R.base a u n e
    have : a ≠ p := fun q => by rw [q, (R.own i p hi).1] at e; cases e
    rw [upd_ne this]; exact z
  · obtain ⟨a1, a2, a3⟩ := R.hid q hq
    exact ⟨a1.stay st (upd_ne fun z => (R.own i p hi).2.2.2 q.2 (by rw [← z]; exact hq)), a2, a3⟩
/-- an owned object is let go -/
theorem Rel.freeze (R : Rel K M G om ρ σ H) {i : Nat} {d : D} (h : ρ[i]? = some (some (.ow d))) :
    ∃ p, σ[i]? = some (some (.ref p)) ∧ DAt K (Own M G (omDel om i)) H (.ref p) d ∧ Rel K M G (omDel om i) (ρ.set i (some (.sh d))) σ H := by
  obtain ⟨p, h1, h2, h3⟩ := R.slot i _ h
  have st : Stay (Own M G om) (Own M G (omDel om i)) H H := stay_sub fun a z => own_sub omDel_sub z
  have n : ¬ Own M G (omDel om i) p := by
    rintro (z | ⟨j, z⟩ | ⟨d', z⟩)
    · exact (R.own i p h1).2.1 z
    · by_cases hj : j = i
      · rw [hj] at z
        unfold omDel at z
        rw [if_pos rfl] at z; cases z
      · exact hj (R.inj j i p (omDel_sub j p z) h1)
    · exact (R.own i p h1).2.2.2 d' z
  have hd : DAt K (Own M G (omDel om i)) H (.ref p) d := (h3.stay st rfl).free n
  have es : σ.set i (some (.ref p)) = σ := by
    obtain ⟨hl, e⟩ := List.getElem?_eq_some_iff.mp h2
    rw [← e, List.set_getElem_self]
  have sl := slots_set (K := K) (M := M) (G := G) (om := omDel om i) (H := H) (i := i) (c := .sh d) (x := some (.ref p)) R.len (fun hl => ⟨.ref p, List.getElem?_set_self hl, hd⟩) fun j c hj e =>
    slot_stay st (fun q hq => ⟨(omDel_ne hj).trans hq, rfl⟩) (R.slot j c e)
  rw [es] at sl
  refine ⟨p, h2, hd, sl, fun a b q h1 h2 => R.inj a b q (omDel_sub a q h1) (omDel_sub b q h2), fun j q e => R.own j q (omDel_sub j q e), R.base, R.mi, fun q hq => (R.pin q hq).stay st, fun q hq => ?_, R.hnd, by simpa using R.len⟩
  obtain ⟨a1, a2, a3⟩ := R.hid q hq
  exact ⟨a1.stay st rfl, a2, a3⟩
/-- an owned object is given out of its slot, in hand -/
theorem Rel.gives (R : Rel K M G om ρ σ H) {i : Nat} {p : Addr} {d : D} (h1 : om i = some p) (h : ρ[i]? = some (some (.ow d)) := by assumption) : Rel K M (G.hide p d) (omDel om i) (ρ.set i none) σ H := by
  obtain ⟨p', e, h2, h3⟩ := R.slot i _ h
  rw [h1] at e; cases e
  have sub : ∀ a, Own M (G.hide p d) (omDel om i) a → Own M G om a := by
    rintro a (z | ⟨j, z⟩ | ⟨d', z⟩)
    · exact .inl z
    · exact .inr (.inl ⟨j, omDel_sub j a z⟩)
    · rcases List.mem_cons.mp z with z | z
      · cases z; exact .inr (.inl ⟨i, h1⟩)
      · exact .inr (.inr ⟨d', z⟩)
  have st : Stay (Own M G om) (Own M (G.hide p d) (omDel om i)) H H := stay_sub sub
  refine ⟨fun j c e => ?_, fun a b q z1 z2 => R.inj a b q (omDel_sub a q z1) (omDel_sub b q z2), fun j q e => ?_, R.base, R.mi, fun q hq => (R.pin q hq).stay st, fun q hq => ?_, ?_, by simpa using R.len⟩
  · by_cases hj : j = i
    · subst hj
      by_cases hl : j < ρ.length
      · rw [List.getElem?_set_self hl] at e; cases e
      · rw [List.getElem?_eq_none (by simpa using hl)] at e; cases e
    · rw [List.getElem?_set_ne (Ne.symm hj)] at e
      exact slot_stay st (fun q hq => ⟨(omDel_ne hj).trans hq, rfl⟩) (R.slot j c e)
  · have z := omDel_sub j q e
    obtain ⟨a1, a2, a3, a4⟩ := R.own j q z
    refine ⟨a1, a2, a3, fun d' hm => ?_⟩
    rcases List.mem_cons.mp hm with hm | hm
    · cases hm
      have : j = i := R.inj j i p z h1
      rw [this] at e
      unfold omDel at e
      rw [if_pos rfl] at e; cases e
    · exact a4 d' hm
  · rcases List.mem_cons.mp hq with z | z
    · subst z
      exact ⟨h3.stay st rfl, (R.own i p h1).1, (R.own i p h1).2.1⟩
    · obtain ⟨a1, a2, a3⟩ := R.hid q z
      exact ⟨a1.stay st rfl, a2, a3⟩
  · refine List.nodup_cons.mpr ⟨fun z => ?_, R.hnd⟩
    obtain ⟨q, hq, e⟩ := List.mem_map.mp z
    refine (R.own i p h1).2.2.2 q.2 ?_
    obtain ⟨q1, q2⟩ := q
    obtain rfl : q1 = p := e
    exact hq
/-- a new object in hand is written -/
theorem Rel.hidPut {p : Addr} {o : HO} {d d' : D} (R : Rel K M (G.hide p d) om ρ σ H) (h : Kids K (Own M (G.hide p d) om) H o d') : Rel K M (G.hide p d') om ρ σ (upd H p o) := by
  obtain ⟨t, h1, h2⟩ := R.hid (p, d) List.mem_cons_self
  have nd := List.nodup_cons.mp R.hnd
  have hO : Own M (G.hide p d) om p := .inr (.inr ⟨d, List.mem_cons_self⟩)
  have eO : ∀ a, Own M (G.hide p d') om a → Own M (G.hide p d) om a := by
    rintro a (z | z | ⟨d2, z⟩)
    · exact .inl z
    · exact .inr (.inl z)
    · rcases List.mem_cons.mp z with z | z
      · cases z; exact hO
      · exact .inr (.inr ⟨d2, List.mem_cons_of_mem _ z⟩)
  have ne : ∀ {a : Addr}, ¬ Own M (G.hide p d) om a → a ≠ p := fun n e => n (e ▸ hO)
  have st : Stay (Own M (G.hide p d) om) (Own M (G.hide p d') om) H (upd H p o) := fun a u n e => ⟨fun z => n (eO a z), by rw [upd_ne (ne n)]; exact e⟩
  have nj : ∀ i q, om i = some q → q ≠ p := fun i q e z => (R.own i q e).2.2.2 d (z ▸ List.mem_cons_self)
  refine ⟨fun i c e => slot_stay st (fun q hq => ⟨hq, upd_ne (nj i q hq)⟩) (R.slot i c e), R.inj, fun i q e => ?_, fun a u n e => ?_, M.loc H _ (fun a z => upd_ne fun e => h2 (e ▸ z)) R.mi, fun q hq => (R.pin q hq).stay st, fun q hq => ?_, R.hnd, R.len⟩
  · obtain ⟨a1, a2, a3, a4⟩ := R.own i q e
    refine ⟨a1, a2, by rw [upd_ne (nj i q e)]; exact a3, fun d2 z => ?_⟩
    rcases List.mem_cons.mp z with z | z
    · exact nj i q e (congrArg Prod.fst z)
    · exact a4 d2 (List.mem_cons_of_mem _ z)
  · have z := R.base a u n e
    have : a ≠ p := fun q => by
      have h0 : G.H0 p = none := h1
      have e' : G.H0 p = some u := q ▸ e
      rw [h0] at e'; cases e'
    rw [upd_ne this]; exact z
  · rcases List.mem_cons.mp hq with z | z
    · subst z
      exact ⟨⟨o, upd_same, h.stay st⟩, h1, h2⟩
    · obtain ⟨a1, a2, a3⟩ := R.hid q (List.mem_cons_of_mem _ z)
      have nq : q.1 ≠ p := fun e => nd.1 (List.mem_map.mpr ⟨q, z, e⟩)
      exact ⟨a1.stay st (upd_ne nq), a2, a3⟩
/-- slots are forgotten -/
theorem Rel.forget (R : Rel K M G om ρ σ H) {ρ' : Rho} {σ' : St} (hl : ρ'.length = σ'.length) (h : ∀ (i : Nat) (c : Cell), ρ'[i]? = some (some c) → ρ[i]? = some (some c) ∧ σ'[i]? = σ[i]?) : Rel K M G om ρ' σ' H :=
  ⟨fun i c e => by
    obtain ⟨h1, h2⟩ := h i c e
    have s := R.slot i c h1
    cases c with
    | sh d => obtain ⟨v, a, b⟩ := s; exact ⟨v, h2.trans a, b⟩
    | ow d => obtain ⟨p, a, b, c⟩ := s; exact ⟨p, a, h2.trans b, c⟩, R.inj, R.own, R.base, R.mi, R.pin, R.hid, R.hnd, hl⟩
end
end Dl

set_option Elab.async false
set_option linter.all false
set_option maxRecDepth 100000
set_option maxHeartbeats 4000000
/-! DlB: readings over data: expressions, tests, statements. -/
namespace Dl
open PySem L2

/-- what an expression gives: a datum, or what stands in a slot -/
inductive Rs where
  | val (d : D) | slt (i : Nat) | new (d : D)
def pk (ρ : Rho) (i : Nat) : Option D := match ρ[i]? with
  | some (some (.sh d)) => some d
  | some (some (.ow d)) => some d
  | _ => none
def Rs.get (ρ : Rho) : Rs → Option D
  | .val d => some d
  | .slt i => pk ρ i
  | .new d => some d
/-- a new object that is held awhile -/
def Rs.dn : Rs → Rs
  | .new d => .val d
  | r => r
theorem Rs.dn_get (ρ : Rho) (r : Rs) : r.dn.get ρ = r.get ρ := by cases r <;> rfl
/-- what is let go of a slot -/
def Rs.out (ρ : Rho) : Rs → Option (D × Rho)
  | .val d => some (d, ρ)
  | .new d => some (d, ρ)
  | .slt i => match ρ[i]? with
    | some (some (.sh d)) => some (d, ρ)
    | some (some (.ow d)) => some (d, ρ.set i (some (.sh d)))
    | _ => none
/-- an exception: its class, its field, what the field holds -/
structure Ex where
  c : Addr
  f : Str
  d : D
def ExAt (K : PySem.W.Frag) (O : Addr → Prop) (H : Hp) (cls : Value) (dd : Option Addr) (e : Ex) : Prop :=
  cls = .ref e.c ∧ ∃ a x, dd = some a ∧ H a = some (.xd [(e.f, x)]) ∧ DAt K O H x e.d
abbrev XD := Ex → Rho → Prop
abbrev WE := Rho → XD → (Rs → Rho → Prop) → Prop
abbrev WT := Rho → XD → (Bool → Rho → Prop) → Prop
abbrev WA := Rho → XD → (List Rs → Rho → Prop) → Prop
structure ED where
  nx : Rho → Prop
  rt : Rs → Prop
  bk : Rho → Prop
  ct : Rho → Prop
abbrev WS := Rho → XD → ED → Prop

/-- r in hand, v being what it tells -/
def Gd.hold (G : Gd) (v : V) : Rs → Gd
  | .val d => G.pin v d
  | .slt _ => G
  | .new d => match v with
    | .ref p => G.hide p d
    | _ => G
def RsOk (σ : St) (v : V) : Rs → Prop
  | .val _ => True
  | .slt i => σ[i]? = some (some v)
  | .new _ => ∃ p, v = .ref p
def Gd.holds (G : Gd) : List V → List Rs → Gd
  | v :: vs, r :: rs => (G.hold v r).holds vs rs
  | _, _ => G
inductive RsOks (σ : St) : List V → List Rs → Prop
  | nil : RsOks σ [] []
  | cons {v : V} {vs : List V} {r : Rs} {rs : List Rs} : RsOk σ v r → RsOks σ vs rs → RsOks σ (v :: vs) (r :: rs)
/-- read as data: owned at the top, perhaps -/
def BAt (K : PySem.W.Frag) (O : Addr → Prop) (H : Hp) (v : V) (d : D) : Prop := DAt K O H v d ∨ ∃ p, v = .ref p ∧ O p ∧ Top K O H p d

section
variable {K : PySem.W.Frag} {M : MC} {G : Gd} {om : Om} {ρ : Rho} {σ : St} {H H' : Hp} {v : V} {r : Rs} {d : D}
theorem Rel.look (R : Rel K M G om ρ σ H) {i : Nat} (h : σ[i]? = some (some v)) (g : Dl.pk ρ i = some d) : BAt K (Own M G om) H v d := by
  unfold Dl.pk at g
  split at g
  · rename_i d' e
    cases g
    obtain ⟨w, h1, h2⟩ := R.slot i _ e
    rw [h] at h1; cases h1
    exact .inl h2
  · rename_i d' e
    cases g
    obtain ⟨p, h0, h1, h2⟩ := R.slot i _ e
    rw [h] at h1; cases h1
    exact .inr ⟨p, rfl, .inr (.inl ⟨i, h0⟩), h2⟩
  · cases g
/-- new objects on the way -/
inductive Nw : Hp → Hp → Prop
  | refl {H : Hp} : Nw H H
  | new {H H1 : Hp} {p : Addr} {o : HO} : Nw H H1 → H1 p = none → Nw H (upd H1 p o)
theorem Nw.one {H : Hp} {p : Addr} {o : HO} (h : H p = none) : Nw H (upd H p o) := .new .refl h
theorem Nw.keep {H H' : Hp} (n : Nw H H') : ∀ a o, H a = some o → H' a = some o := by
  induction n with
  | refl => exact fun _ _ e => e
  | new n h ih => exact fun a o e => by rw [upd_ne (ne_of_none (ih a o e) h)]; exact ih a o e
theorem Nw.stay {O : Addr → Prop} {H H' : Hp} (n : Nw H H') : Stay O O H H' := fun a o z e => ⟨z, n.keep a o e⟩
theorem Rel.nw (R : Rel K M G om ρ σ H) (n : Nw H H') : Rel K M G om ρ σ H' := by
  induction n with
  | refl => exact R
  | new n h ih => exact ih.new h
theorem Nw.trans {H H1 H2 : Hp} (a : Nw H H1) (b : Nw H1 H2) : Nw H H2 := by
  induction b with
  | refl => exact a
  | new b h ih => exact .new ih h
theorem Nw.back {H H' : Hp} (n : Nw H H') {p : Addr} (h : H' p = none) : H p = none := by
  cases e : H p with
  | none => rfl
  | some o => rw [n.keep p o e] at h; cases h
theorem own_hold {a : Addr} : Own M G om a → Own M (G.hold v r) om a := by
  cases r with
  | val d => exact id
  | slt i => exact id
  | new d => cases v <;> first | exact id | exact own_unhide
theorem Rel.unhold (R : Rel K M (G.hold v r) om ρ σ H) : Rel K M G om ρ σ H := by
  cases r with
  | val d => exact (Rel.unpin R).1
  | slt i => exact R
  | new d => cases v <;> first | exact R | exact (Rel.unhide R).1
/-- v is in hand as r tells -/
def Held (G : Gd) (v : V) : Rs → Prop
  | .val d => (v, d) ∈ G.pins
  | .slt _ => True
  | .new d => ∃ p, v = .ref p ∧ (p, d) ∈ G.hid
theorem Held.self (h : RsOk σ v r) : Held (G.hold v r) v r := by
  cases r with
  | val d => exact List.mem_cons_self
  | slt i => trivial
  | new d =>
    obtain ⟨p, rfl⟩ := h
    exact ⟨p, rfl, List.mem_cons_self⟩
theorem Held.hold {u : V} {q : Rs} (h : Held G v r) : Held (G.hold u q) v r := by
  cases r with
  | val d => cases q <;> first | exact List.mem_cons_of_mem _ h | exact h | (cases u <;> exact h)
  | slt i => trivial
  | new d =>
    obtain ⟨p, e, m⟩ := h
    refine ⟨p, e, ?_⟩
    cases q <;> first | exact m | (cases u <;> first | exact m | exact List.mem_cons_of_mem _ m)
theorem Rel.getH (R : Rel K M G om ρ σ H) (hh : Held G v r) (h : RsOk σ v r) (g : r.get ρ = some d) : BAt K (Own M G om) H v d := by
  cases r with
  | val d' => cases g; exact .inl (R.pin _ hh)
  | slt i => exact R.look h g
  | new d' =>
    cases g
    obtain ⟨p, rfl, m⟩ := hh
    exact .inr ⟨p, rfl, .inr (.inr ⟨d, m⟩), (R.hid (p, d) m).1⟩
theorem Rel.get (R : Rel K M (G.hold v r) om ρ σ H) (h : RsOk σ v r) (g : r.get ρ = some d) : BAt K (Own M (G.hold v r) om) H v d := R.getH (Held.self h) h g
theorem Rel.out (R : Rel K M (G.hold v r) om ρ σ H) {ρ' : Rho} (h : RsOk σ v r) (g : r.out ρ = some (d, ρ')) :
    ∃ om', (∀ j p, om' j = some p → om j = some p) ∧ DAt K (Own M G om') H v d ∧ Rel K M G om' ρ' σ H := by
  cases r with
  | val d' =>
    dsimp only [Rs.out] at g
    cases g
    obtain ⟨R, h⟩ := Rel.unpin R
    exact ⟨om, fun _ _ z => z, h, R⟩
  | new d' =>
    dsimp only [Rs.out] at g
    cases g
    obtain ⟨p, rfl⟩ := h
    obtain ⟨R, h⟩ := Rel.unhide R
    exact ⟨om, fun _ _ z => z, h, R⟩
  | slt i =>
    have R : Rel K M G om ρ σ H := R
    have h : σ[i]? = some (some v) := h
    dsimp only [Rs.out] at g
    split at g
    · rename_i d' e
      cases g
      obtain ⟨w, h1, h2⟩ := R.slot i _ e
      rw [h] at h1; cases h1
      exact ⟨om, fun _ _ z => z, h2, R⟩
    · rename_i d' e
      cases g
      obtain ⟨p, h1, h2, h3⟩ := R.freeze e
      rw [h] at h1; cases h1
      exact ⟨omDel om i, omDel_sub, h2, h3⟩
    · cases g
theorem RsOks.length {vs : List V} {rs : List Rs} (h : RsOks σ vs rs) : vs.length = rs.length := by
  induction h with
  | nil => rfl
  | cons _ _ ih => rw [List.length_cons, List.length_cons, ih]
theorem own_holds {a : Addr} : ∀ {vs : List V} {rs : List Rs} {G : Gd}, Own M G om a → Own M (G.holds vs rs) om a
  | [], _, _, z => z
  | _ :: _, [], _, z => z
  | v :: vs, r :: rs, G, z => own_holds (vs := vs) (rs := rs) (G := G.hold v r) (own_hold z)
theorem Rel.unholds : ∀ {vs : List V} {rs : List Rs} {G : Gd}, Rel K M (G.holds vs rs) om ρ σ H → Rel K M G om ρ σ H
  | [], _, _, R => R
  | _ :: _, [], _, R => R
  | _ :: _, _ :: _, _, R => Rel.unhold (Rel.unholds R)
end

/-- exceptions, from data to the heap -/
def Lnk (K : PySem.W.Frag) (M : MC) (G : Gd) (E : WX) (X : XD) : Prop := ∀ om ρ σ H cls dd e, Rel K M G om ρ σ H → ExAt K (Own M G om) H cls dd e → X e ρ → E cls dd σ H
theorem Lnk.hold {K : PySem.W.Frag} {M : MC} {G : Gd} {E : WX} {X : XD} {v : V} {r : Rs} (l : Lnk K M G E X) : Lnk K M (G.hold v r) E X := fun om ρ σ H cls dd e R h => by
  obtain ⟨h1, a, x, h2, h3, h4⟩ := h
  exact l om ρ σ H cls dd e R.unhold ⟨h1, a, x, h2, h3, h4.stay (stay_sub fun a z => own_hold z)⟩

/-! ### the readings -/
def tD (K : PySem.W.Frag) (M : MC) (E : WX) (W : WE) : TE := fun σ H Q => ∃ G om ρ X Qd, Rel K M G om ρ σ H ∧ Lnk K M G E X ∧ W ρ X Qd ∧
  ∀ om' ρ' v H' r, Rel K M (G.hold v r) om' ρ' σ H' → RsOk σ v r → Qd r ρ' → Q v H'
def tDT (K : PySem.W.Frag) (M : MC) (E : WX) (W : WT) : TT := fun σ H Q => ∃ G om ρ X Qd, Rel K M G om ρ σ H ∧ Lnk K M G E X ∧ W ρ X Qd ∧
  ∀ om' ρ' b H', Rel K M G om' ρ' σ H' → Qd b ρ' → Q b H'
def tDA (K : PySem.W.Frag) (M : MC) (E : WX) (W : WA) : TA := fun σ H Q => ∃ G om ρ X Qd, Rel K M G om ρ σ H ∧ Lnk K M G E X ∧ W ρ X Qd ∧
  ∀ om' ρ' vs H' rs, Rel K M (G.holds vs rs) om' ρ' σ H' → RsOks σ vs rs → Qd rs ρ' → Q vs H'
def tDS (K : PySem.W.Frag) (M : MC) (E : WX) (W : WS) : TS := fun D σ H => ∃ G om ρ X Qd, Rel K M G om ρ σ H ∧ Lnk K M G E X ∧ W ρ X Qd ∧
  (∀ om' ρ' σ' H', Rel K M G om' ρ' σ' H' → Qd.nx ρ' → D.nx σ' H') ∧ (∀ om' ρ' σ' v H' r, Rel K M (G.hold v r) om' ρ' σ' H' → RsOk σ' v r → Qd.rt r → D.rt v H') ∧
  (∀ om' ρ' σ' H', Rel K M G om' ρ' σ' H' → Qd.bk ρ' → D.bk σ' H') ∧ (∀ om' ρ' σ' H', Rel K M G om' ρ' σ' H' → Qd.ct ρ' → D.ct σ' H')

section
variable {X : Cx} {M : MC} {E : WX}
theorem PE.weak {e : Expr} {t t' : TE} (h : PE X e t) (w : ∀ σ H Q, t' σ H Q → t σ H Q) : PE X e t' := ⟨fun pins s σ H Q I q => h.run pins s σ H Q I (w σ H Q q)⟩
theorem PT.weak {e : Expr} {t t' : TT} (h : PT X e t) (w : ∀ σ H Q, t' σ H Q → t σ H Q) : PT X e t' := ⟨fun pins s σ H Q I q => h.run pins s σ H Q I (w σ H Q q)⟩
theorem PW.weak {e : Expr} {t t' : TT} (h : PW X e t) (w : ∀ σ H Q, t' σ H Q → t σ H Q) : PW X e t' := ⟨fun wh pins s σ H Q I q => h.run wh pins s σ H Q I (w σ H Q q)⟩
theorem PA.weak {e : List Expr} {t t' : TA} (h : PA X e t) (w : ∀ σ H Q, t' σ H Q → t σ H Q) : PA X e t' := ⟨fun p pins s σ H Q I q => h.run p pins s σ H Q I (w σ H Q q)⟩
theorem PS.weak {e : Stmt} {t t' : TS} (h : PS X e t) (w : ∀ D σ H, t' D σ H → t D σ H) : PS X e t' := ⟨fun pins s σ H D I q => h.run pins s σ H D I (w D σ H q)⟩
theorem PSs.weak {e : List Stmt} {t t' : TS} (h : PSs X e t) (w : ∀ D σ H, t' D σ H → t D σ H) : PSs X e t' := ⟨fun pins s σ H D I q => h.run pins s σ H D I (w D σ H q)⟩

/-! ### names, constants -/
def wVar (i : Nat) : WE := fun ρ _ Q => (∃ d, pk ρ i = some d) ∧ Q (.slt i) ρ
def wC (d : D) : WE := fun ρ _ Q => Q (.val d) ρ
theorem Rel.has {K : PySem.W.Frag} {G : Gd} {om : Om} {ρ : Rho} {σ : St} {H : Hp} {d : D} {i : Nat} (R : Rel K M G om ρ σ H) (g : pk ρ i = some d) : ∃ v, σ[i]? = some (some v) := by
  unfold pk at g
  split at g
  · rename_i d' e
    obtain ⟨v, h1, _⟩ := R.slot i _ e
    exact ⟨v, h1⟩
  · rename_i d' e
    obtain ⟨p, _, h1, _⟩ := R.slot i _ e
    exact ⟨_, h1⟩
  · cases g
theorem pd_var (i : Nat) {x : Str} {pos : Pos} (hN : X.N[i]? = some x := by rfl) (hv : Vis X.env.scope x := by first | exact Or.inl rfl | exact Or.inr (Or.inl rfl) | exact Or.inr (Or.inr rfl)) (hd : (x == ("__debug__" : Str)) = false := by decide)
    (hcd : (x == ("__classdict__" : Str)) = false := by decide) : PE X (.Name x pos) (tD X.K M E (wVar i)) :=
  PE.weak (pe_var hN hv hd hcd) fun σ H Q ⟨G, om, ρ, Xd, Qd, R, L, ⟨⟨d, g⟩, w⟩, k⟩ => by
    obtain ⟨v, e⟩ := R.has g
    exact ⟨v, e, k om ρ v H (.slt i) R e w⟩
theorem pd_val {e : Expr} {v : V} {d : D} (h : PE X e (tC v)) (hd : ∀ O H, DAt X.K O H v d) : PE X e (tD X.K M E (wC d)) :=
  PE.weak h fun σ H Q ⟨G, om, ρ, Xd, Qd, R, L, w, k⟩ => k om ρ v H (.val d) (R.pinned (hd _ _)) trivial w
theorem pd_int {i j pos} : PE X (.Constant (.int i) j pos) (tD X.K M E (wC (.int i))) := pd_val pe_int fun _ _ => .int i
theorem pd_bl {b j pos} : PE X (.Constant (.bool b) j pos) (tD X.K M E (wC (.bl b))) := pd_val pe_bl fun _ _ => .bl b
theorem pd_non {j pos} : PE X (.Constant .none j pos) (tD X.K M E (wC .non)) := pd_val pe_non fun _ _ => .non
theorem pd_str {x j pos} : PE X (.Constant (.str x) j pos) (tD X.K M E (wC (.str x))) := pd_val pe_str fun _ _ => .str x

/-! ### operators -/
/-- what an operation gives: a datum, perhaps a new object -/
def ROut (K : PySem.W.Frag) (O : Addr → Prop) (H H' : Hp) (u : V) : Rs → Prop
  | .val d => Nw H H' ∧ DAt K O H' u d
  | .new d => ∃ H1 p o, Nw H H1 ∧ H1 p = none ∧ H' = upd H1 p o ∧ u = .ref p ∧ Kids K O H1 o d
  | .slt _ => False
theorem ROut.at {K : PySem.W.Frag} {G : Gd} {om : Om} {ρ : Rho} {σ : St} {H H' : Hp} {u : V} {r : Rs} {O : Addr → Prop} (R : Rel K M G om ρ σ H) (hO : ∀ a, Own M G om a → O a) (h : ROut K O H H' u r) : Rel K M (G.hold u r) om ρ σ H' ∧ RsOk σ u r := by
  cases r with
  | val d => exact ⟨(R.nw h.1).pinned (h.2.stay (stay_sub hO)), trivial⟩
  | slt i => exact h.elim
  | new d =>
    obtain ⟨H1, p, o, n, hp, rfl, rfl, k⟩ := h
    exact ⟨(R.nw n).hidden hp (k.stay (stay_sub hO)), p, rfl⟩
/-- an operation on values does on data what op says -/
def OpD (K : PySem.W.Frag) (r : R2) (op : D → D → (Rs → Prop) → Prop) : Prop := ∀ (O : Addr → Prop) (H : Hp) (v w : V) (d e : D) (Q : VK) (k : Rs → Prop), (∀ p, H p = none → ¬ O p) → BAt K O H v d → BAt K O H w e → op d e k →
  (∀ H' u c, ROut K O H H' u c → k c → Q u H') → r v w H Q
def wOp (op : D → D → (Rs → Prop) → Prop) (wa wb : WE) : WE := fun ρ X Q => wa ρ X fun ra ρ1 => wb ρ1 X fun rb ρ2 => ∃ d e, ra.get ρ2 = some d ∧ rb.get ρ2 = some e ∧ op d e fun c => Q c ρ2
theorem op_all {K : PySem.W.Frag} {ta tb : TE} {wa wb : WE} {op : D → D → (Rs → Prop) → Prop} {r : R2} (hr : OpD K r op) (ha : ta = tD K M E wa) (hb : tb = tD K M E wb) : ∀ σ H Q, tD K M E (wOp op wa wb) σ H Q → tOp r ta tb σ H Q := by
  subst ha hb
  rintro σ H Q ⟨G, om, ρ, Xd, Qd, R, L, w, k⟩
  refine ⟨G, om, ρ, Xd, _, R, L, w, fun om1 ρ1 v H1 ra R1 h1 w1 => ?_⟩
  refine ⟨G.hold v ra, om1, ρ1, Xd, _, R1, L.hold, w1, fun om2 ρ2 u H2 rb R2 h2 w2 => ?_⟩
  obtain ⟨d, e, g1, g2, w2⟩ := w2
  have b1 := R2.getH (Held.self h1).hold h1 g1
  refine hr _ H2 v u d e Q _ (fun p hp => R2.fresh hp) b1 (R2.get h2 g2) w2 fun H3 x c hx q => ?_
  obtain ⟨R3, h3⟩ := ROut.at R2.unhold.unhold (fun a z => own_hold (own_hold z)) hx
  exact k om2 ρ2 x H3 c R3 h3 q
section
variable {a b : Expr} {pos : Pos} {wa wb : WE}
theorem pd_op {op : Operator} {r : R2} {o : D → D → (Rs → Prop) → Prop} (ho : OpR X (binaryOp op) r) (hr : OpD X.K r o) (ha : PE X a (tD X.K M E wa)) (hb : PE X b (tD X.K M E wb)) :
    PE X (.BinOp a op b pos) (tD X.K M E (wOp o wa wb)) := PE.weak (pe_op ho ha hb) (op_all hr rfl rfl)
theorem pd_cmp {op : CmpOp} {r : R2} {o : D → D → (Rs → Prop) → Prop} (ho : OpR X (compareOp op) r) (hr : OpD X.K r o) (ha : PE X a (tD X.K M E wa)) (hb : PE X b (tD X.K M E wb))
    (hm : behindInMarks op b = false := by first | exact nobehind _ (by decide) (by decide) | rfl) : PE X (.Compare a [op] [b] pos) (tD X.K M E (wOp o wa wb)) := PE.weak (pe_cmpR ho ha hb hm) (op_all hr rfl rfl)
theorem pd_ix {r : R2} {o : D → D → (Rs → Prop) → Prop} (ho : IxR X r) (hr : OpD X.K r o) (ha : PE X a (tD X.K M E wa)) (hb : PE X b (tD X.K M E wb)) (hs : PlainIx b := by exact fun _ _ => rfl) :
    PE X (.Subscript a b pos) (tD X.K M E (wOp o wa wb)) := PE.weak (pe_ix ho ha hb hs) (op_all hr rfl rfl)
end
/-- a one-place operation -/
def UnD (K : PySem.W.Frag) (r : V → Hp → VK → Prop) (op : D → (Rs → Prop) → Prop) : Prop := ∀ (O : Addr → Prop) (H : Hp) (v : V) (d : D) (Q : VK) (k : Rs → Prop), (∀ p, H p = none → ¬ O p) → BAt K O H v d → op d k →
  (∀ H' u c, ROut K O H H' u c → k c → Q u H') → r v H Q
def wUn (op : D → (Rs → Prop) → Prop) (wa : WE) : WE := fun ρ X Q => wa ρ X fun ra ρ1 => ∃ d, ra.get ρ1 = some d ∧ op d fun c => Q c ρ1
theorem un_all {K : PySem.W.Frag} {wa : WE} {op : D → (Rs → Prop) → Prop} {r : V → Hp → VK → Prop} (hr : UnD K r op) : ∀ σ H Q, tD K M E (wUn op wa) σ H Q → tD K M E wa σ H fun x H1 => r x H1 Q := by
  rintro σ H Q ⟨G, om, ρ, Xd, Qd, R, L, w, k⟩
  refine ⟨G, om, ρ, Xd, _, R, L, w, fun om1 ρ1 v H1 ra R1 h1 w1 => ?_⟩
  obtain ⟨d, g, w1⟩ := w1
  refine hr _ H1 v d Q _ (fun p hp => R1.fresh hp) (R1.get h1 g) w1 fun H3 x c hx q => ?_
  obtain ⟨R3, h3⟩ := ROut.at R1.unhold (fun a z => own_hold z) hx
  exact k om1 ρ1 x H3 c R3 h3 q
theorem pd_un {a : Expr} {pos : Pos} {op : UnaryOp} {wa : WE} {r : V → Hp → VK → Prop} {o : D → (Rs → Prop) → Prop} (ho : UnR X (unaryOp op) r) (hr : UnD X.K r o) (ha : PE X a (tD X.K M E wa)) : PE X (.UnaryOp op a pos) (tD X.K M E (wUn o wa)) :=
  PE.weak (pe_un ho ha) (un_all hr)

/-! ### tests -/
def wB (wa : WE) : WT := fun ρ X Q => wa ρ X fun r ρ1 => ∃ b, r.get ρ1 = some (.bl b) ∧ Q b ρ1
theorem BAt.bl {K : PySem.W.Frag} {O : Addr → Prop} {H : Hp} {v : V} {b : Bool} (h : BAt K O H v (.bl b)) : v = .bl b := by
  rcases h with h | ⟨p, e, _, o, _, h⟩
  · cases h; rfl
  · cases o <;> exact h.elim
theorem BAt.int {K : PySem.W.Frag} {O : Addr → Prop} {H : Hp} {v : V} {b : Int} (h : BAt K O H v (.int b)) : v = .int b := by
  rcases h with h | ⟨p, e, _, o, _, h⟩
  · cases h; rfl
  · cases o <;> exact h.elim
theorem BAt.str {K : PySem.W.Frag} {O : Addr → Prop} {H : Hp} {v : V} {b : Str} (h : BAt K O H v (.str b)) : v = .str b := by
  rcases h with h | ⟨p, e, _, o, _, h⟩
  · cases h; rfl
  · cases o <;> exact h.elim
theorem BAt.non {K : PySem.W.Frag} {O : Addr → Prop} {H : Hp} {v : V} (h : BAt K O H v .non) : v = .non := by
  rcases h with h | ⟨p, e, _, o, _, h⟩
  · cases h; rfl
  · cases o <;> exact h.elim
theorem BAt.tup {K : PySem.W.Frag} {O : Addr → Prop} {H : Hp} {v : V} {ds : List D} (h : BAt K O H v (.tup ds)) : DAt K O H v (.tup ds) := by
  rcases h with h | ⟨p, e, _, o, _, h⟩
  · exact h
  · cases o <;> exact h.elim
theorem BAt.lst {K : PySem.W.Frag} {O : Addr → Prop} {H : Hp} {v : V} {ds : List D} (h : BAt K O H v (.lst ds)) : ∃ a xs, v = .ref a ∧ H a = some (.lst xs) ∧ DAll K O H xs ds := by
  rcases h with h | ⟨p, e, _, o, ho, h⟩
  · obtain ⟨a, xs, e, _, h, t⟩ := h.lst'
    exact ⟨a, xs, e, h, t⟩
  · cases o with
    | lst xs => exact ⟨p, xs, e, ho, h⟩
    | _ => exact h.elim
theorem pd_t {e : Expr} {wa : WE} (h : PE X e (tD X.K M E wa)) (he : ∀ whole, isTrue e X.env whole = (do let v ← whole; standAt e.pos; holding [v] (truthy v)) := by intro _; rfl) : PT X e (tDT X.K M E (wB wa)) :=
  PT.weak (pt_val h he) fun σ H Q ⟨G, om, ρ, Xd, Qd, R, L, w, k⟩ => ⟨G, om, ρ, Xd, _, R, L, w, fun om1 ρ1 v H1 r R1 h1 ⟨b, g, w1⟩ => ⟨b, (R1.get h1 g).bl, k om1 ρ1 b H1 R1.unhold w1⟩⟩
theorem pd_tcmp {a b : Expr} {pos : Pos} {op : CmpOp} {wa wb : WE} {r : R2} {o : D → D → (Rs → Prop) → Prop} (ho : OpR X (compareOp op) r) (hr : OpD X.K r o) (ha : PE X a (tD X.K M E wa)) (hb : PE X b (tD X.K M E wb))
    (hm : behindInMarks op b = false := by first | exact nobehind _ (by decide) (by decide) | rfl) : PT X (.Compare a [op] [b] pos) (tDT X.K M E (wB (wOp o wa wb))) :=
  PT.weak (pt_cmpR ho ha hb hm) fun σ H Q ⟨G, om, ρ, Xd, Qd, R, L, w, k⟩ => op_all (M := M) (E := E) hr rfl rfl σ H _ ⟨G, om, ρ, Xd, _, R, L, w, fun om1 ρ1 v H1 r R1 h1 ⟨b, g, w1⟩ => ⟨b, (R1.get h1 g).bl, k om1 ρ1 b H1 R1.unhold w1⟩⟩
def wAnd (t u : WT) : WT := fun ρ X Q => t ρ X fun b ρ1 => if b = true then u ρ1 X Q else Q false ρ1
def wOr (t u : WT) : WT := fun ρ X Q => t ρ X fun b ρ1 => if b = true then Q true ρ1 else u ρ1 X Q
def wNot (t : WT) : WT := fun ρ X Q => t ρ X fun b ρ1 => Q (!b) ρ1
theorem and_all {K : PySem.W.Frag} {t u : WT} : ∀ σ H Q, tDT K M E (wAnd t u) σ H Q → tAnd (tDT K M E t) (tDT K M E u) σ H Q := by
  rintro σ H Q ⟨G, om, ρ, Xd, Qd, R, L, w, k⟩
  refine ⟨G, om, ρ, Xd, _, R, L, w, fun om1 ρ1 b H1 R1 w1 => ?_⟩
  cases b with
  | true => exact ⟨G, om1, ρ1, Xd, Qd, R1, L, w1, k⟩
  | false => exact k om1 ρ1 false H1 R1 w1
theorem or_all {K : PySem.W.Frag} {t u : WT} : ∀ σ H Q, tDT K M E (wOr t u) σ H Q → tOr (tDT K M E t) (tDT K M E u) σ H Q := by
  rintro σ H Q ⟨G, om, ρ, Xd, Qd, R, L, w, k⟩
  refine ⟨G, om, ρ, Xd, _, R, L, w, fun om1 ρ1 b H1 R1 w1 => ?_⟩
  cases b with
  | true => exact k om1 ρ1 true H1 R1 w1
  | false => exact ⟨G, om1, ρ1, Xd, Qd, R1, L, w1, k⟩
section
variable {a b : Expr} {rest : List Expr} {pos : Pos} {t u : WT}
theorem pd_and1 (ha : PT X a (tDT X.K M E t)) : PW X (.BoolOp .And [a] pos) (tDT X.K M E t) := pw_and1 ha
theorem pd_or1 (ha : PT X a (tDT X.K M E t)) : PW X (.BoolOp .Or [a] pos) (tDT X.K M E t) := pw_or1 ha
theorem pd_and (ha : PT X a (tDT X.K M E t)) (hb : PW X (.BoolOp .And (b :: rest) pos) (tDT X.K M E u)) : PW X (.BoolOp .And (a :: b :: rest) pos) (tDT X.K M E (wAnd t u)) := PW.weak (pw_and ha hb) and_all
theorem pd_or (ha : PT X a (tDT X.K M E t)) (hb : PW X (.BoolOp .Or (b :: rest) pos) (tDT X.K M E u)) : PW X (.BoolOp .Or (a :: b :: rest) pos) (tDT X.K M E (wOr t u)) := PW.weak (pw_or ha hb) or_all
theorem pd_not (ha : PT X a (tDT X.K M E t)) : PT X (.UnaryOp .Not a pos) (tDT X.K M E (wNot t)) :=
  PT.weak (pt_not ha) fun σ H Q ⟨G, om, ρ, Xd, Qd, R, L, w, k⟩ => ⟨G, om, ρ, Xd, _, R, L, w, fun om1 ρ1 b H1 R1 w1 => k om1 ρ1 (!b) H1 R1 w1⟩
end
/-! ### and, or, not, if as values -/
def wAndV (wa wb : WE) : WE := fun ρ X Q => wa ρ X fun r ρ1 => ∃ b, r.get ρ1 = some (.bl b) ∧ if b = true then wb ρ1 X Q else Q (.val (.bl false)) ρ1
def wOrV (wa wb : WE) : WE := fun ρ X Q => wa ρ X fun r ρ1 => ∃ b, r.get ρ1 = some (.bl b) ∧ if b = true then Q (.val (.bl true)) ρ1 else wb ρ1 X Q
def wNotV (wa : WE) : WE := fun ρ X Q => wa ρ X fun r ρ1 => ∃ b, r.get ρ1 = some (.bl b) ∧ Q (.val (.bl (!b))) ρ1
def wIf (t : WT) (wa wb : WE) : WE := fun ρ X Q => t ρ X fun b ρ1 => if b = true then wa ρ1 X Q else wb ρ1 X Q
section
variable {a b c : Expr} {rest : List Expr} {pos : Pos} {wa wb : WE} {t : WT}
theorem pd_oneV {op} (h : PE X a (tD X.K M E wa)) : PE X (.BoolOp op [a] pos) (tD X.K M E wa) := pe_one h
theorem pd_andV (ha : PE X a (tD X.K M E wa)) (hb : PE X (.BoolOp .And (b :: rest) pos) (tD X.K M E wb)) : PE X (.BoolOp .And (a :: b :: rest) pos) (tD X.K M E (wAndV wa wb)) :=
  PE.weak (pe_and ha hb) fun σ H Q ⟨G, om, ρ, Xd, Qd, R, L, w, k⟩ => ⟨G, om, ρ, Xd, _, R, L, w, fun om1 ρ1 v H1 r R1 h1 ⟨b, g, w1⟩ => ⟨b, (R1.get h1 g).bl, by
    cases b with
    | true => exact ⟨G, om1, ρ1, Xd, Qd, R1.unhold, L, w1, k⟩
    | false => exact k om1 ρ1 _ H1 (.val (.bl false)) (R1.unhold.pinned (.bl false)) trivial w1⟩⟩
theorem pd_orV (ha : PE X a (tD X.K M E wa)) (hb : PE X (.BoolOp .Or (b :: rest) pos) (tD X.K M E wb)) : PE X (.BoolOp .Or (a :: b :: rest) pos) (tD X.K M E (wOrV wa wb)) :=
  PE.weak (pe_or ha hb) fun σ H Q ⟨G, om, ρ, Xd, Qd, R, L, w, k⟩ => ⟨G, om, ρ, Xd, _, R, L, w, fun om1 ρ1 v H1 r R1 h1 ⟨b, g, w1⟩ => ⟨b, (R1.get h1 g).bl, by
    cases b with
    | true => exact k om1 ρ1 _ H1 (.val (.bl true)) (R1.unhold.pinned (.bl true)) trivial w1
    | false => exact ⟨G, om1, ρ1, Xd, Qd, R1.unhold, L, w1, k⟩⟩⟩
theorem pd_notV (ha : PE X a (tD X.K M E wa)) : PE X (.UnaryOp .Not a pos) (tD X.K M E (wNotV wa)) :=
  PE.weak (pe_not ha) fun σ H Q ⟨G, om, ρ, Xd, Qd, R, L, w, k⟩ => ⟨G, om, ρ, Xd, _, R, L, w, fun om1 ρ1 v H1 r R1 h1 ⟨b, g, w1⟩ => ⟨b, (R1.get h1 g).bl, k om1 ρ1 _ H1 (.val (.bl !b)) (R1.unhold.pinned (.bl _)) trivial w1⟩⟩
theorem pd_if (hc : PT X c (tDT X.K M E t)) (ha : PE X a (tD X.K M E wa)) (hb : PE X b (tD X.K M E wb)) : PE X (.IfExp c a b pos) (tD X.K M E (wIf t wa wb)) :=
  PE.weak (pe_ifExp hc ha hb) fun σ H Q ⟨G, om, ρ, Xd, Qd, R, L, w, k⟩ => ⟨G, om, ρ, Xd, _, R, L, w, fun om1 ρ1 b H1 R1 w1 => by
    cases b with
    | true => exact ⟨G, om1, ρ1, Xd, Qd, R1, L, w1, k⟩
    | false => exact ⟨G, om1, ρ1, Xd, Qd, R1, L, w1, k⟩⟩
end

/-! ### lists of expressions -/
def waNil : WA := fun ρ _ Q => Q [] ρ
def waCons (we : WE) (wr : WA) : WA := fun ρ X Q => we ρ X fun r ρ1 => wr ρ1 X fun rs ρ2 => Q (r :: rs) ρ2
theorem pd_anil : PA X [] (tDA X.K M E waNil) := PA.weak pa_nil fun σ H Q ⟨G, om, ρ, Xd, Qd, R, L, w, k⟩ => k om ρ [] H [] R .nil w
theorem pd_acons {e : Expr} {es : List Expr} {we : WE} {wr : WA} (he : PE X e (tD X.K M E we)) (hr : PA X es (tDA X.K M E wr)) (hs : starEach (e :: es) X.env = (false, eval e X.env) :: starEach es X.env := by rfl) :
    PA X (e :: es) (tDA X.K M E (waCons we wr)) := PA.weak (pa_cons he hr hs) fun σ H Q ⟨G, om, ρ, Xd, Qd, R, L, w, k⟩ => ⟨G, om, ρ, Xd, _, R, L, w, fun om1 ρ1 v H1 r R1 h1 w1 =>
      ⟨G.hold v r, om1, ρ1, Xd, _, R1, L.hold, w1, fun om2 ρ2 vs H2 rs R2 h2 w2 => k om2 ρ2 (v :: vs) H2 (r :: rs) R2 (.cons h1 h2) w2⟩⟩
/-- all of them let go -/
def lets (ρ : Rho) : List Rs → Option (List D × Rho)
  | [] => some ([], ρ)
  | r :: rs => (lets ρ rs).bind fun p => (r.out p.2).map fun q => (q.1 :: p.1, q.2)
def pinsOf : List V → List D → List (V × D)
  | v :: vs, d :: ds => (v, d) :: pinsOf vs ds
  | _, _ => []
def Gd.pinl (G : Gd) (vs : List V) (ds : List D) : Gd := ⟨G.H0, pinsOf vs ds ++ G.pins, G.hid⟩
section
variable {K : PySem.W.Frag} {G : Gd} {om om' : Om} {ρ ρ' : Rho} {σ : St} {H H' : Hp} {v : V} {r : Rs} {vs : List V} {ds : List D}
theorem Rel.pinsub {G' : Gd} (R : Rel K M G om ρ σ H) (h0 : G'.H0 = G.H0) (h1 : ∀ q ∈ G'.pins, q ∈ G.pins) (h2 : G'.hid = G.hid) : Rel K M G' om ρ σ H := by
  obtain ⟨H0, ps, hd⟩ := G
  obtain ⟨H0', ps', hd'⟩ := G'
  cases h0
  cases h2
  exact ⟨R.slot, R.inj, R.own, R.base, R.mi, fun q hq => R.pin q (h1 q hq), R.hid, R.hnd, R.len⟩
theorem mem_pinsOf {K : PySem.W.Frag} {O : Addr → Prop} {H : Hp} : ∀ {vs : List V} {ds : List D}, DAll K O H vs ds → ∀ q ∈ pinsOf vs ds, DAt K O H q.1 q.2
  | _, _, .nil, _, h => nomatch h
  | _, _, .cons a t, q, h => by
    rcases List.mem_cons.mp h with e | h
    · subst e; exact a
    · exact mem_pinsOf t q h
theorem of_pinsOf {K : PySem.W.Frag} {O O' : Addr → Prop} {H H' : Hp} : ∀ {vs : List V} {ds : List D}, DAll K O H vs ds → (∀ q ∈ pinsOf vs ds, DAt K O' H' q.1 q.2) → DAll K O' H' vs ds
  | _, _, .nil, _ => .nil
  | _, _, .cons a t, h => .cons (h _ List.mem_cons_self) (of_pinsOf t fun q m => h q (List.mem_cons_of_mem _ m))
theorem Rel.pinAll (R : Rel K M G om ρ σ H) (h : DAll K (Own M G om) H vs ds) : Rel K M (G.pinl vs ds) om ρ σ H :=
  ⟨R.slot, R.inj, R.own, R.base, R.mi, fun q hq => (List.mem_append.mp hq).elim (mem_pinsOf h q) (R.pin q), R.hid, R.hnd, R.len⟩
theorem Rel.unpinAll {O : Addr → Prop} {H0 : Hp} (R : Rel K M (G.pinl vs ds) om ρ σ H) (h : DAll K O H0 vs ds) : Rel K M G om ρ σ H ∧ DAll K (Own M G om) H vs ds :=
  ⟨R.pinsub rfl (fun q hq => List.mem_append_right _ hq) rfl, of_pinsOf h fun q hq => R.pin q (List.mem_append_left _ hq)⟩
theorem Rel.swap (R : Rel K M ((G.hold v r).pinl vs ds) om ρ σ H) : Rel K M ((G.pinl vs ds).hold v r) om ρ σ H := by
  cases r with
  | val d =>
    refine R.pinsub rfl (fun q hq => ?_) rfl
    rcases List.mem_cons.mp hq with e | hq
    · exact List.mem_append_right _ (List.mem_cons.mpr (.inl e))
    · rcases List.mem_append.mp hq with hq | hq
      · exact List.mem_append_left _ hq
      · exact List.mem_append_right _ (List.mem_cons_of_mem _ hq)
  | slt i => exact R
  | new d => cases v <;> exact R
theorem Rel.lets : ∀ {rs : List Rs} {vs : List V} {G : Gd} {om : Om} {ρ ρ' : Rho} {ds : List D}, Rel K M (G.holds vs rs) om ρ σ H → RsOks σ vs rs → Dl.lets ρ rs = some (ds, ρ') →
    ∃ om', (∀ j p, om' j = some p → om j = some p) ∧ DAll K (Own M G om') H vs ds ∧ Rel K M G om' ρ' σ H
  | [], _, G, om, ρ, _, _, R, .nil, g => by
    cases g
    exact ⟨om, fun _ _ z => z, .nil, R⟩
  | r :: rs, vs0, G, om, ρ, ρ', ds, R, h0, g => by
    cases h0 with
    | cons h t =>
      rename_i v vs
      unfold Dl.lets at g
      obtain ⟨⟨ds1, ρ1⟩, g1, g⟩ := Option.bind_eq_some_iff.mp g
      obtain ⟨⟨d2, ρ2⟩, g2, g⟩ := Option.map_eq_some_iff.mp g
      cases g
      obtain ⟨om1, s1, h1, R1⟩ := Rel.lets (G := G.hold v r) R t g1
      obtain ⟨om2, s2, h2, R2⟩ := Rel.out (Rel.swap (R1.pinAll h1)) h g2
      obtain ⟨R3, h3⟩ := R2.unpinAll h1
      exact ⟨om2, fun j p z => s1 j p (s2 j p z), .cons h2 h3, R3⟩
end
def wTup (wa : WA) : WE := fun ρ X Q => wa ρ X fun rs ρ1 => rs.length ≤ 1000 ∧ ∃ ds ρ2, lets ρ1 rs = some (ds, ρ2) ∧ Q (.val (.tup ds)) ρ2
def wLst (wa : WA) : WE := fun ρ X Q => wa ρ X fun rs ρ1 => rs.length ≤ 1000 ∧ ∃ ds ρ2, lets ρ1 rs = some (ds, ρ2) ∧ Q (.new (.lst ds)) ρ2
theorem le1000 {n : Nat} (h : n ≤ 1000) : n ≤ sizeLine := by rw [sizeLine_eq]; omega
theorem pd_tup {es : List Expr} {pos : Pos} {x1} {wa : WA} (h : PA X es (tDA X.K M E wa)) : PE X (.Tuple es x1 pos) (tD X.K M E (wTup wa)) := by
  refine PE.weak (pe_tup h) fun σ H Q ⟨G, om, ρ, Xd, Qd, R, L, w, k⟩ => ⟨G, om, ρ, Xd, _, R, L, w, fun om1 ρ1 vs H1 rs R1 h1 ⟨hz, ds, ρ2, g, w1⟩ => ?_⟩
  obtain ⟨om2, s2, hd, R2⟩ := R1.lets h1 g
  refine ⟨by rw [h1.length]; exact le1000 hz, fun p hp => k om2 ρ2 _ _ (.val (.tup ds)) ((R2.new hp).pinned (.tup (R2.fresh hp) upd_same (hd.stay (stay_new hp)))) trivial w1⟩
theorem pd_lst {es : List Expr} {pos : Pos} {wa : WA} (h : PA X es (tDA X.K M E wa)) : PE X (.List es pos) (tD X.K M E (wLst wa)) := by
  refine PE.weak (pe_lst h) fun σ H Q ⟨G, om, ρ, Xd, Qd, R, L, w, k⟩ => ⟨G, om, ρ, Xd, _, R, L, w, fun om1 ρ1 vs H1 rs R1 h1 ⟨hz, ds, ρ2, g, w1⟩ => ?_⟩
  obtain ⟨om2, s2, hd, R2⟩ := R1.lets h1 g
  refine ⟨by rw [h1.length]; exact le1000 hz, fun p hp => k om2 ρ2 (.ref p) _ (.new (.lst ds)) (R2.hidden hp hd) ⟨p, rfl⟩ w1⟩
end

/-! ### statements -/
section
variable {X : Cx} {M : MC} {E : WX}
def wsNext : WS := fun ρ _ D => D.nx ρ
def wsSeq (a b : WS) : WS := fun ρ X D => a ρ X { D with nx := fun ρ1 => b ρ1 X D }
theorem pd_nil : PSs X [] (tDS X.K M E wsNext) := PSs.weak pss_nil fun D σ H ⟨G, om, ρ, Xd, Qd, R, L, w, k, _⟩ => k om ρ σ H R w
theorem pd_cons {st : Stmt} {rest : List Stmt} {a b : WS} (h1 : PS X st (tDS X.K M E a)) (h2 : PSs X rest (tDS X.K M E b)) : PSs X (st :: rest) (tDS X.K M E (wsSeq a b)) :=
  PSs.weak (pss_cons h1 h2) fun D σ H ⟨G, om, ρ, Xd, Qd, R, L, w, k1, k2, k3, k4⟩ => ⟨G, om, ρ, Xd, _, R, L, w, fun om1 ρ1 σ1 H1 R1 w1 => ⟨G, om1, ρ1, Xd, Qd, R1, L, w1, k1, k2, k3, k4⟩, k2, k3, k4⟩
theorem pd_last {st : Stmt} {a : WS} (h1 : PS X st (tDS X.K M E a)) : PSs X [st] (tDS X.K M E a) := pss_one h1
theorem pd_pass {pos : Pos} : PS X (.Pass pos) (tDS X.K M E wsNext) := PS.weak ps_pass fun D σ H ⟨G, om, ρ, Xd, Qd, R, L, w, k, _⟩ => k om ρ σ H R w
def wsBrk : WS := fun ρ _ D => D.bk ρ
def wsCont : WS := fun ρ _ D => D.ct ρ
theorem pd_break {pos : Pos} : PS X (.Break pos) (tDS X.K M E wsBrk) := PS.weak ps_break fun D σ H ⟨G, om, ρ, Xd, Qd, R, L, w, _, _, k, _⟩ => k om ρ σ H R w
theorem pd_continue {pos : Pos} : PS X (.Continue pos) (tDS X.K M E wsCont) := PS.weak ps_continue fun D σ H ⟨G, om, ρ, Xd, Qd, R, L, w, _, _, _, k⟩ => k om ρ σ H R w
/-- what is told: a slot's own thing goes with it -/
def Rs.giv (ρ : Rho) : Rs → Option Rs
  | .val d => some (.val d)
  | .new d => some (.new d)
  | .slt i => match ρ[i]? with
    | some (some (.sh d)) => some (.val d)
    | some (some (.ow d)) => some (.new d)
    | _ => none
theorem Rel.give {K : PySem.W.Frag} {G : Gd} {om : Om} {ρ : Rho} {σ : St} {H : Hp} {v : V} {r r' : Rs} (R : Rel K M (G.hold v r) om ρ σ H) (h : RsOk σ v r) (g : r.giv ρ = some r') :
    ∃ om' ρ', Rel K M (G.hold v r') om' ρ' σ H ∧ RsOk σ v r' := by
  cases r with
  | val d => cases g; exact ⟨om, ρ, R, h⟩
  | new d => cases g; exact ⟨om, ρ, R, h⟩
  | slt i =>
    have R : Rel K M G om ρ σ H := R
    have h : σ[i]? = some (some v) := h
    dsimp only [Rs.giv] at g
    split at g
    · rename_i d e
      cases g
      obtain ⟨w, h1, h2⟩ := R.slot i _ e
      rw [h] at h1; cases h1
      exact ⟨om, ρ, R.pinned h2, trivial⟩
    · rename_i d e
      cases g
      obtain ⟨p, h1, h2, h3⟩ := R.slot i _ e
      rw [h] at h2; cases h2
      exact ⟨_, _, R.gives h1, p, rfl⟩
    · cases g
def wsRet (we : WE) : WS := fun ρ X D => we ρ X fun r ρ1 => ∃ r', r.giv ρ1 = some r' ∧ D.rt r'
theorem pd_ret {e : Expr} {pos : Pos} {we : WE} (h : PE X e (tD X.K M E we)) : PS X (.Return (some e) pos) (tDS X.K M E (wsRet we)) :=
  PS.weak (ps_ret h) fun D σ H ⟨G, om, ρ, Xd, Qd, R, L, w, k1, k2, _⟩ => ⟨G, om, ρ, Xd, _, R, L, w, fun om1 ρ1 v H1 r R1 h1 ⟨r', g, w1⟩ => by
    obtain ⟨om2, ρ2, R2, h2⟩ := R1.give h1 g
    exact k2 om2 ρ2 σ v H1 r' R2 h2 w1⟩
def wsRetN : WS := fun _ _ D => D.rt (.val .non)
theorem pd_retN {pos : Pos} : PS X (.Return none pos) (tDS X.K M E wsRetN) := PS.weak ps_retN fun D σ H ⟨G, om, ρ, Xd, Qd, R, L, w, _, k, _⟩ => k om ρ σ .non H (.val .non) (R.pinned .non) trivial w
def wsDrop (we : WE) : WS := fun ρ X D => we ρ X fun _ ρ1 => D.nx ρ1
theorem pd_expr {e : Expr} {pos : Pos} {we : WE} (h : PE X e (tD X.K M E we)) (hs : swapsWith e none pos.line X.env = pure false := by rfl) : PS X (.Expr e pos) (tDS X.K M E (wsDrop we)) :=
  PS.weak (ps_expr h hs) fun D σ H ⟨G, om, ρ, Xd, Qd, R, L, w, k1, _⟩ => ⟨G, om, ρ, Xd, _, R, L, w, fun om1 ρ1 v H1 r R1 h1 w1 => k1 om1 ρ1 σ H1 R1.unhold w1⟩
def wsIf (t : WT) (a b : WS) : WS := fun ρ X D => t ρ X fun c ρ1 => if c = true then a ρ1 X D else b ρ1 X D
theorem pd_ifS {c : Expr} {p q : List Stmt} {pos : Pos} {t : WT} {a b : WS} (hc : PT X c (tDT X.K M E t)) (ha : PSs X p (tDS X.K M E a)) (hb : PSs X q (tDS X.K M E b)) : PS X (.If c p q pos) (tDS X.K M E (wsIf t a b)) :=
  PS.weak (ps_if hc ha hb) fun D σ H ⟨G, om, ρ, Xd, Qd, R, L, w, k1, k2, k3, k4⟩ => ⟨G, om, ρ, Xd, _, R, L, w, fun om1 ρ1 b H1 R1 w1 => by
    cases b with
    | true => exact ⟨G, om1, ρ1, Xd, Qd, R1, L, w1, k1, k2, k3, k4⟩
    | false => exact ⟨G, om1, ρ1, Xd, Qd, R1, L, w1, k1, k2, k3, k4⟩⟩

/-! ### targets -/
/-- no other slots were set -/
def Same (S : List Nat) (σ σ' : St) : Prop := σ'.length = σ.length ∧ ∀ i, i ∉ S → σ'[i]? = σ[i]?
abbrev WG := D → Rho → (Rho → Prop) → Prop
/-- a target; S: the slots that it sets -/
def tDG (K : PySem.W.Frag) (M : MC) (S : List Nat) (g : WG) : TG := fun v σ H Q => ∃ G om ρ d Qd, Rel K M G om ρ σ H ∧ DAt K (Own M G om) H v d ∧ g d ρ Qd ∧ ∀ om' ρ' σ', Rel K M G om' ρ' σ' H → Same S σ σ' → Qd ρ' → Q σ' H
abbrev WGs := List D → Rho → (Rho → Prop) → Prop
def tDGs (K : PySem.W.Frag) (M : MC) (S : List Nat) (g : WGs) : TGs := fun vs σ H Q => ∃ G om ρ ds Qd, Rel K M G om ρ σ H ∧ DAll K (Own M G om) H vs ds ∧ g ds ρ Qd ∧ ∀ om' ρ' σ', Rel K M G om' ρ' σ' H → Same S σ σ' → Qd ρ' → Q σ' H
def wgName (i : Nat) : WG := fun d ρ Q => Q (ρ.set i (some (.sh d)))
def wgNil : WGs := fun ds ρ Q => ds = [] ∧ Q ρ
def wgCons (g : WG) (gs : WGs) : WGs := fun ds ρ Q => ∃ d r, ds = d :: r ∧ g d ρ fun ρ1 => gs r ρ1 Q
def wgTup (n : Nat) (gs : WGs) : WG := fun d ρ Q => ∃ ds, d = .tup ds ∧ ds.length = n ∧ gs ds ρ Q
theorem PG.weak {e : Expr} {t t' : TG} (h : PG X e t) (w : ∀ v σ H Q, t' v σ H Q → t v σ H Q) : PG X e t' := ⟨fun pins s σ H x u Q I r q => h.run pins s σ H x u Q I r (w _ _ _ _ q)⟩
theorem PGs.weak {e : List Expr} {t t' : TGs} (h : PGs X e t) (w : ∀ v σ H Q, t' v σ H Q → t v σ H Q) : PGs X e t' := ⟨fun pins s σ H xs us Q I r q => h.run pins s σ H xs us Q I r (w _ _ _ _ q)⟩
theorem pd_gname {x : Str} {pos : Pos} (i : Nat) (hN : X.N.Nodup) (hi : X.N[i]? = some x := by rfl) (hx : Loc X.env.scope x := by first | exact Or.inl rfl | exact Or.inr rfl) (hf : X.fn x = true ∨ X.env.scope.names.lookup x = some .local := by first | exact .inl rfl | exact .inr rfl) :
    PG X (.Name x pos) (tDG X.K M [i] (wgName i)) := PG.weak (pg_name hN hi hx hf) fun v σ H Q ⟨G, om, ρ, d, Qd, R, hd, w, k⟩ => k _ _ _ (R.set hd) ⟨List.length_set .., fun j hj => List.getElem?_set_ne fun e => hj (List.mem_singleton.mpr e.symm)⟩ w
theorem pd_gnil : PGs X [] (tDGs X.K M [] wgNil) := PGs.weak pgs_nil fun vs σ H Q ⟨G, om, ρ, ds, Qd, R, hd, ⟨e, w⟩, k⟩ => by
  subst e
  cases hd
  exact ⟨rfl, k om ρ σ R ⟨rfl, fun _ _ => rfl⟩ w⟩
theorem pd_gcons {e : Expr} {es : List Expr} {S T : List Nat} {g : WG} {gs : WGs} (h1 : PG X e (tDG X.K M S g)) (h2 : PGs X es (tDGs X.K M T gs)) (hs : (assignEach (e :: es) X.env).map (·.2) = assign e X.env :: (assignEach es X.env).map (·.2) := by rfl) :
    PGs X (e :: es) (tDGs X.K M (S ++ T) (wgCons g gs)) := by
  refine PGs.weak (pgs_cons h1 h2 hs) fun vs σ H Q ⟨G, om, ρ, ds, Qd, R, hd, ⟨d, r, e, w⟩, k⟩ => ?_
  subst e
  cases hd with
  | cons a t =>
    refine ⟨_, _, rfl, G.pinl _ r, om, ρ, d, _, R.pinAll t, a, w, fun om1 ρ1 σ1 R1 s1 w1 => ?_⟩
    obtain ⟨R2, t2⟩ := R1.unpinAll t
    exact ⟨G, om1, ρ1, r, Qd, R2, t2, w1, fun om2 ρ2 σ2 R3 s2 w2 => k om2 ρ2 σ2 R3 ⟨s2.1.trans s1.1, fun i hi => (s2.2 i fun z => hi (List.mem_append_right _ z)).trans (s1.2 i fun z => hi (List.mem_append_left _ z))⟩ w2⟩
theorem pd_gtup {es : List Expr} {k : Nat} {pos : Pos} {S : List Nat} {gs : WGs} (n : Nat) (hc : X.calm = true) (h : PGs X es (tDGs X.K M S gs)) (hn : (assignEach es X.env).length = n := by rfl) (hst : (assignEach es X.env).findIdx? (·.1) = none := by rfl) :
    PG X (.Tuple es k pos) (tDG X.K M S (wgTup n gs)) := by
  refine PG.weak (pg_tup hc h hn hst) fun v σ H Q ⟨G, om, ρ, d, Qd, R, hd, ⟨ds, e, hl, w⟩, k⟩ => ?_
  subst e
  obtain ⟨a, xs, rfl, hq, t⟩ := hd.sqT
  exact ⟨a, xs, rfl, hq, t.length.trans hl, G, om, ρ, ds, Qd, R, t, w, k⟩
/-- name = e -/
def wsSet (i : Nat) (we : WE) : WS := fun ρ X D => we ρ X fun r ρ1 => match r with
  | .new d => D.nx (ρ1.set i (some (.ow d)))
  | .val d => D.nx (ρ1.set i (some (.sh d)))
  | .slt j => ∃ d ρ2, Rs.out ρ1 (.slt j) = some (d, ρ2) ∧ D.nx (ρ2.set i (some (.sh d)))
theorem pd_set {x : Str} {e : Expr} {pos pos' : Pos} {we : WE} (i : Nat) (hN : X.N.Nodup) (he : PE X e (tD X.K M E we)) (hi : X.N[i]? = some x := by rfl) (hx : Loc X.env.scope x := by first | exact Or.inl rfl | exact Or.inr rfl)
    (hs : swapsWith e (some (.Name x pos')) pos.line X.env = pure false := by rfl) (hf : X.fn x = true ∨ X.env.scope.names.lookup x = some .local := by first | exact .inl rfl | exact .inr rfl) : PS X (.Assign [.Name x pos'] e pos) (tDS X.K M E (wsSet i we)) :=
  PS.weak (ps_set hN hi hx he hs hf) fun D σ H ⟨G, om, ρ, Xd, Qd, R, L, w, k1, _⟩ => ⟨G, om, ρ, Xd, _, R, L, w, fun om1 ρ1 v H1 r R1 h1 w1 => by
    cases r with
    | val d =>
      obtain ⟨R2, hd⟩ := Rel.unpin R1
      exact k1 _ _ _ _ (R2.set hd) w1
    | new d =>
      obtain ⟨p, rfl⟩ := h1
      exact k1 _ _ _ _ (Rel.setOwn R1) w1
    | slt j =>
      obtain ⟨d, ρ2, g, w1⟩ := w1
      obtain ⟨om2, s2, hd, R2⟩ := R1.out h1 g
      exact k1 _ _ _ _ (R2.set hd) w1⟩
/-- target = e -/
def wsAsg (we : WE) (g : WG) : WS := fun ρ X D => we ρ X fun r ρ1 => ∃ d ρ2, r.out ρ1 = some (d, ρ2) ∧ g d ρ2 D.nx
theorem pd_asg {tg e : Expr} {pos : Pos} {we : WE} {S : List Nat} {g : WG} (he : PE X e (tD X.K M E we)) (hg : PG X tg (tDG X.K M S g)) (hs : swapsWithSole [tg] e pos.line X.env = pure false := by rfl) (hw : swappedStores [tg] e X.env = pure none := by rfl)
    (h1 : (assignEach [tg] X.env).map (·.2) = [assign tg X.env] := by rfl) : PS X (.Assign [tg] e pos) (tDS X.K M E (wsAsg we g)) :=
  PS.weak (ps_asg he hg hs hw h1) fun D σ H ⟨G, om, ρ, Xd, Qd, R, L, w, k1, _⟩ => ⟨G, om, ρ, Xd, _, R, L, w, fun om1 ρ1 v H1 r R1 h1 ⟨d, ρ2, gd, w1⟩ => by
    obtain ⟨om2, s2, hd, R2⟩ := R1.out h1 gd
    exact ⟨G, om2, ρ2, d, _, R2, hd, w1, fun om3 ρ3 σ3 R3 _ w3 => k1 om3 ρ3 σ3 H1 R3 w3⟩⟩
end
end Dl

set_option Elab.async false
set_option linter.all false
set_option maxRecDepth 100000
set_option maxHeartbeats 4000000
/-! DlC: operations on data. -/
namespace Dl
open PySem L2

section
variable {K : PySem.W.Frag} {O : Addr → Prop} {H : Hp} {v w : V} {d e : D}
theorem out_v {u : V} {c : D} (h : DAt K O H u c) : ROut K O H H u (.val c) := ⟨.refl, h⟩
theorem out_t {p : Addr} {xs : List V} {ds : List D} (hp : H p = none) (nO : ¬ O p) (h : DAll K O H xs ds) : ROut K O H (upd H p (.tup xs)) (.ref p) (.val (.tup ds)) := ⟨.one hp, .tup nO upd_same (h.stay (stay_new hp))⟩
theorem out_l {p : Addr} {xs : List V} {ds : List D} (hp : H p = none) (h : DAll K O H xs ds) : ROut K O H (upd H p (.lst xs)) (.ref p) (.new (.lst ds)) := ⟨H, p, _, .refl, hp, rfl, rfl, h⟩
/-- read as a list -/
theorem BAt.seqL {ds : List D} (h : BAt K O H v (.lst ds)) : ∃ a xs, v = .ref a ∧ SqL K H a xs ∧ DAll K O H xs ds := by
  obtain ⟨a, xs, e, h, t⟩ := h.lst
  exact ⟨a, xs, e, SqL.of h, t⟩
theorem BAt.seqF {ds : List D} (h : BAt K O H v (.fls ds)) : ∃ a xs, v = .ref a ∧ SqL K H a xs ∧ DAll K O H xs ds := by
  rcases h with h | ⟨p, e, _, o, ho, h⟩
  · exact h.fls'
  · cases o <;> exact h.elim
theorem BAt.seqT {ds : List D} (h : BAt K O H v (.tup ds)) : ∃ a xs, v = .ref a ∧ SqT K H a xs ∧ DAll K O H xs ds := h.tup.sqT
theorem BAt.val {d : D} (h : BAt K O H v d) (hs : match d with | .lst _ => False | .dic _ _ => False | _ => True) : DAt K O H v d := by
  rcases h with h | ⟨p, e, _, o, ho, h⟩
  · exact h
  · cases o <;> cases d <;> first | exact h.elim | exact hs.elim
end

/-! ### sums, products -/
def oAdd (d e : D) (k : Rs → Prop) : Prop := match d, e with
  | .int i, .int j => k (.val (.int (i + j)))
  | .str x, .str y => x.length + y.length ≤ 16777216 ∧ k (.val (.str (x ++ y)))
  | .lst xs, .lst ys => xs.length + ys.length ≤ 16777216 ∧ k (.new (.lst (xs ++ ys)))
  | .tup xs, .tup ys => xs.length + ys.length ≤ 16777216 ∧ k (.val (.tup (xs ++ ys)))
  | _, _ => False
def rAddA (K : PySem.W.Frag) : R2 := fun x y H Q => (rI0 (fun i j => .int (i + j)) x y H Q ∨ (∃ i j, x = .str i ∧ y = .str j ∧ i.length + j.length ≤ sizeLine ∧ Q (.str (i ++ j)) H)) ∨ (rCat x y H Q ∨ rCatA K x y H Q)
theorem op_addA {X : Cx} : OpR X (binaryOp .Add) (rAddA X.K) := (op_add.or op_add_str).or (op_cat.or op_catA)
theorem od_add {K : PySem.W.Frag} : OpD K (rAddA K) oAdd := by
  intro O H v w d e Q k hf hv hw ho post
  cases d with
  | int i => cases e with
    | int j =>
      rw [hv.int, hw.int]
      exact .inl (.inl ⟨i, j, rfl, rfl, post _ _ _ (out_v (.int _)) ho⟩)
    | _ => exact ho.elim
  | str x => cases e with
    | str y =>
      rw [hv.str, hw.str]
      exact .inl (.inr ⟨x, y, rfl, rfl, by rw [sizeLine_eq]; exact ho.1, post _ _ _ (out_v (.str _)) ho.2⟩)
    | _ => exact ho.elim
  | lst xs => cases e with
    | lst ys =>
      obtain ⟨a, vs, rfl, h1, t1⟩ := hv.lst
      obtain ⟨b, ws, rfl, h2, t2⟩ := hw.lst
      exact .inr (.inl ⟨a, b, vs, ws, rfl, rfl, h1, h2, by rw [t1.length, t2.length, sizeLine_eq]; exact ho.1, fun p hp => post _ _ _ (out_l hp (t1.append t2)) ho.2⟩)
    | _ => exact ho.elim
  | tup xs => cases e with
    | tup ys =>
      obtain ⟨a, vs, rfl, h1, t1⟩ := hv.seqT
      obtain ⟨b, ws, rfl, h2, t2⟩ := hw.seqT
      refine .inr (.inr ⟨a, b, vs, ws, rfl, rfl, h1, h2, by rw [t1.length, t2.length, sizeLine_eq]; exact ho.1, fun z => ?_, fun _ z => ?_, fun _ _ p hp => post _ _ _ (out_t hp (hf p hp) (t1.append t2)) ho.2⟩)
      · subst z
        cases t1
        exact post _ _ _ (out_v hw.tup) ho.2
      · subst z
        cases t2
        exact post _ _ _ (out_v (by rw [List.append_nil]; exact hv.tup)) ho.2
    | _ => exact ho.elim
  | _ => exact ho.elim
def oInt2 (c : Int → Int → Prop) (f : Int → Int → Int) (d e : D) (k : Rs → Prop) : Prop := match d, e with
  | .int i, .int j => c i j ∧ k (.val (.int (f i j)))
  | _, _ => False
theorem od_int2 {K : PySem.W.Frag} {c : Int → Int → Prop} {f : Int → Int → Int} {r : R2} (hr : ∀ i j H Q, c i j → Q (.int (f i j)) H → r (.int i) (.int j) H Q) : OpD K r (oInt2 c f) := by
  intro O H v w d e Q k hf hv hw ho post
  cases d with
  | int i => cases e with
    | int j =>
      rw [hv.int, hw.int]
      exact hr i j H Q ho.1 (post _ _ _ (out_v (.int _)) ho.2)
    | _ => exact ho.elim
  | _ => exact ho.elim
def cTrue (_ _ : Int) : Prop := True
abbrev oSub := oInt2 cTrue fun i j => i - j
theorem od_sub {K : PySem.W.Frag} : OpD K (rI0 fun i j => .int (i - j)) oSub := od_int2 fun i j H Q _ q => ⟨i, j, rfl, rfl, q⟩
/-- one factor within 2 ^ 64, or both of less than a million bits -/
def cMul (i j : Int) : Prop := CMul i j ∨ CMulW i j
def oMul (d e : D) (k : Rs → Prop) : Prop := match d, e with
  | .int i, .int j => cMul i j ∧ k (.val (.int (i * j)))
  | .lst xs, .int j => (-1000000 ≤ j ∧ j ≤ 1000000) ∧ xs.length * j.toNat ≤ 16777216 ∧ k (.new (.lst (List.replicate j.toNat xs).flatten))
  | .tup xs, .int j => xs ≠ [] ∧ (2 ≤ j ∧ j ≤ 1000) ∧ xs.length ≤ 1000 ∧ k (.val (.tup (List.replicate j.toNat xs).flatten))
  | _, _ => False
def rMulA (K : PySem.W.Frag) : R2 := fun x y H Q => (rI CMul (fun i j => .int (i * j)) x y H Q ∨ rI CMulW (fun i j => .int (i * j)) x y H Q) ∨ (rRep x y H Q ∨ rRepT K x y H Q)
theorem op_mulA {X : Cx} : OpR X (binaryOp .Mult) (rMulA X.K) := (op_mul.or op_mulW).or (op_rep.or op_repT)
theorem od_mul {K : PySem.W.Frag} : OpD K (rMulA K) oMul := by
  intro O H v w d e Q k hf hv hw ho post
  cases d with
  | int i => cases e with
    | int j =>
      rw [hv.int, hw.int]
      have q := post _ _ _ (out_v (.int _)) ho.2
      rcases ho.1 with c | c
      · exact .inl (.inl ⟨i, j, rfl, rfl, c, q⟩)
      · exact .inl (.inr ⟨i, j, rfl, rfl, c, q⟩)
    | _ => exact ho.elim
  | lst xs => cases e with
    | int j =>
      obtain ⟨a, vs, rfl, h1, t1⟩ := hv.lst
      rw [hw.int]
      exact .inr (.inl ⟨a, j, vs, rfl, rfl, h1, by have := ho.1.1; omega, by have := ho.1.2; omega, by rw [t1.length, sizeLine_eq]; exact ho.2.1, fun p hp => post _ _ _ (out_l hp (t1.rep _)) ho.2.2⟩)
    | _ => exact ho.elim
  | tup xs => cases e with
    | int j =>
      obtain ⟨a, vs, rfl, h1, t1⟩ := hv.seqT
      rw [hw.int]
      exact .inr (.inr ⟨a, j, vs, rfl, rfl, h1, fun z => ho.1 (by subst z; cases t1; rfl), ho.2.1.1, ho.2.1.2, by rw [t1.length]; exact ho.2.2.1, fun p hp => post _ _ _ (out_t hp (hf p hp) (t1.rep _)) ho.2.2.2⟩)
    | _ => exact ho.elim
  | _ => exact ho.elim
/-- // by a positive divisor -/
def cDiv (_ j : Int) : Prop := 0 < j ∧ j.natAbs.log2 < 9000
abbrev oFdiv := oInt2 cDiv fun i j => i / j
theorem od_fdiv {K : PySem.W.Frag} : OpD K (rI CDivW fun i j => .int (i / j)) oFdiv := od_int2 fun i j H Q c q => ⟨i, j, rfl, rfl, c, q⟩
def cPos (_ j : Int) : Prop := 0 < j
abbrev oMod := oInt2 cPos fun i j => i % j
theorem od_mod {K : PySem.W.Frag} : OpD K (rI (fun _ j => 0 < j) fun i j => .int (i % j)) oMod := od_int2 fun i j H Q c q => ⟨i, j, rfl, rfl, c, q⟩
abbrev oPow := oInt2 CPow fun i j => i ^ j.toNat
theorem od_pow {K : PySem.W.Frag} : OpD K (rI CPow fun i j => .int (i ^ j.toNat)) oPow := od_int2 fun i j H Q c q => ⟨i, j, rfl, rfl, c, q⟩
def oNeg (d : D) (k : Rs → Prop) : Prop := match d with
  | .int i => k (.val (.int (-i)))
  | _ => False
theorem ud_neg {K : PySem.W.Frag} : UnD K (rU fun i => .int (-i)) oNeg := by
  intro O H v d Q k hf hv ho post
  cases d with
  | int i => rw [hv.int]; exact ⟨i, rfl, post _ _ _ (out_v (.int _)) ho⟩
  | _ => exact ho.elim

/-! ### comparisons -/
def oCmp (f : Int → Int → Bool) (g : Str → Str → Bool) (d e : D) (k : Rs → Prop) : Prop := match d, e with
  | .int i, .int j => k (.val (.bl (f i j)))
  | .str x, .str y => k (.val (.bl (g x y)))
  | _, _ => False
theorem od_cmp {K : PySem.W.Frag} {f : Int → Int → Bool} {g : Str → Str → Bool} : OpD K (fun x y H Q => rI0 (fun i j => .bl (f i j)) x y H Q ∨ ∃ i j, x = .str i ∧ y = .str j ∧ Q (.bl (g i j)) H) (oCmp f g) := by
  intro O H v w d e Q k hf hv hw ho post
  cases d with
  | int i => cases e with
    | int j => rw [hv.int, hw.int]; exact .inl ⟨i, j, rfl, rfl, post _ _ _ (out_v (.bl _)) ho⟩
    | _ => exact ho.elim
  | str i => cases e with
    | str j => rw [hv.str, hw.str]; exact .inr ⟨i, j, rfl, rfl, post _ _ _ (out_v (.bl _)) ho⟩
    | _ => exact ho.elim
  | _ => exact ho.elim
abbrev oLt := oCmp (fun i j => decide (i < j)) fun x y => decide (x.cps.toList < y.cps.toList)
abbrev oLe := oCmp (fun i j => decide (i ≤ j)) fun x y => !decide (y.cps.toList < x.cps.toList)
abbrev oGt := oCmp (fun i j => decide (j < i)) fun x y => decide (y.cps.toList < x.cps.toList)
abbrev oGe := oCmp (fun i j => decide (j ≤ i)) fun x y => !decide (x.cps.toList < y.cps.toList)
section
variable {X : Cx} {M : MC} {E : WX} {a b : Expr} {pos : Pos} {wa wb : WE}
theorem pd_lt (ha : PE X a (tD X.K M E wa)) (hb : PE X b (tD X.K M E wb)) : PE X (.Compare a [.Lt] [b] pos) (tD X.K M E (wOp oLt wa wb)) := pd_cmp (op_lt.or op_lt_str) od_cmp ha hb
theorem pd_le (ha : PE X a (tD X.K M E wa)) (hb : PE X b (tD X.K M E wb)) : PE X (.Compare a [.LtE] [b] pos) (tD X.K M E (wOp oLe wa wb)) := pd_cmp (op_le.or op_le_str) od_cmp ha hb
theorem pd_gt (ha : PE X a (tD X.K M E wa)) (hb : PE X b (tD X.K M E wb)) : PE X (.Compare a [.Gt] [b] pos) (tD X.K M E (wOp oGt wa wb)) := pd_cmp (op_gt.or op_gt_str) od_cmp ha hb
theorem pd_ge (ha : PE X a (tD X.K M E wa)) (hb : PE X b (tD X.K M E wb)) : PE X (.Compare a [.GtE] [b] pos) (tD X.K M E (wOp oGe wa wb)) := pd_cmp (op_ge.or op_ge_str) od_cmp ha hb
theorem pd_add (ha : PE X a (tD X.K M E wa)) (hb : PE X b (tD X.K M E wb)) : PE X (.BinOp a .Add b pos) (tD X.K M E (wOp oAdd wa wb)) := pd_op op_addA od_add ha hb
theorem pd_sub (ha : PE X a (tD X.K M E wa)) (hb : PE X b (tD X.K M E wb)) : PE X (.BinOp a .Sub b pos) (tD X.K M E (wOp oSub wa wb)) := pd_op op_sub od_sub ha hb
theorem pd_mul (ha : PE X a (tD X.K M E wa)) (hb : PE X b (tD X.K M E wb)) : PE X (.BinOp a .Mult b pos) (tD X.K M E (wOp oMul wa wb)) := pd_op op_mulA od_mul ha hb
theorem pd_fdiv (ha : PE X a (tD X.K M E wa)) (hb : PE X b (tD X.K M E wb)) : PE X (.BinOp a .FloorDiv b pos) (tD X.K M E (wOp oFdiv wa wb)) := pd_op op_fdivW od_fdiv ha hb
theorem pd_mod (ha : PE X a (tD X.K M E wa)) (hb : PE X b (tD X.K M E wb)) : PE X (.BinOp a .Mod b pos) (tD X.K M E (wOp oMod wa wb)) := pd_op op_mod od_mod ha hb
theorem pd_pow (ha : PE X a (tD X.K M E wa)) (hb : PE X b (tD X.K M E wb)) : PE X (.BinOp a .Pow b pos) (tD X.K M E (wOp oPow wa wb)) := pd_op op_pow od_pow ha hb
theorem pd_neg (ha : PE X a (tD X.K M E wa)) : PE X (.UnaryOp .USub a pos) (tD X.K M E (wUn oNeg wa)) := pd_un un_neg ud_neg ha
end

/-! ### == at any depth -/
mutual
theorem DAt.dp {K : PySem.W.Frag} {O : Addr → Prop} {H : Hp} : ∀ {v : V} {d : D}, DAt K O H v d → d.py.canLay0 = true → Dp K H v d.py
  | _, _, .non, _ => .non
  | _, _, .bl b, _ => .bl b
  | _, _, .int i, _ => .int i
  | _, _, .str x, _ => .str x
  | _, _, .ref a, h => by simp [D.py, PyData.canLay0] at h
  | _, _, .ty n, h => by simp [D.py, PyData.canLay0] at h
  | _, _, .lst n e t, h => .lst (SqL.of e) (DAll.dp t (by simpa [D.py, PyData.canLay0] using h))
  | _, _, .fls e t, h => .lst (by
      rcases e with ⟨n, o, e⟩ | e
      · exact .inl (.inr ⟨o, e⟩)
      · exact SqL.any e) (DAll.dp t (by simpa [D.py, PyData.canLay0] using h))
  | _, _, .tup n e t, h => .tup (SqT.of e) (DAll.dp t (by simpa [D.py, PyData.canLay0] using h))
  | _, _, .ktup e t, h => .tup (by
      rcases e with (e | ⟨o, e⟩) | e
      · cases e
      · cases e
      · exact .inr e) (DAll.dp t (by simpa [D.py, PyData.canLay0] using h))
  | _, _, .dk n e t, h => by simp [D.py, PyData.canLay0] at h
  | _, _, .dt n e t, h => by simp [D.py, PyData.canLay0] at h
theorem DAll.dp {K : PySem.W.Frag} {O : Addr → Prop} {H : Hp} : ∀ {vs : List V} {ds : List D}, DAll K O H vs ds → PyData.canLayAll0 (D.pys ds) = true → DpAll K H vs (D.pys ds)
  | _, _, .nil, _ => .nil
  | _, _, .cons a t, h => by
    simp only [D.pys, PyData.canLayAll0, Bool.and_eq_true] at h
    exact .cons (DAt.dp a h.1) (DAll.dp t h.2)
end
theorem BAt.dp {K : PySem.W.Frag} {O : Addr → Prop} {H : Hp} {v : V} {d : D} (h : BAt K O H v d) (hl : d.py.canLay0 = true) : Dp K H v d.py := by
  cases d with
  | lst ds =>
    obtain ⟨a, xs, rfl, e, t⟩ := h.lst
    exact .lst (SqL.of e) (t.dp (by simpa [D.py, PyData.canLay0] using hl))
  | dic ks ds => simp [D.py, PyData.canLay0] at hl
  | _ => exact (h.val trivial).dp hl
/-- what == tells -/
def oEqB (f : Bool → Bool) (d e : D) (k : Rs → Prop) : Prop := match d, e with
  | .int i, .int j => k (.val (.bl (f (decide (i = j)))))
  | .str x, .str y => k (.val (.bl (f (decide (x = y)))))
  | .bl x, .bl y => k (.val (.bl (f (decide (x = y)))))
  | .non, .non => k (.val (.bl (f true)))
  | .non, .int _ => k (.val (.bl (f false)))
  | .non, .str _ => k (.val (.bl (f false)))
  | .non, .bl _ => k (.val (.bl (f false)))
  | .int _, .non => k (.val (.bl (f false)))
  | .int _, .str _ => k (.val (.bl (f false)))
  | .str _, .non => k (.val (.bl (f false)))
  | .str _, .int _ => k (.val (.bl (f false)))
  | .str _, .bl _ => k (.val (.bl (f false)))
  | .bl _, .non => k (.val (.bl (f false)))
  | .bl _, .str _ => k (.val (.bl (f false)))
  | d, e => SeqAt.shaped d.py = true ∧ SeqAt.shaped e.py = true ∧ k (.val (.bl (f (PyData.eqv d.py e.py))))
abbrev oEq := oEqB fun b => b
abbrev oNe := oEqB fun b => !b
def rEqA (K : PySem.W.Frag) (f : Bool → Bool) : R2 := fun x y H Q => (scal x y = true ∧ Q (.bl (f (decide (x = y)))) H) ∨ ∃ d e, Dp K H x d ∧ Dp K H y e ∧ SeqAt.shaped d = true ∧ SeqAt.shaped e = true ∧ Q (.bl (f (PyData.eqv d e))) H
theorem op_eqA {X : Cx} (hu : X.A.units + 64 < cLine) : OpR X (compareOp .Eq) (rEqA X.K fun b => b) := op_eq.or (op_eqD hu)
theorem op_neA {X : Cx} (hu : X.A.units + 64 < cLine) : OpR X (compareOp .NotEq) (rEqA X.K fun b => !b) := op_ne.or (op_neD hu)
theorem od_eq {K : PySem.W.Frag} {f : Bool → Bool} : OpD K (rEqA K f) (oEqB f) := by
  intro O H v w d e Q k hf hv hw ho post
  have deep : SeqAt.shaped d.py = true ∧ SeqAt.shaped e.py = true ∧ k (.val (.bl (f (PyData.eqv d.py e.py)))) → rEqA K f v w H Q := fun ⟨h1, h2, h3⟩ =>
    .inr ⟨_, _, hv.dp (SeqAt.canLay_of_shaped h1), hw.dp (SeqAt.canLay_of_shaped h2), h1, h2, post _ _ _ (out_v (.bl _)) h3⟩
  have flat : ∀ {x y : V} {b : Bool}, v = x → w = y → scal x y = true → decide (x = y) = b → k (.val (.bl (f b))) → rEqA K f v w H Q := fun {x y b} e1 e2 h1 h2 h3 => by
    subst e1 e2
    exact .inl ⟨h1, by rw [h2]; exact post _ _ _ (out_v (.bl _)) h3⟩
  cases d with
  | int i => cases e with
    | int j => exact flat hv.int hw.int rfl (by simp) ho
    | non => exact flat hv.int hw.non rfl (by simp) ho
    | str y => exact flat hv.int hw.str rfl (by simp) ho
    | _ => exact deep ho
  | str i => cases e with
    | int j => exact flat hv.str hw.int rfl (by simp) ho
    | non => exact flat hv.str hw.non rfl (by simp) ho
    | str y => exact flat hv.str hw.str rfl (by simp) ho
    | bl y => exact flat hv.str hw.bl rfl (by simp) ho
    | _ => exact deep ho
  | bl i => cases e with
    | non => exact flat hv.bl hw.non rfl (by simp) ho
    | str y => exact flat hv.bl hw.str rfl (by simp) ho
    | bl y => exact flat hv.bl hw.bl rfl (by simp) ho
    | _ => exact deep ho
  | non => cases e with
    | int j => exact flat hv.non hw.int rfl (by simp) ho
    | non => exact flat hv.non hw.non rfl (by simp) ho
    | str y => exact flat hv.non hw.str rfl (by simp) ho
    | bl y => exact flat hv.non hw.bl rfl (by simp) ho
    | _ => exact deep ho
  | _ => cases e <;> exact deep ho
/-- is None -/
def D.isN : D → Bool
  | .non => true
  | _ => false
def oIsN (f : Bool → Bool) (d : D) (k : Rs → Prop) : Prop := k (.val (.bl (f d.isN)))
section
variable {X : Cx} {M : MC} {E : WX} {a b : Expr} {pos : Pos} {wa wb : WE}
theorem pd_eq (hu : X.A.units + 64 < cLine) (ha : PE X a (tD X.K M E wa)) (hb : PE X b (tD X.K M E wb)) : PE X (.Compare a [.Eq] [b] pos) (tD X.K M E (wOp oEq wa wb)) := pd_cmp (op_eqA hu) od_eq ha hb
theorem pd_ne (hu : X.A.units + 64 < cLine) (ha : PE X a (tD X.K M E wa)) (hb : PE X b (tD X.K M E wb)) : PE X (.Compare a [.NotEq] [b] pos) (tD X.K M E (wOp oNe wa wb)) := pd_cmp (op_neA hu) od_eq ha hb
theorem BAt.nonB {K : PySem.W.Frag} {O : Addr → Prop} {H : Hp} {v : V} {d : D} (h : BAt K O H v d) : decide (v = .non) = d.isN := by
  rcases h with h | ⟨p, rfl, _, o, ho, h⟩
  · cases h <;> simp [D.isN]
  · cases o <;> cases d <;> first | exact h.elim | simp [D.isN]
theorem pd_isN {j pos'} (ha : PE X a (tD X.K M E wa)) : PE X (.Compare a [.Is] [.Constant .none j pos'] pos) (tD X.K M E (wUn (oIsN fun b => b) wa)) :=
  PE.weak (pe_cmp (pc_isN ha) rfl) (un_all (r := fun x H Q => Q (.bl (decide (x = .non))) H) fun O H v d Q k hf hv ho post => post H _ (.val (.bl d.isN)) (out_v (by rw [hv.nonB]; exact .bl _)) ho)
theorem pd_notN {j pos'} (ha : PE X a (tD X.K M E wa)) : PE X (.Compare a [.IsNot] [.Constant .none j pos'] pos) (tD X.K M E (wUn (oIsN fun b => !b) wa)) :=
  PE.weak (pe_cmp (pc_notN ha) rfl) (un_all (r := fun x H Q => Q (.bl (!decide (x = .non))) H) fun O H v d Q k hf hv ho post => post H _ (.val (.bl !d.isN)) (out_v (by rw [hv.nonB]; exact .bl _)) ho)
end
end Dl

set_option Elab.async false
set_option linter.all false
set_option maxRecDepth 100000
set_option maxHeartbeats 4000000
/-! DlD: subscripts, slices, in; built-in calls; what is walked; loops, comprehensions. -/
namespace Dl
open PySem L2

/-! ### items -/
def lookD : List DK → List D → DK → Option D
  | k :: ks, d :: ds, y => if k = y then some d else lookD ks ds y
  | _, _, _ => none
/-- a datum as a key -/
def keyOf : D → Option Key
  | .int i => some (.inl i)
  | .str x => some (.inr x)
  | _ => none
def keysOf : List D → Option (List Key)
  | [] => some []
  | d :: ds => (keyOf d).bind fun k => (keysOf ds).map fun ks => k :: ks
def dkOf : D → Option DK
  | .int i => some (.one (.inl i))
  | .str x => some (.one (.inr x))
  | .tup ds => (keysOf ds).map .many
  | _ => none
def oIx (d e : D) (k : Rs → Prop) : Prop := match d, e with
  | .lst ds, .int i => ∃ c, atI ds i = some c ∧ k (.val c)
  | .fls ds, .int i => ∃ c, atI ds i = some c ∧ k (.val c)
  | .tup ds, .int i => ∃ c, atI ds i = some c ∧ k (.val c)
  | .str z, .int i => z.length ≤ 16777216 ∧ ∃ c, atI z.cps.toList i = some c ∧ k (.val (.str ⟨#[c]⟩))
  | _, _ => False
theorem atI_all {K : PySem.W.Frag} {O : Addr → Prop} {H : Hp} {vs : List V} {ds : List D} {i : Int} {c : D} (t : DAll K O H vs ds) (h : atI ds i = some c) : ∃ v, atI vs i = some v ∧ DAt K O H v c := by
  unfold atI at h ⊢
  rw [← t.length] at h
  obtain ⟨j, h1, h2⟩ := Option.bind_eq_some_iff.mp h
  obtain ⟨v, e, a⟩ := t.get h2
  exact ⟨v, by rw [h1]; exact e, a⟩
theorem od_ix {K : PySem.W.Frag} : OpD K (rIx K) oIx := by
  intro O H v w d e Q k hf hv hw ho post
  cases d with
  | lst ds => cases e with
    | int i =>
      obtain ⟨c, h1, h2⟩ := ho
      obtain ⟨a, xs, rfl, hs, t⟩ := hv.seqL
      rw [hw.int]
      obtain ⟨x, h3, h4⟩ := atI_all t h1
      exact .inl ⟨a, xs, i, x, rfl, rfl, hs, h3, post _ _ _ (out_v h4) h2⟩
    | _ => exact ho.elim
  | fls ds => cases e with
    | int i =>
      obtain ⟨c, h1, h2⟩ := ho
      obtain ⟨a, xs, rfl, hs, t⟩ := hv.seqF
      rw [hw.int]
      obtain ⟨x, h3, h4⟩ := atI_all t h1
      exact .inl ⟨a, xs, i, x, rfl, rfl, hs, h3, post _ _ _ (out_v h4) h2⟩
    | _ => exact ho.elim
  | tup ds => cases e with
    | int i =>
      obtain ⟨c, h1, h2⟩ := ho
      obtain ⟨a, xs, rfl, hs, t⟩ := hv.seqT
      rw [hw.int]
      obtain ⟨x, h3, h4⟩ := atI_all t h1
      exact .inr (.inl ⟨a, xs, i, x, rfl, rfl, hs, h3, post _ _ _ (out_v h4) h2⟩)
    | _ => exact ho.elim
  | str z => cases e with
    | int i =>
      obtain ⟨hz, c, h1, h2⟩ := ho
      rw [hv.str, hw.int]
      exact .inr (.inr ⟨z, i, c, rfl, rfl, by rw [sizeLine_eq]; exact hz, h1, post _ _ _ (out_v (.str _)) h2⟩)
    | _ => exact ho.elim
  | _ => exact ho.elim

/-! ### slices -/
abbrev WO := Rho → XD → (Option Int → Rho → Prop) → Prop
def tDO (K : PySem.W.Frag) (M : MC) (E : WX) (W : WO) : TO := fun σ H Q => ∃ G om ρ X Qd, Rel K M G om ρ σ H ∧ Lnk K M G E X ∧ W ρ X Qd ∧
  ∀ om' ρ' o H', Rel K M G om' ρ' σ H' → Qd o ρ' → Q o H'
def woNone : WO := fun ρ _ Q => Q none ρ
def woSome (we : WE) : WO := fun ρ X Q => we ρ X fun r ρ1 => ∃ i, r.get ρ1 = some (.int i) ∧ Q (some i) ρ1
/-- what a slice tells -/
def cutD (xs : List D) (lo hi : Option Int) : List D := (xs.drop (HT.sIx xs.length 0 lo)).take (HT.sIx xs.length xs.length hi - HT.sIx xs.length 0 lo)
def oSl (d : D) (lo hi : Option Int) (k : Rs → Prop) : Prop := match d with
  | .lst ds => k (.new (.lst (cutD ds lo hi)))
  | .fls ds => k (.new (.lst (cutD ds lo hi)))
  | .tup ds => k (.val (.tup (cutD ds lo hi)))
  | .str z => z.length ≤ 16777216 ∧ k (.val (.str (cutS z lo hi)))
  | _ => False
def wSl (we : WE) (wl wh : WO) : WE := fun ρ X Q => we ρ X fun r ρ1 => wl ρ1 X fun lo ρ2 => wh ρ2 X fun hi ρ3 => ∃ d, r.get ρ3 = some d ∧ oSl d lo hi fun c => Q c ρ3
theorem DAll.cut {K : PySem.W.Frag} {O : Addr → Prop} {H : Hp} {vs : List V} {ds : List D} (t : DAll K O H vs ds) (lo hi : Option Int) : DAll K O H (cutV vs lo hi) (cutD ds lo hi) := by
  unfold cutV cutD
  rw [t.length]
  exact (t.drop _).take _
def rSlAny (K : PySem.W.Frag) : V → Option Int → Option Int → Hp → VK → Prop := fun x lo hi H Q => rSlL K x lo hi H Q ∨ (rSlA K x lo hi H Q ∨ rSlS x lo hi H Q)
theorem sl_any {X : Cx} : SlR X (rSlAny X.K) := sl_list.or (sl_tupA.or sl_str)
theorem sl_data {K : PySem.W.Frag} {O : Addr → Prop} {H : Hp} {v : V} {d : D} {lo hi : Option Int} {Q : VK} {k : Rs → Prop} (hf : ∀ p, H p = none → ¬ O p) (hv : BAt K O H v d) (ho : oSl d lo hi k) (post : ∀ H' u c, ROut K O H H' u c → k c → Q u H') : rSlAny K v lo hi H Q := by
  cases d with
  | lst ds =>
    obtain ⟨a, xs, rfl, hs, t⟩ := hv.seqL
    exact .inl ⟨a, xs, rfl, hs, fun p hp => post _ _ _ (out_l hp (t.cut lo hi)) ho⟩
  | fls ds =>
    obtain ⟨a, xs, rfl, hs, t⟩ := hv.seqF
    exact .inl ⟨a, xs, rfl, hs, fun p hp => post _ _ _ (out_l hp (t.cut lo hi)) ho⟩
  | tup ds =>
    obtain ⟨a, xs, e, hs, t⟩ := hv.seqT
    subst e
    refine .inr (.inl ⟨a, xs, rfl, hs, fun hw => ?_, fun _ p hp => post _ _ _ (out_t hp (hf p hp) (t.cut lo hi)) ho⟩)
    refine post _ _ _ (out_v ?_) ho
    have e : cutD ds lo hi = ds := by
      unfold cutD
      rw [← t.length, hw.1, hw.2, List.drop_zero, Nat.sub_zero, t.length, List.take_length]
    rw [e]
    exact hv.tup
  | str z => rw [hv.str]; exact .inr (.inr ⟨z, rfl, by rw [sizeLine_eq]; exact ho.1, post _ _ _ (out_v (.str _)) ho.2⟩)
  | _ => exact ho.elim
section
variable {X : Cx} {M : MC} {E : WX} {a b : Expr} {pos : Pos} {wa wb we : WE}
theorem PO.weak {e : Option Expr} {t t' : TO} (h : PO X e t) (w : ∀ σ H Q, t' σ H Q → t σ H Q) : PO X e t' := ⟨fun pins s σ H Q I q => h.run pins s σ H Q I (w σ H Q q)⟩
theorem pd_onone : PO X none (tDO X.K M E woNone) := PO.weak po_none fun σ H Q ⟨G, om, ρ, Xd, Qd, R, L, w, k⟩ => k om ρ none H R w
theorem pd_osome {e : Expr} (h : PE X e (tD X.K M E we)) : PO X (some e) (tDO X.K M E (woSome we)) := PO.weak (po_some h) fun σ H Q ⟨G, om, ρ, Xd, Qd, R, L, w, k⟩ =>
  ⟨G, om, ρ, Xd, _, R, L, w, fun om1 ρ1 v H1 r R1 h1 ⟨i, g, w1⟩ => ⟨i, (R1.get h1 g).int, k om1 ρ1 (some i) H1 R1.unhold w1⟩⟩
theorem pd_slice {e : Expr} {lo hi : Option Expr} {p2 : Pos} {wl wh : WO} (he : PE X e (tD X.K M E we)) (hl : PO X lo (tDO X.K M E wl)) (hu : PO X hi (tDO X.K M E wh)) :
    PE X (.Subscript e (.Slice lo hi none p2) pos) (tD X.K M E (wSl we wl wh)) := by
  refine PE.weak (pe_slice sl_any he hl hu) fun σ H Q ⟨G, om, ρ, Xd, Qd, R, L, w, k⟩ => ⟨G, om, ρ, Xd, _, R, L, w, fun om1 ρ1 v H1 r R1 h1 w1 => ?_⟩
  refine ⟨G.hold v r, om1, ρ1, Xd, _, R1, L.hold, w1, fun om2 ρ2 l H2 R2 w2 => ?_⟩
  refine ⟨G.hold v r, om2, ρ2, Xd, _, R2, L.hold, w2, fun om3 ρ3 u H3 R3 ⟨d, g, w3⟩ => ?_⟩
  refine sl_data (fun p hp => R3.fresh hp) (R3.get h1 g) w3 fun H4 x c hx q => ?_
  obtain ⟨R4, h4⟩ := ROut.at R3.unhold (fun a z => own_hold z) hx
  exact k om3 ρ3 x H4 c R4 h4 q
theorem pd_item (ha : PE X a (tD X.K M E wa)) (hb : PE X b (tD X.K M E wb)) (hs : PlainIx b := by exact fun _ _ => rfl) : PE X (.Subscript a b pos) (tD X.K M E (wOp oIx wa wb)) := pd_ix ix_seq od_ix ha hb hs
end

/-! ### in -/
def eqF (d e : D) : Bool := PyData.eqv d.py e.py
def D.flat : D → Bool
  | .non => true
  | .bl _ => true
  | .int _ => true
  | .str _ => true
  | _ => false
/-- x in y: a sign in a text; in a tuple of plain things; in a list of data -/
def oIn (f : Bool → Bool) (d e : D) (k : Rs → Prop) : Prop := match e with
  | .str y => match d with
    | .str x => ∃ c, x = ⟨#[c]⟩ ∧ k (.val (.bl (f (decide (c ∈ y.cps.toList)))))
    | _ => False
  | .tup ds => d.flat = true ∧ ds.all D.flat = true ∧ k (.val (.bl (f (ds.any fun z => eqF z d))))
  | .lst ds => SeqAt.shaped d.py = true ∧ SeqAt.shaped (.list (D.pys ds)) = true ∧ k (.val (.bl (f (ds.any fun z => eqF z d))))
  | _ => False
end Dl

set_option Elab.async false
set_option linter.all false
set_option maxRecDepth 100000
set_option maxHeartbeats 4000000
/-! DlE: in, chains of comparisons, built-in calls, repr. -/
namespace Dl
open PySem L2

section
variable {K : PySem.W.Frag} {O : Addr → Prop} {H : Hp}
theorem DAt.flatV {v : V} {d : D} (h : DAt K O H v d) (f : d.flat = true) : L2.flatV v = true := by
  cases h <;> first | rfl | (simp [D.flat] at f)
theorem eqV_py {v w : V} {d e : D} (hv : DAt K O H v d) (hw : DAt K O H w e) (f : d.flat = true) (g : e.flat = true) : eqV v w = eqF d e := by
  cases hv <;> first | (exact absurd f Bool.false_ne_true) | (cases hw <;> first | (exact absurd g Bool.false_ne_true) | simp [eqV, eqF, D.py, PyData.eqv])
theorem inV_py {v : V} {d : D} (hv : DAt K O H v d) (f : d.flat = true) : ∀ {xs : List V} {ds : List D}, DAll K O H xs ds → ds.all D.flat = true → inV v xs = (ds.any fun z => eqF z d) ∧ xs.all L2.flatV = true
  | _, _, .nil, _ => ⟨rfl, rfl⟩
  | _, _, .cons a t, h => by
    simp only [List.all_cons, Bool.and_eq_true] at h
    obtain ⟨h1, h2⟩ := inV_py hv f t h.2
    refine ⟨?_, ?_⟩
    · unfold inV at h1 ⊢
      rw [List.any_cons, List.any_cons, eqV_py a hv h.1 f, h1]
    · rw [List.all_cons, a.flatV h.1, h2]; rfl
theorem any_pys (x : D) : ∀ ds : List D, ((D.pys ds).any fun z => PyData.eqv z x.py) = ds.any fun z => eqF z x
  | [] => rfl
  | d :: ds => by simp only [D.pys, List.any_cons, any_pys x ds]; rfl
end
def rInA (K : PySem.W.Frag) : R2 := fun x y H Q => (∃ (c : Nat) (z : Str), x = .str ⟨#[c]⟩ ∧ y = .str z ∧ Q (.bl (decide (c ∈ z.cps.toList))) H) ∨ (rIn K false x y H Q ∨ rInD K x y H Q)
def rNotInA (K : PySem.W.Frag) : R2 := fun x y H Q => (∃ (c : Nat) (z : Str), x = .str ⟨#[c]⟩ ∧ y = .str z ∧ Q (.bl (!decide (c ∈ z.cps.toList))) H) ∨ (rIn K true x y H Q ∨ rNotInD K x y H Q)
theorem op_inA {X : Cx} (hu : X.A.units + 65 < cLine) : OpR X (compareOp .In) (rInA X.K) := op_in_sign.or (op_in_seq.or (op_inD hu))
theorem op_notInA {X : Cx} (hu : X.A.units + 65 < cLine) : OpR X (compareOp .NotIn) (rNotInA X.K) := op_notIn_sign.or (op_notIn_seq.or (op_notInD hu))
theorem od_in {K : PySem.W.Frag} : OpD K (rInA K) (oIn fun b => b) := by
  intro O H v w d e Q k hf hv hw ho post
  cases e with
  | str y => cases d with
    | str x =>
      obtain ⟨c, rfl, ho⟩ := ho
      rw [hv.str, hw.str]
      exact .inl ⟨c, y, rfl, rfl, post _ _ _ (out_v (.bl _)) ho⟩
    | _ => exact ho.elim
  | tup ds =>
    obtain ⟨f, g, ho⟩ := ho
    obtain ⟨a, xs, rfl, hs, t⟩ := hw.seqT
    have hv' : DAt K O H v d := hv.val (by cases d <;> first | trivial | (simp [D.flat] at f))
    obtain ⟨h1, h2⟩ := inV_py hv' f t g
    exact .inr (.inl ⟨a, xs, rfl, .inr hs, hv'.flatV f, h2, by rw [if_neg Bool.false_ne_true, h1]; exact post _ _ _ (out_v (.bl _)) ho⟩)
  | lst ds =>
    obtain ⟨h1, h2, ho⟩ := ho
    have h2' : SeqAt.shaped (D.lst ds).py = true := by rw [D.py]; exact h2
    refine .inr (.inr ⟨d.py, D.pys ds, hv.dp (SeqAt.canLay_of_shaped h1), ?_, h1, h2, ?_⟩)
    · have := hw.dp (SeqAt.canLay_of_shaped h2')
      rwa [D.py] at this
    · rw [any_pys]; exact post _ _ _ (out_v (.bl _)) ho
  | _ => exact ho.elim
theorem od_notIn {K : PySem.W.Frag} : OpD K (rNotInA K) (oIn fun b => !b) := by
  intro O H v w d e Q k hf hv hw ho post
  cases e with
  | str y => cases d with
    | str x =>
      obtain ⟨c, rfl, ho⟩ := ho
      rw [hv.str, hw.str]
      exact .inl ⟨c, y, rfl, rfl, post _ _ _ (out_v (.bl _)) ho⟩
    | _ => exact ho.elim
  | tup ds =>
    obtain ⟨f, g, ho⟩ := ho
    obtain ⟨a, xs, rfl, hs, t⟩ := hw.seqT
    have hv' : DAt K O H v d := hv.val (by cases d <;> first | trivial | (simp [D.flat] at f))
    obtain ⟨h1, h2⟩ := inV_py hv' f t g
    exact .inr (.inl ⟨a, xs, rfl, .inr hs, hv'.flatV f, h2, by rw [if_pos rfl, h1]; exact post _ _ _ (out_v (.bl _)) ho⟩)
  | lst ds =>
    obtain ⟨h1, h2, ho⟩ := ho
    have h2' : SeqAt.shaped (D.lst ds).py = true := by rw [D.py]; exact h2
    refine .inr (.inr ⟨d.py, D.pys ds, hv.dp (SeqAt.canLay_of_shaped h1), ?_, h1, h2, ?_⟩)
    · have := hw.dp (SeqAt.canLay_of_shaped h2')
      rwa [D.py] at this
    · rw [any_pys]; exact post _ _ _ (out_v (.bl _)) ho
  | _ => exact ho.elim
section
variable {X : Cx} {M : MC} {E : WX} {a b c : Expr} {pos : Pos} {wa wb wc : WE}
theorem pd_in (hu : X.A.units + 65 < cLine) (ha : PE X a (tD X.K M E wa)) (hb : PE X b (tD X.K M E wb)) (hm : behindInMarks .In b = false := by rfl) : PE X (.Compare a [.In] [b] pos) (tD X.K M E (wOp (oIn fun b => b) wa wb)) := pd_cmp (op_inA hu) od_in ha hb hm
theorem pd_notin (hu : X.A.units + 65 < cLine) (ha : PE X a (tD X.K M E wa)) (hb : PE X b (tD X.K M E wb)) (hm : behindInMarks .NotIn b = false := by rfl) : PE X (.Compare a [.NotIn] [b] pos) (tD X.K M E (wOp (oIn fun b => !b) wa wb)) := pd_cmp (op_notInA hu) od_notIn ha hb hm

/-! ### a op b op c -/
def wChain (o o' : D → D → (Rs → Prop) → Prop) (wa wb wc : WE) : WE := fun ρ X Q => wa ρ X fun ra ρ1 => wb ρ1 X fun rb ρ2 => ∃ d e, ra.get ρ2 = some d ∧ rb.get ρ2 = some e ∧ o d e fun r => ∃ b, r = .val (.bl b) ∧
  if b = true then wc ρ2 X fun rc ρ3 => ∃ e' g, rb.get ρ3 = some e' ∧ rc.get ρ3 = some g ∧ o' e' g fun r' => Q r' ρ3 else Q (.val (.bl false)) ρ2
theorem chain_all {K : PySem.W.Frag} {r r' : R2} {o o' : D → D → (Rs → Prop) → Prop} (hr : OpD K r o) (hr' : OpD K r' o') : ∀ σ H Q, tD K M E (wChain o o' wa wb wc) σ H Q → tChain r r' (tD K M E wa) (tD K M E wb) (tD K M E wc) σ H Q := by
  rintro σ H Q ⟨G, om, ρ, Xd, Qd, R, L, w, k⟩
  refine ⟨G, om, ρ, Xd, _, R, L, w, fun om1 ρ1 v H1 ra R1 h1 w1 => ?_⟩
  refine ⟨G.hold v ra, om1, ρ1, Xd, _, R1, L.hold, w1, fun om2 ρ2 u H2 rb R2 h2 w2 => ?_⟩
  obtain ⟨d, e, g1, g2, w2⟩ := w2
  have b1 := R2.getH (Held.self h1).hold h1 g1
  refine hr _ H2 v u d e _ _ (fun p hp => R2.fresh hp) b1 (R2.get h2 g2) w2 fun H3 x c hx ⟨b, e1, q⟩ => ?_
  subst e1
  obtain ⟨n, hb⟩ := (hx : Nw H2 H3 ∧ DAt K _ H3 x (.bl b))
  have R3 := R2.nw n
  obtain rfl : x = .bl b := by cases hb; rfl
  refine ⟨b, rfl, ?_⟩
  cases b with
  | false => exact k om2 ρ2 _ H3 (.val (.bl false)) (R3.unhold.unhold.pinned (.bl false)) trivial q
  | true =>
    refine ⟨(G.hold v ra).hold u rb, om2, ρ2, Xd, _, R3, L.hold.hold, q, fun om4 ρ4 z H4 rc R4 h4 ⟨e', g, g3, g4, w4⟩ => ?_⟩
    refine hr' _ H4 u z e' g _ _ (fun p hp => R4.fresh hp) (R4.getH (Held.self h2).hold h2 g3) (R4.get h4 g4) w4 fun H5 y c5 hy q5 => ?_
    obtain ⟨R5, h5⟩ := ROut.at R4.unhold.unhold.unhold (fun a z => own_hold (own_hold (own_hold z))) hy
    exact k om4 ρ4 y H5 c5 R5 h5 q5
theorem pd_chain {op op' : CmpOp} {r r' : R2} {o o' : D → D → (Rs → Prop) → Prop} (ho : OpR X (compareOp op) r) (hr : OpD X.K r o) (ho' : OpR X (compareOp op') r') (hr' : OpD X.K r' o') (ha : PE X a (tD X.K M E wa)) (hb : PE X b (tD X.K M E wb)) (hc : PE X c (tD X.K M E wc))
    (hm : lastMarks [op, op'] [b, c] = false := by with_unfolding_all rfl) : PE X (.Compare a [op, op'] [b, c] pos) (tD X.K M E (wChain o o' wa wb wc)) := PE.weak (pe_chain ho ho' ha hb hc hm) (chain_all hr hr')
theorem pd_tchain {op op' : CmpOp} {r r' : R2} {o o' : D → D → (Rs → Prop) → Prop} (ho : OpR X (compareOp op) r) (hr : OpD X.K r o) (ho' : OpR X (compareOp op') r') (hr' : OpD X.K r' o') (ha : PE X a (tD X.K M E wa)) (hb : PE X b (tD X.K M E wb)) (hc : PE X c (tD X.K M E wc))
    (hm : lastMarks [op, op'] [b, c] = false := by with_unfolding_all rfl) : PT X (.Compare a [op, op'] [b, c] pos) (tDT X.K M E (wB (wChain o o' wa wb wc))) :=
  PT.weak (pt_chain ho ho' ha hb hc hm) fun σ H Q ⟨G, om, ρ, Xd, Qd, R, L, w, k⟩ => chain_all (M := M) (E := E) hr hr' σ H _ ⟨G, om, ρ, Xd, _, R, L, w, fun om1 ρ1 v H1 r R1 h1 ⟨b, g, w1⟩ => ⟨b, (R1.get h1 g).bl, k om1 ρ1 b H1 R1.unhold w1⟩⟩
end

/-! ### built-in calls -/
inductive BAll (K : PySem.W.Frag) (O : Addr → Prop) (H : Hp) : List V → List D → Prop
  | nil : BAll K O H [] []
  | cons {v : V} {vs : List V} {d : D} {ds : List D} : BAt K O H v d → BAll K O H vs ds → BAll K O H (v :: vs) (d :: ds)
theorem BAll.one {K : PySem.W.Frag} {O : Addr → Prop} {H : Hp} {vs : List V} {d : D} (h : BAll K O H vs [d]) : ∃ v, vs = [v] ∧ BAt K O H v d := by
  cases h with
  | cons a t => cases t; exact ⟨_, rfl, a⟩
theorem BAll.two {K : PySem.W.Frag} {O : Addr → Prop} {H : Hp} {vs : List V} {d e : D} (h : BAll K O H vs [d, e]) : ∃ v w, vs = [v, w] ∧ BAt K O H v d ∧ BAt K O H w e := by
  cases h with
  | cons a t => cases t with
    | cons b t => cases t; exact ⟨_, _, rfl, a, b⟩
def gets (ρ : Rho) : List Rs → Option (List D)
  | [] => some []
  | r :: rs => (r.get ρ).bind fun d => (gets ρ rs).map fun ds => d :: ds
theorem Rel.getsH {K : PySem.W.Frag} {M : MC} {G0 : Gd} {om : Om} {ρ : Rho} {σ : St} {H : Hp} (R : Rel K M G0 om ρ σ H) : ∀ {vs : List V} {rs : List Rs} {ds : List D}, (∀ v r, (v, r) ∈ vs.zip rs → Held G0 v r) → RsOks σ vs rs → gets ρ rs = some ds → BAll K (Own M G0 om) H vs ds
  | _, _, _, _, .nil, g => by cases g; exact .nil
  | _, _, _, hh, .cons h t, g => by
    unfold gets at g
    obtain ⟨d, g1, g⟩ := Option.bind_eq_some_iff.mp g
    obtain ⟨ds, g2, g⟩ := Option.map_eq_some_iff.mp g
    cases g
    exact .cons (R.getH (hh _ _ List.mem_cons_self) h g1) (Rel.getsH R (fun v r m => hh v r (List.mem_cons_of_mem _ m)) t g2)
theorem held_holds {σ : St} : ∀ {vs : List V} {rs : List Rs} {G : Gd} {v : V} {r : Rs}, Held G v r → Held (G.holds vs rs) v r
  | [], _, _, _, _, h => h
  | _ :: _, [], _, _, _, h => h
  | u :: vs, q :: rs, G, v, r, h => held_holds (σ := σ) (vs := vs) (rs := rs) (G := G.hold u q) h.hold
theorem helds {σ : St} : ∀ {vs : List V} {rs : List Rs} {G : Gd}, RsOks σ vs rs → ∀ v r, (v, r) ∈ vs.zip rs → Held (G.holds vs rs) v r
  | _, _, _, .nil, _, _, m => by cases m
  | _, _, G, .cons h t, v, r, m => by
    rename_i v0 vs r0 rs
    rw [List.zip_cons_cons] at m
    rcases List.mem_cons.mp m with e | m
    · cases e
      exact held_holds (σ := σ) (vs := vs) (rs := rs) (Held.self h)
    · exact helds (G := G.hold v0 r0) t v r m
theorem Rel.gets {K : PySem.W.Frag} {M : MC} {G : Gd} {om : Om} {ρ : Rho} {σ : St} {H : Hp} {vs : List V} {rs : List Rs} {ds : List D} (R : Rel K M (G.holds vs rs) om ρ σ H) (h : RsOks σ vs rs) (g : Dl.gets ρ rs = some ds) : BAll K (Own M (G.holds vs rs) om) H vs ds :=
  R.getsH (helds h) h g
/-- a built-in does on data what op says -/
def CaD (K : PySem.W.Frag) (r : List V → Hp → VK → Prop) (op : List D → (Rs → Prop) → Prop) : Prop := ∀ (O : Addr → Prop) (H : Hp) (vs : List V) (ds : List D) (Q : VK) (k : Rs → Prop), (∀ p, H p = none → ¬ O p) → BAll K O H vs ds → op ds k →
  (∀ H' u c, ROut K O H H' u c → k c → Q u H') → r vs H Q
def wCa (op : List D → (Rs → Prop) → Prop) (wa : WA) : WE := fun ρ X Q => wa ρ X fun rs ρ1 => ∃ ds, gets ρ1 rs = some ds ∧ op ds fun c => Q c ρ1
section
variable {X : Cx} {M : MC} {E : WX}
theorem ca_all {K : PySem.W.Frag} {op : List D → (Rs → Prop) → Prop} {r : List V → Hp → VK → Prop} {wa : WA} (hr : CaD K r op) : ∀ σ H Q, tD K M E (wCa op wa) σ H Q → tCB r (tDA K M E wa) σ H Q := by
  rintro σ H Q ⟨G, om, ρ, Xd, Qd, R, L, w, k⟩
  refine ⟨G, om, ρ, Xd, _, R, L, w, fun om1 ρ1 vs H1 rs R1 h1 ⟨ds, g, w1⟩ => ?_⟩
  refine hr _ H1 vs ds Q _ (fun p hp => R1.fresh hp) (R1.gets h1 g) w1 fun H3 x c hx q => ?_
  obtain ⟨R3, h3⟩ := ROut.at R1.unholds (fun a z => own_holds z) hx
  exact k om1 ρ1 x H3 c R3 h3 q
theorem pd_callB {x : Str} {p pos : Pos} {e : Expr} {es : List Expr} {id : String} {r : List V → Hp → VK → Prop} {op : List D → (Rs → Prop) → Prop} {wa : WA} (hc : CallR X (.builtin id) r) (hr : CaD X.K r op) (hg : Gl X x) (hm : X.mg x = none) (hv : bootBuiltins x = some (.builtin id)) (ha : PA X (e :: es) (tDA X.K M E wa)) (hn : x ≠ "__name__" := by decide) (hdb : (x == ("__debug__" : Str)) = false := by decide)
    (he : starEach (e :: es) X.env = (false, eval e X.env) :: starEach es X.env := by rfl) (hpl : (backTo pos (starEach es X.env)).any (·.1) = false := by rfl) : PE X (.Call (.Name x p) (e :: es) [] pos) (tD X.K M E (wCa op wa)) :=
  PE.weak (pe_callB hc hg hm hv ha hn hdb he hpl) (ca_all hr)
theorem pd_callTy {x : Str} {p pos : Pos} {e : Expr} {es : List Expr} {T : String} {r : List V → Hp → VK → Prop} {op : List D → (Rs → Prop) → Prop} {wa : WA} (hc : CallR X (.type T) r) (hr : CaD X.K r op) (hg : Gl X x) (hm : X.mg x = none) (hv : bootBuiltins x = some (.type T)) (ha : PA X (e :: es) (tDA X.K M E wa)) (hn : x ≠ "__name__" := by decide) (hdb : (x == ("__debug__" : Str)) = false := by decide)
    (he : starEach (e :: es) X.env = (false, eval e X.env) :: starEach es X.env := by rfl) (hpl : (backTo pos (starEach es X.env)).any (·.1) = false := by rfl) : PE X (.Call (.Name x p) (e :: es) [] pos) (tD X.K M E (wCa op wa)) :=
  PE.weak (pe_callTy hc hg hm hv ha hn hdb he hpl) (ca_all hr)
end

/-! ### len -/
def oLen (ds : List D) (k : Rs → Prop) : Prop := match ds with
  | [.str x] => x.length ≤ 16777216 ∧ k (.val (.int x.length))
  | [.lst xs] => k (.val (.int xs.length))
  | [.fls xs] => k (.val (.int xs.length))
  | [.tup xs] => k (.val (.int xs.length))
  | [.dic ks vs] => (∃ k : Key, ks.head? = some (.one k)) ∧ k (.val (.int vs.length))
  | _ => False
theorem BAt.dic {K : PySem.W.Frag} {O : Addr → Prop} {H : Hp} {v : V} {ks : List DK} {vs : List D} (h : BAt K O H v (.dic ks vs)) :
    ∃ a, v = .ref a ∧ ((∃ kvs : List (Key × V), H a = some (.dK kvs) ∧ ks = kvs.map (fun p => .one p.1) ∧ DAll K O H (kvs.map (·.2)) vs) ∨ ∃ kvs : List (List Key × V), H a = some (.dT kvs) ∧ ks = kvs.map (fun p => .many p.1) ∧ DAll K O H (kvs.map (·.2)) vs) := by
  rcases h with h | ⟨p, e, _, o, ho, h⟩
  · cases h with
    | dk n e t => exact ⟨_, rfl, .inl ⟨_, e, rfl, t⟩⟩
    | dt n e t => exact ⟨_, rfl, .inr ⟨_, e, rfl, t⟩⟩
  · cases o with
    | dK kvs => exact ⟨p, e, .inl ⟨kvs, ho, h.1, h.2⟩⟩
    | dT kvs => exact ⟨p, e, .inr ⟨kvs, ho, h.1, h.2⟩⟩
    | _ => exact h.elim
def rLenA (K : PySem.W.Frag) : List V → Hp → VK → Prop := fun xs H Q => (∃ x n, xs = [x] ∧ LenV K x H n ∧ Q (.int n) H) ∨ ∃ a kvs, xs = [V.ref a] ∧ H a = some (.dK kvs) ∧ Q (.int kvs.length) H
theorem call_lenA {X : Cx} : CallR X (.builtin "len") (rLenA X.K) := call_len.or call_lenD
theorem cd_len {K : PySem.W.Frag} : CaD K (rLenA K) oLen := by
  intro O H vs ds Q k hf hv ho post
  unfold oLen at ho
  split at ho
  · obtain ⟨v, rfl, b⟩ := hv.one
    rw [b.str]
    exact .inl ⟨_, _, rfl, ⟨by rw [sizeLine_eq]; exact ho.1, rfl⟩, post _ _ _ (out_v (.int _)) ho.2⟩
  · obtain ⟨v, rfl, b⟩ := hv.one
    obtain ⟨a, xs, rfl, hs, t⟩ := b.seqL
    exact .inl ⟨_, _, rfl, .inl ⟨xs, hs, rfl⟩, post _ _ _ (out_v (by rw [t.length]; exact .int _)) ho⟩
  · obtain ⟨v, rfl, b⟩ := hv.one
    obtain ⟨a, xs, rfl, hs, t⟩ := b.seqF
    exact .inl ⟨_, _, rfl, .inl ⟨xs, hs, rfl⟩, post _ _ _ (out_v (by rw [t.length]; exact .int _)) ho⟩
  · obtain ⟨v, rfl, b⟩ := hv.one
    obtain ⟨a, xs, rfl, hs, t⟩ := b.seqT
    exact .inl ⟨_, _, rfl, .inr ⟨xs, hs, rfl⟩, post _ _ _ (out_v (by rw [t.length]; exact .int _)) ho⟩
  · obtain ⟨v, rfl, b⟩ := hv.one
    obtain ⟨a, rfl, hd⟩ := b.dic
    obtain ⟨⟨k0, hk0⟩, ho⟩ := ho
    rcases hd with ⟨kvs, e, hk, t⟩ | ⟨kvs, e, hk, t⟩
    · exact .inr ⟨a, kvs, rfl, e, post _ _ _ (out_v (by rw [show kvs.length = _ from (List.length_map ..).symm.trans t.length]; exact .int _)) ho⟩
    · subst hk
      cases kvs with
      | nil => simp at hk0
      | cons q r => simp at hk0
  · exact ho.elim

/-! ### sum, min, max, any, all, list, tuple -/
def asInts : List D → Option (List Int)
  | [] => some []
  | .int i :: ds => (asInts ds).map fun is => i :: is
  | _ :: _ => none
theorem asInts_eq : ∀ {ds : List D} {is : List Int}, asInts ds = some is → ds = is.map D.int
  | [], _, h => by cases h; rfl
  | d :: ds, is, h => by
    cases d with
    | int i =>
      unfold asInts at h
      obtain ⟨js, h1, h2⟩ := Option.map_eq_some_iff.mp h
      cases h2
      rw [asInts_eq h1]; rfl
    | _ => cases h
theorem asInts_map : ∀ is : List Int, asInts (is.map D.int) = some is
  | [] => rfl
  | i :: is => by show (asInts (is.map D.int)).map _ = _; rw [asInts_map is]; rfl
def asBls : List D → Option (List Bool)
  | [] => some []
  | .bl i :: ds => (asBls ds).map fun is => i :: is
  | _ :: _ => none
theorem asBls_eq : ∀ {ds : List D} {is : List Bool}, asBls ds = some is → ds = is.map D.bl
  | [], _, h => by cases h; rfl
  | d :: ds, is, h => by
    cases d with
    | bl i =>
      unfold asBls at h
      obtain ⟨js, h1, h2⟩ := Option.map_eq_some_iff.mp h
      cases h2
      rw [asBls_eq h1]; rfl
    | _ => cases h
theorem asBls_map : ∀ is : List Bool, asBls (is.map D.bl) = some is
  | [] => rfl
  | i :: is => by show (asBls (is.map D.bl)).map _ = _; rw [asBls_map is]; rfl
def oSum (ds : List D) (k : Rs → Prop) : Prop := match ds with
  | [.lst xs] => ∃ is, asInts xs = some is ∧ k (.val (.int is.sum))
  | _ => False
theorem cd_sum {K : PySem.W.Frag} : CaD K (rSum K) oSum := by
  intro O H vs ds Q k hf hv ho post
  unfold oSum at ho
  split at ho
  case h_2 => exact ho.elim
  obtain ⟨is, e, ho⟩ := ho
  obtain rfl := asInts_eq e
  obtain ⟨v, rfl, b⟩ := hv.one
  obtain ⟨a, xs, rfl, hs, t⟩ := b.seqL
  rw [t.ints] at hs
  exact ⟨a, is, rfl, hs, post _ _ _ (out_v (.int _)) ho⟩
def oAny (ds : List D) (k : Rs → Prop) : Prop := match ds with
  | [.lst xs] => ∃ is, asBls xs = some is ∧ k (.val (.bl (is.any id)))
  | _ => False
def oAll (ds : List D) (k : Rs → Prop) : Prop := match ds with
  | [.lst xs] => ∃ is, asBls xs = some is ∧ k (.val (.bl (is.all id)))
  | _ => False
theorem cd_any {K : PySem.W.Frag} : CaD K (rAny K) oAny := by
  intro O H vs ds Q k hf hv ho post
  unfold oAny at ho
  split at ho
  case h_2 => exact ho.elim
  obtain ⟨is, e, ho⟩ := ho
  obtain rfl := asBls_eq e
  obtain ⟨v, rfl, b⟩ := hv.one
  obtain ⟨a, xs, rfl, hs, t⟩ := b.seqL
  rw [t.bls] at hs
  exact ⟨a, is, rfl, hs, post _ _ _ (out_v (.bl _)) ho⟩
theorem cd_all {K : PySem.W.Frag} : CaD K (rAll K) oAll := by
  intro O H vs ds Q k hf hv ho post
  unfold oAll at ho
  split at ho
  case h_2 => exact ho.elim
  obtain ⟨is, e, ho⟩ := ho
  obtain rfl := asBls_eq e
  obtain ⟨v, rfl, b⟩ := hv.one
  obtain ⟨a, xs, rfl, hs, t⟩ := b.seqL
  rw [t.bls] at hs
  exact ⟨a, is, rfl, hs, post _ _ _ (out_v (.bl _)) ho⟩
def oMin (ds : List D) (k : Rs → Prop) : Prop := match ds with
  | [.int i, .int j] => k (.val (.int (if j < i then j else i)))
  | _ => False
def oMax (ds : List D) (k : Rs → Prop) : Prop := match ds with
  | [.int i, .int j] => k (.val (.int (if j > i then j else i)))
  | _ => False
theorem cd_min {K : PySem.W.Frag} : CaD K (fun xs H Q => ∃ i j, xs = [.int i, .int j] ∧ Q (.int (if j < i then j else i)) H) oMin := by
  intro O H vs ds Q k hf hv ho post
  unfold oMin at ho
  split at ho
  · obtain ⟨v, w, rfl, b, c⟩ := hv.two
    exact ⟨_, _, by rw [b.int, c.int], post _ _ _ (out_v (.int _)) ho⟩
  · exact ho.elim
theorem cd_max {K : PySem.W.Frag} : CaD K (fun xs H Q => ∃ i j, xs = [.int i, .int j] ∧ Q (.int (if j > i then j else i)) H) oMax := by
  intro O H vs ds Q k hf hv ho post
  unfold oMax at ho
  split at ho
  · obtain ⟨v, w, rfl, b, c⟩ := hv.two
    exact ⟨_, _, by rw [b.int, c.int], post _ _ _ (out_v (.int _)) ho⟩
  · exact ho.elim
def oAbs (ds : List D) (k : Rs → Prop) : Prop := match ds with
  | [.int i] => k (.val (.int (if i < 0 then -i else i)))
  | _ => False
theorem cd_abs {K : PySem.W.Frag} : CaD K (fun xs H Q => ∃ i, xs = [.int i] ∧ Q (.int (if i < 0 then -i else i)) H) oAbs := by
  intro O H vs ds Q k hf hv ho post
  unfold oAbs at ho
  split at ho
  · obtain ⟨v, rfl, b⟩ := hv.one
    exact ⟨_, by rw [b.int], post _ _ _ (out_v (.int _)) ho⟩
  · exact ho.elim
def oList (ds : List D) (k : Rs → Prop) : Prop := match ds with
  | [.lst xs] => k (.new (.lst xs))
  | [.fls xs] => k (.new (.lst xs))
  | [.tup xs] => k (.new (.lst xs))
  | _ => False
theorem cd_list {K : PySem.W.Frag} : CaD K (fun xs H Q => ∃ p ys, xs = [.ref p] ∧ (SqL K H p ys ∨ SqT K H p ys) ∧ ∀ l, H l = none → Q (.ref l) (upd H l (.lst ys))) oList := by
  intro O H vs ds Q k hf hv ho post
  unfold oList at ho
  split at ho
  · obtain ⟨v, rfl, b⟩ := hv.one
    obtain ⟨a, xs, rfl, hs, t⟩ := b.seqL
    exact ⟨a, xs, rfl, .inl hs, fun l hl => post _ _ _ (out_l hl t) ho⟩
  · obtain ⟨v, rfl, b⟩ := hv.one
    obtain ⟨a, xs, rfl, hs, t⟩ := b.seqF
    exact ⟨a, xs, rfl, .inl hs, fun l hl => post _ _ _ (out_l hl t) ho⟩
  · obtain ⟨v, rfl, b⟩ := hv.one
    obtain ⟨a, xs, rfl, hs, t⟩ := b.seqT
    exact ⟨a, xs, rfl, .inr hs, fun l hl => post _ _ _ (out_l hl t) ho⟩
  · exact ho.elim
def oTuple (ds : List D) (k : Rs → Prop) : Prop := match ds with
  | [.lst xs] => k (.val (.tup xs))
  | [.fls xs] => k (.val (.tup xs))
  | [.tup xs] => k (.val (.tup xs))
  | _ => False
theorem cd_tuple {K : PySem.W.Frag} : CaD K (fun xs H Q => ∃ p ys, xs = [.ref p] ∧ ((SqL K H p ys ∧ ∀ l, H l = none → Q (.ref l) (upd H l (.tup ys))) ∨ (SqT K H p ys ∧ Q (.ref p) H))) oTuple := by
  intro O H vs ds Q k hf hv ho post
  unfold oTuple at ho
  split at ho
  · obtain ⟨v, rfl, b⟩ := hv.one
    obtain ⟨a, xs, rfl, hs, t⟩ := b.seqL
    exact ⟨a, xs, rfl, .inl ⟨hs, fun l hl => post _ _ _ (out_t hl (hf l hl) t) ho⟩⟩
  · obtain ⟨v, rfl, b⟩ := hv.one
    obtain ⟨a, xs, rfl, hs, t⟩ := b.seqF
    exact ⟨a, xs, rfl, .inl ⟨hs, fun l hl => post _ _ _ (out_t hl (hf l hl) t) ho⟩⟩
  · obtain ⟨v, rfl, b⟩ := hv.one
    obtain ⟨a, xs, e, hs, t⟩ := b.seqT
    subst e
    exact ⟨a, xs, rfl, .inr ⟨hs, post _ _ _ (out_v b.tup) ho⟩⟩
  · exact ho.elim

/-! ### int, str -/
def oInt (ds : List D) (k : Rs → Prop) : Prop := match ds with
  | [.int i] => k (.val (.int i))
  | [.bl b] => k (.val (.int (if b then 1 else 0)))
  | [.str x] => x.length ≤ 640 ∧ ∃ n, PySem.intText? x = some n ∧ k (.val (.int n))
  | _ => False
def rIntA : List V → Hp → VK → Prop := fun xs H Q => ((∃ i, xs = [.int i] ∧ Q (.int i) H) ∨ ∃ k, xs = [.bl k] ∧ Q (.int (if k then 1 else 0)) H) ∨ ∃ a n, xs = [.str a] ∧ PySem.intText? a = some n ∧ a.length ≤ 640 ∧ Q (.int n) H
theorem call_intA {X : Cx} : CallR X (.type "int") rIntA := call_int1.or call_int_str
theorem cd_int {K : PySem.W.Frag} : CaD K rIntA oInt := by
  intro O H vs ds Q k hf hv ho post
  unfold oInt at ho
  split at ho
  · obtain ⟨v, rfl, b⟩ := hv.one
    exact .inl (.inl ⟨_, by rw [b.int], post _ _ _ (out_v (.int _)) ho⟩)
  · obtain ⟨v, rfl, b⟩ := hv.one
    exact .inl (.inr ⟨_, by rw [b.bl], post _ _ _ (out_v (.int _)) ho⟩)
  · obtain ⟨v, rfl, b⟩ := hv.one
    obtain ⟨hl, n, h1, ho⟩ := ho
    exact .inr ⟨_, n, by rw [b.str], h1, hl, post _ _ _ (out_v (.int _)) ho⟩
  · exact ho.elim
def oStr (ds : List D) (k : Rs → Prop) : Prop := match ds with
  | [.int i] => i.natAbs.log2 < 1920 ∧ k (.val (.str (toString i)))
  | _ => False
theorem cd_str {K : PySem.W.Frag} : CaD K (fun xs H Q => ∃ i, xs = [.int i] ∧ i.natAbs.log2 < 1920 ∧ Q (.str (toString i)) H) oStr := by
  intro O H vs ds Q k hf hv ho post
  unfold oStr at ho
  split at ho
  · obtain ⟨v, rfl, b⟩ := hv.one
    exact ⟨_, by rw [b.int], ho.1, post _ _ _ (out_v (.str _)) ho.2⟩
  · exact ho.elim

/-! ### repr of what is nested -/
def rRepr (K : PySem.W.Frag) (n : Nat) : List V → Hp → VK → Prop := fun xs H Q => ∃ a d, xs = [.ref a] ∧ Dp K H (.ref a) d ∧ d.canLay0 = true ∧ d.showable = true ∧ d.depth ≤ n ∧ d.shown.length ≤ sizeLine ∧ Q (.str d.shown) H
theorem call_reprA {X : Cx} {n : Nat} (hg : X.A.guards = some []) (hu : X.A.units + (n + 1) < cLine) : CallR X (.builtin "repr") (rRepr X.K n) := by
  intro pins s σ H xs us Q I r h
  obtain ⟨a, d, rfl, hd, hl, hs, hn, hz, q⟩ := h
  obtain rfl := r.ref1
  obtain ⟨as, rd⟩ := Dp.reads I d (.ref a) (.ref a) hd rfl
  exact repr_of_reads' rd hs (PyData.noDict_hsm (PyData.hasDict_of_canLay d hl)) hg (by omega) (fun b o e => e) (fun h' u tk hk => ⟨.str d.shown, H, I.kept hk, ⟨u, rfl⟩, q⟩) hz
def oRepr (n : Nat) (ds : List D) (k : Rs → Prop) : Prop := ∃ d, ds = [d] ∧ (match d with | .lst _ => True | .fls _ => True | .tup _ => True | _ => False) ∧ d.py.canLay0 = true ∧ d.py.showable = true ∧ d.py.depth ≤ n ∧ d.py.shown.length ≤ 16777216 ∧ k (.val (.str d.py.shown))
theorem cd_repr {K : PySem.W.Frag} {n : Nat} : CaD K (rRepr K n) (oRepr n) := by
  rintro O H vs ds Q k hf hv ⟨d, rfl, hd, h1, h2, h3, h4, ho⟩ post
  obtain ⟨v, rfl, b⟩ := hv.one
  have e : ∃ a, v = .ref a := by
    cases d with
    | lst ds => obtain ⟨a, _, e, _⟩ := b.seqL; exact ⟨a, e⟩
    | fls ds => obtain ⟨a, _, e, _⟩ := b.seqF; exact ⟨a, e⟩
    | tup ds => obtain ⟨a, _, e, _⟩ := b.seqT; exact ⟨a, e⟩
    | _ => exact hd.elim
  obtain ⟨a, rfl⟩ := e
  exact ⟨a, d.py, rfl, b.dp h1, h1, h2, h3, by rw [sizeLine_eq]; exact h4, post _ _ _ (out_v (.str _)) ho⟩

/-! ### isinstance -/
inductive TN where
  | non | bl | int | str | lst | tup | dic
  deriving DecidableEq
def TN.name : TN → String
  | .non => "NoneType" | .bl => "bool" | .int => "int" | .str => "str" | .lst => "list" | .tup => "tuple" | .dic => "dict"
/-- a thing of the one is one of the other -/
def TN.is (a b : TN) : Bool := match a, b with
  | .bl, .int => true
  | .non, .non => true | .bl, .bl => true | .int, .int => true | .str, .str => true | .lst, .lst => true | .tup, .tup => true | .dic, .dic => true
  | _, _ => false
def D.tn : D → Option TN
  | .non => some .non | .bl _ => some .bl | .int _ => some .int | .str _ => some .str | .tup _ => some .tup | .lst _ => some .lst | .fls _ => some .lst | .dic _ _ => some .dic
  | .ref _ => none | .ty _ => none
theorem kit_is (a b : TN) (hb : b ≠ .non) : kitB a.name b.name = some (a.is b) := by
  cases b <;> first | exact absurd rfl hb | (cases a <;> decide +kernel)
theorem BAt.tyx {K : PySem.W.Frag} {O : Addr → Prop} {H : Hp} {v : V} {d : D} {a : TN} (h : BAt K O H v d) (e : d.tn = some a) : TyX K H v (.type a.name) := by
  have sqL : ∀ {p : Addr} {xs : List V}, SqL K H p xs → TyX K H (.ref p) (.type "list") := fun {p xs} h => by
    rcases h with (h | ⟨o, h⟩) | ⟨o, its, n, h1, h2, _⟩
    · exact .base (.lst h)
    · exact .base (.frz h)
    · exact .kList h1 h2
  have sqT : ∀ {p : Addr} {xs : List V}, SqT K H p xs → TyX K H (.ref p) (.type "tuple") := fun {p xs} h => by
    rcases h with (h | ⟨o, h⟩) | ⟨o, its, n, h1, h2, _⟩
    · exact .base (.tup h)
    · exact .fTuple h
    · exact .kTuple h1 h2
  cases d with
  | non => cases e; rw [h.non]; exact .base .non
  | bl b => cases e; rw [h.bl]; exact .base (.bl b)
  | int b => cases e; rw [h.int]; exact .base (.int b)
  | str b => cases e; rw [h.str]; exact .base (.str b)
  | tup ds => cases e; obtain ⟨p, xs, rfl, hs, t⟩ := h.seqT; exact sqT hs
  | lst ds => cases e; obtain ⟨p, xs, rfl, hs, t⟩ := h.seqL; exact sqL hs
  | fls ds => cases e; obtain ⟨p, xs, rfl, hs, t⟩ := h.seqF; exact sqL hs
  | dic ks vs =>
    cases e
    obtain ⟨p, rfl, ⟨kvs, hs, _⟩ | ⟨kvs, hs, _⟩⟩ := h.dic
    · exact .base (.dK hs)
    · exact .base (.dT hs)
  | ref a => cases e
  | ty n => cases e
def wIsi (cs : List TN) (we : WE) : WE := fun ρ X Q => we ρ X fun r ρ1 => ∃ d a, r.get ρ1 = some d ∧ d.tn = some a ∧ Q (.val (.bl (cs.any fun c => a.is c))) ρ1
section
variable {X : Cx} {M : MC} {E : WX} {e : Expr} {we : WE} {p p2 pos : Pos}
theorem pd_isi {T : Str} {c : TN} (hc : c ≠ .non) (hg : Gl X "isinstance") (hm : X.mg "isinstance" = none) (he : PE X e (tD X.K M E we)) (hT : PE X (.Name T p2) (tC (.ty c.name)))
    (hs : starEach (e :: [.Name T p2]) X.env = (false, eval e X.env) :: starEach [.Name T p2] X.env := by rfl) (hs2 : starEach [.Name T p2] X.env = (false, eval (.Name T p2) X.env) :: starEach [] X.env := by rfl) (hpl : (backTo pos (starEach [.Name T p2] X.env)).any (·.1) = false := by rfl) :
    PE X (.Call (.Name "isinstance" p) [e, .Name T p2] [] pos) (tD X.K M E (wIsi [c] we)) := by
  refine PE.weak (pe_callB call_isi hg hm rfl (pa_cons he (pa_cons hT pa_nil hs2) hs) (by decide) (by decide) hs hpl) fun σ H Q ⟨G, om, ρ, Xd, Qd, R, L, w, k⟩ => ⟨G, om, ρ, Xd, _, R, L, w, fun om1 ρ1 v H1 r R1 h1 ⟨d, a, g, ha, w1⟩ => ?_⟩
  refine ⟨v, .ty c.name, .type a.name, .type c.name, a.is c, rfl, .ty _, (R1.get h1 g).tyx ha, kit_ty (kit_is a c hc), ?_⟩
  have e : (List.any [c] fun c => a.is c) = a.is c := by simp
  rw [e] at w1
  exact k om1 ρ1 _ H1 (.val (.bl (a.is c))) (R1.unhold.pinned (.bl _)) trivial w1
theorem pd_isi2 {T U : Str} {c c' : TN} {x1} {p3 p4 : Pos} (hc : c ≠ .non) (hc' : c' ≠ .non) (hg : Gl X "isinstance") (hm : X.mg "isinstance" = none) (he : PE X e (tD X.K M E we)) (hT : PE X (.Name T p2) (tC (.ty c.name))) (hU : PE X (.Name U p3) (tC (.ty c'.name)))
    (hs : starEach (e :: [.Tuple [.Name T p2, .Name U p3] x1 p4]) X.env = (false, eval e X.env) :: starEach [.Tuple [.Name T p2, .Name U p3] x1 p4] X.env := by rfl) (hs2 : starEach [.Tuple [.Name T p2, .Name U p3] x1 p4] X.env = (false, eval (.Tuple [.Name T p2, .Name U p3] x1 p4) X.env) :: starEach [] X.env := by rfl)
    (hs3 : starEach [.Name T p2, .Name U p3] X.env = (false, eval (.Name T p2) X.env) :: starEach [.Name U p3] X.env := by rfl) (hs4 : starEach [.Name U p3] X.env = (false, eval (.Name U p3) X.env) :: starEach [] X.env := by rfl)
    (hpl : (backTo pos (starEach [.Tuple [.Name T p2, .Name U p3] x1 p4] X.env)).any (·.1) = false := by rfl) :
    PE X (.Call (.Name "isinstance" p) [e, .Tuple [.Name T p2, .Name U p3] x1 p4] [] pos) (tD X.K M E (wIsi [c, c'] we)) := by
  refine PE.weak (pe_callB call_isiT hg hm rfl (pa_cons he (pa_cons (pe_tup (pa_cons hT (pa_cons hU pa_nil hs4) hs3)) pa_nil hs2) hs) (by decide) (by decide) hs hpl) fun σ H Q ⟨G, om, ρ, Xd, Qd, R, L, w, k⟩ => ⟨G, om, ρ, Xd, _, R, L, w, fun om1 ρ1 v H1 r R1 h1 ⟨d, a, g, ha, w1⟩ => ?_⟩
  refine ⟨le1000 (n := 2) (by decide), fun tp hp => ?_⟩
  have R2 := R1.new (o := .tup [.ty c.name, .ty c'.name]) hp
  refine ⟨v, tp, [.ty c.name, .ty c'.name], .type a.name, [.type c.name, .type c'.name], a.is c || a.is c', rfl, upd_same, .cons (.ty _) (.cons (.ty _) .nil), (R2.get h1 g).tyx ha, ?_, ?_⟩
  · refine kitAny_cons (kit_ty (kit_is a c hc)) (fun h => ?_) fun h => by rw [h]; rfl
    refine kitAny_cons (kit_ty (kit_is a c' hc')) (fun h' => ?_) fun h' => by rw [h, h']; rfl
    rw [h, h']; exact kitAny_nil
  · have e : (List.any [c, c'] fun c => a.is c) = (a.is c || a.is c') := by simp
    rw [e] at w1
    exact k om1 ρ1 _ _ (.val (.bl (a.is c || a.is c'))) (R2.unhold.pinned (.bl _)) trivial w1
end
end Dl

set_option Elab.async false
set_option linter.all false
set_option maxRecDepth 100000
set_option maxHeartbeats 4000000
/-! DlF: what is walked; for, while, list comprehensions. -/
namespace Dl
open PySem L2

/-- more in hand -/
structure More (G G' : Gd) : Prop where
  h0 : G.H0 = G'.H0
  pins : ∀ q ∈ G.pins, q ∈ G'.pins
  hid : G.hid = G'.hid
theorem More.refl {G : Gd} : More G G := ⟨rfl, fun _ h => h, rfl⟩
theorem More.pin {G : Gd} {v : V} {d : D} : More G (G.pin v d) := ⟨rfl, fun _ h => List.mem_cons_of_mem _ h, rfl⟩
theorem More.trans {G G' G2 : Gd} (a : More G G') (b : More G' G2) : More G G2 := ⟨a.h0.trans b.h0, fun q h => b.pins q (a.pins q h), a.hid.trans b.hid⟩
section
variable {K : PySem.W.Frag} {M : MC} {G G' : Gd} {om : Om} {ρ : Rho} {σ : St} {H : Hp} {E : WX} {X : XD}
theorem More.own (m : More G G') : Own M G om = Own M G' om := by
  funext a
  unfold Own
  rw [m.hid]
theorem More.rel (m : More G G') (R : Rel K M G' om ρ σ H) : Rel K M G om ρ σ H := R.pinsub m.h0 m.pins m.hid
theorem More.lnk (m : More G G') (L : Lnk K M G E X) : Lnk K M G' E X := fun om ρ σ H cls dd e R h => L om ρ σ H cls dd e (m.rel R) (by rw [m.own]; exact h)
end
/-- what J walks: the data ds, while the ground stands -/
structure DWalk (K : PySem.W.Frag) (M : MC) (G : Gd) (J : It) (ds : List D) : Prop where
  goes : ∀ G2 i om ρ σ H, (∀ q ∈ G.pins, q ∈ G2.pins) → i < ds.length → Rel K M G2 om ρ σ H → J.go i H
  stops : ∀ G2 om ρ σ H, (∀ q ∈ G.pins, q ∈ G2.pins) → Rel K M G2 om ρ σ H → J.stop ds.length H
  ylds : ∀ G2 i om ρ σ H x H' d, (∀ q ∈ G.pins, q ∈ G2.pins) → ds[i]? = some d → Rel K M G2 om ρ σ H → J.yld i H x H' → Nw H H' ∧ DAt K (Own M G2 om) H' x d
abbrev WI := Rho → XD → (List D → Rho → Prop) → Prop
def tDI (K : PySem.W.Frag) (M : MC) (E : WX) (W : WI) : TI := fun σ H R => ∃ G om ρ X Qd, Rel K M G om ρ σ H ∧ Lnk K M G E X ∧ W ρ X Qd ∧
  ∀ om' ρ' H' G' ds J, More G G' → Rel K M G' om' ρ' σ H' → DWalk K M G' J ds → Qd ds ρ' → R J H'
/-- what a thing gives item by item -/
def itemsD : D → Option (List D)
  | .lst ds => some ds
  | .fls ds => some ds
  | .tup ds => some ds
  | .str x => some (x.cps.toList.map fun c => .str ⟨#[c]⟩)
  | _ => none
def wiSeq (we : WE) : WI := fun ρ X Q => we ρ X fun r ρ1 => ∃ d ρ2 ds, r.out ρ1 = some (d, ρ2) ∧ itemsD d = some ds ∧ Q ds ρ2
section
variable {X : Cx} {M : MC} {E : WX} {tg e : Expr} {we : WE} {pins : List (Addr × Obj)} {σ : St} {H : Hp} {s : Shared} {R : It → Hp → Prop} {a : Addr} {xs : List V} {F : Value → Shared → Prop}
theorem it_list (I : Inv X pins σ H s) (hq : SqL X.K H a xs) (q : R (Itl X.K a) H) : wpAny (model X.prog X.w) X.A (pyIter (.ref a)) (PIE X pins σ tg R) F s := by
  obtain ⟨us, _, pl, _⟩ := I.list hq
  exact wpAny_pyIter_list pl.isList (pi_one (tk := s.toks) I _ (turn_list a _) ⟨_, Heap.get?_push_size _ rfl, rfl, rfl⟩ q)
theorem it_tup (I : Inv X pins σ H s) (hq : SqT X.K H a xs) (q : R (Itt X.K a) H) : wpAny (model X.prog X.w) X.A (pyIter (.ref a)) (PIE X pins σ tg R) F s := by
  obtain ⟨us, _, pl, _⟩ := I.tuple hq
  exact wpAny_pyIter_tuple (show s.heap.IsTuple a us.toArray from pl) (pi_one (tk := s.toks) I _ (turn_tuple a _) ⟨_, Heap.get?_push_size _ rfl, rfl, rfl⟩ q)
theorem it_str {x : Str} {t : Tok} (I : Inv X pins σ H s) (q : R (Its x) H) : wpAny (model X.prog X.w) X.A (pyIter (.str x t)) (PIE X pins σ tg R) F s := by
  cases ha : x.cps.all (· < 128) with
  | false => exact wpAny_pyIter_wide ha (pi_one (tk := s.toks) I _ (turn_str _ x t _ (.inr rfl)) ⟨_, Heap.get?_push_size _ rfl, rfl, rfl⟩ q)
  | true => exact wpAny_pyIter_ascii ha (pi_one (tk := s.toks) I _ (turn_str _ x t _ (.inl rfl)) ⟨_, Heap.get?_push_size _ rfl, rfl, rfl⟩ q)
theorem walk_lst {K : PySem.W.Frag} {G : Gd} {ds : List D} (hG : (V.ref a, D.lst ds) ∈ G.pins ∨ (V.ref a, D.fls ds) ∈ G.pins) : DWalk K M G (Itl K a) ds := by
  have look : ∀ {G2 om ρ σ H}, (∀ q ∈ G.pins, q ∈ G2.pins) → Rel K M G2 om ρ σ H → ∃ xs, SqL K H a xs ∧ DAll K (Own M G2 om) H xs ds := fun s R => by
    rcases hG with hG | hG
    · obtain ⟨a', xs, e, _, h, t⟩ := (R.pin _ (s _ hG)).lst'
      cases e
      exact ⟨xs, SqL.of h, t⟩
    · obtain ⟨a', xs, e, h, t⟩ := (R.pin _ (s _ hG)).fls'
      cases e
      exact ⟨xs, h, t⟩
  refine ⟨fun G2 i om ρ σ H s hi R => ?_, fun G2 om ρ σ H s R => ?_, fun G2 i om ρ σ H x H' d s hd R y => ?_⟩
  · obtain ⟨xs, h, t⟩ := look s R
    have hx : i < xs.length := by rw [t.length]; exact hi
    exact ⟨xs, xs[i], h, by simp [hx]⟩
  · obtain ⟨xs, h, t⟩ := look s R
    exact ⟨xs, h, by rw [t.length]; exact Nat.le_refl _⟩
  · obtain ⟨xs, h, t⟩ := look s R
    obtain ⟨rfl, y⟩ := y
    obtain ⟨d', h1, h2⟩ := t.getV (y xs h)
    rw [hd] at h1; cases h1
    exact ⟨.refl, h2⟩
theorem walk_tpl {K : PySem.W.Frag} {G : Gd} {ds : List D} (hG : (V.ref a, D.tup ds) ∈ G.pins) : DWalk K M G (Itt K a) ds := by
  have look : ∀ {G2 om ρ σ H}, (∀ q ∈ G.pins, q ∈ G2.pins) → Rel K M G2 om ρ σ H → ∃ xs, SqT K H a xs ∧ DAll K (Own M G2 om) H xs ds := fun s R => by
    obtain ⟨a', xs, e, h, t⟩ := (R.pin _ (s _ hG)).sqT
    cases e
    exact ⟨xs, h, t⟩
  refine ⟨fun G2 i om ρ σ H s hi R => ?_, fun G2 om ρ σ H s R => ?_, fun G2 i om ρ σ H x H' d s hd R y => ?_⟩
  · obtain ⟨xs, h, t⟩ := look s R
    have hx : i < xs.length := by rw [t.length]; exact hi
    exact ⟨xs, xs[i], h, by simp [hx]⟩
  · obtain ⟨xs, h, t⟩ := look s R
    exact ⟨xs, h, by rw [t.length]; exact Nat.le_refl _⟩
  · obtain ⟨xs, h, t⟩ := look s R
    obtain ⟨rfl, y⟩ := y
    obtain ⟨d', h1, h2⟩ := t.getV (y xs h)
    rw [hd] at h1; cases h1
    exact ⟨.refl, h2⟩
theorem walk_sgn {K : PySem.W.Frag} {G : Gd} {x : Str} : DWalk K M G (Its x) (x.cps.toList.map fun c => .str ⟨#[c]⟩) := by
  refine ⟨fun G2 i om ρ σ H s hi R => ?_, fun G2 om ρ σ H s R => ?_, fun G2 i om ρ σ H v H' d s hd R y => ?_⟩
  · have : i < x.cps.size := by simpa using hi
    exact this
  · show x.cps.size ≤ _
    simp
  · obtain ⟨rfl, c, h1, rfl⟩ := y
    rw [List.getElem?_map, Array.getElem?_toList, h1] at hd
    cases hd
    exact ⟨.refl, .str _⟩
theorem pd_iseq (he : PE X e (tD X.K M E we)) : PI X tg e (tDI X.K M E (wiSeq we)) := by
  refine ⟨fun pins s σ H Rr I ⟨G, om, ρ, Xd, Qd, R, L, w, k⟩ => ?_⟩
  refine thn (he.run pins s σ H (fun x H1 => ∃ om1 ρ1 r, Rel X.K M (G.hold x r) om1 ρ1 σ H1 ∧ RsOk σ x r ∧ ∃ d ρ2 ds, r.out ρ1 = some (d, ρ2) ∧ itemsD d = some ds ∧ Qd ds ρ2) I ⟨G, om, ρ, Xd, _, R, L, w, fun om1 ρ1 v H1 r R1 h1 w1 => ⟨om1, ρ1, r, R1, h1, w1⟩⟩) fun v s1 ⟨x, H1, I1, r1, om1, ρ1, r, R1, h1, d, ρ2, ds, g, gi, w1⟩ => ?_
  obtain ⟨om2, _, hd, R2⟩ := R1.out h1 g
  have R3 := R2.pinned hd
  cases d with
  | lst zs =>
    cases gi
    obtain ⟨a, xs, rfl, _, h, t⟩ := hd.lst'
    obtain rfl : v = Value.ref a := r1
    exact it_list I1 (SqL.of h) (k om2 ρ2 H1 (G.pin (.ref a) (.lst ds)) ds _ .pin R3 (walk_lst (.inl List.mem_cons_self)) w1)
  | fls zs =>
    cases gi
    obtain ⟨a, xs, rfl, h, t⟩ := hd.fls'
    obtain rfl : v = Value.ref a := r1
    exact it_list I1 h (k om2 ρ2 H1 (G.pin (.ref a) (.fls ds)) ds _ .pin R3 (walk_lst (.inr List.mem_cons_self)) w1)
  | tup zs =>
    cases gi
    obtain ⟨a, xs, rfl, h, t⟩ := hd.sqT
    obtain rfl : v = Value.ref a := r1
    exact it_tup I1 h (k om2 ρ2 H1 (G.pin (.ref a) (.tup ds)) ds _ .pin R3 (walk_tpl List.mem_cons_self) w1)
  | str z =>
    cases gi
    cases hd
    obtain ⟨t, rfl⟩ := r1
    exact it_str I1 (k om2 ρ2 H1 _ _ _ .refl R2 walk_sgn w1)
  | _ => cases gi
end

/-! ### range -/
def rangeD (lo : Int) (n : Nat) : List D := (List.range n).map fun (i : Nat) => .int (lo + i)
def rangeC (lo c : Int) (n : Nat) : List D := (List.range n).map fun (i : Nat) => .int (lo + (i : Nat) * c)
theorem walk_rng {K : PySem.W.Frag} {M : MC} {G : Gd} {lo : Int} {n : Nat} : DWalk K M G (Itr lo n) (rangeD lo n) := by
  refine ⟨fun G2 i om ρ σ H s hi R => ?_, fun G2 om ρ σ H s R => ?_, fun G2 i om ρ σ H v H' d s hd R y => ?_⟩
  · have : i < n := by simpa [rangeD] using hi
    exact this
  · show n ≤ _
    simp [rangeD]
  · obtain ⟨rfl, rfl⟩ := y
    have hi : i < n := by simpa [rangeD] using (List.getElem?_eq_some_iff.mp hd).1
    rw [show (rangeD lo n)[i]? = some (.int (lo + i)) by simp [rangeD, hi]] at hd
    cases hd
    exact ⟨.refl, .int _⟩
theorem walk_rngC {K : PySem.W.Frag} {M : MC} {G : Gd} {lo c : Int} {n : Nat} : DWalk K M G (Itc lo c n) (rangeC lo c n) := by
  refine ⟨fun G2 i om ρ σ H s hi R => ?_, fun G2 om ρ σ H s R => ?_, fun G2 i om ρ σ H v H' d s hd R y => ?_⟩
  · have : i < n := by simpa [rangeC] using hi
    exact this
  · show n ≤ _
    simp [rangeC]
  · obtain ⟨rfl, rfl⟩ := y
    have hi : i < n := by simpa [rangeC] using (List.getElem?_eq_some_iff.mp hd).1
    rw [show (rangeC lo c n)[i]? = some (.int (lo + (i : Nat) * c)) by simp [rangeC, hi]] at hd
    cases hd
    exact ⟨.refl, .int _⟩
def sm62 (i : Int) : Prop := -4611686018427387904 ≤ i ∧ i < 4611686018427387904
def wiR1 (wa : WA) : WI := fun ρ X Q => wa ρ X fun rs ρ1 => ∃ j, gets ρ1 rs = some [.int j] ∧ sm62 j ∧ Q (rangeD 0 j.toNat) ρ1
def wiR2 (wa : WA) : WI := fun ρ X Q => wa ρ X fun rs ρ1 => ∃ i j, gets ρ1 rs = some [.int i, .int j] ∧ sm62 i ∧ sm62 j ∧ Q (rangeD i (j - i).toNat) ρ1
def wiR3 (wa : WA) : WI := fun ρ X Q => wa ρ X fun rs ρ1 => ∃ i j c n, gets ρ1 rs = some [.int i, .int j, .int c] ∧ RgC i j c n ∧ Q (rangeC i c n) ρ1
theorem BAll.ints1 {K : PySem.W.Frag} {O : Addr → Prop} {H : Hp} {vs : List V} {i : Int} (h : BAll K O H vs [.int i]) : vs = [.int i] := by
  obtain ⟨v, rfl, b⟩ := h.one
  rw [b.int]
theorem BAll.ints2 {K : PySem.W.Frag} {O : Addr → Prop} {H : Hp} {vs : List V} {i j : Int} (h : BAll K O H vs [.int i, .int j]) : vs = [.int i, .int j] := by
  obtain ⟨v, w, rfl, b, c⟩ := h.two
  rw [b.int, c.int]
theorem BAll.ints3 {K : PySem.W.Frag} {O : Addr → Prop} {H : Hp} {vs : List V} {i j c : Int} (h : BAll K O H vs [.int i, .int j, .int c]) : vs = [.int i, .int j, .int c] := by
  cases h with
  | cons a t => rw [a.int, t.ints2]
section
variable {X : Cx} {M : MC} {E : WX} {tg a b c : Expr} {wa : WA} {p pos : Pos}
theorem PI.weak {e : Expr} {t t' : TI} (h : PI X tg e t) (w : ∀ σ H R, t' σ H R → t σ H R) : PI X tg e t' := ⟨fun pins s σ H R I q => h.run pins s σ H R I (w σ H R q)⟩
theorem pd_r1 (hg : Gl X "range") (hm : X.mg "range" = none) (ha : PA X [a] (tDA X.K M E wa)) (hs : starEach [a] X.env = [(false, eval a X.env)] := by rfl) : PI X tg (.Call (.Name "range" p) [a] [] pos) (tDI X.K M E (wiR1 wa)) :=
  PI.weak (pi_range1 hg hm ha hs) fun σ H Rr ⟨G, om, ρ, Xd, Qd, R, L, w, k⟩ => ⟨G, om, ρ, Xd, _, R, L, w, fun om1 ρ1 vs H1 rs R1 h1 ⟨j, g, ⟨b1, b2⟩, w1⟩ => ⟨j, (R1.gets h1 g).ints1, by omega, by omega, k om1 ρ1 H1 _ _ _ .refl R1.unholds walk_rng w1⟩⟩
theorem pd_r2 (hg : Gl X "range") (hm : X.mg "range" = none) (ha : PA X [a, b] (tDA X.K M E wa)) (hs : starEach [a, b] X.env = [(false, eval a X.env), (false, eval b X.env)] := by rfl) (hs2 : starEach [b] X.env = [(false, eval b X.env)] := by rfl) :
    PI X tg (.Call (.Name "range" p) [a, b] [] pos) (tDI X.K M E (wiR2 wa)) :=
  PI.weak (pi_range2 hg hm ha hs hs2) fun σ H Rr ⟨G, om, ρ, Xd, Qd, R, L, w, k⟩ => ⟨G, om, ρ, Xd, _, R, L, w, fun om1 ρ1 vs H1 rs R1 h1 ⟨i, j, g, ⟨b1, b2⟩, ⟨b3, b4⟩, w1⟩ => ⟨i, j, (R1.gets h1 g).ints2, ⟨by omega, by omega, by omega, by omega⟩, k om1 ρ1 H1 _ _ _ .refl R1.unholds walk_rng w1⟩⟩
theorem pd_r3 (hg : Gl X "range") (hm : X.mg "range" = none) (ha : PA X [a, b, c] (tDA X.K M E wa)) (hs : starEach [a, b, c] X.env = (false, eval a X.env) :: starEach [b, c] X.env := by rfl) (hpl : (backTo pos (starEach [b, c] X.env)).any (·.1) = false := by rfl) :
    PI X tg (.Call (.Name "range" p) [a, b, c] [] pos) (tDI X.K M E (wiR3 wa)) :=
  PI.weak (pi_range3 hg hm ha hs hpl) fun σ H Rr ⟨G, om, ρ, Xd, Qd, R, L, w, k⟩ => ⟨G, om, ρ, Xd, _, R, L, w, fun om1 ρ1 vs H1 rs R1 h1 ⟨i, j, c, n, g, hr, w1⟩ => ⟨i, j, c, n, (R1.gets h1 g).ints3, hr, k om1 ρ1 H1 _ _ _ .refl R1.unholds walk_rngC w1⟩⟩
end

/-! ### for -/
def forD (g : WG) (tb : WS) : List D → WS
  | [] => fun ρ _ D => D.nx ρ
  | d :: ds => fun ρ X D => g d ρ fun ρ1 => tb ρ1 X { D with nx := fun ρ2 => forD g tb ds ρ2 X D, ct := fun ρ2 => forD g tb ds ρ2 X D, bk := D.nx }
def wsFor (wi : WI) (g : WG) (tb : WS) : WS := fun ρ X D => wi ρ X fun ds ρ1 => forD g tb ds ρ1 X D
section
variable {X : Cx} {M : MC} {E : WX} {tg iter : Expr} {body : List Stmt} {pos : Pos} {wi : WI} {S : List Nat} {g : WG} {tb : WS}
theorem More.hold {G G' : Gd} (m : More G G') (v : V) (r : Rs) : More (G.hold v r) (G'.hold v r) := by
  cases r with
  | val d => exact ⟨m.h0, fun q hq => (List.mem_cons.mp hq).elim (fun z => z ▸ List.mem_cons_self) fun z => List.mem_cons_of_mem _ (m.pins q z), m.hid⟩
  | slt i => exact m
  | new d => cases v <;> first | exact m | exact ⟨m.h0, m.pins, congrArg (List.cons _) m.hid⟩
theorem for_all {K : PySem.W.Frag} : ∀ D σ H, tDS K M E (wsFor wi g tb) D σ H → tFor (tDI K M E wi) (tDG K M S g) (tDS K M E tb) D σ H := by
  rintro D σ H ⟨G, om, ρ, Xd, Qd, R, L, w, k1, k2, k3, k4⟩
  refine ⟨G, om, ρ, Xd, _, R, L, w, fun om1 ρ1 H1 G1 ds J m R1 wk w1 => ?_⟩
  have R1' : Rel K M G1 om1 ρ1 σ H1 := R1
  refine ⟨fun i n σ H => n = ds.length - i ∧ i ≤ ds.length ∧ ∃ om ρ, Rel K M G1 om ρ σ H ∧ forD g tb (ds.drop i) ρ Xd Qd, ⟨ds.length, by simp, Nat.zero_le _, om1, ρ1, R1', by simpa using w1⟩, ?_⟩
  rintro i n σ2 H2 ⟨rfl, hi, om2, ρ2, R2, w2⟩
  by_cases hl : i < ds.length
  · refine .inr ⟨wk.goes G1 i _ _ _ _ (fun _ h => h) hl R2, fun σ3 H3 => ∃ om ρ, Rel K M G1 om ρ σ3 H3 ∧ forD g tb (ds.drop (i + 1)) ρ Xd Qd, fun σ3 H3 ⟨om3, ρ3, R3, w3⟩ => ⟨ds.length - (i + 1), by omega, rfl, hl, om3, ρ3, R3, w3⟩, fun x H3 y => ?_⟩
    have e : ds.drop i = ds[i] :: ds.drop (i + 1) := (List.getElem_cons_drop hl).symm
    rw [e] at w2
    obtain ⟨n, hd⟩ := wk.ylds G1 i _ _ _ _ x H3 ds[i] (fun _ h => h) (by simp [hl]) R2 y
    refine ⟨G1, om2, ρ2, ds[i], _, R2.nw n, hd, w2, fun om3 ρ3 σ3 R3 _ w3 => ?_⟩
    exact ⟨G1, om3, ρ3, Xd, _, R3, m.lnk L, w3, fun om4 ρ4 σ4 H4 R4 w4 => ⟨om4, ρ4, R4, w4⟩, fun om4 ρ4 σ4 v H4 r R4 h4 w4 => k2 om4 ρ4 σ4 v H4 r ((m.hold v r).rel R4) h4 w4, fun om4 ρ4 σ4 H4 R4 w4 => k1 om4 ρ4 σ4 H4 (m.rel R4) w4, fun om4 ρ4 σ4 H4 R4 w4 => ⟨om4, ρ4, R4, w4⟩⟩
  · have e : i = ds.length := by omega
    subst e
    rw [List.drop_length] at w2
    exact .inl ⟨wk.stops G1 _ _ _ _ (fun _ h => h) R2, k1 om2 ρ2 σ2 H2 (m.rel R2) w2⟩
theorem pd_for (hp : PassesOwn (model X.prog X.w) X.A X.env X.xe) (hc : X.calm = true) (hi : PI X tg iter (tDI X.K M E wi)) (hg : PG X tg (tDG X.K M S g)) (hb : PSs X body (tDS X.K M E tb))
    (hs : ∀ x, foldedSetIterable iter X.env x = pure x := by intro _; rfl) : PS X (.For tg iter body [] pos) (tDS X.K M E (wsFor wi g tb)) := PS.weak (ps_for hp hc hi hg hb hs) for_all

/-! ### while -/
def whD (c : WT) (tb : WS) : Nat → WS
  | 0 => fun _ _ _ => False
  | n + 1 => fun ρ X D => c ρ X fun b ρ1 => if b = true then tb ρ1 X { D with nx := fun ρ2 => whD c tb n ρ2 X D, ct := fun ρ2 => whD c tb n ρ2 X D, bk := D.nx } else D.nx ρ1
def wsWh (c : WT) (tb : WS) : WS := fun ρ X D => ∃ n, whD c tb n ρ X D
theorem wh_all {K : PySem.W.Frag} {c : WT} : ∀ D σ H, tDS K M E (wsWh c tb) D σ H → tWhile (tDT K M E c) (tDS K M E tb) D σ H := by
  rintro D σ H ⟨G, om, ρ, Xd, Qd, R, L, ⟨n, w⟩, k1, k2, k3, k4⟩
  refine ⟨fun n σ H => ∃ om ρ, Rel K M G om ρ σ H ∧ whD c tb n ρ Xd Qd, ⟨n, om, ρ, R, w⟩, ?_⟩
  rintro n σ2 H2 ⟨om2, ρ2, R2, w2⟩
  cases n with
  | zero => exact w2.elim
  | succ n =>
    refine ⟨G, om2, ρ2, Xd, _, R2, L, w2, fun om3 ρ3 b H3 R3 w3 => ?_⟩
    cases b with
    | false => exact k1 om3 ρ3 σ2 H3 R3 w3
    | true =>
      refine ⟨fun σ4 H4 => ∃ om ρ, Rel K M G om ρ σ4 H4 ∧ whD c tb n ρ Xd Qd, fun σ4 H4 q => ⟨n, Nat.lt_succ_self n, q⟩, ?_⟩
      exact ⟨G, om3, ρ3, Xd, _, R3, L, w3, fun om4 ρ4 σ4 H4 R4 w4 => ⟨om4, ρ4, R4, w4⟩, k2, fun om4 ρ4 σ4 H4 R4 w4 => k1 om4 ρ4 σ4 H4 R4 w4, fun om4 ρ4 σ4 H4 R4 w4 => ⟨om4, ρ4, R4, w4⟩⟩
theorem pd_while {c : Expr} {t : WT} (hp : PassesOwn (model X.prog X.w) X.A X.env X.xe) (hc : PT X c (tDT X.K M E t)) (hb : PSs X body (tDS X.K M E tb)) : PS X (.While c body [] pos) (tDS X.K M E (wsWh t tb)) := PS.weak (ps_while hp hc hb) wh_all
end

/-! ### list comprehensions -/
def wipeR (ρ : Rho) : List Nat → Rho
  | [] => ρ
  | i :: is => wipeR (ρ.set i none) is
def noX : XD := fun _ _ => False
def noE : WX := fun _ _ _ _ => False
def lcD (g : WG) (tt : WT) (te : WE) (vs : List Nat) : List D → List D → Rho → (Rs → Rho → Prop) → Prop
  | [], acc, ρ, Q => Q (.new (.lst acc)) ρ
  | d :: ds, acc, ρ, Q => g d ρ fun ρ2 => tt ρ2 noX fun b ρ3 => if b = true then te ρ3 noX fun r ρ4 => ∃ d' ρ5, r.out ρ4 = some (d', ρ5) ∧ acc.length < 16777216 ∧ lcD g tt te vs ds (acc ++ [d']) (wipeR ρ5 vs) Q
    else lcD g tt te vs ds acc (wipeR ρ3 vs) Q
def wLc (wi : WI) (g : WG) (tt : WT) (te : WE) (vs : List Nat) : WE := fun ρ X Q => wi ρ X fun ds ρ1 => lcD g tt te vs ds [] (wipeR ρ1 vs) Q
def wYes : WT := fun ρ _ Q => Q true ρ
theorem wipeR_len : ∀ (vs : List Nat) (ρ : Rho), (wipeR ρ vs).length = ρ.length
  | [], _ => rfl
  | i :: is, ρ => by unfold wipeR; rw [wipeR_len is, List.length_set]
theorem wipeR_get : ∀ (vs : List Nat) (ρ : Rho) (i : Nat) (c : Cell), (wipeR ρ vs)[i]? = some (some c) → ρ[i]? = some (some c) ∧ i ∉ vs
  | [], _, _, _, h => ⟨h, by simp⟩
  | j :: js, ρ, i, c, h => by
    unfold wipeR at h
    obtain ⟨h1, h2⟩ := wipeR_get js _ i c h
    by_cases e : j = i
    · subst e
      by_cases hl : j < ρ.length
      · rw [List.getElem?_set_self hl] at h1; cases h1
      · rw [List.getElem?_eq_none (by simpa using hl)] at h1; cases h1
    · rw [List.getElem?_set_ne e] at h1
      exact ⟨h1, by simp [Ne.symm e, h2]⟩
theorem wipe_cons (σ : St) (j : Nat) (js : List Nat) : wipe σ (j :: js) = (wipe σ js).set j none := rfl
theorem wipe_len (σ : St) : ∀ vs : List Nat, (wipe σ vs).length = σ.length
  | [] => rfl
  | i :: is => by rw [wipe_cons, List.length_set, wipe_len σ is]
theorem wipe_get (σ : St) : ∀ (vs : List Nat) (i : Nat), i ∉ vs → (wipe σ vs)[i]? = σ[i]?
  | [], _, _ => rfl
  | j :: js, i, h => by
    rw [wipe_cons, List.getElem?_set_ne fun z => h (List.mem_cons.mpr (.inl z.symm))]
    exact wipe_get σ js i fun z => h (List.mem_cons_of_mem _ z)
theorem wipe_in (σ : St) : ∀ (vs : List Nat) (i : Nat), i ∈ vs → i < σ.length → (wipe σ vs)[i]? = some none
  | j :: js, i, h, hl => by
    rw [wipe_cons]
    by_cases e : j = i
    · subst e
      rw [List.getElem?_set_self (by rw [wipe_len]; exact hl)]
    · rw [List.getElem?_set_ne e]
      exact wipe_in σ js i ((List.mem_cons.mp h).resolve_left (Ne.symm e)) hl
/-- the block's own slots alone were set -/
theorem wipe_same {S vs : List Nat} {σ σ' : St} (hS : ∀ i ∈ S, i ∈ vs) (hl : σ'.length = σ.length) (h : ∀ i, i ∉ S → σ'[i]? = (wipe σ vs)[i]?) : wipe σ' vs = wipe σ vs := by
  apply List.ext_getElem?
  intro i
  by_cases hi : i ∈ vs
  · by_cases hlt : i < σ.length
    · rw [wipe_in σ vs i hi hlt, wipe_in σ' vs i hi (by omega)]
    · rw [List.getElem?_eq_none (by rw [wipe_len]; omega), List.getElem?_eq_none (by rw [wipe_len]; omega)]
  · rw [wipe_get σ' vs i hi, h i fun z => hi (hS i z)]
theorem Rel.wipes {K : PySem.W.Frag} {M : MC} {G : Gd} {om : Om} {ρ : Rho} {σ σ' : St} {H : Hp} {vs : List Nat} (R : Rel K M G om ρ σ H) (hl : σ'.length = σ.length) (h : ∀ i, i ∉ vs → σ'[i]? = σ[i]?) : Rel K M G om (wipeR ρ vs) σ' H :=
  R.forget (by rw [wipeR_len, R.len, hl]) fun i c e => by
    obtain ⟨h1, h2⟩ := wipeR_get vs ρ i c e
    exact ⟨h1, h i h2⟩
theorem More.hide {G G' : Gd} (m : More G G') {p : Addr} {d : D} : More (G.hide p d) (G'.hide p d) := ⟨m.h0, m.pins, congrArg (List.cons _) m.hid⟩
theorem Lnk.no {K : PySem.W.Frag} {M : MC} {G : Gd} {E : WX} : Lnk K M G E noX := fun _ _ _ _ _ _ _ _ _ h => h.elim
section
variable {X : Cx} {M : MC} {E : WX} {wi : WI} {S : List Nat} {g : WG} {tt : WT} {te : WE} {vs : List Nat}
theorem lc_all {K : PySem.W.Frag} (hS : ∀ i ∈ S, i ∈ vs) : ∀ σ H Q, tD K M E (wLc wi g tt te vs) σ H Q → tLc (tDI K M E wi) (tDG K M S g) (tDT K M noE tt) (tD K M noE te) vs σ H Q := by
  rintro σ H Q ⟨G, om, ρ, Xd, Qd, R, L, w, k⟩
  refine ⟨G, om, ρ, Xd, _, R, L, w, fun om1 ρ1 H1 G1 ds J m R1 wk w1 p hp => ?_⟩
  have R2 : Rel K M (G1.hide p (.lst [])) om1 (wipeR ρ1 vs) σ (upd H1 p (.lst [])) := (R1.wipes rfl fun _ _ => rfl).hidden hp .nil
  refine ⟨fun i n H => n = ds.length - i ∧ i ≤ ds.length ∧ ∃ om ρ acc, Rel K M (G1.hide p (.lst acc)) om (wipeR ρ vs) σ H ∧ lcD g tt te vs (ds.drop i) acc (wipeR ρ vs) Qd, ⟨ds.length, by simp, Nat.zero_le _, om1, ρ1, [], R2, by simpa using w1⟩, ?_⟩
  rintro i n H3 ⟨rfl, hi, om3, ρ3, acc, R3, w3⟩
  by_cases hl : i < ds.length
  · refine .inr ⟨wk.goes (G1.hide p (.lst acc)) i _ _ _ _ (fun _ h => h) hl R3, fun H4 => ∃ om ρ acc, Rel K M (G1.hide p (.lst acc)) om (wipeR ρ vs) σ H4 ∧ lcD g tt te vs (ds.drop (i + 1)) acc (wipeR ρ vs) Qd, fun H4 ⟨om4, ρ4, acc4, R4, w4⟩ => ⟨ds.length - (i + 1), by omega, rfl, hl, om4, ρ4, acc4, R4, w4⟩, fun x H4 y => ?_⟩
    have e : ds.drop i = ds[i] :: ds.drop (i + 1) := (List.getElem_cons_drop hl).symm
    rw [e] at w3
    obtain ⟨nw, hd⟩ := wk.ylds (G1.hide p (.lst acc)) i _ _ _ _ x H4 ds[i] (fun _ h => h) (by simp [hl]) R3 y
    have R4 : Rel K M (G1.hide p (.lst acc)) om3 (wipeR ρ3 vs) (wipe σ vs) H4 := (R3.nw nw).forget (by rw [wipe_len, ← R3.len]) fun j c ej => ⟨ej, wipe_get σ vs j (wipeR_get vs ρ3 j c ej).2⟩
    have back : ∀ {om ρ : _} {σ5 : St} {H : Hp} {acc : List Dl.D}, σ5.length = σ.length → (∀ j, j ∉ vs → σ5[j]? = σ[j]?) → Rel K M (G1.hide p (.lst acc)) om ρ σ5 H → Rel K M (G1.hide p (.lst acc)) om (wipeR ρ vs) σ H := fun e1 e2 R => R.wipes e1.symm fun j hj => (e2 j hj).symm
    refine ⟨G1.hide p (.lst acc), om3, _, ds[i], _, R4, hd, w3, fun om5 ρ5 σ5 R5 s5 w5 => ?_⟩
    have l5 : σ5.length = σ.length := s5.1.trans (wipe_len σ vs)
    have g5 : ∀ j, j ∉ vs → σ5[j]? = σ[j]? := fun j hj => (s5.2 j fun z => hj (hS j z)).trans (wipe_get σ vs j hj)
    refine ⟨wipe_same hS l5 s5.2, G1.hide p (.lst acc), om5, ρ5, noX, _, R5, Lnk.no, w5, fun om6 ρ6 b H6 R6 w6 => ?_⟩
    cases b with
    | false => exact ⟨om6, ρ6, acc, back l5 g5 R6, w6⟩
    | true =>
      refine ⟨G1.hide p (.lst acc), om6, ρ6, noX, _, R6, Lnk.no, w6, fun om7 ρ7 v H7 r R7 h7 ⟨d', ρ8, gd, hz, w7⟩ => ?_⟩
      obtain ⟨om8, s8, hd8, R8⟩ := R7.out h7 gd
      obtain ⟨⟨o, ho, ko⟩, _, _⟩ := R8.hid (p, .lst acc) List.mem_cons_self
      cases o with
      | lst xs =>
        have ko : DAll K (Own M (G1.hide p (.lst acc)) om8) H7 xs acc := ko
        refine ⟨xs, ho, by rw [ko.length, sizeLine_eq]; exact hz, om8, ρ8, acc ++ [d'], back l5 g5 (R8.hidPut (d' := .lst (acc ++ [d'])) (ko.append (.cons hd8 .nil))), w7⟩
      | _ => exact ko.elim
  · have e : i = ds.length := by omega
    subst e
    rw [List.drop_length] at w3
    exact .inl ⟨wk.stops (G1.hide p (.lst acc)) _ _ _ _ (fun _ h => h) R3, k om3 _ (.ref p) H3 (.new (.lst acc)) (m.hide.rel R3) ⟨p, rfl⟩ w3⟩
end
end Dl

set_option Elab.async false
set_option linter.all false
set_option maxRecDepth 100000
set_option maxHeartbeats 4000000
/-! DlG: defs and their promises over data. -/
namespace Dl
open PySem L2
open PyProof.Rows (envOfC)

/-- a def's promise where no repr runs around -/
structure FnG (P : Program) (w : World) (K : PySem.W.Frag) (mg : Str → Option Value) (base : Heap) (k : Nat) (f : Addr) (fd : FuncData) (ps : List Str) (sp : Sp) : Prop where
  len : ∀ vs H Q E, sp vs H Q E → vs.length = ps.length
  run : ∀ (A : Around) (outer : List Env) (s : Shared) (H : Hp) (args : Args) (us : List Value) (vs : List V) (Q : VK) (E : XK), A.guards = some [] → Room k A → Env0 P w K mg base A outer s H →
    BindsTo s fd args (ps.zip us) → Vals vs us → sp vs H Q E → codeAny (model P w) A (.call (.ref f) args) (CR (L2.CX P w) outer P w H s Q E) s
section
variable {P : Program} {w : World} {K : PySem.W.Frag} {mg : Str → Option Value} {base : Heap} {f : Addr} {fd : FuncData} {ps : List Str} {sp : Sp}
theorem FnG.mono {j k : Nat} (F : FnG P w K mg base j f fd ps sp) (h : j ≤ k) : FnG P w K mg base k f fd ps sp :=
  ⟨F.len, fun A outer s H args us vs Q E hg hr => F.run A outer s H args us vs Q E hg (hr.mono h)⟩
abbrev cxG (P : Program) (w : World) (K : PySem.W.Frag) (mg : Str → Option Value) (base : Heap) (N : List Str) (qual : Str) (sc : Scope) (f : Addr) (cd : Value) (A : Around) (outer : List Env) (s : Shared) (H : Hp) (E : XK) : Cx :=
  cxOf (L2.CX P w) P w K mg base N qual sc f cd A outer s H E
/-- by the body -/
theorem fnG_of {x qual : Str} {st : Stmt} {N : List Str} {k : Nat} (F : Fun K x qual st f fd) (S : FnScope N ps (defScope st)) (len : ∀ vs H Q E, sp vs H Q E → vs.length = ps.length)
    (body : ∀ (cd : Value) (A : Around) (outer : List Env) (s : Shared) (H : Hp) (vs : List V) (Q : VK) (E : XK), A.guards = some [] → Room k (A.deeper (envOfC qual (defScope st) s.heap.objs.size f cd)) → sp vs H Q E →
      ∃ t, PSs (cxG P w K mg base N qual (defScope st) f cd A outer s H E) (defBody st) t ∧ t { nx := fun _ H1 => Q .non H1, rt := Q } (start N vs) H) : FnG P w K mg base (k + 1) f fd ps sp := by
  obtain ⟨oc, od, kV, doc, pm, an, cd, ct, osl, rfl, lk, hcd⟩ := F.ex
  refine ⟨len, fun A outer s H args us vs Q E hG hr e0 hb rv hsp => ?_⟩
  have inK : K.In s.heap := e0.mod.kin.keeps fun b o e => (e0.bs b o e).1
  have noL : s.heap.NoLimit := e0.mod.nolimit.keeps fun b o e => (e0.bs b o e).1
  have kinds : ∀ y ∈ ps.zip us, (defScope st).names.lookup y.1 = some .local ∨ ((defScope st).names.lookup y.1 = some .cell ∧ ((cellsFrom (s.heap.objs.size + 1) (defScope st).names []).lookup y.1).isSome = true) := by
    rintro ⟨n, v⟩ hy
    cases S.par n (List.of_mem_zip hy).1 with
    | inl q => exact .inl q
    | inr q => exact .inr ⟨q, PySem.W.cellsFrom_some _ _ _ (.inl q)⟩
  apply codeAny_call_function hr.depth (inK _ _ lk) rfl S.co S.gen rfl (PySem.W.codeRec_of inK hcd)
  apply hb
  apply wpAny_newFunctionEnv_cells S.kind kinds
  intro env he s1 x
  subst he
  refine ⟨noL.keeps x.toInCall.keep, codeAny_func ?_⟩
  obtain ⟨t, ht, hq⟩ := body cd A outer s H vs Q E hG (hr.deeper _) hsp
  have I := inv_start (CX := L2.CX P w) (f := f) (cd := cd) (qual := qual) (E := E) S hr.hd e0 (len _ _ _ _ hsp) rv x
  refine wpAny_mono (ht.run [] s1 (start N vs) H _ I hq) (fun fl s2 hs => ?_) fun e s2 hs => hs
  cases fl with
  | ret u =>
    obtain ⟨v, σ2, H2, J, r2, q⟩ := hs
    exact ⟨v, H2, J.os, J.bare, J.base, J.hok, r2, q⟩
  | next =>
    obtain ⟨σ2, H2, J, q⟩ := hs
    exact ⟨.non, H2, J.os, J.bare, J.base, J.hok, rfl, q⟩
  | brk => obtain ⟨_, _, _, q⟩ := hs; exact q.elim
  | cont => obtain ⟨_, _, _, q⟩ := hs; exact q.elim
end
section
variable {X : Cx} {k : Nat} {f : Addr} {fd : FuncData} {ps ks : List Str} {sp : Sp} {E : XK} {pins : List (Addr × Obj)} {σ : St} {H : Hp} {s : Shared} {Q : VK} {us ws : List Value} {vs zs : List V} {g : List Value → List Value → List Value} {gV : List V → List V → List V}
/-- the callee runs, its arguments in the parameters' order -/
theorem run_G {args : Args} (F : FnG X.prog X.w X.K X.mg X.base k f fd ps sp) (hG : X.A.guards = some []) (hr : Room k X.A) (hx : Passes (L2.CX X.prog X.w) X E) (hb : BindsTo s fd args (ps.zip us)) (I : Inv X pins σ H s) (r : Vals vs us) (h : sp vs H Q E) :
    codeAny (model X.prog X.w) X.A (.call (.ref f) args) (fun r s1 => match r with | .ok (.ret v) => EP X pins σ Q v s1 | .ok _ => False | .error e => X.xe e s1) s := by
  refine codeAny_mono (F.run X.A X.stack s H args us vs Q E hG hr I.env0 hb r h) fun q s1 z => ?_
  match q, z with
  | .error e, z => exact hx pins σ H s e s1 I z
  | .ok (.ret u), z => exact I.after z
  | .ok .next, z => exact z
  | .ok .brk, z => exact z
  | .ok .cont, z => exact z
theorem run_GP (F : FnG X.prog X.w X.K X.mg X.base k f fd ps sp) (hG : X.A.guards = some []) (hr : Room k X.A) (hx : Passes (L2.CX X.prog X.w) X E) (hb : Binds X.K fd ps []) (I : Inv X pins σ H s) (r : Vals vs us) (h : sp vs H Q E) :
    wpAny (model X.prog X.w) X.A (call (.ref f) us) (EP X pins σ Q) X.xe s := by
  have hl : us.length = ps.length := r.length.symm.trans (F.len _ _ _ _ h)
  have hb2 := hb s us I.kIn (by rw [List.append_nil]; exact hl)
  rw [List.append_nil] at hb2
  refine wpAny_call (codeAny_mono (run_G F hG hr hx hb2 I r h) fun q s1 z => ?_)
  match q, z with
  | .error e, z => exact z
  | .ok (.ret u), z => exact z
theorem run_GK (F : FnG X.prog X.w X.K X.mg X.base k f fd ps sp) (hG : X.A.guards = some []) (hr : Room k X.A) (hx : Passes (L2.CX X.prog X.w) X E) (hb : KBn X.K fd ps vs.length ks g gV) (I : Inv X pins σ H s) (r : Vals vs us) (rz : Vals zs ws) (hz : zs.length = ks.length) (h : sp (gV vs zs) H Q E) :
    wpAny (model X.prog X.w) X.A (call (.ref f) us (ks.zip ws)) (EP X pins σ Q) X.xe s := by
  have hb2 := hb.to s us ws I.kIn r.length.symm (rz.length.symm.trans hz)
  refine wpAny_call (codeAny_mono (run_G F hG hr hx hb2 I (hb.rel r rz) h) fun q s1 z => ?_)
  match q, z with
  | .error e, z => exact z
  | .ok (.ret u), z => exact z
end

/-! ### promises over data -/
def Keeps (M : MC) (H H' : Hp) : Prop := (∀ a o, ¬ M.O a → H a = some o → H' a = some o) ∧ M.MI H'
/-- what a call tells: a datum, or a new object that is the asker's own -/
def ResAt (K : PySem.W.Frag) (M : MC) (H H' : Hp) (v : V) : Rs → Prop
  | .val d => DAt K M.O H' v d
  | .new d => ∃ p, v = .ref p ∧ H p = none ∧ ¬ M.O p ∧ Top K (fun a => M.O a ∨ a = p) H' p d
  | .slt _ => False
abbrev DSp := MC → List D → (Rs → Prop) → (Ex → Prop) → Prop
def spD (K : PySem.W.Frag) (n : Nat) (sp : DSp) : Sp := fun vs H Q E => ∃ M ds Qd Ed, M.MI H ∧ DAll K M.O H vs ds ∧ ds.length = n ∧ sp M ds Qd Ed ∧ (∀ v H' r, Keeps M H H' → ResAt K M H H' v r → Qd r → Q v H') ∧
  ∀ cls dd H' e, Keeps M H H' → ExAt K M.O H' cls dd e → Ed e → E cls dd H'
/-- the parameters' slots -/
def rho0 (n : Nat) (ds : List D) : Rho := ds.map (fun d => some (.sh d)) ++ List.replicate (n - ds.length) none
/-- the ends of a def's body: told anew where just the datum is asked -/
def endD (Qd : Rs → Prop) : ED := { nx := fun _ => Qd (.val .non), rt := fun r => match r with | .val d => Qd (.val d) | .new d => Qd (.new d) ∨ Qd (.val d) | .slt _ => False, bk := fun _ => False, ct := fun _ => False }
def excD (Ed : Ex → Prop) : XD := fun e _ => Ed e
theorem Rel.start {K : PySem.W.Frag} {M : MC} {H : Hp} {vs : List V} {ds : List D} {N : List Str} (mi : M.MI H) (h : DAll K M.O H vs ds) (hl : ds.length ≤ N.length) : Rel K M ⟨H, [], []⟩ (fun _ => none) (rho0 N.length ds) (start N vs) H := by
  have own : ∀ a, Own M ⟨H, [], []⟩ (fun _ => none) a → M.O a := by
    rintro a (z | ⟨i, z⟩ | ⟨d, z⟩)
    · exact z
    · exact nomatch z
    · exact nomatch z
  refine ⟨fun i c e => ?_, fun i j p e => (nomatch e), fun i p e => (nomatch e), fun a o _ e => e, mi, fun q hq => (nomatch hq), fun q hq => (nomatch hq), List.nodup_nil, ?_⟩
  · unfold rho0 at e
    by_cases hi : i < ds.length
    · rw [List.getElem?_append_left (by simpa using hi), List.getElem?_map] at e
      obtain ⟨d, hd⟩ : ∃ d, ds[i]? = some d := ⟨ds[i], List.getElem?_eq_getElem hi⟩
      rw [hd] at e
      cases e
      obtain ⟨v, hv, a⟩ := h.get hd
      refine ⟨v, ?_, a.stay (stay_sub own)⟩
      unfold L2.start
      rw [List.getElem?_append_left (by simp; exact (List.getElem?_eq_some_iff.mp hv).1), List.getElem?_map, hv]
      rfl
    · rw [List.getElem?_append_right (by simpa using hi), List.getElem?_replicate] at e
      split at e <;> cases e
  · unfold rho0 L2.start
    rw [List.length_append, List.length_append, List.length_map, List.length_map, List.length_replicate, List.length_replicate, h.length]
/-- THE RULE -/
theorem fnD {P : Program} {w : World} {K : PySem.W.Frag} {mg : Str → Option Value} {base : Heap} {f : Addr} {fd : FuncData} {ps : List Str} {sp : DSp} {x qual : Str} {st : Stmt} {N : List Str} {k : Nat} {W : MC → WS} (F : Fun K x qual st f fd) (S : FnScope N ps (defScope st))
    (body : ∀ (M : MC) (cd : Value) (A : Around) (outer : List Env) (s : Shared) (H : Hp) (E : XK), A.guards = some [] → Room k (A.deeper (envOfC qual (defScope st) s.heap.objs.size f cd)) →
      PSs (cxG P w K mg base N qual (defScope st) f cd A outer s H E) (defBody st) (tDS K M (fun cls dd _ H => E cls dd H) (W M)))
    (law : ∀ M ds Qd Ed, ds.length = ps.length → sp M ds Qd Ed → W M (rho0 N.length ds) (excD Ed) (endD Qd)) : FnG P w K mg base (k + 1) f fd ps (spD K ps.length sp) := by
  refine fnG_of F S (fun vs H Q E ⟨M, ds, Qd, Ed, _, h, hl, _⟩ => h.length.trans hl) fun cd A outer s H vs Q E hG hr ⟨M, ds, Qd, Ed, mi, h, hl, hs, k1, k2⟩ => ?_
  have hlN : ds.length ≤ N.length := by
    have e := congrArg List.length S.pre
    rw [List.length_take] at e
    omega
  have own : ∀ {om : Om} {a : Addr}, M.O a → Own M ⟨H, [], []⟩ om a := fun z => .inl z
  have kp : ∀ {om ρ σ H1}, Rel K M ⟨H, [], []⟩ om ρ σ H1 → Keeps M H H1 := fun R => ⟨R.base, R.mi⟩
  refine ⟨_, body M cd A outer s H E hG hr, ⟨H, [], []⟩, fun _ => none, _, excD Ed, endD Qd, Rel.start mi h hlN, fun om ρ σ H1 cls dd e R ⟨h1, a, y, h2, h3, h4⟩ he => ?_, law M ds Qd Ed hl hs, fun om ρ σ H1 R q => ?_, fun om ρ σ v H1 r R hr q => ?_, fun _ _ _ _ _ q => q.elim, fun _ _ _ _ _ q => q.elim⟩
  · exact k2 cls dd H1 e (kp R) ⟨h1, a, y, h2, h3, h4.stay (stay_sub fun a z => .inl z)⟩ he
  · exact k1 .non H1 (.val .non) (kp R) .non q
  · have val : ∀ d, DAt K (Own M ⟨H, [], []⟩ om) H1 v d → Qd (.val d) → Q v H1 := fun d a q => k1 v H1 (.val d) (kp R.unhold) (a.stay (stay_sub fun a z => .inl z)) q
    cases r with
    | val d =>
      obtain ⟨R, a⟩ := Rel.unpin R
      exact val d a q
    | slt i => exact False.elim q
    | new d =>
      obtain ⟨p, rfl⟩ := hr
      rcases q with q | q
      · obtain ⟨t, h1, h2⟩ := R.hid (p, d) List.mem_cons_self
        refine k1 _ H1 (.new d) (kp R.unhold) ⟨p, rfl, h1, h2, t.stay (stay_sub ?_) rfl⟩ q
        rintro a (z | z)
        · exact .inl z
        · exact .inr (.inr ⟨d, by rw [z]; exact List.mem_cons_self⟩)
      · obtain ⟨R, a⟩ := Rel.unhide R
        exact val d a q
end Dl

set_option Elab.async false
set_option linter.all false
set_option maxRecDepth 100000
set_option maxHeartbeats 4000000
/-! DlH: calls of the program's own defs, over data. -/
namespace Dl
open PySem L2

/-! ### the hidden objects grow -/
structure Mext (M M' : MC) : Prop where
  sub : ∀ a, M.O a → M'.O a
  get : ∀ H, M'.MI H → M.MI H
  put : ∀ H H', M'.MI H → (∀ a, M'.O a → ¬ M.O a → H' a = H a) → M.MI H' → M'.MI H'
theorem Mext.refl (M : MC) : Mext M M := ⟨fun _ h => h, fun _ h => h, fun _ _ _ _ h => h⟩
theorem Mext.trans {M M1 M2 : MC} (a : Mext M M1) (b : Mext M1 M2) : Mext M M2 :=
  ⟨fun x h => b.sub x (a.sub x h), fun H h => a.get H (b.get H h), fun H H' h k m => b.put H H' h (fun x h1 h2 => k x h1 fun z => h2 (a.sub x z)) (a.put H H' (b.get H h) (fun x h1 h2 => k x (b.sub x h1) h2) m)⟩
section
variable {K : PySem.W.Frag} {M : MC} {G : Gd} {om om' : Om} {ρ ρ' : Rho} {σ : St} {H H' : Hp}
theorem Rel.ownAt (R : Rel K M G om ρ σ H) {a : Addr} (h : Own M G om a) : H a ≠ none := by
  rcases h with z | ⟨i, z⟩ | ⟨d, z⟩
  · exact M.al H a R.mi z
  · exact (R.own i a z).2.2.1
  · exact (R.hid _ z).1.ne
/-- all that is owned, hidden from a callee -/
def mcAt (M : MC) (O : Addr → Prop) (H : Hp) (h1 : ∀ a, M.O a → O a) (h2 : ∀ a, O a → H a ≠ none) : MC where
  O := O
  MI := fun H' => M.MI H' ∧ ∀ a, O a → ¬ M.O a → H' a = H a
  loc := fun H1 H2 e ⟨m, k⟩ => ⟨M.loc H1 H2 (fun a z => e a (h1 a z)) m, fun a z n => (e a z).trans (k a z n)⟩
  al := fun H1 a ⟨m, k⟩ z => by
    by_cases n : M.O a
    · exact M.al H1 a m n
    · rw [k a z n]; exact h2 a z
theorem mcAt_ext {O : Addr → Prop} {h1 : ∀ a, M.O a → O a} {h2 : ∀ a, O a → H a ≠ none} : Mext M (mcAt M O H h1 h2) :=
  ⟨h1, fun _ h => h.1, fun H1 H2 h k m => ⟨m, fun a z n => (k a z n).trans (h.2 a z n)⟩⟩
/-- behind a callee -/
theorem Rel.called (R : Rel K M G om ρ σ H) {O : Addr → Prop} {h1 : ∀ a, M.O a → O a} {h2 : ∀ a, O a → H a ≠ none} (k : Keeps (mcAt M O H h1 h2) H H') : Rel K M G om ρ σ H' := by
  refine R.grow (fun a o n e => ?_) k.2.1
  by_cases z : O a
  · rw [k.2.2 a z n]; exact e
  · exact k.1 a o z e
end
def Rs.flat : Rs → Bool
  | .val d => d.flat
  | _ => false
/-- the bound arguments, by their places among what is written -/
def pick {α : Type} (ix : List Nat) (l : List α) : List α := ix.filterMap fun i => l[i]?
theorem pick_vals {vs : List V} {us : List Value} (r : Vals vs us) : ∀ ix : List Nat, Vals (pick ix vs) (pick ix us)
  | [] => .nil
  | i :: ix => by
    have ih := pick_vals r ix
    unfold pick at ih ⊢
    cases e : vs[i]? with
    | none => rw [List.filterMap_cons_none e, List.filterMap_cons_none (Vals.none_of r e)]; exact ih
    | some v =>
      obtain ⟨u, h, rv⟩ := Vals.get r e
      rw [List.filterMap_cons_some e, List.filterMap_cons_some h]
      exact .cons rv ih
theorem pick_all {K : PySem.W.Frag} {O : Addr → Prop} {H : Hp} {vs : List V} {ds : List D} (t : DAll K O H vs ds) : ∀ ix : List Nat, DAll K O H (pick ix vs) (pick ix ds)
  | [] => .nil
  | i :: ix => by
    have ih := pick_all t ix
    unfold pick at ih ⊢
    cases e : ds[i]? with
    | none =>
      have e2 : vs[i]? = none := by
        have := List.getElem?_eq_none_iff.mp e
        exact List.getElem?_eq_none (by rw [t.length]; exact this)
      rw [List.filterMap_cons_none e, List.filterMap_cons_none e2]; exact ih
    | some d =>
      obtain ⟨v, h, a⟩ := t.get e
      rw [List.filterMap_cons_some e, List.filterMap_cons_some h]
      exact .cons a ih
/-- how a call binds: n by place, ks by name -/
def KB (K : PySem.W.Frag) (fd : FuncData) (ps : List Str) (n : Nat) (ks : List Str) (ix : List Nat) : Prop :=
  ∀ us ws : List Value, us.length = n → ws.length = ks.length → bindArgs fd ⟨us, ks.zip ws⟩ = pure (ps.zip (pick ix (us ++ ws)))
theorem kb_of {K : PySem.W.Frag} {x qual : Str} {st : Stmt} {f : Addr} {fd : FuncData} {ps ks : List Str} {n : Nat} {ix : List Nat} (F : Fun K x qual st f fd)
    (h : ∀ (kV doc pm : Value) (an : Option Addr) (cdv ct : Value) (us ws : List Value), us.length = n → ws.length = ks.length → bindArgs (PySem.W.fnOf x qual (defArgs st) (defBody st) (defScope st) .none kV doc pm an cdv ct) ⟨us, ks.zip ws⟩ = pure (ps.zip (pick ix (us ++ ws)))) : KB K fd ps n ks ix := by
  obtain ⟨oc, od, kV, doc, pm, an, cdv, ct, osl, rfl, lk, hcd⟩ := F.ex
  exact h kV doc pm an cdv ct
section
variable {X : Cx} {k n : Nat} {f : Addr} {fd : FuncData} {ps ks : List Str} {ix : List Nat} {sp : Sp} {W : WX} {pins : List (Addr × Obj)} {σ : St} {H : Hp} {s : Shared} {Q : VK} {us ws : List Value} {vs zs : List V}
theorem run_B (F : FnG X.prog X.w X.K X.mg X.base k f fd ps sp) (hG : X.A.guards = some []) (hr : Room k X.A) (tk : Takes X W) (hb : KB X.K fd ps n ks ix) (I : Inv X pins σ H s) (r : Vals vs us) (rz : Vals zs ws) (l1 : vs.length = n) (l2 : zs.length = ks.length)
    (h : sp (pick ix (vs ++ zs)) H Q fun cls d H' => W cls d σ H') : wpAny (model X.prog X.w) X.A (call (.ref f) us (ks.zip ws)) (EP X pins σ Q) X.xe s := by
  refine wpAny_call (codeAny_mono (F.run X.A X.stack s H ⟨us, ks.zip ws⟩ (pick ix (us ++ ws)) (pick ix (vs ++ zs)) Q _ hG hr I.env0 (.of_eq (hb us ws (r.length.symm.trans l1) (rz.length.symm.trans l2))) (pick_vals (r.append rz) ix) h) fun q s1 z => ?_)
  match q, z with
  | .error e, z => exact tk e s1 (XE.of_call I (fun _ _ _ h => h) z)
  | .ok (.ret u), z => exact I.after z
def tCallG (W : WX) (n m : Nat) (ix : List Nat) (sp : Sp) (t tk : TA) : TE := fun σ H Q => t σ H fun vs H1 => tk σ H1 fun zs H2 => vs.length = n ∧ zs.length = m ∧ sp (pick ix (vs ++ zs)) H2 Q fun cls d H' => W cls d σ H'
variable {x : Str} {p pos : Pos} {e : Expr} {es : List Expr} {kws : List Keyword} {t tk : TA}
theorem pe_callG (F : FnG X.prog X.w X.K X.mg X.base k f fd ps sp) (hG : X.A.guards = some []) (hr : Room k X.A) (tkx : Takes X W) (hb : KB X.K fd ps n ks ix) (hk : PySem.W.keepIn X.K (.ref f) = true) (hm : X.mg x = some (.ref f)) (hg : Gl X x)
    (ha : PA X (e :: es) t) (hkw : PK X kws tk) (hall : (backToKw pos (keywordEach kws X.env)).all (·.1.isSome) = true := by rfl) (hks : (backToKw pos (keywordEach kws X.env)).filterMap (·.1) = ks := by rfl)
    (hdb : (x == ("__debug__" : Str)) = false := by decide) (he : starEach (e :: es) X.env = (false, eval e X.env) :: starEach es X.env := by rfl)
    (hpl : ((backTo pos (starEach (e :: es) X.env)).any (·.1) || (backToKw pos (keywordEach kws X.env)).any (·.1.isNone)) = false := by rfl) : PE X (.Call (.Name x p) (e :: es) kws pos) (tCallG W n ks.length ix sp t tk) := by
  constructor
  intro pins s σ H Q I h
  apply wpAny_Call_Name_kw
  apply ld_glob I hg hm (hd := hdb)
  apply PySem.W.callWith_KW (h₀ := X.base) I.ok.mod.kin hk hall (hplain := hpl) (he := he)
  refine thn (ha.run pos pins s σ H _ I h) fun us s1 ⟨vs, H1, I1, r, q⟩ => ?_
  refine thn (hkw.run pos pins s1 σ H1 _ I1 q) fun ws s2 ⟨zs, H2, I2, rz, l1, l2, q2⟩ => ⟨I2.kIn, ?_⟩
  rw [hks]
  exact run_B F hG hr tkx hb I2 r rz l1 l2 q2
theorem pe_callG0 (F : FnG X.prog X.w X.K X.mg X.base k f fd ps sp) (hG : X.A.guards = some []) (hr : Room k X.A) (tkx : Takes X W) (hb : KB X.K fd ps 0 ks ix) (hk : PySem.W.keepIn X.K (.ref f) = true) (hm : X.mg x = some (.ref f)) (hg : Gl X x)
    (hkw : PK X kws tk) (hall : (backToKw pos (keywordEach kws X.env)).all (·.1.isSome) = true := by rfl) (hks : (backToKw pos (keywordEach kws X.env)).filterMap (·.1) = ks := by rfl)
    (hdb : (x == ("__debug__" : Str)) = false := by decide) (hpl : ((backTo pos (starEach [] X.env)).any (·.1) || (backToKw pos (keywordEach kws X.env)).any (·.1.isNone)) = false := by rfl) : PE X (.Call (.Name x p) [] kws pos) (tCallG W 0 ks.length ix sp tNil tk) := by
  constructor
  intro pins s σ H Q I h
  apply wpAny_Call_Name_kw
  apply ld_glob I hg hm (hd := hdb)
  apply PySem.W.callWith_KW0 (h₀ := X.base) I.ok.mod.kin hk hall (hplain := hpl)
  refine thn (hkw.run pos pins s σ H _ I h) fun ws s2 ⟨zs, H2, I2, rz, l1, l2, q2⟩ => ⟨I2.kIn, ?_⟩
  rw [hks]
  exact run_B (us := []) (vs := []) F hG hr tkx hb I2 .nil rz l1 l2 q2
end
/-! ### over data -/
def wCall (M : MC) (n m : Nat) (ix : List Nat) (np : Nat) (sp : DSp) (wa wk : WA) : WE := fun ρ X Q => wa ρ X fun rs ρ1 => wk ρ1 X fun qs ρ2 => rs.length = n ∧ qs.length = m ∧ ∃ ds ρ3, lets ρ2 (rs ++ qs) = some (ds, ρ3) ∧ (pick ix ds).length = np ∧
  ∀ M', Mext M M' → sp M' (pick ix ds) (fun r => Q r (if r.flat = true then ρ2 else ρ3)) fun e => X e ρ3
section
variable {K : PySem.W.Frag} {M : MC} {G : Gd} {om om' : Om} {ρ ρ' : Rho} {σ : St} {H H' : Hp}
theorem holds_append : ∀ {vs : List V} {rs : List Rs} {G : Gd} {zs : List V} {qs : List Rs}, vs.length = rs.length → (G.holds vs rs).holds zs qs = G.holds (vs ++ zs) (rs ++ qs)
  | [], [], _, _, _, _ => rfl
  | _ :: _, [], _, _, _, h => nomatch h
  | [], _ :: _, _, _, _, h => nomatch h
  | v :: vs, r :: rs, G, zs, qs, h => holds_append (vs := vs) (rs := rs) (G := G.hold v r) (Nat.succ.inj h)
theorem RsOks.append {vs : List V} {rs : List Rs} {zs : List V} {qs : List Rs} (a : RsOks σ vs rs) (b : RsOks σ zs qs) : RsOks σ (vs ++ zs) (rs ++ qs) := by
  induction a with
  | nil => exact b
  | cons h _ ih => exact .cons h ih
theorem Lnk.holds {E : WX} {X : XD} : ∀ {vs : List V} {rs : List Rs} {G : Gd}, Lnk K M G E X → Lnk K M (G.holds vs rs) E X
  | [], _, _, l => l
  | _ :: _, [], _, l => l
  | v :: vs, r :: rs, G, l => Lnk.holds (vs := vs) (rs := rs) (G := G.hold v r) l.hold
/-- what a callee tells, in hand -/
theorem Rel.res (R : Rel K M G om ρ σ H) {h1 : ∀ a, M.O a → Own M G om a} {h2 : ∀ a, Own M G om a → H a ≠ none} {v : V} {r : Rs} (k : Keeps (mcAt M (Own M G om) H h1 h2) H H') (a : ResAt K (mcAt M (Own M G om) H h1 h2) H H' v r) : Rel K M (G.hold v r) om ρ σ H' ∧ RsOk σ v r := by
  have R2 := R.called k
  cases r with
  | slt i => exact a.elim
  | val d => exact ⟨R2.pinned a, trivial⟩
  | new d =>
    obtain ⟨p, rfl, hp, n, t⟩ := a
    have n : ¬ Own M G om p := n
    have eO : ∀ a, Own M (G.hide p d) om a → Own M G om a ∨ a = p := by
      rintro a (z | z | ⟨d', z⟩)
      · exact .inl (.inl z)
      · exact .inl (.inr (.inl z))
      · rcases List.mem_cons.mp z with z | z
        · cases z; exact .inr rfl
        · exact .inl (.inr (.inr ⟨d', z⟩))
    -- what was there stays outside of p
    have st : Stay (Own M G om) (Own M (G.hide p d) om) H H' := fun a o na e => by
      have ne : a ≠ p := ne_of_none e hp
      exact ⟨fun z => (eO a z).elim na ne, k.1 a o na e⟩
    have ea : ∀ q, Own M G om q → ¬ M.O q → H' q = H q := fun q z n => k.2.2 q z n
    refine ⟨⟨fun i c e => slot_stay st (fun q hq => ⟨hq, ea q (.inr (.inl ⟨i, hq⟩)) (R.own i q hq).2.1⟩) (R.slot i c e), R.inj, fun i q e => ?_, R2.base, R2.mi, fun q hq => (R.pin q hq).stay st, fun q hq => ?_, ?_, R.len⟩, p, rfl⟩
    · obtain ⟨q1, q2, q3, q4⟩ := R2.own i q e
      refine ⟨q1, q2, q3, fun d' z => ?_⟩
      rcases List.mem_cons.mp z with z | z
      · exact n (.inr (.inl ⟨i, (show q = p from congrArg Prod.fst z) ▸ e⟩))
      · exact q4 d' z
    · rcases List.mem_cons.mp hq with z | z
      · subst z
        exact ⟨t.stay (stay_sub eO) rfl, R.fresh0 hp, fun z => n (.inl z)⟩
      · obtain ⟨a1, a2, a3⟩ := R.hid q z
        exact ⟨a1.stay st (ea q.1 (.inr (.inr ⟨q.2, z⟩)) a3), a2, a3⟩
    · refine List.nodup_cons.mpr ⟨fun z => ?_, R.hnd⟩
      obtain ⟨q, hq, e⟩ := List.mem_map.mp z
      exact n (.inr (.inr ⟨q.2, by
        have : q.1 = p := e
        rw [← this]; exact hq⟩))
end
section
variable {X : Cx} {M : MC} {E : WX} {k n np : Nat} {f : Addr} {fd : FuncData} {ps ks : List Str} {ix : List Nat} {sp : DSp} {x : Str} {p pos : Pos} {e : Expr} {es : List Expr} {kws : List Keyword} {wa wk : WA}
theorem call_all {K : PySem.W.Frag} {m : Nat} : ∀ σ H Q, tD K M E (wCall M n m ix np sp wa wk) σ H Q → tCallG E n m ix (spD K np sp) (tDA K M E wa) (tDA K M E wk) σ H Q := by
  rintro σ H Q ⟨G, om, ρ, Xd, Qd, R, L, w, kk⟩
  refine ⟨G, om, ρ, Xd, _, R, L, w, fun om1 ρ1 vs H1 rs R1 h1 w1 => ?_⟩
  refine ⟨G.holds vs rs, om1, ρ1, Xd, _, R1, L.holds, w1, fun om2 ρ2 zs H2 qs R2 h2 ⟨l1, l2, ds, ρ3, g, hl, w2⟩ => ?_⟩
  refine ⟨h1.length.trans l1, h2.length.trans l2, ?_⟩
  rw [holds_append h1.length] at R2
  have hh := h1.append h2
  obtain ⟨om3, s3, hd, R3⟩ := R2.lets hh g
  have o1 : ∀ a, M.O a → Own M G om3 a := fun a z => .inl z
  have o2 : ∀ a, Own M G om3 a → H2 a ≠ none := fun a z => R3.ownAt z
  -- what the asker holds back, too
  refine ⟨mcAt M (Own M G om3) H2 o1 o2, pick ix ds, _, _, ⟨R3.mi, fun a _ _ => rfl⟩, pick_all hd ix, hl, w2 _ mcAt_ext, fun v H' r kp ra q => ?_, fun cls dd H' ex kp xa q => ?_⟩
  · by_cases fl : r.flat = true
    · rw [if_pos fl] at q
      cases r with
      | val d =>
        have hd' : DAt K (Own M G om2) H' v d := by
          have hd2 : DAt K (Own M G om3) H' v d := ra
          cases d with
          | non => cases hd2; exact .non
          | bl b => cases hd2; exact .bl b
          | int i => cases hd2; exact .int i
          | str z => cases hd2; exact .str z
          | _ => exact absurd fl Bool.false_ne_true
        have R5 : Rel K M G om2 ρ2 σ H' := by
          refine R2.unholds.grow (fun a o n e => ?_) kp.2.1
          by_cases z : Own M G om3 a
          · rw [kp.2.2 a z n]; exact e
          · exact kp.1 a o z e
        exact kk om2 ρ2 v H' (.val d) (R5.pinned hd') trivial q
      | slt i => exact absurd fl Bool.false_ne_true
      | new d => exact absurd fl Bool.false_ne_true
    · rw [if_neg fl] at q
      obtain ⟨R4, h4⟩ := R3.res kp ra
      exact kk om3 ρ3 v H' r R4 h4 q
  · exact L om3 ρ3 σ H' cls dd ex (R3.called kp) xa q
theorem pd_call (F : FnG X.prog X.w X.K X.mg X.base k f fd ps (spD X.K np sp)) (hG : X.A.guards = some []) (hr : Room k X.A) (tkx : Takes X E) (hb : KB X.K fd ps n ks ix) (hk : PySem.W.keepIn X.K (.ref f) = true) (hm : X.mg x = some (.ref f)) (hg : Gl X x)
    (ha : PA X (e :: es) (tDA X.K M E wa)) (hkw : PK X kws (tDA X.K M E wk)) (hall : (backToKw pos (keywordEach kws X.env)).all (·.1.isSome) = true := by rfl) (hks : (backToKw pos (keywordEach kws X.env)).filterMap (·.1) = ks := by rfl)
    (hdb : (x == ("__debug__" : Str)) = false := by decide) (he : starEach (e :: es) X.env = (false, eval e X.env) :: starEach es X.env := by rfl)
    (hpl : ((backTo pos (starEach (e :: es) X.env)).any (·.1) || (backToKw pos (keywordEach kws X.env)).any (·.1.isNone)) = false := by rfl) : PE X (.Call (.Name x p) (e :: es) kws pos) (tD X.K M E (wCall M n ks.length ix np sp wa wk)) :=
  PE.weak (pe_callG F hG hr tkx hb hk hm hg ha hkw hall hks hdb he hpl) call_all
theorem pd_call0 (F : FnG X.prog X.w X.K X.mg X.base k f fd ps (spD X.K np sp)) (hG : X.A.guards = some []) (hr : Room k X.A) (tkx : Takes X E) (hb : KB X.K fd ps 0 ks ix) (hk : PySem.W.keepIn X.K (.ref f) = true) (hm : X.mg x = some (.ref f)) (hg : Gl X x)
    (hkw : PK X kws (tDA X.K M E wk)) (hall : (backToKw pos (keywordEach kws X.env)).all (·.1.isSome) = true := by rfl) (hks : (backToKw pos (keywordEach kws X.env)).filterMap (·.1) = ks := by rfl)
    (hdb : (x == ("__debug__" : Str)) = false := by decide) (hpl : ((backTo pos (starEach [] X.env)).any (·.1) || (backToKw pos (keywordEach kws X.env)).any (·.1.isNone)) = false := by rfl) : PE X (.Call (.Name x p) [] kws pos) (tD X.K M E (wCall M 0 ks.length ix np sp waNil wk)) :=
  PE.weak (pe_callG0 F hG hr tkx hb hk hm hg hkw hall hks hdb hpl) fun σ H Q h => by
    obtain ⟨G, om, ρ, Xd, Qd, R, L, w, kk⟩ := call_all (K := X.K) σ H Q h
    exact kk om ρ [] H [] R .nil w
theorem pd_knil : PK X [] (tDA X.K M E waNil) := ⟨fun pos pins s σ H Q I ⟨G, om, ρ, Xd, Qd, R, L, w, k⟩ => pk_nil.run pos pins s σ H Q I (k om ρ [] H [] R .nil w)⟩
theorem pd_kcons {nm : Option Str} {kpos : Pos} {we : WE} (he : PE X e (tD X.K M E we)) (hr : PK X kws (tDA X.K M E wk)) : PK X (⟨nm, e, kpos⟩ :: kws) (tDA X.K M E (waCons we wk)) :=
  ⟨fun pos pins s σ H Q I ⟨G, om, ρ, Xd, Qd, R, L, w, k⟩ => (pk_cons he hr).run pos pins s σ H Q I ⟨G, om, ρ, Xd, _, R, L, w, fun om1 ρ1 v H1 r R1 h1 w1 =>
    ⟨G.hold v r, om1, ρ1, Xd, _, R1, L.hold, w1, fun om2 ρ2 vs H2 rs R2 h2 w2 => k om2 ρ2 (v :: vs) H2 (r :: rs) R2 (.cons h1 h2) w2⟩⟩⟩
end
end Dl

set_option Elab.async false
set_option linter.all false
set_option maxRecDepth 100000
set_option maxHeartbeats 4000000
/-! DlI: comprehensions as expressions, stores of several names, op=, lists that are written. -/
namespace Dl
open PySem L2

section
variable {X : Cx} {M : MC} {E : WX}
theorem pd_ynil : PTs X [] (tDT X.K M noE wYes) := ⟨fun pins s σ H Q I ⟨G, om, ρ, Xd, Qd, R, L, w, k⟩ => pts_nil.run pins s σ H Q I (k om ρ true H R w)⟩
theorem pd_yone {c : Expr} {t : WT} (h : PT X c (tDT X.K M noE t)) : PTs X [c] (tDT X.K M noE t) := pts_one h
theorem pd_lc {elt tg iter : Expr} {ifs : List Expr} {scope : Scope} {own : List (Str × Nat)} {pos : Pos} {wi : WI} {S : List Nat} {g : WG} {tt : WT} {te : WE} (hc : X.calm = true) (hN : X.N.Nodup) (ok : BlkOk X.N X.env.scope scope own) (hi : PI X tg iter (tDI X.K M E wi))
    (hg : ∀ (s : Shared) (H : Hp) (C : Addr) (cl : List (Str × Addr)) (fp : List Addr), PG (X.blk s H scope (compEnvC scope cl C X.env) fp) tg (tDG X.K M S g)) (ht : ∀ (s : Shared) (H : Hp) (C : Addr) (cl : List (Str × Addr)) (fp : List Addr), PTs (X.blk s H scope (compEnvC scope cl C X.env) fp) ifs (tDT X.K M noE tt))
    (he : ∀ (s : Shared) (H : Hp) (C : Addr) (cl : List (Str × Addr)) (fp : List Addr), PE (X.blk s H scope (compEnvC scope cl C X.env) fp) elt (tD X.K M noE te)) (hS : ∀ i ∈ S, i ∈ own.map (·.2) := by decide) (hs : ∀ x, foldedSetIterable iter X.env x = pure x := by intro _; rfl) :
    PE X (.ListComp elt [⟨tg, iter, ifs, 0⟩] scope pos) (tD X.K M E (wLc wi g tt te (own.map (·.2)))) := PE.weak (pe_lc hc hN hi ok hg ht he hs) (lc_all hS)
end

/-! ### several names -/
/-- what is stored -/
def Rs.fix (ρ : Rho) : Rs → Option (Rs × Rho)
  | .val d => some (.val d, ρ)
  | .new d => some (.new d, ρ)
  | .slt i => ((Rs.slt i).out ρ).map fun p => (.val p.1, p.2)
def fixs (ρ : Rho) : List Rs → Option (List Rs × Rho)
  | [] => some ([], ρ)
  | r :: rs => (fixs ρ rs).bind fun p => (r.fix p.2).map fun q => (q.1 :: p.1, q.2)
def Rs.cell : Rs → Option Cell
  | .val d => some (.sh d)
  | .new d => some (.ow d)
  | .slt _ => none
section
variable {K : PySem.W.Frag} {M : MC} {G : Gd} {om : Om} {ρ ρ' : Rho} {σ : St} {H : Hp} {v : V} {r r' : Rs} {vs : List V} {d : D}
theorem hold_parts (v : V) (r : Rs) (G : Gd) : (G.hold v r).H0 = G.H0 ∧ (∀ q, q ∈ (G.hold v r).pins → q ∈ G.pins ∨ ∃ d, r = .val d ∧ q = (v, d)) ∧ (∀ q, q ∈ G.pins → q ∈ (G.hold v r).pins) := by
  cases r with
  | val d => exact ⟨rfl, fun q hq => (List.mem_cons.mp hq).elim (fun z => .inr ⟨d, rfl, z⟩) .inl, fun q hq => List.mem_cons_of_mem _ hq⟩
  | slt i => exact ⟨rfl, fun q hq => .inl hq, fun q hq => hq⟩
  | new d => cases v <;> exact ⟨rfl, fun q hq => .inl hq, fun q hq => hq⟩
/-- pins come first or last -/
theorem pin_swap : ∀ {vs : List V} {rs : List Rs} {G : Gd}, Rel K M ((G.holds vs rs).pin v d) om ρ σ H → Rel K M ((G.pin v d).holds vs rs) om ρ σ H
  | [], _, _, R => R
  | _ :: _, [], _, R => R
  | u :: vs, q :: rs, G, R => by
    have R2 : Rel K M (((G.hold u q).pin v d).holds vs rs) om ρ σ H := pin_swap (vs := vs) (rs := rs) (G := G.hold u q) R
    have e : ∀ {vs : List V} {rs : List Rs} {G1 G2 : Gd}, G1.H0 = G2.H0 → (∀ q ∈ G2.pins, q ∈ G1.pins) → G2.hid = G1.hid → Rel K M (G1.holds vs rs) om ρ σ H → Rel K M (G2.holds vs rs) om ρ σ H := by
      intro vs
      induction vs with
      | nil => intro rs G1 G2 h1 h2 h3 R; exact R.pinsub h1.symm h2 h3
      | cons w vs ih =>
        intro rs G1 G2 h1 h2 h3 R
        cases rs with
        | nil => exact R.pinsub h1.symm h2 h3
        | cons t rs =>
          refine ih (G1 := G1.hold w t) (G2 := G2.hold w t) ?_ ?_ ?_ R
          · rw [(hold_parts w t G1).1, (hold_parts w t G2).1, h1]
          · intro x hx
            rcases (hold_parts w t G2).2.1 x hx with z | ⟨d, rfl, rfl⟩
            · exact (hold_parts w t G1).2.2 x (h2 x z)
            · exact List.mem_cons_self
          · cases t with
            | val d => exact h3
            | slt i => exact h3
            | new d => cases w <;> first | exact h3 | exact congrArg (List.cons _) h3
    refine e (G1 := (G.hold u q).pin v d) (G2 := (G.pin v d).hold u q) ?_ ?_ ?_ R2
    · cases q with
      | new d => cases u <;> rfl
      | _ => rfl
    · intro x hx
      rcases (hold_parts u q (G.pin v d)).2.1 x hx with z | ⟨d, rfl, rfl⟩
      · rcases List.mem_cons.mp z with z | z
        · rw [z]; exact List.mem_cons_self
        · exact List.mem_cons_of_mem _ ((hold_parts u q G).2.2 x z)
      · exact List.mem_cons_of_mem _ List.mem_cons_self
    · cases q with
      | new d => cases u <;> rfl
      | _ => rfl
theorem Rel.fixs : ∀ {rs rs' : List Rs} {vs : List V} {G : Gd} {om : Om} {ρ ρ' : Rho}, Rel K M (G.holds vs rs) om ρ σ H → RsOks σ vs rs → Dl.fixs ρ rs = some (rs', ρ') → ∃ om', Rel K M (G.holds vs rs') om' ρ' σ H ∧ RsOks σ vs rs'
  | [], _, _, G, om, ρ, _, R, .nil, g => by cases g; exact ⟨om, R, .nil⟩
  | r :: rs, rs', vs0, G, om, ρ, ρ', R, h0, g => by
    cases h0 with
    | cons h t =>
      rename_i v vs
      unfold Dl.fixs at g
      obtain ⟨⟨rs1, ρ1⟩, g1, g⟩ := Option.bind_eq_some_iff.mp g
      obtain ⟨⟨r2, ρ2⟩, g2, g⟩ := Option.map_eq_some_iff.mp g
      cases g
      obtain ⟨om1, R1, t1⟩ := Rel.fixs (G := G.hold v r) R t g1
      cases r with
      | val d => cases g2; exact ⟨om1, R1, .cons h t1⟩
      | new d => cases g2; exact ⟨om1, R1, .cons h t1⟩
      | slt i =>
        obtain ⟨⟨d, ρ3⟩, g3, g2⟩ := Option.map_eq_some_iff.mp g2
        cases g2
        have R1 : Rel K M (G.holds vs rs1) om1 ρ1 σ H := R1
        obtain ⟨om2, _, hd, R2⟩ := Rel.out (r := .slt i) (G := G.holds vs rs1) R1 h g3
        exact ⟨om2, pin_swap (R2.pinned hd), .cons trivial t1⟩
/-- a name gets what is in hand -/
theorem Rel.store {c : Cell} (R : Rel K M (G.hold v r) om ρ σ H) (h : RsOk σ v r) (hc : r.cell = some c) (i : Nat) : ∃ om', Rel K M G om' (ρ.set i (some c)) (σ.set i (some v)) H := by
  cases r with
  | val d =>
    cases hc
    obtain ⟨R, a⟩ := Rel.unpin R
    exact ⟨_, R.set a⟩
  | new d =>
    cases hc
    obtain ⟨p, rfl⟩ := h
    exact ⟨_, Rel.setOwn R⟩
  | slt j => cases hc
theorem RsOk.set (h : RsOk σ v r) (hc : r.cell ≠ none) {i : Nat} {x : Option V} : RsOk (σ.set i x) v r := by
  cases r with
  | val d => trivial
  | new d => exact h
  | slt j => exact absurd rfl hc
end
def cells : List Rs → Option (List Cell)
  | [] => some []
  | r :: rs => r.cell.bind fun c => (cells rs).map fun cs => c :: cs
/-- a, b = x, y -/
def wsPar (i j : Nat) (wa : WA) : WS := fun ρ X D => wa ρ X fun rs ρ1 => ∃ rs' ρ2 c1 c2, fixs ρ1 rs = some (rs', ρ2) ∧ cells rs' = some [c1, c2] ∧ D.nx ((ρ2.set j (some c2)).set i (some c1))
def wsPar3 (i j l : Nat) (wa : WA) : WS := fun ρ X D => wa ρ X fun rs ρ1 => ∃ rs' ρ2 c1 c2 c3, fixs ρ1 rs = some (rs', ρ2) ∧ cells rs' = some [c1, c2, c3] ∧ D.nx (((ρ2.set l (some c3)).set j (some c2)).set i (some c1))
theorem cells_cons {rs : List Rs} {c : Cell} {cs : List Cell} (h : cells rs = some (c :: cs)) : ∃ r rs', rs = r :: rs' ∧ r.cell = some c ∧ cells rs' = some cs := by
  cases rs with
  | nil => cases h
  | cons r rs =>
    unfold cells at h
    obtain ⟨c', h1, h⟩ := Option.bind_eq_some_iff.mp h
    obtain ⟨cs', h2, h⟩ := Option.map_eq_some_iff.mp h
    cases h
    exact ⟨r, rs, rfl, h1, h2⟩
theorem cells_nil {rs : List Rs} (h : cells rs = some []) : rs = [] := by
  cases rs with
  | nil => rfl
  | cons r rs =>
    unfold cells at h
    obtain ⟨c', h1, h⟩ := Option.bind_eq_some_iff.mp h
    obtain ⟨cs', h2, h⟩ := Option.map_eq_some_iff.mp h
    cases h
section
variable {X : Cx} {M : MC} {E : WX} {wa : WA}
theorem ne_some {α : Type} {o : Option α} {a : α} (h : o = some a) : o ≠ none := fun z => by rw [z] at h; cases h
theorem pd_par {i j : Nat} {x y : Str} {a b : Expr} {px py pt pos : Pos} {kt k2 pt2} (hc : X.calm = true) (hN : X.N.Nodup) (ha : PA X [a, b] (tDA X.K M E wa)) (hi : X.N[i]? = some x := by rfl) (hj : X.N[j]? = some y := by rfl) (hij : i ≠ j := by decide)
    (hx : X.env.scope.names.lookup x = some .local := by rfl) (hy : X.env.scope.names.lookup y = some .local := by rfl) (hw : swappedStores [.Tuple [.Name x px, .Name y py] kt pt] (.Tuple [a, b] k2 pt2) X.env = pure (some [x, y]) := by rfl)
    (hs : swapsWithSole [.Tuple [.Name x px, .Name y py] kt pt] (.Tuple [a, b] k2 pt2) pos.line X.env = pure false := by rfl) : PS X (.Assign [.Tuple [.Name x px, .Name y py] kt pt] (.Tuple [a, b] k2 pt2) pos) (tDS X.K M E (wsPar i j wa)) := by
  refine PS.weak (ps_par hc hN hi hj hij hx hy ha hw hs) fun D σ H ⟨G, om, ρ, Xd, Qd, R, L, w, k1, _⟩ => ⟨G, om, ρ, Xd, _, R, L, w, fun om1 ρ1 vs H1 rs R1 h1 ⟨rs', ρ2, c1, c2, gf, gc, w1⟩ => ?_⟩
  obtain ⟨om2, R2, h2⟩ := R1.fixs h1 gf
  obtain ⟨r1, rs1, rfl, e1, gc⟩ := cells_cons gc
  obtain ⟨r2, rs2, rfl, e2, gc⟩ := cells_cons gc
  obtain rfl := cells_nil gc
  cases h2 with
  | cons a1 t => cases t with
    | cons a2 t =>
      cases t
      rename_i v w
      refine ⟨v, w, rfl, ?_⟩
      have R2 : Rel X.K M ((G.hold v r1).hold w r2) om2 ρ2 σ H1 := R2
      obtain ⟨om3, R3⟩ := R2.store a2 e2 j
      obtain ⟨om4, R4⟩ := R3.store (a1.set (ne_some e1)) e1 i
      rw [List.set_comm _ _ hij]
      exact k1 _ _ _ _ R4 w1
theorem pd_par3 {i j l : Nat} {x y z : Str} {a b c : Expr} {px py pz pt pos : Pos} {kt k2 pt2} (hc : X.calm = true) (hN : X.N.Nodup) (ha : PA X [a, b, c] (tDA X.K M E wa)) (hi : X.N[i]? = some x := by rfl) (hj : X.N[j]? = some y := by rfl) (hl : X.N[l]? = some z := by rfl) (hij : i ≠ j := by decide) (hil : i ≠ l := by decide) (hjl : j ≠ l := by decide)
    (hx : X.env.scope.names.lookup x = some .local := by rfl) (hy : X.env.scope.names.lookup y = some .local := by rfl) (hz : X.env.scope.names.lookup z = some .local := by rfl)
    (hw : swappedStores [.Tuple [.Name x px, .Name y py, .Name z pz] kt pt] (.Tuple [a, b, c] k2 pt2) X.env = pure (some [x, y, z]) := by rfl)
    (hs : swapsWithSole [.Tuple [.Name x px, .Name y py, .Name z pz] kt pt] (.Tuple [a, b, c] k2 pt2) pos.line X.env = pure false := by rfl) : PS X (.Assign [.Tuple [.Name x px, .Name y py, .Name z pz] kt pt] (.Tuple [a, b, c] k2 pt2) pos) (tDS X.K M E (wsPar3 i j l wa)) := by
  refine PS.weak (ps_par3 hc hN hi hj hl hij hil hjl hx hy hz ha hw hs) fun D σ H ⟨G, om, ρ, Xd, Qd, R, L, w, k1, _⟩ => ⟨G, om, ρ, Xd, _, R, L, w, fun om1 ρ1 vs H1 rs R1 h1 ⟨rs', ρ2, c1, c2, c3, gf, gc, w1⟩ => ?_⟩
  obtain ⟨om2, R2, h2⟩ := R1.fixs h1 gf
  obtain ⟨r1, rs1, rfl, e1, gc⟩ := cells_cons gc
  obtain ⟨r2, rs2, rfl, e2, gc⟩ := cells_cons gc
  obtain ⟨r3, rs3, rfl, e3, gc⟩ := cells_cons gc
  obtain rfl := cells_nil gc
  cases h2 with
  | cons a1 t => cases t with
    | cons a2 t => cases t with
      | cons a3 t =>
        cases t
        rename_i u v w
        refine ⟨u, v, w, rfl, ?_⟩
        have R2 : Rel X.K M (((G.hold u r1).hold v r2).hold w r3) om2 ρ2 σ H1 := R2
        obtain ⟨om3, R3⟩ := R2.store a3 e3 l
        obtain ⟨om4, R4⟩ := R3.store (a2.set (ne_some e2)) e2 j
        obtain ⟨om5, R5⟩ := R4.store ((a1.set (ne_some e1)).set (ne_some e1)) e1 i
        have es : ((σ.set i (some u)).set j (some v)).set l (some w) = ((σ.set l (some w)).set j (some v)).set i (some u) :=
          (congrArg (fun z : L2.St => z.set l (some w)) (List.set_comm _ _ hij)).trans ((List.set_comm _ _ hil).trans (congrArg (fun z : L2.St => z.set i (some u)) (List.set_comm _ _ hjl)))
        rw [es]
        exact k1 _ _ _ _ R5 w1
end

/-! ### name op= e -/
def wsAug (i : Nat) (op : D → D → (Rs → Prop) → Prop) (we : WE) : WS := fun ρ X D => (∃ d0, pk ρ i = some d0) ∧ we ρ X fun r ρ1 => ∃ d e, pk ρ1 i = some d ∧ r.get ρ1 = some e ∧ op d e fun c => ∃ c', c.cell = some c' ∧ D.nx (ρ1.set i (some c'))
theorem ipd_int {K : PySem.W.Frag} {f : Int → Int → Int} : OpD K (ipI f) (oInt2 cTrue f) := od_int2 fun i j H Q _ q => ⟨i, j, rfl, rfl, q⟩
section
variable {X : Cx} {M : MC} {E : WX} {we : WE}
theorem pd_aug {x : Str} {e : Expr} {op : Operator} {ti : TIp} {o : D → D → (Rs → Prop) → Prop} {pos' pos : Pos} (i : Nat) (hN : X.N.Nodup) (he : PE X e (tD X.K M E we)) (ho : PIp X op ti) (hd : OpD X.K ti o) (hi : X.N[i]? = some x := by rfl) (hx : Loc X.env.scope x := by first | exact Or.inl rfl | exact Or.inr rfl)
    (hf : X.fn x = true ∨ X.env.scope.names.lookup x = some .local := by first | exact .inl rfl | exact .inr rfl) : PS X (.AugAssign (.Name x pos') op e pos) (tDS X.K M E (wsAug i o we)) := by
  refine PS.weak (ps_aug hN hi hx he ho hf) fun D σ H ⟨G, om, ρ, Xd, Qd, R, L, ⟨⟨d0, g0⟩, w⟩, k1, _⟩ => ?_
  obtain ⟨x0, h0⟩ := R.has g0
  refine ⟨x0, h0, G, om, ρ, Xd, _, R, L, w, fun om1 ρ1 v H1 r R1 h1 ⟨d, e, g1, g2, w1⟩ => ?_⟩
  refine hd _ H1 x0 v d e _ _ (fun p hp => R1.fresh hp) (R1.getH (r := .slt i) trivial h0 g1) (R1.get h1 g2) w1 fun H3 u c hc ⟨c', e', q⟩ => ?_
  obtain ⟨R3, h3⟩ := ROut.at R1.unhold (fun a z => own_hold z) hc
  obtain ⟨om4, R4⟩ := R3.store h3 e' i
  exact k1 _ _ _ _ R4 q
end

/-! ### lists that are written -/
/-- x.append(e), x the def's own list -/
def wsApp (i : Nat) (we : WE) : WS := fun ρ X D => (∃ ds0, ρ[i]? = some (some (.ow (.lst ds0)))) ∧ we ρ X fun r ρ1 => ∃ d ρ2 ds, r.out ρ1 = some (d, ρ2) ∧ ρ2[i]? = some (some (.ow (.lst ds))) ∧ ds.length < 16777216 ∧ D.nx (ρ2.set i (some (.ow (.lst (ds ++ [d])))))
/-- x[j] = e -/
def wsSetI (i : Nat) (we wj : WE) : WS := fun ρ X D => we ρ X fun r ρ1 => (∃ d0, pk ρ1 i = some d0) ∧ wj ρ1 X fun q ρ2 => ∃ d ρ3 ds j k, r.out ρ2 = some (d, ρ3) ∧ q.get ρ2 = some (.int j) ∧ ρ3[i]? = some (some (.ow (.lst ds))) ∧ ixN ds.length j = some k ∧ D.nx (ρ3.set i (some (.ow (.lst (ds.set k d)))))
section
variable {X : Cx} {M : MC} {E : WX} {we wj : WE}
theorem Rel.ownL {K : PySem.W.Frag} {G : Gd} {om : Om} {ρ : Rho} {σ : St} {H : Hp} {i : Nat} {ds : List D} (R : Rel K M G om ρ σ H) (h : ρ[i]? = some (some (.ow (.lst ds)))) : ∃ p xs, om i = some p ∧ σ[i]? = some (some (.ref p)) ∧ H p = some (.lst xs) ∧ DAll K (Own M G om) H xs ds := by
  obtain ⟨p, h1, h2, o, ho, hk⟩ := R.slot i _ h
  cases o with
  | lst xs => exact ⟨p, xs, h1, h2, ho, hk⟩
  | _ => exact hk.elim
theorem pd_app {x : Str} {px pa pos cpos : Pos} {e : Expr} (i : Nat) (he : PE X e (tD X.K M E we)) (hi : X.N[i]? = some x := by rfl) (hv : Vis X.env.scope x := by first | exact Or.inl rfl | exact Or.inr (Or.inl rfl) | exact Or.inr (Or.inr rfl))
    (hd : (x == ("__debug__" : Str)) = false := by decide) (hcd : (x == ("__classdict__" : Str)) = false := by decide)
    (hbase : attributeBase (.Name x px) "append" X.env (eval (.Name x px) X.env) = eval (.Name x px) X.env := by rfl)
    (hfew : ((backTo cpos (starEach [e] X.env)).all (fun x => !x.1) && (backToKw cpos (keywordEach [] X.env)).all (fun x => x.1.isSome) && decide (([e] : List Expr).length + ([] : List Keyword).length + (if ([] : List Keyword).isEmpty then 0 else 1) < 30)) = true := by rfl)
    (hline : (pa.endLine == cpos.line) = true := by rfl) (hs : starEach [e] X.env = (false, eval e X.env) :: starEach [] X.env := by rfl) (hplain : (backTo cpos (starEach [] X.env)).any (·.1) = false := by rfl)
    (hsw : swapsWith (.Call (.Attribute (.Name x px) "append" pa) [e] [] cpos) none pos.line X.env = pure false := by rfl) :
    PS X (.Expr (.Call (.Attribute (.Name x px) "append" pa) [e] [] cpos) pos) (tDS X.K M E (wsApp i we)) := by
  refine PS.weak (ps_expr (pe_bm (T := "list") (id := "list.append") PySem.F.plainAttrs_list PySem.F.slot_list_append PySem.F.type_list_append mt_append (pe_var (i := i) hi hv hd hcd) (pa_cons he pa_nil hs) hbase hfew hline hs hplain) hsw) fun D σ H ⟨G, om, ρ, Xd, Qd, R, L, ⟨⟨ds0, g0⟩, w⟩, k1, _⟩ => ?_
  obtain ⟨p0, xs0, _, h0, e0, _⟩ := R.ownL g0
  refine ⟨.ref p0, h0, .inl ⟨rfl, xs0, SqL.of e0⟩, G, om, ρ, Xd, _, R, L, w, fun om1 ρ1 v H1 r R1 h1 ⟨d, ρ2, ds, g, gi, hz, w1⟩ => ?_⟩
  obtain ⟨om2, _, hd2, R2⟩ := R1.out h1 g
  obtain ⟨p, xs, o1, o2, o3, o4⟩ := R2.ownL gi
  rw [h0] at o2
  cases o2
  refine ⟨p0, xs, v, rfl, rfl, o3, by rw [o4.length, sizeLine_eq]; exact hz, ?_⟩
  exact k1 _ _ _ _ (R2.put o1 h0 (d := .lst (ds ++ [d])) (o4.append (.cons hd2 .nil))) w1
theorem pd_setI {x : Str} {px ps pos : Pos} {e j : Expr} (i : Nat) (he : PE X e (tD X.K M E we)) (hj : PE X j (tD X.K M E wj)) (hi : X.N[i]? = some x := by rfl) (hv : Vis X.env.scope x := by first | exact Or.inl rfl | exact Or.inr (Or.inl rfl) | exact Or.inr (Or.inr rfl))
    (hd : (x == ("__debug__" : Str)) = false := by decide) (hcd : (x == ("__classdict__" : Str)) = false := by decide)
    (hs : swapsWithSole [.Subscript (.Name x px) j ps] e pos.line X.env = pure false := by rfl) (hw : swappedStores [.Subscript (.Name x px) j ps] e X.env = pure none := by rfl) (h1 : (assignEach [.Subscript (.Name x px) j ps] X.env).map (·.2) = [assign (.Subscript (.Name x px) j ps) X.env] := by rfl)
    (ha : ∀ v, assign (.Subscript (.Name x px) j ps) X.env v = (do
      let ov ← holding [v] (eval (.Name x px) X.env)
      let iv ← holding [v, ov] (eval j X.env)
      standAt ps
      holding [v, ov, iv] (setItem ov iv v)
      release [v, ov, iv] []) := by intro _; rfl) :
    PS X (.Assign [.Subscript (.Name x px) j ps] e pos) (tDS X.K M E (wsSetI i we wj)) := by
  refine PS.weak (ps_asg he (pg_sub (pe_var (i := i) hi hv hd hcd) hj set_list ha) hs hw h1) fun D σ H ⟨G, om, ρ, Xd, Qd, R, L, w, k1, _⟩ => ⟨G, om, ρ, Xd, _, R, L, w, fun om1 ρ1 v H1 r R1 h1 ⟨⟨d0, g0⟩, w1⟩ => ?_⟩
  obtain ⟨x0, h0⟩ := R1.unhold.has g0
  refine ⟨x0, h0, G.hold v r, om1, ρ1, Xd, _, R1, L.hold, w1, fun om2 ρ2 u H2 q R2 h2 ⟨d, ρ3, ds, jv, k, g, gj, gi, hk, w2⟩ => ?_⟩
  have eu := (R2.get h2 gj).int
  obtain ⟨om3, _, hd3, R3⟩ := R2.unhold.out h1 g
  obtain ⟨p, xs, o1, o2, o3, o4⟩ := R3.ownL gi
  obtain rfl : x0 = .ref p := Option.some.inj (Option.some.inj (h0.symm.trans o2))
  refine ⟨p, xs, jv, k, rfl, eu, o3, by rw [o4.length]; exact hk, ?_⟩
  exact k1 _ _ _ _ (R3.put o1 o2 (d := .lst (ds.set k d)) (o4.set hd3 k)) w2
end
end Dl

set_option Elab.async false
set_option linter.all false
set_option maxRecDepth 100000
set_option maxHeartbeats 4000000
/-! DlJ: the law's own end. -/
namespace Dl
open PySem PySem.Spec L2
open PyProof.Rows

section
variable {P : Program} {w : World} {K : PySem.W.Frag} {mg mb : Str → Option Value} {k : Nat} {fa a : Addr} {fd : FuncData} {x : Str} {sp : Sp} {s : Shared} {vs : List Value} {ns : List Int}
/-- a call of the law where H tracks the script at most -/
theorem end_core (KX : K.In s.heap) (hm : s.heap.Ns mainGlobals mg) (hb : s.heap.Ns builtinsNs mb) (hbb : ∀ x : Str, x ≠ "__name__" → mb x = bootBuiltins x) (hlim : s.heap.NoLimit) (hg : s.gens = #[])
    (ha : s.heap.get? a = some { cls := .type "list", data := .seq vs.toArray }) (hr : Room k callerA) (F : ∀ base : Heap, K.In base → base.Ns mainGlobals mg → FnG P w K mg base k fa fd [x] sp) (hbind : ∀ (s : Shared) (u : Value), BindsTo s fd ⟨[u], []⟩ [(x, u)])
    (H : Hp) (hO : Only H) (hok : HOk P w H s.heap) (hA : ∀ b u, H b = some u → b = a) (hK : ∀ u, H a = some u → K.lookup a = none) (hsp : sp [.ref a] H (fun v _ => v = .bl true) fun _ _ _ => False) :
    codeAny (model P w) callerA (.call (.ref fa) ⟨[.ref a], []⟩) (fun r s' => r = .ok (.ret (.bool true)) ∧ OldK s.heap s'.heap ∧ s'.os = s.os ∧ AllBare s'.gens) s := by
  -- what is no list stands in the base
  have free : ∀ {b : Addr} {o : Obj} {es : Array DictEntry} {n : Nat}, s.heap.get? b = some o → o.data = .dict es n → H b = none := by
    intro b o es n e1 e2
    cases q : H b with
    | none => rfl
    | some u =>
      have e3 := hA b u q
      rw [e3, ha] at e1
      cases e1
      exact nomatch (show Data.seq vs.toArray _ = Data.dict es n from e2)
  have down : ∀ {b : Addr} {m : Str → Option Value}, s.heap.Ns b m → (hidT s.heap H).Ns b m := by
    rintro b m ⟨o, es, n, e, dd, rr⟩
    exact ⟨o, es, n, hidT_get e (free e dd), dd, rr⟩
  have inB : K.In (hidT s.heap H) := fun b o e => by
    refine hidT_get (KX b o e) ?_
    cases q : H b with
    | none => rfl
    | some u =>
      have e3 := hA b u q
      rw [e3] at q e
      rw [hK u q] at e
      exact nomatch e
  have md : Mod K mg (hidT s.heap H) := by
    obtain ⟨ml, l1, l2⟩ := hlim
    exact ⟨inB, down hm, ⟨mb, down hb, hbb⟩, ⟨ml, down l1, l2⟩⟩
  have e0 : Env0 P w K mg (hidT s.heap H) callerA [] s H := by
    refine ⟨rfl, md, fun b o e => of_hidT e, Nat.le_of_eq (hidT_size _ _), trivial, fun b hb => ?_, hok, .of_eq hg⟩
    exact absurd (show b ∈ ([] : List Addr) from hb) (by simp)
  refine codeAny_mono ((F _ inB (down hm)).run callerA [] s H ⟨[.ref a], []⟩ [.ref a] [.ref a] _ _ rfl hr e0 (hbind s (.ref a)) (.cons rfl .nil) hsp) fun r s2 z => ?_
  match r, z with
  | .error e, z =>
    obtain ⟨_, _, _, _, _, _, _, _, _, _, _, _, ff⟩ := z
    exact ff.elim
  | .ok .next, z => exact False.elim z
  | .ok .brk, z => exact False.elim z
  | .ok .cont, z => exact False.elim z
  | .ok (.ret u), z =>
    obtain ⟨v, H2, os, bare, un, hok2, rr, rfl⟩ := z
    obtain rfl : u = Value.bool true := rr
    refine ⟨rfl, OldK.of_keep fun b o e => ?_, os, bare⟩
    cases q : H b with
    | none => exact un.keep b o e q (fun z => absurd (show b ∈ ([] : List Addr) from z) (by simp)) (by simp)
    | some u =>
      rcases hO b with z | ⟨ob, ys, z⟩
      · rw [q] at z; cases z
      · have g1 := (hok b _ z).1
        have g2 := (hok2 b _ (un.frzs b ob _ z)).1
        rw [e] at g1
        cases g1
        exact g2
theorem end_call (KX : K.In s.heap) (hm : s.heap.Ns mainGlobals mg) (hb : s.heap.Ns builtinsNs mb) (hbb : ∀ x : Str, x ≠ "__name__" → mb x = bootBuiltins x) (hlim : s.heap.NoLimit) (hg : s.gens = #[])
    (ha : s.heap.get? a = some { cls := .type "list", data := .seq vs.toArray }) (hi : IntsAre vs ns) (hl : ns.length ≤ sizeLine) (hr : Room k callerA) (F : ∀ base : Heap, K.In base → base.Ns mainGlobals mg → FnG P w K mg base k fa fd [x] sp) (hbind : ∀ (s : Shared) (u : Value), BindsTo s fd ⟨[u], []⟩ [(x, u)])
    (hsp : ∀ H : Hp, Only H → SqL K H a (ns.map V.int) → sp [.ref a] H (fun v _ => v = .bl true) fun _ _ _ => False) :
    codeAny (model P w) callerA (.call (.ref fa) ⟨[.ref a], []⟩) (fun r s' => r = .ok (.ret (.bool true)) ∧ OldK s.heap s'.heap ∧ s'.os = s.os ∧ AllBare s'.gens) s := by
  have rv := vals_ints hi
  have hlen := hi.length
  cases hk : K.lookup a with
  | some o =>
    have e := KX a o hk
    rw [ha] at e
    cases e
    have hO : Only fun _ => none := fun _ => .inl rfl
    refine end_core KX hm hb hbb hlim hg ha hr F hbind (fun _ => none) hO (fun b u z => (nomatch (show (none : Option HO) = some u from z))) (fun b u z => (nomatch (show (none : Option HO) = some u from z))) (fun u z => (nomatch (show (none : Option HO) = some u from z))) (hsp _ hO (.inr ⟨_, vs.toArray, _, hk, rfl, rfl, rfl, ?_, ?_⟩))
    · rw [List.size_toArray, hlen]; exact hl
    · simpa using rv
  | none =>
    let ob : Obj := { cls := .type "list", data := .seq vs.toArray }
    let H : Hp := fun b => if b = a then some (.frz ob (.lst (ns.map V.int))) else none
    have at_ : ∀ b u, H b = some u → b = a ∧ u = .frz ob (.lst (ns.map V.int)) := fun b u z => by
      by_cases e : b = a
      · have z' := (if_pos e).symm.trans z
        cases z'
        exact ⟨e, rfl⟩
      · exact nomatch (if_neg e).symm.trans z
    have hO : Only H := fun b => by
      by_cases e : b = a
      · exact .inr ⟨ob, _, if_pos e⟩
      · exact .inl (if_neg e)
    refine end_core KX hm hb hbb hlim hg ha hr F hbind H hO (fun b u z => ?_) (fun b u z => (at_ b u z).1) (fun _ _ => hk) (hsp H hO (.inl (.inr ⟨ob, if_pos rfl⟩)))
    obtain ⟨rfl, rfl⟩ := at_ b u z
    exact ⟨ha, by rw [List.length_map]; exact hl, vs, _, rv, ha⟩
end
/-- THE HEAD: what k_head leaves, from the law's promise over data -/
theorem walkG {l : PySem.W.OpenLaw} {n k : Nat} {q : Program} {loose : List Str} {XP : (Str → Option Value) → Heap → Prop} {YP : World → Heap → Prop} {d : DefRec} {K : Params → PySem.W.Frag} {sp : DSp} {x : Str}
    (hn : l.most = some n) (hn2 : n ≤ sizeLine) (hdf : d.params.defaults = []) (hr : Room k callerA) (hY : ∀ (w : World) (h : Heap), YP w h → (K w.params).In h)
    (F : ∀ (w : World) (mg : Str → Option Value) (fa : Addr) (h : Heap), (K w.params).In h → h.Ns mainGlobals mg → mg d.name = some (.ref fa) →
      ∃ fd : FuncData, (∀ (s : Shared) (u : Value), BindsTo s fd ⟨[u], []⟩ [(x, u)]) ∧ ∀ base : Heap, (K w.params).In base → base.Ns mainGlobals mg → FnG l.prog w (K w.params) mg base k fa fd [x] (spD (K w.params) 1 sp))
    (hsp : ∀ ns : List Int, ns.length ≤ n → sp MC.no [.fls (ns.map D.int)] (fun r => r = .val (.bl true)) fun _ => False) :
    PySem.W.WalkO q loose XP YP l.row.toRowW d [] (fun f vs => PySem.call f vs) := by
  refine Att.attach_call hn hdf fun w s₀ s₁ mg mb fa o pm cd doc a vs ns G Y ho hd hcd hmg hobj hints hlen hg => ?_
  obtain ⟨fd, hb, hF⟩ := F w mg fa _ (hY w _ Y) G.T.g hmg
  refine end_call (hY w _ Y) G.T.g G.T.b G.T.builtins G.T.nolimit hg hobj hints (Nat.le_trans hlen hn2) hr hF hb fun H hO hS => ?_
  refine ⟨MC.no, [.fls (ns.map D.int)], _, _, trivial, .cons (.fls ?_ (DAll.of_ints _ _ _ ns)) .nil, rfl, hsp ns hlen, fun v H' r kp ra e => ?_, fun _ _ _ _ _ _ z => z.elim⟩
  · rcases hS with (h | ⟨o, h⟩) | h
    · rcases hO a with z | ⟨ob, xs, z⟩
      · rw [h] at z; cases z
      · rw [h] at z; cases z
    · exact .inl ⟨fun z => z, o, h⟩
    · exact .inr (.inr h)
  · subst e
    cases ra
    rfl
end Dl

set_option Elab.async false
set_option linter.all false
set_option maxRecDepth 100000
set_option maxHeartbeats 4000000
/-! DlK: short words for the printed compositions. -/
namespace Dl
open PySem L2
open PyProof.Rows (envOfC)

theorem hr64 {k : Nat} {A : Around} (r : Room k A) : A.units + 64 < cLine := by have := r.un; omega
theorem hr65 {k : Nat} {A : Around} (r : Room k A) : A.units + 65 < cLine := by have := r.un; omega
theorem hr1 {k : Nat} {A : Around} (r : Room k A) : A.units + 1 < cLine := by have := r.un; omega
theorem hr100 {k : Nat} {A : Around} (r : Room k A) : A.units + (64 + 1) < cLine := by have := r.un; omega
/-- a def as the top has made it -/
structure DefAt (K : PySem.W.Frag) (mg : Str → Option Value) (x : Str) (st : Stmt) where
  f : Addr
  fd : FuncData
  F : Fun K x x st f fd
  m : mg x = some (.ref f)
/-- a constant of the module -/
structure GlobAt (K : PySem.W.Frag) (mg : Str → Option Value) (x : Str) (d : D) : Prop where
  ex : ∃ (v : V) (u : Value), mg x = some u ∧ RelV v u ∧ ∀ O H, DAt K O H v d
section
variable {X : Cx} {M : MC} {E : WX} {a b e : Expr} {pos p : Pos} {wa wb we : WE}
theorem pd_glob {x : Str} {d : D} (g : GlobAt X.K X.mg x d) (hg : Gl X x := by rfl) (hd : (x == ("__debug__" : Str)) = false := by decide) : PE X (.Name x pos) (tD X.K M E (wC d)) := by
  obtain ⟨v, u, h1, h2, h3⟩ := g.ex
  exact pd_val (pe_glob hg h1 h2 hd) h3
theorem pd_isB {x : Str} {n : String} (hm : X.mg x = none) (hv : bootBuiltins x = some (.type n) := by decide +kernel) (hg : Gl X x := by rfl) (hn : x ≠ "__name__" := by decide) (hd : (x == ("__debug__" : Str)) = false := by decide) : PE X (.Name x pos) (tC (.ty n)) := pe_bltn hg hm hv rfl hn hd
/-- tests -/
theorem pt_lt (ha : PE X a (tD X.K M E wa)) (hb : PE X b (tD X.K M E wb)) : PT X (.Compare a [.Lt] [b] pos) (tDT X.K M E (wB (wOp oLt wa wb))) := pd_tcmp (op_lt.or op_lt_str) od_cmp ha hb
theorem pt_le (ha : PE X a (tD X.K M E wa)) (hb : PE X b (tD X.K M E wb)) : PT X (.Compare a [.LtE] [b] pos) (tDT X.K M E (wB (wOp oLe wa wb))) := pd_tcmp (op_le.or op_le_str) od_cmp ha hb
theorem pt_gt (ha : PE X a (tD X.K M E wa)) (hb : PE X b (tD X.K M E wb)) : PT X (.Compare a [.Gt] [b] pos) (tDT X.K M E (wB (wOp oGt wa wb))) := pd_tcmp (op_gt.or op_gt_str) od_cmp ha hb
theorem pt_ge (ha : PE X a (tD X.K M E wa)) (hb : PE X b (tD X.K M E wb)) : PT X (.Compare a [.GtE] [b] pos) (tDT X.K M E (wB (wOp oGe wa wb))) := pd_tcmp (op_ge.or op_ge_str) od_cmp ha hb
theorem pt_eq (hu : X.A.units + 64 < cLine) (ha : PE X a (tD X.K M E wa)) (hb : PE X b (tD X.K M E wb)) : PT X (.Compare a [.Eq] [b] pos) (tDT X.K M E (wB (wOp oEq wa wb))) := pd_tcmp (op_eqA hu) od_eq ha hb
theorem pt_ne (hu : X.A.units + 64 < cLine) (ha : PE X a (tD X.K M E wa)) (hb : PE X b (tD X.K M E wb)) : PT X (.Compare a [.NotEq] [b] pos) (tDT X.K M E (wB (wOp oNe wa wb))) := pd_tcmp (op_neA hu) od_eq ha hb
theorem pt_in (hu : X.A.units + 65 < cLine) (ha : PE X a (tD X.K M E wa)) (hb : PE X b (tD X.K M E wb)) (hm : behindInMarks .In b = false := by rfl) : PT X (.Compare a [.In] [b] pos) (tDT X.K M E (wB (wOp (oIn fun b => b) wa wb))) := pd_tcmp (op_inA hu) od_in ha hb hm
theorem pt_notin (hu : X.A.units + 65 < cLine) (ha : PE X a (tD X.K M E wa)) (hb : PE X b (tD X.K M E wb)) (hm : behindInMarks .NotIn b = false := by rfl) : PT X (.Compare a [.NotIn] [b] pos) (tDT X.K M E (wB (wOp (oIn fun b => !b) wa wb))) := pd_tcmp (op_notInA hu) od_notIn ha hb hm
theorem isN_all {K : PySem.W.Frag} {f : Bool → Bool} : ∀ σ H Q, tDT K M E (wB (wUn (oIsN f) wa)) σ H Q → tB (fun σ H Q => tD K M E wa σ H fun x H1 => Q (.bl (f (decide (x = .non)))) H1) σ H Q := by
  rintro σ H Q ⟨G, om, ρ, Xd, Qd, R, L, w, k⟩
  refine ⟨G, om, ρ, Xd, _, R, L, w, fun om1 ρ1 v H1 r R1 h1 ⟨d, g, b, gb, w1⟩ => ?_⟩
  refine ⟨_, rfl, ?_⟩
  rw [(R1.get h1 g).nonB]
  have e : b = f d.isN := by
    have : some (D.bl (f d.isN)) = some (D.bl b) := gb
    cases this; rfl
  rw [← e]
  exact k om1 ρ1 b H1 R1.unhold w1
theorem pt_isN {j pos'} (ha : PE X a (tD X.K M E wa)) : PT X (.Compare a [.Is] [.Constant .none j pos'] pos) (tDT X.K M E (wB (wUn (oIsN fun b => b) wa))) := PT.weak (pt_cmp (pc_isN ha) rfl) (isN_all (f := fun b => b))
theorem pt_notN {j pos'} (ha : PE X a (tD X.K M E wa)) : PT X (.Compare a [.IsNot] [.Constant .none j pos'] pos) (tDT X.K M E (wB (wUn (oIsN fun b => !b) wa))) := PT.weak (pt_cmp (pc_notN ha) rfl) (isN_all (f := fun b => !b))
/-- name = [..] on one row, the name a local -/
theorem pd_setLc {y : Str} {py : Pos} {elt tg iter : Expr} {ifs : List Expr} {scope : Scope} {own : List (Str × Nat)} {spos : Pos} {wi : WI} {S : List Nat} {g : WG} {tt : WT} {te : WE} (i : Nat) (hc : X.calm = true) (hN : X.N.Nodup) (ok : BlkOk X.N X.env.scope scope own) (hi : PI X tg iter (tDI X.K M E wi))
    (hg : ∀ (s : Shared) (H : Hp) (C : Addr) (cl : List (Str × Addr)) (fp : List Addr), PG (X.blk s H scope (compEnvC scope cl C X.env) fp) tg (tDG X.K M S g)) (ht : ∀ (s : Shared) (H : Hp) (C : Addr) (cl : List (Str × Addr)) (fp : List Addr), PTs (X.blk s H scope (compEnvC scope cl C X.env) fp) ifs (tDT X.K M noE tt))
    (he : ∀ (s : Shared) (H : Hp) (C : Addr) (cl : List (Str × Addr)) (fp : List Addr), PE (X.blk s H scope (compEnvC scope cl C X.env) fp) elt (tD X.K M noE te)) (hS : ∀ i ∈ S, i ∈ own.map (·.2) := by decide) (hy : X.N[i]? = some y := by rfl) (hyl : X.env.scope.names.lookup y = some .local := by rfl)
    (hsw : swapsWith (.ListComp elt [⟨tg, iter, ifs, 0⟩] scope pos) (some (.Name y py)) spos.line X.env = pure true := by rfl) (hs : ∀ x, foldedSetIterable iter X.env x = pure x := by intro _; rfl) :
    PS X (.Assign [.Name y py] (.ListComp elt [⟨tg, iter, ifs, 0⟩] scope pos) spos) (tDS X.K M E (wsSet i (wLc wi g tt te (own.map (·.2))))) :=
  PS.weak (ps_setLc hc hN hy hyl hsw hi ok hg ht he hs) fun D σ H ⟨G, om, ρ, Xd, Qd, R, L, w, k1, _⟩ => lc_all (E := E) hS σ H _ ⟨G, om, ρ, Xd, _, R, L, w, fun om1 ρ1 v H1 r R1 h1 w1 => by
    cases r with
    | val d =>
      obtain ⟨R2, hd⟩ := Rel.unpin R1
      exact k1 _ _ _ _ (R2.set hd) w1
    | new d =>
      obtain ⟨p, rfl⟩ := h1
      exact k1 _ _ _ _ (Rel.setOwn R1) w1
    | slt j =>
      obtain ⟨d, ρ2, g, w1⟩ := w1
      obtain ⟨om2, s2, hd, R2⟩ := R1.out h1 g
      exact k1 _ _ _ _ (R2.set hd) w1⟩
end
theorem tdX {X : Cx} {E : XK} (hs : X.stack = X.env :: X.outer := by rfl) (hf : X.env.frame = some X.env.locals := by rfl) (hex : X.ex = [] := by rfl) {E₁ : Value → Shared → Prop}
    (hx : X.xe = fun e s' => wpAny (model X.prog X.w) X.A (leaving X.env e) (fun _ s'' => L2.CX X.prog X.w X.outer X.H_0 X.s_0 E e s'') E₁ s' := by rfl) : Takes X (fun cls d _ H => E cls d H) := takes_of hs hf hex hx
/-- what is never reached -/
def wsNev : WS := fun _ _ _ => False
theorem pd_nev {X : Cx} {M : MC} {E : WX} {st : Stmt} : PS X st (tDS X.K M E wsNev) := PS.weak ps_never fun D σ H ⟨G, om, ρ, Xd, Qd, R, L, w, _⟩ => w
end Dl

set_option Elab.async false
set_option linter.all false
set_option maxRecDepth 100000
set_option maxHeartbeats 4000000
/-! DlL: the readings, reckoned by simp. -/
namespace Dl
open PySem L2

/-- a mark that keeps simp out of k -/
structure Tag {α : Sort u} (k : α) : Type where
/-- what an option holds -/
def bindP {α : Type} (o : Option α) (k : α → Prop) (_ : Tag k := ⟨⟩) : Prop := ∃ a, o = some a ∧ k a
@[simp] theorem bindP_some {α : Type} {a : α} {k : α → Prop} {t : Tag k} : bindP (some a) k t = k a := propext ⟨fun ⟨b, h1, h2⟩ => by cases h1; exact h2, fun h => ⟨a, rfl, h⟩⟩
@[simp] theorem bindP_none {α : Type} {k : α → Prop} {t : Tag k} : bindP none k t = False := propext ⟨fun ⟨b, h1, h2⟩ => (nomatch h1), fun h => False.elim h⟩
def callP (M : MC) (sp : DSp) (ds : List D) (k : Rs → Prop) (e : Ex → Prop) (_ : Tag k := ⟨⟩) (_ : Tag e := ⟨⟩) : Prop := ∀ M', Mext M M' → sp M' ds k e
def forP (g : WG) (tb : WS) (ds : List D) (ρ : Rho) (X : XD) (E : ED) (_ : Tag E := ⟨⟩) : Prop := forD g tb ds ρ X E
def lcP (g : WG) (tt : WT) (te : WE) (vs : List Nat) (ds acc : List D) (ρ : Rho) (Q : Rs → Rho → Prop) (_ : Tag Q := ⟨⟩) : Prop := lcD g tt te vs ds acc ρ Q
def whP (c : WT) (tb : WS) (ρ : Rho) (X : XD) (E : ED) (_ : Tag E := ⟨⟩) : Prop := ∃ n, whD c tb n ρ X E
def opP (o : D → D → (Rs → Prop) → Prop) (d e : D) (k : Rs → Prop) (_ : Tag k := ⟨⟩) : Prop := o d e k
def unP (o : D → (Rs → Prop) → Prop) (d : D) (k : Rs → Prop) (_ : Tag k := ⟨⟩) : Prop := o d k
def caP (o : List D → (Rs → Prop) → Prop) (ds : List D) (k : Rs → Prop) (_ : Tag k := ⟨⟩) : Prop := o ds k
def slP (d : D) (lo hi : Option Int) (k : Rs → Prop) (_ : Tag k := ⟨⟩) : Prop := oSl d lo hi k
/-- a truth picked -/
def iteP (c : Bool) (a b : Prop) (_ : Tag a := ⟨⟩) (_ : Tag b := ⟨⟩) : Prop := if c = true then a else b
@[simp] theorem iteP_t {a b : Prop} {t u} : iteP true a b t u = a := if_pos rfl
@[simp] theorem iteP_f {a b : Prop} {t u} : iteP false a b t u = b := if_neg Bool.false_ne_true
theorem iteP_of {c : Bool} {a b : Prop} {t u} (h1 : c = true → a) (h2 : c = false → b) : iteP c a b t u := by
  cases c with
  | true => rw [iteP_t]; exact h1 rfl
  | false => rw [iteP_f]; exact h2 rfl
section
variable {ρ : Rho} {X : XD} {Q : Rs → Rho → Prop} {QT : Bool → Rho → Prop} {QA : List Rs → Rho → Prop} {E : ED} {QG : Rho → Prop}
theorem ex2 {α β : Type} {P : α → Prop} {Q : β → Prop} {R : α → β → Prop} : (∃ a b, P a ∧ Q b ∧ R a b) = ∃ a, P a ∧ ∃ b, Q b ∧ R a b := propext ⟨fun ⟨a, b, h1, h2, h3⟩ => ⟨a, h1, b, h2, h3⟩, fun ⟨a, h1, b, h2, h3⟩ => ⟨a, b, h1, h2, h3⟩⟩
theorem exP {α β : Type} {P : α × β → Prop} : (∃ a b, P (a, b)) = ∃ p, P p := propext ⟨fun ⟨a, b, h⟩ => ⟨(a, b), h⟩, fun ⟨(a, b), h⟩ => ⟨a, b, h⟩⟩
theorem ex2b {α β : Type} {o1 : Option α} {o2 : Option β} {R : α → β → Prop} : (∃ a b, o1 = some a ∧ o2 = some b ∧ R a b) = bindP o1 fun a => bindP o2 fun b => R a b := ex2
theorem exPb {α β : Type} {o : Option (α × β)} {R : α → β → Prop} : (∃ a b, o = some (a, b) ∧ R a b) = bindP o fun p => R p.1 p.2 := exP (P := fun p => o = some p ∧ R p.1 p.2)
theorem ite_iteP {c : Bool} {a b : Prop} : (if c = true then a else b) = iteP c a b := rfl
@[simp ↓] theorem e_wVar {i : Nat} : wVar i ρ X Q = bindP (pk ρ i) fun _ => Q (.slt i) ρ := propext ⟨fun ⟨⟨d, h⟩, q⟩ => ⟨d, h, q⟩, fun ⟨d, h, q⟩ => ⟨⟨d, h⟩, q⟩⟩
@[simp ↓] theorem e_wC {d : D} : wC d ρ X Q = Q (.val d) ρ := rfl
@[simp ↓] theorem e_wOp {o : D → D → (Rs → Prop) → Prop} {a b : WE} : wOp o a b ρ X Q = a ρ X fun ra ρ1 => b ρ1 X fun rb ρ2 => bindP (ra.get ρ2) fun d => bindP (rb.get ρ2) fun e => opP o d e fun c => Q c ρ2 := by
  unfold wOp bindP
  exact congrArg _ (funext fun ra => funext fun ρ1 => congrArg _ (funext fun rb => funext fun ρ2 => ex2 (P := fun d => ra.get ρ2 = some d) (Q := fun e => rb.get ρ2 = some e) (R := fun d e => o d e fun c => Q c ρ2)))
@[simp ↓] theorem e_wUn {o : D → (Rs → Prop) → Prop} {a : WE} : wUn o a ρ X Q = a ρ X fun r ρ1 => bindP (r.get ρ1) fun d => unP o d fun c => Q c ρ1 := rfl
def asB : D → Option Bool
  | .bl b => some b
  | _ => none
@[simp] theorem asB_bl {b : Bool} : asB (.bl b) = some b := rfl
theorem bl_eq {o : Option D} {k : Bool → Prop} : (∃ b, o = some (.bl b) ∧ k b) = bindP o fun d => bindP (asB d) k := by
  unfold bindP
  refine propext ⟨fun ⟨b, h, q⟩ => ⟨_, h, b, rfl, q⟩, fun ⟨d, h, b, h2, q⟩ => ?_⟩
  cases d <;> first | cases h2; exact ⟨_, h, q⟩ | cases h2
@[simp ↓] theorem e_wB {a : WE} : wB a ρ X QT = a ρ X fun r ρ1 => bindP (r.get ρ1) fun d => bindP (asB d) fun b => QT b ρ1 := congrArg _ (funext fun r => funext fun ρ1 => bl_eq)
@[simp ↓] theorem e_wAnd {t u : WT} : wAnd t u ρ X QT = t ρ X fun b ρ1 => iteP b (u ρ1 X QT) (QT false ρ1) := rfl
@[simp ↓] theorem e_wOr {t u : WT} : wOr t u ρ X QT = t ρ X fun b ρ1 => iteP b (QT true ρ1) (u ρ1 X QT) := rfl
@[simp ↓] theorem e_wNot {t : WT} : wNot t ρ X QT = t ρ X fun b ρ1 => QT (!b) ρ1 := rfl
@[simp ↓] theorem e_wAndV {a b : WE} : wAndV a b ρ X Q = a ρ X fun r ρ1 => bindP (r.get ρ1) fun d => bindP (asB d) fun c => iteP c (b ρ1 X Q) (Q (.val (.bl false)) ρ1) := congrArg _ (funext fun r => funext fun ρ1 => bl_eq)
@[simp ↓] theorem e_wOrV {a b : WE} : wOrV a b ρ X Q = a ρ X fun r ρ1 => bindP (r.get ρ1) fun d => bindP (asB d) fun c => iteP c (Q (.val (.bl true)) ρ1) (b ρ1 X Q) := congrArg _ (funext fun r => funext fun ρ1 => bl_eq)
@[simp ↓] theorem e_wNotV {a : WE} : wNotV a ρ X Q = a ρ X fun r ρ1 => bindP (r.get ρ1) fun d => bindP (asB d) fun c => Q (.val (.bl (!c))) ρ1 := congrArg _ (funext fun r => funext fun ρ1 => bl_eq)
@[simp ↓] theorem e_wIf {t : WT} {a b : WE} : wIf t a b ρ X Q = t ρ X fun c ρ1 => iteP c (a ρ1 X Q) (b ρ1 X Q) := rfl
@[simp ↓] theorem e_waNil : waNil ρ X QA = QA [] ρ := rfl
@[simp ↓] theorem e_waCons {a : WE} {r : WA} : waCons a r ρ X QA = a ρ X fun x ρ1 => r ρ1 X fun xs ρ2 => QA (x :: xs) ρ2 := rfl
@[simp ↓] theorem e_wTup {a : WA} : wTup a ρ X Q = a ρ X fun rs ρ1 => rs.length ≤ 1000 ∧ bindP (lets ρ1 rs) fun p => Q (.val (.tup p.1)) p.2 := by
  unfold wTup bindP
  exact congrArg _ (funext fun rs => funext fun ρ1 => congrArg _ (exP (P := fun p => lets ρ1 rs = some p ∧ Q (.val (.tup p.1)) p.2)))
@[simp ↓] theorem e_wLst {a : WA} : wLst a ρ X Q = a ρ X fun rs ρ1 => rs.length ≤ 1000 ∧ bindP (lets ρ1 rs) fun p => Q (.new (.lst p.1)) p.2 := by
  unfold wLst bindP
  exact congrArg _ (funext fun rs => funext fun ρ1 => congrArg _ (exP (P := fun p => lets ρ1 rs = some p ∧ Q (.new (.lst p.1)) p.2)))
@[simp ↓] theorem e_wCa {o : List D → (Rs → Prop) → Prop} {a : WA} : wCa o a ρ X Q = a ρ X fun rs ρ1 => bindP (gets ρ1 rs) fun ds => caP o ds fun c => Q c ρ1 := rfl
@[simp ↓] theorem e_wIsi {cs : List TN} {a : WE} : wIsi cs a ρ X Q = a ρ X fun r ρ1 => bindP (r.get ρ1) fun d => bindP d.tn fun t => Q (.val (.bl (cs.any fun c => t.is c))) ρ1 := by
  unfold wIsi bindP
  refine congrArg _ (funext fun r => funext fun ρ1 => propext ?_)
  exact ⟨fun ⟨d, e, h1, h2, h3⟩ => ⟨d, h1, e, h2, h3⟩, fun ⟨d, h1, e, h2, h3⟩ => ⟨d, e, h1, h2, h3⟩⟩
theorem val_bl {r : Rs} {k : Bool → Prop} : (∃ b, r = .val (.bl b) ∧ k b) = bindP (match r with | .val d => asB d | _ => none) k := by
  unfold bindP
  refine propext ⟨fun ⟨b, h, q⟩ => ⟨b, by rw [h]; rfl, q⟩, fun ⟨b, h, q⟩ => ⟨b, ?_, q⟩⟩
  cases r with
  | val d => cases d <;> first | cases h; rfl | cases h
  | _ => cases h
@[simp ↓] theorem e_wChain {o o' : D → D → (Rs → Prop) → Prop} {a b c : WE} : wChain o o' a b c ρ X Q = a ρ X fun ra ρ1 => b ρ1 X fun rb ρ2 => bindP (ra.get ρ2) fun d => bindP (rb.get ρ2) fun e => opP o d e fun r => bindP (match r with | .val d => asB d | _ => none) fun b =>
    iteP b (c ρ2 X fun rc ρ3 => bindP (rb.get ρ3) fun e' => bindP (rc.get ρ3) fun g => opP o' e' g fun r' => Q r' ρ3) (Q (.val (.bl false)) ρ2) := by
  unfold wChain
  simp only [ex2b, val_bl, ite_iteP, opP]
@[simp ↓] theorem e_woNone {QO : Option Int → Rho → Prop} : woNone ρ X QO = QO none ρ := rfl
def asI : D → Option Int
  | .int b => some b
  | _ => none
@[simp] theorem asI_int {b : Int} : asI (.int b) = some b := rfl
theorem int_eq {o : Option D} {k : Int → Prop} : (∃ b, o = some (.int b) ∧ k b) = bindP o fun d => bindP (asI d) k := by
  unfold bindP
  refine propext ⟨fun ⟨b, h, q⟩ => ⟨_, h, b, rfl, q⟩, fun ⟨d, h, b, h2, q⟩ => ?_⟩
  cases d <;> first | cases h2; exact ⟨_, h, q⟩ | cases h2
@[simp ↓] theorem e_woSome {a : WE} {QO : Option Int → Rho → Prop} : woSome a ρ X QO = a ρ X fun r ρ1 => bindP (r.get ρ1) fun d => bindP (asI d) fun i => QO (some i) ρ1 := congrArg _ (funext fun r => funext fun ρ1 => int_eq)
@[simp ↓] theorem e_wSl {a : WE} {l h : WO} : wSl a l h ρ X Q = a ρ X fun r ρ1 => l ρ1 X fun lo ρ2 => h ρ2 X fun hi ρ3 => bindP (r.get ρ3) fun d => slP d lo hi fun c => Q c ρ3 := rfl
@[simp ↓] theorem e_wCall {M : MC} {n m np : Nat} {ix : List Nat} {sp : DSp} {a k : WA} : wCall M n m ix np sp a k ρ X Q = a ρ X fun rs ρ1 => k ρ1 X fun qs ρ2 => rs.length = n ∧ qs.length = m ∧ bindP (lets ρ2 (rs ++ qs)) fun p => (pick ix p.1).length = np ∧
    callP M sp (pick ix p.1) (fun r => iteP r.flat (Q r ρ2) (Q r p.2)) fun e => X e p.2 := by
  unfold wCall bindP callP iteP
  refine congrArg _ (funext fun rs => funext fun ρ1 => congrArg _ (funext fun qs => funext fun ρ2 => congrArg _ (congrArg _ ?_)))
  rw [← exP]
  refine congrArg _ (funext fun ds => congrArg _ (funext fun ρ3 => congrArg _ (congrArg _ ?_)))
  have e : ∀ r : Rs, (if r.flat = true then Q r ρ2 else Q r ρ3) = Q r (if r.flat = true then ρ2 else ρ3) := fun r => by by_cases h : r.flat = true <;> simp [h]
  simp only [e]
/-! statements -/
@[simp ↓] theorem e_next : wsNext ρ X E = E.nx ρ := rfl
@[simp ↓] theorem e_seq {a b : WS} : wsSeq a b ρ X E = a ρ X ⟨fun ρ1 => b ρ1 X E, E.rt, E.bk, E.ct⟩ := rfl
@[simp ↓] theorem e_brk : wsBrk ρ X E = E.bk ρ := rfl
@[simp ↓] theorem e_cont : wsCont ρ X E = E.ct ρ := rfl
@[simp ↓] theorem e_nev : wsNev ρ X E = False := rfl
@[simp ↓] theorem e_ret {a : WE} : wsRet a ρ X E = a ρ X fun r ρ1 => bindP (r.giv ρ1) fun r' => E.rt r' := rfl
@[simp ↓] theorem e_retN : wsRetN ρ X E = E.rt (.val .non) := rfl
@[simp ↓] theorem e_drop {a : WE} : wsDrop a ρ X E = a ρ X fun _ ρ1 => E.nx ρ1 := rfl
@[simp ↓] theorem e_ifS {t : WT} {a b : WS} : wsIf t a b ρ X E = t ρ X fun c ρ1 => iteP c (a ρ1 X E) (b ρ1 X E) := rfl
@[simp ↓] theorem e_gName {i : Nat} {d : D} : wgName i d ρ QG = QG (ρ.set i (some (.sh d))) := rfl
@[simp ↓] theorem e_gNil {ds : List D} : wgNil ds ρ QG = (ds = [] ∧ QG ρ) := rfl
@[simp ↓] theorem e_gCons {g : WG} {gs : WGs} {d : D} {r : List D} : wgCons g gs (d :: r) ρ QG = g d ρ fun ρ1 => gs r ρ1 QG := propext ⟨fun ⟨d', r', h, q⟩ => by cases h; exact q, fun h => ⟨d, r, rfl, h⟩⟩
@[simp ↓] theorem e_gTup {n : Nat} {gs : WGs} {ds : List D} : wgTup n gs (.tup ds) ρ QG = (ds.length = n ∧ gs ds ρ QG) := propext ⟨fun ⟨d', h, q⟩ => by cases h; exact q, fun h => ⟨ds, rfl, h⟩⟩
/-- what a name gets -/
def putR (i : Nat) (ρ : Rho) (nx : Rho → Prop) : Rs → Prop
  | .new d => nx (ρ.set i (some (.ow d)))
  | .val d => nx (ρ.set i (some (.sh d)))
  | .slt j => bindP (Rs.out ρ (.slt j)) fun p => nx (p.2.set i (some (.sh p.1)))
@[simp ↓] theorem putR_new {i : Nat} {nx : Rho → Prop} {d : D} : putR i ρ nx (.new d) = nx (ρ.set i (some (.ow d))) := rfl
@[simp ↓] theorem putR_val {i : Nat} {nx : Rho → Prop} {d : D} : putR i ρ nx (.val d) = nx (ρ.set i (some (.sh d))) := rfl
@[simp ↓] theorem putR_slt {i j : Nat} {nx : Rho → Prop} : putR i ρ nx (.slt j) = bindP (Rs.out ρ (.slt j)) fun p => nx (p.2.set i (some (.sh p.1))) := rfl
@[simp ↓] theorem e_set {i : Nat} {a : WE} : wsSet i a ρ X E = a ρ X fun r ρ1 => putR i ρ1 E.nx r := by
  unfold wsSet
  refine congrArg _ (funext fun r => funext fun ρ1 => ?_)
  cases r with
  | val d => rfl
  | new d => rfl
  | slt j => exact exP (P := fun p => Rs.out ρ1 (.slt j) = some p ∧ E.nx (p.2.set i (some (.sh p.1))))
@[simp ↓] theorem e_asg {a : WE} {g : WG} : wsAsg a g ρ X E = a ρ X fun r ρ1 => bindP (r.out ρ1) fun p => g p.1 p.2 E.nx := by
  unfold wsAsg
  exact congrArg _ (funext fun r => funext fun ρ1 => exP (P := fun p => r.out ρ1 = some p ∧ g p.1 p.2 E.nx))
@[simp ↓] theorem e_for {wi : WI} {g : WG} {tb : WS} : wsFor wi g tb ρ X E = wi ρ X fun ds ρ1 => forP g tb ds ρ1 X E := rfl
@[simp ↓] theorem e_wh {c : WT} {tb : WS} : wsWh c tb ρ X E = whP c tb ρ X E := rfl
theorem e_wh1 {c : WT} {tb : WS} {n : Nat} : whD c tb (n + 1) ρ X E = c ρ X fun b ρ1 => iteP b (tb ρ1 X ⟨fun ρ2 => whD c tb n ρ2 X E, E.rt, E.nx, fun ρ2 => whD c tb n ρ2 X E⟩) (E.nx ρ1) := rfl
@[simp ↓] theorem e_for0 {g : WG} {tb : WS} {t} : forP g tb [] ρ X E t = E.nx ρ := rfl
theorem e_for1 {g : WG} {tb : WS} {d : D} {ds : List D} {t} : forP g tb (d :: ds) ρ X E t = g d ρ fun ρ1 => tb ρ1 X ⟨fun ρ2 => forP g tb ds ρ2 X E, E.rt, E.nx, fun ρ2 => forP g tb ds ρ2 X E⟩ := rfl
@[simp ↓] theorem e_iSeq {a : WE} {QI : List D → Rho → Prop} : wiSeq a ρ X QI = a ρ X fun r ρ1 => bindP (r.out ρ1) fun p => bindP (itemsD p.1) fun ds => QI ds p.2 := by
  unfold wiSeq bindP
  refine congrArg _ (funext fun r => funext fun ρ1 => propext ?_)
  exact ⟨fun ⟨a, b, c, h1, h2, h3⟩ => ⟨(a, b), h1, c, h2, h3⟩, fun ⟨(a, b), h1, c, h2, h3⟩ => ⟨a, b, c, h1, h2, h3⟩⟩
def as1 : List D → Option Int
  | [.int j] => some j
  | _ => none
def as2 : List D → Option (Int × Int)
  | [.int i, .int j] => some (i, j)
  | _ => none
def as3 : List D → Option (Int × Int × Int)
  | [.int i, .int j, .int c] => some (i, j, c)
  | _ => none
@[simp] theorem as1_i {i : Int} : as1 [.int i] = some i := rfl
@[simp] theorem as2_i {i j : Int} : as2 [.int i, .int j] = some (i, j) := rfl
@[simp] theorem as3_i {i j c : Int} : as3 [.int i, .int j, .int c] = some (i, j, c) := rfl
theorem as1_eq {ds : List D} {i : Int} (h : as1 ds = some i) : ds = [.int i] := by
  unfold as1 at h
  split at h
  · cases h; rfl
  · cases h
theorem as2_eq {ds : List D} {p : Int × Int} (h : as2 ds = some p) : ds = [.int p.1, .int p.2] := by
  unfold as2 at h
  split at h
  · cases h; rfl
  · cases h
theorem as3_eq {ds : List D} {p : Int × Int × Int} (h : as3 ds = some p) : ds = [.int p.1, .int p.2.1, .int p.2.2] := by
  unfold as3 at h
  split at h
  · cases h; rfl
  · cases h
@[simp ↓] theorem e_r1 {a : WA} {QI : List D → Rho → Prop} : wiR1 a ρ X QI = a ρ X fun rs ρ1 => bindP (gets ρ1 rs) fun ds => bindP (as1 ds) fun j => sm62 j ∧ QI (rangeD 0 j.toNat) ρ1 := by
  unfold wiR1 bindP
  refine congrArg _ (funext fun rs => funext fun ρ1 => propext ⟨fun ⟨j, h, q⟩ => ⟨_, h, j, rfl, q⟩, fun ⟨ds, h, j, h2, q⟩ => ⟨j, by rw [h, as1_eq h2], q⟩⟩)
@[simp ↓] theorem e_r2 {a : WA} {QI : List D → Rho → Prop} : wiR2 a ρ X QI = a ρ X fun rs ρ1 => bindP (gets ρ1 rs) fun ds => bindP (as2 ds) fun p => sm62 p.1 ∧ sm62 p.2 ∧ QI (rangeD p.1 (p.2 - p.1).toNat) ρ1 := by
  unfold wiR2 bindP
  refine congrArg _ (funext fun rs => funext fun ρ1 => propext ⟨fun ⟨i, j, h, q⟩ => ⟨_, h, (i, j), rfl, q⟩, fun ⟨ds, h, p, h2, q⟩ => ⟨p.1, p.2, by rw [h, as2_eq h2], q⟩⟩)
@[simp ↓] theorem e_r3 {a : WA} {QI : List D → Rho → Prop} : wiR3 a ρ X QI = a ρ X fun rs ρ1 => bindP (gets ρ1 rs) fun ds => bindP (as3 ds) fun p => ∃ n, RgC p.1 p.2.1 p.2.2 n ∧ QI (rangeC p.1 p.2.2 n) ρ1 := by
  unfold wiR3 bindP
  refine congrArg _ (funext fun rs => funext fun ρ1 => propext ⟨fun ⟨i, j, c, n, h, h3, q⟩ => ⟨_, h, (i, j, c), rfl, n, h3, q⟩, fun ⟨ds, h, p, h2, n, h3, q⟩ => ⟨p.1, p.2.1, p.2.2, n, by rw [h, as3_eq h2], h3, q⟩⟩)
@[simp ↓] theorem e_wLc {wi : WI} {g : WG} {tt : WT} {te : WE} {vs : List Nat} : wLc wi g tt te vs ρ X Q = wi ρ X fun ds ρ1 => lcP g tt te vs ds [] (wipeR ρ1 vs) Q := rfl
@[simp ↓] theorem e_lc0 {g : WG} {tt : WT} {te : WE} {vs : List Nat} {acc : List D} {t} : lcP g tt te vs [] acc ρ Q t = Q (.new (.lst acc)) ρ := rfl
theorem e_lc1 {g : WG} {tt : WT} {te : WE} {vs : List Nat} {d : D} {ds acc : List D} {t} : lcP g tt te vs (d :: ds) acc ρ Q t = g d ρ fun ρ2 => tt ρ2 noX fun b ρ3 => iteP b (te ρ3 noX fun r ρ4 => bindP (r.out ρ4) fun p => acc.length < 16777216 ∧ lcP g tt te vs ds (acc ++ [p.1]) (wipeR p.2 vs) Q)
    (lcP g tt te vs ds acc (wipeR ρ3 vs) Q) := by
  unfold lcP lcD
  simp only [exPb, ite_iteP]
@[simp ↓] theorem e_yes : wYes ρ X QT = QT true ρ := rfl
@[simp] theorem e_wipe0 : wipeR ρ [] = ρ := rfl
@[simp] theorem e_wipe1 {i : Nat} {is : List Nat} : wipeR ρ (i :: is) = wipeR (ρ.set i none) is := rfl
def as2c : List Cell → Option (Cell × Cell)
  | [i, j] => some (i, j)
  | _ => none
def as3c : List Cell → Option (Cell × Cell × Cell)
  | [i, j, c] => some (i, j, c)
  | _ => none
@[simp] theorem as2c_i {i j : Cell} : as2c [i, j] = some (i, j) := rfl
@[simp] theorem as3c_i {i j c : Cell} : as3c [i, j, c] = some (i, j, c) := rfl
theorem as2c_eq {ds : List Cell} {p : Cell × Cell} (h : as2c ds = some p) : ds = [p.1, p.2] := by
  unfold as2c at h
  split at h
  · cases h; rfl
  · cases h
theorem as3c_eq {ds : List Cell} {p : Cell × Cell × Cell} (h : as3c ds = some p) : ds = [p.1, p.2.1, p.2.2] := by
  unfold as3c at h
  split at h
  · cases h; rfl
  · cases h
@[simp ↓] theorem e_par {i j : Nat} {a : WA} : wsPar i j a ρ X E = a ρ X fun rs ρ1 => bindP (fixs ρ1 rs) fun p => bindP (cells p.1) fun cs => bindP (as2c cs) fun q => E.nx ((p.2.set j (some q.2)).set i (some q.1)) := by
  unfold wsPar bindP
  refine congrArg _ (funext fun r => funext fun ρ1 => propext ?_)
  exact ⟨fun ⟨a, b, c, d, h1, h2, h3⟩ => ⟨(a, b), h1, _, h2, (c, d), rfl, h3⟩, fun ⟨(a, b), h1, cs, h2, q, h3, h4⟩ => ⟨a, b, q.1, q.2, h1, by rw [h2, as2c_eq h3], h4⟩⟩
@[simp ↓] theorem e_par3 {i j l : Nat} {a : WA} : wsPar3 i j l a ρ X E = a ρ X fun rs ρ1 => bindP (fixs ρ1 rs) fun p => bindP (cells p.1) fun cs => bindP (as3c cs) fun q => E.nx (((p.2.set l (some q.2.2)).set j (some q.2.1)).set i (some q.1)) := by
  unfold wsPar3 bindP
  refine congrArg _ (funext fun r => funext fun ρ1 => propext ?_)
  exact ⟨fun ⟨a, b, c, d, e, h1, h2, h3⟩ => ⟨(a, b), h1, _, h2, (c, d, e), rfl, h3⟩, fun ⟨(a, b), h1, cs, h2, q, h3, h4⟩ => ⟨a, b, q.1, q.2.1, q.2.2, h1, by rw [h2, as3c_eq h3], h4⟩⟩
@[simp ↓] theorem e_aug {i : Nat} {o : D → D → (Rs → Prop) → Prop} {a : WE} : wsAug i o a ρ X E = bindP (pk ρ i) fun _ => a ρ X fun r ρ1 => bindP (pk ρ1 i) fun d => bindP (r.get ρ1) fun e => opP o d e fun c => bindP c.cell fun c' => E.nx (ρ1.set i (some c')) := by
  unfold wsAug
  simp only [ex2b]
  unfold bindP
  exact propext ⟨fun ⟨⟨d0, h0⟩, h⟩ => ⟨d0, h0, h⟩, fun ⟨d0, h0, h⟩ => ⟨⟨d0, h0⟩, h⟩⟩
/-- an own list in a slot -/
def ownL (ρ : Rho) (i : Nat) : Option (List D) := match ρ[i]? with
  | some (some (.ow (.lst ds))) => some ds
  | _ => none
@[simp] theorem ownL_eq {i : Nat} {ds : List D} (h : ρ[i]? = some (some (.ow (.lst ds)))) : ownL ρ i = some ds := by unfold ownL; rw [h]
theorem ownL_of {i : Nat} {ds : List D} (h : ownL ρ i = some ds) : ρ[i]? = some (some (.ow (.lst ds))) := by
  unfold ownL at h
  split at h
  · rename_i e; cases h; exact e
  · cases h
@[simp ↓] theorem e_app {i : Nat} {a : WE} : wsApp i a ρ X E = bindP (ownL ρ i) fun _ => a ρ X fun r ρ1 => bindP (r.out ρ1) fun p => bindP (ownL p.2 i) fun ds => ds.length < 16777216 ∧ E.nx (p.2.set i (some (.ow (.lst (ds ++ [p.1]))))) := by
  have e : (fun r ρ1 => ∃ d ρ2 ds, r.out ρ1 = some (d, ρ2) ∧ ρ2[i]? = some (some (Cell.ow (D.lst ds))) ∧ ds.length < 16777216 ∧ E.nx (ρ2.set i (some (.ow (.lst (ds ++ [d])))))) = (fun (r : Rs) (ρ1 : Rho) => bindP (r.out ρ1) fun p => bindP (ownL p.2 i) fun ds => ds.length < 16777216 ∧ E.nx (p.2.set i (some (.ow (.lst (ds ++ [p.1])))))) := by
    funext r ρ1
    unfold bindP
    exact propext ⟨fun ⟨a, b, c, h1, h2, h3⟩ => ⟨(a, b), h1, c, ownL_eq h2, h3⟩, fun ⟨(a, b), h1, c, h2, h3⟩ => ⟨a, b, c, h1, ownL_of h2, h3⟩⟩
  unfold wsApp
  rw [e]
  unfold bindP
  exact propext ⟨fun ⟨⟨a, h1⟩, h2⟩ => ⟨a, ownL_eq h1, h2⟩, fun ⟨a, h1, h2⟩ => ⟨⟨a, ownL_of h1⟩, h2⟩⟩
@[simp ↓] theorem e_setI {i : Nat} {a j : WE} : wsSetI i a j ρ X E = a ρ X fun r ρ1 => bindP (pk ρ1 i) fun _ => j ρ1 X fun q ρ2 => bindP (r.out ρ2) fun p => bindP (q.get ρ2) fun dj => bindP (asI dj) fun jv => bindP (ownL p.2 i) fun ds => bindP (ixN ds.length jv) fun k => E.nx (p.2.set i (some (.ow (.lst (ds.set k p.1))))) := by
  unfold wsSetI
  refine congrArg _ (funext fun r => funext fun ρ1 => ?_)
  have e : (fun q ρ2 => ∃ d ρ3 ds j k, r.out ρ2 = some (d, ρ3) ∧ Rs.get ρ2 q = some (.int j) ∧ ρ3[i]? = some (some (Cell.ow (D.lst ds))) ∧ ixN ds.length j = some k ∧ E.nx (ρ3.set i (some (.ow (.lst (ds.set k d)))))) =
      (fun q ρ2 => bindP (r.out ρ2) fun p => bindP (Rs.get ρ2 q) fun dj => bindP (asI dj) fun jv => bindP (ownL p.2 i) fun ds => bindP (ixN ds.length jv) fun k => E.nx (p.2.set i (some (.ow (.lst (ds.set k p.1)))))) := by
    funext q ρ2
    unfold bindP
    refine propext ⟨fun ⟨d, ρ3, ds, j, k, h1, h2, h3, h4, h5⟩ => ⟨(d, ρ3), h1, _, h2, j, rfl, ds, ownL_eq h3, k, h4, h5⟩, fun ⟨(d, ρ3), h1, dj, h2, j, hj, ds, h3, k, h4, h5⟩ => ⟨d, ρ3, ds, j, k, h1, ?_, ownL_of h3, h4, h5⟩⟩
    rw [h2]
    cases dj <;> first | (cases hj; rfl) | cases hj
  rw [e]
  unfold bindP
  exact propext ⟨fun ⟨⟨a, h1⟩, h2⟩ => ⟨a, h1, h2⟩, fun ⟨a, h1, h2⟩ => ⟨⟨a, h1⟩, h2⟩⟩
@[simp] theorem pick0 {α : Type} {l : List α} : pick [] l = [] := rfl
@[simp] theorem pick1 {α : Type} {i : Nat} {ix : List Nat} {l : List α} {a : α} (h : l[i]? = some a) : pick (i :: ix) l = a :: pick ix l := List.filterMap_cons_some h
/-! slots -/
@[simp] theorem pk_sh {i : Nat} {d : D} (h : ρ[i]? = some (some (.sh d))) : pk ρ i = some d := by unfold pk; rw [h]
@[simp] theorem pk_ow {i : Nat} {d : D} (h : ρ[i]? = some (some (.ow d))) : pk ρ i = some d := by unfold pk; rw [h]
@[simp] theorem get_val {d : D} : Rs.get ρ (.val d) = some d := rfl
@[simp] theorem get_new {d : D} : Rs.get ρ (.new d) = some d := rfl
@[simp] theorem get_slt {i : Nat} : Rs.get ρ (.slt i) = pk ρ i := rfl
@[simp] theorem out_val {d : D} : Rs.out ρ (.val d) = some (d, ρ) := rfl
@[simp] theorem out_new {d : D} : Rs.out ρ (.new d) = some (d, ρ) := rfl
@[simp] theorem out_sh {i : Nat} {d : D} (h : ρ[i]? = some (some (.sh d))) : Rs.out ρ (.slt i) = some (d, ρ) := by dsimp only [Rs.out]; rw [h]
@[simp] theorem out_ow {i : Nat} {d : D} (h : ρ[i]? = some (some (.ow d))) : Rs.out ρ (.slt i) = some (d, ρ.set i (some (.sh d))) := by dsimp only [Rs.out]; rw [h]
@[simp] theorem giv_val {d : D} : Rs.giv ρ (.val d) = some (.val d) := rfl
@[simp] theorem giv_new {d : D} : Rs.giv ρ (.new d) = some (.new d) := rfl
@[simp] theorem giv_sh {i : Nat} {d : D} (h : ρ[i]? = some (some (.sh d))) : Rs.giv ρ (.slt i) = some (.val d) := by dsimp only [Rs.giv]; rw [h]
@[simp] theorem giv_ow {i : Nat} {d : D} (h : ρ[i]? = some (some (.ow d))) : Rs.giv ρ (.slt i) = some (.new d) := by dsimp only [Rs.giv]; rw [h]
@[simp] theorem lets0 : lets ρ [] = some ([], ρ) := rfl
@[simp] theorem lets1 {r : Rs} {rs : List Rs} : lets ρ (r :: rs) = (lets ρ rs).bind fun p => (r.out p.2).map fun q => (q.1 :: p.1, q.2) := rfl
@[simp] theorem gets0 : gets ρ [] = some [] := rfl
@[simp] theorem gets1 {r : Rs} {rs : List Rs} : gets ρ (r :: rs) = (r.get ρ).bind fun d => (gets ρ rs).map fun ds => d :: ds := rfl
@[simp] theorem fixs0 : fixs ρ [] = some ([], ρ) := rfl
@[simp] theorem fixs1 {r : Rs} {rs : List Rs} : fixs ρ (r :: rs) = (fixs ρ rs).bind fun p => (r.fix p.2).map fun q => (q.1 :: p.1, q.2) := rfl
@[simp] theorem fix_val {d : D} : Rs.fix ρ (.val d) = some (.val d, ρ) := rfl
@[simp] theorem fix_new {d : D} : Rs.fix ρ (.new d) = some (.new d, ρ) := rfl
@[simp] theorem fix_slt {i : Nat} : Rs.fix ρ (.slt i) = ((Rs.slt i).out ρ).map fun p => (.val p.1, p.2) := rfl
@[simp] theorem cell_val {d : D} : Rs.cell (.val d) = some (.sh d) := rfl
@[simp] theorem cell_new {d : D} : Rs.cell (.new d) = some (.ow d) := rfl
@[simp] theorem cells0 : cells [] = some [] := rfl
@[simp] theorem cells1 {r : Rs} {rs : List Rs} : cells (r :: rs) = r.cell.bind fun c => (cells rs).map fun cs => c :: cs := rfl
@[simp] theorem rho0_eq {n : Nat} {ds : List D} : rho0 n ds = ds.map (fun d => some (.sh d)) ++ List.replicate (n - ds.length) none := rfl
@[simp] theorem end_nx {Qd : Rs → Prop} : (endD Qd).nx ρ = Qd (.val .non) := rfl
@[simp] theorem end_rtv {Qd : Rs → Prop} {d : D} : (endD Qd).rt (.val d) = Qd (.val d) := rfl
@[simp] theorem end_rtn {Qd : Rs → Prop} {d : D} : (endD Qd).rt (.new d) = (Qd (.new d) ∨ Qd (.val d)) := rfl
@[simp] theorem flat_val {d : D} : Rs.flat (.val d) = d.flat := rfl
@[simp] theorem flat_new {d : D} : Rs.flat (.new d) = false := rfl
end
/-! operations -/
@[simp ↓] theorem o_add {i j : Int} {k : Rs → Prop} {t} : opP oAdd (.int i) (.int j) k t = k (.val (.int (i + j))) := rfl
@[simp ↓] theorem o_addS {i j : Str} {k : Rs → Prop} {t} : opP oAdd (.str i) (.str j) k t = (i.length + j.length ≤ 16777216 ∧ k (.val (.str (i ++ j)))) := rfl
@[simp ↓] theorem o_addL {i j : List D} {k : Rs → Prop} {t} : opP oAdd (.lst i) (.lst j) k t = (i.length + j.length ≤ 16777216 ∧ k (.new (.lst (i ++ j)))) := rfl
@[simp ↓] theorem o_addT {i j : List D} {k : Rs → Prop} {t} : opP oAdd (.tup i) (.tup j) k t = (i.length + j.length ≤ 16777216 ∧ k (.val (.tup (i ++ j)))) := rfl
@[simp ↓] theorem o_int2 {c : Int → Int → Prop} {f : Int → Int → Int} {i j : Int} {k : Rs → Prop} {t} : opP (oInt2 c f) (.int i) (.int j) k t = (c i j ∧ k (.val (.int (f i j)))) := rfl
@[simp ↓] theorem o_true {i j : Int} : cTrue i j = True := rfl
@[simp ↓] theorem o_mul {i j : Int} {k : Rs → Prop} {t} : opP oMul (.int i) (.int j) k t = (cMul i j ∧ k (.val (.int (i * j)))) := rfl
@[simp ↓] theorem o_cmp {f : Int → Int → Bool} {g : Str → Str → Bool} {i j : Int} {k : Rs → Prop} {t} : opP (oCmp f g) (.int i) (.int j) k t = k (.val (.bl (f i j))) := rfl
@[simp ↓] theorem o_cmpS {f : Int → Int → Bool} {g : Str → Str → Bool} {i j : Str} {k : Rs → Prop} {t} : opP (oCmp f g) (.str i) (.str j) k t = k (.val (.bl (g i j))) := rfl
@[simp ↓] theorem o_neg {i : Int} {k : Rs → Prop} {t} : unP oNeg (.int i) k t = k (.val (.int (-i))) := rfl
@[simp ↓] theorem o_eqI {f : Bool → Bool} {i j : Int} {k : Rs → Prop} {t} : opP (oEqB f) (.int i) (.int j) k t = k (.val (.bl (f (decide (i = j))))) := rfl
@[simp ↓] theorem o_eqS {f : Bool → Bool} {i j : Str} {k : Rs → Prop} {t} : opP (oEqB f) (.str i) (.str j) k t = k (.val (.bl (f (decide (i = j))))) := rfl
@[simp ↓] theorem o_eqB {f : Bool → Bool} {i j : Bool} {k : Rs → Prop} {t} : opP (oEqB f) (.bl i) (.bl j) k t = k (.val (.bl (f (decide (i = j))))) := rfl
@[simp ↓] theorem o_isN {f : Bool → Bool} {d : D} {k : Rs → Prop} {t} : unP (oIsN f) d k t = k (.val (.bl (f d.isN))) := rfl
@[simp ↓] theorem o_ixL {ds : List D} {i : Int} {k : Rs → Prop} {t} : opP oIx (.lst ds) (.int i) k t = bindP (atI ds i) fun c => k (.val c) := rfl
@[simp ↓] theorem o_ixF {ds : List D} {i : Int} {k : Rs → Prop} {t} : opP oIx (.fls ds) (.int i) k t = bindP (atI ds i) fun c => k (.val c) := rfl
@[simp ↓] theorem o_ixT {ds : List D} {i : Int} {k : Rs → Prop} {t} : opP oIx (.tup ds) (.int i) k t = bindP (atI ds i) fun c => k (.val c) := rfl
@[simp ↓] theorem o_slL {ds : List D} {lo hi : Option Int} {k : Rs → Prop} {t} : slP (.lst ds) lo hi k t = k (.new (.lst (cutD ds lo hi))) := rfl
@[simp ↓] theorem o_slF {ds : List D} {lo hi : Option Int} {k : Rs → Prop} {t} : slP (.fls ds) lo hi k t = k (.new (.lst (cutD ds lo hi))) := rfl
@[simp ↓] theorem o_slT {ds : List D} {lo hi : Option Int} {k : Rs → Prop} {t} : slP (.tup ds) lo hi k t = k (.val (.tup (cutD ds lo hi))) := rfl
@[simp ↓] theorem o_lenL {ds : List D} {k : Rs → Prop} {t} : caP oLen [.lst ds] k t = k (.val (.int ds.length)) := rfl
@[simp ↓] theorem o_lenF {ds : List D} {k : Rs → Prop} {t} : caP oLen [.fls ds] k t = k (.val (.int ds.length)) := rfl
@[simp ↓] theorem o_lenT {ds : List D} {k : Rs → Prop} {t} : caP oLen [.tup ds] k t = k (.val (.int ds.length)) := rfl
@[simp ↓] theorem o_lenS {x : Str} {k : Rs → Prop} {t} : caP oLen [.str x] k t = (x.length ≤ 16777216 ∧ k (.val (.int x.length))) := rfl
@[simp ↓] theorem o_min {i j : Int} {k : Rs → Prop} {t} : caP oMin [.int i, .int j] k t = k (.val (.int (if j < i then j else i))) := rfl
@[simp ↓] theorem o_max {i j : Int} {k : Rs → Prop} {t} : caP oMax [.int i, .int j] k t = k (.val (.int (if j > i then j else i))) := rfl
@[simp ↓] theorem o_listL {ds : List D} {k : Rs → Prop} {t} : caP oList [.lst ds] k t = k (.new (.lst ds)) := rfl
@[simp ↓] theorem o_listT {ds : List D} {k : Rs → Prop} {t} : caP oList [.tup ds] k t = k (.new (.lst ds)) := rfl
@[simp ↓] theorem o_tupleL {ds : List D} {k : Rs → Prop} {t} : caP oTuple [.lst ds] k t = k (.val (.tup ds)) := rfl
@[simp ↓] theorem o_tupleT {ds : List D} {k : Rs → Prop} {t} : caP oTuple [.tup ds] k t = k (.val (.tup ds)) := rfl
@[simp ↓] theorem o_sum {ds : List D} {k : Rs → Prop} {t} : caP oSum [.lst ds] k t = bindP (asInts ds) fun is => k (.val (.int is.sum)) := rfl
@[simp ↓] theorem o_any {ds : List D} {k : Rs → Prop} {t} : caP oAny [.lst ds] k t = bindP (asBls ds) fun is => k (.val (.bl (is.any id))) := rfl
@[simp ↓] theorem o_all {ds : List D} {k : Rs → Prop} {t} : caP oAll [.lst ds] k t = bindP (asBls ds) fun is => k (.val (.bl (is.all id))) := rfl
@[simp] theorem i_lst {ds : List D} : itemsD (.lst ds) = some ds := rfl
@[simp] theorem i_fls {ds : List D} : itemsD (.fls ds) = some ds := rfl
@[simp] theorem i_tup {ds : List D} : itemsD (.tup ds) = some ds := rfl
@[simp] theorem t_non : D.tn .non = some .non := rfl
@[simp] theorem t_bl {b : Bool} : D.tn (.bl b) = some .bl := rfl
@[simp] theorem t_int {b : Int} : D.tn (.int b) = some .int := rfl
@[simp] theorem t_str {b : Str} : D.tn (.str b) = some .str := rfl
@[simp] theorem t_tup {b : List D} : D.tn (.tup b) = some .tup := rfl
@[simp] theorem t_lst {b : List D} : D.tn (.lst b) = some .lst := rfl
@[simp] theorem t_fls {b : List D} : D.tn (.fls b) = some .lst := rfl
@[simp] theorem t_dic {k : List DK} {b : List D} : D.tn (.dic k b) = some .dic := rfl
@[simp] theorem f_non : D.flat .non = true := rfl
@[simp] theorem f_bl {b : Bool} : D.flat (.bl b) = true := rfl
@[simp] theorem f_int {b : Int} : D.flat (.int b) = true := rfl
@[simp] theorem f_str {b : Str} : D.flat (.str b) = true := rfl
@[simp] theorem f_tup {b : List D} : D.flat (.tup b) = false := rfl
@[simp] theorem f_lst {b : List D} : D.flat (.lst b) = false := rfl
@[simp] theorem n_non : D.isN .non = true := rfl
@[simp] theorem n_bl {b : Bool} : D.isN (.bl b) = false := rfl
@[simp] theorem n_int {b : Int} : D.isN (.int b) = false := rfl
@[simp] theorem n_str {b : Str} : D.isN (.str b) = false := rfl
@[simp] theorem n_tup {b : List D} : D.isN (.tup b) = false := rfl
@[simp] theorem n_lst {b : List D} : D.isN (.lst b) = false := rfl
end Dl

set_option Elab.async false
set_option linter.all false
set_option maxRecDepth 100000
set_option maxHeartbeats 4000000
/-! DlM: loops and comprehensions by what holds behind each turn. -/
namespace Dl
open PySem L2

inductive F2 {α β : Type} (R : α → β → Prop) : List α → List β → Prop
  | nil : F2 R [] []
  | cons {x : α} {y : β} {xs : List α} {ys : List β} : R x y → F2 R xs ys → F2 R (x :: xs) (y :: ys)
theorem F2.length {α β : Type} {R : α → β → Prop} {xs : List α} {ys : List β} (h : F2 R xs ys) : xs.length = ys.length := by
  induction h with
  | nil => rfl
  | cons _ _ ih => rw [List.length_cons, List.length_cons, ih]
theorem F2.map {α β : Type} {f : α → β} : ∀ {xs : List α} {ys : List β}, F2 (fun x y => y = f x) xs ys → ys = xs.map f
  | _, _, .nil => rfl
  | _, _, .cons h t => by rw [h, F2.map t]; rfl
section
variable {α : Type} {g : WG} {tb : WS} {tt : WT} {te : WE} {vs : List Nat} {X : XD} {E : ED} {Q : Rs → Rho → Prop} {toD : α → D}
theorem for_inv {xs : List α} {ρ : Rho} {t} (I : List α → Rho → Prop) (h0 : I [] ρ)
    (step : ∀ done x rest ρ (k : Rho → Prop), xs = done ++ x :: rest → I done ρ → (∀ ρ', I (done ++ [x]) ρ' → k ρ') → g (toD x) ρ fun ρ1 => tb ρ1 X ⟨k, E.rt, E.nx, k⟩) (hend : ∀ ρ, I xs ρ → E.nx ρ) : forP g tb (xs.map toD) ρ X E t := by
  have go : ∀ (rest done : List α) (ρ : Rho), xs = done ++ rest → I done ρ → forP g tb (rest.map toD) ρ X E := by
    intro rest
    induction rest with
    | nil =>
      intro done ρ e h
      rw [List.append_nil] at e
      subst e
      exact hend ρ h
    | cons x rest ih =>
      intro done ρ e h
      rw [List.map_cons, e_for1]
      exact step done x rest ρ _ e h fun ρ' h' => ih (done ++ [x]) ρ' (by rw [e, List.append_assoc]; rfl) h'
  exact go xs [] ρ rfl h0
/-- turn by turn, nothing being carried on -/
theorem for_each {xs : List α} {ρ : Rho} {t} (I : Rho → Prop) (h0 : I ρ) (step : ∀ x ∈ xs, ∀ ρ (k : Rho → Prop), I ρ → (∀ ρ', I ρ' → k ρ') → g (toD x) ρ fun ρ1 => tb ρ1 X ⟨k, E.rt, E.nx, k⟩) (hend : ∀ ρ, I ρ → E.nx ρ) : forP g tb (xs.map toD) ρ X E t :=
  for_inv (fun _ => I) h0 (fun done x rest ρ k e h h' => step x (by rw [e]; simp) ρ k h h') hend
theorem lc_rel {xs : List α} {acc : List D} {ρ : Rho} {t} (R : α → D → Prop) (hz : acc.length + xs.length ≤ 16777216)
    (step : ∀ x ∈ xs, ∀ (k : D → Rho → Prop) (e : Rho → Prop), (∀ y, R x y → k y ρ) → g (toD x) ρ fun ρ2 => tt ρ2 noX fun b ρ3 => iteP b (te ρ3 noX fun r ρ4 => bindP (r.out ρ4) fun p => k p.1 (wipeR p.2 vs)) (e (wipeR ρ3 vs)))
    (h : ∀ ys, F2 R xs ys → Q (.new (.lst (acc ++ ys))) ρ) : lcP g tt te vs (xs.map toD) acc ρ Q t := by
  have go : ∀ (xs' : List α) (acc : List D), (∀ x ∈ xs', x ∈ xs) → acc.length + xs'.length ≤ 16777216 → (∀ ys, F2 R xs' ys → Q (.new (.lst (acc ++ ys))) ρ) → lcP g tt te vs (xs'.map toD) acc ρ Q := by
    intro xs'
    induction xs' with
    | nil =>
      intro acc hm hz h
      have := h [] .nil
      rwa [List.append_nil] at this
    | cons x rest ih =>
      intro acc hm hz h
      rw [List.map_cons, e_lc1]
      rw [List.length_cons] at hz
      refine step x (hm x List.mem_cons_self) (fun y ρ' => acc.length < 16777216 ∧ lcP g tt te vs (rest.map toD) (acc ++ [y]) ρ' Q) (fun ρ' => lcP g tt te vs (rest.map toD) acc ρ' Q) fun y hy => ⟨by omega, ih (acc ++ [y]) (fun z hz => hm z (List.mem_cons_of_mem _ hz)) (by rw [List.length_append]; simp; omega) fun ys hys => ?_⟩
      have := h (y :: ys) (.cons hy hys)
      rwa [List.append_assoc]
  exact go xs acc (fun _ h => h) hz h
theorem lc_map {xs : List α} {ρ : Rho} {t} (f : α → D) (hz : xs.length ≤ 16777216)
    (step : ∀ x ∈ xs, ∀ (k : D → Rho → Prop) (e : Rho → Prop), k (f x) ρ → g (toD x) ρ fun ρ2 => tt ρ2 noX fun b ρ3 => iteP b (te ρ3 noX fun r ρ4 => bindP (r.out ρ4) fun p => k p.1 (wipeR p.2 vs)) (e (wipeR ρ3 vs)))
    (h : Q (.new (.lst (xs.map f))) ρ) : lcP g tt te vs (xs.map toD) [] ρ Q t :=
  lc_rel (fun x y => y = f x) (by simpa using hz) (fun x hx k e hk => step x hx k e (hk _ rfl)) fun ys hy => by rw [hy.map]; exact h
theorem lc_filter {xs : List α} {acc : List D} {ρ : Rho} {t} (p : α → Bool) (f : α → D) (hz : acc.length + xs.length ≤ 16777216)
    (step : ∀ x ∈ xs, ∀ (k : D → Rho → Prop) (e : Rho → Prop), (p x = true → k (f x) ρ) → (p x = false → e ρ) → g (toD x) ρ fun ρ2 => tt ρ2 noX fun b ρ3 => iteP b (te ρ3 noX fun r ρ4 => bindP (r.out ρ4) fun p => k p.1 (wipeR p.2 vs)) (e (wipeR ρ3 vs)))
    (h : Q (.new (.lst (acc ++ (xs.filter p).map f))) ρ) : lcP g tt te vs (xs.map toD) acc ρ Q t := by
  have go : ∀ (xs' : List α) (acc : List D), (∀ x ∈ xs', x ∈ xs) → acc.length + xs'.length ≤ 16777216 → Q (.new (.lst (acc ++ (xs'.filter p).map f))) ρ → lcP g tt te vs (xs'.map toD) acc ρ Q := by
    intro xs'
    induction xs' with
    | nil =>
      intro acc hm hz h
      rw [List.filter_nil, List.map_nil, List.append_nil] at h
      exact h
    | cons x rest ih =>
      intro acc hm hz h
      rw [List.map_cons, e_lc1]
      rw [List.length_cons] at hz
      refine step x (hm x List.mem_cons_self) (fun y ρ' => acc.length < 16777216 ∧ lcP g tt te vs (rest.map toD) (acc ++ [y]) ρ' Q) (fun ρ' => lcP g tt te vs (rest.map toD) acc ρ' Q) (fun hp => ⟨by omega, ih (acc ++ [f x]) (fun z hz => hm z (List.mem_cons_of_mem _ hz)) (by rw [List.length_append]; simp; omega) ?_⟩) fun hp => ih acc (fun z hz => hm z (List.mem_cons_of_mem _ hz)) (by omega) ?_
      · rw [List.filter_cons, if_pos hp, List.map_cons] at h
        rw [List.append_assoc]; exact h
      · rw [List.filter_cons, if_neg (by rw [hp]; exact Bool.false_ne_true)] at h
        exact h
  exact go xs acc (fun _ h => h) hz h
end
theorem asBls_of {α : Type} (f : α → Bool) (xs : List α) : asBls (xs.map fun x => D.bl (f x)) = some (xs.map f) := by
  rw [← asBls_map (xs.map f), List.map_map]; rfl
theorem asInts_of {α : Type} (f : α → Int) (xs : List α) : asInts (xs.map fun x => D.int (f x)) = some (xs.map f) := by
  rw [← asInts_map (xs.map f), List.map_map]; rfl
end Dl

set_option Elab.async false
set_option linter.all false
set_option maxRecDepth 100000
set_option maxHeartbeats 4000000
/-! DlN: what may be compared, what may be shown; == of data. -/
namespace Dl
open PySem L2

/-! ### == -/
/-- of no dict, at most n deep -/
def Sh (n : Nat) (d : D) : Prop := d.py.canLay0 = true ∧ d.py.depth ≤ n
def Shs (n : Nat) (ds : List D) : Prop := PyData.canLayAll0 (D.pys ds) = true ∧ PyData.depthAll (D.pys ds) ≤ n
theorem Sh.shaped {d : D} (h : Sh 64 d) : SeqAt.shaped d.py = true := by
  unfold SeqAt.shaped
  rw [h.1, decide_eq_true h.2]; rfl
theorem Sh.mono {n m : Nat} {d : D} (h : Sh n d) (hm : n ≤ m) : Sh m d := ⟨h.1, Nat.le_trans h.2 hm⟩
theorem Shs.of {n : Nat} : ∀ {ds : List D}, (∀ d ∈ ds, Sh n d) → Shs n ds
  | [], _ => ⟨rfl, Nat.zero_le _⟩
  | d :: ds, h => by
    have h1 := h d List.mem_cons_self
    have h2 := Shs.of fun e he => h e (List.mem_cons_of_mem _ he)
    refine ⟨?_, ?_⟩
    · simp only [D.pys, PyData.canLayAll0, h1.1, h2.1, Bool.and_self]
    · simp only [D.pys, PyData.depthAll]
      exact Nat.max_le.mpr ⟨h1.2, h2.2⟩
theorem Sh.non {n : Nat} : Sh n .non := ⟨rfl, Nat.zero_le _⟩
theorem Sh.bl {n : Nat} {b : Bool} : Sh n (.bl b) := ⟨rfl, Nat.zero_le _⟩
theorem Sh.int {n : Nat} {i : Int} : Sh n (.int i) := ⟨rfl, Nat.zero_le _⟩
theorem Sh.str {n : Nat} {x : Str} (h : PyData.strOk x = true) : Sh n (.str x) := ⟨by simp only [D.py, PyData.canLay0, h], Nat.zero_le _⟩
theorem Sh.lst {n : Nat} {ds : List D} (h : ∀ d ∈ ds, Sh n d) : Sh (n + 1) (.lst ds) := by
  obtain ⟨h1, h2⟩ := Shs.of h
  exact ⟨by simp only [D.py, PyData.canLay0, h1], by simp only [D.py, PyData.depth]; omega⟩
theorem Sh.tup {n : Nat} {ds : List D} (h : ∀ d ∈ ds, Sh n d) : Sh (n + 1) (.tup ds) := by
  obtain ⟨h1, h2⟩ := Shs.of h
  exact ⟨by simp only [D.py, PyData.canLay0, h1], by simp only [D.py, PyData.depth]; omega⟩
theorem Sh.refl {n : Nat} {d : D} (h : Sh n d) : PyData.eqv d.py d.py = true := SeqAt.eqv_refl _ h.1
/-- x == y of data that may be compared -/
theorem o_eqSh {f : Bool → Bool} {d e : D} {k : Rs → Prop} (h1 : Sh 64 d) (h2 : Sh 64 e) (h : k (.val (.bl (f (PyData.eqv d.py e.py))))) : oEqB f d e k := by
  have hs1 := h1.shaped
  have hs2 := h2.shaped
  cases d with
  | int i => cases e with
    | int j => simpa [oEqB, D.py, PyData.eqv, Bool.beq_eq_decide_eq] using h
    | non => simpa [oEqB, D.py, PyData.eqv] using h
    | str y => simpa [oEqB, D.py, PyData.eqv] using h
    | _ => exact ⟨hs1, hs2, h⟩
  | str i => cases e with
    | int j => simpa [oEqB, D.py, PyData.eqv] using h
    | non => simpa [oEqB, D.py, PyData.eqv] using h
    | str y => simpa [oEqB, D.py, PyData.eqv, Bool.beq_eq_decide_eq] using h
    | bl y => simpa [oEqB, D.py, PyData.eqv] using h
    | _ => exact ⟨hs1, hs2, h⟩
  | bl i => cases e with
    | non => simpa [oEqB, D.py, PyData.eqv] using h
    | str y => simpa [oEqB, D.py, PyData.eqv] using h
    | bl y => simpa [oEqB, D.py, PyData.eqv, Bool.beq_eq_decide_eq] using h
    | _ => exact ⟨hs1, hs2, h⟩
  | non => cases e with
    | int j => simpa [oEqB, D.py, PyData.eqv] using h
    | non => simpa [oEqB, D.py, PyData.eqv] using h
    | str y => simpa [oEqB, D.py, PyData.eqv] using h
    | bl y => simpa [oEqB, D.py, PyData.eqv] using h
    | _ => exact ⟨hs1, hs2, h⟩
  | _ => cases e <;> exact ⟨hs1, hs2, h⟩
@[simp ↓] theorem o_eqN {f : Bool → Bool} {k : Rs → Prop} {t} : opP (oEqB f) (.lst []) (.lst []) k t = k (.val (.bl (f true))) := by
  refine propext ⟨fun ⟨_, _, h⟩ => ?_, fun h => ⟨rfl, rfl, ?_⟩⟩
  · simpa [D.py, D.pys, PyData.eqv, PyData.eqvAll] using h
  · simpa [D.py, D.pys, PyData.eqv, PyData.eqvAll] using h
theorem o_eqC {f : Bool → Bool} {d : D} {ds : List D} {k : Rs → Prop} (hs : Sh 64 (.lst (d :: ds))) (h : k (.val (.bl (f false)))) : oEqB f (.lst (d :: ds)) (.lst []) k :=
  o_eqSh hs ⟨rfl, by decide⟩ (by simpa [D.py, D.pys, PyData.eqv, PyData.eqvAll] using h)

theorem o_neL {f : Bool → Bool} {ds : List D} {k : Rs → Prop} {t} (hs : Sh 64 (.lst ds)) (h : ds ≠ []) : opP (oEqB f) (.lst ds) (.lst []) k t = k (.val (.bl (f false))) := by
  have e : PyData.eqv (D.lst ds).py (D.lst []).py = false := by
    cases ds with
    | nil => exact absurd rfl h
    | cons d ds => simp [D.py, D.pys, PyData.eqv, PyData.eqvAll]
  refine propext ⟨fun ⟨_, _, q⟩ => ?_, fun q => ⟨hs.shaped, rfl, ?_⟩⟩
  · rwa [e] at q
  · rwa [e]
theorem o_neF {f : Bool → Bool} {ds : List D} {k : Rs → Prop} {t} (hs : Sh 64 (.fls ds)) : opP (oEqB f) (.fls ds) (.lst []) k t = k (.val (.bl (f ds.isEmpty))) := by
  have e : PyData.eqv (D.fls ds).py (D.lst []).py = ds.isEmpty := by
    cases ds with
    | nil => simp [D.py, D.pys, PyData.eqv, PyData.eqvAll]
    | cons d ds => simp [D.py, D.pys, PyData.eqv, PyData.eqvAll]
  refine propext ⟨fun ⟨_, _, q⟩ => ?_, fun q => ⟨hs.shaped, rfl, ?_⟩⟩
  · rwa [e] at q
  · rwa [e]
theorem Sh.fls {n : Nat} {ds : List D} (h : ∀ d ∈ ds, Sh n d) : Sh (n + 1) (.fls ds) := by
  obtain ⟨h1, h2⟩ := Shs.of h
  exact ⟨by simp only [D.py, PyData.canLay0, h1], by simp only [D.py, PyData.depth]; omega⟩
theorem cutD_map {α : Type} (f : α → D) (xs : List α) (lo hi : Option Int) : cutD (xs.map f) lo hi = ((xs.drop (HT.sIx xs.length 0 lo)).take (HT.sIx xs.length xs.length hi - HT.sIx xs.length 0 lo)).map f := by
  unfold cutD
  rw [List.length_map, ← List.map_drop, ← List.map_take]
@[simp] theorem at_last {α : Type} (xs : List α) (v : α) : atI (xs ++ [v]) (-1) = some v := atI_last xs v
@[simp] theorem at_0 {α : Type} {a : α} {l : List α} : atI (a :: l) 0 = some a := by
  unfold atI ixN
  rw [if_pos (by decide), if_pos (by simp only [List.length_cons]; omega)]; rfl
@[simp] theorem at_1 {α : Type} {a b : α} {l : List α} : atI (a :: b :: l) 1 = some b := by
  unfold atI ixN
  rw [if_pos (by decide), if_pos (by simp only [List.length_cons]; omega)]; rfl
@[simp] theorem at_2 {α : Type} {a b c : α} {l : List α} : atI (a :: b :: c :: l) 2 = some c := by
  unfold atI ixN
  rw [if_pos (by decide), if_pos (by simp only [List.length_cons]; omega)]; rfl
@[simp] theorem at_3 {α : Type} {a b c d : α} {l : List α} : atI (a :: b :: c :: d :: l) 3 = some d := by
  unfold atI ixN
  rw [if_pos (by decide), if_pos (by simp only [List.length_cons]; omega)]; rfl

/-! ### repr -/
structure Rp (B n W : Nat) (d : D) : Prop where
  lay : d.py.canLay0 = true
  sh : d.py.showable = true
  dp : d.py.depth ≤ n
  lf : d.py.leavesShort B = true
  wt : d.py.weight ≤ W
theorem Rp.mono {B n W n' W' : Nat} {d : D} (h : Rp B n W d) (h1 : n ≤ n') (h2 : W ≤ W') : Rp B n' W' d := ⟨h.lay, h.sh, Nat.le_trans h.dp h1, h.lf, Nat.le_trans h.wt h2⟩
theorem Rp.non {B n W : Nat} : Rp B n W .non := ⟨rfl, rfl, Nat.zero_le _, rfl, Nat.zero_le _⟩
theorem Rp.bl {B n W : Nat} {b : Bool} : Rp B n W (.bl b) := ⟨rfl, rfl, Nat.zero_le _, rfl, Nat.zero_le _⟩
theorem Rp.int {B n W : Nat} {i : Int} {k : Nat} (hk : 0 < k) (h : i.natAbs.log2 < k) (h2 : k ≤ 1920) (hB : k + 1 ≤ B) (hW : k ≤ W) : Rp B n W (.int i) := by
  refine ⟨rfl, ?_, Nat.zero_le _, ?_, ?_⟩
  · simp only [D.py, PyData.showable, decide_eq_true_eq]; omega
  · simp only [D.py, PyData.leavesShort, decide_eq_true_eq]
    show (Str.ofString (toString i)).length ≤ B
    rw [ofString_length]
    exact Nat.le_trans (int_text_length_le hk h) hB
  · simp only [D.py, PyData.weight]
    split <;> omega
theorem Rp.str {B n W : Nat} {x : Str} (h : PyData.strOk x = true) (hW : x.length ≤ W) : Rp B n W (.str x) := by
  refine ⟨by simp only [D.py, PyData.canLay0, h], rfl, Nat.zero_le _, ?_, hW⟩
  have h0 : x.cps.all (· < 0x110000) = true := h
  simp only [D.py, PyData.leavesShort, List.all_eq_true, decide_eq_true_eq]
  intro c hc
  have h1 := (Array.all_eq_true_iff_forall_mem.mp h0) c (Array.mem_toList_iff.mp hc)
  have h2 : c < 0x110000 := by simpa using h1
  have e : (16 : Nat) ^ 8 = 4294967296 := by decide
  omega
theorem Rp.all {B n W : Nat} : ∀ {ds : List D}, (∀ d ∈ ds, Rp B n W d) → PyData.canLayAll0 (D.pys ds) = true ∧ PyData.showableAll (D.pys ds) = true ∧ PyData.depthAll (D.pys ds) ≤ n ∧ PyData.leavesShortAll B (D.pys ds) = true ∧ PyData.weightAll (D.pys ds) ≤ ds.length * (W + 1)
  | [], _ => ⟨rfl, rfl, Nat.zero_le _, rfl, Nat.zero_le _⟩
  | d :: ds, h => by
    have h1 := h d List.mem_cons_self
    obtain ⟨a1, a2, a3, a4, a5⟩ := Rp.all fun e he => h e (List.mem_cons_of_mem _ he)
    refine ⟨?_, ?_, ?_, ?_, ?_⟩
    · simp only [D.pys, PyData.canLayAll0, h1.lay, a1, Bool.and_self]
    · simp only [D.pys, PyData.showableAll, h1.sh, a2, Bool.and_self]
    · simp only [D.pys, PyData.depthAll]; exact Nat.max_le.mpr ⟨h1.dp, a3⟩
    · simp only [D.pys, PyData.leavesShortAll, h1.lf, a4, Bool.and_self]
    · simp only [D.pys, PyData.weightAll, List.length_cons]
      have := h1.wt
      rw [Nat.succ_mul]
      omega
theorem Rp.lst {B n W m V : Nat} {ds : List D} (h : ∀ d ∈ ds, Rp B n W d) (hm : ds.length ≤ m) (hV : m * (W + 1) ≤ V) : Rp B (n + 1) V (.lst ds) := by
  obtain ⟨a1, a2, a3, a4, a5⟩ := Rp.all h
  have := Nat.mul_le_mul_right (W + 1) hm
  exact ⟨by simp only [D.py, PyData.canLay0, a1], by simp only [D.py, PyData.showable, a2], by simp only [D.py, PyData.depth]; omega, by simp only [D.py, PyData.leavesShort, a4], by simp only [D.py, PyData.weight]; omega⟩
theorem Rp.tup {B n W m V : Nat} {ds : List D} (h : ∀ d ∈ ds, Rp B n W d) (hm : ds.length ≤ m) (hV : m * (W + 1) ≤ V) : Rp B (n + 1) V (.tup ds) := by
  obtain ⟨a1, a2, a3, a4, a5⟩ := Rp.all h
  have := Nat.mul_le_mul_right (W + 1) hm
  exact ⟨by simp only [D.py, PyData.canLay0, a1], by simp only [D.py, PyData.showable, a2], by simp only [D.py, PyData.depth]; omega, by simp only [D.py, PyData.leavesShort, a4], by simp only [D.py, PyData.weight]; omega⟩
def D.isSeq : D → Bool
  | .lst _ => true
  | .fls _ => true
  | .tup _ => true
  | _ => false
def shw (d : D) : D := .str d.py.shown
theorem o_repr {B W : Nat} {d : D} {k : Rs → Prop} (hd : d.isSeq = true) (h : Rp B 64 W d) (hB : 8 ≤ B) (hW : (B + 2) * W + B ≤ 16777216) (hk : k (.val (shw d))) : oRepr 64 [d] k := by
  refine ⟨d, rfl, ?_, h.lay, h.sh, h.dp, ?_, hk⟩
  · cases d <;> first | trivial | exact absurd hd Bool.false_ne_true
  · have h1 := PyData.shown_le B hB d.py h.lf
    have h2 := Nat.mul_le_mul_left (B + 2) h.wt
    omega
end Dl

set_option Elab.async false
set_option linter.all false
set_option maxRecDepth 100000
set_option maxHeartbeats 4000000
/-! DlO: hidden state: a def changes it, its asker sees none of it. -/
namespace Dl
open PySem L2
open PyProof.Rows (envOfC)

/-- the objects at S are hidden, I holds of them -/
structure HidAt (M : MC) (S : Addr → Prop) (I : Hp → Prop) : Prop where
  sub : ∀ a, S a → M.O a
  get : ∀ H, M.MI H → I H
  put : ∀ H H', M.MI H → (∀ a, M.O a → ¬ S a → H' a = H a) → I H' → M.MI H'
theorem HidAt.ext {M M' : MC} {S : Addr → Prop} {I : Hp → Prop} (h : HidAt M S I) (m : Mext M M') : HidAt M' S I :=
  ⟨fun a z => m.sub a (h.sub a z), fun H z => h.get H (m.get H z), fun H H' z k i => m.put H H' z (fun a h1 h2 => k a h1 fun q => h2 (h.sub a q)) (h.put H H' (m.get H z) (fun a h1 h2 => k a (m.sub a h1) h2) i)⟩
/-- a new hidden part -/
structure StOk (S : Addr → Prop) (I : Hp → Prop) : Prop where
  loc : ∀ H H' : Hp, (∀ a, S a → H' a = H a) → I H → I H'
  al : ∀ (H : Hp) (a : Addr), I H → S a → H a ≠ none
def mcPlus (M : MC) (S : Addr → Prop) (I : Hp → Prop) (ok : StOk S I) : MC where
  O := fun a => M.O a ∨ S a
  MI := fun H => M.MI H ∧ I H
  loc := fun H H' e ⟨h1, h2⟩ => ⟨M.loc H H' (fun a z => e a (.inl z)) h1, ok.loc H H' (fun a z => e a (.inr z)) h2⟩
  al := fun H a ⟨h1, h2⟩ z => z.elim (M.al H a h1) (ok.al H a h2)
section
variable {M : MC} {S : Addr → Prop} {I : Hp → Prop} {ok : StOk S I}
theorem mcPlus_ext (dj : ∀ a, S a → ¬ M.O a) : Mext M (mcPlus M S I ok) :=
  ⟨fun a z => .inl z, fun H z => z.1, fun H H' z k m => ⟨m, ok.loc H H' (fun a h => k a (.inr h) (dj a h)) z.2⟩⟩
theorem mcPlus_hid (dj : ∀ a, S a → ¬ M.O a) : HidAt (mcPlus M S I ok) S I :=
  ⟨fun a z => .inr z, fun H z => z.2, fun H H' z k i => ⟨M.loc H H' (fun a h => k a (.inl h) fun q => dj a q h) z.1, i⟩⟩
variable {K : PySem.W.Frag} {G : Gd} {om : Om} {ρ : Rho} {σ : St} {H H' : Hp}
/-- into the room with the hidden part -/
theorem Rel.opened (R : Rel K M G om ρ σ H) (n : ∀ a, S a → H a = none) (k : ∀ a o, H a = some o → H' a = some o) (i : I H') (m : M.MI H') : Rel K (mcPlus M S I ok) G om ρ σ H' := by
  have R2 := R.grow (fun a o _ e => k a o e) m
  have nS : ∀ a, H a ≠ none → ¬ S a := fun a h z => h (n a z)
  have st : Stay (Own M G om) (Own (mcPlus M S I ok) G om) H H' := fun a o na e => by
    refine ⟨?_, k a o e⟩
    rintro ((z | z) | z)
    · exact na (.inl z)
    · exact nS a (by rw [e]; exact nofun) z
    · exact na (.inr z)
  have ea : ∀ p, H p ≠ none → H' p = H p := fun p h => by
    cases q : H p with
    | none => exact absurd q h
    | some o => exact k p o q
  refine ⟨fun i c e => slot_stay st (fun p hp => ⟨hp, ea p (R.own i p hp).2.2.1⟩) (R.slot i c e), R.inj, fun i p e => ?_, fun a o na e => R2.base a o (fun z => na (.inl z)) e, ⟨m, i⟩, fun q hq => (R.pin q hq).stay st, fun q hq => ?_, R.hnd, R.len⟩
  · obtain ⟨a1, a2, a3, a4⟩ := R2.own i p e
    exact ⟨a1, fun z => z.elim a2 (nS p (R.own i p e).2.2.1), a3, a4⟩
  · obtain ⟨t, h1, h2⟩ := R.hid q hq
    exact ⟨t.stay st (ea q.1 t.ne), h1, fun z => z.elim h2 (nS q.1 t.ne)⟩
/-- out of it again -/
theorem Rel.closed (R : Rel K (mcPlus M S I ok) G om ρ σ H) (n : ∀ a, S a → G.H0 a = none) : Rel K M G om ρ σ H := by
  have st : Stay (Own (mcPlus M S I ok) G om) (Own M G om) H H := stay_sub fun a z => z.elim (fun z => .inl (.inl z)) .inr
  refine ⟨fun i c e => slot_stay st (fun p hp => ⟨hp, rfl⟩) (R.slot i c e), R.inj, fun i p e => ?_, fun a o na e => ?_, R.mi.1, fun q hq => (R.pin q hq).stay st, fun q hq => ?_, R.hnd, R.len⟩
  · obtain ⟨a1, a2, a3, a4⟩ := R.own i p e
    exact ⟨a1, fun z => a2 (.inl z), a3, a4⟩
  · exact R.base a o (fun z => z.elim na fun z => by rw [n a z] at e; cases e) e
  · obtain ⟨t, h1, h2⟩ := R.hid q hq
    exact ⟨t.stay st rfl, h1, fun z => h2 (.inl z)⟩
end
/-- a def that makes such a part: St a S I: what it is -/
def spNew (K : PySem.W.Frag) (n : Nat) (pre : List D → Prop) (St : Addr → (Addr → Prop) → (Hp → Prop) → Prop) : Sp := fun vs H Q E => ∃ (M : MC) (ds : List D), M.MI H ∧ DAll K M.O H vs ds ∧ ds.length = n ∧ pre ds ∧
  ∀ a S I H', St a S I → StOk S I → (∀ b, S b → H b = none) → (∀ b o, H b = some o → H' b = some o) → I H' → Q (.ref a) H'
def wsOpen (i n : Nat) (pre : List D → Prop) (St : Addr → (Addr → Prop) → (Hp → Prop) → Prop) (M : MC) (wa : WA) (W : MC → WS) : WS := fun ρ X D => wa ρ X fun rs ρ1 => rs.length = n ∧ ∃ ds ρ2, lets ρ1 rs = some (ds, ρ2) ∧ pre ds ∧
  ∀ M' a S I, Mext M M' → St a S I → HidAt M' S I → W M' (ρ2.set i (some (.sh (.ref a)))) X D
section
variable {X : Cx} {M : MC} {E : WX} {k n : Nat} {f : Addr} {fd : FuncData} {ps : List Str} {ix : List Nat} {pre : List D → Prop} {St : Addr → (Addr → Prop) → (Hp → Prop) → Prop} {wa : WA} {W : MC → WS}
/-- name = f(..), then the rest with what f made -/
theorem pd_open {x y : Str} {p py pos cpos : Pos} {e : Expr} {es : List Expr} {rest : List Stmt} (i : Nat) (hN : X.N.Nodup) (F : FnG X.prog X.w X.K X.mg X.base k f fd ps (spNew X.K n pre St)) (hG : X.A.guards = some []) (hr : Room k X.A) (tkx : Takes X E) (hb : KB X.K fd ps n [] (List.range n))
    (hk : PySem.W.keepIn X.K (.ref f) = true) (hm : X.mg x = some (.ref f)) (hg : Gl X x) (ha : PA X (e :: es) (tDA X.K M E wa)) (hrest : ∀ M', PSs X rest (tDS X.K M' E (W M')))
    (hi : X.N[i]? = some y := by rfl) (hy : Loc X.env.scope y := by first | exact Or.inl rfl | exact Or.inr rfl) (hf : X.fn y = true ∨ X.env.scope.names.lookup y = some .local := by first | exact .inl rfl | exact .inr rfl)
    (hsw : swapsWith (.Call (.Name x p) (e :: es) [] cpos) (some (.Name y py)) pos.line X.env = pure false := by rfl)
    (hdb : (x == ("__debug__" : Str)) = false := by decide) (he : starEach (e :: es) X.env = (false, eval e X.env) :: starEach es X.env := by rfl)
    (hpl : ((backTo cpos (starEach (e :: es) X.env)).any (·.1) || (backToKw cpos (keywordEach [] X.env)).any (·.1.isNone)) = false := by rfl) :
    PSs X (.Assign [.Name y py] (.Call (.Name x p) (e :: es) [] cpos) pos :: rest) (tDS X.K M E (wsOpen i n pre St M wa W)) := by
  have hrest2 : PSs X rest (fun D σ H => ∃ M', tDS X.K M' E (W M') D σ H) := ⟨fun pins s σ H D I ⟨M', h⟩ => (hrest M').run pins s σ H D I h⟩
  refine PSs.weak (pss_cons (ps_set hN hi hy (pe_callG (W := E) F hG hr tkx hb hk hm hg ha pk_nil rfl rfl hdb he hpl) hsw hf) hrest2) fun D σ H ⟨G, om, ρ, Xd, Qd, R, L, w, k1, k2, k3, k4⟩ => ?_
  refine ⟨G, om, ρ, Xd, _, R, L, w, fun om1 ρ1 vs H1 rs R1 h1 ⟨hlen, ds, ρ2, g, hp, w1⟩ => ?_⟩
  obtain ⟨om2, s2, hd, R2⟩ := R1.lets h1 g
  have hv : vs.length = n := h1.length.trans hlen
  have hds : ds.length = n := by rw [← hd.length]; exact hv
  have hpk : pick (List.range n) (vs ++ []) = vs := by
    rw [List.append_nil, ← hv]
    unfold pick
    clear h1 R1 g hd hv w1 hp
    induction vs with
    | nil => rfl
    | cons v vs ih =>
      rw [List.length_cons, List.range_succ_eq_map, List.filterMap_cons, List.filterMap_map]
      exact congrArg (List.cons v) ih
  refine ⟨hv, rfl, ?_⟩
  rw [hpk]
  have o1 : ∀ a, M.O a → Own M G om2 a := fun a z => .inl z
  refine ⟨mcAt M (Own M G om2) H1 o1 fun a z => R2.ownAt z, ds, ⟨R2.mi, fun a _ _ => rfl⟩, hd, hds, hp, fun a S I H' hSt ok hS kp iI => ?_⟩
  have dj : ∀ b, S b → ¬ M.O b := fun b z q => M.al H1 b R2.mi q (hS b z)
  have mi : M.MI H' := M.loc H1 H' (fun b z => by
    cases q : H1 b with
    | none => exact absurd q (M.al H1 b R2.mi z)
    | some o => exact kp b o q) R2.mi
  have R3 : Rel X.K (mcPlus M S I ok) G om2 ρ2 σ H' := R2.opened hS kp iI mi
  have nS : ∀ b, S b → G.H0 b = none := fun b z => R2.fresh0 (hS b z)
  have R4 := R3.set (i := i) (v := .ref a) (d := .ref a) (.ref a)
  refine ⟨mcPlus M S I ok, G, _, _, Xd, Qd, R4, fun om ρ σ H cls dd ex R h hx => ?_, w1 _ a S I (mcPlus_ext dj) hSt (mcPlus_hid dj), fun om' ρ' σ' H' R h => k1 om' ρ' σ' H' (R.closed nS) h, fun om' ρ' σ' v H' r R hr h => ?_, fun om' ρ' σ' H' R h => k3 om' ρ' σ' H' (R.closed nS) h, fun om' ρ' σ' H' R h => k4 om' ρ' σ' H' (R.closed nS) h⟩
  · obtain ⟨h1, b, y, h2, h3, h4⟩ := h
    exact L om ρ σ H cls dd ex (R.closed nS) ⟨h1, b, y, h2, h3, h4.stay (stay_sub fun a z => z.elim (fun z => .inl (.inl z)) .inr)⟩ hx
  · refine k2 om' ρ' σ' v H' r (Rel.closed (G := G.hold v r) R ?_) hr h
    intro b z
    rw [(hold_parts v r G).1]
    exact nS b z
end

def openP (St : Addr → (Addr → Prop) → (Hp → Prop) → Prop) (M : MC) (W : MC → WS) (i : Nat) (ρ : Rho) (X : XD) (D : ED) (_ : Tag D := ⟨⟩) : Prop := ∀ M' a S I, Mext M M' → St a S I → HidAt M' S I → W M' (ρ.set i (some (.sh (.ref a)))) X D
@[simp ↓] theorem e_open {i n : Nat} {pre : List D → Prop} {St : Addr → (Addr → Prop) → (Hp → Prop) → Prop} {M : MC} {wa : WA} {W : MC → WS} {ρ : Rho} {X : XD} {D : ED} :
    wsOpen i n pre St M wa W ρ X D = wa ρ X fun rs ρ1 => rs.length = n ∧ bindP (lets ρ1 rs) fun p => pre p.1 ∧ openP St M W i p.2 X D := by
  unfold wsOpen openP
  simp only [exPb]
/-- what stands in a slot -/
theorem rd_ix {K : PySem.W.Frag} {σ : L2.St} {H : Hp} {j : Nat} {a : Addr} {xs : List V} {i : Int} {v : V} {Q : VK} (hσ : σ[j]? = some (some (.ref a))) (hL : H a = some (.lst xs)) (hi : atI xs i = some v) (q : Q v H) : tOp (rIx K) (tVar j) (tC (.int i)) σ H Q :=
  ⟨_, hσ, .inl ⟨a, xs, i, v, rfl, rfl, SqL.of hL, hi, q⟩⟩
end Dl

set_option Elab.async false
set_option linter.all false
set_option maxRecDepth 100000
set_option maxHeartbeats 4000000
namespace Cw
open PySem L2 Dl
open PyProof.Rows (envOfC)
def top (i : Nat) : Stmt := PySem.Challenge.pw_coinplace_k13_whole_coin_by_coin.main.body.getD i (.Pass ⟨0, 0, 0, 0⟩)
abbrev s_is_from : Stmt := top 6
abbrev s_is_lot : Stmt := top 7
abbrev s_are_lots : Stmt := top 8
abbrev s_is_coin : Stmt := top 9
abbrev s_need_lots : Stmt := top 10
abbrev s_fewest : Stmt := top 11
abbrev s_counted : Stmt := top 12
abbrev s_cut : Stmt := top 13
abbrev s_holds_coin : Stmt := top 14
abbrev s_how_many : Stmt := top 15
abbrev s_joined : Stmt := top 16
abbrev s_parted : Stmt := top 17
abbrev s_has : Stmt := top 18
abbrev s__law_mixed : Stmt := top 20
abbrev s__law_draw : Stmt := top 21
abbrev s__law_next : Stmt := top 22
abbrev s__law_lots : Stmt := top 23
abbrev s__law_coins : Stmt := top 24
abbrev s__law_few : Stmt := top 25
abbrev s_law : Stmt := top 26
structure Tops (K : PySem.W.Frag) (mg : Str → Option Value) where
  d_is_from : DefAt K mg "is_from" s_is_from
  d_is_lot : DefAt K mg "is_lot" s_is_lot
  d_are_lots : DefAt K mg "are_lots" s_are_lots
  d_is_coin : DefAt K mg "is_coin" s_is_coin
  d_need_lots : DefAt K mg "need_lots" s_need_lots
  d_fewest : DefAt K mg "fewest" s_fewest
  d_counted : DefAt K mg "counted" s_counted
  d_cut : DefAt K mg "cut" s_cut
  d_holds_coin : DefAt K mg "holds_coin" s_holds_coin
  d_how_many : DefAt K mg "how_many" s_how_many
  d_joined : DefAt K mg "joined" s_joined
  d_parted : DefAt K mg "parted" s_parted
  d_has : DefAt K mg "has" s_has
  d__law_mixed : DefAt K mg "_law_mixed" s__law_mixed
  d__law_draw : DefAt K mg "_law_draw" s__law_draw
  d__law_next : DefAt K mg "_law_next" s__law_next
  d__law_lots : DefAt K mg "_law_lots" s__law_lots
  d__law_coins : DefAt K mg "_law_coins" s__law_coins
  d__law_few : DefAt K mg "_law_few" s__law_few
  d_law : DefAt K mg "law" s_law
  b_all : mg "all" = none
  b_any : mg "any" = none
  b_bool : mg "bool" = none
  b_int : mg "int" = none
  b_isinstance : mg "isinstance" = none
  b_len : mg "len" = none
  b_list : mg "list" = none
  b_max : mg "max" = none
  b_min : mg "min" = none
  b_range : mg "range" = none
  b_repr : mg "repr" = none
  b_sum : mg "sum" = none
  b_tuple : mg "tuple" = none
theorem kb_is_from_2_ {K : PySem.W.Frag} {mg : Str → Option Value} (T : Tops K mg) : KB K T.d_is_from.fd ["thing", "least"] 2 [] [0, 1] :=
  kb_of T.d_is_from.F fun _ _ _ _ _ _ us ws h1 h2 => match us, ws, h1, h2 with | [_, _], [], _, _ => rfl
theorem kb_is_lot_1_ {K : PySem.W.Frag} {mg : Str → Option Value} (T : Tops K mg) : KB K T.d_is_lot.fd ["thing"] 1 [] [0] :=
  kb_of T.d_is_lot.F fun _ _ _ _ _ _ us ws h1 h2 => match us, ws, h1, h2 with | [_], [], _, _ => rfl
theorem kb_are_lots_1_ {K : PySem.W.Frag} {mg : Str → Option Value} (T : Tops K mg) : KB K T.d_are_lots.fd ["thing"] 1 [] [0] :=
  kb_of T.d_are_lots.F fun _ _ _ _ _ _ us ws h1 h2 => match us, ws, h1, h2 with | [_], [], _, _ => rfl
theorem kb_fewest_1_ {K : PySem.W.Frag} {mg : Str → Option Value} (T : Tops K mg) : KB K T.d_fewest.fd ["lots"] 1 [] [0] :=
  kb_of T.d_fewest.F fun _ _ _ _ _ _ us ws h1 h2 => match us, ws, h1, h2 with | [_], [], _, _ => rfl
theorem kb_need_lots_1_ {K : PySem.W.Frag} {mg : Str → Option Value} (T : Tops K mg) : KB K T.d_need_lots.fd ["lots"] 1 [] [0] :=
  kb_of T.d_need_lots.F fun _ _ _ _ _ _ us ws h1 h2 => match us, ws, h1, h2 with | [_], [], _, _ => rfl
theorem kb_counted_1_ {K : PySem.W.Frag} {mg : Str → Option Value} (T : Tops K mg) : KB K T.d_counted.fd ["lots"] 1 [] [0] :=
  kb_of T.d_counted.F fun _ _ _ _ _ _ us ws h1 h2 => match us, ws, h1, h2 with | [_], [], _, _ => rfl
theorem kb_cut_2_ {K : PySem.W.Frag} {mg : Str → Option Value} (T : Tops K mg) : KB K T.d_cut.fd ["lots", "count"] 2 [] [0, 1] :=
  kb_of T.d_cut.F fun _ _ _ _ _ _ us ws h1 h2 => match us, ws, h1, h2 with | [_, _], [], _, _ => rfl
theorem kb_is_coin_1_ {K : PySem.W.Frag} {mg : Str → Option Value} (T : Tops K mg) : KB K T.d_is_coin.fd ["thing"] 1 [] [0] :=
  kb_of T.d_is_coin.F fun _ _ _ _ _ _ us ws h1 h2 => match us, ws, h1, h2 with | [_], [], _, _ => rfl
theorem kb_holds_coin_2_ {K : PySem.W.Frag} {mg : Str → Option Value} (T : Tops K mg) : KB K T.d_holds_coin.fd ["lots", "coin"] 2 [] [0, 1] :=
  kb_of T.d_holds_coin.F fun _ _ _ _ _ _ us ws h1 h2 => match us, ws, h1, h2 with | [_, _], [], _, _ => rfl
theorem kb__law_next_2_ {K : PySem.W.Frag} {mg : Str → Option Value} (T : Tops K mg) : KB K T.d__law_next.fd ["_law_draw_here", "_law_many"] 2 [] [0, 1] :=
  kb_of T.d__law_next.F fun _ _ _ _ _ _ us ws h1 h2 => match us, ws, h1, h2 with | [_, _], [], _, _ => rfl
theorem kb__law_lots_4_ {K : PySem.W.Frag} {mg : Str → Option Value} (T : Tops K mg) : KB K T.d__law_lots.fd ["_law_draw_here", "_law_many", "_law_letters", "_law_size"] 4 [] [0, 1, 2, 3] :=
  kb_of T.d__law_lots.F fun _ _ _ _ _ _ us ws h1 h2 => match us, ws, h1, h2 with | [_, _, _, _], [], _, _ => rfl
theorem kb__law_coins_1_ {K : PySem.W.Frag} {mg : Str → Option Value} (T : Tops K mg) : KB K T.d__law_coins.fd ["_law_row"] 1 [] [0] :=
  kb_of T.d__law_coins.F fun _ _ _ _ _ _ us ws h1 h2 => match us, ws, h1, h2 with | [_], [], _, _ => rfl
theorem kb_how_many_1_ {K : PySem.W.Frag} {mg : Str → Option Value} (T : Tops K mg) : KB K T.d_how_many.fd ["lots"] 1 [] [0] :=
  kb_of T.d_how_many.F fun _ _ _ _ _ _ us ws h1 h2 => match us, ws, h1, h2 with | [_], [], _, _ => rfl
theorem kb_how_many_0_lots {K : PySem.W.Frag} {mg : Str → Option Value} (T : Tops K mg) : KB K T.d_how_many.fd ["lots"] 0 ["lots"] [0] :=
  kb_of T.d_how_many.F fun _ _ _ _ _ _ us ws h1 h2 => match us, ws, h1, h2 with | [], [_], _, _ => rfl
theorem kb_joined_2_ {K : PySem.W.Frag} {mg : Str → Option Value} (T : Tops K mg) : KB K T.d_joined.fd ["lots", "more"] 2 [] [0, 1] :=
  kb_of T.d_joined.F fun _ _ _ _ _ _ us ws h1 h2 => match us, ws, h1, h2 with | [_, _], [], _, _ => rfl
theorem kb_joined_0_more_lots {K : PySem.W.Frag} {mg : Str → Option Value} (T : Tops K mg) : KB K T.d_joined.fd ["lots", "more"] 0 ["more", "lots"] [1, 0] :=
  kb_of T.d_joined.F fun _ _ _ _ _ _ us ws h1 h2 => match us, ws, h1, h2 with | [], [_, _], _, _ => rfl
theorem kb__law_few_1_ {K : PySem.W.Frag} {mg : Str → Option Value} (T : Tops K mg) : KB K T.d__law_few.fd ["_law_coins_here"] 1 [] [0] :=
  kb_of T.d__law_few.F fun _ _ _ _ _ _ us ws h1 h2 => match us, ws, h1, h2 with | [_], [], _, _ => rfl
theorem kb_parted_2_ {K : PySem.W.Frag} {mg : Str → Option Value} (T : Tops K mg) : KB K T.d_parted.fd ["lots", "count"] 2 [] [0, 1] :=
  kb_of T.d_parted.F fun _ _ _ _ _ _ us ws h1 h2 => match us, ws, h1, h2 with | [_, _], [], _, _ => rfl
theorem kb_parted_0_count_lots {K : PySem.W.Frag} {mg : Str → Option Value} (T : Tops K mg) : KB K T.d_parted.fd ["lots", "count"] 0 ["count", "lots"] [1, 0] :=
  kb_of T.d_parted.F fun _ _ _ _ _ _ us ws h1 h2 => match us, ws, h1, h2 with | [], [_, _], _, _ => rfl
theorem kb_has_2_ {K : PySem.W.Frag} {mg : Str → Option Value} (T : Tops K mg) : KB K T.d_has.fd ["lots", "coin"] 2 [] [0, 1] :=
  kb_of T.d_has.F fun _ _ _ _ _ _ us ws h1 h2 => match us, ws, h1, h2 with | [_, _], [], _, _ => rfl
theorem kb_has_0_coin_lots {K : PySem.W.Frag} {mg : Str → Option Value} (T : Tops K mg) : KB K T.d_has.fd ["lots", "coin"] 0 ["coin", "lots"] [1, 0] :=
  kb_of T.d_has.F fun _ _ _ _ _ _ us ws h1 h2 => match us, ws, h1, h2 with | [], [_, _], _, _ => rfl
theorem kb__law_draw_2_ {K : PySem.W.Frag} {mg : Str → Option Value} (T : Tops K mg) : KB K T.d__law_draw.fd ["_law_script", "_law_k"] 2 [] [0, 1] :=
  kb_of T.d__law_draw.F fun _ _ _ _ _ _ us ws h1 h2 => match us, ws, h1, h2 with | [_, _], [], _, _ => rfl
theorem kb__law_mixed_2_ {K : PySem.W.Frag} {mg : Str → Option Value} (T : Tops K mg) : KB K T.d__law_mixed.fd ["_law_cell", "_law_k"] 2 [] [0, 1] :=
  kb_of T.d__law_mixed.F fun _ _ _ _ _ _ us ws h1 h2 => match us, ws, h1, h2 with | [_, _], [], _, _ => rfl
def w_is_from (M : MC) : WS :=
  (wsRet (wAndV (wIsi [.int] (wVar 0)) (wAndV (wNotV (wIsi [.bl] (wVar 0))) (wOp oGe (wVar 0) (wVar 1)))))
theorem sc_is_from : FnScope ["thing", "least"] ["thing", "least"] (defScope s_is_from) := ⟨rfl, rfl, rfl, by decide +kernel, rfl, by decide +kernel, by decide +kernel⟩
theorem c_is_from {P : Program} {w : World} {K : PySem.W.Frag} {mg : Str → Option Value} {base : Heap} (T : Tops K mg) (M : MC) {cd : Value} {A : Around} {outer : List Env} {s : Shared} {H : Hp} {E : XK} (hG : A.guards = some []) (hr : Room 0 (A.deeper (envOfC "is_from" (defScope s_is_from) s.heap.objs.size T.d_is_from.f cd))) :
    PSs (cxG P w K mg base ["thing", "least"] "is_from" (defScope s_is_from) T.d_is_from.f cd A outer s H E) (defBody s_is_from) (tDS K M (fun cls dd _ H => E cls dd H) (w_is_from M)) :=
  have nd := sc_is_from.nd
  (pd_last (pd_ret (pd_andV (pd_isi (c := .int) (by decide) (by rfl) T.b_isinstance (pd_var 0) (pd_isB T.b_int)) (pd_andV (pd_notV (pd_isi (c := .bl) (by decide) (by rfl) T.b_isinstance (pd_var 0) (pd_isB T.b_bool))) (pd_oneV (pd_ge (pd_var 0) (pd_var 1)))))))
def sp_is_from : DSp := fun M ds Q E => w_is_from M (rho0 2 ds) (excD E) (endD Q)
theorem law_is_from : ∀ M ds Qd Ed, ds.length = 2 → sp_is_from M ds Qd Ed → w_is_from M (rho0 2 ds) (excD Ed) (endD Qd) := fun _ _ _ _ _ h => h
theorem ok_is_from {P : Program} {w : World} {K : PySem.W.Frag} {mg : Str → Option Value} {base : Heap} (T : Tops K mg) : FnG P w K mg base 1 T.d_is_from.f T.d_is_from.fd ["thing", "least"] (spD K 2 sp_is_from) :=
  fnD T.d_is_from.F sc_is_from (fun M cd A outer s H E hG hr => c_is_from T M hG hr) law_is_from
def w_is_lot (M : MC) : WS :=
  (wsSeq (wsIf (wOr (wNot (wB (wIsi [.tup] (wVar 0)))) (wB (wOp oNe (wCa oLen (waCons (wVar 0) waNil)) (wC (.int 3))))) (wsRet (wC (.bl false))) wsNext) (wsSeq (wsAsg (wVar 0) (wgTup 3 (wgCons (wgName 1) (wgCons (wgName 2) (wgCons (wgName 3) wgNil))))) (wsRet (wAndV (wCall M 2 0 [0, 1] 2 sp_is_from (waCons (wVar 1) (waCons (wC (.int 1)) waNil)) waNil) (wAndV (wCall M 2 0 [0, 1] 2 sp_is_from (waCons (wVar 2) (waCons (wC (.int 0)) waNil)) waNil) (wAndV (wCall M 2 0 [0, 1] 2 sp_is_from (waCons (wVar 3) (waCons (wC (.int 1)) waNil)) waNil) (wOp oLt (wVar 2) (wVar 3))))))))
theorem sc_is_lot : FnScope ["thing", "letter", "start", "stop"] ["thing"] (defScope s_is_lot) := ⟨rfl, rfl, rfl, by decide +kernel, rfl, by decide +kernel, by decide +kernel⟩
theorem c_is_lot {P : Program} {w : World} {K : PySem.W.Frag} {mg : Str → Option Value} {base : Heap} (T : Tops K mg) (M : MC) {cd : Value} {A : Around} {outer : List Env} {s : Shared} {H : Hp} {E : XK} (hG : A.guards = some []) (hr : Room 1 (A.deeper (envOfC "is_lot" (defScope s_is_lot) s.heap.objs.size T.d_is_lot.f cd))) :
    PSs (cxG P w K mg base ["thing", "letter", "start", "stop"] "is_lot" (defScope s_is_lot) T.d_is_lot.f cd A outer s H E) (defBody s_is_lot) (tDS K M (fun cls dd _ H => E cls dd H) (w_is_lot M)) :=
  have nd := sc_is_lot.nd
  (pd_cons (pd_ifS (pd_or (pd_not (pd_t (pd_isi (c := .tup) (by decide) (by rfl) T.b_isinstance (pd_var 0) (pd_isB T.b_tuple)))) (pd_or1 (pt_ne (hr64 hr) (pd_callB call_lenA cd_len (by rfl) T.b_len (by decide +kernel) (pd_acons (pd_var 0) pd_anil)) pd_int))).pt (pd_last (pd_ret pd_bl)) pd_nil) (pd_cons (pd_asg (pd_var 0) (pd_gtup 3 rfl (pd_gcons (pd_gname 1 nd) (pd_gcons (pd_gname 2 nd) (pd_gcons (pd_gname 3 nd) pd_gnil))))) (pd_last (pd_ret (pd_andV (pd_call (ok_is_from T) hG (hr.mono (by decide)) tdX (kb_is_from_2_ T) T.d_is_from.F.kp T.d_is_from.m (by rfl) (pd_acons (pd_var 1) (pd_acons pd_int pd_anil)) pd_knil) (pd_andV (pd_call (ok_is_from T) hG (hr.mono (by decide)) tdX (kb_is_from_2_ T) T.d_is_from.F.kp T.d_is_from.m (by rfl) (pd_acons (pd_var 2) (pd_acons pd_int pd_anil)) pd_knil) (pd_andV (pd_call (ok_is_from T) hG (hr.mono (by decide)) tdX (kb_is_from_2_ T) T.d_is_from.F.kp T.d_is_from.m (by rfl) (pd_acons (pd_var 3) (pd_acons pd_int pd_anil)) pd_knil) (pd_oneV (pd_lt (pd_var 2) (pd_var 3))))))))))
def sp_is_lot : DSp := fun M ds Q E => w_is_lot M (rho0 4 ds) (excD E) (endD Q)
theorem law_is_lot : ∀ M ds Qd Ed, ds.length = 1 → sp_is_lot M ds Qd Ed → w_is_lot M (rho0 4 ds) (excD Ed) (endD Qd) := fun _ _ _ _ _ h => h
theorem ok_is_lot {P : Program} {w : World} {K : PySem.W.Frag} {mg : Str → Option Value} {base : Heap} (T : Tops K mg) : FnG P w K mg base 2 T.d_is_lot.f T.d_is_lot.fd ["thing"] (spD K 1 sp_is_lot) :=
  fnD T.d_is_lot.F sc_is_lot (fun M cd A outer s H E hG hr => c_is_lot T M hG hr) law_is_lot
def w_are_lots (M : MC) : WS :=
  (wsRet (wAndV (wIsi [.lst, .tup] (wVar 0)) (wCa oAll (waCons (wLc (wiSeq (wVar 0)) (wgName 1) wYes (wCall M 1 0 [0] 1 sp_is_lot (waCons (wVar 1) waNil) waNil) [1]) waNil))))
theorem sc_are_lots : FnScope ["thing", "lot"] ["thing"] (defScope s_are_lots) := ⟨rfl, rfl, rfl, by decide +kernel, rfl, by decide +kernel, by decide +kernel⟩
theorem c_are_lots {P : Program} {w : World} {K : PySem.W.Frag} {mg : Str → Option Value} {base : Heap} (T : Tops K mg) (M : MC) {cd : Value} {A : Around} {outer : List Env} {s : Shared} {H : Hp} {E : XK} (hG : A.guards = some []) (hr : Room 2 (A.deeper (envOfC "are_lots" (defScope s_are_lots) s.heap.objs.size T.d_are_lots.f cd))) :
    PSs (cxG P w K mg base ["thing", "lot"] "are_lots" (defScope s_are_lots) T.d_are_lots.f cd A outer s H E) (defBody s_are_lots) (tDS K M (fun cls dd _ H => E cls dd H) (w_are_lots M)) :=
  have nd := sc_are_lots.nd
  (pd_last (pd_ret (pd_andV (pd_isi2 (c := .lst) (c' := .tup) (by decide) (by decide) (by rfl) T.b_isinstance (pd_var 0) (pd_isB T.b_list) (pd_isB T.b_tuple)) (pd_oneV (pd_callB (cr_all rfl) cd_all (by rfl) T.b_all (by decide +kernel) (pd_acons (pd_lc rfl nd (own := [("lot", 1)]) (blkOk_by (by rfl)) (pd_iseq (pd_var 0)) (fun _ _ _ _ _ => (pd_gname 1 nd)) (fun _ _ _ _ _ => pd_ynil) (fun _ _ _ _ _ => (pd_call (ok_is_lot T) hG (hr.mono (by decide)) takes0 (kb_is_lot_1_ T) T.d_is_lot.F.kp T.d_is_lot.m (by rfl) (pd_acons (pd_var 1) pd_anil) pd_knil))) pd_anil))))))
def sp_are_lots : DSp := fun M ds Q E => w_are_lots M (rho0 2 ds) (excD E) (endD Q)
theorem law_are_lots : ∀ M ds Qd Ed, ds.length = 1 → sp_are_lots M ds Qd Ed → w_are_lots M (rho0 2 ds) (excD Ed) (endD Qd) := fun _ _ _ _ _ h => h
theorem ok_are_lots {P : Program} {w : World} {K : PySem.W.Frag} {mg : Str → Option Value} {base : Heap} (T : Tops K mg) : FnG P w K mg base 3 T.d_are_lots.f T.d_are_lots.fd ["thing"] (spD K 1 sp_are_lots) :=
  fnD T.d_are_lots.F sc_are_lots (fun M cd A outer s H E hG hr => c_are_lots T M hG hr) law_are_lots
def w_is_coin (M : MC) : WS :=
  (wsRet (wAndV (wIsi [.tup] (wVar 0)) (wAndV (wOp oEq (wCa oLen (waCons (wVar 0) waNil)) (wC (.int 2))) (wAndV (wCall M 2 0 [0, 1] 2 sp_is_from (waCons (wOp oIx (wVar 0) (wC (.int 0))) (waCons (wC (.int 1)) waNil)) waNil) (wCall M 2 0 [0, 1] 2 sp_is_from (waCons (wOp oIx (wVar 0) (wC (.int 1))) (waCons (wC (.int 0)) waNil)) waNil)))))
theorem sc_is_coin : FnScope ["thing"] ["thing"] (defScope s_is_coin) := ⟨rfl, rfl, rfl, by decide +kernel, rfl, by decide +kernel, by decide +kernel⟩
theorem c_is_coin {P : Program} {w : World} {K : PySem.W.Frag} {mg : Str → Option Value} {base : Heap} (T : Tops K mg) (M : MC) {cd : Value} {A : Around} {outer : List Env} {s : Shared} {H : Hp} {E : XK} (hG : A.guards = some []) (hr : Room 1 (A.deeper (envOfC "is_coin" (defScope s_is_coin) s.heap.objs.size T.d_is_coin.f cd))) :
    PSs (cxG P w K mg base ["thing"] "is_coin" (defScope s_is_coin) T.d_is_coin.f cd A outer s H E) (defBody s_is_coin) (tDS K M (fun cls dd _ H => E cls dd H) (w_is_coin M)) :=
  have nd := sc_is_coin.nd
  (pd_last (pd_ret (pd_andV (pd_isi (c := .tup) (by decide) (by rfl) T.b_isinstance (pd_var 0) (pd_isB T.b_tuple)) (pd_andV (pd_eq (hr64 hr) (pd_callB call_lenA cd_len (by rfl) T.b_len (by decide +kernel) (pd_acons (pd_var 0) pd_anil)) pd_int) (pd_andV (pd_call (ok_is_from T) hG (hr.mono (by decide)) tdX (kb_is_from_2_ T) T.d_is_from.F.kp T.d_is_from.m (by rfl) (pd_acons (pd_item (pd_var 0) pd_int) (pd_acons pd_int pd_anil)) pd_knil) (pd_oneV (pd_call (ok_is_from T) hG (hr.mono (by decide)) tdX (kb_is_from_2_ T) T.d_is_from.F.kp T.d_is_from.m (by rfl) (pd_acons (pd_item (pd_var 0) pd_int) (pd_acons pd_int pd_anil)) pd_knil)))))))
def sp_is_coin : DSp := fun M ds Q E => w_is_coin M (rho0 1 ds) (excD E) (endD Q)
theorem law_is_coin : ∀ M ds Qd Ed, ds.length = 1 → sp_is_coin M ds Qd Ed → w_is_coin M (rho0 1 ds) (excD Ed) (endD Qd) := fun _ _ _ _ _ h => h
theorem ok_is_coin {P : Program} {w : World} {K : PySem.W.Frag} {mg : Str → Option Value} {base : Heap} (T : Tops K mg) : FnG P w K mg base 2 T.d_is_coin.f T.d_is_coin.fd ["thing"] (spD K 1 sp_is_coin) :=
  fnD T.d_is_coin.F sc_is_coin (fun M cd A outer s H E hG hr => c_is_coin T M hG hr) law_is_coin
def w_need_lots (M : MC) : WS :=
  (wsIf (wNot (wB (wCall M 1 0 [0] 1 sp_are_lots (waCons (wVar 0) waNil) waNil))) wsNev wsNext)
theorem sc_need_lots : FnScope ["lots"] ["lots"] (defScope s_need_lots) := ⟨rfl, rfl, rfl, by decide +kernel, rfl, by decide +kernel, by decide +kernel⟩
theorem c_need_lots {P : Program} {w : World} {K : PySem.W.Frag} {mg : Str → Option Value} {base : Heap} (T : Tops K mg) (M : MC) {cd : Value} {A : Around} {outer : List Env} {s : Shared} {H : Hp} {E : XK} (hG : A.guards = some []) (hr : Room 3 (A.deeper (envOfC "need_lots" (defScope s_need_lots) s.heap.objs.size T.d_need_lots.f cd))) :
    PSs (cxG P w K mg base ["lots"] "need_lots" (defScope s_need_lots) T.d_need_lots.f cd A outer s H E) (defBody s_need_lots) (tDS K M (fun cls dd _ H => E cls dd H) (w_need_lots M)) :=
  have nd := sc_need_lots.nd
  (pd_last (pd_ifS (pd_not (pd_t (pd_call (ok_are_lots T) hG (hr.mono (by decide)) tdX (kb_are_lots_1_ T) T.d_are_lots.F.kp T.d_are_lots.m (by rfl) (pd_acons (pd_var 0) pd_anil) pd_knil))) (pd_last pd_nev) pd_nil))
def sp_need_lots : DSp := fun M ds Q E => w_need_lots M (rho0 1 ds) (excD E) (endD Q)
theorem law_need_lots : ∀ M ds Qd Ed, ds.length = 1 → sp_need_lots M ds Qd Ed → w_need_lots M (rho0 1 ds) (excD Ed) (endD Qd) := fun _ _ _ _ _ h => h
theorem ok_need_lots {P : Program} {w : World} {K : PySem.W.Frag} {mg : Str → Option Value} {base : Heap} (T : Tops K mg) : FnG P w K mg base 4 T.d_need_lots.f T.d_need_lots.fd ["lots"] (spD K 1 sp_need_lots) :=
  fnD T.d_need_lots.F sc_need_lots (fun M cd A outer s H E hG hr => c_need_lots T M hG hr) law_need_lots
def w_fewest (M : MC) : WS :=
  (wsSeq (wsSet 1 (wLst waNil)) (wsSeq (wsFor (wiSeq (wVar 0)) (wgTup 3 (wgCons (wgName 2) (wgCons (wgName 3) (wgCons (wgName 4) wgNil)))) (wsIf (wAnd (wB (wOp oNe (wVar 1) (wLst waNil))) (wAnd (wB (wOp oEq (wOp oIx (wOp oIx (wVar 1) (wUn oNeg (wC (.int 1)))) (wC (.int 0))) (wVar 2))) (wB (wOp oEq (wOp oIx (wOp oIx (wVar 1) (wUn oNeg (wC (.int 1)))) (wC (.int 2))) (wVar 3))))) (wsSetI 1 (wTup (waCons (wVar 2) (waCons (wOp oIx (wOp oIx (wVar 1) (wUn oNeg (wC (.int 1)))) (wC (.int 1))) (waCons (wVar 4) waNil)))) (wUn oNeg (wC (.int 1)))) (wsApp 1 (wTup (waCons (wVar 2) (waCons (wVar 3) (waCons (wVar 4) waNil))))))) (wsRet (wVar 1))))
theorem sc_fewest : FnScope ["lots", "found", "letter", "start", "stop"] ["lots"] (defScope s_fewest) := ⟨rfl, rfl, rfl, by decide +kernel, rfl, by decide +kernel, by decide +kernel⟩
theorem c_fewest {P : Program} {w : World} {K : PySem.W.Frag} {mg : Str → Option Value} {base : Heap} (T : Tops K mg) (M : MC) {cd : Value} {A : Around} {outer : List Env} {s : Shared} {H : Hp} {E : XK} (hG : A.guards = some []) (hr : Room 0 (A.deeper (envOfC "fewest" (defScope s_fewest) s.heap.objs.size T.d_fewest.f cd))) :
    PSs (cxG P w K mg base ["lots", "found", "letter", "start", "stop"] "fewest" (defScope s_fewest) T.d_fewest.f cd A outer s H E) (defBody s_fewest) (tDS K M (fun cls dd _ H => E cls dd H) (w_fewest M)) :=
  have nd := sc_fewest.nd
  (pd_cons (pd_set 1 nd (pd_lst pd_anil)) (pd_cons (pd_for (passes_of rfl) rfl (pd_iseq (pd_var 0)) (pd_gtup 3 rfl (pd_gcons (pd_gname 2 nd) (pd_gcons (pd_gname 3 nd) (pd_gcons (pd_gname 4 nd) pd_gnil)))) (pd_last (pd_ifS (pd_and (pt_ne (hr64 hr) (pd_var 1) (pd_lst pd_anil)) (pd_and (pt_eq (hr64 hr) (pd_item (pd_item (pd_var 1) (pd_neg pd_int)) pd_int) (pd_var 2)) (pd_and1 (pt_eq (hr64 hr) (pd_item (pd_item (pd_var 1) (pd_neg pd_int)) pd_int) (pd_var 3))))).pt (pd_last (pd_setI 1 (pd_tup (pd_acons (pd_var 2) (pd_acons (pd_item (pd_item (pd_var 1) (pd_neg pd_int)) pd_int) (pd_acons (pd_var 4) pd_anil)))) (pd_neg pd_int))) (pd_last (pd_app 1 (pd_tup (pd_acons (pd_var 2) (pd_acons (pd_var 3) (pd_acons (pd_var 4) pd_anil))))))))) (pd_last (pd_ret (pd_var 1)))))
def sp_fewest : DSp := fun M ds Q E => w_fewest M (rho0 5 ds) (excD E) (endD Q)
theorem law_fewest : ∀ M ds Qd Ed, ds.length = 1 → sp_fewest M ds Qd Ed → w_fewest M (rho0 5 ds) (excD Ed) (endD Qd) := fun _ _ _ _ _ h => h
theorem ok_fewest {P : Program} {w : World} {K : PySem.W.Frag} {mg : Str → Option Value} {base : Heap} (T : Tops K mg) : FnG P w K mg base 1 T.d_fewest.f T.d_fewest.fd ["lots"] (spD K 1 sp_fewest) :=
  fnD T.d_fewest.F sc_fewest (fun M cd A outer s H E hG hr => c_fewest T M hG hr) law_fewest
def w_counted (M : MC) : WS :=
  (wsRet (wCa oSum (waCons (wLc (wiSeq (wVar 0)) (wgTup 3 (wgCons (wgName 1) (wgCons (wgName 2) (wgCons (wgName 3) wgNil)))) wYes (wOp oSub (wVar 3) (wVar 2)) [1, 2, 3]) waNil)))
theorem sc_counted : FnScope ["lots", "letter", "start", "stop"] ["lots"] (defScope s_counted) := ⟨rfl, rfl, rfl, by decide +kernel, rfl, by decide +kernel, by decide +kernel⟩
theorem c_counted {P : Program} {w : World} {K : PySem.W.Frag} {mg : Str → Option Value} {base : Heap} (T : Tops K mg) (M : MC) {cd : Value} {A : Around} {outer : List Env} {s : Shared} {H : Hp} {E : XK} (hG : A.guards = some []) (hr : Room 0 (A.deeper (envOfC "counted" (defScope s_counted) s.heap.objs.size T.d_counted.f cd))) :
    PSs (cxG P w K mg base ["lots", "letter", "start", "stop"] "counted" (defScope s_counted) T.d_counted.f cd A outer s H E) (defBody s_counted) (tDS K M (fun cls dd _ H => E cls dd H) (w_counted M)) :=
  have nd := sc_counted.nd
  (pd_last (pd_ret (pd_callB (cr_sum rfl) cd_sum (by rfl) T.b_sum (by decide +kernel) (pd_acons (pd_lc rfl nd (own := [("letter", 1), ("start", 2), ("stop", 3)]) (blkOk_by (by rfl)) (pd_iseq (pd_var 0)) (fun _ _ _ _ _ => (pd_gtup 3 rfl (pd_gcons (pd_gname 1 nd) (pd_gcons (pd_gname 2 nd) (pd_gcons (pd_gname 3 nd) pd_gnil))))) (fun _ _ _ _ _ => pd_ynil) (fun _ _ _ _ _ => (pd_sub (pd_var 3) (pd_var 2)))) pd_anil))))
def sp_counted : DSp := fun M ds Q E => w_counted M (rho0 4 ds) (excD E) (endD Q)
theorem law_counted : ∀ M ds Qd Ed, ds.length = 1 → sp_counted M ds Qd Ed → w_counted M (rho0 4 ds) (excD Ed) (endD Qd) := fun _ _ _ _ _ h => h
theorem ok_counted {P : Program} {w : World} {K : PySem.W.Frag} {mg : Str → Option Value} {base : Heap} (T : Tops K mg) : FnG P w K mg base 1 T.d_counted.f T.d_counted.fd ["lots"] (spD K 1 sp_counted) :=
  fnD T.d_counted.F sc_counted (fun M cd A outer s H E hG hr => c_counted T M hG hr) law_counted
def w_cut (M : MC) : WS :=
  (wsSeq (wsPar3 2 3 4 (waCons (wLst waNil) (waCons (wLst waNil) (waCons (wVar 1) waNil)))) (wsSeq (wsFor (wiSeq (wVar 0)) (wgTup 3 (wgCons (wgName 5) (wgCons (wgName 6) (wgCons (wgName 7) wgNil)))) (wsSeq (wsSet 8 (wCa oMin (waCons (wVar 7) (waCons (wOp oAdd (wVar 6) (wVar 4)) waNil)))) (wsSeq (wsAug 4 oSub (wOp oSub (wVar 8) (wVar 6))) (wsSeq (wsIf (wB (wOp oLt (wVar 6) (wVar 8))) (wsApp 2 (wTup (waCons (wVar 5) (waCons (wVar 6) (waCons (wVar 8) waNil))))) wsNext) (wsIf (wB (wOp oLt (wVar 8) (wVar 7))) (wsApp 3 (wTup (waCons (wVar 5) (waCons (wVar 8) (waCons (wVar 7) waNil))))) wsNext))))) (wsRet (wTup (waCons (wCall M 1 0 [0] 1 sp_fewest (waCons (wVar 2) waNil) waNil) (waCons (wCall M 1 0 [0] 1 sp_fewest (waCons (wVar 3) waNil) waNil) waNil))))))
theorem sc_cut : FnScope ["lots", "count", "first", "others", "missing", "letter", "start", "stop", "middle"] ["lots", "count"] (defScope s_cut) := ⟨rfl, rfl, rfl, by decide +kernel, rfl, by decide +kernel, by decide +kernel⟩
theorem c_cut {P : Program} {w : World} {K : PySem.W.Frag} {mg : Str → Option Value} {base : Heap} (T : Tops K mg) (M : MC) {cd : Value} {A : Around} {outer : List Env} {s : Shared} {H : Hp} {E : XK} (hG : A.guards = some []) (hr : Room 1 (A.deeper (envOfC "cut" (defScope s_cut) s.heap.objs.size T.d_cut.f cd))) :
    PSs (cxG P w K mg base ["lots", "count", "first", "others", "missing", "letter", "start", "stop", "middle"] "cut" (defScope s_cut) T.d_cut.f cd A outer s H E) (defBody s_cut) (tDS K M (fun cls dd _ H => E cls dd H) (w_cut M)) :=
  have nd := sc_cut.nd
  (pd_cons (pd_par3 (i := 2) (j := 3) (l := 4) rfl nd (pd_acons (pd_lst pd_anil) (pd_acons (pd_lst pd_anil) (pd_acons (pd_var 1) pd_anil)))) (pd_cons (pd_for (passes_of rfl) rfl (pd_iseq (pd_var 0)) (pd_gtup 3 rfl (pd_gcons (pd_gname 5 nd) (pd_gcons (pd_gname 6 nd) (pd_gcons (pd_gname 7 nd) pd_gnil)))) (pd_cons (pd_set 8 nd (pd_callB (call_min2 rfl) cd_min (by rfl) T.b_min (by decide +kernel) (pd_acons (pd_var 7) (pd_acons (pd_add (pd_var 6) (pd_var 4)) pd_anil)))) (pd_cons (pd_aug 4 nd (pd_sub (pd_var 8) (pd_var 6)) ip_sub ipd_int) (pd_cons (pd_ifS (pt_lt (pd_var 6) (pd_var 8)) (pd_last (pd_app 2 (pd_tup (pd_acons (pd_var 5) (pd_acons (pd_var 6) (pd_acons (pd_var 8) pd_anil)))))) pd_nil) (pd_last (pd_ifS (pt_lt (pd_var 8) (pd_var 7)) (pd_last (pd_app 3 (pd_tup (pd_acons (pd_var 5) (pd_acons (pd_var 8) (pd_acons (pd_var 7) pd_anil)))))) pd_nil)))))) (pd_last (pd_ret (pd_tup (pd_acons (pd_call (ok_fewest T) hG (hr.mono (by decide)) tdX (kb_fewest_1_ T) T.d_fewest.F.kp T.d_fewest.m (by rfl) (pd_acons (pd_var 2) pd_anil) pd_knil) (pd_acons (pd_call (ok_fewest T) hG (hr.mono (by decide)) tdX (kb_fewest_1_ T) T.d_fewest.F.kp T.d_fewest.m (by rfl) (pd_acons (pd_var 3) pd_anil) pd_knil) pd_anil)))))))
def sp_cut : DSp := fun M ds Q E => w_cut M (rho0 9 ds) (excD E) (endD Q)
theorem law_cut : ∀ M ds Qd Ed, ds.length = 2 → sp_cut M ds Qd Ed → w_cut M (rho0 9 ds) (excD Ed) (endD Qd) := fun _ _ _ _ _ h => h
theorem ok_cut {P : Program} {w : World} {K : PySem.W.Frag} {mg : Str → Option Value} {base : Heap} (T : Tops K mg) : FnG P w K mg base 2 T.d_cut.f T.d_cut.fd ["lots", "count"] (spD K 2 sp_cut) :=
  fnD T.d_cut.F sc_cut (fun M cd A outer s H E hG hr => c_cut T M hG hr) law_cut
def w_holds_coin (M : MC) : WS :=
  (wsRet (wCa oAny (waCons (wLc (wiSeq (wVar 0)) (wgTup 3 (wgCons (wgName 2) (wgCons (wgName 3) (wgCons (wgName 4) wgNil)))) wYes (wAndV (wOp oEq (wVar 2) (wOp oIx (wVar 1) (wC (.int 0)))) (wChain oLe oLt (wVar 3) (wOp oIx (wVar 1) (wC (.int 1))) (wVar 4))) [2, 3, 4]) waNil)))
theorem sc_holds_coin : FnScope ["lots", "coin", "letter", "start", "stop"] ["lots", "coin"] (defScope s_holds_coin) := ⟨rfl, rfl, rfl, by decide +kernel, rfl, by decide +kernel, by decide +kernel⟩
theorem c_holds_coin {P : Program} {w : World} {K : PySem.W.Frag} {mg : Str → Option Value} {base : Heap} (T : Tops K mg) (M : MC) {cd : Value} {A : Around} {outer : List Env} {s : Shared} {H : Hp} {E : XK} (hG : A.guards = some []) (hr : Room 0 (A.deeper (envOfC "holds_coin" (defScope s_holds_coin) s.heap.objs.size T.d_holds_coin.f cd))) :
    PSs (cxG P w K mg base ["lots", "coin", "letter", "start", "stop"] "holds_coin" (defScope s_holds_coin) T.d_holds_coin.f cd A outer s H E) (defBody s_holds_coin) (tDS K M (fun cls dd _ H => E cls dd H) (w_holds_coin M)) :=
  have nd := sc_holds_coin.nd
  (pd_last (pd_ret (pd_callB (cr_any rfl) cd_any (by rfl) T.b_any (by decide +kernel) (pd_acons (pd_lc rfl nd (own := [("letter", 2), ("start", 3), ("stop", 4)]) (blkOk_by (by rfl)) (pd_iseq (pd_var 0)) (fun _ _ _ _ _ => (pd_gtup 3 rfl (pd_gcons (pd_gname 2 nd) (pd_gcons (pd_gname 3 nd) (pd_gcons (pd_gname 4 nd) pd_gnil))))) (fun _ _ _ _ _ => pd_ynil) (fun _ _ _ _ _ => (pd_andV (pd_eq (hr64 hr) (pd_var 2) (pd_item (pd_var 1) pd_int)) (pd_oneV (pd_chain (op_le.or op_le_str) od_cmp (op_lt.or op_lt_str) od_cmp (pd_var 3) (pd_item (pd_var 1) pd_int) (pd_var 4)))))) pd_anil))))
def sp_holds_coin : DSp := fun M ds Q E => w_holds_coin M (rho0 5 ds) (excD E) (endD Q)
theorem law_holds_coin : ∀ M ds Qd Ed, ds.length = 2 → sp_holds_coin M ds Qd Ed → w_holds_coin M (rho0 5 ds) (excD Ed) (endD Qd) := fun _ _ _ _ _ h => h
theorem ok_holds_coin {P : Program} {w : World} {K : PySem.W.Frag} {mg : Str → Option Value} {base : Heap} (T : Tops K mg) : FnG P w K mg base 1 T.d_holds_coin.f T.d_holds_coin.fd ["lots", "coin"] (spD K 2 sp_holds_coin) :=
  fnD T.d_holds_coin.F sc_holds_coin (fun M cd A outer s H E hG hr => c_holds_coin T M hG hr) law_holds_coin
def w_how_many (M : MC) : WS :=
  (wsSeq (wsDrop (wCall M 1 0 [0] 1 sp_need_lots (waCons (wVar 0) waNil) waNil)) (wsRet (wCall M 1 0 [0] 1 sp_counted (waCons (wVar 0) waNil) waNil)))
theorem sc_how_many : FnScope ["lots"] ["lots"] (defScope s_how_many) := ⟨rfl, rfl, rfl, by decide +kernel, rfl, by decide +kernel, by decide +kernel⟩
theorem c_how_many {P : Program} {w : World} {K : PySem.W.Frag} {mg : Str → Option Value} {base : Heap} (T : Tops K mg) (M : MC) {cd : Value} {A : Around} {outer : List Env} {s : Shared} {H : Hp} {E : XK} (hG : A.guards = some []) (hr : Room 4 (A.deeper (envOfC "how_many" (defScope s_how_many) s.heap.objs.size T.d_how_many.f cd))) :
    PSs (cxG P w K mg base ["lots"] "how_many" (defScope s_how_many) T.d_how_many.f cd A outer s H E) (defBody s_how_many) (tDS K M (fun cls dd _ H => E cls dd H) (w_how_many M)) :=
  have nd := sc_how_many.nd
  (pd_cons (pd_expr (pd_call (ok_need_lots T) hG (hr.mono (by decide)) tdX (kb_need_lots_1_ T) T.d_need_lots.F.kp T.d_need_lots.m (by rfl) (pd_acons (pd_var 0) pd_anil) pd_knil)) (pd_last (pd_ret (pd_call (ok_counted T) hG (hr.mono (by decide)) tdX (kb_counted_1_ T) T.d_counted.F.kp T.d_counted.m (by rfl) (pd_acons (pd_var 0) pd_anil) pd_knil))))
def sp_how_many : DSp := fun M ds Q E => w_how_many M (rho0 1 ds) (excD E) (endD Q)
theorem law_how_many : ∀ M ds Qd Ed, ds.length = 1 → sp_how_many M ds Qd Ed → w_how_many M (rho0 1 ds) (excD Ed) (endD Qd) := fun _ _ _ _ _ h => h
theorem ok_how_many {P : Program} {w : World} {K : PySem.W.Frag} {mg : Str → Option Value} {base : Heap} (T : Tops K mg) : FnG P w K mg base 5 T.d_how_many.f T.d_how_many.fd ["lots"] (spD K 1 sp_how_many) :=
  fnD T.d_how_many.F sc_how_many (fun M cd A outer s H E hG hr => c_how_many T M hG hr) law_how_many
def w_joined (M : MC) : WS :=
  (wsSeq (wsDrop (wCall M 1 0 [0] 1 sp_need_lots (waCons (wVar 0) waNil) waNil)) (wsSeq (wsDrop (wCall M 1 0 [0] 1 sp_need_lots (waCons (wVar 1) waNil) waNil)) (wsRet (wCall M 1 0 [0] 1 sp_fewest (waCons (wOp oAdd (wCa oList (waCons (wVar 0) waNil)) (wCa oList (waCons (wVar 1) waNil))) waNil) waNil))))
theorem sc_joined : FnScope ["lots", "more"] ["lots", "more"] (defScope s_joined) := ⟨rfl, rfl, rfl, by decide +kernel, rfl, by decide +kernel, by decide +kernel⟩
theorem c_joined {P : Program} {w : World} {K : PySem.W.Frag} {mg : Str → Option Value} {base : Heap} (T : Tops K mg) (M : MC) {cd : Value} {A : Around} {outer : List Env} {s : Shared} {H : Hp} {E : XK} (hG : A.guards = some []) (hr : Room 4 (A.deeper (envOfC "joined" (defScope s_joined) s.heap.objs.size T.d_joined.f cd))) :
    PSs (cxG P w K mg base ["lots", "more"] "joined" (defScope s_joined) T.d_joined.f cd A outer s H E) (defBody s_joined) (tDS K M (fun cls dd _ H => E cls dd H) (w_joined M)) :=
  have nd := sc_joined.nd
  (pd_cons (pd_expr (pd_call (ok_need_lots T) hG (hr.mono (by decide)) tdX (kb_need_lots_1_ T) T.d_need_lots.F.kp T.d_need_lots.m (by rfl) (pd_acons (pd_var 0) pd_anil) pd_knil)) (pd_cons (pd_expr (pd_call (ok_need_lots T) hG (hr.mono (by decide)) tdX (kb_need_lots_1_ T) T.d_need_lots.F.kp T.d_need_lots.m (by rfl) (pd_acons (pd_var 1) pd_anil) pd_knil)) (pd_last (pd_ret (pd_call (ok_fewest T) hG (hr.mono (by decide)) tdX (kb_fewest_1_ T) T.d_fewest.F.kp T.d_fewest.m (by rfl) (pd_acons (pd_add (pd_callTy call_list_of cd_list (by rfl) T.b_list (by decide +kernel) (pd_acons (pd_var 0) pd_anil)) (pd_callTy call_list_of cd_list (by rfl) T.b_list (by decide +kernel) (pd_acons (pd_var 1) pd_anil))) pd_anil) pd_knil)))))
def sp_joined : DSp := fun M ds Q E => w_joined M (rho0 2 ds) (excD E) (endD Q)
theorem law_joined : ∀ M ds Qd Ed, ds.length = 2 → sp_joined M ds Qd Ed → w_joined M (rho0 2 ds) (excD Ed) (endD Qd) := fun _ _ _ _ _ h => h
theorem ok_joined {P : Program} {w : World} {K : PySem.W.Frag} {mg : Str → Option Value} {base : Heap} (T : Tops K mg) : FnG P w K mg base 5 T.d_joined.f T.d_joined.fd ["lots", "more"] (spD K 2 sp_joined) :=
  fnD T.d_joined.F sc_joined (fun M cd A outer s H E hG hr => c_joined T M hG hr) law_joined
def w_parted (M : MC) : WS :=
  (wsSeq (wsDrop (wCall M 1 0 [0] 1 sp_need_lots (waCons (wVar 0) waNil) waNil)) (wsSeq (wsIf (wOr (wNot (wB (wCall M 2 0 [0, 1] 2 sp_is_from (waCons (wVar 1) (waCons (wC (.int 0)) waNil)) waNil))) (wB (wOp oGt (wVar 1) (wCall M 1 0 [0] 1 sp_counted (waCons (wVar 0) waNil) waNil)))) wsNev wsNext) (wsRet (wCall M 2 0 [0, 1] 2 sp_cut (waCons (wVar 0) (waCons (wVar 1) waNil)) waNil))))
theorem sc_parted : FnScope ["lots", "count"] ["lots", "count"] (defScope s_parted) := ⟨rfl, rfl, rfl, by decide +kernel, rfl, by decide +kernel, by decide +kernel⟩
theorem c_parted {P : Program} {w : World} {K : PySem.W.Frag} {mg : Str → Option Value} {base : Heap} (T : Tops K mg) (M : MC) {cd : Value} {A : Around} {outer : List Env} {s : Shared} {H : Hp} {E : XK} (hG : A.guards = some []) (hr : Room 4 (A.deeper (envOfC "parted" (defScope s_parted) s.heap.objs.size T.d_parted.f cd))) :
    PSs (cxG P w K mg base ["lots", "count"] "parted" (defScope s_parted) T.d_parted.f cd A outer s H E) (defBody s_parted) (tDS K M (fun cls dd _ H => E cls dd H) (w_parted M)) :=
  have nd := sc_parted.nd
  (pd_cons (pd_expr (pd_call (ok_need_lots T) hG (hr.mono (by decide)) tdX (kb_need_lots_1_ T) T.d_need_lots.F.kp T.d_need_lots.m (by rfl) (pd_acons (pd_var 0) pd_anil) pd_knil)) (pd_cons (pd_ifS (pd_or (pd_not (pd_t (pd_call (ok_is_from T) hG (hr.mono (by decide)) tdX (kb_is_from_2_ T) T.d_is_from.F.kp T.d_is_from.m (by rfl) (pd_acons (pd_var 1) (pd_acons pd_int pd_anil)) pd_knil))) (pd_or1 (pt_gt (pd_var 1) (pd_call (ok_counted T) hG (hr.mono (by decide)) tdX (kb_counted_1_ T) T.d_counted.F.kp T.d_counted.m (by rfl) (pd_acons (pd_var 0) pd_anil) pd_knil)))).pt (pd_last pd_nev) pd_nil) (pd_last (pd_ret (pd_call (ok_cut T) hG (hr.mono (by decide)) tdX (kb_cut_2_ T) T.d_cut.F.kp T.d_cut.m (by rfl) (pd_acons (pd_var 0) (pd_acons (pd_var 1) pd_anil)) pd_knil)))))
def sp_parted : DSp := fun M ds Q E => w_parted M (rho0 2 ds) (excD E) (endD Q)
theorem law_parted : ∀ M ds Qd Ed, ds.length = 2 → sp_parted M ds Qd Ed → w_parted M (rho0 2 ds) (excD Ed) (endD Qd) := fun _ _ _ _ _ h => h
theorem ok_parted {P : Program} {w : World} {K : PySem.W.Frag} {mg : Str → Option Value} {base : Heap} (T : Tops K mg) : FnG P w K mg base 5 T.d_parted.f T.d_parted.fd ["lots", "count"] (spD K 2 sp_parted) :=
  fnD T.d_parted.F sc_parted (fun M cd A outer s H E hG hr => c_parted T M hG hr) law_parted
def w_has (M : MC) : WS :=
  (wsSeq (wsDrop (wCall M 1 0 [0] 1 sp_need_lots (waCons (wVar 0) waNil) waNil)) (wsSeq (wsIf (wNot (wB (wCall M 1 0 [0] 1 sp_is_coin (waCons (wVar 1) waNil) waNil))) wsNev wsNext) (wsRet (wCall M 2 0 [0, 1] 2 sp_holds_coin (waCons (wVar 0) (waCons (wVar 1) waNil)) waNil))))
theorem sc_has : FnScope ["lots", "coin"] ["lots", "coin"] (defScope s_has) := ⟨rfl, rfl, rfl, by decide +kernel, rfl, by decide +kernel, by decide +kernel⟩
theorem c_has {P : Program} {w : World} {K : PySem.W.Frag} {mg : Str → Option Value} {base : Heap} (T : Tops K mg) (M : MC) {cd : Value} {A : Around} {outer : List Env} {s : Shared} {H : Hp} {E : XK} (hG : A.guards = some []) (hr : Room 4 (A.deeper (envOfC "has" (defScope s_has) s.heap.objs.size T.d_has.f cd))) :
    PSs (cxG P w K mg base ["lots", "coin"] "has" (defScope s_has) T.d_has.f cd A outer s H E) (defBody s_has) (tDS K M (fun cls dd _ H => E cls dd H) (w_has M)) :=
  have nd := sc_has.nd
  (pd_cons (pd_expr (pd_call (ok_need_lots T) hG (hr.mono (by decide)) tdX (kb_need_lots_1_ T) T.d_need_lots.F.kp T.d_need_lots.m (by rfl) (pd_acons (pd_var 0) pd_anil) pd_knil)) (pd_cons (pd_ifS (pd_not (pd_t (pd_call (ok_is_coin T) hG (hr.mono (by decide)) tdX (kb_is_coin_1_ T) T.d_is_coin.F.kp T.d_is_coin.m (by rfl) (pd_acons (pd_var 1) pd_anil) pd_knil))) (pd_last pd_nev) pd_nil) (pd_last (pd_ret (pd_call (ok_holds_coin T) hG (hr.mono (by decide)) tdX (kb_holds_coin_2_ T) T.d_holds_coin.F.kp T.d_holds_coin.m (by rfl) (pd_acons (pd_var 0) (pd_acons (pd_var 1) pd_anil)) pd_knil)))))
def sp_has : DSp := fun M ds Q E => w_has M (rho0 2 ds) (excD E) (endD Q)
theorem law_has : ∀ M ds Qd Ed, ds.length = 2 → sp_has M ds Qd Ed → w_has M (rho0 2 ds) (excD Ed) (endD Qd) := fun _ _ _ _ _ h => h
theorem ok_has {P : Program} {w : World} {K : PySem.W.Frag} {mg : Str → Option Value} {base : Heap} (T : Tops K mg) : FnG P w K mg base 5 T.d_has.f T.d_has.fd ["lots", "coin"] (spD K 2 sp_has) :=
  fnD T.d_has.F sc_has (fun M cd A outer s H E hG hr => c_has T M hG hr) law_has
def w__law_mixed (M : MC) : WS :=
  (wsSeq (wsSet 2 (wOp oIx (wLst (waCons (wC (.int 2147483629)) (waCons (wC (.int 2147483587)) (waCons (wC (.int 2147483579)) (waCons (wC (.int 2147483563)) (waCons (wC (.int 2147483549)) waNil)))))) (wOp oMod (wVar 1) (wC (.int 5))))) (wsRet (wOp oMod (wOp oMul (wOp oMod (wOp oPow (wOp oMod (wOp oAdd (wOp oAdd (wVar 0) (wOp oMul (wC (.int 7919)) (wVar 1))) (wC (.int 104729))) (wVar 2)) (wC (.int 5))) (wVar 2)) (wOp oAdd (wC (.int 48271)) (wOp oMul (wC (.int 2)) (wVar 1)))) (wVar 2))))
theorem sc__law_mixed : FnScope ["_law_cell", "_law_k", "_law_prime"] ["_law_cell", "_law_k"] (defScope s__law_mixed) := ⟨rfl, rfl, rfl, by decide +kernel, rfl, by decide +kernel, by decide +kernel⟩
theorem c__law_mixed {P : Program} {w : World} {K : PySem.W.Frag} {mg : Str → Option Value} {base : Heap} (T : Tops K mg) (M : MC) {cd : Value} {A : Around} {outer : List Env} {s : Shared} {H : Hp} {E : XK} (hG : A.guards = some []) (hr : Room 0 (A.deeper (envOfC "_law_mixed" (defScope s__law_mixed) s.heap.objs.size T.d__law_mixed.f cd))) :
    PSs (cxG P w K mg base ["_law_cell", "_law_k", "_law_prime"] "_law_mixed" (defScope s__law_mixed) T.d__law_mixed.f cd A outer s H E) (defBody s__law_mixed) (tDS K M (fun cls dd _ H => E cls dd H) (w__law_mixed M)) :=
  have nd := sc__law_mixed.nd
  (pd_cons (pd_set 2 nd (pd_item (pd_lst (pd_acons pd_int (pd_acons pd_int (pd_acons pd_int (pd_acons pd_int (pd_acons pd_int pd_anil)))))) (pd_mod (pd_var 1) pd_int))) (pd_last (pd_ret (pd_mod (pd_mul (pd_mod (pd_pow (pd_mod (pd_add (pd_add (pd_var 0) (pd_mul pd_int (pd_var 1))) pd_int) (pd_var 2)) pd_int) (pd_var 2)) (pd_add pd_int (pd_mul pd_int (pd_var 1)))) (pd_var 2)))))
def sp__law_mixed : DSp := fun M ds Q E => w__law_mixed M (rho0 3 ds) (excD E) (endD Q)
theorem law__law_mixed : ∀ M ds Qd Ed, ds.length = 2 → sp__law_mixed M ds Qd Ed → w__law_mixed M (rho0 3 ds) (excD Ed) (endD Qd) := fun _ _ _ _ _ h => h
theorem ok__law_mixed {P : Program} {w : World} {K : PySem.W.Frag} {mg : Str → Option Value} {base : Heap} (T : Tops K mg) : FnG P w K mg base 1 T.d__law_mixed.f T.d__law_mixed.fd ["_law_cell", "_law_k"] (spD K 2 sp__law_mixed) :=
  fnD T.d__law_mixed.F sc__law_mixed (fun M cd A outer s H E hG hr => c__law_mixed T M hG hr) law__law_mixed
def w__law_coins (M : MC) : WS :=
  (wsSeq (wsSet 1 (wLst waNil)) (wsSeq (wsFor (wiSeq (wVar 0)) (wgTup 3 (wgCons (wgName 2) (wgCons (wgName 3) (wgCons (wgName 4) wgNil)))) (wsSet 1 (wOp oAdd (wVar 1) (wLc (wiR2 (waCons (wVar 3) (waCons (wVar 4) waNil))) (wgName 5) wYes (wTup (waCons (wVar 2) (waCons (wVar 5) waNil))) [5])))) (wsRet (wVar 1))))
theorem sc__law_coins : FnScope ["_law_row", "_law_found", "_law_letter", "_law_start", "_law_stop", "_law_at"] ["_law_row"] (defScope s__law_coins) := ⟨rfl, rfl, rfl, by decide +kernel, rfl, by decide +kernel, by decide +kernel⟩
theorem c__law_coins {P : Program} {w : World} {K : PySem.W.Frag} {mg : Str → Option Value} {base : Heap} (T : Tops K mg) (M : MC) {cd : Value} {A : Around} {outer : List Env} {s : Shared} {H : Hp} {E : XK} (hG : A.guards = some []) (hr : Room 0 (A.deeper (envOfC "_law_coins" (defScope s__law_coins) s.heap.objs.size T.d__law_coins.f cd))) :
    PSs (cxG P w K mg base ["_law_row", "_law_found", "_law_letter", "_law_start", "_law_stop", "_law_at"] "_law_coins" (defScope s__law_coins) T.d__law_coins.f cd A outer s H E) (defBody s__law_coins) (tDS K M (fun cls dd _ H => E cls dd H) (w__law_coins M)) :=
  have nd := sc__law_coins.nd
  (pd_cons (pd_set 1 nd (pd_lst pd_anil)) (pd_cons (pd_for (passes_of rfl) rfl (pd_iseq (pd_var 0)) (pd_gtup 3 rfl (pd_gcons (pd_gname 2 nd) (pd_gcons (pd_gname 3 nd) (pd_gcons (pd_gname 4 nd) pd_gnil)))) (pd_last (pd_set 1 nd (pd_add (pd_var 1) (pd_lc rfl nd (own := [("_law_at", 5)]) (blkOk_by (by rfl)) (pd_r2 (by rfl) T.b_range (pd_acons (pd_var 3) (pd_acons (pd_var 4) pd_anil))) (fun _ _ _ _ _ => (pd_gname 5 nd)) (fun _ _ _ _ _ => pd_ynil) (fun _ _ _ _ _ => (pd_tup (pd_acons (pd_var 2) (pd_acons (pd_var 5) pd_anil))))))))) (pd_last (pd_ret (pd_var 1)))))
def sp__law_coins : DSp := fun M ds Q E => w__law_coins M (rho0 6 ds) (excD E) (endD Q)
theorem law__law_coins : ∀ M ds Qd Ed, ds.length = 1 → sp__law_coins M ds Qd Ed → w__law_coins M (rho0 6 ds) (excD Ed) (endD Qd) := fun _ _ _ _ _ h => h
theorem ok__law_coins {P : Program} {w : World} {K : PySem.W.Frag} {mg : Str → Option Value} {base : Heap} (T : Tops K mg) : FnG P w K mg base 1 T.d__law_coins.f T.d__law_coins.fd ["_law_row"] (spD K 1 sp__law_coins) :=
  fnD T.d__law_coins.F sc__law_coins (fun M cd A outer s H E hG hr => c__law_coins T M hG hr) law__law_coins
def w__law_few (M : MC) : WS :=
  (wsSeq (wsSet 1 (wLst waNil)) (wsSeq (wsFor (wiSeq (wVar 0)) (wgTup 2 (wgCons (wgName 2) (wgCons (wgName 3) wgNil))) (wsIf (wAnd (wB (wOp oNe (wVar 1) (wLst waNil))) (wAnd (wB (wOp oEq (wOp oIx (wOp oIx (wVar 1) (wUn oNeg (wC (.int 1)))) (wC (.int 0))) (wVar 2))) (wB (wOp oEq (wOp oIx (wOp oIx (wVar 1) (wUn oNeg (wC (.int 1)))) (wC (.int 2))) (wVar 3))))) (wsSetI 1 (wTup (waCons (wVar 2) (waCons (wOp oIx (wOp oIx (wVar 1) (wUn oNeg (wC (.int 1)))) (wC (.int 1))) (waCons (wOp oAdd (wVar 3) (wC (.int 1))) waNil)))) (wUn oNeg (wC (.int 1)))) (wsApp 1 (wTup (waCons (wVar 2) (waCons (wVar 3) (waCons (wOp oAdd (wVar 3) (wC (.int 1))) waNil))))))) (wsRet (wVar 1))))
theorem sc__law_few : FnScope ["_law_coins_here", "_law_found", "_law_letter", "_law_at"] ["_law_coins_here"] (defScope s__law_few) := ⟨rfl, rfl, rfl, by decide +kernel, rfl, by decide +kernel, by decide +kernel⟩
theorem c__law_few {P : Program} {w : World} {K : PySem.W.Frag} {mg : Str → Option Value} {base : Heap} (T : Tops K mg) (M : MC) {cd : Value} {A : Around} {outer : List Env} {s : Shared} {H : Hp} {E : XK} (hG : A.guards = some []) (hr : Room 0 (A.deeper (envOfC "_law_few" (defScope s__law_few) s.heap.objs.size T.d__law_few.f cd))) :
    PSs (cxG P w K mg base ["_law_coins_here", "_law_found", "_law_letter", "_law_at"] "_law_few" (defScope s__law_few) T.d__law_few.f cd A outer s H E) (defBody s__law_few) (tDS K M (fun cls dd _ H => E cls dd H) (w__law_few M)) :=
  have nd := sc__law_few.nd
  (pd_cons (pd_set 1 nd (pd_lst pd_anil)) (pd_cons (pd_for (passes_of rfl) rfl (pd_iseq (pd_var 0)) (pd_gtup 2 rfl (pd_gcons (pd_gname 2 nd) (pd_gcons (pd_gname 3 nd) pd_gnil))) (pd_last (pd_ifS (pd_and (pt_ne (hr64 hr) (pd_var 1) (pd_lst pd_anil)) (pd_and (pt_eq (hr64 hr) (pd_item (pd_item (pd_var 1) (pd_neg pd_int)) pd_int) (pd_var 2)) (pd_and1 (pt_eq (hr64 hr) (pd_item (pd_item (pd_var 1) (pd_neg pd_int)) pd_int) (pd_var 3))))).pt (pd_last (pd_setI 1 (pd_tup (pd_acons (pd_var 2) (pd_acons (pd_item (pd_item (pd_var 1) (pd_neg pd_int)) pd_int) (pd_acons (pd_add (pd_var 3) pd_int) pd_anil)))) (pd_neg pd_int))) (pd_last (pd_app 1 (pd_tup (pd_acons (pd_var 2) (pd_acons (pd_var 3) (pd_acons (pd_add (pd_var 3) pd_int) pd_anil))))))))) (pd_last (pd_ret (pd_var 1)))))
def sp__law_few : DSp := fun M ds Q E => w__law_few M (rho0 4 ds) (excD E) (endD Q)
theorem law__law_few : ∀ M ds Qd Ed, ds.length = 1 → sp__law_few M ds Qd Ed → w__law_few M (rho0 4 ds) (excD Ed) (endD Qd) := fun _ _ _ _ _ h => h
theorem ok__law_few {P : Program} {w : World} {K : PySem.W.Frag} {mg : Str → Option Value} {base : Heap} (T : Tops K mg) : FnG P w K mg base 1 T.d__law_few.f T.d__law_few.fd ["_law_coins_here"] (spD K 1 sp__law_few) :=
  fnD T.d__law_few.F sc__law_few (fun M cd A outer s H E hG hr => c__law_few T M hG hr) law__law_few
end Cw

set_option Elab.async false
set_option linter.all false
/-! K13m: lots and their coins (plain). -/
namespace Cw
abbrev Lot := Int × Int × Int
abbrev Coin := Int × Int
def fewF (acc : List Lot) (l : Lot) : List Lot := match acc.getLast? with
  | some m => if m.1 = l.1 ∧ m.2.2 = l.2.1 then acc.dropLast ++ [(m.1, m.2.1, l.2.2)] else acc ++ [l]
  | none => acc ++ [l]
def few (ls : List Lot) : List Lot := ls.foldl fewF []
theorem fewF_nil (l : Lot) : fewF [] l = [l] := rfl
theorem fewF_snoc (init : List Lot) (m l : Lot) : fewF (init ++ [m]) l = if m.1 = l.1 ∧ m.2.2 = l.2.1 then init ++ [(m.1, m.2.1, l.2.2)] else init ++ [m] ++ [l] := by
  unfold fewF
  rw [List.getLast?_concat, List.dropLast_concat]
theorem fewF_len (acc : List Lot) (l : Lot) : (fewF acc l).length ≤ acc.length + 1 := by
  rcases List.eq_nil_or_concat acc with rfl | ⟨init, m, rfl⟩
  · rw [fewF_nil]; simp
  · rw [List.concat_eq_append, fewF_snoc]
    split <;> simp
theorem foldl_len (ls : List Lot) : ∀ acc : List Lot, (ls.foldl fewF acc).length ≤ acc.length + ls.length := by
  induction ls with
  | nil => intro acc; simp
  | cons l ls ih =>
    intro acc
    have h1 := ih (fewF acc l)
    have h2 := fewF_len acc l
    rw [List.foldl_cons, List.length_cons]
    omega
/-! ### coins -/
def cons (n : Nat) (c e : Int) : List Coin := (List.range n).map fun (i : Nat) => (c, e + i)
theorem cons_zero (c e : Int) : cons 0 c e = [] := rfl
theorem cons_succ (n : Nat) (c e : Int) : cons (n + 1) c e = (c, e) :: cons n c (e + 1) := by
  unfold cons
  rw [List.range_succ_eq_map, List.map_cons, List.map_map]
  congr 1
  · simp
  · apply List.map_congr_left
    intro i _
    simp only [Function.comp, Prod.mk.injEq, true_and]
    omega
def coinsL (l : Lot) : List Coin := cons (l.2.2 - l.2.1).toNat l.1 l.2.1
def coins (ls : List Lot) : List Coin := ls.flatMap coinsL
/-- a coin more -/
def fewC (acc : List Lot) (c : Coin) : List Lot := fewF acc (c.1, c.2, c.2 + 1)
theorem fewC_go (n : Nat) : ∀ (init : List Lot) (c s e : Int), (cons n c e).foldl fewC (init ++ [(c, s, e)]) = init ++ [(c, s, e + n)] := by
  induction n with
  | zero => intro init c s e; simp [cons_zero]
  | succ n ih =>
    intro init c s e
    rw [cons_succ, List.foldl_cons]
    have : fewC (init ++ [(c, s, e)]) (c, e) = init ++ [(c, s, e + 1)] := by
      unfold fewC
      rw [fewF_snoc]
      simp
    rw [this, ih]
    congr 4
    push_cast
    omega
theorem fewC_lot (acc : List Lot) (l : Lot) (h : l.2.1 < l.2.2) : (coinsL l).foldl fewC acc = fewF acc l := by
  obtain ⟨c, s, e⟩ := l
  unfold coinsL
  simp only at h ⊢
  obtain ⟨n, hn⟩ : ∃ n : Nat, (e - s).toNat = n + 1 := ⟨(e - s).toNat - 1, by omega⟩
  have he : e = s + 1 + n := by omega
  rw [hn, cons_succ, List.foldl_cons]
  rcases List.eq_nil_or_concat acc with rfl | ⟨init, m, rfl⟩
  · have := fewC_go n [] c s (s + 1)
    simp only [List.nil_append] at this
    show (cons n c (s + 1)).foldl fewC [(c, s, s + 1)] = [(c, s, e)]
    rw [this, he]
  · rw [List.concat_eq_append]
    unfold fewC
    rw [fewF_snoc, fewF_snoc]
    by_cases hm : m.1 = c ∧ m.2.2 = s
    · rw [if_pos hm, if_pos hm]
      have := fewC_go n init m.1 m.2.1 (s + 1)
      rw [hm.1] at this ⊢
      unfold fewC at this
      rw [this, he]
    · rw [if_neg hm, if_neg hm]
      have := fewC_go n (init ++ [m]) c s (s + 1)
      unfold fewC at this
      rw [this, he]
theorem few_coins (ls : List Lot) (h : ∀ l ∈ ls, l.2.1 < l.2.2) : ∀ acc : List Lot, (coins ls).foldl fewC acc = ls.foldl fewF acc := by
  induction ls with
  | nil => intro acc; rfl
  | cons l ls ih =>
    intro acc
    have e : coins (l :: ls) = coinsL l ++ coins ls := List.flatMap_cons
    rw [e, List.foldl_append, List.foldl_cons, fewC_lot acc l (h l List.mem_cons_self), ih fun m hm => h m (List.mem_cons_of_mem _ hm)]
theorem coins_append (ls ms : List Lot) : coins (ls ++ ms) = coins ls ++ coins ms := List.flatMap_append
def cnt (ls : List Lot) : Int := (ls.map fun l => l.2.2 - l.2.1).sum
theorem cons_len (n : Nat) (c e : Int) : (cons n c e).length = n := by simp [cons]
theorem cnt_coins (ls : List Lot) (h : ∀ l ∈ ls, l.2.1 < l.2.2) : cnt ls = ((coins ls).length : Int) := by
  induction ls with
  | nil => rfl
  | cons l ls ih =>
    have e : coins (l :: ls) = coinsL l ++ coins ls := List.flatMap_cons
    have h1 := h l List.mem_cons_self
    have h2 := ih fun m hm => h m (List.mem_cons_of_mem _ hm)
    rw [e, List.length_append]
    unfold cnt at h2 ⊢
    unfold coinsL
    rw [List.map_cons, List.sum_cons, cons_len, h2]
    push_cast
    omega
/-! ### a cut -/
def cutF (st : List Lot × List Lot × Int) (l : Lot) : List Lot × List Lot × Int :=
  let mid := if l.2.1 + st.2.2 < l.2.2 then l.2.1 + st.2.2 else l.2.2
  (if l.2.1 < mid then st.1 ++ [(l.1, l.2.1, mid)] else st.1, if mid < l.2.2 then st.2.1 ++ [(l.1, mid, l.2.2)] else st.2.1, st.2.2 - (mid - l.2.1))
def cutS2 (ls : List Lot) (n : Int) : List Lot × List Lot × Int := ls.foldl cutF ([], [], n)
theorem cutF_len (st : List Lot × List Lot × Int) (l : Lot) : (cutF st l).1.length ≤ st.1.length + 1 ∧ (cutF st l).2.1.length ≤ st.2.1.length + 1 := by
  unfold cutF
  constructor
  · dsimp only; split <;> first | (split <;> simp) | simp
  · dsimp only; split <;> first | (split <;> simp) | simp
theorem cut_len (ls : List Lot) : ∀ st : List Lot × List Lot × Int, (ls.foldl cutF st).1.length ≤ st.1.length + ls.length ∧ (ls.foldl cutF st).2.1.length ≤ st.2.1.length + ls.length := by
  induction ls with
  | nil => intro st; simp
  | cons l ls ih =>
    intro st
    have h1 := ih (cutF st l)
    have h2 := cutF_len st l
    rw [List.foldl_cons, List.length_cons]
    omega
theorem cons_take (n m : Nat) (c : Int) : ∀ e : Int, (cons n c e).take m = cons (min m n) c e := by
  induction n generalizing m with
  | zero => intro e; simp [cons_zero]
  | succ n ih =>
    intro e
    cases m with
    | zero => simp [cons_zero]
    | succ m => rw [cons_succ, List.take_succ_cons, ih m, Nat.succ_min_succ, cons_succ]
theorem cons_drop (n m : Nat) (c : Int) : ∀ e : Int, (cons n c e).drop m = cons (n - m) c (e + m) := by
  induction n generalizing m with
  | zero => intro e; simp [cons_zero]
  | succ n ih =>
    intro e
    cases m with
    | zero => simp
    | succ m =>
      rw [cons_succ, List.drop_succ_cons, ih m, Nat.succ_sub_succ]
      congr 1
      push_cast
      omega
theorem coins_one (l : Lot) : coins [l] = coinsL l := by simp [coins]
theorem cut_coins (ls : List Lot) : ∀ st : List Lot × List Lot × Int, (∀ l ∈ ls, l.2.1 < l.2.2) → 0 ≤ st.2.2 → coins (ls.foldl cutF st).1 = coins st.1 ++ (coins ls).take st.2.2.toNat ∧ coins (ls.foldl cutF st).2.1 = coins st.2.1 ++ (coins ls).drop st.2.2.toNat ∧
    ((∀ l ∈ st.1, l.2.1 < l.2.2) → ∀ l ∈ (ls.foldl cutF st).1, l.2.1 < l.2.2) ∧ ((∀ l ∈ st.2.1, l.2.1 < l.2.2) → ∀ l ∈ (ls.foldl cutF st).2.1, l.2.1 < l.2.2) := by
  induction ls with
  | nil => intro st _ _; simp [coins]
  | cons l ls ih =>
    intro st h h0
    obtain ⟨f, o, m⟩ := st
    obtain ⟨c, s, e⟩ := l
    have hl : s < e := h (c, s, e) List.mem_cons_self
    have h0 : 0 ≤ m := h0
    have ec : coins ((c, s, e) :: ls) = coinsL (c, s, e) ++ coins ls := List.flatMap_cons
    rw [List.foldl_cons, ec]
    have hs : ∀ l ∈ ls, l.2.1 < l.2.2 := fun q hq => h q (List.mem_cons_of_mem _ hq)
    by_cases hm : s + m < e
    · have e1 : cutF (f, o, m) (c, s, e) = (if s < s + m then f ++ [(c, s, s + m)] else f, o ++ [(c, s + m, e)], 0) := by
        unfold cutF
        simp only [if_pos hm]
        congr 2
        omega
      obtain ⟨i1, i2, i3, i4⟩ := ih (cutF (f, o, m) (c, s, e)) hs (by rw [e1]; exact Int.le_refl 0)
      rw [i1, i2]
      rw [e1] at i3 i4 ⊢
      simp only [Int.toNat_zero, List.take_zero, List.drop_zero, List.append_nil]
      have el : (coinsL (c, s, e)).length = (e - s).toNat := cons_len _ _ _
      have tk : (coinsL (c, s, e) ++ coins ls).take m.toNat = cons m.toNat c s := by
        rw [List.take_append_of_le_length (by omega)]
        unfold coinsL
        rw [cons_take]
        congr 1
        simp only
        omega
      have dp : (coinsL (c, s, e) ++ coins ls).drop m.toNat = coinsL (c, s + m, e) ++ coins ls := by
        rw [List.drop_append_of_le_length (by omega)]
        unfold coinsL
        rw [cons_drop]
        congr 2
        · simp only; omega
        · simp only; omega
      rw [tk, dp, coins_append, coins_one, List.append_assoc]
      refine ⟨?_, rfl, fun hf => i3 ?_, fun ho => i4 ?_⟩
      · by_cases hz : s < s + m
        · rw [if_pos hz, coins_append, coins_one]
          unfold coinsL
          congr 2
          simp only
          omega
        · rw [if_neg hz, show m.toNat = 0 by omega, cons_zero, List.append_nil]
      · by_cases hz : s < s + m
        · rw [if_pos hz]
          intro q hq
          rcases List.mem_append.mp hq with hq | hq
          · exact hf q hq
          · rw [List.mem_singleton.mp hq]; exact hz
        · rw [if_neg hz]; exact hf
      · intro q hq
        rcases List.mem_append.mp hq with hq | hq
        · exact ho q hq
        · rw [List.mem_singleton.mp hq]; exact hm
    · have e1 : cutF (f, o, m) (c, s, e) = (f ++ [(c, s, e)], o, m - (e - s)) := by
        unfold cutF
        simp only [if_neg hm, if_pos hl, Int.lt_irrefl, if_false]
      obtain ⟨i1, i2, i3, i4⟩ := ih (cutF (f, o, m) (c, s, e)) hs (by rw [e1]; simp only; omega)
      rw [i1, i2]
      rw [e1] at i3 i4 ⊢
      simp only
      have el : (coinsL (c, s, e)).length = (e - s).toNat := cons_len _ _ _
      have em : (m - (e - s)).toNat = m.toNat - (coinsL (c, s, e)).length := by omega
      rw [coins_append, coins_one, em, List.take_append, List.drop_append]
      rw [List.take_of_length_le (l := coinsL (c, s, e)) (by omega), List.drop_eq_nil_of_le (as := coinsL (c, s, e)) (by omega)]
      refine ⟨by rw [List.append_assoc], by simp, fun hf => i3 ?_, fun ho => i4 ho⟩
      intro q hq
      rcases List.mem_append.mp hq with hq | hq
      · exact hf q hq
      · rw [List.mem_singleton.mp hq]; exact hl
theorem cut_few (ls : List Lot) (n : Int) (h : ∀ l ∈ ls, l.2.1 < l.2.2) (h0 : 0 ≤ n) : few (cutS2 ls n).1 = ((coins ls).take n.toNat).foldl fewC [] ∧ few (cutS2 ls n).2.1 = ((coins ls).drop n.toNat).foldl fewC [] := by
  obtain ⟨c1, c2, c3, c4⟩ := cut_coins ls ([], [], n) h h0
  have d1 : coins (cutS2 ls n).1 = (coins ls).take n.toNat := c1
  have d2 : coins (cutS2 ls n).2.1 = (coins ls).drop n.toNat := c2
  refine ⟨?_, ?_⟩
  · rw [← d1]; exact (few_coins (cutS2 ls n).1 (c3 (by simp)) []).symm
  · rw [← d2]; exact (few_coins (cutS2 ls n).2.1 (c4 (by simp)) []).symm
theorem mem_cons (n : Nat) (c e x a : Int) : (x, a) ∈ cons n c e ↔ x = c ∧ e ≤ a ∧ a < e + n := by
  unfold cons
  rw [List.mem_map]
  constructor
  · rintro ⟨i, hi, h⟩
    rw [List.mem_range] at hi
    cases h
    exact ⟨rfl, by omega, by omega⟩
  · rintro ⟨rfl, h1, h2⟩
    exact ⟨(a - e).toNat, by rw [List.mem_range]; omega, by simp; omega⟩
theorem has_coins (ls : List Lot) (x a : Int) (h : ∀ l ∈ ls, l.2.1 < l.2.2) : (ls.any fun l => decide (l.1 = x) && (decide (l.2.1 ≤ a) && decide (a < l.2.2))) = decide ((x, a) ∈ coins ls) := by
  rw [Bool.eq_iff_iff, List.any_eq_true, decide_eq_true_iff]
  unfold coins
  rw [List.mem_flatMap]
  constructor
  · rintro ⟨l, hl, hb⟩
    simp only [Bool.and_eq_true, decide_eq_true_eq] at hb
    refine ⟨l, hl, ?_⟩
    unfold coinsL
    rw [mem_cons]
    have := h l hl
    exact ⟨hb.1.symm, hb.2.1, by omega⟩
  · rintro ⟨l, hl, hm⟩
    unfold coinsL at hm
    rw [mem_cons] at hm
    have := h l hl
    refine ⟨l, hl, ?_⟩
    simp only [Bool.and_eq_true, decide_eq_true_eq]
    exact ⟨hm.1.symm, hm.2.1, by omega⟩
end Cw

set_option Elab.async false
set_option linter.all false
set_option maxRecDepth 100000
set_option maxHeartbeats 4000000
namespace Cw
open PySem L2 Dl

def isFrom (d : D) (l : Int) : Bool := match d with
  | .int i => decide (l ≤ i)
  | _ => false
theorem q_is_from {M : MC} {d : D} {l : Int} {t : TN} {Q : Rs → Prop} {E : Ex → Prop} (ht : d.tn = some t) (h : Q (.val (.bl (isFrom d l)))) : sp_is_from M [d, .int l] Q E := by
  unfold sp_is_from w_is_from
  cases d <;> cases ht <;> simp_all [isFrom, TN.is]
/-- a lot -/
def lotD (l : Lot) : D := .tup [.int l.1, .int l.2.1, .int l.2.2]
def lotOk (l : Lot) : Prop := 1 ≤ l.1 ∧ 0 ≤ l.2.1 ∧ l.2.1 < l.2.2
theorem q_is_lot {M : MC} {l : Lot} {Q : Rs → Prop} {E : Ex → Prop} (ho : lotOk l) (h : Q (.val (.bl true))) : sp_is_lot M [lotD l] Q E := by
  obtain ⟨h1, h2, h3⟩ := ho
  have h4 : 1 ≤ l.2.2 := by omega
  unfold sp_is_lot w_is_lot
  simp [lotD, TN.is]
  refine fun _ _ => q_is_from rfl ?_
  simp [isFrom, h1]
  refine fun _ _ => q_is_from rfl ?_
  simp [isFrom, h2]
  refine fun _ _ => q_is_from rfl ?_
  simp [isFrom, h4, h3, h]
/-- a row of lots -/
def RowOf (d : D) (ls : List Lot) : Prop := (d = .lst (ls.map lotD) ∨ d = .tup (ls.map lotD)) ∧ (∀ l ∈ ls, lotOk l) ∧ ls.length ≤ 1000
theorem RowOf.items {d : D} {ls : List Lot} (r : RowOf d ls) : itemsD d = some (ls.map lotD) := by
  obtain ⟨rfl | rfl, _⟩ := r <;> rfl
theorem all_true {α : Type} (xs : List α) : (xs.map fun _ => true).all id = true := by simp
theorem q_are_lots {M : MC} {d : D} {ls : List Lot} {Q : Rs → Prop} {E : Ex → Prop} (r : RowOf d ls) (h : Q (.val (.bl true))) : sp_are_lots M [d] Q E := by
  obtain ⟨hd, ho, hl⟩ := r
  unfold sp_are_lots w_are_lots
  rcases hd with rfl | rfl <;>
  · simp [TN.is]
    refine lc_map (fun _ => .bl true) (by omega) (fun l hm k e hk => ?_) ?_
    · simp
      refine fun _ _ => q_is_lot (ho l hm) ?_
      simpa using hk
    · have e : ls.map (fun _ => D.bl true) = ls.map fun l => D.bl ((fun _ => true) l) := rfl
      have e2 : (ls.all fun _ => true) = true := by rw [List.all_eq_true]; exact fun _ _ => rfl
      rw [e]
      simp [asBls_of, e2, h]
theorem q_need_lots {M : MC} {d : D} {ls : List Lot} {Q : Rs → Prop} {E : Ex → Prop} (r : RowOf d ls) (h : Q (.val .non)) : sp_need_lots M [d] Q E := by
  unfold sp_need_lots w_need_lots
  simp
  refine fun _ _ => q_are_lots r ?_
  simpa using h

/-! ### fewest -/
theorem sh_lots (ls : List Lot) : Sh 64 (.lst (ls.map lotD)) := by
  refine Sh.mono (Sh.lst (n := 1) fun d hd => ?_) (by decide)
  obtain ⟨l, _, rfl⟩ := List.mem_map.mp hd
  refine Sh.tup fun e he => ?_
  simp at he
  rcases he with rfl | rfl | rfl <;> exact Sh.int
theorem ix_last {α : Type} (init : List α) (m : α) : ixN (init ++ [m]).length (-1) = some init.length := by
  unfold ixN
  rw [if_neg (by decide), if_pos (by simp; omega), List.length_append]
  congr 1
  simp
  omega
theorem set_last {α : Type} (init : List α) (m x : α) : (init ++ [m]).set init.length x = init ++ [x] := by simp
theorem lots_snoc (init : List Lot) (m : Lot) : (init ++ [m]).map lotD = init.map lotD ++ [lotD m] := by simp
theorem q_fewest {M : MC} {d : D} {ls : List Lot} {Q : Rs → Prop} {E : Ex → Prop} (hi : itemsD d = some (ls.map lotD)) (hl : ls.length ≤ 2000) (h : Q (.new (.lst ((few ls).map lotD)))) : sp_fewest M [d] Q E := by
  unfold sp_fewest w_fewest
  simp [hi]
  refine for_inv (fun done ρ => ∃ x y z, ρ = [some (.sh d), some (.ow (.lst ((done.foldl fewF []).map lotD))), x, y, z]) ⟨none, none, none, rfl⟩ ?_ ?_
  · rintro done l rest ρ k e ⟨x, y, z, rfl⟩ hk
    have hlen := foldl_len done []
    have hdl : done.length ≤ 2000 := by rw [e, List.length_append] at hl; omega
    rw [List.length_nil] at hlen
    simp only [List.foldl_append, List.foldl_cons, List.foldl_nil] at hk
    revert hk hlen
    generalize done.foldl fewF [] = acc
    intro hlen hk
    rcases List.eq_nil_or_concat acc with rfl | ⟨init, m, rfl⟩
    · simp [lotD]
      exact hk _ ⟨_, _, _, rfl⟩
    · rw [List.concat_eq_append] at hk hlen ⊢
      rw [fewF_snoc] at hk
      have hs : Sh 64 (.lst (init.map lotD ++ [.tup [.int m.1, .int m.2.1, .int m.2.2]])) := by
        have := sh_lots (init ++ [m])
        rwa [lots_snoc] at this
      rw [lots_snoc]
      have ix := ix_last (init.map lotD) (lotD m)
      simp only [List.length_append, List.length_map] at hlen
      simp [o_neL hs (by simp), lotD] at hk ix ⊢
      have l1 : init.length + 1 < 16777216 := by omega
      by_cases h1 : m.1 = l.1
      · by_cases h2 : m.2.2 = l.2.1
        · simp [h1, h2, ix, List.set_append] at hk ⊢
          exact hk _ _ _ _ rfl
        · simp [h1, h2, l1] at hk ⊢
          exact hk _ (some (.sh (.int l.1))) (some (.sh (.int l.2.1))) (some (.sh (.int l.2.2))) (by simp [lotD, h1])
      · simp [h1, l1] at hk ⊢
        exact hk _ _ _ _ rfl
  · rintro ρ ⟨x, y, z, rfl⟩
    simp
    exact .inl h

/-! ### counted, cut, holds_coin -/
theorem q_counted {M : MC} {d : D} {ls : List Lot} {Q : Rs → Prop} {E : Ex → Prop} (hi : itemsD d = some (ls.map lotD)) (hl : ls.length ≤ 2000) (h : Q (.val (.int (cnt ls)))) : sp_counted M [d] Q E := by
  unfold sp_counted w_counted
  simp [hi]
  refine lc_map (fun l => .int (l.2.2 - l.2.1)) (by omega) (fun l hm k e hk => ?_) ?_
  · simp [lotD]
    exact hk
  · simp [asInts_of]
    exact h
theorem q_holds {M : MC} {d : D} {ls : List Lot} {c a : Int} {Q : Rs → Prop} {E : Ex → Prop} (hi : itemsD d = some (ls.map lotD)) (hl : ls.length ≤ 2000) (h : Q (.val (.bl (ls.any fun l => decide (l.1 = c) && (decide (l.2.1 ≤ a) && decide (a < l.2.2)))))) : sp_holds_coin M [d, .tup [.int c, .int a]] Q E := by
  unfold sp_holds_coin w_holds_coin
  simp [hi]
  refine lc_map (fun l => .bl (decide (l.1 = c) && (decide (l.2.1 ≤ a) && decide (a < l.2.2)))) (by omega) (fun l hm k e hk => ?_) ?_
  · simp [lotD]
    by_cases h1 : l.1 = c
    · by_cases h2 : l.2.1 ≤ a
      · simpa [h1, h2] using hk
      · simpa [h1, h2] using hk
    · simpa [h1] using hk
  · simp [asBls_of]
    simpa using h
theorem q_cut {M : MC} {d : D} {ls : List Lot} {n : Int} {Q : Rs → Prop} {E : Ex → Prop} (hi : itemsD d = some (ls.map lotD)) (hl : ls.length ≤ 2000)
    (h : Q (.val (.tup [.lst ((few (cutS2 ls n).1).map lotD), .lst ((few (cutS2 ls n).2.1).map lotD)]))) : sp_cut M [d, .int n] Q E := by
  unfold sp_cut w_cut
  simp [hi]
  refine for_inv (fun done ρ => ∃ x y z u, ρ = [some (.sh d), some (.sh (.int n)), some (.ow (.lst ((cutS2 done n).1.map lotD))), some (.ow (.lst ((cutS2 done n).2.1.map lotD))), some (.sh (.int (cutS2 done n).2.2)), x, y, z, u]) ⟨none, none, none, none, rfl⟩ ?_ ?_
  · rintro done l rest ρ k e ⟨x, y, z, u, rfl⟩ hk
    have hlen := cut_len done ([], [], n)
    have hdl : done.length ≤ 2000 := by rw [e, List.length_append] at hl; omega
    have e2 : cutS2 (done ++ [l]) n = cutF (cutS2 done n) l := by unfold cutS2; rw [List.foldl_append]; rfl
    rw [e2] at hk
    change (cutS2 done n).1.length ≤ _ ∧ (cutS2 done n).2.1.length ≤ _ at hlen
    revert hk hlen
    generalize cutS2 done n = st
    obtain ⟨s1, s2, s3⟩ := st
    intro hk hlen
    simp at hlen
    have l1 : s1.length < 16777216 := by omega
    have l2 : s2.length < 16777216 := by omega
    unfold cutF at hk
    simp [lotD] at hk ⊢
    generalize (if l.2.1 + s3 < l.2.2 then l.2.1 + s3 else l.2.2) = mid at hk ⊢
    by_cases h1 : l.2.1 < mid
    · by_cases h2 : mid < l.2.2
      · simp [h1, h2, l1, l2] at hk ⊢
        exact hk _ _ _ _ _ rfl
      · simp [h1, h2, l1] at hk ⊢
        exact hk _ _ _ _ _ rfl
    · by_cases h2 : mid < l.2.2
      · simp [h1, h2, l2] at hk ⊢
        exact hk _ _ _ _ _ rfl
      · simp [h1, h2] at hk ⊢
        exact hk _ _ _ _ _ rfl
  · rintro ρ ⟨x, y, z, u, rfl⟩
    have hlen := cut_len ls ([], [], n)
    change (cutS2 ls n).1.length ≤ _ ∧ (cutS2 ls n).2.1.length ≤ _ at hlen
    simp at hlen
    simp
    refine fun _ _ => q_fewest rfl (by omega) ?_
    simp
    refine fun _ _ => q_fewest rfl (by omega) ?_
    simp
    exact h

/-! ### the four -/
theorem q_how_many {M : MC} {d : D} {ls : List Lot} {Q : Rs → Prop} {E : Ex → Prop} (r : RowOf d ls) (h : Q (.val (.int (cnt ls)))) : sp_how_many M [d] Q E := by
  have hl := r.2.2
  unfold sp_how_many w_how_many
  simp
  refine fun _ _ => q_need_lots r ?_
  simp
  refine fun _ _ => q_counted r.items (by omega) ?_
  simpa using h
theorem q_joined {M : MC} {d e : D} {ls ms : List Lot} {Q : Rs → Prop} {E : Ex → Prop} (r : RowOf d ls) (r2 : RowOf e ms) (h : Q (.new (.lst ((few (ls ++ ms)).map lotD)))) : sp_joined M [d, e] Q E := by
  have hl := r.2.2
  have hm := r2.2.2
  have l1 : ls.length + ms.length ≤ 16777216 := by omega
  unfold sp_joined w_joined
  simp
  refine fun _ _ => q_need_lots r ?_
  simp
  refine fun _ _ => q_need_lots r2 ?_
  obtain ⟨rfl | rfl, _⟩ := r <;> obtain ⟨rfl | rfl, _⟩ := r2 <;>
  · simp [l1]
    refine fun _ _ => q_fewest (ls := ls ++ ms) (by simp) (by simp; omega) ?_
    simp
    exact .inl h
theorem q_parted {M : MC} {d : D} {ls : List Lot} {n : Int} {Q : Rs → Prop} {E : Ex → Prop} (r : RowOf d ls) (h0 : 0 ≤ n) (hn : n ≤ cnt ls) (h : Q (.val (.tup [.lst ((few (cutS2 ls n).1).map lotD), .lst ((few (cutS2 ls n).2.1).map lotD)]))) : sp_parted M [d, .int n] Q E := by
  have hl := r.2.2
  have h1 : ¬ cnt ls < n := by omega
  unfold sp_parted w_parted
  simp
  refine fun _ _ => q_need_lots r ?_
  simp
  refine fun _ _ => q_is_from rfl ?_
  simp [isFrom, h0]
  refine fun _ _ => q_counted r.items (by omega) ?_
  simp [h1]
  refine fun _ _ => q_cut r.items (by omega) ?_
  simpa using h
theorem q_is_coin {M : MC} {c a : Int} {Q : Rs → Prop} {E : Ex → Prop} (hc : 1 ≤ c) (ha : 0 ≤ a) (h : Q (.val (.bl true))) : sp_is_coin M [.tup [.int c, .int a]] Q E := by
  unfold sp_is_coin w_is_coin
  simp [TN.is]
  refine fun _ _ => q_is_from rfl ?_
  simp [isFrom, hc]
  refine fun _ _ => q_is_from rfl ?_
  simp [isFrom, ha, h]
theorem q_has {M : MC} {d : D} {ls : List Lot} {c a : Int} {Q : Rs → Prop} {E : Ex → Prop} (r : RowOf d ls) (hc : 1 ≤ c) (ha : 0 ≤ a) (h : Q (.val (.bl (ls.any fun l => decide (l.1 = c) && (decide (l.2.1 ≤ a) && decide (a < l.2.2)))))) : sp_has M [d, .tup [.int c, .int a]] Q E := by
  have hl := r.2.2
  unfold sp_has w_has
  simp
  refine fun _ _ => q_need_lots r ?_
  simp
  refine fun _ _ => q_is_coin hc ha ?_
  simp
  refine fun _ _ => q_holds r.items (by omega) ?_
  simpa using h
end Cw

set_option Elab.async false
set_option linter.all false
set_option maxRecDepth 100000
set_option maxHeartbeats 4000000
namespace Cw
open PySem L2 Dl
open PyProof.Rows (envOfC)

/-- the row that is drawn from: its cells, its place, the number in hand, the great ones -/
def DrawI (L c g : Addr) (H : Hp) : Prop := ∃ (cells : List Int) (at_ cur : Int) (great : List Int), H L = some (.lst [.ref c, .int at_, .int cur, .ref g]) ∧ H c = some (.lst (cells.map V.int)) ∧ cells ≠ [] ∧ cells.length ≤ 1000 ∧ H g = some (.lst (great.map V.int)) ∧ great.length ≤ 1000
def DrawS (L c g : Addr) (a : Addr) : Prop := a = L ∨ a = c ∨ a = g
def DrawSt (L : Addr) (S : Addr → Prop) (I : Hp → Prop) : Prop := ∃ c g, c ≠ L ∧ g ≠ L ∧ c ≠ g ∧ S = DrawS L c g ∧ I = DrawI L c g
def Draw (M : MC) (L : Addr) : Prop := ∃ S I, DrawSt L S I ∧ HidAt M S I
theorem Draw.ext {M M' : MC} {L : Addr} (d : Draw M L) (m : Mext M M') : Draw M' L := let ⟨S, I, h1, h2⟩ := d; ⟨S, I, h1, h2.ext m⟩
theorem draw_ok (L c g : Addr) : StOk (DrawS L c g) (DrawI L c g) := by
  refine ⟨fun H H' e ⟨cells, a1, a2, great, h1, h2, h3⟩ => ⟨cells, a1, a2, great, (e L (.inl rfl)).trans h1, (e c (.inr (.inl rfl))).trans h2, h3.1, h3.2.1, (e g (.inr (.inr rfl))).trans h3.2.2.1, h3.2.2.2⟩, ?_⟩
  rintro H a ⟨cells, a1, a2, great, h1, h2, h3⟩ (rfl | rfl | rfl)
  · rw [h1]; exact nofun
  · rw [h2]; exact nofun
  · rw [h3.2.2.1]; exact nofun
theorem q_mixed {M : MC} {i j : Int} {Q : Rs → Prop} {E : Ex → Prop} (h : ∀ r, Q (.val (.int r))) : sp__law_mixed M [.int i, .int j] Q E := by
  unfold sp__law_mixed w__law_mixed
  simp
  obtain ⟨p, hp, hp1, hp2⟩ : ∃ p : Int, atI [D.int 2147483629, D.int 2147483587, D.int 2147483579, D.int 2147483563, D.int 2147483549] (j % 5) = some (.int p) ∧ 0 < p ∧ p < 4294967296 := by
    have : j % 5 = 0 ∨ j % 5 = 1 ∨ j % 5 = 2 ∨ j % 5 = 3 ∨ j % 5 = 4 := by omega
    rcases this with e | e | e | e | e <;> rw [e] <;> exact ⟨_, rfl, by decide, by decide⟩
  refine ⟨(by decide : (0 : Int) < 5), ?_⟩
  simp [hp]
  have m0 := Int.emod_nonneg (i + 7919 * j + 104729) (Int.ne_of_gt hp1)
  have m1 := Int.emod_lt_of_pos (i + 7919 * j + 104729) hp1
  refine ⟨.inl (.inl (by decide)), hp1, ⟨by decide, by decide, by omega⟩, hp1, .inl (.inl (by decide)), .inl (.inl ?_), hp1, h _⟩
  have z0 := Int.emod_nonneg (((i + 7919 * j + 104729) % p) ^ 5) (Int.ne_of_gt hp1)
  have z1 := Int.emod_lt_of_pos (((i + 7919 * j + 104729) % p) ^ 5) hp1
  exact ⟨by omega, by omega⟩

theorem next_spec {K : PySem.W.Frag} {M : MC} {L : Addr} (d : Draw M L) {H : Hp} (mi : M.MI H) : ∃ c g, c ≠ L ∧ g ≠ L ∧ c ≠ g ∧ DrawI L c g H ∧ HidAt M (DrawS L c g) (DrawI L c g) := by
  obtain ⟨S, I, ⟨c, g, h1, h2, h3, rfl, rfl⟩, h⟩ := d
  exact ⟨c, g, h1, h2, h3, h.get H mi, h⟩
def sp__law_next : DSp := fun M ds Q E => ∃ L n, ds = [.ref L, .int n] ∧ Draw M L ∧ 0 < n ∧ n.natAbs.log2 < 9000 ∧ ∀ r, 0 ≤ r → r < n → Q (.val (.int r))
theorem dp_ints {K : PySem.W.Frag} {H : Hp} : ∀ ns : List Int, DpAll K H (ns.map V.int) (ns.map PyData.int)
  | [] => .nil
  | n :: ns => .cons (.int n) (dp_ints ns)
theorem lay_ints : ∀ ns : List Int, PyData.canLayAll0 (ns.map PyData.int) = true ∧ PyData.depthAll (ns.map PyData.int) = 0
  | [] => ⟨rfl, rfl⟩
  | n :: ns => by
    obtain ⟨h1, h2⟩ := lay_ints ns
    refine ⟨?_, ?_⟩
    · simp only [List.map_cons, PyData.canLayAll0, PyData.canLay0, h1, Bool.and_self]
    · simp only [List.map_cons, PyData.depthAll, PyData.depth, h2]; rfl
theorem shaped_ints (ns : List Int) : SeqAt.shaped (.list (ns.map PyData.int)) = true := by
  obtain ⟨h1, h2⟩ := lay_ints ns
  simp only [SeqAt.shaped, PyData.canLay0, PyData.depth, h1, h2]; rfl
theorem keeps_new {M : MC} {H H1 : Hp} {p : Addr} {o : HO} (k : Keeps M H H1) (hp : H1 p = none) : Keeps M H (upd H1 p o) := by
  refine ⟨fun a u n e => ?_, M.loc H1 _ (fun a z => upd_ne fun e => M.al H1 a k.2 z (e ▸ hp)) k.2⟩
  have := k.1 a u n e
  rw [upd_ne (ne_of_none this hp)]; exact this
theorem keeps_put {M : MC} {S : Addr → Prop} {I : Hp → Prop} {H H1 : Hp} {p : Addr} {o : HO} (h : HidAt M S I) (k : Keeps M H H1) (hp : S p) (i : I (upd H1 p o)) : Keeps M H (upd H1 p o) :=
  ⟨fun a u n e => by
    have na : a ≠ p := fun q => n (h.sub a (q.symm ▸ hp))
    rw [upd_ne na]; exact k.1 a u n e, h.put H1 _ k.2 (fun a _ n => upd_ne fun (q : a = p) => n (q.symm ▸ hp)) i⟩
theorem keeps_trans {M : MC} {H H1 H2 : Hp} (a : Keeps M H H1) (b : Keeps M H1 H2) : Keeps M H H2 := ⟨fun x o n e => b.1 x o n (a.1 x o n e), b.2⟩
theorem len_next (N : List Str) : True := trivial
theorem ok__law_next {P : Program} {w : World} {K : PySem.W.Frag} {mg : Str → Option Value} {base : Heap} (T : Tops K mg) : FnG P w K mg base 2 T.d__law_next.f T.d__law_next.fd ["_law_draw_here", "_law_many"] (spD K 2 sp__law_next) := by
  have sc : FnScope ["_law_draw_here", "_law_many", "_law_found", "_law_cell"] ["_law_draw_here", "_law_many"] (defScope s__law_next) := ⟨rfl, rfl, rfl, by decide +kernel, rfl, by decide +kernel, by decide +kernel⟩
  refine fnG_of T.d__law_next.F sc (fun vs H Q E ⟨M, ds, Qd, Ed, _, h, hl, _⟩ => h.length.trans hl) fun cd A outer s H vs Q E hG hr ⟨M, ds, Qd, Ed, mi, hd, hl, ⟨L, n, e, dr, n0, nw, hq⟩, k1, k2⟩ => ?_
  subst e
  have nd := sc.nd
  have hu := hr64 hr
  obtain rfl : vs = [.ref L, .int n] := by
    cases hd with
    | cons a t => cases t with
      | cons b t => cases a; cases b; cases t; rfl
  have fin : ∀ r H', Keeps M H H' → 0 ≤ r → r < n → Q (.int r) H' := fun r H' k h0 h1 => k1 _ H' (.val (.int r)) k (.int r) (hq r h0 h1)
  have ne4 : ∀ (xs : List Int), (V.ref L :: xs.map V.int) ≠ xs.map V.int := fun xs z => by
    have := congrArg List.length z
    simp at this
  have mc : ∀ (i j : Int) (H2 : Hp) (Q' : VK) (E' : XK), Keeps M H H2 → (∀ r H3, Keeps M H H3 → Q' (.int r) H3) → spD K 2 sp__law_mixed (pick [0, 1] ([V.int i, V.int j] ++ [])) H2 Q' E' := fun i j H2 Q' E' kp q =>
    ⟨M, [.int i, .int j], _, fun _ => False, kp.2, .cons (.int i) (.cons (.int j) .nil), rfl, q_mixed (Q := fun r => ∃ z, r = .val (.int z)) (fun r => ⟨r, rfl⟩), fun v H3 r k3 ra ⟨z, e⟩ => by
      subst e
      cases (show DAt K M.O H3 v (.int z) from ra)
      exact q z H3 (keeps_trans kp k3), fun _ _ _ _ _ _ z => z.elim⟩
  -- the last part: a mixed number
  obtain ⟨t3, h3, r3⟩ : ∃ t3, PSs (cxG P w K mg base ["_law_draw_here", "_law_many", "_law_found", "_law_cell"] "_law_next" (defScope s__law_next) T.d__law_next.f cd A outer s H E) ((defBody s__law_next).drop 2) t3 ∧
      ∀ H1, Keeps M H H1 → t3 { nx := fun _ H1 => Q .non H1, rt := Q } [some (.ref L), some (.int n), none, none] H1 := by
    refine ⟨_, pss_cons (ps_asg (pe_op op_add (pe_ix ix_seq (pv 0) pe_int (fun _ _ => rfl)) pe_int) (pg_sub (pv 0) pe_int set_list))
      (pss_cons (ps_set (i := 3) nd rfl (Or.inl rfl) (pe_ix ix_seq (pe_ix ix_seq (pv 0) pe_int (fun _ _ => rfl)) (pe_op op_mod (pe_ix ix_seq (pv 0) pe_int (fun _ _ => rfl)) (pe_callB call_len (by rfl) T.b_len (by decide +kernel) (pa_cons (pe_ix ix_seq (pv 0) pe_int (fun _ _ => rfl)) pa_nil))) (fun _ _ => rfl)))
      (pss_one (ps_ret (pe_op op_mod (pe_op op_fdivW (pe_op op_add (pe_op op_mul (pe_callG (ok__law_mixed T) hG (hr.mono (by decide)) tdX (kb__law_mixed_2_ T) T.d__law_mixed.F.kp T.d__law_mixed.m (by rfl) (pa_cons (pv 3) (pa_cons (pe_ix ix_seq (pv 0) pe_int (fun _ _ => rfl)) pa_nil)) pk_nil) pe_int)
        (pe_callG (ok__law_mixed T) hG (hr.mono (by decide)) tdX (kb__law_mixed_2_ T) T.d__law_mixed.F.kp T.d__law_mixed.m (by rfl) (pa_cons (pv 3) (pa_cons (pe_op op_add (pe_ix ix_seq (pv 0) pe_int (fun _ _ => rfl)) pe_int) pa_nil)) pk_nil)) pe_int) (pv 1))))), fun H1 kp => ?_⟩
    obtain ⟨c, g, n1, n2, n3, ⟨cells, at_, cur, great, e1, e2, e3, e4, e5, e6⟩, hh⟩ := next_spec (K := K) dr kp.2
    refine rd_ix rfl e1 (at_1 (a := V.ref c)) ⟨_, _, rfl, rfl, _, rfl, ?_⟩
    refine ⟨_, _, 1, 1, rfl, rfl, e1, rfl, ?_⟩
    -- behind the store
    have kp2 := keeps_put (p := L) (o := .lst [.ref c, .int (at_ + 1), .int cur, .ref g]) hh kp (.inl rfl) ⟨cells, at_ + 1, cur, great, upd_same, by rw [upd_ne n1]; exact e2, e3, e4, by rw [upd_ne n2]; exact e5, e6⟩
    have f1 : upd H1 L (.lst [.ref c, .int (at_ + 1), .int cur, .ref g]) L = some (.lst [.ref c, .int (at_ + 1), .int cur, .ref g]) := upd_same
    have f2 : upd H1 L (.lst [.ref c, .int (at_ + 1), .int cur, .ref g]) c = some (.lst (cells.map V.int)) := by rw [upd_ne n1]; exact e2
    have hc0 : 0 < cells.length := by
      cases cells with
      | nil => exact absurd rfl e3
      | cons a l => simp
    have hm0 := Int.emod_nonneg (at_ + 1) (show ((cells.map V.int).length : Int) ≠ 0 by rw [List.length_map]; omega)
    have hm1 := Int.emod_lt_of_pos (at_ + 1) (show 0 < ((cells.map V.int).length : Int) by rw [List.length_map]; omega)
    obtain ⟨z, hz⟩ : ∃ z, atI (cells.map V.int) ((at_ + 1) % ((cells.map V.int).length : Int)) = some (V.int z) := by
      generalize (at_ + 1) % ((cells.map V.int).length : Int) = m at hm0 hm1
      rw [List.length_map] at hm1
      refine ⟨cells[m.toNat]'(by omega), ?_⟩
      unfold atI ixN
      rw [if_pos hm0, if_pos (by rw [List.length_map]; exact hm1)]
      simp [show m.toNat < cells.length by omega]
    refine rd_ix rfl f1 (at_0 (a := V.ref c)) (rd_ix rfl f1 (at_1 (a := V.ref c)) (rd_ix rfl f1 (at_0 (a := V.ref c)) ⟨V.ref c, (cells.map V.int).length, rfl, .inl ⟨_, SqL.of f2, rfl⟩, ⟨_, _, rfl, rfl, by rw [List.length_map]; omega, .inl ⟨c, _, _, _, rfl, rfl, SqL.of f2, hz, ?_⟩⟩⟩))
    refine ⟨_, rfl, rd_ix rfl f1 (at_1 (a := V.ref c)) ⟨rfl, rfl, mc _ _ _ _ _ kp2 fun r1 H3 kp3 => ?_⟩⟩
    refine ⟨_, _, rfl, rfl, .inr ⟨by decide, by decide⟩, ?_⟩
    obtain ⟨c', g', m1, m2, m3, ⟨cells', at', cur', great', d1, d2, d3, d4, d5, d6⟩, hh'⟩ := next_spec (K := K) dr kp3.2
    refine ⟨_, rfl, rd_ix rfl d1 (at_1 (a := V.ref c')) ⟨_, _, rfl, rfl, ⟨rfl, rfl, mc _ _ _ _ _ kp3 fun r2 H4 kp4 => ?_⟩⟩⟩
    refine ⟨_, _, rfl, rfl, _, _, rfl, rfl, ⟨by decide, by decide⟩, _, rfl, _, _, rfl, rfl, n0, ?_⟩
    exact fin _ H4 kp4 (Int.emod_nonneg _ (by omega)) (Int.emod_lt_of_pos _ n0)
  -- the number in hand
  obtain ⟨t2, h2, r2⟩ : ∃ t2, PSs (cxG P w K mg base ["_law_draw_here", "_law_many", "_law_found", "_law_cell"] "_law_next" (defScope s__law_next) T.d__law_next.f cd A outer s H E) ((defBody s__law_next).drop 1) t2 ∧
      ∀ H1, Keeps M H H1 → t2 { nx := fun _ H1 => Q .non H1, rt := Q } [some (.ref L), some (.int n), none, none] H1 := by
    refine ⟨_, pss_cons (ps_if (pt_cmpR op_gt (pe_ix ix_seq (pv 0) pe_int (fun _ _ => rfl)) pe_int (nobehind _ (by decide) (by decide)))
      (pss_cons (ps_set (i := 2) nd rfl (Or.inl rfl) (pe_op op_mod (pe_ix ix_seq (pv 0) pe_int (fun _ _ => rfl)) (pv 1)))
        (pss_cons (ps_asg (pe_op op_fdivW (pe_ix ix_seq (pv 0) pe_int (fun _ _ => rfl)) (pv 1)) (pg_sub (pv 0) pe_int set_list)) (pss_one (ps_ret (pv 2))))) pss_nil) h3, fun H1 kp => ?_⟩
    obtain ⟨c, g, n1, n2, n3, ⟨cells, at_, cur, great, e1, e2, e3, e4, e5, e6⟩, hh⟩ := next_spec (K := K) dr kp.2
    refine rd_ix rfl e1 (at_2 (a := V.ref c)) ⟨_, _, rfl, rfl, _, rfl, ?_⟩
    show (if decide ((0 : Int) < cur) = true then _ else _)
    by_cases hc : (0 : Int) < cur
    · rw [if_pos (decide_eq_true hc)]
      refine rd_ix rfl e1 (at_2 (a := V.ref c)) ⟨_, rfl, _, _, rfl, rfl, n0, ?_⟩
      refine rd_ix rfl e1 (at_2 (a := V.ref c)) ⟨_, rfl, _, _, rfl, rfl, ⟨n0, nw⟩, _, rfl, L, _, 2, 2, rfl, rfl, e1, rfl, ?_⟩
      have kp2 := keeps_put (p := L) (o := .lst [.ref c, .int at_, .int (cur / n), .ref g]) hh kp (.inl rfl) ⟨cells, at_, cur / n, great, upd_same, by rw [upd_ne n1]; exact e2, e3, e4, by rw [upd_ne n2]; exact e5, e6⟩
      exact ⟨_, rfl, fin _ _ kp2 (Int.emod_nonneg _ (by omega)) (Int.emod_lt_of_pos _ n0)⟩
    · rw [if_neg (by rw [decide_eq_false hc]; exact Bool.false_ne_true)]
      exact r3 H1 kp
  -- a great one comes into hand
  refine ⟨_, pss_cons (ps_if (pw_and (pt_cmpR op_eq (pe_ix ix_seq (pv 0) pe_int (fun _ _ => rfl)) pe_int (nobehind _ (by decide) (by decide))) (pw_and1 (pt_cmpR (op_neD hu) (pe_ix ix_seq (pv 0) pe_int (fun _ _ => rfl)) (pe_lst pa_nil) (nobehind _ (by decide) (by decide))))).pt
      (pss_one (ps_asg (pe_bm (T := "list") (id := "list.pop") PySem.F.plainAttrs_list PySem.F.slot_list_pop PySem.F.type_list_pop mt_popAt (pe_ix ix_seq (pv 0) pe_int (fun _ _ => rfl)) (pa_cons pe_int pa_nil)) (pg_sub (pv 0) pe_int set_list))) pss_nil) h2, ?_⟩
  have kp : Keeps M H H := ⟨fun _ _ _ e => e, mi⟩
  obtain ⟨c, g, n1, n2, n3, ⟨cells, at_, cur, great, e1, e2, e3, e4, e5, e6⟩, hh⟩ := next_spec (K := K) dr mi
  refine rd_ix rfl e1 (at_2 (a := V.ref c)) ⟨rfl, _, rfl, ?_⟩
  show (if decide (V.int cur = V.int 0) = true then _ else _)
  by_cases hc : (V.int cur = V.int 0)
  · rw [if_pos (decide_eq_true hc)]
    refine rd_ix rfl e1 (at_3 (a := V.ref c)) ⟨Nat.zero_le _, fun p hp => ?_⟩
    have kp1 : Keeps M H (upd H p (.lst [])) := keeps_new kp hp
    have pL : L ≠ p := ne_of_none e1 hp
    have pc : c ≠ p := ne_of_none e2 hp
    have pg : g ≠ p := ne_of_none e5 hp
    have u1 : upd H p (.lst []) L = some (.lst [.ref c, .int at_, .int cur, .ref g]) := by rw [upd_ne pL]; exact e1
    have u2 : upd H p (.lst []) c = some (.lst (cells.map V.int)) := by rw [upd_ne pc]; exact e2
    have u5 : upd H p (.lst []) g = some (.lst (great.map V.int)) := by rw [upd_ne pg]; exact e5
    refine ⟨.list (great.map .int), .list [], .lst (SqL.of u5) (dp_ints great), .lst (SqL.of upd_same) .nil, shaped_ints great, rfl, _, rfl, ?_⟩
    cases great with
    | nil => exact r2 _ kp1
    | cons z zs =>
      show (if true = true then _ else _)
      rw [if_pos rfl]
      refine rd_ix rfl u1 (at_3 (a := V.ref c)) ⟨.inl ⟨rfl, _, SqL.of u5⟩, g, _, 0, 0, .int z, rfl, rfl, u5, by decide, by decide, (ixN_seq (j := 0) (by unfold ixN; rw [if_pos (by decide), if_pos (by rw [List.map_cons, List.length_cons]; omega)]; rfl)).1, rfl, ?_⟩
      have kp2 := keeps_put (p := g) (o := .lst (zs.map V.int)) hh kp1 (.inr (.inr rfl)) ⟨cells, at_, cur, zs, by rw [upd_ne n2.symm]; exact u1, by rw [upd_ne n3]; exact u2, e3, e4, upd_same, by rw [List.length_cons] at e6; omega⟩
      have w1 : upd (upd H p (.lst [])) g (.lst (zs.map V.int)) L = some (.lst [.ref c, .int at_, .int cur, .ref g]) := by rw [upd_ne n2.symm]; exact u1
      have w2 : upd (upd H p (.lst [])) g (.lst (zs.map V.int)) c = some (.lst (cells.map V.int)) := by rw [upd_ne n3]; exact u2
      refine ⟨_, rfl, L, _, 2, 2, rfl, rfl, w1, rfl, ?_⟩
      exact r2 _ (keeps_put (p := L) (o := .lst [.ref c, .int at_, .int z, .ref g]) hh kp2 (.inl rfl) ⟨cells, at_, z, zs, upd_same, by rw [upd_ne n1]; exact w2, e3, e4, by rw [upd_ne n2]; exact upd_same, by rw [List.length_cons] at e6; omega⟩)
  · rw [if_neg (by rw [decide_eq_false hc]; exact Bool.false_ne_true)]
    exact r2 H kp
end Cw

set_option Elab.async false
set_option linter.all false
set_option maxRecDepth 100000
set_option maxHeartbeats 4000000
namespace Cw
open PySem L2 Dl
open PyProof.Rows (envOfC)

def pre__law_draw (ds : List D) : Prop := ∃ (ns : List Int) (k : Nat), ds = [.fls (ns.map D.int), .int (k : Int)] ∧ k ≤ 100 ∧ ns.length ≤ 63 ∧ (ns ≠ [] → k < ns.length)
theorem sh_ints (ns : List Int) : Sh 64 (.fls (ns.map D.int)) := by
  refine Sh.mono (Sh.fls (n := 0) fun d hd => ?_) (by decide)
  obtain ⟨l, _, rfl⟩ := List.mem_map.mp hd
  exact Sh.int
theorem draw_cells {ns : List Int} {k : Nat} {X : XD} {E : ED} (hl : ns.length ≤ 63) (hk : ns ≠ [] → k < ns.length) (h : ∀ cells : List Int, cells ≠ [] → cells.length ≤ 63 → E.nx [some (.sh (.fls (ns.map D.int))), some (.sh (.int (k : Int))), some (.ow (.lst (cells.map D.int))), none]) :
    (wsSet 2 (wIf (wB (wOp oNe (wVar 0) (wLst waNil))) (wSl (wVar 0) (woSome (wVar 1)) (woSome (wOp oAdd (wVar 1) (wC (.int 9))))) (wLst (waCons (wC (.int 0)) waNil)))) [some (.sh (.fls (ns.map D.int))), some (.sh (.int (k : Int))), none, none] X E := by
  simp [o_neF (sh_ints ns)]
  cases ns with
  | nil =>
    simp
    exact h [0] (by simp) (by simp)
  | cons n ns =>
    have hk' := hk (by simp)
    simp only [List.isEmpty_cons]
    simp [-List.map_cons, cutD_map]
    have e1 : HT.sIx (n :: ns).length 0 (some (k : Int)) = k := by rw [HT.sIx_nat]; omega
    have e2 : HT.sIx (n :: ns).length (n :: ns).length (some ((k : Int) + 9)) = min (k + 9) (n :: ns).length := HT.sIx_nat _ _ (k + 9)
    simp only [List.length_cons] at e1 e2 hk' hl
    rw [e1, e2, ← List.map_drop, ← List.map_take]
    refine h _ (fun z => ?_) ?_
    · have := congrArg List.length z
      simp only [List.length_take, List.length_drop, List.length_cons, List.length_nil] at this
      omega
    · simp only [List.length_take, List.length_drop, List.length_cons]
      omega

/-- the hidden objects, as they are -/
def mcFix (M : MC) (H : Hp) (mi : M.MI H) : MC where
  O := M.O
  MI := fun H' => ∀ a, M.O a → H' a = H a
  loc := fun H1 H2 e h a z => (e a z).trans (h a z)
  al := fun H1 a h z => by rw [h a z]; exact M.al H a mi z
theorem ok__law_draw {P : Program} {w : World} {K : PySem.W.Frag} {mg : Str → Option Value} {base : Heap} (T : Tops K mg) : FnG P w K mg base 1 T.d__law_draw.f T.d__law_draw.fd ["_law_script", "_law_k"] (spNew K 2 pre__law_draw DrawSt) := by
  have sc : FnScope ["_law_script", "_law_k", "_law_cells", "_law_cell"] ["_law_script", "_law_k"] (defScope s__law_draw) := ⟨rfl, rfl, rfl, by decide +kernel, rfl, by decide +kernel, by decide +kernel⟩
  refine fnG_of T.d__law_draw.F sc (fun vs H Q E ⟨M, ds, _, h, hl, _⟩ => h.length.trans hl) fun cd A outer s H vs Q E hG hr ⟨M, ds, mi, hd, hl, ⟨ns, k, e, hk, hn, hkn⟩, q⟩ => ?_
  subst e
  have nd := sc.nd
  refine ⟨_, pss_cons (pd_set (M := mcFix M H mi) (E := fun cls dd _ H => E cls dd H) 2 nd (pd_if (pt_ne (hr64 hr) (pd_var 0) (pd_lst pd_anil)) (pd_slice (pd_var 0) (pd_osome (pd_var 1)) (pd_osome (pd_add (pd_var 1) pd_int))) (pd_lst (pd_acons pd_int pd_anil))))
    (pss_one (ps_ret (pe_lst (pa_cons (pv 2) (pa_cons (pe_op op_mul pe_int (pv 1)) (pa_cons pe_int (pa_cons (pe_lc (own := [("_law_cell", 3)]) rfl nd (pi_list (pv 2)) (blkOk_by (by rfl)) (fun _ _ _ _ _ => pg_name (i := 3) nd rfl (Or.inl rfl))
      (fun _ _ _ _ _ => pts_one (pt_cmpR op_ge (pv 3) (pe_op op_pow pe_int pe_int) (nobehind _ (by decide) (by decide)))) (fun _ _ _ _ _ => pv 3)) pa_nil))))))), ?_⟩
  refine ⟨⟨H, [], []⟩, fun _ => none, _, fun _ _ => False, ⟨fun ρ => ∃ cells : List Int, cells ≠ [] ∧ cells.length ≤ 63 ∧ ρ = [some (.sh (.fls (ns.map D.int))), some (.sh (.int (k : Int))), some (.ow (.lst (cells.map D.int))), none], fun _ => False, fun _ => False, fun _ => False⟩, Rel.start (fun _ _ => rfl) hd (Nat.le_add_left 2 2), fun _ _ _ _ _ _ _ _ _ z => z.elim, draw_cells hn hkn fun cells h1 h2 => ⟨cells, h1, h2, rfl⟩, fun om ρ σ H1 R ⟨cells, c1, c2, e⟩ => ?_, fun _ _ _ _ _ _ _ _ z => z.elim, fun _ _ _ _ _ z => z.elim, fun _ _ _ _ _ z => z.elim⟩
  subst e
  obtain ⟨c, xs, o1, o2, o3, o4⟩ := R.ownL (i := 2) rfl
  obtain rfl := o4.ints
  obtain ⟨v1, s1, d1⟩ := R.slot 1 (.sh (.int (k : Int))) rfl
  cases d1
  obtain ⟨hc0, hcM, _, _⟩ := R.own 2 c o1
  have grow : ∀ b o, H b = some o → H1 b = some o := fun b o e => by
    by_cases z : M.O b
    · rw [R.mi b z]; exact e
    · exact R.base b o z e
  refine ⟨_, o2, _, s1, _, _, rfl, rfl, .inl ⟨by decide, by decide⟩, _, o2, c, rfl, ⟨_, SqL.of o3⟩, fun g hg => ?_⟩
  have ncg : c ≠ g := ne_of_none o3 hg
  refine lc_list (K := K) (a := c) (xs := cells.map V.int) (fun i H2 => (∀ b o, b ≠ g → H1 b = some o → H2 b = some o) ∧ ∃ great : List Int, great.length ≤ i ∧ H2 g = some (.lst (great.map V.int)))
    ⟨fun b o ne e => by rw [upd_ne ne]; exact e, [], Nat.le_refl _, upd_same⟩ (fun i H2 _ h => SqL.of (h.1 c _ ncg o3)) ?_ ?_
  · rintro i x H2 hx ⟨h1, great, h2, h3⟩
    obtain ⟨z, rfl⟩ : ∃ z, x = V.int z := by
      rw [List.getElem?_map] at hx
      cases e : cells[i]? with
      | none => rw [e] at hx; cases hx
      | some z => rw [e] at hx; exact ⟨z, (Option.some.inj hx).symm⟩
    have hi : i < 63 := by
      have := (List.getElem?_eq_some_iff.mp hx).1
      rw [List.length_map] at this
      omega
    have hs3 : ∀ y : Option V, ((wipe σ [3]).set 3 y)[3]? = some y := fun y => List.getElem?_set_self (by rw [wipe_len, ← R.len]; exact Nat.lt_succ_self 3)
    refine ⟨by show wipe ((wipe σ [3]).set 3 _) [3] = wipe σ [3]; simp [wipe], _, hs3 _, _, _, rfl, rfl, ⟨by decide, by decide, by decide⟩, ⟨_, _, rfl, rfl, _, rfl, ?_⟩⟩
    show (if decide ((10 : Int) ^ (18 : Int).toNat ≤ z) = true then _ else _)
    by_cases hz : (10 : Int) ^ (18 : Int).toNat ≤ z
    · rw [if_pos (decide_eq_true hz)]
      refine ⟨_, hs3 _, great.map V.int, h3, by rw [List.length_map, sizeLine_eq]; omega, fun b o ne e => by rw [upd_ne ne]; exact h1 b o ne e, great ++ [z], by simp; omega, ?_⟩
      rw [upd_same]
      simp
    · rw [if_neg (by rw [decide_eq_false hz]; exact Bool.false_ne_true)]
      exact ⟨h1, great, by omega, h3⟩
  · rintro H2 ⟨h1, great, h2, h3⟩
    rw [List.length_map] at h2
    refine ⟨by show 4 ≤ sizeLine; decide, fun L hL => ?_⟩
    have hgL : g ≠ L := ne_of_none h3 hL
    have hcL : c ≠ L := ne_of_none (h1 c _ ncg o3) hL
    have H0g : H g = none := by
      cases e : H g with
      | none => rfl
      | some o => rw [grow g o e] at hg; cases hg
    have H0L : H L = none := by
      cases e : H L with
      | none => rfl
      | some o =>
        have := h1 L o hgL.symm (grow L o e)
        rw [hL] at this; cases this
    refine q L _ _ _ ⟨c, g, hcL, hgL, ncg, rfl, rfl⟩ (draw_ok L c g) ?_ ?_ ⟨cells, 64 * (k : Int), 0, great, upd_same, ?_, c1, by omega, ?_, by omega⟩
    · rintro b (rfl | rfl | rfl)
      · exact H0L
      · exact hc0
      · exact H0g
    · intro b o e
      rw [upd_ne (ne_of_none (h1 b o (fun z => by rw [z, H0g] at e; cases e) (grow b o e)) hL)]
      exact h1 b o (fun z => by rw [z, H0g] at e; cases e) (grow b o e)
    · rw [upd_ne hcL]; exact h1 c _ ncg o3
    · rw [upd_ne hgL]; exact h3
end Cw

set_option Elab.async false
set_option linter.all false
set_option maxRecDepth 100000
set_option maxHeartbeats 4000000
namespace Cw
open PySem L2 Dl
open PyProof.Rows (envOfC)
def w__law_lots (M : MC) : WS :=
  (wsSeq (wsSet 4 (wLst waNil)) (wsSeq (wsFor (wiR1 (waCons (wCall M 2 0 [0, 1] 2 sp__law_next (waCons (wVar 0) (waCons (wOp oAdd (wVar 1) (wC (.int 1))) waNil)) waNil) waNil)) (wgName 5) (wsSeq (wsPar 6 7 (waCons (wOp oAdd (wC (.int 1)) (wCall M 2 0 [0, 1] 2 sp__law_next (waCons (wVar 0) (waCons (wVar 2) waNil)) waNil)) (waCons (wCall M 2 0 [0, 1] 2 sp__law_next (waCons (wVar 0) (waCons (wVar 3) waNil)) waNil) waNil))) (wsSeq (wsIf (wAnd (wB (wOp oNe (wVar 4) (wLst waNil))) (wB (wOp oEq (wCall M 2 0 [0, 1] 2 sp__law_next (waCons (wVar 0) (waCons (wC (.int 3)) waNil)) waNil) (wC (.int 0))))) (wsPar 6 7 (waCons (wOp oIx (wOp oIx (wVar 4) (wUn oNeg (wC (.int 1)))) (wC (.int 0))) (waCons (wOp oIx (wOp oIx (wVar 4) (wUn oNeg (wC (.int 1)))) (wC (.int 2))) waNil))) wsNext) (wsApp 4 (wTup (waCons (wVar 6) (waCons (wVar 7) (waCons (wOp oAdd (wOp oAdd (wVar 7) (wC (.int 1))) (wCall M 2 0 [0, 1] 2 sp__law_next (waCons (wVar 0) (waCons (wVar 3) waNil)) waNil)) waNil)))))))) (wsRet (wVar 4))))
theorem sc__law_lots : FnScope ["_law_draw_here", "_law_many", "_law_letters", "_law_size", "_law_found", "_law_k", "_law_letter", "_law_start"] ["_law_draw_here", "_law_many", "_law_letters", "_law_size"] (defScope s__law_lots) := ⟨rfl, rfl, rfl, by decide +kernel, rfl, by decide +kernel, by decide +kernel⟩
theorem c__law_lots {P : Program} {w : World} {K : PySem.W.Frag} {mg : Str → Option Value} {base : Heap} (T : Tops K mg) (M : MC) {cd : Value} {A : Around} {outer : List Env} {s : Shared} {H : Hp} {E : XK} (hG : A.guards = some []) (hr : Room 2 (A.deeper (envOfC "_law_lots" (defScope s__law_lots) s.heap.objs.size T.d__law_lots.f cd))) :
    PSs (cxG P w K mg base ["_law_draw_here", "_law_many", "_law_letters", "_law_size", "_law_found", "_law_k", "_law_letter", "_law_start"] "_law_lots" (defScope s__law_lots) T.d__law_lots.f cd A outer s H E) (defBody s__law_lots) (tDS K M (fun cls dd _ H => E cls dd H) (w__law_lots M)) :=
  have nd := sc__law_lots.nd
  (pd_cons (pd_set 4 nd (pd_lst pd_anil)) (pd_cons (pd_for (passes_of rfl) rfl (pd_r1 (by rfl) T.b_range (pd_acons (pd_call (ok__law_next T) hG (hr.mono (by decide)) tdX (kb__law_next_2_ T) T.d__law_next.F.kp T.d__law_next.m (by rfl) (pd_acons (pd_var 0) (pd_acons (pd_add (pd_var 1) pd_int) pd_anil)) pd_knil) pd_anil)) (pd_gname 5 nd) (pd_cons (pd_par (i := 6) (j := 7) rfl nd (pd_acons (pd_add pd_int (pd_call (ok__law_next T) hG (hr.mono (by decide)) tdX (kb__law_next_2_ T) T.d__law_next.F.kp T.d__law_next.m (by rfl) (pd_acons (pd_var 0) (pd_acons (pd_var 2) pd_anil)) pd_knil)) (pd_acons (pd_call (ok__law_next T) hG (hr.mono (by decide)) tdX (kb__law_next_2_ T) T.d__law_next.F.kp T.d__law_next.m (by rfl) (pd_acons (pd_var 0) (pd_acons (pd_var 3) pd_anil)) pd_knil) pd_anil))) (pd_cons (pd_ifS (pd_and (pt_ne (hr64 hr) (pd_var 4) (pd_lst pd_anil)) (pd_and1 (pt_eq (hr64 hr) (pd_call (ok__law_next T) hG (hr.mono (by decide)) tdX (kb__law_next_2_ T) T.d__law_next.F.kp T.d__law_next.m (by rfl) (pd_acons (pd_var 0) (pd_acons pd_int pd_anil)) pd_knil) pd_int))).pt (pd_last (pd_par (i := 6) (j := 7) rfl nd (pd_acons (pd_item (pd_item (pd_var 4) (pd_neg pd_int)) pd_int) (pd_acons (pd_item (pd_item (pd_var 4) (pd_neg pd_int)) pd_int) pd_anil)))) pd_nil) (pd_last (pd_app 4 (pd_tup (pd_acons (pd_var 6) (pd_acons (pd_var 7) (pd_acons (pd_add (pd_add (pd_var 7) pd_int) (pd_call (ok__law_next T) hG (hr.mono (by decide)) tdX (kb__law_next_2_ T) T.d__law_next.F.kp T.d__law_next.m (by rfl) (pd_acons (pd_var 0) (pd_acons (pd_var 3) pd_anil)) pd_knil)) pd_anil))))))))) (pd_last (pd_ret (pd_var 4)))))
def sp__law_lots : DSp := fun M ds Q E => w__law_lots M (rho0 8 ds) (excD E) (endD Q)
theorem law__law_lots : ∀ M ds Qd Ed, ds.length = 4 → sp__law_lots M ds Qd Ed → w__law_lots M (rho0 8 ds) (excD Ed) (endD Qd) := fun _ _ _ _ _ h => h
theorem ok__law_lots {P : Program} {w : World} {K : PySem.W.Frag} {mg : Str → Option Value} {base : Heap} (T : Tops K mg) : FnG P w K mg base 3 T.d__law_lots.f T.d__law_lots.fd ["_law_draw_here", "_law_many", "_law_letters", "_law_size"] (spD K 4 sp__law_lots) :=
  fnD T.d__law_lots.F sc__law_lots (fun M cd A outer s H E hG hr => c__law_lots T M hG hr) law__law_lots
def v_law_5 (M : MC) : WS :=
  (wsPar 8 9 (waCons (wCa oTuple (waCons (wVar 8) waNil)) (waCons (wCa oTuple (waCons (wVar 9) waNil)) waNil)))
def v_law_21 (M : MC) : WS :=
  (wsIf (wB (wOp oNe (wCa (oRepr 64) (waCons (wLst (waCons (wVar 8) (waCons (wVar 9) waNil))) waNil)) (wVar 10))) (wsRet (wC (.bl false))) wsNext)
def v_law_15 (M : MC) : WS :=
  (wsIf (wOr (wB (wOp oNe (wCa (oRepr 64) (waCons (wCall M 2 0 [0, 1] 2 sp_parted (waCons (wVar 8) (waCons (wVar 5) waNil)) waNil) waNil)) (wCa (oRepr 64) (waCons (wVar 13) waNil)))) (wB (wOp oNe (wCa (oRepr 64) (waCons (wCall M 0 2 [1, 0] 2 sp_parted waNil (waCons (wVar 5) (waCons (wVar 8) waNil))) waNil)) (wCa (oRepr 64) (waCons (wVar 13) waNil))))) (wsRet (wC (.bl false))) wsNext)
def v_law_19 (M : MC) : WS :=
  (wsIf (wB (wOp oNe (wCa (oRepr 64) (waCons (wLst (waCons (wCall M 2 0 [0, 1] 2 sp_has (waCons (wVar 8) (waCons (wVar 14) waNil)) waNil) (waCons (wCall M 0 2 [1, 0] 2 sp_has waNil (waCons (wVar 14) (waCons (wVar 9) waNil))) waNil))) waNil)) (wCa (oRepr 64) (waCons (wLst (waCons (wOp (oIn fun b => b) (wVar 14) (wVar 11)) (waCons (wOp (oIn fun b => b) (wVar 14) (wVar 12)) waNil))) waNil)))) (wsRet (wC (.bl false))) wsNext)
def v_law_14 (M : MC) : WS :=
  (wsSeq (wsSet 13 (wTup (waCons (wCall M 1 0 [0] 1 sp__law_few (waCons (wSl (wVar 11) woNone (woSome (wVar 5))) waNil) waNil) (waCons (wCall M 1 0 [0] 1 sp__law_few (waCons (wSl (wVar 11) (woSome (wVar 5)) woNone) waNil) waNil) waNil)))) (v_law_15 M))
def v_law_18 (M : MC) : WS :=
  (wsSeq (wsSet 14 (wTup (waCons (wOp oAdd (wC (.int 1)) (wCall M 2 0 [0, 1] 2 sp__law_next (waCons (wVar 2) (waCons (wC (.int 4)) waNil)) waNil)) (waCons (wCall M 2 0 [0, 1] 2 sp__law_next (waCons (wVar 2) (waCons (wC (.int 11)) waNil)) waNil) waNil)))) (v_law_19 M))
def v_law_17 (M : MC) : WS :=
  (wsSeq (wsFor (wiR1 (waCons (wC (.int 4)) waNil)) (wgName 6) (v_law_18 M)) (v_law_21 M))
def v_law_13 (M : MC) : WS :=
  (wsSeq (wsFor (wiSeq (wTup (waCons (wVar 3) (waCons (wC (.int 0)) (waCons (wCa oLen (waCons (wVar 11) waNil)) waNil))))) (wgName 5) (v_law_14 M)) (v_law_17 M))
def v_law_11 (M : MC) : WS :=
  (wsSeq (wsIf (wB (wOp oNe (wCa (oRepr 64) (waCons (wVar 4) waNil)) (wCa (oRepr 64) (waCons (wLst (waCons (wCall M 1 0 [0] 1 sp__law_few (waCons (wOp oAdd (wVar 11) (wVar 12)) waNil) waNil) (waCons (wCall M 1 0 [0] 1 sp__law_few (waCons (wOp oAdd (wVar 12) (wVar 11)) waNil) waNil) (waCons (wCall M 1 0 [0] 1 sp__law_few (waCons (wVar 11) waNil) waNil) waNil)))) waNil)))) (wsRet (wC (.bl false))) wsNext) (v_law_13 M))
def v_law_10 (M : MC) : WS :=
  (wsSeq (wsSet 4 (wLst (waCons (wCall M 2 0 [0, 1] 2 sp_joined (waCons (wVar 8) (waCons (wVar 9) waNil)) waNil) (waCons (wCall M 0 2 [1, 0] 2 sp_joined waNil (waCons (wVar 8) (waCons (wVar 9) waNil))) (waCons (wCall M 2 0 [0, 1] 2 sp_joined (waCons (wLst waNil) (waCons (wVar 8) waNil)) waNil) waNil))))) (v_law_11 M))
def v_law_8 (M : MC) : WS :=
  (wsSeq (wsIf (wB (wOp oNe (wCa (oRepr 64) (waCons (wLst (waCons (wCall M 1 0 [0] 1 sp_how_many (waCons (wVar 8) waNil) waNil) (waCons (wCall M 0 1 [0] 1 sp_how_many waNil (waCons (wVar 9) waNil)) waNil))) waNil)) (wCa (oRepr 64) (waCons (wLst (waCons (wCa oLen (waCons (wVar 11) waNil)) (waCons (wCa oLen (waCons (wVar 12) waNil)) waNil))) waNil)))) (wsRet (wC (.bl false))) wsNext) (v_law_10 M))
def v_law_7 (M : MC) : WS :=
  (wsSeq (wsSet 3 (wCall M 2 0 [0, 1] 2 sp__law_next (waCons (wVar 2) (waCons (wOp oAdd (wCa oLen (waCons (wVar 11) waNil)) (wC (.int 1))) waNil)) waNil)) (v_law_8 M))
def v_law_6 (M : MC) : WS :=
  (wsSeq (wsPar3 10 11 12 (waCons (wCa (oRepr 64) (waCons (wLst (waCons (wVar 8) (waCons (wVar 9) waNil))) waNil)) (waCons (wCall M 1 0 [0] 1 sp__law_coins (waCons (wVar 8) waNil) waNil) (waCons (wCall M 1 0 [0] 1 sp__law_coins (waCons (wVar 9) waNil) waNil) waNil)))) (v_law_7 M))
def v_law_4 (M : MC) : WS :=
  (wsSeq (wsIf (wB (wVar 7)) (v_law_5 M) wsNext) (v_law_6 M))
def v_law_3 (M : MC) : WS :=
  (wsSeq (wsPar3 7 8 9 (waCons (wOp oEq (wCall M 2 0 [0, 1] 2 sp__law_next (waCons (wVar 2) (waCons (wC (.int 2)) waNil)) waNil) (wC (.int 0))) (waCons (wCall M 4 0 [0, 1, 2, 3] 4 sp__law_lots (waCons (wVar 2) (waCons (wC (.int 4)) (waCons (wC (.int 3)) (waCons (wC (.int 5)) waNil)))) waNil) (waCons (wCall M 4 0 [0, 1, 2, 3] 4 sp__law_lots (waCons (wVar 2) (waCons (wC (.int 4)) (waCons (wC (.int 3)) (waCons (wC (.int 5)) waNil)))) waNil) waNil)))) (v_law_4 M))
def v_law_2 (M : MC) : WS :=
  (wsOpen 2 2 pre__law_draw DrawSt M (waCons (wVar 0) (waCons (wVar 1) waNil)) (fun M => (v_law_3 M)))
def v_law_1 (M : MC) : WS :=
  (wsSeq (wsFor (wiR3 (waCons (wC (.int 0)) (waCons (wCa oMax (waCons (wC (.int 1)) (waCons (wCa oMin (waCons (wC (.int 63)) (waCons (wCa oLen (waCons (wVar 0) waNil)) waNil))) waNil))) (waCons (wC (.int 9)) waNil)))) (wgName 1) (v_law_2 M)) (wsRet (wC (.bl true))))
def w_law (M : MC) : WS :=
  (wsSeq (wsFor (wiR3 (waCons (wC (.int 0)) (waCons (wCa oMax (waCons (wC (.int 1)) (waCons (wCa oMin (waCons (wC (.int 63)) (waCons (wCa oLen (waCons (wVar 0) waNil)) waNil))) waNil))) (waCons (wC (.int 9)) waNil)))) (wgName 1) (wsOpen 2 2 pre__law_draw DrawSt M (waCons (wVar 0) (waCons (wVar 1) waNil)) (fun M => (wsSeq (wsPar3 7 8 9 (waCons (wOp oEq (wCall M 2 0 [0, 1] 2 sp__law_next (waCons (wVar 2) (waCons (wC (.int 2)) waNil)) waNil) (wC (.int 0))) (waCons (wCall M 4 0 [0, 1, 2, 3] 4 sp__law_lots (waCons (wVar 2) (waCons (wC (.int 4)) (waCons (wC (.int 3)) (waCons (wC (.int 5)) waNil)))) waNil) (waCons (wCall M 4 0 [0, 1, 2, 3] 4 sp__law_lots (waCons (wVar 2) (waCons (wC (.int 4)) (waCons (wC (.int 3)) (waCons (wC (.int 5)) waNil)))) waNil) waNil)))) (wsSeq (wsIf (wB (wVar 7)) (wsPar 8 9 (waCons (wCa oTuple (waCons (wVar 8) waNil)) (waCons (wCa oTuple (waCons (wVar 9) waNil)) waNil))) wsNext) (wsSeq (wsPar3 10 11 12 (waCons (wCa (oRepr 64) (waCons (wLst (waCons (wVar 8) (waCons (wVar 9) waNil))) waNil)) (waCons (wCall M 1 0 [0] 1 sp__law_coins (waCons (wVar 8) waNil) waNil) (waCons (wCall M 1 0 [0] 1 sp__law_coins (waCons (wVar 9) waNil) waNil) waNil)))) (wsSeq (wsSet 3 (wCall M 2 0 [0, 1] 2 sp__law_next (waCons (wVar 2) (waCons (wOp oAdd (wCa oLen (waCons (wVar 11) waNil)) (wC (.int 1))) waNil)) waNil)) (wsSeq (wsIf (wB (wOp oNe (wCa (oRepr 64) (waCons (wLst (waCons (wCall M 1 0 [0] 1 sp_how_many (waCons (wVar 8) waNil) waNil) (waCons (wCall M 0 1 [0] 1 sp_how_many waNil (waCons (wVar 9) waNil)) waNil))) waNil)) (wCa (oRepr 64) (waCons (wLst (waCons (wCa oLen (waCons (wVar 11) waNil)) (waCons (wCa oLen (waCons (wVar 12) waNil)) waNil))) waNil)))) (wsRet (wC (.bl false))) wsNext) (wsSeq (wsSet 4 (wLst (waCons (wCall M 2 0 [0, 1] 2 sp_joined (waCons (wVar 8) (waCons (wVar 9) waNil)) waNil) (waCons (wCall M 0 2 [1, 0] 2 sp_joined waNil (waCons (wVar 8) (waCons (wVar 9) waNil))) (waCons (wCall M 2 0 [0, 1] 2 sp_joined (waCons (wLst waNil) (waCons (wVar 8) waNil)) waNil) waNil))))) (wsSeq (wsIf (wB (wOp oNe (wCa (oRepr 64) (waCons (wVar 4) waNil)) (wCa (oRepr 64) (waCons (wLst (waCons (wCall M 1 0 [0] 1 sp__law_few (waCons (wOp oAdd (wVar 11) (wVar 12)) waNil) waNil) (waCons (wCall M 1 0 [0] 1 sp__law_few (waCons (wOp oAdd (wVar 12) (wVar 11)) waNil) waNil) (waCons (wCall M 1 0 [0] 1 sp__law_few (waCons (wVar 11) waNil) waNil) waNil)))) waNil)))) (wsRet (wC (.bl false))) wsNext) (wsSeq (wsFor (wiSeq (wTup (waCons (wVar 3) (waCons (wC (.int 0)) (waCons (wCa oLen (waCons (wVar 11) waNil)) waNil))))) (wgName 5) (wsSeq (wsSet 13 (wTup (waCons (wCall M 1 0 [0] 1 sp__law_few (waCons (wSl (wVar 11) woNone (woSome (wVar 5))) waNil) waNil) (waCons (wCall M 1 0 [0] 1 sp__law_few (waCons (wSl (wVar 11) (woSome (wVar 5)) woNone) waNil) waNil) waNil)))) (wsIf (wOr (wB (wOp oNe (wCa (oRepr 64) (waCons (wCall M 2 0 [0, 1] 2 sp_parted (waCons (wVar 8) (waCons (wVar 5) waNil)) waNil) waNil)) (wCa (oRepr 64) (waCons (wVar 13) waNil)))) (wB (wOp oNe (wCa (oRepr 64) (waCons (wCall M 0 2 [1, 0] 2 sp_parted waNil (waCons (wVar 5) (waCons (wVar 8) waNil))) waNil)) (wCa (oRepr 64) (waCons (wVar 13) waNil))))) (wsRet (wC (.bl false))) wsNext))) (wsSeq (wsFor (wiR1 (waCons (wC (.int 4)) waNil)) (wgName 6) (wsSeq (wsSet 14 (wTup (waCons (wOp oAdd (wC (.int 1)) (wCall M 2 0 [0, 1] 2 sp__law_next (waCons (wVar 2) (waCons (wC (.int 4)) waNil)) waNil)) (waCons (wCall M 2 0 [0, 1] 2 sp__law_next (waCons (wVar 2) (waCons (wC (.int 11)) waNil)) waNil) waNil)))) (wsIf (wB (wOp oNe (wCa (oRepr 64) (waCons (wLst (waCons (wCall M 2 0 [0, 1] 2 sp_has (waCons (wVar 8) (waCons (wVar 14) waNil)) waNil) (waCons (wCall M 0 2 [1, 0] 2 sp_has waNil (waCons (wVar 14) (waCons (wVar 9) waNil))) waNil))) waNil)) (wCa (oRepr 64) (waCons (wLst (waCons (wOp (oIn fun b => b) (wVar 14) (wVar 11)) (waCons (wOp (oIn fun b => b) (wVar 14) (wVar 12)) waNil))) waNil)))) (wsRet (wC (.bl false))) wsNext))) (wsIf (wB (wOp oNe (wCa (oRepr 64) (waCons (wLst (waCons (wVar 8) (waCons (wVar 9) waNil))) waNil)) (wVar 10))) (wsRet (wC (.bl false))) wsNext))))))))))))) (wsRet (wC (.bl true))))
theorem sc_law : FnScope ["_law_script", "_law_k", "_law_draw_here", "_law_far", "_law_told", "_law_at", "_law_turn", "_law_is_tuple", "_law_row", "_law_other", "_law_kept", "_law_coins_here", "_law_behind", "_law_due", "_law_one"] ["_law_script"] (defScope s_law) := ⟨rfl, rfl, rfl, by decide +kernel, rfl, by decide +kernel, by decide +kernel⟩
theorem c_law {P : Program} {w : World} {K : PySem.W.Frag} {mg : Str → Option Value} {base : Heap} (T : Tops K mg) (M : MC) {cd : Value} {A : Around} {outer : List Env} {s : Shared} {H : Hp} {E : XK} (hG : A.guards = some []) (hr : Room 5 (A.deeper (envOfC "law" (defScope s_law) s.heap.objs.size T.d_law.f cd))) :
    PSs (cxG P w K mg base ["_law_script", "_law_k", "_law_draw_here", "_law_far", "_law_told", "_law_at", "_law_turn", "_law_is_tuple", "_law_row", "_law_other", "_law_kept", "_law_coins_here", "_law_behind", "_law_due", "_law_one"] "law" (defScope s_law) T.d_law.f cd A outer s H E) (defBody s_law) (tDS K M (fun cls dd _ H => E cls dd H) (w_law M)) :=
  have nd := sc_law.nd
  (pd_cons (pd_for (passes_of rfl) rfl (pd_r3 (by rfl) T.b_range (pd_acons pd_int (pd_acons (pd_callB (call_max2 rfl) cd_max (by rfl) T.b_max (by decide +kernel) (pd_acons pd_int (pd_acons (pd_callB (call_min2 rfl) cd_min (by rfl) T.b_min (by decide +kernel) (pd_acons pd_int (pd_acons (pd_callB call_lenA cd_len (by rfl) T.b_len (by decide +kernel) (pd_acons (pd_var 0) pd_anil)) pd_anil))) pd_anil))) (pd_acons pd_int pd_anil)))) (pd_gname 1 nd) (pd_open 2 nd (ok__law_draw T) hG (hr.mono (by decide)) tdX (kb__law_draw_2_ T) T.d__law_draw.F.kp T.d__law_draw.m (by rfl) (pd_acons (pd_var 0) (pd_acons (pd_var 1) pd_anil)) (fun M => (pd_cons (pd_par3 (i := 7) (j := 8) (l := 9) rfl nd (pd_acons (pd_eq (hr64 hr) (pd_call (ok__law_next T) hG (hr.mono (by decide)) tdX (kb__law_next_2_ T) T.d__law_next.F.kp T.d__law_next.m (by rfl) (pd_acons (pd_var 2) (pd_acons pd_int pd_anil)) pd_knil) pd_int) (pd_acons (pd_call (ok__law_lots T) hG (hr.mono (by decide)) tdX (kb__law_lots_4_ T) T.d__law_lots.F.kp T.d__law_lots.m (by rfl) (pd_acons (pd_var 2) (pd_acons pd_int (pd_acons pd_int (pd_acons pd_int pd_anil)))) pd_knil) (pd_acons (pd_call (ok__law_lots T) hG (hr.mono (by decide)) tdX (kb__law_lots_4_ T) T.d__law_lots.F.kp T.d__law_lots.m (by rfl) (pd_acons (pd_var 2) (pd_acons pd_int (pd_acons pd_int (pd_acons pd_int pd_anil)))) pd_knil) pd_anil)))) (pd_cons (pd_ifS (pd_t (pd_var 7)) (pd_last (pd_par (i := 8) (j := 9) rfl nd (pd_acons (pd_callTy call_tuple_of cd_tuple (by rfl) T.b_tuple (by decide +kernel) (pd_acons (pd_var 8) pd_anil)) (pd_acons (pd_callTy call_tuple_of cd_tuple (by rfl) T.b_tuple (by decide +kernel) (pd_acons (pd_var 9) pd_anil)) pd_anil)))) pd_nil) (pd_cons (pd_par3 (i := 10) (j := 11) (l := 12) rfl nd (pd_acons (pd_callB (call_reprA hG (hr100 hr)) cd_repr (by rfl) T.b_repr (by decide +kernel) (pd_acons (pd_lst (pd_acons (pd_var 8) (pd_acons (pd_var 9) pd_anil))) pd_anil)) (pd_acons (pd_call (ok__law_coins T) hG (hr.mono (by decide)) tdX (kb__law_coins_1_ T) T.d__law_coins.F.kp T.d__law_coins.m (by rfl) (pd_acons (pd_var 8) pd_anil) pd_knil) (pd_acons (pd_call (ok__law_coins T) hG (hr.mono (by decide)) tdX (kb__law_coins_1_ T) T.d__law_coins.F.kp T.d__law_coins.m (by rfl) (pd_acons (pd_var 9) pd_anil) pd_knil) pd_anil)))) (pd_cons (pd_set 3 nd (pd_call (ok__law_next T) hG (hr.mono (by decide)) tdX (kb__law_next_2_ T) T.d__law_next.F.kp T.d__law_next.m (by rfl) (pd_acons (pd_var 2) (pd_acons (pd_add (pd_callB call_lenA cd_len (by rfl) T.b_len (by decide +kernel) (pd_acons (pd_var 11) pd_anil)) pd_int) pd_anil)) pd_knil)) (pd_cons (pd_ifS (pt_ne (hr64 hr) (pd_callB (call_reprA hG (hr100 hr)) cd_repr (by rfl) T.b_repr (by decide +kernel) (pd_acons (pd_lst (pd_acons (pd_call (ok_how_many T) hG (hr.mono (by decide)) tdX (kb_how_many_1_ T) T.d_how_many.F.kp T.d_how_many.m (by rfl) (pd_acons (pd_var 8) pd_anil) pd_knil) (pd_acons (pd_call0 (ok_how_many T) hG (hr.mono (by decide)) tdX (kb_how_many_0_lots T) T.d_how_many.F.kp T.d_how_many.m (by rfl) (pd_kcons (pd_var 9) pd_knil)) pd_anil))) pd_anil)) (pd_callB (call_reprA hG (hr100 hr)) cd_repr (by rfl) T.b_repr (by decide +kernel) (pd_acons (pd_lst (pd_acons (pd_callB call_lenA cd_len (by rfl) T.b_len (by decide +kernel) (pd_acons (pd_var 11) pd_anil)) (pd_acons (pd_callB call_lenA cd_len (by rfl) T.b_len (by decide +kernel) (pd_acons (pd_var 12) pd_anil)) pd_anil))) pd_anil))) (pd_last (pd_ret pd_bl)) pd_nil) (pd_cons (pd_set 4 nd (pd_lst (pd_acons (pd_call (ok_joined T) hG (hr.mono (by decide)) tdX (kb_joined_2_ T) T.d_joined.F.kp T.d_joined.m (by rfl) (pd_acons (pd_var 8) (pd_acons (pd_var 9) pd_anil)) pd_knil) (pd_acons (pd_call0 (ok_joined T) hG (hr.mono (by decide)) tdX (kb_joined_0_more_lots T) T.d_joined.F.kp T.d_joined.m (by rfl) (pd_kcons (pd_var 8) (pd_kcons (pd_var 9) pd_knil))) (pd_acons (pd_call (ok_joined T) hG (hr.mono (by decide)) tdX (kb_joined_2_ T) T.d_joined.F.kp T.d_joined.m (by rfl) (pd_acons (pd_lst pd_anil) (pd_acons (pd_var 8) pd_anil)) pd_knil) pd_anil))))) (pd_cons (pd_ifS (pt_ne (hr64 hr) (pd_callB (call_reprA hG (hr100 hr)) cd_repr (by rfl) T.b_repr (by decide +kernel) (pd_acons (pd_var 4) pd_anil)) (pd_callB (call_reprA hG (hr100 hr)) cd_repr (by rfl) T.b_repr (by decide +kernel) (pd_acons (pd_lst (pd_acons (pd_call (ok__law_few T) hG (hr.mono (by decide)) tdX (kb__law_few_1_ T) T.d__law_few.F.kp T.d__law_few.m (by rfl) (pd_acons (pd_add (pd_var 11) (pd_var 12)) pd_anil) pd_knil) (pd_acons (pd_call (ok__law_few T) hG (hr.mono (by decide)) tdX (kb__law_few_1_ T) T.d__law_few.F.kp T.d__law_few.m (by rfl) (pd_acons (pd_add (pd_var 12) (pd_var 11)) pd_anil) pd_knil) (pd_acons (pd_call (ok__law_few T) hG (hr.mono (by decide)) tdX (kb__law_few_1_ T) T.d__law_few.F.kp T.d__law_few.m (by rfl) (pd_acons (pd_var 11) pd_anil) pd_knil) pd_anil)))) pd_anil))) (pd_last (pd_ret pd_bl)) pd_nil) (pd_cons (pd_for (passes_of rfl) rfl (pd_iseq (pd_tup (pd_acons (pd_var 3) (pd_acons pd_int (pd_acons (pd_callB call_lenA cd_len (by rfl) T.b_len (by decide +kernel) (pd_acons (pd_var 11) pd_anil)) pd_anil))))) (pd_gname 5 nd) (pd_cons (pd_set 13 nd (pd_tup (pd_acons (pd_call (ok__law_few T) hG (hr.mono (by decide)) tdX (kb__law_few_1_ T) T.d__law_few.F.kp T.d__law_few.m (by rfl) (pd_acons (pd_slice (pd_var 11) pd_onone (pd_osome (pd_var 5))) pd_anil) pd_knil) (pd_acons (pd_call (ok__law_few T) hG (hr.mono (by decide)) tdX (kb__law_few_1_ T) T.d__law_few.F.kp T.d__law_few.m (by rfl) (pd_acons (pd_slice (pd_var 11) (pd_osome (pd_var 5)) pd_onone) pd_anil) pd_knil) pd_anil)))) (pd_last (pd_ifS (pd_or (pt_ne (hr64 hr) (pd_callB (call_reprA hG (hr100 hr)) cd_repr (by rfl) T.b_repr (by decide +kernel) (pd_acons (pd_call (ok_parted T) hG (hr.mono (by decide)) tdX (kb_parted_2_ T) T.d_parted.F.kp T.d_parted.m (by rfl) (pd_acons (pd_var 8) (pd_acons (pd_var 5) pd_anil)) pd_knil) pd_anil)) (pd_callB (call_reprA hG (hr100 hr)) cd_repr (by rfl) T.b_repr (by decide +kernel) (pd_acons (pd_var 13) pd_anil))) (pd_or1 (pt_ne (hr64 hr) (pd_callB (call_reprA hG (hr100 hr)) cd_repr (by rfl) T.b_repr (by decide +kernel) (pd_acons (pd_call0 (ok_parted T) hG (hr.mono (by decide)) tdX (kb_parted_0_count_lots T) T.d_parted.F.kp T.d_parted.m (by rfl) (pd_kcons (pd_var 5) (pd_kcons (pd_var 8) pd_knil))) pd_anil)) (pd_callB (call_reprA hG (hr100 hr)) cd_repr (by rfl) T.b_repr (by decide +kernel) (pd_acons (pd_var 13) pd_anil))))).pt (pd_last (pd_ret pd_bl)) pd_nil)))) (pd_cons (pd_for (passes_of rfl) rfl (pd_r1 (by rfl) T.b_range (pd_acons pd_int pd_anil)) (pd_gname 6 nd) (pd_cons (pd_set 14 nd (pd_tup (pd_acons (pd_add pd_int (pd_call (ok__law_next T) hG (hr.mono (by decide)) tdX (kb__law_next_2_ T) T.d__law_next.F.kp T.d__law_next.m (by rfl) (pd_acons (pd_var 2) (pd_acons pd_int pd_anil)) pd_knil)) (pd_acons (pd_call (ok__law_next T) hG (hr.mono (by decide)) tdX (kb__law_next_2_ T) T.d__law_next.F.kp T.d__law_next.m (by rfl) (pd_acons (pd_var 2) (pd_acons pd_int pd_anil)) pd_knil) pd_anil)))) (pd_last (pd_ifS (pt_ne (hr64 hr) (pd_callB (call_reprA hG (hr100 hr)) cd_repr (by rfl) T.b_repr (by decide +kernel) (pd_acons (pd_lst (pd_acons (pd_call (ok_has T) hG (hr.mono (by decide)) tdX (kb_has_2_ T) T.d_has.F.kp T.d_has.m (by rfl) (pd_acons (pd_var 8) (pd_acons (pd_var 14) pd_anil)) pd_knil) (pd_acons (pd_call0 (ok_has T) hG (hr.mono (by decide)) tdX (kb_has_0_coin_lots T) T.d_has.F.kp T.d_has.m (by rfl) (pd_kcons (pd_var 14) (pd_kcons (pd_var 9) pd_knil))) pd_anil))) pd_anil)) (pd_callB (call_reprA hG (hr100 hr)) cd_repr (by rfl) T.b_repr (by decide +kernel) (pd_acons (pd_lst (pd_acons (pd_in (hr65 hr) (pd_var 14) (pd_var 11)) (pd_acons (pd_in (hr65 hr) (pd_var 14) (pd_var 12)) pd_anil))) pd_anil))) (pd_last (pd_ret pd_bl)) pd_nil)))) (pd_last (pd_ifS (pt_ne (hr64 hr) (pd_callB (call_reprA hG (hr100 hr)) cd_repr (by rfl) T.b_repr (by decide +kernel) (pd_acons (pd_lst (pd_acons (pd_var 8) (pd_acons (pd_var 9) pd_anil))) pd_anil)) (pd_var 10)) (pd_last (pd_ret pd_bl)) pd_nil)))))))))))))) (pd_last (pd_ret pd_bl)))
def sp_law : DSp := fun M ds Q E => w_law M (rho0 15 ds) (excD E) (endD Q)
theorem law_law : ∀ M ds Qd Ed, ds.length = 1 → sp_law M ds Qd Ed → w_law M (rho0 15 ds) (excD Ed) (endD Qd) := fun _ _ _ _ _ h => h
theorem ok_law {P : Program} {w : World} {K : PySem.W.Frag} {mg : Str → Option Value} {base : Heap} (T : Tops K mg) : FnG P w K mg base 6 T.d_law.f T.d_law.fd ["_law_script"] (spD K 1 sp_law) :=
  fnD T.d_law.F sc_law (fun M cd A outer s H E hG hr => c_law T M hG hr) law_law
end Cw

set_option Elab.async false
set_option linter.all false
set_option maxRecDepth 100000
set_option maxHeartbeats 4000000
namespace Cw
open PySem L2 Dl

theorem lg {n : Int} (h0 : 0 < n) (h : n < 18446744073709551616) : n.natAbs.log2 < 9000 := by
  have h1 : n.natAbs < 2 ^ 64 := by
    have e : (2 : Nat) ^ 64 = 18446744073709551616 := by decide
    omega
  have := (Nat.log2_lt (by omega : n.natAbs ≠ 0)).mpr h1
  omega
theorem q_next {M : MC} {L : Addr} {n : Int} {Q : Rs → Prop} {E : Ex → Prop} (d : Draw M L) (h0 : 0 < n) (h1 : n.natAbs.log2 < 9000) (h : ∀ r, 0 ≤ r → r < n → Q (.val (.int r))) : sp__law_next M [.ref L, .int n] Q E := ⟨L, n, rfl, d, h0, h1, h⟩
def coinD (c : Coin) : D := .tup [.int c.1, .int c.2]
theorem q_coins {M : MC} {d : D} {ls : List Lot} {Q : Rs → Prop} {E : Ex → Prop} (hi : itemsD d = some (ls.map lotD)) (hb : ∀ l ∈ ls, 0 ≤ l.2.1 ∧ l.2.1 < l.2.2 ∧ l.2.2 ≤ 1000) (hl : ls.length ≤ 1000) (h : Q (.val (.lst ((coins ls).map coinD)))) : sp__law_coins M [d] Q E := by
  unfold sp__law_coins w__law_coins
  simp [hi]
  refine for_inv (fun done ρ => ∃ x y z, ρ = [some (.sh d), some (.ow (.lst ((coins done).map coinD))), x, y, z, none]) ⟨none, none, none, rfl⟩ ?_ ?_
  · rintro done l rest ρ k e ⟨x, y, z, rfl⟩ hk
    have hin : ∀ q ∈ done ++ [l], q ∈ ls := fun q hq => by
      rw [e]
      simp at hq ⊢
      rcases hq with hq | rfl
      · exact .inl hq
      · exact .inr (.inl rfl)
    obtain ⟨b1, b2, b3⟩ := hb l (hin l (by simp))
    have hlen : ∀ qs : List Lot, (∀ q ∈ qs, q ∈ ls) → (coins qs).length ≤ 1000 * qs.length := by
      intro qs
      induction qs with
      | nil => intro _; simp [coins]
      | cons q qs ih =>
        intro hq
        have e : coins (q :: qs) = coinsL q ++ coins qs := List.flatMap_cons
        have h1 := ih fun r hr => hq r (List.mem_cons_of_mem _ hr)
        obtain ⟨c1, c2, c3⟩ := hb q (hq q List.mem_cons_self)
        rw [e, List.length_append, List.length_cons]
        unfold coinsL
        rw [cons_len]
        omega
    have hd := hlen done fun q hq => hin q (by simp [hq])
    have hdl : done.length ≤ 1000 := by rw [e, List.length_append] at hl; omega
    simp [lotD]
    refine ⟨⟨by omega, by omega⟩, ⟨by omega, by omega⟩, ?_⟩
    unfold rangeD
    refine lc_map (fun (i : Nat) => coinD (l.1, l.2.1 + i)) (by simp; omega) (fun i hm k2 e2 hk2 => ?_) ?_
    · simp
      exact hk2
    · have ec : coins (done ++ [l]) = coins done ++ coinsL l := by rw [coins_append, coins_one]
      have e3 : (List.range (l.2.2 - l.2.1).toNat).map (fun (i : Nat) => coinD (l.1, l.2.1 + i)) = (coinsL l).map coinD := by
        unfold coinsL cons
        rw [List.map_map]; rfl
      have el : (coinsL l).length ≤ 1000 := by unfold coinsL; rw [cons_len]; omega
      rw [e3]
      simp
      refine ⟨by omega, ?_⟩
      have := hk _ ⟨some (.sh (.int l.1)), some (.sh (.int l.2.1)), some (.sh (.int l.2.2)), rfl⟩
      rwa [ec, List.map_append] at this
  · rintro ρ ⟨x, y, z, rfl⟩
    simp
    exact .inr h
theorem fewC_len (cs : List Coin) : ∀ acc : List Lot, (cs.foldl fewC acc).length ≤ acc.length + cs.length := by
  induction cs with
  | nil => intro acc; simp
  | cons l ls ih =>
    intro acc
    have h1 := ih (fewC acc l)
    have h2 := fewF_len acc (l.1, l.2, l.2 + 1)
    rw [List.foldl_cons, List.length_cons]
    unfold fewC at h1 ⊢
    omega
theorem q_few {M : MC} {d : D} {cs : List Coin} {Q : Rs → Prop} {E : Ex → Prop} (hi : itemsD d = some (cs.map coinD)) (hl : cs.length ≤ 1000000) (h : Q (.new (.lst ((cs.foldl fewC []).map lotD)))) : sp__law_few M [d] Q E := by
  unfold sp__law_few w__law_few
  simp [hi]
  refine for_inv (fun done ρ => ∃ x y, ρ = [some (.sh d), some (.ow (.lst ((done.foldl fewC []).map lotD))), x, y]) ⟨none, none, rfl⟩ ?_ ?_
  · rintro done l rest ρ k e ⟨x, y, rfl⟩ hk
    have hlen := fewC_len done []
    have hdl : done.length ≤ 1000000 := by rw [e, List.length_append] at hl; omega
    rw [List.length_nil] at hlen
    simp only [List.foldl_append, List.foldl_cons, List.foldl_nil] at hk
    revert hk hlen
    generalize done.foldl fewC [] = acc
    intro hlen hk
    unfold fewC at hk
    rcases List.eq_nil_or_concat acc with rfl | ⟨init, m, rfl⟩
    · simp [coinD]
      exact hk _ ⟨_, _, rfl⟩
    · rw [List.concat_eq_append] at hk hlen ⊢
      rw [fewF_snoc] at hk
      have hs : Sh 64 (.lst (init.map lotD ++ [.tup [.int m.1, .int m.2.1, .int m.2.2]])) := by
        have := sh_lots (init ++ [m])
        rwa [lots_snoc] at this
      rw [lots_snoc]
      have ix := ix_last (init.map lotD) (lotD m)
      simp only [List.length_append, List.length_map] at hlen
      simp [o_neL hs (by simp), lotD, coinD] at hk ix ⊢
      have l1 : init.length + 1 < 16777216 := by omega
      by_cases h1 : m.1 = l.1
      · by_cases h2 : m.2.2 = l.2
        · simp [h1, h2, ix, List.set_append] at hk ⊢
          exact hk _ _ _ rfl
        · simp [h1, h2, l1] at hk ⊢
          exact hk _ (some (.sh (.int l.1))) (some (.sh (.int l.2))) (by simp [lotD, h1])
      · simp [h1, l1] at hk ⊢
        exact hk _ _ _ rfl
  · rintro ρ ⟨x, y, rfl⟩
    simp
    exact .inl h
end Cw

set_option Elab.async false
set_option linter.all false
set_option maxRecDepth 100000
set_option maxHeartbeats 4000000
namespace Cw
open PySem L2 Dl

/-- a drawn row: at most m lots, letters to a, places to b -/
structure Drawn (m : Nat) (a b : Int) (ls : List Lot) : Prop where
  len : ls.length ≤ m
  ok : ∀ l ∈ ls, lotOk l ∧ l.1 ≤ a ∧ l.2.2 ≤ b
theorem app_lot {M : MC} {L : Addr} {a1 a2 a5 : Option Cell} {s c0 s0 : Int} {ls : List Lot} {X : XD} {D' : ED} (dr : Draw M L) (hs : 0 < s) (hs1 : s.natAbs.log2 < 9000) (hl : ls.length ≤ 1000)
    (h : ∀ r, 0 ≤ r → r < s → D'.nx [some (.sh (.ref L)), a1, a2, some (.sh (.int s)), some (.ow (.lst ((ls ++ [(c0, s0, s0 + 1 + r)]).map lotD))), a5, some (.sh (.int c0)), some (.sh (.int s0))]) :
    wsApp 4 (wTup (waCons (wVar 6) (waCons (wVar 7) (waCons (wOp oAdd (wOp oAdd (wVar 7) (wC (.int 1))) (wCall M 2 0 [0, 1] 2 sp__law_next (waCons (wVar 0) (waCons (wVar 3) waNil)) waNil)) waNil)))) [some (.sh (.ref L)), a1, a2, some (.sh (.int s)), some (.ow (.lst (ls.map lotD))), a5, some (.sh (.int c0)), some (.sh (.int s0))] X D' := by
  simp
  refine fun M1 m1 => q_next (dr.ext m1) hs hs1 fun r h0 h1 => ?_
  have l1 : ls.length < 16777216 := by omega
  simp [l1]
  have := h r h0 h1
  rwa [lots_snoc] at this
theorem q_lots {M : MC} {L : Addr} {m : Nat} {a s : Int} {Q : Rs → Prop} {E : Ex → Prop} (dr : Draw M L) (hm : m ≤ 10) (ha : 0 < a) (ha1 : a ≤ 1000) (hs : 0 < s) (hs1 : s.natAbs.log2 < 9000)
    (h : ∀ ls, Drawn m a ((m + 2) * s) ls → Q (.new (.lst (ls.map lotD)))) : sp__law_lots M [.ref L, .int (m : Int), .int a, .int s] Q E := by
  unfold sp__law_lots w__law_lots
  simp
  refine fun M' mx => q_next (dr.ext mx) (by omega) (lg (by omega) (by omega)) fun r h0 h1 => ?_
  simp
  refine ⟨⟨by omega, by omega⟩, ?_⟩
  unfold rangeD
  refine for_inv (fun done ρ => ∃ ls x y z, done.length ≤ m ∧ Drawn done.length a ((done.length + 1) * s) ls ∧ ρ = [some (.sh (.ref L)), some (.sh (.int (m : Int))), some (.sh (.int a)), some (.sh (.int s)), some (.ow (.lst (ls.map lotD))), x, y, z]) ⟨[], none, none, none, Nat.zero_le _, ⟨Nat.zero_le _, by simp⟩, rfl⟩ ?_ ?_
  · rintro done i rest ρ k e ⟨ls, x, y, z, hd, dn, rfl⟩ hk
    have hlen := congrArg List.length e
    simp at hlen
    simp
    refine fun M1 m1 => q_next (dr.ext m1) ha (lg ha (by omega)) fun r1 a1 a2 => ?_
    simp
    refine fun M2 m2 => q_next (dr.ext m2) hs hs1 fun r2 b1 b2 => ?_
    simp
    have hls : ls.length ≤ 1000 := by have := dn.len; omega
    have e1 : (((done ++ [i]).length : Nat) : Int) = done.length + 1 := by simp
    have ring : ((done.length : Int) + 1) * s + s = ((done.length : Int) + 1 + 1) * s := by rw [Int.add_mul ((done.length : Int) + 1) 1 s, Int.one_mul]
    have pos : s ≤ ((done.length : Int) + 1) * s := by
      rw [Int.add_mul, Int.one_mul]
      have := Int.mul_nonneg (Int.natCast_nonneg done.length) (Int.le_of_lt hs)
      omega
    have step : ∀ c0 s0 r, 1 ≤ c0 → c0 ≤ a → 0 ≤ s0 → s0 ≤ ((done.length : Int) + 1) * s → 0 ≤ r → r < s → Drawn (done ++ [i]).length a ((((done ++ [i]).length : Nat) + 1) * s) (ls ++ [(c0, s0, s0 + 1 + r)]) := by
      intro c0 s0 r q1 q2 q3 q4 q5 q6
      refine ⟨by have := dn.len; simp; omega, fun l hl => ?_⟩
      rw [e1, ← ring]
      rcases List.mem_append.mp hl with hl | hl
      · obtain ⟨z1, z2, z3⟩ := dn.ok l hl
        exact ⟨z1, z2, by omega⟩
      · rw [List.mem_singleton.mp hl]
        exact ⟨⟨q1, q3, by show s0 < s0 + 1 + r; omega⟩, q2, by show s0 + 1 + r ≤ _; omega⟩
    have hdn : (done ++ [i]).length ≤ m := by simp; omega
    have fin : ∀ c0 s0 (r : Int), 1 ≤ c0 → c0 ≤ a → 0 ≤ s0 → s0 ≤ ((done.length : Int) + 1) * s → 0 ≤ r → r < s → k [some (.sh (.ref L)), some (.sh (.int (m : Int))), some (.sh (.int a)), some (.sh (.int s)), some (.ow (.lst ((ls ++ [(c0, s0, s0 + 1 + r)]).map lotD))), some (.sh (.int (i : Int))), some (.sh (.int c0)), some (.sh (.int s0))] :=
      fun c0 s0 r q1 q2 q3 q4 q5 q6 => hk _ ⟨_, _, _, _, hdn, step c0 s0 r q1 q2 q3 q4 q5 q6, rfl⟩
    rcases List.eq_nil_or_concat ls with rfl | ⟨init, l, rfl⟩
    · simp only [List.map_nil]
      simp only [o_eqN, e_seq]
      simp only [get_val, bindP_some, asB_bl, Bool.not_true, iteP_f, e_next]
      exact app_lot (ls := []) dr hs hs1 (by simp) fun r h0 h1 => fin _ _ r (by omega) (by omega) b1 (by omega) h0 h1
    · rw [List.concat_eq_append] at dn fin hls ⊢
      have hs2 : Sh 64 (.lst (init.map lotD ++ [.tup [.int l.1, .int l.2.1, .int l.2.2]])) := by
        have := sh_lots (init ++ [l])
        rwa [lots_snoc] at this
      obtain ⟨⟨z1, z2, z3⟩, z4, z5⟩ := dn.ok l (by simp)
      rw [lots_snoc]
      simp [o_neL hs2 (by simp), lotD]
      refine fun M3 m3 => q_next (dr.ext m3) (by omega) (by decide) fun r3 c1 c2 => ?_
      have l1 : init.length + 1 < 16777216 := by simp at hls; omega
      by_cases hz : r3 = 0
      · simp [hz]
        refine fun M4 m4 => q_next (dr.ext m4) hs hs1 fun r4 d1 d2 => ?_
        simp [l1]
        have := fin l.1 l.2.2 r4 z1 z4 (by omega) z5 d1 d2
        simp [lotD] at this
        exact this
      · simp [hz]
        refine fun M4 m4 => q_next (dr.ext m4) hs hs1 fun r4 d1 d2 => ?_
        simp [l1]
        have := fin (1 + r1) r2 r4 (by omega) (by omega) b1 (by omega) d1 d2
        simp [lotD] at this
        exact this
  · rintro ρ ⟨ls, x, y, z, hd, dn, rfl⟩
    simp
    refine .inl (h ls ⟨Nat.le_trans dn.len hd, fun l hl => ⟨(dn.ok l hl).1, (dn.ok l hl).2.1, ?_⟩⟩)
    have h2 := (dn.ok l hl).2.2
    rw [List.length_range] at h2 hd
    have h3 : ((r.toNat : Int) + 1) * s ≤ ((m : Int) + 2) * s := Int.mul_le_mul_of_nonneg_right (by omega) (by omega)
    omega
end Cw

set_option Elab.async false
set_option linter.all false
set_option maxRecDepth 100000
set_option maxHeartbeats 4000000
namespace Cw
open PySem L2 Dl

def lb (l : Lot) : Prop := (0 ≤ l.1 ∧ l.1 ≤ 1000) ∧ (0 ≤ l.2.1 ∧ l.2.1 ≤ 1000) ∧ (0 ≤ l.2.2 ∧ l.2.2 ≤ 1000)
def cb (c : Coin) : Prop := (0 ≤ c.1 ∧ c.1 ≤ 1000) ∧ (0 ≤ c.2 ∧ c.2 < 1000)
def FC (cs : List Coin) : List Lot := cs.foldl fewC []
theorem fc_lb (cs : List Coin) : ∀ acc : List Lot, (∀ l ∈ acc, lb l) → (∀ c ∈ cs, cb c) → ∀ l ∈ cs.foldl fewC acc, lb l := by
  induction cs with
  | nil => intro acc h _; exact h
  | cons c cs ih =>
    intro acc h hc
    rw [List.foldl_cons]
    refine ih _ ?_ fun d hd => hc d (List.mem_cons_of_mem _ hd)
    obtain ⟨⟨c1, c2⟩, c3, c4⟩ := hc c List.mem_cons_self
    unfold fewC
    rcases List.eq_nil_or_concat acc with rfl | ⟨init, m, rfl⟩
    · intro l hl
      rw [fewF_nil] at hl
      rw [List.mem_singleton.mp hl]
      exact ⟨⟨c1, c2⟩, ⟨c3, by show c.2 ≤ 1000; omega⟩, by show 0 ≤ c.2 + 1; omega, by show c.2 + 1 ≤ 1000; omega⟩
    · rw [List.concat_eq_append] at h ⊢
      rw [fewF_snoc]
      have hm := h m (by simp)
      split
      · intro l hl
        rcases List.mem_append.mp hl with hl | hl
        · exact h l (by simp [hl])
        · rw [List.mem_singleton.mp hl]
          exact ⟨hm.1, hm.2.1, by show 0 ≤ c.2 + 1; omega, by show c.2 + 1 ≤ 1000; omega⟩
      · intro l hl
        rcases List.mem_append.mp hl with hl | hl
        · exact h l hl
        · rw [List.mem_singleton.mp hl]
          exact ⟨⟨c1, c2⟩, ⟨c3, by show c.2 ≤ 1000; omega⟩, by show 0 ≤ c.2 + 1; omega, by show c.2 + 1 ≤ 1000; omega⟩
theorem l10 {n : Int} (h0 : 0 ≤ n) (h : n ≤ 1000) : n.natAbs.log2 < 10 := by
  by_cases z : n.natAbs = 0
  · rw [z]; decide
  · exact (Nat.log2_lt z).mpr (by have e : (2 : Nat) ^ 10 = 1024 := by decide
                                  omega)
theorem rp_int {n : Int} (h0 : 0 ≤ n) (h : n ≤ 1000) {m : Nat} : Rp 30 m 10 (.int n) := Rp.int (k := 10) (by decide) (l10 h0 h) (by decide) (by decide) (by decide)
theorem rp_lot {l : Lot} (h : lb l) : Rp 30 1 33 (lotD l) := by
  refine Rp.tup (n := 0) (W := 10) (m := 3) (fun d hd => ?_) (Nat.le_refl 3) (by decide)
  simp at hd
  rcases hd with rfl | rfl | rfl
  · exact rp_int h.1.1 h.1.2
  · exact rp_int h.2.1.1 h.2.1.2
  · exact rp_int h.2.2.1 h.2.2.2
theorem rp_lots {ls : List Lot} (h : ∀ l ∈ ls, lb l) (hl : ls.length ≤ 300) : Rp 30 2 10200 (.lst (ls.map lotD)) := by
  refine Rp.lst (n := 1) (W := 33) (m := 300) (fun d hd => ?_) (by simpa using hl) (by decide)
  obtain ⟨l, hm, rfl⟩ := List.mem_map.mp hd
  exact rp_lot (h l hm)
theorem rp_lotsT {ls : List Lot} (h : ∀ l ∈ ls, lb l) (hl : ls.length ≤ 300) : Rp 30 2 10200 (.tup (ls.map lotD)) := by
  refine Rp.tup (n := 1) (W := 33) (m := 300) (fun d hd => ?_) (by simpa using hl) (by decide)
  obtain ⟨l, hm, rfl⟩ := List.mem_map.mp hd
  exact rp_lot (h l hm)
theorem rp_fc {cs : List Coin} (h : ∀ c ∈ cs, cb c) (hl : cs.length ≤ 300) : Rp 30 2 10200 (.lst ((FC cs).map lotD)) :=
  rp_lots (fc_lb cs [] (by simp) h) (by have := fewC_len cs []; unfold FC; simp at this; omega)
theorem cut_lo {α : Type} (f : α → D) (cs : List α) (n : Nat) : cutD (cs.map f) none (some (n : Int)) = (cs.take n).map f := by
  rw [cutD_map, HT.sIx_none, HT.sIx_nat]
  simp only [List.drop_zero, Nat.sub_zero]
  congr 1
  by_cases h : n ≤ cs.length
  · rw [Nat.min_eq_left h]
  · rw [Nat.min_eq_right (by omega), List.take_of_length_le (Nat.le_refl _), List.take_of_length_le (by omega)]
theorem cut_hi {α : Type} (f : α → D) (cs : List α) (n : Nat) : cutD (cs.map f) (some (n : Int)) none = (cs.drop n).map f := by
  rw [cutD_map, HT.sIx_none, HT.sIx_nat]
  congr 1
  by_cases h : n ≤ cs.length
  · rw [Nat.min_eq_left h, List.take_of_length_le (by rw [List.length_drop]; omega)]
  · rw [Nat.min_eq_right (by omega), List.drop_eq_nil_of_le (Nat.le_refl _), List.drop_eq_nil_of_le (by omega)]
    simp
theorem eq_coin (x y : Coin) : eqF (coinD x) (coinD y) = decide (x = y) := by
  obtain ⟨x1, x2⟩ := x
  obtain ⟨y1, y2⟩ := y
  simp [eqF, coinD, D.py, D.pys, PyData.eqv, PyData.eqvAll, Bool.beq_eq_decide_eq, Prod.ext_iff, Bool.decide_and]
theorem sh_coins (cs : List Coin) : Sh 64 (.lst (cs.map coinD)) := by
  refine Sh.mono (Sh.lst (n := 1) fun d hd => ?_) (by decide)
  obtain ⟨l, _, rfl⟩ := List.mem_map.mp hd
  refine Sh.tup fun e he => ?_
  simp at he
  rcases he with rfl | rfl <;> exact Sh.int
theorem q_in {f : Bool → Bool} {c : Coin} {cs : List Coin} {k : Rs → Prop} (h : k (.val (.bl (f (decide (c ∈ cs)))))) : oIn f (.tup [.int c.1, .int c.2]) (.lst (cs.map coinD)) k := by
  have hs := (sh_coins cs).shaped
  have hc : Sh 64 (coinD c) := Sh.mono (Sh.tup (n := 0) fun e he => by
    simp at he
    rcases he with rfl | rfl <;> exact Sh.int) (by decide)
  rw [D.py] at hs
  refine ⟨hc.shaped, hs, ?_⟩
  have e : ((cs.map coinD).any fun z => eqF z (.tup [.int c.1, .int c.2])) = decide (c ∈ cs) := by
    rw [Bool.eq_iff_iff, List.any_eq_true, decide_eq_true_iff]
    constructor
    · rintro ⟨z, hz, he⟩
      obtain ⟨x, hx, rfl⟩ := List.mem_map.mp hz
      have := eq_coin x c
      rw [show eqF (coinD x) (coinD c) = true from he] at this
      have h2 := of_decide_eq_true this.symm
      rw [← h2]; exact hx
    · intro hm
      exact ⟨coinD c, List.mem_map.mpr ⟨c, hm, rfl⟩, by rw [show eqF (coinD c) (.tup [.int c.1, .int c.2]) = eqF (coinD c) (coinD c) from rfl, eq_coin]; simp⟩
  rw [e]; exact h
end Cw

set_option Elab.async false
set_option linter.all false
set_option maxRecDepth 100000
set_option maxHeartbeats 4000000
namespace Cw
open PySem L2 Dl

/-- what holds of two drawn rows from the fourth statement on -/
structure Two (ls ms : List Lot) (d8 d9 : D) : Prop where
  r8 : RowOf d8 ls
  r9 : RowOf d9 ms
  b8 : ∀ l ∈ ls, lotOk l ∧ l.1 ≤ 3 ∧ l.2.2 ≤ 30
  b9 : ∀ l ∈ ms, lotOk l ∧ l.1 ≤ 3 ∧ l.2.2 ≤ 30
  n8 : ls.length ≤ 4
  n9 : ms.length ≤ 4
theorem coins_le : ∀ {ls : List Lot}, (∀ l ∈ ls, lotOk l ∧ l.1 ≤ 3 ∧ l.2.2 ≤ 30) → (coins ls).length ≤ 30 * ls.length ∧ ∀ c ∈ coins ls, cb c
  | [], _ => ⟨by simp [coins], by simp [coins]⟩
  | l :: ls, h => by
    obtain ⟨h1, h2⟩ := coins_le fun m hm => h m (List.mem_cons_of_mem _ hm)
    obtain ⟨⟨a1, a2, a3⟩, a4, a5⟩ := h l List.mem_cons_self
    have e : coins (l :: ls) = coinsL l ++ coins ls := List.flatMap_cons
    rw [e]
    refine ⟨?_, fun c hc => ?_⟩
    · rw [List.length_append, List.length_cons]
      unfold coinsL
      rw [cons_len]
      omega
    · rcases List.mem_append.mp hc with hc | hc
      · unfold coinsL at hc
        obtain ⟨c1, c2⟩ := c
        rw [mem_cons] at hc
        exact ⟨⟨by show 0 ≤ c1; omega, by show c1 ≤ 1000; omega⟩, by show 0 ≤ c2; omega, by show c2 < 1000; omega⟩
      · exact h2 c hc
theorem lot_lb {l : Lot} (h : lotOk l ∧ l.1 ≤ 3 ∧ l.2.2 ≤ 30) : lb l := by
  obtain ⟨⟨a1, a2, a3⟩, a4, a5⟩ := h
  exact ⟨⟨by omega, by omega⟩, ⟨by omega, by omega⟩, by omega, by omega⟩
section
variable {ls ms : List Lot} {d8 d9 : D} (t : Two ls ms d8 d9)
include t
theorem Two.rp8 : Rp 30 2 10200 d8 := by
  obtain ⟨rfl | rfl, _⟩ := t.r8
  · exact rp_lots (fun l hl => lot_lb (t.b8 l hl)) (by have := t.n8; omega)
  · exact rp_lotsT (fun l hl => lot_lb (t.b8 l hl)) (by have := t.n8; omega)
theorem Two.rp9 : Rp 30 2 10200 d9 := by
  obtain ⟨rfl | rfl, _⟩ := t.r9
  · exact rp_lots (fun l hl => lot_lb (t.b9 l hl)) (by have := t.n9; omega)
  · exact rp_lotsT (fun l hl => lot_lb (t.b9 l hl)) (by have := t.n9; omega)
theorem Two.rp : Rp 30 64 20402 (.lst [d8, d9]) := by
  refine Rp.mono (Rp.lst (n := 2) (W := 10200) (m := 2) (fun d hd => ?_) (Nat.le_refl 2) (by decide)) (by decide) (Nat.le_refl _)
  simp at hd
  rcases hd with rfl | rfl
  · exact t.rp8
  · exact t.rp9
theorem Two.s8 : ∀ l ∈ ls, l.2.1 < l.2.2 := fun l hl => (t.b8 l hl).1.2.2
theorem Two.s9 : ∀ l ∈ ms, l.2.1 < l.2.2 := fun l hl => (t.b9 l hl).1.2.2
end
/-- the slots from the fourth statement on -/
def ρ5 (ns : List Int) (i : Int) (L : Addr) (ls ms : List Lot) (d8 d9 : D) (x3 x4 x5 x6 x7 x13 x14 : Option Cell) : Rho :=
  [some (.sh (.fls (ns.map D.int))), some (.sh (.int i)), some (.sh (.ref L)), x3, x4, x5, x6, x7, some (.sh d8), some (.sh d9), some (.sh (shw (.lst [d8, d9]))), some (.sh (.lst ((coins ls).map coinD))), some (.sh (.lst ((coins ms).map coinD))), x13, x14]
variable {M : MC} {ns : List Int} {i : Int} {L : Addr} {ls ms : List Lot} {d8 d9 : D} {x3 x4 x5 x6 x7 x13 x14 : Option Cell} {X : XD} {E : ED}
theorem t21 (t : Two ls ms d8 d9) (h : E.nx (ρ5 ns i L ls ms d8 d9 x3 x4 x5 x6 x7 x13 x14)) : v_law_21 M (ρ5 ns i L ls ms d8 d9 x3 x4 x5 x6 x7 x13 x14) X E := by
  unfold v_law_21
  unfold ρ5 at h ⊢
  simp
  refine o_repr rfl t.rp (by decide) (by decide) ?_
  simp [shw]
  exact h
theorem t18 (t : Two ls ms d8 d9) (dr : Draw M L) {k : Rho → Prop} {rt bk} (h : ∀ y6 y14, k (ρ5 ns i L ls ms d8 d9 x3 x4 x5 y6 x7 x13 y14)) : v_law_18 M (ρ5 ns i L ls ms d8 d9 x3 x4 x5 x6 x7 x13 x14) X ⟨k, rt, bk, k⟩ := by
  unfold v_law_18 v_law_19
  unfold ρ5 at h ⊢
  simp
  refine fun M1 m1 => q_next (dr.ext m1) (by decide) (by decide) fun r1 a1 a2 => ?_
  simp
  refine fun M2 m2 => q_next (dr.ext m2) (by decide) (by decide) fun r2 b1 b2 => ?_
  simp
  refine fun _ _ => q_has t.r8 (by omega) b1 ?_
  simp
  refine fun _ _ => q_has t.r9 (by omega) b1 ?_
  rw [has_coins ls _ _ t.s8, has_coins ms _ _ t.s9]
  simp
  have rb : ∀ x y : Bool, Rp 30 64 2 (.lst [.bl x, .bl y]) := fun x y => by
    refine Rp.mono (Rp.lst (n := 0) (W := 0) (m := 2) (fun d hd => ?_) (Nat.le_refl 2) (by decide)) (by decide) (Nat.le_refl _)
    simp at hd
    rcases hd with rfl | rfl <;> exact Rp.bl
  refine o_repr rfl (rb _ _) (by decide) (by decide) ?_
  simp
  refine q_in (c := (1 + r1, r2)) ?_
  simp
  refine q_in (c := (1 + r1, r2)) ?_
  simp
  refine o_repr rfl (rb _ _) (by decide) (by decide) ?_
  simp [shw]
  exact h _ _
theorem t17 (t : Two ls ms d8 d9) (dr : Draw M L) (h : ∀ y6 y14, E.nx (ρ5 ns i L ls ms d8 d9 x3 x4 x5 y6 x7 x13 y14)) : v_law_17 M (ρ5 ns i L ls ms d8 d9 x3 x4 x5 x6 x7 x13 x14) X E := by
  unfold v_law_17
  simp
  refine ⟨⟨by decide, by decide⟩, ?_⟩
  unfold rangeD
  refine for_each (fun ρ => ∃ y6 y14, ρ = ρ5 ns i L ls ms d8 d9 x3 x4 x5 y6 x7 x13 y14) ⟨_, _, rfl⟩ ?_ ?_
  · rintro x _ ρ k ⟨y6, y14, rfl⟩ hk
    simp
    exact t18 t dr fun z6 z14 => hk _ ⟨_, _, rfl⟩
  · rintro ρ ⟨y6, y14, rfl⟩
    exact t21 (M := M) t (h _ _)
theorem q_partedF {M : MC} {d : D} {ls : List Lot} {n : Nat} {Q : Rs → Prop} {E : Ex → Prop} (r : RowOf d ls) (s : ∀ l ∈ ls, l.2.1 < l.2.2) (hn : n ≤ (coins ls).length) (h : Q (.val (.tup [.lst ((FC ((coins ls).take n)).map lotD), .lst ((FC ((coins ls).drop n)).map lotD)]))) : sp_parted M [d, .int (n : Int)] Q E := by
  refine q_parted r (by omega) (by rw [cnt_coins ls s]; omega) ?_
  obtain ⟨e1, e2⟩ := cut_few ls (n : Int) s (by omega)
  rw [e1, e2]
  exact h
theorem rp_part {cs : List Coin} (hc : ∀ c ∈ cs, cb c) (hl : cs.length ≤ 300) (n : Nat) : Rp 30 64 20402 (.tup [.lst ((FC (cs.take n)).map lotD), .lst ((FC (cs.drop n)).map lotD)]) := by
  refine Rp.mono (Rp.tup (n := 2) (W := 10200) (m := 2) (fun d hd => ?_) (Nat.le_refl 2) (by decide)) (by decide) (Nat.le_refl _)
  simp at hd
  rcases hd with rfl | rfl
  · exact rp_fc (fun c h => hc c (List.mem_of_mem_take h)) (by rw [List.length_take]; omega)
  · exact rp_fc (fun c h => hc c (List.mem_of_mem_drop h)) (by rw [List.length_drop]; omega)
theorem t14 (t : Two ls ms d8 d9) {n : Nat} (hn : n ≤ (coins ls).length) {k : Rho → Prop} {rt bk} (h : ∀ y13, k (ρ5 ns i L ls ms d8 d9 x3 x4 (some (.sh (.int (n : Int)))) x6 x7 y13 x14)) : v_law_14 M (ρ5 ns i L ls ms d8 d9 x3 x4 (some (.sh (.int (n : Int)))) x6 x7 x13 x14) X ⟨k, rt, bk, k⟩ := by
  obtain ⟨c1, c2⟩ := coins_le t.b8
  have c3 : (coins ls).length ≤ 120 := by have := t.n8; omega
  unfold v_law_14 v_law_15
  unfold ρ5 at h ⊢
  simp [cut_lo, cut_hi, -List.map_take, -List.map_drop]
  refine fun _ _ => q_few rfl (by rw [List.length_take]; omega) ?_
  simp [cut_lo, cut_hi, -List.map_take, -List.map_drop]
  refine fun _ _ => q_few rfl (by rw [List.length_drop]; omega) ?_
  simp
  refine fun _ _ => q_partedF t.r8 t.s8 hn ?_
  simp
  refine o_repr rfl (rp_part c2 (by omega) n) (by decide) (by decide) ?_
  simp
  refine o_repr rfl (rp_part c2 (by omega) n) (by decide) (by decide) ?_
  simp [shw, FC]
  refine fun _ _ => q_partedF t.r8 t.s8 hn ?_
  simp
  refine o_repr rfl (rp_part c2 (by omega) n) (by decide) (by decide) ?_
  simp
  refine o_repr rfl (rp_part c2 (by omega) n) (by decide) (by decide) ?_
  simp [shw, FC]
  exact h _

theorem t13 (t : Two ls ms d8 d9) (dr : Draw M L) {n : Nat} (hn : n ≤ (coins ls).length) (h : ∀ y5 y6 y13 y14, E.nx (ρ5 ns i L ls ms d8 d9 (some (.sh (.int (n : Int)))) x4 y5 y6 x7 y13 y14)) : v_law_13 M (ρ5 ns i L ls ms d8 d9 (some (.sh (.int (n : Int)))) x4 x5 x6 x7 x13 x14) X E := by
  unfold v_law_13
  unfold ρ5
  simp
  have e : [D.int (n : Int), D.int 0, D.int ((coins ls).length : Nat)] = [n, 0, (coins ls).length].map fun (z : Nat) => D.int (z : Int) := by simp
  rw [e]
  refine for_each (fun ρ => ∃ y5 y13, ρ = ρ5 ns i L ls ms d8 d9 (some (.sh (.int (n : Int)))) x4 y5 x6 x7 y13 x14) ⟨_, _, rfl⟩ ?_ ?_
  · rintro z hz ρ k ⟨y5, y13, rfl⟩ hk
    have hz' : z ≤ (coins ls).length := by
      simp at hz
      rcases hz with rfl | rfl | rfl
      · exact hn
      · exact Nat.zero_le _
      · exact Nat.le_refl _
    simp
    exact t14 t hz' fun z13 => hk _ ⟨_, _, rfl⟩
  · rintro ρ ⟨y5, y13, rfl⟩
    exact t17 t dr fun _ _ => h _ _ _ _
theorem q_joinedF {M : MC} {d e : D} {ls ms : List Lot} {Q : Rs → Prop} {E : Ex → Prop} (r : RowOf d ls) (r2 : RowOf e ms) (s : ∀ l ∈ ls, l.2.1 < l.2.2) (s2 : ∀ l ∈ ms, l.2.1 < l.2.2) (h : Q (.new (.lst ((FC (coins ls ++ coins ms)).map lotD)))) : sp_joined M [d, e] Q E := by
  refine q_joined r r2 ?_
  have e : few (ls ++ ms) = FC (coins ls ++ coins ms) := by
    unfold FC
    rw [← coins_append, few_coins]
    · rfl
    · intro l hl
      rcases List.mem_append.mp hl with hl | hl
      · exact s l hl
      · exact s2 l hl
  rw [e]
  exact h
theorem rowNil : RowOf (.lst []) [] := ⟨.inl rfl, by simp, Nat.zero_le _⟩
theorem rp3 {as bs cs : List Coin} (ha : ∀ c ∈ as, cb c) (hb : ∀ c ∈ bs, cb c) (hc : ∀ c ∈ cs, cb c) (la : as.length ≤ 300) (lb : bs.length ≤ 300) (lc : cs.length ≤ 300) : Rp 30 64 30603 (.lst [.lst ((FC as).map lotD), .lst ((FC bs).map lotD), .lst ((FC cs).map lotD)]) := by
  refine Rp.mono (Rp.lst (n := 2) (W := 10200) (m := 3) (fun d hd => ?_) (Nat.le_refl 3) (by decide)) (by decide) (Nat.le_refl _)
  simp at hd
  rcases hd with rfl | rfl | rfl
  · exact rp_fc ha la
  · exact rp_fc hb lb
  · exact rp_fc hc lc
theorem q_fewF {M : MC} {d : D} {cs : List Coin} {Q : Rs → Prop} {E : Ex → Prop} (hi : itemsD d = some (cs.map coinD)) (hl : cs.length ≤ 1000000) (h : Q (.new (.lst ((FC cs).map lotD)))) : sp__law_few M [d] Q E := q_few hi hl h
theorem t10 (t : Two ls ms d8 d9) (dr : Draw M L) {n : Nat} (hn : n ≤ (coins ls).length) (h : ∀ y4 y5 y6 y13 y14, E.nx (ρ5 ns i L ls ms d8 d9 (some (.sh (.int (n : Int)))) y4 y5 y6 x7 y13 y14)) : v_law_10 M (ρ5 ns i L ls ms d8 d9 (some (.sh (.int (n : Int)))) x4 x5 x6 x7 x13 x14) X E := by
  obtain ⟨c1, c2⟩ := coins_le t.b8
  obtain ⟨c3, c4⟩ := coins_le t.b9
  have l1 : (coins ls).length ≤ 120 := by have := t.n8; omega
  have l2 : (coins ms).length ≤ 120 := by have := t.n9; omega
  have m1 : ∀ c ∈ coins ls ++ coins ms, cb c := fun c hc => (List.mem_append.mp hc).elim (c2 c) (c4 c)
  have m2 : ∀ c ∈ coins ms ++ coins ls, cb c := fun c hc => (List.mem_append.mp hc).elim (c4 c) (c2 c)
  have z1 : (coins ls).length + (coins ms).length ≤ 16777216 := by omega
  have z2 : (coins ms).length + (coins ls).length ≤ 16777216 := by omega
  unfold v_law_10 v_law_11
  unfold ρ5
  simp
  refine fun _ _ => q_joinedF t.r8 t.r9 t.s8 t.s9 ?_
  simp
  refine fun _ _ => q_joinedF t.r9 t.r8 t.s9 t.s8 ?_
  simp
  refine fun _ _ => q_joinedF rowNil t.r8 (by simp) t.s8 ?_
  have e0 : coins [] ++ coins ls = coins ls := rfl
  rw [e0]
  simp
  refine o_repr rfl (rp3 m1 m2 c2 (by rw [List.length_append]; omega) (by rw [List.length_append]; omega) (by omega)) (by decide) (by decide) ?_
  simp [z1]
  refine fun _ _ => q_fewF (cs := coins ls ++ coins ms) (by simp) (by rw [List.length_append]; omega) ?_
  simp [z2]
  refine fun _ _ => q_fewF (cs := coins ms ++ coins ls) (by simp) (by rw [List.length_append]; omega) ?_
  simp
  refine fun _ _ => q_fewF (cs := coins ls) (by simp) (by omega) ?_
  simp
  refine o_repr rfl (rp3 m1 m2 c2 (by rw [List.length_append]; omega) (by rw [List.length_append]; omega) (by omega)) (by decide) (by decide) ?_
  simp [shw]
  exact t13 t dr hn fun _ _ _ _ => h _ _ _ _ _
theorem t7 (t : Two ls ms d8 d9) (dr : Draw M L) (h : ∀ y3 y4 y5 y6 y13 y14, E.nx (ρ5 ns i L ls ms d8 d9 y3 y4 y5 y6 x7 y13 y14)) : v_law_7 M (ρ5 ns i L ls ms d8 d9 x3 x4 x5 x6 x7 x13 x14) X E := by
  obtain ⟨c1, c2⟩ := coins_le t.b8
  obtain ⟨c3, c4⟩ := coins_le t.b9
  have l1 : (coins ls).length ≤ 120 := by have := t.n8; omega
  have l2 : (coins ms).length ≤ 120 := by have := t.n9; omega
  have rb : Rp 30 64 22 (.lst [.int ((coins ls).length : Nat), .int ((coins ms).length : Nat)]) := by
    refine Rp.mono (Rp.lst (n := 0) (W := 10) (m := 2) (fun d hd => ?_) (Nat.le_refl 2) (by decide)) (by decide) (Nat.le_refl _)
    simp at hd
    rcases hd with rfl | rfl
    · exact rp_int (by omega) (by omega)
    · exact rp_int (by omega) (by omega)
  unfold v_law_7 v_law_8
  unfold ρ5
  simp
  refine fun M1 m1 => q_next (dr.ext m1) (by omega) (lg (by omega) (by omega)) fun r a1 a2 => ?_
  obtain ⟨n, rfl⟩ : ∃ n : Nat, r = (n : Int) := ⟨r.toNat, by omega⟩
  simp
  refine fun _ _ => q_how_many t.r8 ?_
  simp
  refine fun _ _ => q_how_many t.r9 ?_
  rw [cnt_coins ls t.s8, cnt_coins ms t.s9]
  simp
  refine o_repr rfl rb (by decide) (by decide) ?_
  simp
  refine o_repr rfl rb (by decide) (by decide) ?_
  simp [shw]
  exact t10 t dr (n := n) (by omega) fun _ _ _ _ _ => h _ _ _ _ _ _
theorem t6 (t : Two ls ms d8 d9) (dr : Draw M L) {x10 x11 x12 c8 c9 : Option Cell} (h8 : c8 = some (.sh d8) ∨ c8 = some (.ow d8)) (h9 : c9 = some (.sh d9) ∨ c9 = some (.ow d9)) (h : ∀ y3 y4 y5 y6 y13 y14, E.nx (ρ5 ns i L ls ms d8 d9 y3 y4 y5 y6 x7 y13 y14)) :
    v_law_6 M [some (.sh (.fls (ns.map D.int))), some (.sh (.int i)), some (.sh (.ref L)), x3, x4, x5, x6, x7, c8, c9, x10, x11, x12, x13, x14] X E := by
  unfold v_law_6
  have b8 : ∀ l ∈ ls, 0 ≤ l.2.1 ∧ l.2.1 < l.2.2 ∧ l.2.2 ≤ 1000 := fun l hl => by
    obtain ⟨⟨a1, a2, a3⟩, a4, a5⟩ := t.b8 l hl
    exact ⟨a2, a3, by omega⟩
  have b9 : ∀ l ∈ ms, 0 ≤ l.2.1 ∧ l.2.1 < l.2.2 ∧ l.2.2 ≤ 1000 := fun l hl => by
    obtain ⟨⟨a1, a2, a3⟩, a4, a5⟩ := t.b9 l hl
    exact ⟨a2, a3, by omega⟩
  rcases h8 with rfl | rfl <;> rcases h9 with rfl | rfl <;>
  · simp
    refine o_repr rfl t.rp (by decide) (by decide) ?_
    simp
    refine fun _ _ => q_coins t.r8.items b8 (by have := t.n8; omega) ?_
    simp
    refine fun _ _ => q_coins t.r9.items b9 (by have := t.n9; omega) ?_
    simp
    exact t7 (x3 := x3) (x4 := x4) t dr h
end Cw

set_option Elab.async false
set_option linter.all false
set_option maxRecDepth 100000
set_option maxHeartbeats 4000000
namespace Cw
open PySem L2 Dl

variable {M : MC} {ns : List Int} {i : Int} {L : Addr} {X : XD} {E : ED}
theorem two_of {ls ms : List Lot} {d8 d9 : D} (a : Drawn 4 3 30 ls) (b : Drawn 4 3 30 ms) (h8 : d8 = .lst (ls.map lotD) ∨ d8 = .tup (ls.map lotD)) (h9 : d9 = .lst (ms.map lotD) ∨ d9 = .tup (ms.map lotD)) : Two ls ms d8 d9 :=
  ⟨⟨h8, fun l hl => (a.ok l hl).1, by have := a.len; omega⟩, ⟨h9, fun l hl => (b.ok l hl).1, by have := b.len; omega⟩, a.ok, b.ok, a.len, b.len⟩
/-- the slots at a turn's end -/
def Rest (ns : List Int) (ρ : Rho) : Prop := ∃ x1 x2 x3 x4 x5 x6 x7 x8 x9 x10 x11 x12 x13 x14, ρ = [some (.sh (.fls (ns.map D.int))), x1, x2, x3, x4, x5, x6, x7, x8, x9, x10, x11, x12, x13, x14]
theorem t3 (dr : Draw M L) {x3 x4 x5 x6 x7 x8 x9 x10 x11 x12 x13 x14 : Option Cell} (h : ∀ ρ, Rest ns ρ → E.nx ρ) :
    v_law_3 M [some (.sh (.fls (ns.map D.int))), some (.sh (.int i)), some (.sh (.ref L)), x3, x4, x5, x6, x7, x8, x9, x10, x11, x12, x13, x14] X E := by
  unfold v_law_3
  simp
  refine fun M1 m1 => q_next (dr.ext m1) (by decide) (by decide) fun r a1 a2 => ?_
  simp
  refine fun M2 m2 => q_lots (m := 4) (dr.ext m2) (by decide) (by decide) (by decide) (by decide) (by decide) fun ls dl => ?_
  simp
  refine fun M3 m3 => q_lots (m := 4) (dr.ext m3) (by decide) (by decide) (by decide) (by decide) (by decide) fun ms dm => ?_
  have dl : Drawn 4 3 30 ls := dl
  have dm : Drawn 4 3 30 ms := dm
  unfold v_law_4
  by_cases hr : r = 0
  · simp [hr]
    unfold v_law_5
    simp
    exact t6 (two_of dl dm (.inr rfl) (.inr rfl)) dr (.inl rfl) (.inl rfl) fun _ _ _ _ _ _ => h _ ⟨_, _, _, _, _, _, _, _, _, _, _, _, _, _, rfl⟩
  · simp [hr]
    exact t6 (two_of dl dm (.inl rfl) (.inl rfl)) dr (.inr rfl) (.inr rfl) fun _ _ _ _ _ _ => h _ ⟨_, _, _, _, _, _, _, _, _, _, _, _, _, _, rfl⟩
theorem fits {z : Int} (h0 : -1000 ≤ z) (h1 : z ≤ 1000) : Builtin.Range.rangeFitsLong z = true := by
  unfold Builtin.Range.rangeFitsLong
  simp
  omega
theorem rg9 (hi : Int) (h0 : 1 ≤ hi) (h1 : hi ≤ 63) : ∃ n : Nat, RgC 0 hi 9 n ∧ n ≤ 7 ∧ ∀ j : Nat, j < n → (j : Int) * 9 < hi := by
  have e : Builtin.Range.rangeSize 0 hi 9 = (hi - 0 - 1) / 9 + 1 := by
    unfold Builtin.Range.rangeSize
    rw [if_pos (by decide), if_pos (by omega)]
  refine ⟨((hi - 0 - 1) / 9 + 1).toNat, ⟨by decide, by decide, ?_, ?_⟩, by omega, fun j hj => by omega⟩
  · unfold Builtin.Range.small
    rw [fits (by omega) (by omega), fits (z := hi) (by omega) (by omega), fits (by omega) (by omega), e, fits (by omega) (by omega)]
    rw [if_pos (by decide), fits (by omega) (by omega)]
    simp
  · rw [e]; omega
theorem q_law {M : MC} {ns : List Int} {Q : Rs → Prop} {E : Ex → Prop} (hn : ns.length ≤ 63) (h : Q (.val (.bl true))) : sp_law M [.fls (ns.map D.int)] Q E := by
  unfold sp_law
  show v_law_1 M _ _ _
  unfold v_law_1
  simp
  obtain ⟨hi, ehi⟩ : ∃ hi, hi = (if (1 : Int) < (if (ns.length : Int) < 63 then (ns.length : Int) else 63) then (if (ns.length : Int) < 63 then (ns.length : Int) else 63) else 1) := ⟨_, rfl⟩
  rw [← ehi]
  have b0 : 1 ≤ hi ∧ hi ≤ 63 ∧ (ns ≠ [] → hi ≤ (ns.length : Int)) := by
    rw [ehi]
    refine ⟨by split <;> omega, by split <;> (try split) <;> omega, fun z => ?_⟩
    have : 0 < ns.length := List.length_pos_iff.mpr z
    split <;> (try split) <;> omega
  clear ehi
  obtain ⟨n, hr, h7, hj⟩ := rg9 hi b0.1 b0.2.1
  refine ⟨n, hr, ?_⟩
  unfold rangeC
  refine for_each (Rest ns) ⟨_, _, _, _, _, _, _, _, _, _, _, _, _, _, rfl⟩ ?_ ?_
  · rintro j hm ρ k ⟨x1, x2, x3, x4, x5, x6, x7, x8, x9, x10, x11, x12, x13, x14, rfl⟩ hk
    have hjn : j < n := List.mem_range.mp hm
    have hj9 := hj j hjn
    unfold v_law_2
    simp
    refine ⟨⟨ns, j * 9, by simp, by omega, hn, fun z => by have := b0.2.2 z; omega⟩, fun M1 L S I mx hS hh => ?_⟩
    simp
    exact t3 ⟨S, I, hS, hh⟩ hk
  · rintro ρ ⟨x1, x2, x3, x4, x5, x6, x7, x8, x9, x10, x11, x12, x13, x14, rfl⟩
    simp
    exact h
end Cw

set_option Elab.async false
set_option linter.all false
set_option maxRecDepth 100000
set_option maxHeartbeats 4000000
namespace Cw
open PySem PySem.Spec L2 Dl
theorem all_mk' {K : PySem.W.Frag} {h : Heap} {mg : Str → Option Value} (X : K.In h) (G : h.Ns mainGlobals mg) {fa : Addr} (hfa : mg "law" = some (.ref fa)) {f0 f1 f2 f3 f4 f5 f6 f7 f8 f9 f10 f11 f12 f13 f14 f15 f16 f17 f18 f19 : Addr}
    {od0 an0 od1 an1 od2 an2 od3 an3 od4 an4 od5 an5 od6 an6 od7 an7 od8 an8 od9 an9 od10 an10 od11 an11 od12 an12 od13 an13 od14 an14 od15 an15 od16 an16 od17 an17 od18 an18 od19 an19 : Option Addr} {sl0 sl1 sl2 sl3 sl4 sl5 sl6 sl7 sl8 sl9 sl10 sl11 sl12 sl13 sl14 sl15 sl16 sl17 sl18 sl19 : Array (Option Value)} {oc0 kV0 dc0 pm0 cd0 ct0 oc1 kV1 dc1 pm1 cd1 ct1 oc2 kV2 dc2 pm2 cd2 ct2 oc3 kV3 dc3 pm3 cd3 ct3 oc4 kV4 dc4 pm4 cd4 ct4 oc5 kV5 dc5 pm5 cd5 ct5 oc6 kV6 dc6 pm6 cd6 ct6 oc7 kV7 dc7 pm7 cd7 ct7 oc8 kV8 dc8 pm8 cd8 ct8 oc9 kV9 dc9 pm9 cd9 ct9 oc10 kV10 dc10 pm10 cd10 ct10 oc11 kV11 dc11 pm11 cd11 ct11 oc12 kV12 dc12 pm12 cd12 ct12 oc13 kV13 dc13 pm13 cd13 ct13 oc14 kV14 dc14 pm14 cd14 ct14 oc15 kV15 dc15 pm15 cd15 ct15 oc16 kV16 dc16 pm16 cd16 ct16 oc17 kV17 dc17 pm17 cd17 ct17 oc18 kV18 dc18 pm18 cd18 ct18 oc19 kV19 dc19 pm19 cd19 ct19 : Value}
    (a0 : PySem.W.nsIn K mainGlobals "is_from" = some (some (.ref f0))) (l0 : K.lookup f0 = some ⟨oc0, od0, .func (PySem.W.fnOf "is_from" "is_from" (defArgs s_is_from) (defBody s_is_from) (defScope s_is_from) .none kV0 dc0 pm0 an0 cd0 ct0), sl0⟩) (c0 : PySem.W.codeIn K cd0 "is_from" = true) (k0 : PySem.W.keepIn K (.ref f0) = true)
    (a1 : PySem.W.nsIn K mainGlobals "is_lot" = some (some (.ref f1))) (l1 : K.lookup f1 = some ⟨oc1, od1, .func (PySem.W.fnOf "is_lot" "is_lot" (defArgs s_is_lot) (defBody s_is_lot) (defScope s_is_lot) .none kV1 dc1 pm1 an1 cd1 ct1), sl1⟩) (c1 : PySem.W.codeIn K cd1 "is_lot" = true) (k1 : PySem.W.keepIn K (.ref f1) = true)
    (a2 : PySem.W.nsIn K mainGlobals "are_lots" = some (some (.ref f2))) (l2 : K.lookup f2 = some ⟨oc2, od2, .func (PySem.W.fnOf "are_lots" "are_lots" (defArgs s_are_lots) (defBody s_are_lots) (defScope s_are_lots) .none kV2 dc2 pm2 an2 cd2 ct2), sl2⟩) (c2 : PySem.W.codeIn K cd2 "are_lots" = true) (k2 : PySem.W.keepIn K (.ref f2) = true)
    (a3 : PySem.W.nsIn K mainGlobals "is_coin" = some (some (.ref f3))) (l3 : K.lookup f3 = some ⟨oc3, od3, .func (PySem.W.fnOf "is_coin" "is_coin" (defArgs s_is_coin) (defBody s_is_coin) (defScope s_is_coin) .none kV3 dc3 pm3 an3 cd3 ct3), sl3⟩) (c3 : PySem.W.codeIn K cd3 "is_coin" = true) (k3 : PySem.W.keepIn K (.ref f3) = true)
    (a4 : PySem.W.nsIn K mainGlobals "need_lots" = some (some (.ref f4))) (l4 : K.lookup f4 = some ⟨oc4, od4, .func (PySem.W.fnOf "need_lots" "need_lots" (defArgs s_need_lots) (defBody s_need_lots) (defScope s_need_lots) .none kV4 dc4 pm4 an4 cd4 ct4), sl4⟩) (c4 : PySem.W.codeIn K cd4 "need_lots" = true) (k4 : PySem.W.keepIn K (.ref f4) = true)
    (a5 : PySem.W.nsIn K mainGlobals "fewest" = some (some (.ref f5))) (l5 : K.lookup f5 = some ⟨oc5, od5, .func (PySem.W.fnOf "fewest" "fewest" (defArgs s_fewest) (defBody s_fewest) (defScope s_fewest) .none kV5 dc5 pm5 an5 cd5 ct5), sl5⟩) (c5 : PySem.W.codeIn K cd5 "fewest" = true) (k5 : PySem.W.keepIn K (.ref f5) = true)
    (a6 : PySem.W.nsIn K mainGlobals "counted" = some (some (.ref f6))) (l6 : K.lookup f6 = some ⟨oc6, od6, .func (PySem.W.fnOf "counted" "counted" (defArgs s_counted) (defBody s_counted) (defScope s_counted) .none kV6 dc6 pm6 an6 cd6 ct6), sl6⟩) (c6 : PySem.W.codeIn K cd6 "counted" = true) (k6 : PySem.W.keepIn K (.ref f6) = true)
    (a7 : PySem.W.nsIn K mainGlobals "cut" = some (some (.ref f7))) (l7 : K.lookup f7 = some ⟨oc7, od7, .func (PySem.W.fnOf "cut" "cut" (defArgs s_cut) (defBody s_cut) (defScope s_cut) .none kV7 dc7 pm7 an7 cd7 ct7), sl7⟩) (c7 : PySem.W.codeIn K cd7 "cut" = true) (k7 : PySem.W.keepIn K (.ref f7) = true)
    (a8 : PySem.W.nsIn K mainGlobals "holds_coin" = some (some (.ref f8))) (l8 : K.lookup f8 = some ⟨oc8, od8, .func (PySem.W.fnOf "holds_coin" "holds_coin" (defArgs s_holds_coin) (defBody s_holds_coin) (defScope s_holds_coin) .none kV8 dc8 pm8 an8 cd8 ct8), sl8⟩) (c8 : PySem.W.codeIn K cd8 "holds_coin" = true) (k8 : PySem.W.keepIn K (.ref f8) = true)
    (a9 : PySem.W.nsIn K mainGlobals "how_many" = some (some (.ref f9))) (l9 : K.lookup f9 = some ⟨oc9, od9, .func (PySem.W.fnOf "how_many" "how_many" (defArgs s_how_many) (defBody s_how_many) (defScope s_how_many) .none kV9 dc9 pm9 an9 cd9 ct9), sl9⟩) (c9 : PySem.W.codeIn K cd9 "how_many" = true) (k9 : PySem.W.keepIn K (.ref f9) = true)
    (a10 : PySem.W.nsIn K mainGlobals "joined" = some (some (.ref f10))) (l10 : K.lookup f10 = some ⟨oc10, od10, .func (PySem.W.fnOf "joined" "joined" (defArgs s_joined) (defBody s_joined) (defScope s_joined) .none kV10 dc10 pm10 an10 cd10 ct10), sl10⟩) (c10 : PySem.W.codeIn K cd10 "joined" = true) (k10 : PySem.W.keepIn K (.ref f10) = true)
    (a11 : PySem.W.nsIn K mainGlobals "parted" = some (some (.ref f11))) (l11 : K.lookup f11 = some ⟨oc11, od11, .func (PySem.W.fnOf "parted" "parted" (defArgs s_parted) (defBody s_parted) (defScope s_parted) .none kV11 dc11 pm11 an11 cd11 ct11), sl11⟩) (c11 : PySem.W.codeIn K cd11 "parted" = true) (k11 : PySem.W.keepIn K (.ref f11) = true)
    (a12 : PySem.W.nsIn K mainGlobals "has" = some (some (.ref f12))) (l12 : K.lookup f12 = some ⟨oc12, od12, .func (PySem.W.fnOf "has" "has" (defArgs s_has) (defBody s_has) (defScope s_has) .none kV12 dc12 pm12 an12 cd12 ct12), sl12⟩) (c12 : PySem.W.codeIn K cd12 "has" = true) (k12 : PySem.W.keepIn K (.ref f12) = true)
    (a13 : PySem.W.nsIn K mainGlobals "_law_mixed" = some (some (.ref f13))) (l13 : K.lookup f13 = some ⟨oc13, od13, .func (PySem.W.fnOf "_law_mixed" "_law_mixed" (defArgs s__law_mixed) (defBody s__law_mixed) (defScope s__law_mixed) .none kV13 dc13 pm13 an13 cd13 ct13), sl13⟩) (c13 : PySem.W.codeIn K cd13 "_law_mixed" = true) (k13 : PySem.W.keepIn K (.ref f13) = true)
    (a14 : PySem.W.nsIn K mainGlobals "_law_draw" = some (some (.ref f14))) (l14 : K.lookup f14 = some ⟨oc14, od14, .func (PySem.W.fnOf "_law_draw" "_law_draw" (defArgs s__law_draw) (defBody s__law_draw) (defScope s__law_draw) .none kV14 dc14 pm14 an14 cd14 ct14), sl14⟩) (c14 : PySem.W.codeIn K cd14 "_law_draw" = true) (k14 : PySem.W.keepIn K (.ref f14) = true)
    (a15 : PySem.W.nsIn K mainGlobals "_law_next" = some (some (.ref f15))) (l15 : K.lookup f15 = some ⟨oc15, od15, .func (PySem.W.fnOf "_law_next" "_law_next" (defArgs s__law_next) (defBody s__law_next) (defScope s__law_next) .none kV15 dc15 pm15 an15 cd15 ct15), sl15⟩) (c15 : PySem.W.codeIn K cd15 "_law_next" = true) (k15 : PySem.W.keepIn K (.ref f15) = true)
    (a16 : PySem.W.nsIn K mainGlobals "_law_lots" = some (some (.ref f16))) (l16 : K.lookup f16 = some ⟨oc16, od16, .func (PySem.W.fnOf "_law_lots" "_law_lots" (defArgs s__law_lots) (defBody s__law_lots) (defScope s__law_lots) .none kV16 dc16 pm16 an16 cd16 ct16), sl16⟩) (c16 : PySem.W.codeIn K cd16 "_law_lots" = true) (k16 : PySem.W.keepIn K (.ref f16) = true)
    (a17 : PySem.W.nsIn K mainGlobals "_law_coins" = some (some (.ref f17))) (l17 : K.lookup f17 = some ⟨oc17, od17, .func (PySem.W.fnOf "_law_coins" "_law_coins" (defArgs s__law_coins) (defBody s__law_coins) (defScope s__law_coins) .none kV17 dc17 pm17 an17 cd17 ct17), sl17⟩) (c17 : PySem.W.codeIn K cd17 "_law_coins" = true) (k17 : PySem.W.keepIn K (.ref f17) = true)
    (a18 : PySem.W.nsIn K mainGlobals "_law_few" = some (some (.ref f18))) (l18 : K.lookup f18 = some ⟨oc18, od18, .func (PySem.W.fnOf "_law_few" "_law_few" (defArgs s__law_few) (defBody s__law_few) (defScope s__law_few) .none kV18 dc18 pm18 an18 cd18 ct18), sl18⟩) (c18 : PySem.W.codeIn K cd18 "_law_few" = true) (k18 : PySem.W.keepIn K (.ref f18) = true)
    (a19 : PySem.W.nsIn K mainGlobals "law" = some (some (.ref f19))) (l19 : K.lookup f19 = some ⟨oc19, od19, .func (PySem.W.fnOf "law" "law" (defArgs s_law) (defBody s_law) (defScope s_law) .none kV19 dc19 pm19 an19 cd19 ct19), sl19⟩) (c19 : PySem.W.codeIn K cd19 "law" = true) (k19 : PySem.W.keepIn K (.ref f19) = true)
    (b_all : PySem.W.nsIn K mainGlobals "all" = some none)
    (b_any : PySem.W.nsIn K mainGlobals "any" = some none)
    (b_bool : PySem.W.nsIn K mainGlobals "bool" = some none)
    (b_int : PySem.W.nsIn K mainGlobals "int" = some none)
    (b_isinstance : PySem.W.nsIn K mainGlobals "isinstance" = some none)
    (b_len : PySem.W.nsIn K mainGlobals "len" = some none)
    (b_list : PySem.W.nsIn K mainGlobals "list" = some none)
    (b_max : PySem.W.nsIn K mainGlobals "max" = some none)
    (b_min : PySem.W.nsIn K mainGlobals "min" = some none)
    (b_range : PySem.W.nsIn K mainGlobals "range" = some none)
    (b_repr : PySem.W.nsIn K mainGlobals "repr" = some none)
    (b_sum : PySem.W.nsIn K mainGlobals "sum" = some none)
    (b_tuple : PySem.W.nsIn K mainGlobals "tuple" = some none)
    : ∃ T : Tops K mg, T.d_law.f = fa := by
  have e := hfa.symm.trans (PySem.W.mg_of X G a19)
  cases e
  refine ⟨{
    d_is_from := ⟨_, _, fun_mk (st := s_is_from) l0 c0 k0, PySem.W.mg_of X G a0⟩
    d_is_lot := ⟨_, _, fun_mk (st := s_is_lot) l1 c1 k1, PySem.W.mg_of X G a1⟩
    d_are_lots := ⟨_, _, fun_mk (st := s_are_lots) l2 c2 k2, PySem.W.mg_of X G a2⟩
    d_is_coin := ⟨_, _, fun_mk (st := s_is_coin) l3 c3 k3, PySem.W.mg_of X G a3⟩
    d_need_lots := ⟨_, _, fun_mk (st := s_need_lots) l4 c4 k4, PySem.W.mg_of X G a4⟩
    d_fewest := ⟨_, _, fun_mk (st := s_fewest) l5 c5 k5, PySem.W.mg_of X G a5⟩
    d_counted := ⟨_, _, fun_mk (st := s_counted) l6 c6 k6, PySem.W.mg_of X G a6⟩
    d_cut := ⟨_, _, fun_mk (st := s_cut) l7 c7 k7, PySem.W.mg_of X G a7⟩
    d_holds_coin := ⟨_, _, fun_mk (st := s_holds_coin) l8 c8 k8, PySem.W.mg_of X G a8⟩
    d_how_many := ⟨_, _, fun_mk (st := s_how_many) l9 c9 k9, PySem.W.mg_of X G a9⟩
    d_joined := ⟨_, _, fun_mk (st := s_joined) l10 c10 k10, PySem.W.mg_of X G a10⟩
    d_parted := ⟨_, _, fun_mk (st := s_parted) l11 c11 k11, PySem.W.mg_of X G a11⟩
    d_has := ⟨_, _, fun_mk (st := s_has) l12 c12 k12, PySem.W.mg_of X G a12⟩
    d__law_mixed := ⟨_, _, fun_mk (st := s__law_mixed) l13 c13 k13, PySem.W.mg_of X G a13⟩
    d__law_draw := ⟨_, _, fun_mk (st := s__law_draw) l14 c14 k14, PySem.W.mg_of X G a14⟩
    d__law_next := ⟨_, _, fun_mk (st := s__law_next) l15 c15 k15, PySem.W.mg_of X G a15⟩
    d__law_lots := ⟨_, _, fun_mk (st := s__law_lots) l16 c16 k16, PySem.W.mg_of X G a16⟩
    d__law_coins := ⟨_, _, fun_mk (st := s__law_coins) l17 c17 k17, PySem.W.mg_of X G a17⟩
    d__law_few := ⟨_, _, fun_mk (st := s__law_few) l18 c18 k18, PySem.W.mg_of X G a18⟩
    d_law := ⟨_, _, fun_mk (st := s_law) l19 c19 k19, PySem.W.mg_of X G a19⟩
    b_all := PySem.W.mg_none_of X G b_all
    b_any := PySem.W.mg_none_of X G b_any
    b_bool := PySem.W.mg_none_of X G b_bool
    b_int := PySem.W.mg_none_of X G b_int
    b_isinstance := PySem.W.mg_none_of X G b_isinstance
    b_len := PySem.W.mg_none_of X G b_len
    b_list := PySem.W.mg_none_of X G b_list
    b_max := PySem.W.mg_none_of X G b_max
    b_min := PySem.W.mg_none_of X G b_min
    b_range := PySem.W.mg_none_of X G b_range
    b_repr := PySem.W.mg_none_of X G b_repr
    b_sum := PySem.W.mg_none_of X G b_sum
    b_tuple := PySem.W.mg_none_of X G b_tuple
  }, rfl⟩
theorem bind_law {K : PySem.W.Frag} {mg : Str → Option Value} (T : Tops K mg) (s : Shared) (u : Value) : BindsTo s T.d_law.fd ⟨[u], []⟩ [("_law_script", u)] := by
  obtain ⟨oc, od, kV, doc, pm, an, cdv, ct, osl, e, lk, hcd⟩ := T.d_law.F.ex
  rw [e]
  exact .of_eq rfl
theorem fin_mk {P : Program} {w : World} {K : PySem.W.Frag} {mg : Str → Option Value} {fa : Addr} (hT : ∃ T : Tops K mg, T.d_law.f = fa) : ∃ fd : FuncData, (∀ (s : Shared) (u : Value), BindsTo s fd ⟨[u], []⟩ [("_law_script", u)]) ∧ ∀ base : Heap, K.In base → base.Ns mainGlobals mg → FnG P w K mg base 6 fa fd ["_law_script"] (spD K 1 sp_law) := by
  obtain ⟨T, e⟩ := hT
  exact ⟨T.d_law.fd, fun s u => bind_law T s u, fun _ _ _ => e ▸ ok_law T⟩
end Cw
open PySem PySem.W PyProof.Rows
set_option maxRecDepth 100000 in
set_option maxHeartbeats 0 in
theorem PySem.Challenge.cw_coinplace_k13_whole_coin_by_coin_holds : PySem.Challenge.rw_coinplace_k13_whole_coin_by_coin.Holds := by
  w_on; o_law; k_head; (case hw => w_witness2)
  k_fill
  refine Dl.walkG (l := PySem.Challenge.rw_coinplace_k13_whole_coin_by_coin) (n := 63) (k := 6) (x := "_law_script") (sp := Cw.sp_law) rfl (by decide) rfl ⟨rfl, by decide, by decide⟩ (fun w h Y => PySem.W.kIn_of Y) ?F (fun ns hn => Cw.q_law hn rfl)
  case F =>
    intro w mg fa h KX G hmg
    refine' Cw.fin_mk (Cw.all_mk' KX G (show mg "law" = some (Value.ref fa) from hmg) ?a0 ?l0 ?c0 ?k0 ?a1 ?l1 ?c1 ?k1 ?a2 ?l2 ?c2 ?k2 ?a3 ?l3 ?c3 ?k3 ?a4 ?l4 ?c4 ?k4 ?a5 ?l5 ?c5 ?k5 ?a6 ?l6 ?c6 ?k6 ?a7 ?l7 ?c7 ?k7 ?a8 ?l8 ?c8 ?k8 ?a9 ?l9 ?c9 ?k9 ?a10 ?l10 ?c10 ?k10 ?a11 ?l11 ?c11 ?k11 ?a12 ?l12 ?c12 ?k12 ?a13 ?l13 ?c13 ?k13 ?a14 ?l14 ?c14 ?k14 ?a15 ?l15 ?c15 ?k15 ?a16 ?l16 ?c16 ?k16 ?a17 ?l17 ?c17 ?k17 ?a18 ?l18 ?c18 ?k18 ?a19 ?l19 ?c19 ?k19 ?b_all ?b_any ?b_bool ?b_int ?b_isinstance ?b_len ?b_list ?b_max ?b_min ?b_range ?b_repr ?b_sum ?b_tuple)
    (case a0 => k_is)
    (case l0 => k_is)
    (case c0 => k_is)
    (case k0 => k_is)
    (case a1 => k_is)
    (case l1 => k_is)
    (case c1 => k_is)
    (case k1 => k_is)
    (case a2 => k_is)
    (case l2 => k_is)
    (case c2 => k_is)
    (case k2 => k_is)
    (case a3 => k_is)
    (case l3 => k_is)
    (case c3 => k_is)
    (case k3 => k_is)
    (case a4 => k_is)
    (case l4 => k_is)
    (case c4 => k_is)
    (case k4 => k_is)
    (case a5 => k_is)
    (case l5 => k_is)
    (case c5 => k_is)
    (case k5 => k_is)
    (case a6 => k_is)
    (case l6 => k_is)
    (case c6 => k_is)
    (case k6 => k_is)
    (case a7 => k_is)
    (case l7 => k_is)
    (case c7 => k_is)
    (case k7 => k_is)
    (case a8 => k_is)
    (case l8 => k_is)
    (case c8 => k_is)
    (case k8 => k_is)
    (case a9 => k_is)
    (case l9 => k_is)
    (case c9 => k_is)
    (case k9 => k_is)
    (case a10 => k_is)
    (case l10 => k_is)
    (case c10 => k_is)
    (case k10 => k_is)
    (case a11 => k_is)
    (case l11 => k_is)
    (case c11 => k_is)
    (case k11 => k_is)
    (case a12 => k_is)
    (case l12 => k_is)
    (case c12 => k_is)
    (case k12 => k_is)
    (case a13 => k_is)
    (case l13 => k_is)
    (case c13 => k_is)
    (case k13 => k_is)
    (case a14 => k_is)
    (case l14 => k_is)
    (case c14 => k_is)
    (case k14 => k_is)
    (case a15 => k_is)
    (case l15 => k_is)
    (case c15 => k_is)
    (case k15 => k_is)
    (case a16 => k_is)
    (case l16 => k_is)
    (case c16 => k_is)
    (case k16 => k_is)
    (case a17 => k_is)
    (case l17 => k_is)
    (case c17 => k_is)
    (case k17 => k_is)
    (case a18 => k_is)
    (case l18 => k_is)
    (case c18 => k_is)
    (case k18 => k_is)
    (case a19 => k_is)
    (case l19 => k_is)
    (case c19 => k_is)
    (case k19 => k_is)
    (case b_all => k_is)
    (case b_any => k_is)
    (case b_bool => k_is)
    (case b_int => k_is)
    (case b_isinstance => k_is)
    (case b_len => k_is)
    (case b_list => k_is)
    (case b_max => k_is)
    (case b_min => k_is)
    (case b_range => k_is)
    (case b_repr => k_is)
    (case b_sum => k_is)
    (case b_tuple => k_is)

