import PyProof.Rows.All
import Wide.All
import OpenK.AllK
import Wide.FinOn
import HandS.ForMost
import HandS.Slots
import HandS.SlotsOwn
import HandS.TupAny
import HandS.TupMul
import HandS.IsInst
import HandS.Walk
import HandS.Style
import HandS.Deep
import HandS.Flow
import HandS.Wide
import KE.KDictKeyed
import KE.SortData
import KE.GoesEnum
import KE.GoesMore
import KE.KDictSum
import KE.KDictCopyH
import HandS.Zip
import HandS.DictTup
import KE.DataFind
import PyProof.SeqIndex
import KE.KItemsList
import KE.KDictPairs
import KE.GoesZip
import KE.KDictZip
import HandS.DictComp
import HandS.SetTxt0
import HandS.SetFor
import HandS.Set
import HandS.Sort
import HandS.ClsMeth
import HandS.Defaults
import PySem.Challenge.RW_lateshown_k15_whole_outputs_of_trees_by
set_option Elab.async false
set_option linter.all false
set_option autoImplicit false
set_option maxRecDepth 100000
set_option maxHeartbeats 4000000
/-! the data layer, 1: heaps that grow, values as data, slots, judgements -/
namespace DL
open PySem PySem.Spec PyProof.Rows L2 SlX

abbrev D := PyData
/-- all that stands stays -/
def Ex (H H' : Hp) : Prop := ∀ (a : Addr) (o : HO), H a = some o → H' a = some o
theorem Ex.refl (H : Hp) : Ex H H := fun _ _ q => q
theorem Ex.trans {H H1 H2 : Hp} (a : Ex H H1) (b : Ex H1 H2) : Ex H H2 := fun p u q => b p u (a p u q)
theorem Ex.free {H H' : Hp} (e : Ex H H') {p : Addr} (h : H' p = none) : H p = none := by
  cases q : H p with
  | none => rfl
  | some o =>
    rw [e p o q] at h
    cases h
theorem Ex.new {H : Hp} {p : Addr} {o : HO} (h : H p = none) : Ex H (upd H p o) :=
  fun a u e => by
  rw [upd_ne (ne_of_none e h)]
  exact e
/-- B: what is known as data; H: all. From (B, H) to (B', H'): both grow, the rest of H stays as it was and apart from B' -/
structure Step (B H B' H' : Hp) : Prop where
  b : Ex B B'
  t : Ex B' H'
  f : ∀ a o, B a = none → H a = some o → B' a = none ∧ H' a = some o
theorem Step.refl {B H : Hp} (e : Ex B H) : Step B H B H := ⟨Ex.refl B, e, fun _ _ h q => ⟨h, q⟩⟩
theorem Step.trans {B H B1 H1 B2 H2 : Hp} (s : Step B H B1 H1) (t : Step B1 H1 B2 H2) : Step B H B2 H2 :=
  ⟨s.b.trans t.b, t.t, fun a o h q => let ⟨h1, q1⟩ := s.f a o h q; t.f a o h1 q1⟩
theorem Step.ex {B H B' H' : Hp} (e : Ex B H) (s : Step B H B' H') : Ex H H' := fun a o h => by
  cases q : B a with
  | none => exact (s.f a o q h).2
  | some u =>
    have h1 := e a u q
    rw [h] at h1
    cases h1
    exact s.t a _ (s.b a _ q)
theorem Step.new {B H : Hp} {p : Addr} {o : HO} (e : Ex B H) (h : H p = none) : Step B H (upd B p o) (upd H p o) := by
  have hb : B p = none := e.free h
  refine ⟨Ex.new hb, fun a u q => ?_, fun a u q z => ?_⟩
  · by_cases hp : a = p
    · subst hp
      rw [upd_same] at q ⊢
      exact q
    · rw [upd_ne hp] at q ⊢
      exact e a u q
  · have hp : a ≠ p := ne_of_none z h
    rw [upd_ne hp, upd_ne hp]
    exact ⟨q, z⟩
/-- a new object that is not (yet) data -/
theorem Step.aside {B H : Hp} {p : Addr} {o : HO} (e : Ex B H) (h : H p = none) : Step B H B (upd H p o) :=
  ⟨Ex.refl B, fun a u q => Ex.new h a u (e a u q), fun a u q z => ⟨q, Ex.new h a u z⟩⟩
/-- an object beside the data changes -/
theorem Step.mut {B0 H0 B H : Hp} {p : Addr} {o : HO} (s : Step B0 H0 B H) (hb : B p = none) (h0 : H0 p = none) : Step B0 H0 B (upd H p o) :=
  ⟨s.b, fun a u q => by rw [upd_ne (ne_of_none q hb)]; exact s.t a u q, fun a u q z => by
    obtain ⟨h1, h2⟩ := s.f a u q z
    exact ⟨h1, by rw [upd_ne (ne_of_none z h0)]; exact h2⟩⟩
/-- it becomes data -/
theorem Step.fix {B0 H0 B H : Hp} {p : Addr} {o : HO} (s : Step B0 H0 B H) (hb : B p = none) (h0 : H0 p = none) (hp : H p = some o) : Step B0 H0 (upd B p o) H :=
  ⟨s.b.trans (Ex.new hb), fun a u q => by
    by_cases e : a = p
    · subst e
      rw [upd_same] at q
      rw [hp]
      exact q
    · rw [upd_ne e] at q
      exact s.t a u q, fun a u q z => by
    obtain ⟨h1, h2⟩ := s.f a u q z
    exact ⟨by rw [upd_ne (ne_of_none z h0)]; exact h1, h2⟩⟩

/-! ### values as data -/
theorem Ex.rd {H H' : Hp} {a : Addr} {u : HO} (e : Ex H H') (h : Rd H a u) : Rd H' a u := by
  rcases h with h | ⟨o, h⟩
  · exact Or.inl (e a _ h)
  · exact Or.inr ⟨o, e a _ h⟩
theorem Ex.l {K : PySem.W.Frag} {H H' : Hp} {a : Addr} {xs : List V} (e : Ex H H') (h : SqL K H a xs) : SqL K H' a xs := by
  rcases h with h | h
  · exact Or.inl (e.rd h)
  · exact Or.inr h
theorem Ex.u {K : PySem.W.Frag} {H H' : Hp} {a : Addr} {xs : List V} (e : Ex H H') (h : SqT K H a xs) : SqT K H' a xs := by
  rcases h with h | h
  · exact Or.inl (e.rd h)
  · exact Or.inr h
theorem sl_of {K : PySem.W.Frag} {H : Hp} {a : Addr} {xs : List V} (h : H a = some (.lst xs)) : SqL K H a xs := Or.inl (Or.inl h)
theorem su_of {K : PySem.W.Frag} {H : Hp} {a : Addr} {xs : List V} (h : H a = some (.tup xs)) : SqT K H a xs := Or.inl (Or.inl h)

/-- a tuple whose object is known: it has no dict of its own -/
def TupAt (H : Hp) (a : Addr) (xs : List V) : Prop := ∃ o, H a = some (.frz o (.tup xs)) ∧ o.dict = none
theorem TupAt.mono {H H' : Hp} {a : Addr} {xs : List V} (e : Ex H H') (h : TupAt H a xs) : TupAt H' a xs :=
  let ⟨o, h1, h2⟩ := h; ⟨o, e _ _ h1, h2⟩
theorem TupAt.sq {K : PySem.W.Frag} {H : Hp} {a : Addr} {xs : List V} (h : TupAt H a xs) : SqT K H a xs :=
  let ⟨o, h1, _⟩ := h; Or.inl (Or.inr ⟨o, h1⟩)
mutual
inductive Dt (H : Hp) : V → D → Prop
  | non : Dt H .non .none
  | bl (b : Bool) : Dt H (.bl b) (.bool b)
  | int (i : Int) : Dt H (.int i) (.int i)
  | str (x : Str) : Dt H (.str x) (.str x)
  | lst {a : Addr} {xs : List V} {ds : List D} : H a = some (.lst xs) → DtAll H xs ds → Dt H (.ref a) (.list ds)
  | tup {a : Addr} {xs : List V} {ds : List D} : TupAt H a xs → DtAll H xs ds → Dt H (.ref a) (.tuple ds)
inductive DtAll (H : Hp) : List V → List D → Prop
  | nil : DtAll H [] []
  | cons {v : V} {vs : List V} {d : D} {ds : List D} : Dt H v d → DtAll H vs ds → DtAll H (v :: vs) (d :: ds)
end
mutual
theorem dt_dp {K : PySem.W.Frag} {H : Hp} : ∀ (d : D) (v : V), Dt H v d → Dp K H v d
  | .none, _, h => by cases h; exact .non
  | .bool b, _, h => by cases h; exact .bl b
  | .int i, _, h => by cases h; exact .int i
  | .str x, _, h => by cases h; exact .str x
  | .list ds, _, h => by
    cases h with
    | lst hs ha => exact .lst (sl_of hs) (dtall_dp ds _ ha)
  | .tuple ds, _, h => by
    cases h with
    | tup hs ha => exact .tup hs.sq (dtall_dp ds _ ha)
  | .dict _, _, h => by cases h
theorem dtall_dp {K : PySem.W.Frag} {H : Hp} : ∀ (ds : List D) (vs : List V), DtAll H vs ds → DpAll K H vs ds
  | [], _, h => by cases h; exact .nil
  | d :: ds, _, h => by
    cases h with
    | cons h1 h2 => exact .cons (dt_dp d _ h1) (dtall_dp ds _ h2)
end
mutual
theorem dt_mono {H H' : Hp} (e : Ex H H') : ∀ (d : D) (v : V), Dt H v d → Dt H' v d
  | .none, _, h => by cases h; exact .non
  | .bool b, _, h => by cases h; exact .bl b
  | .int i, _, h => by cases h; exact .int i
  | .str x, _, h => by cases h; exact .str x
  | .list ds, _, h => by
    cases h with
    | lst hs ha => exact .lst (e _ _ hs) (dtall_mono e ds _ ha)
  | .tuple ds, _, h => by
    cases h with
    | tup hs ha => exact .tup (hs.mono e) (dtall_mono e ds _ ha)
  | .dict _, _, h => by cases h
theorem dtall_mono {H H' : Hp} (e : Ex H H') : ∀ (ds : List D) (vs : List V), DtAll H vs ds → DtAll H' vs ds
  | [], _, h => by cases h; exact .nil
  | d :: ds, _, h => by
    cases h with
    | cons h1 h2 => exact .cons (dt_mono e d _ h1) (dtall_mono e ds _ h2)
end
section
variable {H H' : Hp}
theorem dtall_len : ∀ {ds : List D} {vs : List V}, DtAll H vs ds → vs.length = ds.length
  | [], _, h => by cases h; rfl
  | d :: ds, _, h => by
    cases h with
    | cons h1 h2 => rw [List.length_cons, List.length_cons, dtall_len h2]
theorem dtall_get : ∀ {ds : List D} {vs : List V} {i : Nat} {v : V}, DtAll H vs ds → vs[i]? = some v → ∃ d, ds[i]? = some d ∧ Dt H v d
  | [], _, _, _, h, e => by
    cases h
    cases e
  | d :: ds, _, i, v, h, e => by
    cases h with
    | cons h1 h2 =>
      cases i with
      | zero =>
        cases e
        exact ⟨d, rfl, h1⟩
      | succ i => exact dtall_get (i := i) h2 e
theorem dtall_at : ∀ {ds : List D} {vs : List V} {i : Nat} {d : D}, DtAll H vs ds → ds[i]? = some d → ∃ v, vs[i]? = some v ∧ Dt H v d
  | [], _, _, _, h, e => by cases e
  | d :: ds, _, i, v, h, e => by
    cases h with
    | cons h1 h2 =>
      cases i with
      | zero =>
        cases e
        exact ⟨_, rfl, h1⟩
      | succ i => exact dtall_at (i := i) h2 e
theorem dtall_append : ∀ {ds es : List D} {vs ws : List V}, DtAll H vs ds → DtAll H ws es → DtAll H (vs ++ ws) (ds ++ es)
  | [], _, _, _, h, k => by
    cases h
    exact k
  | d :: ds, _, _, _, h, k => by
    cases h with
    | cons h1 h2 => exact .cons h1 (dtall_append h2 k)
theorem dtall_one {v : V} {d : D} (h : Dt H v d) : DtAll H [v] [d] := .cons h .nil
theorem dtall_drop : ∀ {ds : List D} {vs : List V} (n : Nat), DtAll H vs ds → DtAll H (vs.drop n) (ds.drop n)
  | _, _, 0, h => h
  | [], _, n + 1, h => by
    cases h
    exact .nil
  | d :: ds, _, n + 1, h => by
    cases h with
    | cons h1 h2 => exact dtall_drop n h2
theorem dtall_take : ∀ {ds : List D} {vs : List V} (n : Nat), DtAll H vs ds → DtAll H (vs.take n) (ds.take n)
  | _, _, 0, h => .nil
  | [], _, n + 1, h => by
    cases h
    exact .nil
  | d :: ds, _, n + 1, h => by
    cases h with
    | cons h1 h2 => exact .cons h1 (dtall_take n h2)
theorem dtall_reverse {ds : List D} {vs : List V} (h : DtAll H vs ds) : DtAll H vs.reverse ds.reverse := by
  induction ds generalizing vs with
  | nil =>
    cases h
    exact .nil
  | cons d ds ih =>
    cases h with
    | cons h1 h2 =>
      rw [List.reverse_cons, List.reverse_cons]
      exact dtall_append (ih h2) (dtall_one h1)
theorem dtall_set : ∀ {ds : List D} {vs : List V} (n : Nat) {v : V} {d : D}, DtAll H vs ds → Dt H v d → DtAll H (vs.set n v) (ds.set n d)
  | [], _, n, _, _, h, k => by
    cases h
    exact .nil
  | d :: ds, _, 0, _, _, h, k => by
    cases h with
    | cons h1 h2 => exact .cons k h2
  | d :: ds, _, n + 1, _, _, h, k => by
    cases h with
    | cons h1 h2 => exact .cons h1 (dtall_set n h2 k)
theorem dtall_eraseIdx : ∀ {ds : List D} {vs : List V} (n : Nat), DtAll H vs ds → DtAll H (vs.eraseIdx n) (ds.eraseIdx n)
  | [], _, n, h => by
    cases h
    exact .nil
  | d :: ds, _, 0, h => by
    cases h with
    | cons h1 h2 => exact h2
  | d :: ds, _, n + 1, h => by
    cases h with
    | cons h1 h2 => exact .cons h1 (dtall_eraseIdx n h2)
theorem dtall_rep {ds : List D} {vs : List V} (h : DtAll H vs ds) : ∀ n : Nat, DtAll H (List.replicate n vs).flatten (List.replicate n ds).flatten
  | 0 => .nil
  | n + 1 => by
    rw [List.replicate_succ, List.replicate_succ, List.flatten_cons, List.flatten_cons]
    exact dtall_append h (dtall_rep h n)
end

/-- what stands for a value: data; a Program by its deeds; dicts with text keys; with tuple keys; with tuple keys and dicts for values -/
inductive DV where
  | d (x : D)
  | ob (x : D)
  | dk (kvs : List (Str × D))
  | dn (kvs : List (NestedKey × D))
  | dnk (kvs : List (NestedKey × List (Str × D)))
  | scr (ns : List Int)
  | at (a : Addr)
structure Ct where
  P : Program
  w : World
  K : PySem.W.Frag
  C : Addr
/-- the object of a dict with tuple keys: key, the key's own tuple, value -/
def DkO (P : Program) (w : World) (a : Addr) (xs : List (NestedKey × Addr × V)) : HO := .ext fun h => ∃ vs : List Value, Vals (xs.map fun x => x.2.2) vs ∧ xs.length ≤ sizeLine ∧ (a == sysModules) = false ∧
  ∃ o es ep, h.get? a = some o ∧ o.ExactDict ∧ o.data = .dict es ep ∧ es.toList = List.zipWith (fun (x : NestedKey × Addr × V) v => entryOfKey (nestedKind P w) (x.1, x.2.1, v)) xs vs ∧ (∀ x ∈ xs, x.1.depth ≤ 8) ∧ (xs.map (·.1)).Nodup
/-- a dict with text keys -/
def IsK (H : Hp) (v : V) (kvs : List (Str × D)) : Prop := ∃ a o ks, v = .ref a ∧ H a = some (.frz o (.dK ks)) ∧ Paired (fun (p : Key × V) (q : Str × D) => p.1 = Sum.inr q.1 ∧ Dt H p.2 q.2) ks kvs
def IsN (c : Ct) (H : Hp) {β : Type} (R : V → β → Prop) (v : V) (kvs : List (NestedKey × β)) : Prop :=
  ∃ a xs, v = .ref a ∧ H a = some (DkO c.P c.w a xs) ∧ Paired (fun (p : NestedKey × Addr × V) (q : NestedKey × β) => p.1 = q.1 ∧ Dt H (.ref p.2.1) p.1.data ∧ R p.2.2 q.2) xs kvs
def Rp (c : Ct) (H : Hp) (v : V) : DV → Prop
  | .d x => Dt H v x
  | .ob x => ∃ a dx u, v = .ref a ∧ H a = some (SlO a c.C dx [some u]) ∧ H dx = some (.xd []) ∧ Dt H u x
  | .dk kvs => IsK H v kvs
  | .dn kvs => IsN c H (Dt H) v kvs
  | .dnk kvs => IsN c H (IsK H) v kvs
  | .scr ns => ∃ a, v = .ref a ∧ SqL c.K H a (ns.map V.int)
  | .at a => v = .ref a
theorem isK_mono {H H' : Hp} {v : V} {kvs : List (Str × D)} (e : Ex H H') (h : IsK H v kvs) : IsK H' v kvs := by
  obtain ⟨a, o, ks, rfl, h1, h2⟩ := h
  exact ⟨a, o, ks, rfl, e _ _ h1, Paired.mapP h2 fun p q r => ⟨r.1, dt_mono e _ _ r.2⟩⟩
theorem isN_mono {c : Ct} {H H' : Hp} {β : Type} {R R' : V → β → Prop} {v : V} {kvs : List (NestedKey × β)} (e : Ex H H') (hR : ∀ v b, R v b → R' v b) (h : IsN c H R v kvs) : IsN c H' R' v kvs := by
  obtain ⟨a, xs, rfl, h1, h2⟩ := h
  exact ⟨a, xs, rfl, e _ _ h1, Paired.mapP h2 fun p q r => ⟨r.1, dt_mono e _ _ r.2.1, hR _ _ r.2.2⟩⟩
theorem rp_mono {c : Ct} {H H' : Hp} {v : V} (e : Ex H H') : ∀ {x : DV}, Rp c H v x → Rp c H' v x
  | .d x, h => dt_mono e x v h
  | .ob x, h => by
    obtain ⟨a, dx, u, rfl, h1, h2, h3⟩ := h
    exact ⟨a, dx, u, rfl, e _ _ h1, e _ _ h2, dt_mono e _ _ h3⟩
  | .dk kvs, h => isK_mono e h
  | .dn kvs, h => isN_mono e (fun v b q => dt_mono e b v q) h
  | .dnk kvs, h => isN_mono e (fun v b q => isK_mono e q) h
  | .scr ns, h => by
    obtain ⟨a, rfl, h1⟩ := h
    exact ⟨a, rfl, e.l h1⟩
  | .at a, h => h

/-! ### slots -/
/-- a slot: unknown; a value that never changes; a list, a dict of one's own that changes -/
inductive Sl where
  | no
  | i (x : DV)
  | ml (xs : List D)
  | mk (kvs : List (Str × D))
  | mn (kvs : List (NestedKey × D))
def Sl.mut : Sl → Bool
  | .no => false
  | .i _ => false
  | _ => true
def SlOk (c : Ct) (H0 B H : Hp) (o : Option V) : Sl → Prop
  | .no => True
  | .i x => ∃ v, o = some v ∧ Rp c B v x
  | .ml xs => ∃ a vs, o = some (.ref a) ∧ B a = none ∧ H0 a = none ∧ H a = some (.lst vs) ∧ DtAll B vs xs
  | .mk kvs => ∃ a ks, o = some (.ref a) ∧ B a = none ∧ H0 a = none ∧ H a = some (.dK ks) ∧ Paired (fun (p : Key × V) (q : Str × D) => p.1 = Sum.inr q.1 ∧ Dt B p.2 q.2) ks kvs
  | .mn kvs => ∃ a xs, o = some (.ref a) ∧ B a = none ∧ H0 a = none ∧ H a = some (DkO c.P c.w a xs) ∧ Paired (fun (p : NestedKey × Addr × V) (q : NestedKey × D) => p.1 = q.1 ∧ Dt B (.ref p.2.1) p.1.data ∧ Dt B p.2.2 q.2) xs kvs
structure EnvOk (c : Ct) (H0 B H : Hp) (σ : L2.St) (ρ : List Sl) : Prop where
  len : σ.length = ρ.length
  at_ : ∀ (i : Nat) (s : Sl), ρ[i]? = some s → SlOk c H0 B H (σ[i]?).join s
  dis : ∀ (i j : Nat) (s t : Sl) (a : Addr), i ≠ j → ρ[i]? = some s → ρ[j]? = some t → s.mut = true → t.mut = true → (σ[i]?).join = some (.ref a) → (σ[j]?).join = some (.ref a) → False
theorem SlOk.step {c : Ct} {H0 B H B' H' : Hp} {o : Option V} (st : Step B H B' H') : ∀ {s : Sl}, SlOk c H0 B H o s → SlOk c H0 B' H' o s
  | .no, _ => True.intro
  | .i x, h => by
    obtain ⟨v, e, r⟩ := h
    exact ⟨v, e, rp_mono st.b r⟩
  | .ml xs, h => by
    obtain ⟨a, vs, e, h1, h2, h3, h4⟩ := h
    obtain ⟨q1, q2⟩ := st.f a _ h1 h3
    exact ⟨a, vs, e, q1, h2, q2, dtall_mono st.b _ _ h4⟩
  | .mk kvs, h => by
    obtain ⟨a, ks, e, h1, h2, h3, h4⟩ := h
    obtain ⟨q1, q2⟩ := st.f a _ h1 h3
    exact ⟨a, ks, e, q1, h2, q2, Paired.mapP h4 fun p q r => ⟨r.1, dt_mono st.b _ _ r.2⟩⟩
  | .mn kvs, h => by
    obtain ⟨a, xs, e, h1, h2, h3, h4⟩ := h
    obtain ⟨q1, q2⟩ := st.f a _ h1 h3
    exact ⟨a, xs, e, q1, h2, q2, Paired.mapP h4 fun p q r => ⟨r.1, dt_mono st.b _ _ r.2.1, dt_mono st.b _ _ r.2.2⟩⟩
theorem EnvOk.step {c : Ct} {H0 B H B' H' : Hp} {σ : L2.St} {ρ : List Sl} (e : EnvOk c H0 B H σ ρ) (st : Step B H B' H') : EnvOk c H0 B' H' σ ρ :=
  ⟨e.len, fun i s h => (e.at_ i s h).step st, e.dis⟩
theorem get_join_set {σ : L2.St} {i j : Nat} {v : Option V} : ((σ.set i v)[j]?).join = if i = j ∧ i < σ.length then v else (σ[j]?).join := by
  rw [List.getElem?_set]
  by_cases h : i = j
  · subst h
    rw [if_pos rfl]
    by_cases h2 : i < σ.length
    · rw [if_pos h2, if_pos ⟨rfl, h2⟩]
      rfl
    · rw [if_neg h2, if_neg (fun q => h2 q.2), List.getElem?_eq_none (by omega)]
  · rw [if_neg h, if_neg (fun q => h q.1)]
/-- a slot gets a value that is data -/
theorem EnvOk.set {c : Ct} {H0 B H : Hp} {σ : L2.St} {ρ : List Sl} {v : V} {x : DV} (e : EnvOk c H0 B H σ ρ) (i : Nat) (r : Rp c B v x) : EnvOk c H0 B H (σ.set i (some v)) (ρ.set i (.i x)) := by
  refine ⟨by rw [List.length_set, List.length_set]; exact e.len, fun j s h => ?_, fun j l s t a hjl hs ht ms mt h1 h2 => ?_⟩
  · rw [get_join_set, e.len]
    rw [List.getElem?_set] at h
    by_cases hij : i = j
    · subst hij
      by_cases hl : i < ρ.length
      · rw [if_pos rfl, if_pos hl] at h
        cases h
        rw [if_pos ⟨rfl, hl⟩]
        exact ⟨v, rfl, r⟩
      · rw [if_pos rfl, if_neg hl] at h
        cases h
    · rw [if_neg hij] at h
      rw [if_neg fun q => hij q.1]
      exact e.at_ j s h
  · have key : ∀ (j : Nat) (s : Sl), (ρ.set i (.i x))[j]? = some s → s.mut = true → i ≠ j ∧ ρ[j]? = some s := fun j s h m => by
      rw [List.getElem?_set] at h
      by_cases hij : i = j
      · rw [if_pos hij] at h
        by_cases hl : i < ρ.length
        · rw [if_pos hl] at h
          cases h
          cases m
        · rw [if_neg hl] at h
          cases h
      · rw [if_neg hij] at h
        exact ⟨hij, h⟩
    obtain ⟨n1, g1⟩ := key j s hs ms
    obtain ⟨n2, g2⟩ := key l t ht mt
    rw [get_join_set, if_neg fun q => n1 q.1] at h1
    rw [get_join_set, if_neg fun q => n2 q.1] at h2
    exact e.dis j l s t a hjl g1 g2 ms mt h1 h2
/-- the address of a changing slot is its own -/
theorem SlOk.addr {c : Ct} {H0 B H : Hp} {o : Option V} {s : Sl} (h : SlOk c H0 B H o s) (m : s.mut = true) : ∃ a, o = some (.ref a) ∧ B a = none ∧ H0 a = none ∧ ∃ u, H a = some u := by
  cases s with
  | no => exact Bool.noConfusion m
  | i x => exact Bool.noConfusion m
  | ml xs =>
    obtain ⟨a, vs, e, h1, h2, h3, h4⟩ := h
    exact ⟨a, e, h1, h2, _, h3⟩
  | mk kvs =>
    obtain ⟨a, vs, e, h1, h2, h3, h4⟩ := h
    exact ⟨a, e, h1, h2, _, h3⟩
  | mn kvs =>
    obtain ⟨a, vs, e, h1, h2, h3, h4⟩ := h
    exact ⟨a, e, h1, h2, _, h3⟩
theorem SlOk.mutate {c : Ct} {H0 B H : Hp} {o : Option V} {p : Addr} {u : HO} (hp : o ≠ some (.ref p)) : ∀ {s : Sl}, SlOk c H0 B H o s → SlOk c H0 B (upd H p u) o s
  | .no, _ => True.intro
  | .i x, h => h
  | .ml xs, h => by
    obtain ⟨a, vs, e, h1, h2, h3, h4⟩ := h
    exact ⟨a, vs, e, h1, h2, by rw [upd_ne (fun q => hp (by rw [e, q]))]; exact h3, h4⟩
  | .mk kvs, h => by
    obtain ⟨a, vs, e, h1, h2, h3, h4⟩ := h
    exact ⟨a, vs, e, h1, h2, by rw [upd_ne (fun q => hp (by rw [e, q]))]; exact h3, h4⟩
  | .mn kvs, h => by
    obtain ⟨a, vs, e, h1, h2, h3, h4⟩ := h
    exact ⟨a, vs, e, h1, h2, by rw [upd_ne (fun q => hp (by rw [e, q]))]; exact h3, h4⟩
/-- the object of a changing slot changes -/
theorem EnvOk.mutate {c : Ct} {H0 B H : Hp} {σ : L2.St} {ρ : List Sl} {i : Nat} {s s' : Sl} {a : Addr} {u : HO} (e : EnvOk c H0 B H σ ρ) (hs : ρ[i]? = some s) (ms : s.mut = true) (ha : (σ[i]?).join = some (.ref a))
    (h' : SlOk c H0 B (upd H a u) (some (.ref a)) s') (ms' : s'.mut = true) : EnvOk c H0 B (upd H a u) σ (ρ.set i s') := by
  have hl : i < ρ.length := (List.getElem?_eq_some_iff.mp hs).1
  refine ⟨by rw [List.length_set]; exact e.len, fun j t h => ?_, fun j l t t' b hjl ht ht' mt mt' h1 h2 => ?_⟩
  · rw [List.getElem?_set] at h
    by_cases hij : i = j
    · subst hij
      rw [if_pos rfl, if_pos hl] at h
      cases h
      rw [ha]
      exact h'
    · rw [if_neg hij] at h
      have q := e.at_ j t h
      cases mt : t.mut with
      | true => exact q.mutate fun z => e.dis i j s t a hij hs h ms mt ha z
      | false =>
        cases t with
        | no => exact True.intro
        | i x => exact q
        | ml _ => cases mt
        | mk _ => cases mt
        | mn _ => cases mt
  · have key : ∀ (j : Nat) (t : Sl), (ρ.set i s')[j]? = some t → t.mut = true → ∃ t0, ρ[j]? = some t0 ∧ t0.mut = true := fun j t h m => by
      rw [List.getElem?_set] at h
      by_cases hij : i = j
      · subst hij
        exact ⟨s, hs, ms⟩
      · rw [if_neg hij] at h
        exact ⟨t, h, m⟩
    obtain ⟨t0, g0, m0⟩ := key j t ht mt
    obtain ⟨t1, g1, m1⟩ := key l t' ht' mt'
    exact e.dis j l t0 t1 b hjl g0 g1 m0 m1 h1 h2
/-- less may be known -/
theorem EnvOk.forget {c : Ct} {H0 B H : Hp} {σ : L2.St} {ρ : List Sl} (e : EnvOk c H0 B H σ ρ) (i : Nat) : EnvOk c H0 B H σ (ρ.set i .no) := by
  have key : ∀ (j : Nat) (t : Sl), (ρ.set i .no)[j]? = some t → t = .no ∨ ρ[j]? = some t := fun j t h => by
    rw [List.getElem?_set] at h
    by_cases hij : i = j
    · rw [if_pos hij] at h
      by_cases hl : i < ρ.length
      · rw [if_pos hl] at h
        exact .inl (Option.some.inj h).symm
      · rw [if_neg hl] at h
        cases h
    · rw [if_neg hij] at h
      exact .inr h
  refine ⟨by rw [List.length_set]; exact e.len, fun j s h => ?_, fun j l s t a hjl hs ht ms mt h1 h2 => ?_⟩
  · rcases key j s h with rfl | h
    · exact True.intro
    · exact e.at_ j s h
  · rcases key j s hs with rfl | hs
    · cases ms
    · rcases key l t ht with rfl | ht
      · cases mt
      · exact e.dis j l s t a hjl hs ht ms mt h1 h2
/-- .. and any value may stand there -/
theorem EnvOk.any {c : Ct} {H0 B H : Hp} {σ : L2.St} {ρ : List Sl} (e : EnvOk c H0 B H σ ρ) (i : Nat) (v : Option V) : EnvOk c H0 B H (σ.set i v) (ρ.set i .no) := by
  have key : ∀ (j : Nat) (t : Sl), (ρ.set i .no)[j]? = some t → t = .no ∨ (i ≠ j ∧ ρ[j]? = some t) := fun j t h => by
    rw [List.getElem?_set] at h
    by_cases hij : i = j
    · rw [if_pos hij] at h
      by_cases hl : i < ρ.length
      · rw [if_pos hl] at h
        exact .inl (Option.some.inj h).symm
      · rw [if_neg hl] at h
        cases h
    · rw [if_neg hij] at h
      exact .inr ⟨hij, h⟩
  refine ⟨by rw [List.length_set, List.length_set]; exact e.len, fun j s h => ?_, fun j l s t a hjl hs ht ms mt h1 h2 => ?_⟩
  · rcases key j s h with rfl | ⟨n, h⟩
    · exact True.intro
    · rw [get_join_set, if_neg fun q => n q.1]
      exact e.at_ j s h
  · rcases key j s hs with rfl | ⟨n1, hs⟩
    · cases ms
    · rcases key l t ht with rfl | ⟨n2, ht⟩
      · cases mt
      · rw [get_join_set, if_neg fun q => n1 q.1] at h1
        rw [get_join_set, if_neg fun q => n2 q.1] at h2
        exact e.dis j l s t a hjl hs ht ms mt h1 h2
/-- a new object of one's own stands in a slot -/
theorem EnvOk.setNew {c : Ct} {H0 B H : Hp} {σ : L2.St} {ρ : List Sl} {i : Nat} {s : Sl} {a : Addr} {u : HO} (e : EnvOk c H0 B H σ ρ) (ex : Ex B H) (ha : H a = none) (h' : SlOk c H0 B (upd H a u) (some (.ref a)) s) :
    EnvOk c H0 B (upd H a u) (σ.set i (some (.ref a))) (ρ.set i s) := by
  have e1 : EnvOk c H0 B (upd H a u) σ ρ := e.step (Step.aside ex ha)
  have key : ∀ (j : Nat) (t : Sl), (ρ.set i s)[j]? = some t → (i = j ∧ t = s ∧ i < ρ.length) ∨ (i ≠ j ∧ ρ[j]? = some t) := fun j t h => by
    rw [List.getElem?_set] at h
    by_cases hij : i = j
    · rw [if_pos hij] at h
      by_cases hl : i < ρ.length
      · rw [if_pos hl] at h
        exact .inl ⟨hij, (Option.some.inj h).symm, hl⟩
      · rw [if_neg hl] at h
        cases h
    · rw [if_neg hij] at h
      exact .inr ⟨hij, h⟩
  have old : ∀ (j : Nat) (t : Sl), ρ[j]? = some t → t.mut = true → (σ[j]?).join = some (.ref a) → False := fun j t h m q => by
    obtain ⟨b, hb, _, _, u', hu⟩ := (e.at_ j t h).addr m
    rw [hb] at q
    cases q
    rw [ha] at hu
    cases hu
  refine ⟨by rw [List.length_set, List.length_set]; exact e.len, fun j t h => ?_, fun j l t t' b hjl ht ht' mt mt' h1 h2 => ?_⟩
  · rcases key j t h with ⟨rfl, rfl, hl⟩ | ⟨n, h⟩
    · rw [get_join_set, e.len, if_pos ⟨rfl, hl⟩]
      exact h'
    · rw [get_join_set, if_neg fun q => n q.1]
      exact e1.at_ j t h
  · rcases key j t ht with ⟨rfl, rfl, hl⟩ | ⟨n1, ht⟩
    · rcases key l t' ht' with ⟨rfl, _, _⟩ | ⟨n2, ht'⟩
      · exact hjl rfl
      · rw [get_join_set, e.len, if_pos ⟨rfl, hl⟩] at h1
        rw [get_join_set, if_neg fun q => n2 q.1] at h2
        cases h1
        exact old l t' ht' mt' h2
    · rw [get_join_set, if_neg fun q => n1 q.1] at h1
      rcases key l t' ht' with ⟨rfl, rfl, hl⟩ | ⟨n2, ht'⟩
      · rw [get_join_set, e.len, if_pos ⟨rfl, hl⟩] at h2
        cases h2
        rw [List.getElem?_set_ne n1] at ht
        exact old j t ht mt h1
      · rw [get_join_set, if_neg fun q => n2 q.1] at h2
        exact e.dis j l t t' b hjl ht ht' mt mt' h1 h2

/-! ### judgements -/
abbrev ct (X : Cx) (C : Addr) : Ct := ⟨X.prog, X.w, X.K, C⟩
def tD (c : Ct) (ρ : List Sl) (x : DV) : TE := fun σ H Q => ∃ H0 B, Ex B H ∧ EnvOk c H0 B H σ ρ ∧ ∀ v B' H', Step B H B' H' → Rp c B' v x → Q v H'
def tDT (c : Ct) (ρ : List Sl) (b : Bool) : TT := fun σ H Q => ∃ H0 B, Ex B H ∧ EnvOk c H0 B H σ ρ ∧ ∀ B' H', Step B H B' H' → Q b H'
def tDA (c : Ct) (ρ : List Sl) (xs : List DV) : TA := fun σ H Q => ∃ H0 B, Ex B H ∧ EnvOk c H0 B H σ ρ ∧ ∀ vs B' H', Step B H B' H' → Paired (Rp c B') vs xs → Q vs H'
/-- e is x; t's answer is b; the arguments are xs -/
def Ev (C : Addr) (X : Cx) (e : Expr) (ρ : List Sl) (x : DV) : Prop := PE X e (tD (ct X C) ρ x)
def EvT (C : Addr) (X : Cx) (e : Expr) (ρ : List Sl) (b : Bool) : Prop := PT X e (tDT (ct X C) ρ b)
def EvW (C : Addr) (X : Cx) (e : Expr) (ρ : List Sl) (b : Bool) : Prop := PW X e (tDT (ct X C) ρ b)
def EvA (C : Addr) (X : Cx) (es : List Expr) (ρ : List Sl) (xs : List DV) : Prop := PA X es (tDA (ct X C) ρ xs)
/-- e makes a new list of xs -/
def tDF (c : Ct) (ρ : List Sl) (xs : List D) : TE := fun σ H Q => ∃ H0 B, Ex B H ∧ EnvOk c H0 B H σ ρ ∧ ∀ p vs B' H', Step B H B' H' → H p = none → B' p = none → H' p = some (.lst vs) → DtAll B' vs xs → Q (.ref p) H'
def EvF (C : Addr) (X : Cx) (e : Expr) (ρ : List Sl) (xs : List D) : Prop := PE X e (tDF (ct X C) ρ xs)
section
variable {C : Addr} {X : Cx} {e a b : Expr} {ρ : List Sl}
theorem pe_weak {t t' : TE} (h : PE X e t) (k : ∀ σ H Q, t' σ H Q → t σ H Q) : PE X e t' := ⟨fun pins s σ H Q I q => h.run pins s σ H Q I (k σ H Q q)⟩
theorem pt_weak {t t' : TT} (h : PT X e t) (k : ∀ σ H Q, t' σ H Q → t σ H Q) : PT X e t' := ⟨fun pins s σ H Q I q => h.run pins s σ H Q I (k σ H Q q)⟩
theorem pw_weak {t t' : TT} (h : PW X e t) (k : ∀ σ H Q, t' σ H Q → t σ H Q) : PW X e t' := ⟨fun wh pins s σ H Q I q => h.run wh pins s σ H Q I (k σ H Q q)⟩
theorem pa_weak {es : List Expr} {t t' : TA} (h : PA X es t) (k : ∀ σ H Q, t' σ H Q → t σ H Q) : PA X es t' := ⟨fun pos pins s σ H Q I q => h.run pos pins s σ H Q I (k σ H Q q)⟩
/-- run e first, then go on -/
theorem tD_run {c : Ct} {x : DV} {σ : L2.St} {H H0 B : Hp} {Q : VK} (ex : Ex B H) (en : EnvOk c H0 B H σ ρ) (k : ∀ v B' H', Step B H B' H' → Rp c B' v x → Q v H') : tD c ρ x σ H Q := ⟨H0, B, ex, en, k⟩
theorem EvF.d {xs : List D} (h : EvF C X e ρ xs) : Ev C X e ρ (.d (.list xs)) := pe_weak h fun σ H Q ⟨H0, B, ex, en, k⟩ => ⟨H0, B, ex, en, fun p vs B' H' st hp hb hh hd => by
  have st' : Step B H (upd B' p (.lst vs)) H' := st.fix hb hp hh
  exact k _ _ _ st' (.lst upd_same (dtall_mono (Ex.new hb) _ _ hd))⟩
theorem EvW.t {b : Bool} (h : EvW C X e ρ b) : EvT C X e ρ b := PW.pt h
end
end DL
set_option maxRecDepth 100000
set_option maxHeartbeats 4000000
/-! the data layer, 2: expressions -/
namespace DL
open PySem PySem.Spec PyProof.Rows L2 SlX

section
variable {C : Addr} {X : Cx} {e a b c : Expr} {es : List Expr} {ρ : List Sl} {x y z : DV} {pos : Pos}
theorem pe_never : PE X e (fun _ _ _ => False) := ⟨fun _ _ _ _ _ _ h => h.elim⟩
theorem pt_never : PT X e (fun _ _ _ => False) := ⟨fun _ _ _ _ _ _ h => h.elim⟩
theorem pw_never : PW X e (fun _ _ _ => False) := ⟨fun _ _ _ _ _ _ _ h => h.elim⟩

/-! ### names, constants -/
theorem ev_var (i : Nat) {n : Str} (h : ρ[i]? = some (.i x)) (hN : X.N[i]? = some n := by rfl) (hv : Vis X.env.scope n := by first | exact Or.inl rfl | exact Or.inr (Or.inl rfl) | exact Or.inr (Or.inr rfl)) (hd : (n == ("__debug__" : Str)) = false := by decide)
    (hcd : (n == ("__classdict__" : Str)) = false := by decide) : Ev C X (.Name n pos) ρ x := pe_weak (pe_var hN hv hd hcd) fun σ H Q ⟨H0, B, ex, en, k⟩ => by
  obtain ⟨v, e, r⟩ := en.at_ i _ h
  have hl : i < σ.length := by
    rw [en.len]
    exact (List.getElem?_eq_some_iff.mp h).1
  rw [List.getElem?_eq_getElem hl] at e
  exact ⟨v, by rw [List.getElem?_eq_getElem hl]; exact congrArg some e, k v B H (Step.refl ex) r⟩
theorem ev_c {v : V} {u : Value} (h : PE X e (tC v)) (r : ∀ B, Rp (ct X C) B v x) : Ev C X e ρ x := pe_weak h fun σ H Q ⟨H0, B, ex, en, k⟩ => k v B H (Step.refl ex) (r B)
theorem ev_int {i : Int} {j : Nat} : Ev C X (.Constant (.int i) j pos) ρ (.d (.int i)) := ev_c (u := .none) pe_int fun _ => Dt.int i
theorem ev_bool {b : Bool} {j : Nat} : Ev C X (.Constant (.bool b) j pos) ρ (.d (.bool b)) := ev_c (u := .none) pe_bl fun _ => Dt.bl b
theorem ev_none {j : Nat} : Ev C X (.Constant .none j pos) ρ (.d .none) := ev_c (u := .none) pe_non fun _ => Dt.non
theorem ev_str {s : Str} {j : Nat} : Ev C X (.Constant (.str s) j pos) ρ (.d (.str s)) := ev_c (u := .none) pe_str fun _ => Dt.str s
/-- a module's constant -/
theorem ev_gstr {n s : Str} {t : Tok} (hm : X.mg n = some (.str s t)) (hg : Gl X n := by rfl) (hd : (n == ("__debug__" : Str)) = false := by decide) : Ev C X (.Name n pos) ρ (.d (.str s)) := ev_c (u := .none) (pe_glob (v := .str s) hg hm ⟨t, rfl⟩ hd) fun _ => Dt.str s
theorem ev_gint {n : Str} {i : Int} {t : Tok} (hm : X.mg n = some (.int i t)) (hg : Gl X n := by rfl) (hd : (n == ("__debug__" : Str)) = false := by decide) : Ev C X (.Name n pos) ρ (.d (.int i)) := ev_c (u := .none) (pe_glob (v := .int i) hg hm ⟨t, rfl⟩ hd) fun _ => Dt.int i

/-! ### two in a row -/
def R2D (c : Ct) (r : R2) (x y z : DV) : Prop := ∀ (B H : Hp) (v w : V) (Q : VK), Ex B H → Rp c B v x → Rp c B w y → (∀ u B' H', Step B H B' H' → Rp c B' u z → Q u H') → r v w H Q
theorem run2 {r : R2} (hr : R2D (ct X C) r x y z) {σ : L2.St} {H : Hp} {Q : VK} (h : tD (ct X C) ρ z σ H Q) : tOp r (tD (ct X C) ρ x) (tD (ct X C) ρ y) σ H Q := by
  obtain ⟨H0, B, ex, en, k⟩ := h
  exact ⟨H0, B, ex, en, fun v B1 H1 s1 r1 => ⟨H0, B1, s1.t, en.step s1, fun w B2 H2 s2 r2 => hr B2 H2 v w Q s2.t (rp_mono s2.b r1) r2 fun u B3 H3 s3 r3 => k u B3 H3 ((s1.trans s2).trans s3) r3⟩⟩
theorem ev_op {op : Operator} {r : R2} (ho : OpR X (binaryOp op) r) (hr : R2D (ct X C) r x y z) (ha : Ev C X a ρ x) (hb : Ev C X b ρ y) : Ev C X (.BinOp a op b pos) ρ z := pe_weak (pe_op ho ha hb) fun _ _ _ h => run2 hr h
theorem ev_cmp {op : CmpOp} {r : R2} (ho : OpR X (compareOp op) r) (hr : R2D (ct X C) r x y z) (ha : Ev C X a ρ x) (hb : Ev C X b ρ y) (hm : behindInMarks op b = false := by first | exact nomark _ | rfl) : Ev C X (.Compare a [op] [b] pos) ρ z := pe_weak (pe_cmpR ho ha hb hm) fun _ _ _ h => run2 hr h
theorem et_cmp {op : CmpOp} {r : R2} {k : Bool} (ho : OpR X (compareOp op) r) (hr : R2D (ct X C) r x y (.d (.bool k))) (ha : Ev C X a ρ x) (hb : Ev C X b ρ y) (hm : behindInMarks op b = false := by first | exact nomark _ | rfl) : EvT C X (.Compare a [op] [b] pos) ρ k :=
  pt_weak (pt_cmpR ho ha hb hm) fun σ H Q ⟨H0, B, ex, en, q⟩ => run2 hr ⟨H0, B, ex, en, fun v B' H' st r => by
    cases r
    exact ⟨k, rfl, q B' H' st⟩⟩
theorem ev_ix {r : R2} (hi : IxR X r) (hr : R2D (ct X C) r x y z) (ha : Ev C X a ρ x) (hb : Ev C X b ρ y) (hs : PlainIx b := by exact fun _ _ => rfl) : Ev C X (.Subscript a b pos) ρ z := pe_weak (pe_ix hi ha hb hs) fun _ _ _ h => run2 hr h
/-- whole numbers -/
theorem r2_I0 {c : Ct} {g : Int → Int → V} {i j : Int} {d : D} (h : ∀ H, Dt H (g i j) d) : R2D c (rI0 g) (.d (.int i)) (.d (.int j)) (.d d) := fun B H v w Q ex r1 r2 k => by
  cases r1
  cases r2
  exact ⟨i, j, rfl, rfl, k _ B H (Step.refl ex) (h B)⟩
theorem r2_I {c : Ct} {P : Int → Int → Prop} {g : Int → Int → V} {i j : Int} {d : D} (p : P i j) (h : ∀ H, Dt H (g i j) d) : R2D c (rI P g) (.d (.int i)) (.d (.int j)) (.d d) := fun B H v w Q ex r1 r2 k => by
  cases r1
  cases r2
  exact ⟨i, j, rfl, rfl, p, k _ B H (Step.refl ex) (h B)⟩
theorem ev_add {i j : Int} (ha : Ev C X a ρ (.d (.int i))) (hb : Ev C X b ρ (.d (.int j))) : Ev C X (.BinOp a .Add b pos) ρ (.d (.int (i + j))) := ev_op op_add (r2_I0 fun _ => .int _) ha hb
theorem ev_sub {i j : Int} (ha : Ev C X a ρ (.d (.int i))) (hb : Ev C X b ρ (.d (.int j))) : Ev C X (.BinOp a .Sub b pos) ρ (.d (.int (i - j))) := ev_op op_sub (r2_I0 fun _ => .int _) ha hb
theorem et_lt {i j : Int} (ha : Ev C X a ρ (.d (.int i))) (hb : Ev C X b ρ (.d (.int j))) : EvT C X (.Compare a [.Lt] [b] pos) ρ (decide (i < j)) := et_cmp op_lt (r2_I0 fun _ => .bl _) ha hb
theorem et_gt {i j : Int} (ha : Ev C X a ρ (.d (.int i))) (hb : Ev C X b ρ (.d (.int j))) : EvT C X (.Compare a [.Gt] [b] pos) ρ (decide (j < i)) := et_cmp op_gt (r2_I0 fun _ => .bl _) ha hb
theorem ev_lt {i j : Int} (ha : Ev C X a ρ (.d (.int i))) (hb : Ev C X b ρ (.d (.int j))) : Ev C X (.Compare a [.Lt] [b] pos) ρ (.d (.bool (decide (i < j)))) := ev_cmp op_lt (r2_I0 fun _ => .bl _) ha hb
theorem ev_gt {i j : Int} (ha : Ev C X a ρ (.d (.int i))) (hb : Ev C X b ρ (.d (.int j))) : Ev C X (.Compare a [.Gt] [b] pos) ρ (.d (.bool (decide (j < i)))) := ev_cmp op_gt (r2_I0 fun _ => .bl _) ha hb
/-- data of any kind: ==, != -/
theorem r2_eq {c : Ct} {d e : D} (h1 : SeqAt.shaped d = true) (h2 : SeqAt.shaped e = true) : R2D c (rEqD c.K) (.d d) (.d e) (.d (.bool (PyData.eqv d e))) := fun B H v w Q ex r1 r2 k =>
  ⟨d, e, dt_dp _ _ (dt_mono ex _ _ r1), dt_dp _ _ (dt_mono ex _ _ r2), h1, h2, k _ B H (Step.refl ex) (Dt.bl _)⟩
theorem r2_ne {c : Ct} {d e : D} (h1 : SeqAt.shaped d = true) (h2 : SeqAt.shaped e = true) : R2D c (rNeD c.K) (.d d) (.d e) (.d (.bool (!PyData.eqv d e))) := fun B H v w Q ex r1 r2 k =>
  ⟨d, e, dt_dp _ _ (dt_mono ex _ _ r1), dt_dp _ _ (dt_mono ex _ _ r2), h1, h2, k _ B H (Step.refl ex) (Dt.bl _)⟩
theorem room64 {A : Around} {k : Nat} (hr : Room k A) : A.units + 64 < cLine := hr.units
theorem ev_eq {n : Nat} {d e : D} {k : Bool} (hr : Room n X.A) (h1 : SeqAt.shaped d = true) (h2 : SeqAt.shaped e = true) (hk : PyData.eqv d e = k) (ha : Ev C X a ρ (.d d)) (hb : Ev C X b ρ (.d e)) : Ev C X (.Compare a [.Eq] [b] pos) ρ (.d (.bool k)) := hk ▸ ev_cmp (op_eqD (room64 hr)) (r2_eq h1 h2) ha hb
theorem et_eq {n : Nat} {d e : D} {k : Bool} (hr : Room n X.A) (h1 : SeqAt.shaped d = true) (h2 : SeqAt.shaped e = true) (hk : PyData.eqv d e = k) (ha : Ev C X a ρ (.d d)) (hb : Ev C X b ρ (.d e)) : EvT C X (.Compare a [.Eq] [b] pos) ρ k := hk ▸ et_cmp (op_eqD (room64 hr)) (r2_eq h1 h2) ha hb
theorem ev_ne {n : Nat} {d e : D} {k : Bool} (hr : Room n X.A) (h1 : SeqAt.shaped d = true) (h2 : SeqAt.shaped e = true) (hk : (!PyData.eqv d e) = k) (ha : Ev C X a ρ (.d d)) (hb : Ev C X b ρ (.d e)) : Ev C X (.Compare a [.NotEq] [b] pos) ρ (.d (.bool k)) := hk ▸ ev_cmp (op_neD (room64 hr)) (r2_ne h1 h2) ha hb
theorem et_ne {n : Nat} {d e : D} {k : Bool} (hr : Room n X.A) (h1 : SeqAt.shaped d = true) (h2 : SeqAt.shaped e = true) (hk : (!PyData.eqv d e) = k) (ha : Ev C X a ρ (.d d)) (hb : Ev C X b ρ (.d e)) : EvT C X (.Compare a [.NotEq] [b] pos) ρ k := hk ▸ et_cmp (op_neD (room64 hr)) (r2_ne h1 h2) ha hb
/-- is None, is not None -/
def isNone : D → Bool
  | .none => true
  | _ => false
theorem dt_none {H : Hp} {v : V} {d : D} (h : Dt H v d) : decide (v = .non) = isNone d := by
  cases h <;> first | rfl | exact decide_eq_false (fun q => nomatch q)
theorem r2_isN {c : Ct} {d : D} : R2D c (fun x y H Q => y = .non ∧ Q (.bl (decide (x = .non))) H) (.d d) (.d .none) (.d (.bool (isNone d))) := fun B H v w Q ex r1 r2 k => by
  cases r2
  exact ⟨rfl, by rw [dt_none r1]; exact k _ B H (Step.refl ex) (Dt.bl _)⟩
theorem r2_notN {c : Ct} {d : D} : R2D c (fun x y H Q => y = .non ∧ Q (.bl (!decide (x = .non))) H) (.d d) (.d .none) (.d (.bool (!isNone d))) := fun B H v w Q ex r1 r2 k => by
  cases r2
  exact ⟨rfl, by rw [dt_none r1]; exact k _ B H (Step.refl ex) (Dt.bl _)⟩
theorem ev_isN {d : D} (ha : Ev C X a ρ (.d d)) (hb : Ev C X b ρ (.d .none)) : Ev C X (.Compare a [.Is] [b] pos) ρ (.d (.bool (isNone d))) := ev_cmp op_isN r2_isN ha hb
theorem et_isN {d : D} (ha : Ev C X a ρ (.d d)) (hb : Ev C X b ρ (.d .none)) : EvT C X (.Compare a [.Is] [b] pos) ρ (isNone d) := et_cmp op_isN r2_isN ha hb
theorem ev_notN {d : D} (ha : Ev C X a ρ (.d d)) (hb : Ev C X b ρ (.d .none)) : Ev C X (.Compare a [.IsNot] [b] pos) ρ (.d (.bool (!isNone d))) := ev_cmp op_notN r2_notN ha hb
theorem et_notN {d : D} (ha : Ev C X a ρ (.d d)) (hb : Ev C X b ρ (.d .none)) : EvT C X (.Compare a [.IsNot] [b] pos) ρ (!isNone d) := et_cmp op_notN r2_notN ha hb
/-- texts: +, in -/
theorem ev_cat_str {s t : Str} (h : s.length + t.length ≤ sizeLine) (ha : Ev C X a ρ (.d (.str s))) (hb : Ev C X b ρ (.d (.str t))) : Ev C X (.BinOp a .Add b pos) ρ (.d (.str (s ++ t))) := ev_op op_add_str (fun B H v w Q ex r1 r2 k => by
  cases r1
  cases r2
  exact ⟨s, t, rfl, rfl, h, k _ B H (Step.refl ex) (Dt.str _)⟩) ha hb
theorem ev_in_sign {s t : Str} {k : Bool} (hk : (!(Builtin.Str.occurrences t s 0 t.length 1).isEmpty) = k) (ha : Ev C X a ρ (.d (.str s))) (hb : Ev C X b ρ (.d (.str t))) (hm : behindInMarks .In b = false := by rfl) : Ev C X (.Compare a [.In] [b] pos) ρ (.d (.bool k)) := hk ▸ ev_cmp op_in_str (fun B H v w Q ex r1 r2 k => by
  cases r1
  cases r2
  exact ⟨s, t, rfl, rfl, k _ B H (Step.refl ex) (Dt.bl _)⟩) ha hb hm
/-- a new tuple of the values us -/
def tupOb (us : List Value) : Obj := { cls := .type "tuple", data := .seq us.toArray }
theorem laidT {pins : List (Addr × Obj)} {σ : L2.St} {H : Hp} {s : Shared} {us : List Value} {xs : List V} (I : Inv X pins σ H s) (r : Vals xs us) (z : xs.length ≤ sizeLine) :
    Inv X pins σ (upd H s.heap.objs.size (.frz (tupOb us) (.tup xs))) { s with heap := s.heap.push (tupOb us) } :=
  I.laid (t' := s.toks) (fun _ _ q => Heap.get?_push_of_some _ q) (Nat.le_refl _) ⟨Heap.get?_push_size _ rfl, z, us, r, IsTup.new _ _⟩
theorem laidF {pins : List (Addr × Obj)} {σ : L2.St} {H : Hp} {s : Shared} {us : List Value} {xs : List V} {Q : VK} (I : Inv X pins σ H s) (r : Vals xs us) (z : xs.length ≤ sizeLine) (q : ∀ p o, H p = none → o.dict = none → Q (.ref p) (upd H p (.frz o (.tup xs)))) :
    EP X pins σ Q (.ref s.heap.objs.size) { s with heap := s.heap.push (tupOb us) } := ⟨.ref s.heap.objs.size, _, laidT I r z, rfl, q _ _ (I.hok.fresh (Nat.le_refl _)) rfl⟩
theorem Step.tup {c : Ct} {B H : Hp} {p : Addr} {o : Obj} {xs : List V} {ds : List D} {Q : VK} (ex : Ex B H) (hp : H p = none) (ho : o.dict = none) (hd : DtAll B xs ds) (k : ∀ v B' H', Step B H B' H' → Rp c B' v (.d (.tuple ds)) → Q v H') : Q (.ref p) (upd H p (.frz o (.tup xs))) := by
  have st := Step.new (o := .frz o (.tup xs)) ex hp
  exact k _ _ _ st (.tup ⟨o, upd_same, ho⟩ (dtall_mono st.b _ _ hd))
def rCatF (K : PySem.W.Frag) : R2 := fun x y H Q => ∃ a b xs ys, x = .ref a ∧ y = .ref b ∧ SqT K H a xs ∧ SqT K H b ys ∧ xs.length + ys.length ≤ sizeLine ∧
  (xs = [] → Q (.ref b) H) ∧ (ys = [] → Q (.ref a) H) ∧ (∀ p o, H p = none → o.dict = none → Q (.ref p) (upd H p (.frz o (.tup (xs ++ ys)))))
theorem op_catF : OpR X (binaryOp .Add) (rCatF X.K) := fun pins s σ H x y v u Q I rx ry ⟨a, b, xs, ys, ex, ey, ha, hb, hz, q0, q1, q2⟩ => by
  subst ex ey
  cases rx
  cases ry
  obtain ⟨us, ru, tu, _⟩ := I.tuple ha
  obtain ⟨ws, rw', tw, _⟩ := I.tuple hb
  cases ru with
  | nil => exact cat_tup0 tu tw ⟨.ref b, H, I, rfl, q0 rfl⟩
  | cons r1 r2 =>
    refine HT.cat_tup tu tw (List.cons_ne_nil _ _) (fun e => ?_) (fun _ => laidF I (.append (.cons r1 r2) rw') (by rw [List.length_append]; exact hz) q2) (by rw [← rw'.length, ← (Paired.cons r1 r2 : Vals _ _).length]; exact hz)
    subst e
    cases rw'
    exact ⟨.ref a, H, I, rfl, q1 rfl⟩
theorem ev_cat_tup {ds es : List D} (hz : ds.length + es.length ≤ sizeLine) (ha : Ev C X a ρ (.d (.tuple ds))) (hb : Ev C X b ρ (.d (.tuple es))) : Ev C X (.BinOp a .Add b pos) ρ (.d (.tuple (ds ++ es))) := ev_op op_catF (fun B H v w Q ex r1 r2 k => by
  cases r1 with
  | @tup p xs _ h1 a1 =>
    cases r2 with
    | @tup q ys _ h2 a2 =>
      refine ⟨p, q, xs, ys, rfl, rfl, (h1.mono ex).sq, (h2.mono ex).sq, by rw [dtall_len a1, dtall_len a2]; exact hz, fun e => ?_, fun e2 => ?_, fun l o hl ho => Step.tup ex hl ho (dtall_append a1 a2) k⟩
      · subst e
        cases a1
        exact k _ B H (Step.refl ex) (.tup h2 a2)
      · subst e2
        cases a2
        rw [List.append_nil] at k
        exact k _ B H (Step.refl ex) (.tup h1 a1)) ha hb
theorem ev_ix_tup {ds : List D} {d : D} {i : Int} (h : atI ds i = some d) (ha : Ev C X a ρ (.d (.tuple ds))) (hb : Ev C X b ρ (.d (.int i))) (hs : PlainIx b := by exact fun _ _ => rfl) : Ev C X (.Subscript a b pos) ρ (.d d) := ev_ix ix_tup (fun B H v w Q ex r1 r2 k => by
  cases r1 with
  | @tup p xs _ h1 a1 =>
    cases r2
    unfold atI at h
    obtain ⟨j, hj, hd⟩ := Option.bind_eq_some_iff.mp h
    obtain ⟨u, hu, ru⟩ := dtall_at a1 hd
    refine ⟨p, xs, i, u, rfl, rfl, (h1.mono ex).sq, ?_, k u B H (Step.refl ex) ru⟩
    unfold atI
    rw [dtall_len a1, hj]
    exact hu) ha hb hs
theorem ev_ix_list {ds : List D} {d : D} {i : Int} (h : atI ds i = some d) (ha : Ev C X a ρ (.d (.list ds))) (hb : Ev C X b ρ (.d (.int i))) (hs : PlainIx b := by exact fun _ _ => rfl) : Ev C X (.Subscript a b pos) ρ (.d d) := ev_ix ix_list (fun B H v w Q ex r1 r2 k => by
  cases r1 with
  | @lst p xs _ h1 a1 =>
    cases r2
    unfold atI at h
    obtain ⟨j, hj, hd⟩ := Option.bind_eq_some_iff.mp h
    obtain ⟨u, hu, ru⟩ := dtall_at a1 hd
    refine ⟨p, xs, i, u, rfl, rfl, sl_of (ex _ _ h1), ?_, k u B H (Step.refl ex) ru⟩
    unfold atI
    rw [dtall_len a1, hj]
    exact hu) ha hb hs
theorem ev_ix_str {s : Str} {n : Nat} {i : Int} (hz : s.length ≤ sizeLine) (h : atI s.cps.toList i = some n) (ha : Ev C X a ρ (.d (.str s))) (hb : Ev C X b ρ (.d (.int i))) (hs : PlainIx b := by exact fun _ _ => rfl) : Ev C X (.Subscript a b pos) ρ (.d (.str ⟨#[n]⟩)) := ev_ix ix_str (fun B H v w Q ex r1 r2 k => by
  cases r1
  cases r2
  exact ⟨s, i, n, rfl, rfl, hz, h, k _ B H (Step.refl ex) (Dt.str _)⟩) ha hb hs
theorem ev_neg {i : Int} (ha : Ev C X a ρ (.d (.int i))) : Ev C X (.UnaryOp .USub a pos) ρ (.d (.int (-i))) := pe_weak (pe_un un_neg ha) fun σ H Q ⟨H0, B, ex, en, k⟩ => ⟨H0, B, ex, en, fun v B1 H1 s1 r1 => by
  cases r1
  exact ⟨i, rfl, k _ B1 H1 s1 (Dt.int _)⟩⟩

/-! ### tests -/
theorem et_val {k : Bool} (h : Ev C X e ρ (.d (.bool k))) (he : ∀ whole, isTrue e X.env whole = (do let v ← whole; standAt e.pos; holding [v] (truthy v)) := by intro _; rfl) : EvT C X e ρ k :=
  pt_weak (pt_val h he) fun σ H Q ⟨H0, B, ex, en, q⟩ => ⟨H0, B, ex, en, fun v B1 H1 s1 r1 => by
    cases r1
    exact ⟨k, rfl, q B1 H1 s1⟩⟩
theorem et_not {k : Bool} (h : EvT C X a ρ k) : EvT C X (.UnaryOp .Not a pos) ρ (!k) := pt_weak (pt_not h) fun σ H Q ⟨H0, B, ex, en, q⟩ => ⟨H0, B, ex, en, fun B1 H1 s1 => q B1 H1 s1⟩
theorem ew_and1 {k : Bool} (h : EvT C X a ρ k) : EvW C X (.BoolOp .And [a] pos) ρ k := pw_and1 h
theorem ew_or1 {k : Bool} (h : EvT C X a ρ k) : EvW C X (.BoolOp .Or [a] pos) ρ k := pw_or1 h
theorem ew_and {rest : List Expr} {k m : Bool} (ha : EvT C X a ρ k) (hb : k = true → EvW C X (.BoolOp .And (b :: rest) pos) ρ m) : EvW C X (.BoolOp .And (a :: b :: rest) pos) ρ (k && m) := by
  cases k with
  | true => exact pw_weak (pw_and ha (hb rfl)) fun σ H Q ⟨H0, B, ex, en, q⟩ => ⟨H0, B, ex, en, fun B1 H1 s1 => ⟨H0, B1, s1.t, en.step s1, fun B2 H2 s2 => q B2 H2 (s1.trans s2)⟩⟩
  | false => exact pw_weak (pw_and ha pw_never) fun σ H Q ⟨H0, B, ex, en, q⟩ => ⟨H0, B, ex, en, fun B1 H1 s1 => q B1 H1 s1⟩
theorem ew_or {rest : List Expr} {k m : Bool} (ha : EvT C X a ρ k) (hb : k = false → EvW C X (.BoolOp .Or (b :: rest) pos) ρ m) : EvW C X (.BoolOp .Or (a :: b :: rest) pos) ρ (k || m) := by
  cases k with
  | true => exact pw_weak (pw_or ha pw_never) fun σ H Q ⟨H0, B, ex, en, q⟩ => ⟨H0, B, ex, en, fun B1 H1 s1 => q B1 H1 s1⟩
  | false => exact pw_weak (pw_or ha (hb rfl)) fun σ H Q ⟨H0, B, ex, en, q⟩ => ⟨H0, B, ex, en, fun B1 H1 s1 => ⟨H0, B1, s1.t, en.step s1, fun B2 H2 s2 => q B2 H2 (s1.trans s2)⟩⟩
/-- as values -/
theorem ev_one {op : BoolOp} (h : Ev C X a ρ x) : Ev C X (.BoolOp op [a] pos) ρ x := pe_one h
theorem ev_and {rest : List Expr} {k m : Bool} (ha : Ev C X a ρ (.d (.bool k))) (hb : k = true → Ev C X (.BoolOp .And (b :: rest) pos) ρ (.d (.bool m))) : Ev C X (.BoolOp .And (a :: b :: rest) pos) ρ (.d (.bool (k && m))) := by
  cases k with
  | true => exact pe_weak (pe_and ha (hb rfl)) fun σ H Q ⟨H0, B, ex, en, q⟩ => ⟨H0, B, ex, en, fun v B1 H1 s1 r1 => by
      cases r1
      exact ⟨true, rfl, H0, B1, s1.t, en.step s1, fun w B2 H2 s2 r2 => q w B2 H2 (s1.trans s2) r2⟩⟩
  | false => exact pe_weak (pe_and ha pe_never) fun σ H Q ⟨H0, B, ex, en, q⟩ => ⟨H0, B, ex, en, fun v B1 H1 s1 r1 => by
      cases r1
      exact ⟨false, rfl, q _ B1 H1 s1 (Dt.bl _)⟩⟩
theorem ev_or {rest : List Expr} {k m : Bool} (ha : Ev C X a ρ (.d (.bool k))) (hb : k = false → Ev C X (.BoolOp .Or (b :: rest) pos) ρ (.d (.bool m))) : Ev C X (.BoolOp .Or (a :: b :: rest) pos) ρ (.d (.bool (k || m))) := by
  cases k with
  | true => exact pe_weak (pe_or ha pe_never) fun σ H Q ⟨H0, B, ex, en, q⟩ => ⟨H0, B, ex, en, fun v B1 H1 s1 r1 => by
      cases r1
      exact ⟨true, rfl, q _ B1 H1 s1 (Dt.bl _)⟩⟩
  | false => exact pe_weak (pe_or ha (hb rfl)) fun σ H Q ⟨H0, B, ex, en, q⟩ => ⟨H0, B, ex, en, fun v B1 H1 s1 r1 => by
      cases r1
      exact ⟨false, rfl, H0, B1, s1.t, en.step s1, fun w B2 H2 s2 r2 => q w B2 H2 (s1.trans s2) r2⟩⟩
theorem ev_not {k : Bool} (ha : Ev C X a ρ (.d (.bool k))) : Ev C X (.UnaryOp .Not a pos) ρ (.d (.bool (!k))) := pe_weak (pe_not ha) fun σ H Q ⟨H0, B, ex, en, q⟩ => ⟨H0, B, ex, en, fun v B1 H1 s1 r1 => by
  cases r1
  exact ⟨k, rfl, q _ B1 H1 s1 (Dt.bl _)⟩⟩
/-- not of a test -/
theorem ev_if {k : Bool} (hc : EvT C X c ρ k) (ha : k = true → Ev C X a ρ x) (hb : k = false → Ev C X b ρ x) : Ev C X (.IfExp c a b pos) ρ x := by
  cases k with
  | true => exact pe_weak (pe_ifExp hc (ha rfl) (pe_never (e := b))) fun σ H Q ⟨H0, B, ex, en, q⟩ => ⟨H0, B, ex, en, fun B1 H1 s1 => ⟨H0, B1, s1.t, en.step s1, fun v B2 H2 s2 r2 => q v B2 H2 (s1.trans s2) r2⟩⟩
  | false => exact pe_weak (pe_ifExp hc (pe_never (e := a)) (hb rfl)) fun σ H Q ⟨H0, B, ex, en, q⟩ => ⟨H0, B, ex, en, fun B1 H1 s1 => ⟨H0, B1, s1.t, en.step s1, fun v B2 H2 s2 r2 => q v B2 H2 (s1.trans s2) r2⟩⟩
theorem ef_if {k : Bool} {ds : List D} (hc : EvT C X c ρ k) (ha : k = true → EvF C X a ρ ds) (hb : k = false → EvF C X b ρ ds) : EvF C X (.IfExp c a b pos) ρ ds := by
  have key : ∀ {σ : L2.St} {H B H0 B1 H1 : Hp} {Q : VK}, EnvOk (ct X C) H0 B H σ ρ → Step B H B1 H1 → (∀ p vs B' H', Step B H B' H' → H p = none → B' p = none → H' p = some (.lst vs) → DtAll B' vs ds → Q (.ref p) H') → Ex B H → tDF (ct X C) ρ ds σ H1 Q :=
    fun {σ H B H0 B1 H1 Q} en s1 q ex => ⟨H0, B1, s1.t, en.step s1, fun p vs B2 H2 s2 h1 h2 h3 h4 => q p vs B2 H2 (s1.trans s2) ((Step.ex ex s1).free h1) h2 h3 h4⟩
  cases k with
  | true => exact pe_weak (pe_ifExp hc (ha rfl) (pe_never (e := b))) fun σ H Q ⟨H0, B, ex, en, q⟩ => ⟨H0, B, ex, en, fun B1 H1 s1 => key en s1 q ex⟩
  | false => exact pe_weak (pe_ifExp hc (pe_never (e := a)) (hb rfl)) fun σ H Q ⟨H0, B, ex, en, q⟩ => ⟨H0, B, ex, en, fun B1 H1 s1 => key en s1 q ex⟩

/-! ### displays, arguments -/
theorem ea_nil : EvA C X [] ρ [] := pa_weak pa_nil fun σ H Q ⟨H0, B, ex, en, k⟩ => k [] B H (Step.refl ex) .nil
theorem ea_cons {xs : List DV} (ha : Ev C X e ρ x) (hr : EvA C X es ρ xs) (hs : starEach (e :: es) X.env = (false, eval e X.env) :: starEach es X.env := by rfl) : EvA C X (e :: es) ρ (x :: xs) :=
  pa_weak (pa_cons ha hr hs) fun σ H Q ⟨H0, B, ex, en, k⟩ => ⟨H0, B, ex, en, fun v B1 H1 s1 r1 => ⟨H0, B1, s1.t, en.step s1, fun vs B2 H2 s2 r2 => k (v :: vs) B2 H2 (s1.trans s2) (.cons (rp_mono s2.b r1) r2)⟩⟩
theorem dts_of {c : Ct} {B : Hp} : ∀ {ds : List D} {vs : List V}, Paired (Rp c B) vs (ds.map .d) → DtAll B vs ds
  | [], _, h => by
    cases h
    exact .nil
  | d :: ds, _, h => by
    cases h with
    | cons h1 h2 => exact .cons h1 (dts_of h2)
theorem paired_len {α β : Type} {F : α → β → Prop} : ∀ {l : List α} {m : List β}, Paired F l m → l.length = m.length
  | _, _, .nil => rfl
  | _, _, .cons _ t => by rw [List.length_cons, List.length_cons, paired_len t]
def tTupF (t : TA) : TE := fun σ H Q => t σ H fun xs H1 => xs.length ≤ sizeLine ∧ ∀ p o, H1 p = none → o.dict = none → Q (.ref p) (upd H1 p (.frz o (.tup xs)))
theorem pe_tupF {k : Nat} {t : TA} (h : PA X es t) : PE X (.Tuple es k pos) (tTupF t) := ⟨fun pins s σ H Q I hq =>
  wpAny_Tuple_spliced (thn (h.run pos pins s σ H _ I hq) fun us s1 ⟨xs, H1, I1, r, z, q⟩ => ⟨by rw [← r.length]; exact z, laidF I1 r z q⟩)⟩
theorem ev_tup {xs : List DV} {ds : List D} {k : Nat} (ha : EvA C X es ρ xs) (hx : xs = ds.map .d := by rfl) (hz : ds.length ≤ sizeLine := by decide) : Ev C X (.Tuple es k pos) ρ (.d (.tuple ds)) :=
  pe_weak (pe_tupF ha) fun σ H Q ⟨H0, B, ex, en, q⟩ => ⟨H0, B, ex, en, fun vs B1 H1 s1 r1 => by
    subst hx
    have h := dts_of r1
    exact ⟨by rw [dtall_len h]; exact hz, fun p o hp ho => Step.tup s1.t hp ho h fun v B' H' st r => q v B' H' (s1.trans st) r⟩⟩
theorem ef_list {xs : List DV} {ds : List D} (ha : EvA C X es ρ xs) (hx : xs = ds.map .d := by rfl) (hz : ds.length ≤ sizeLine := by decide) : EvF C X (.List es pos) ρ ds :=
  pe_weak (pe_lst ha) fun σ H Q ⟨H0, B, ex, en, q⟩ => ⟨H0, B, ex, en, fun vs B1 H1 s1 r1 => by
    subst hx
    have h := dts_of r1
    refine ⟨by rw [dtall_len h]; exact hz, fun p hp => ?_⟩
    have st := Step.aside (o := .lst vs) s1.t hp
    exact q p vs _ _ (s1.trans st) ((Step.ex ex s1).free hp) (s1.t.free hp) upd_same h⟩
/-- list + list: a new one -/
theorem ef_cat {ds es : List D} (hz : ds.length + es.length ≤ sizeLine) (ha : Ev C X a ρ (.d (.list ds))) (hb : Ev C X b ρ (.d (.list es))) : EvF C X (.BinOp a .Add b pos) ρ (ds ++ es) :=
  pe_weak (pe_op op_cat ha hb) fun σ H Q ⟨H0, B, ex, en, q⟩ => ⟨H0, B, ex, en, fun v B1 H1 s1 r1 => ⟨H0, B1, s1.t, en.step s1, fun w B2 H2 s2 r2 => by
    have r1' := dt_mono s2.b _ _ r1
    cases r1' with
    | @lst p xs _ h1 a1 =>
      cases r2 with
      | @lst p2 ys _ h2 a2 =>
        refine ⟨p, p2, xs, ys, rfl, rfl, s2.t _ _ h1, s2.t _ _ h2, by rw [dtall_len a1, dtall_len a2]; exact hz, fun l hl => ?_⟩
        have st := Step.aside (o := .lst (xs ++ ys)) s2.t hl
        exact q l _ _ _ ((s1.trans s2).trans st) ((Step.ex ex (s1.trans s2)).free hl) (s2.t.free hl) upd_same (dtall_append a1 a2)⟩⟩
/-- tuple * int -/
def rRepF (K : PySem.W.Frag) : R2 := fun x y H Q => ∃ l k xs, x = .ref l ∧ y = .int k ∧ SqT K H l xs ∧ xs ≠ [] ∧ 2 ≤ k ∧ k ≤ 1000 ∧ xs.length ≤ 1000 ∧ ∀ p o, H p = none → o.dict = none → Q (.ref p) (upd H p (.frz o (.tup (List.replicate k.toNat xs).flatten)))
theorem op_repF : OpR X (binaryOp .Mult) (rRepF X.K) := fun pins s σ H x y v u Q I rx ry ⟨l, k, xs, ex, ey, hT, hne, h1, h2, hz, q⟩ => by
  subst ex ey
  cases rx
  obtain ⟨t, rfl⟩ := ry
  obtain ⟨us, ru, ⟨⟨cls, dd, data, sl⟩, ho, hcls, n, hdat⟩, _⟩ := I.tuple hT
  obtain rfl : cls = .type "tuple" := hcls
  obtain rfl : data = .seq us.toArray n := hdat
  have hlu : us.length = xs.length := ru.length.symm
  have hemp : us.toArray.isEmpty = false := by
    cases us with
    | nil => exact absurd (List.eq_nil_of_length_eq_zero hlu.symm) hne
    | cons _ _ => rfl
  have hszu : us.toArray.size = xs.length := by rw [List.size_toArray, hlu]
  have hprod : k.toNat * xs.length ≤ 1000 * 1000 := Nat.mul_le_mul (by omega) hz
  have hprodI : ((us.toArray.size : Nat) : Int) * k ≤ 1000000 := by
    rw [hszu]
    have := Int.mul_le_mul_of_nonneg_right (c := k) (show ((xs.length : Nat) : Int) ≤ 1000 by omega) (by omega)
    omega
  have hline : 1000 * 1000 ≤ sizeLine := by rw [sizeLine_eq]; decide
  have hflat : (List.replicate k.toNat us).flatten.length ≤ sizeLine := by
    rw [PyProof.Rows.lm_len_rep_flat, hlu]
    exact Nat.le_trans hprod hline
  refine wpAny_binaryOp_repeat_ref (T := "tuple") (U := "int") (by decide) ⟨_, ho, rfl⟩ (fun s' => typeIs_int s' k t) noFill_tuple_mul F.fills_int_mul F.slot_int_rmul repeat_tuple F.slot_int_index.lookup
    (call_meets F.slot_int_rmul (typeIs_int s k t) F.entry_int_rmul (F.args_int_rmul_2 _ _) (int_rmul_tuple k t l us.toArray n dd sl)
      ⟨ho, rfl, ⟨_, ho, rfl⟩, call_meets F.slot_tuple_mul ⟨_, ho, rfl⟩ F.entry_tuple_mul (F.args_tuple_mul_2 _ _)
        (tuple_mulW l us.toArray n dd sl k t (by rw [decide_eq_false (by omega), decide_eq_false (by omega)]; rfl) (by rw [hemp, Bool.false_or]; exact beq_eq_false_iff_ne.mpr (by omega)) (by rw [hemp, Bool.or_false]; exact decide_eq_false (by omega)) (by omega)
          (by unfold Builtin.Tuple.tupleTooMany; rw [sizeLine_eq]; exact decide_eq_false (by omega)) (by rw [size_rep, List.size_toArray]; exact hflat)) ⟨ho, ?_⟩⟩)
  rw [size_rep]
  exact laidF I (ru.rep k.toNat) (by rw [PyProof.Rows.lm_len_rep_flat]; exact Nat.le_trans hprod hline) q
theorem ev_rep_tup {ds : List D} {n : Int} (h0 : ds ≠ []) (h1 : 2 ≤ n) (h2 : n ≤ 1000) (h3 : ds.length ≤ 1000) (ha : Ev C X a ρ (.d (.tuple ds))) (hb : Ev C X b ρ (.d (.int n))) : Ev C X (.BinOp a .Mult b pos) ρ (.d (.tuple (List.replicate n.toNat ds).flatten)) := ev_op op_repF (fun B H v w Q ex r1 r2 k => by
  cases r1 with
  | @tup p xs _ e1 a1 =>
    cases r2
    refine ⟨p, n, xs, rfl, rfl, (e1.mono ex).sq, fun e => ?_, h1, h2, by rw [dtall_len a1]; exact h3, fun l o hl ho => Step.tup ex hl ho (dtall_rep a1 _) k⟩
    subst e
    cases a1
    exact h0 rfl) ha hb
end
end DL
set_option maxRecDepth 100000
set_option maxHeartbeats 4000000
/-! the data layer, 3: enumerate over a list or a tuple, each pair a known object; the items of a tuple collected -/
namespace DL
open PySem PySem.Spec PyProof.Rows L2 SlX
open Sem (wp)

/-! ### a list or a tuple, as one -/
def SIs (tup : Bool) (h : Heap) (a : Addr) (its : Array Value) : Prop := match tup with
  | true => h.IsTuple a its
  | false => h.IsList a its
def SIter (tup : Bool) (h : Heap) (it a : Addr) (i : Nat) : Prop := match tup with
  | true => h.IsTupleIter it a i
  | false => h.IsListIter it a i
def SqS (tup : Bool) (K : PySem.W.Frag) (H : Hp) (a : Addr) (xs : List V) : Prop := match tup with
  | true => SqT K H a xs
  | false => SqL K H a xs
def iterOb (tup : Bool) (a : Addr) : Obj := match tup with
  | true => { cls := .type "tuple_iterator", data := .fields #[.ref a, .int 0 0] }
  | false => { cls := .type "list_iterator", data := .fields #[.ref a, .int 0 0] }
theorem SIs.lt {tup : Bool} {h : Heap} {a : Addr} {its : Array Value} (x : SIs tup h a its) : a < h.objs.size := by
  cases tup <;> exact Heap.lt_size x.choose_spec.1
theorem SIter.ob {tup : Bool} {h : Heap} {it a : Addr} {i : Nat} (x : SIter tup h it a i) : ∃ o vs, h.get? it = some o ∧ o.data = .fields vs := by
  cases tup <;> exact ⟨_, _, x.choose_spec.1, x.choose_spec.2.2⟩
theorem SIter.stay {tup : Bool} {h h' : Heap} {it a : Addr} {i : Nat} (x : SIter tup h it a i) (k : ∀ o, h.get? it = some o → h'.get? it = some o) : SIter tup h' it a i := by
  cases tup <;> exact ⟨_, k _ x.choose_spec.1, x.choose_spec.2⟩
theorem sis_begins (tup : Bool) (a : Addr) (its : Array Value) : Begins (.ref a) (iterOb tup a) fun h => SIs tup h a its := by
  cases tup
  · exact begins_list a its
  · exact begins_tuple a its
theorem sis_draws {prog : Program} {w : World} {A : Around} (tup : Bool) (hh : A.handled = none) (it a : Addr) (ne : a ≠ it) (its : Array Value) :
    Draws prog w A it [it, a] its.size (fun i v => its[i]? = some v) (fun i h => SIter tup h it a i ∧ SIs tup h a its) := by
  cases tup
  · exact Draws.list hh it a ne its
  · exact Draws.tuple hh it a ne its
theorem iterOb_at {tup : Bool} {h : Heap} {it a : Addr} (e : h.get? it = some (iterOb tup a)) : SIter tup h it a 0 := by
  cases tup <;> exact ⟨_, e, rfl, rfl⟩
section
variable {X : Cx} {pins : List (Addr × Obj)} {σ : L2.St} {H : Hp} {s : Shared}
theorem inv_src {tup : Bool} {a : Addr} {xs : List V} (I : Inv X pins σ H s) (h : SqS tup X.K H a xs) : ∃ its : List Value, Vals xs its ∧ SIs tup s.heap a its.toArray ∧ xs.length ≤ sizeLine := by
  cases tup
  · obtain ⟨its, r, p, z⟩ := I.list h
    exact ⟨its, r, p.isList, z⟩
  · exact I.tuple h
theorem src_inj {tup : Bool} {a : Addr} {xs ys : List V} (I : Inv X pins σ H s) (h : SqS tup X.K H a xs) (h' : SqS tup X.K H a ys) : xs = ys := by
  cases tup
  · exact I.list_inj h h'
  · exact I.tuple_inj h h'
end

/-! ### enumerate(x) -/
def enumOb (it : Addr) : Obj := { cls := .type "enumerate", data := .fields #[.none, .bool false, .ref it, rawInt 0, .none, .none] }
theorem meets_enum1 {v : Value} {o : Obj} {G : Heap → Prop} (B : Begins v o G) :
    Meets (Builtin.«enumerate.__new__» ⟨[.type "enumerate", v], []⟩) (fun _ R s => G s.heap ∧ R (.ok (.ret (.ref (s.heap.push o).objs.size))) { s with heap := (s.heap.push o).push (enumOb s.heap.objs.size) }) :=
  .of_wp fun prog w A R s hs => by
    obtain ⟨hp, g, d, tk, os⟩ := s
    obtain ⟨h1, h2⟩ := hs
    have isSub := sub_enumerate
    have begun : ∀ {A' : Around} {E : Value → Shared → Prop} {Q : Value → Shared → Prop}, Q (.ref hp.objs.size) ⟨hp.push o, g, d, tk, os⟩ → wpAny (model prog w) A' (pyIter v) Q E ⟨hp, g, d, tk, os⟩ :=
      fun q => B.iter prog w _ _ ⟨hp, g, d, tk, os⟩ _ h1 q
    wp_walk using begun
    refine wpAny_stack_any fun st => wpAny_pure ?_
    split
    · rename_i c _ _ _ _ _
      cases (c == Value.type "enumerate") <;> (wp_walk using begun; exact ⟨_, rfl, h2⟩)
    · wp_walk using begun
      exact ⟨_, rfl, h2⟩
/-- x at a, each item in a new pair -/
def IteS (tup : Bool) (K : PySem.W.Frag) (a : Addr) : It where
  go := fun i H => ∃ (xs : List V) (x : V), SqS tup K H a xs ∧ xs[i]? = some x
  yld := fun i H v H' => ∃ (T : Addr) (o : Obj) (x : V), v = .ref T ∧ H T = none ∧ o.dict = none ∧ H' = upd H T (.frz o (.tup [.int (i : Nat), x])) ∧ ∀ xs, SqS tup K H a xs → xs[i]? = some x
  stop := fun i H => ∃ xs : List V, SqS tup K H a xs ∧ xs.length = i
theorem enum_turn {P : Program} {w : World} {K : PySem.W.Frag} {elts : List Expr} {kk : Nat} {tpos : Pos} (tup : Bool) (a e it : Addr) (hea : e ≠ a) (hia : it ≠ a) (hne : e ≠ it) :
    Turn P w K (.Tuple elts kk tpos) (IteS tup K a) [e, it] e (fun i h => (∃ old, IsEnum h e it ((i : Nat) : Int) old) ∧ SIter tup h it a i) := by
  have two : ∀ {b : Addr}, b ∈ [e, it] → b = e ∨ b = it := fun hb => by simpa using hb
  refine { mem := List.mem_cons_self, obj := ?_, keep := ?_, item := ?_, done := ?_, self := ?_ }
  · rintro i h ⟨⟨old, he⟩, hi⟩ b hb
    obtain ⟨oi, vs, g1, g2⟩ := hi.ob
    rcases two hb with rfl | rfl
    · exact ⟨_, he, fun v q => nomatch q⟩
    · refine ⟨oi, g1, fun v q => ?_⟩
      rw [g2] at q
      cases q
  · rintro i h h' ⟨⟨old, he⟩, hi⟩ k
    exact ⟨⟨old, k e List.mem_cons_self _ he⟩, hi.stay (k it (List.mem_cons_of_mem _ List.mem_cons_self))⟩
  · rintro X rfl rfl rfl calm i pins s σ H E I hf ⟨⟨old, he⟩, hi⟩ ⟨xs, x, hq, hx⟩
    obtain ⟨its, rv, p, _⟩ := inv_src I hq
    obtain ⟨u, hu, ru⟩ := rv.get hx
    have le : e < s.heap.objs.size := Heap.lt_size he
    have li : it < s.heap.objs.size := Heap.lt_size hi.ob.choose_spec.choose_spec.1
    have hb : i < its.toArray.size := by simpa using (List.getElem?_eq_some_iff.mp hu).1
    refine wpAny_pyNext_enum_itemD (sis_draws (prog := X.prog) (w := X.w) (A := X.A.in1) tup (I.ok.hd calm) it a hia.symm its.toArray) he ⟨hi, p⟩ hb hne (by simp [hne, hea]) fun y g tk hy out st' hT _ hk => ?_
    obtain rfl : y = u := by
      have q : its[i]? = some y := by simpa using hy
      rw [hu] at q
      exact Option.some.inj q.symm
    refine ⟨_, rfl, wpAny_letOwnedTupleGo_enum (s := { s with heap := g, toks := tk + 1 }) out fun g' he' sb => ?_⟩
    have hT' : g'.get? s.heap.objs.size = some (tupOb [.int i tk, y]) := (sb.2 _ (Nat.ne_of_gt le)).trans hT
    have I1 : Inv X pins σ (upd H s.heap.objs.size (.frz (tupOb [.int i tk, y]) (.tup [.int (i : Nat), x]))) { s with heap := g', toks := tk + 1 } :=
      I.turnedNew (ch := [e, it]) (fun b ob nb q => by
        have be : b ≠ e := fun z => nb (z ▸ List.mem_cons_self)
        have bi : b ≠ it := fun z => nb (z ▸ List.mem_cons_of_mem _ List.mem_cons_self)
        exact (sb.2 b be).trans (hk b ob be bi q)) hf (Nat.le_refl _) ⟨hT', by show 2 ≤ sizeLine; decide, _, .cons ⟨_, rfl⟩ (.cons ru .nil), _, hT', rfl, _, rfl⟩
    refine ⟨.ref s.heap.objs.size, _, I1, rfl, ⟨_, _, x, rfl, I.hok.fresh (Nat.le_refl _), rfl, rfl, fun ys hy => ?_⟩, ⟨⟨y, ?_⟩, st'.1.stay fun o q => (sb.2 it hne.symm).trans q⟩, fun b hb => ?_⟩
    · rw [src_inj I hy hq]
      exact hx
    · have : ((i + 1 : Nat) : Int) = (i : Int) + 1 := Int.natCast_succ i
      rw [this]
      exact he'
    · have lb : b < s.heap.objs.size := by
        rcases two hb with rfl | rfl
        · exact le
        · exact li
      rw [upd_ne (Nat.ne_of_lt lb)]
      exact (hf b hb).1
  · rintro X rfl rfl rfl calm i pins s σ H E I hf ⟨⟨old, he⟩, hi⟩ ⟨xs, hq, hx⟩
    obtain ⟨its, rv, p, _⟩ := inv_src I hq
    obtain ⟨q0, q1, q2, q3, q4, q5⟩ := hf it (List.mem_cons_of_mem _ List.mem_cons_self)
    have en : its.toArray.size = i := by
      rw [List.size_toArray, ← rv.length]
      exact hx
    exact wpAny_pyNext_enum_endD (sis_draws (prog := X.prog) (w := X.w) (A := X.A.in1) tup (I.ok.hd calm) it a hia.symm its.toArray) he (en ▸ ⟨hi, p⟩) fun g eb => ⟨rfl, I.turned (t' := s.toks) (fun b o nb q => eb b o nb q) q0 q1 q3 q4 q5⟩
  · rintro A i s Q E ⟨⟨_, he⟩, _⟩ h
    exact wpAny_pyIter_enum he h
def iEnumS (tup : Bool) (K : PySem.W.Frag) (ta : TA) : TI := fun σ H R => ta σ H fun vs H1 => ∃ a xs, vs = [.ref a] ∧ SqS tup K H1 a xs ∧ R (IteS tup K a) H1
theorem pi_enumS {X : Cx} {e : Expr} {ta : TA} {p pos tpos : Pos} {elts : List Expr} {kk : Nat} (tup : Bool) (hg : Gl X "enumerate") (hm : X.mg "enumerate" = none) (ha : PA X [e] ta) (hs : starEach [e] X.env = [(false, eval e X.env)] := by rfl) :
    PI X (.Tuple elts kk tpos) (.Call (.Name "enumerate" p) [e] [] pos) (iEnumS tup X.K ta) where
  run := fun pins s σ H R I h => by
    refine Call_ (ld_blt I hg hm boot_enumerate (PyProof.Rows.callWith_type1 (thn (ha.run pos pins s σ H _ I h) ?_) hs rfl))
    rintro us s1 ⟨vs, H1, I1, r1, a, xs, rfl, hq, k⟩
    obtain rfl := Vals.ref1 r1
    obtain ⟨its, rv, src, _⟩ := inv_src I1 hq
    have la := src.lt
    have hz : (s1.heap.push (iterOb tup a)).objs.size = s1.heap.objs.size + 1 := Heap.size_push ..
    have free : (iterOb tup a).isFreed = false := (sis_begins tup a its.toArray).free
    have kept : ∀ b o, s1.heap.get? b = some o → ((s1.heap.push (iterOb tup a)).push (enumOb s1.heap.objs.size)).get? b = some o := fun b o q => Heap.get?_push_of_some _ (Heap.get?_push_of_some _ q)
    have he : IsEnum ((s1.heap.push (iterOb tup a)).push (enumOb s1.heap.objs.size)) (s1.heap.objs.size + 1) s1.heap.objs.size 0 .none := by
      have q := Heap.get?_push_size (s1.heap.push (iterOb tup a)) (o := enumOb s1.heap.objs.size) rfl
      rw [hz] at q
      exact q
    refine callType_new F.called_enumerate (by decide) (F.typeCall_enumerate_1 _) (F.newCall_enumerate_1 _) (fun obj => F.args_object_init_2 obj _) F.entry_enumerate_new (meets_enum1 (sis_begins tup a its.toArray)) ⟨src, ?_⟩
    show _ ∧ _
    rw [hz]
    refine ⟨⟨_, he, rfl⟩, wpAny_pyIter_enum he ?_⟩
    refine ⟨s1.heap.objs.size + 1, [s1.heap.objs.size + 1, s1.heap.objs.size], _, _, H1, rfl, I1.kept (t' := s1.toks) kept, enum_turn tup a _ _ (Nat.ne_of_gt (Nat.lt_succ_of_lt la)) (Nat.ne_of_gt la) (Nat.succ_ne_self _), ⟨⟨_, he⟩, iterOb_at (Heap.get?_push_of_some _ (Heap.get?_push_size _ free))⟩, fun b hb => ?_, k⟩
    have old : s1.heap.objs.size ≤ b := by
      rcases List.mem_cons.mp hb with rfl | hb
      · exact Nat.le_succ _
      · exact Nat.le_of_eq (List.mem_singleton.mp hb).symm
    exact I1.fpOk old (I1.hok.fresh old)

/-! ### a tuple's items, collected -/
section
variable {prog : Program} {w : World} {A : Around} {E : Value → Shared → Prop} {s : Shared}
theorem collect_tuple {l : Addr} {vs : List Value} {Q : List Value → Shared → Prop} (ht : s.heap.IsTuple l vs.toArray) (hz : vs.length ≤ sizeLine)
    (k : ∀ h', (∀ b o, s.heap.get? b = some o → h'.get? b = some o) → Q vs { s with heap := h' }) : wpAny (model prog w) A (collect (.ref l)) Q E s := by
  obtain ⟨ot, g1, g2, m, g3⟩ := id ht
  have new : (s.heap.push (PyProof.Rows.seqObj "list" #[] 0)).get? s.heap.objs.size = some (PyProof.Rows.seqObj "list" #[] 0) := Heap.get?_push_size _ rfl
  have there : (s.heap.push (PyProof.Rows.seqObj "list" #[] 0)).get? l = some ot := Heap.get?_push_of_some _ g1
  unfold collect
  refine wpAny_bind (wpAny_runValue (codeAny_builtin PyProof.Rows.entry_proto_collect' ?_))
  show wpAny _ _ (newList [] >>= fun t => again (.builtin "list.__iadd__" ⟨[t, .ref l], []⟩)) _ _ s
  refine wpAny_bind (wpAny_newList (wpAny_pure ⟨Code.quiet_builtin _ (by decide +kernel), codeAny_builtin PyProof.Rows.entry_list_iadd' ?_⟩))
  show wpAny _ _ (Builtin.List.listExtendWith (.ref s.heap.objs.size) (.ref l) (.ref s.heap.objs.size)) _ _ { s with heap := s.heap.push (PyProof.Rows.seqObj "list" #[] 0) }
  delta Builtin.List.listExtendWith
  have kind : ∀ c : Bool, (c || (Value.type "tuple" == Value.type "list") || (Value.type "tuple" == Value.type "tuple")) = true := fun c => Bool.or_true _
  refine wpAny_bind (wpAny_typeOf (T := "tuple") ⟨ot, there, g2⟩ ?_)
  rw [if_pos (kind _)]
  refine wpAny_bind (listItems_at there g3 (wpAny_bind (listItems_at new rfl ?_)))
  rw [if_neg (by simp)]
  refine wpAny_bind (listUpdate_at new rfl ?_ (Nat.zero_le _) (by simp only [Array.size_append, List.size_toArray, List.length_nil]; show 0 + vs.length ≤ _; omega))
  refine wpAny_pure ?_
  have grown := get?_update_seq new (fun z => z ++ vs.toArray)
  refine wpAny_bind (m := load s.heap.objs.size) (wpAny_load grown ?_)
  show wpAny _ _ (pure (#[] ++ vs.toArray).toList) Q E _
  rw [Array.empty_append, List.toList_toArray]
  exact wpAny_pure (k _ fun b o q => (Heap.get?_update_ne _ _ _ _ (Nat.ne_of_lt (Heap.lt_size q))).trans (Heap.get?_push_of_some _ q))
end
end DL
set_option maxRecDepth 100000
set_option maxHeartbeats 4000000
/-! the data layer, 4: sorted of a list, a tuple, a dict -/
namespace DL
open PySem PySem.Spec PyProof.Rows L2 SlX
open Sem (wp)
open PySem.Calls
open PySem.W (EachIs AllAlike Sortable dataLe SortsAt dataKind sortingHeap sortingHeap_old list_sort_vals sortVals_data sortVals_length bound_map each_map)

section
variable {prog : Program} {w : World} {A : Around} {E : Value → Shared → Prop} {s : Shared}
theorem sorted_gen {arg : Value} {β : Type} {enc : β → PyData} {Rr : Heap → List Value → Prop} {R : Heap → Value → β → Prop} {Q : Value → Shared → Prop}
    (hcol : ∀ Q' : List Value → Shared → Prop, (∀ (h' : Heap) (tk : Nat) (dr) (us : List Value), (∀ b o, s.heap.get? b = some o → h'.get? b = some o) → Rr h' us → Q' us { s with heap := h', toks := tk, drawn := dr }) → wpAny (model prog w) A.in1 (collect arg) Q' E s)
    (hR : ∀ (h1 : Heap) us, (∀ b o, s.heap.get? b = some o → h1.get? b = some o) → Rr h1 us → ∃ bs : List β, (EachIs (R h1) us bs ∧ EachIs (fun v b => ∃ as, Reads h1 v (enc b) as) us bs) ∧ AllAlike (bs.map enc) ∧ Sortable (bs.map enc) ∧ bs.length ≤ sizeLine ∧ (∀ b, b ∈ bs → A.units + 2 + (enc b).depth < cLine) ∧
      ∀ (h' : Heap) (tk : Nat) (dr) (D : Addr) (out : List Value) (c : Nat), (∀ b o, h1.get? b = some o → h'.get? b = some o) → h1.objs.size ≤ D → h'.get? D = some (PyProof.Rows.seqObj "list" out.toArray c) → EachIs (R h1) out (bs.mergeSort (dataLe false enc)) → Q (.ref D) { s with heap := h', toks := tk, drawn := dr }) :
    wpAny (model prog w) A (call (.builtin "sorted") [arg]) Q E s := by
  refine call_function_entry kind_sorted plain_sorted entry_sorted (args_sorted1 _) ?_
  unfold Builtin.«sorted»
  refine wpAny_bind (m := checkCount "sorted" 1 1 _) (wpAny_pure ?_)
  refine wpAny_bind (hcol _ fun h1 tk dr us k1 r1 => ?_)
  obtain ⟨bs, ⟨e, er⟩, hal, hk, hL, hu, h⟩ := hR h1 us k1 r1
  have hlen : us.length = bs.length := e.length
  refine wpAny_bind (wpAny_newList ?_ (by rw [hlen]; exact hL))
  have hD : (h1.push (PyProof.Rows.seqObj "list" us.toArray 0)).get? h1.objs.size = some (PyProof.Rows.seqObj "list" us.toArray 0) := Heap.get?_push_size _ rfl
  have hne : ∀ b o, h1.get? b = some o → b ≠ h1.objs.size := fun b o q => Nat.ne_of_lt (Heap.lt_size q)
  have keep2 : ∀ b o, h1.get? b = some o → (sortingHeap (h1.push (PyProof.Rows.seqObj "list" us.toArray 0)) h1.objs.size us).get? b = some o := fun b o q => sortingHeap_old (hne b o q) (Heap.get?_push_of_some _ q)
  have er' : EachIs (fun v b => ∃ as, Reads (sortingHeap (h1.push (PyProof.Rows.seqObj "list" us.toArray 0)) h1.objs.size us) v (enc b) as) us bs := er.mono fun _ _ ⟨as, r⟩ => ⟨as, PyProof.Rows.Reads.keeps keep2 r⟩
  refine wpAny_bind (wpAny_holding (wpAny_call_entry PyProof.Rows.slot_list_sort ⟨_, hD, rfl⟩ PyProof.Rows.entry_list_sort ?body (PyProof.Rows.args_list_sort _)))
  case body =>
    refine wpAny_mono (list_sort_vals (A := A.in1.in1) (κ := dataKind (sortingHeap (h1.push (PyProof.Rows.seqObj "list" us.toArray 0)) h1.objs.size us) (bs.map enc)) (vs := us) (n := 0)
      (P := fun f s' => f = .done (.ret .none) ∧ s' = { s with heap := PyProof.Rows.sortedHeap (h1.push (PyProof.Rows.seqObj "list" us.toArray 0)) h1.objs.size us (PySem.W.sortVals (dataKind (sortingHeap (h1.push (PyProof.Rows.seqObj "list" us.toArray 0)) h1.objs.size us) (bs.map enc)) false us us).toArray, toks := tk, drawn := dr }) hD
      (SortsAt.data (s := { s with heap := sortingHeap (h1.push (PyProof.Rows.seqObj "list" us.toArray 0)) h1.objs.size us, toks := tk, drawn := dr }) (each_map (R := fun v d => ∃ as, Reads (sortingHeap (h1.push (PyProof.Rows.seqObj "list" us.toArray 0)) h1.objs.size us) v d as) enc er') hal hk (bound_map fun b hb => by
        have := hu b hb
        show A.units + 1 + 1 + _ < _
        omega)) (by rw [hlen]; exact hL) ⟨rfl, rfl⟩) (fun f s' q => ?_) fun _ _ z => z
    obtain ⟨rfl, rfl⟩ := q
    obtain ⟨c, hc⟩ := PyProof.Rows.sortedHeap_at (vs := us) (out := (PySem.W.sortVals (dataKind (sortingHeap (h1.push (PyProof.Rows.seqObj "list" us.toArray 0)) h1.objs.size us) (bs.map enc)) false us us).toArray) hD
    exact ⟨_, rfl, wpAny_pure ⟨_, rfl, h _ tk dr h1.objs.size _ c (fun b o q => (PyProof.Rows.sortedHeap_old (hne b o q) (by rw [Heap.size_push]; exact Nat.lt_succ_of_lt (Heap.lt_size q))).trans (Heap.get?_push_of_some _ q)) (Nat.le_refl _) hc (sortVals_data false e er' hal)⟩⟩
theorem sorted_from {arg : Value} {β : Type} {enc : β → PyData} {bs : List β} {Rr : Heap → List Value → Prop} {R : Heap → Value → β → Prop} {Q : Value → Shared → Prop}
    (hcol : ∀ Q' : List Value → Shared → Prop, (∀ (h' : Heap) (tk : Nat) (dr) (us : List Value), (∀ b o, s.heap.get? b = some o → h'.get? b = some o) → Rr h' us → Q' us { s with heap := h', toks := tk, drawn := dr }) → wpAny (model prog w) A.in1 (collect arg) Q' E s)
    (hR : ∀ h' us, (∀ b o, s.heap.get? b = some o → h'.get? b = some o) → Rr h' us → EachIs (R h') us bs ∧ EachIs (fun v b => ∃ as, Reads h' v (enc b) as) us bs)
    (hal : AllAlike (bs.map enc)) (hk : Sortable (bs.map enc)) (hL : bs.length ≤ sizeLine) (hu : ∀ b, b ∈ bs → A.units + 2 + (enc b).depth < cLine)
    (h : ∀ (h1 : Heap) (us : List Value), (∀ b o, s.heap.get? b = some o → h1.get? b = some o) → Rr h1 us → ∀ (h' : Heap) (tk : Nat) (dr) (D : Addr) (out : List Value) (c : Nat), (∀ b o, h1.get? b = some o → h'.get? b = some o) → h1.objs.size ≤ D → h'.get? D = some (PyProof.Rows.seqObj "list" out.toArray c) →
      EachIs (R h1) out (bs.mergeSort (dataLe false enc)) → Q (.ref D) { s with heap := h', toks := tk, drawn := dr }) :
    wpAny (model prog w) A (call (.builtin "sorted") [arg]) Q E s :=
  sorted_gen hcol fun h1 us k1 r1 => ⟨bs, hR h1 us k1 r1, hal, hk, hL, hu, h h1 us k1 r1⟩

end

/-- the data's length line, as the sort gives it -/
theorem each_of_vals {H : Hp} : ∀ {vs : List V} {us : List Value} {ds : List D}, Vals vs us → DtAll H vs ds → EachIs (fun u d => ∃ v, RelV v u ∧ Dt H v d) us ds
  | [], _, _, r, h => by
    cases r
    cases h
    exact .nil
  | v :: vs, _, _, r, h => by
    cases r with
    | cons r1 r2 =>
      cases h with
      | cons h1 h2 => exact .cons ⟨v, r1, h1⟩ (each_of_vals r2 h2)
theorem vals_of_each {H : Hp} : ∀ {us : List Value} {ds : List D}, EachIs (fun u d => ∃ v, RelV v u ∧ Dt H v d) us ds → ∃ vs, Vals vs us ∧ DtAll H vs ds
  | _, _, .nil => ⟨[], .nil, .nil⟩
  | _, _, .cons h t => by
    obtain ⟨v, r, d⟩ := h
    obtain ⟨vs, rs, dts⟩ := vals_of_each t
    exact ⟨v :: vs, .cons r rs, .cons d dts⟩
theorem each_reads {X : Cx} {pins : List (Addr × Obj)} {σ : L2.St} {H : Hp} {s : Shared} (I : Inv X pins σ H s) : ∀ {vs : List V} {us : List Value} {ds : List D}, Vals vs us → DtAll H vs ds → EachIs (fun u d => ∃ as, Reads s.heap u d as) us ds
  | [], _, _, r, h => by
    cases r
    cases h
    exact .nil
  | v :: vs, _, _, r, h => by
    cases r with
    | cons r1 r2 =>
      cases h with
      | cons h1 h2 => exact .cons (Dp.reads I _ _ _ (dt_dp _ _ h1) r1) (each_reads I r2 h2)
theorem Inv.dr {X : Cx} {pins : List (Addr × Obj)} {σ : L2.St} {H : Hp} {s : Shared} (I : Inv X pins σ H s) (d) : Inv X pins σ H { s with drawn := d } := by
  refine I.call' (ch := []) rfl ⟨fun b o q _ _ _ => q, fun b o q _ _ _ => ⟨o.slots, q⟩, fun b o q n _ => n, fun b o q _ => ⟨o, q⟩, fun b xs q => q, fun b o u q => q, fun b ps q => ⟨#[], by simp [q]⟩⟩ I.hok I.bare fun b z => by simp at z
def sortD (ds : List D) : List D := ds.mergeSort (dataLe false id)
theorem sortD_perm (ds : List D) : (sortD ds).Perm ds := List.mergeSort_perm _ _
structure Okays (ds : List D) : Prop where
  al : AllAlike ds
  so : Sortable ds
  sz : ds.length ≤ sizeLine
  dp : ∀ d ∈ ds, d.depth ≤ 20
/-- the argument's items as data: read off the state -/
def Src (X : Cx) (x : V) (B H : Hp) (ds : List D) : Prop :=
  (∃ a vs, x = .ref a ∧ H a = some (.lst vs) ∧ DtAll B vs ds) ∨ (∃ a vs, x = .ref a ∧ SqT X.K H a vs ∧ DtAll B vs ds) ∨
  (∃ (a : Addr) (xs : List (NestedKey × Addr × V)), x = .ref a ∧ H a = some (DkO X.prog X.w a xs) ∧ DtAll B (xs.map fun z => .ref z.2.1) ds) ∨
  ∃ (a : Addr) (ks : List (Key × V)), x = .ref a ∧ Rd H a (.dK ks) ∧ DtAll B (ks.map fun z => kV z.1) ds
theorem call_sortedD {X : Cx} {k : Nat} (hc : X.calm = true) (hr : Room k X.A) : CallR X (.builtin "sorted") (fun xs H Q => ∃ x B ds, xs = [x] ∧ Ex B H ∧ Src X x B H ds ∧ Okays ds ∧ ∀ (p : Addr) (vs : List V), H p = none → DtAll B vs (sortD ds) → Q (.ref p) (upd H p (.lst vs))) := by
  intro pins s σ H xs us Q I r h
  obtain ⟨x, B, ds, rfl, ex, src, ok, q⟩ := h
  obtain ⟨u, rfl, rx⟩ := r.one
  have hun : X.A.units + 64 < cLine := hr.units
  have fin : ∀ (h1 : Heap), (∀ b o, s.heap.get? b = some o → h1.get? b = some o) → ∀ (h' : Heap) (tk : Nat) (dr) (D : Addr) (out : List Value) (c : Nat), (∀ b o, h1.get? b = some o → h'.get? b = some o) → h1.objs.size ≤ D → h'.get? D = some (PyProof.Rows.seqObj "list" out.toArray c) →
      EachIs (fun u d => ∃ v, RelV v u ∧ Dt B v d) out (ds.mergeSort (dataLe false id)) → EP X pins σ Q (.ref D) { s with heap := h', toks := tk, drawn := dr } := fun h1 k1 h' tk dr D out c k2 hD ho he => by
    obtain ⟨vs, rv, dv⟩ := vals_of_each he
    have hl : vs.length ≤ sizeLine := by
      rw [dtall_len dv, List.length_mergeSort]
      exact ok.sz
    have I1 : Inv X pins σ H { s with heap := h1, toks := tk, drawn := dr } := (Inv.dr I dr).kept k1
    exact ⟨.ref D, _, I1.laid (t' := tk) (o := .lst vs) (fun b o e => k2 b o e) hD ⟨hl, out, c, rv, ho⟩, rfl, q D vs (I1.hok.fresh hD) dv⟩
  have hdp : ∀ b, b ∈ ds → X.A.units + 2 + (id b : D).depth < cLine := fun b hb => by
    have := ok.dp b hb
    show X.A.units + 2 + b.depth < cLine
    omega
  have hal : AllAlike (ds.map id) := by rw [List.map_id]; exact ok.al
  have hso : Sortable (ds.map id) := by rw [List.map_id]; exact ok.so
  rcases src with ⟨a, vs, rfl, ha, hd⟩ | ⟨a, vs, rfl, ha, hd⟩ | ⟨a, xs, rfl, ha, hd⟩ | ⟨a, xs, rfl, ha, hd⟩
  · cases rx
    obtain ⟨its, rv, pl, hz⟩ := I.list (sl_of ha)
    have hl : its.length ≤ sizeLine := by rw [← rv.length]; exact hz
    refine sorted_from (enc := id) (Rr := fun h' us => us = its) (R := fun _ u d => ∃ v, RelV v u ∧ Dt B v d) (bs := ds) (fun Q' hq => ?_) (fun h' us k e => ?_) hal hso ok.sz hdp (fun h1 us k1 e h' tk dr D out c k2 hD ho he => fin h1 k1 h' tk dr D out c k2 hD ho he)
    · exact collect_list pl.isList (hq _ s.toks s.drawn _ (fun b o e => by
        rw [Heap.get?_update_ne _ _ _ _ (Nat.ne_of_lt (Heap.lt_size e))]
        exact Heap.get?_push_of_some _ e) rfl) hl
    · subst e
      exact ⟨each_of_vals rv hd, (each_reads I rv (dtall_mono ex _ _ hd)).mono fun _ _ ⟨as, r⟩ => ⟨as, PyProof.Rows.Reads.keeps k r⟩⟩
  · cases rx
    obtain ⟨its, rv, pl, hz⟩ := I.tuple ha
    have hl : its.length ≤ sizeLine := by rw [← rv.length]; exact hz
    refine sorted_from (enc := id) (Rr := fun h' us => us = its) (R := fun _ u d => ∃ v, RelV v u ∧ Dt B v d) (bs := ds) (fun Q' hq => ?_) (fun h' us k e => ?_) hal hso ok.sz hdp (fun h1 us k1 e h' tk dr D out c k2 hD ho he => fin h1 k1 h' tk dr D out c k2 hD ho he)
    · exact collect_tuple pl hl fun h' k => hq _ s.toks s.drawn _ k rfl
    · subst e
      exact ⟨each_of_vals rv hd, (each_reads I rv (dtall_mono ex _ _ hd)).mono fun _ _ ⟨as, r⟩ => ⟨as, PyProof.Rows.Reads.keeps k r⟩⟩
  · cases rx
    obtain ⟨⟨vals, rvs, hzx, hsys, o, es, ep, ho, hex, hdat, hes, hdep, hnd⟩, _, _⟩ := I.hok a _ ha
    have hlen : vals.length = xs.length := by
      have := rvs.length
      rw [List.length_map] at this
      exact this.symm
    have hel : es.size = xs.length := by
      rw [← Array.length_toList, hes, List.length_zipWith, hlen, Nat.min_self]
    have hkeys : es.toList.map (·.key) = xs.map fun z => Value.ref z.2.1 := by
      rw [hes]
      have : ∀ (xs : List (NestedKey × Addr × V)) (vals : List Value), vals.length = xs.length → (List.zipWith (fun (x : NestedKey × Addr × V) v => entryOfKey (nestedKind X.prog X.w) (x.1, x.2.1, v)) xs vals).map (·.key) = xs.map fun z => Value.ref z.2.1 := by
        intro xs
        induction xs with
        | nil => intro vals _; rfl
        | cons x xs ih =>
          intro vals hv
          cases vals with
          | nil => cases hv
          | cons v vals =>
            rw [List.zipWith_cons_cons, List.map_cons, List.map_cons, ih vals (Nat.succ.inj hv)]
            rfl
      exact this xs vals hlen
    have rv : Vals (xs.map fun z => V.ref z.2.1) (xs.map fun z => Value.ref z.2.1) := by
      have : ∀ xs : List (NestedKey × Addr × V), Vals (xs.map fun z => V.ref z.2.1) (xs.map fun z => Value.ref z.2.1) := fun xs => by
        induction xs with
        | nil => exact .nil
        | cons x xs ih => exact .cons rfl ih
      exact this xs
    refine sorted_from (enc := id) (Rr := fun h' us => us = (xs.map fun z => Value.ref z.2.1)) (R := fun _ u d => ∃ v, RelV v u ∧ Dt B v d) (bs := ds) (fun Q' hq => ?_) (fun h' us k e => ?_) hal hso ok.sz hdp (fun h1 us k1 e h' tk dr D out c k2 hD ho he => fin h1 k1 h' tk dr D out c k2 hD ho he)
    · refine PySem.W.kdu_collect (KdlSrc.rawDict (es := es) (ep := ep) hsys) (I.ok.hd hc) ⟨o, ho, hex, hdat⟩ (by rw [hel]; exact hzx) fun h' tk acc k1 hacc => ?_
      refine hq h' tk s.drawn _ k1 ?_
      apply List.ext_getElem?
      intro i
      rw [← hkeys, Array.getElem?_toList, List.getElem?_map, Array.getElem?_toList]
      by_cases hi : i < es.size
      · have hi2 : i < acc.size := by rw [hacc.1]; exact hi
        obtain ⟨_, hv⟩ := hacc.2 i _ (Array.getElem?_eq_getElem hi2)
        rw [Array.getElem?_eq_getElem hi2, Array.getElem?_eq_getElem hi, hv]
        rfl
      · rw [Array.getElem?_eq_none (by rw [hacc.1]; omega), Array.getElem?_eq_none (by omega)]
        rfl
    · subst e
      exact ⟨each_of_vals rv hd, (each_reads I rv (dtall_mono ex _ _ hd)).mono fun _ _ ⟨as, r⟩ => ⟨as, PyProof.Rows.Reads.keeps k r⟩⟩
  · cases rx
    obtain ⟨z, lo, vs, rel, dd⟩ := dk_rd I.hok ha
    obtain ⟨ep, hat⟩ := dd.dictAt
    have hlen : vs.length = xs.length := rel.length.symm
    have hkv : (vs.map fun p => kV p.1) = xs.map fun z => kV z.1 := by
      have e := rel.keys
      have e2 := congrArg (List.map kV) e
      rw [List.map_map, List.map_map] at e2
      exact e2.symm
    refine sorted_from (enc := id) (Rr := fun h' us => Vals (xs.map fun z => kV z.1) us) (R := fun _ u d => ∃ v, RelV v u ∧ Dt B v d) (bs := ds) (fun Q' hq => ?_) (fun h' us k e => ?_) hal hso ok.sz hdp (fun h1 us k1 e h' tk dr D out c k2 hD ho he => fin h1 k1 h' tk dr D out c k2 hD ho he)
    · refine PySem.W.kdu_collect (PySem.W.kdl_dict (knd := mixKind X.prog X.w) (kvs := vs) (ep := ep) lo) (I.ok.hd hc) hat (by rw [hlen]; exact z) fun h' tk acc k1 hacc => ?_
      refine hq h' tk s.drawn _ k1 ?_
      rw [← hkv]
      exact keys_at (by rw [Array.length_toList]; exact hacc.1) fun j v e => hacc.2 j v (by rw [← Array.getElem?_toList]; exact e)
    · exact ⟨each_of_vals e hd, (each_reads (I.kept (t' := s.toks) k) e (dtall_mono ex _ _ hd))⟩
end DL
set_option maxRecDepth 100000
set_option maxHeartbeats 4000000
/-! the data layer, 5: what is walked, targets, comprehensions -/
namespace DL
open PySem PySem.Spec PyProof.Rows L2 SlX

/-- every tracked list and tuple is within the line -/
def SizeOk (H : Hp) : Prop := (∀ a xs, H a = some (.lst xs) → xs.length ≤ sizeLine) ∧ ∀ a xs, TupAt H a xs → xs.length ≤ sizeLine
theorem size_ok {X : Cx} {pins : List (Addr × Obj)} {σ : L2.St} {H : Hp} {s : Shared} (I : Inv X pins σ H s) : SizeOk H :=
  ⟨fun a xs h => let ⟨_, _, _, z⟩ := I.list (sl_of h); z, fun a xs h => let ⟨_, _, _, z⟩ := I.tuple h.sq; z⟩
theorem pe_size {X : Cx} {e : Expr} {t : TE} (h : PE X e t) : PE X e (fun σ H Q => t σ H fun v H1 => SizeOk H1 → Q v H1) :=
  ⟨fun pins s σ H Q I q => thn (h.run pins s σ H _ I q) fun u s1 ⟨v, H1, I1, r, k⟩ => ⟨v, H1, I1, r, k (size_ok I1)⟩⟩

/-! ### what is walked -/
/-- n = ds.length turns while B stands: the i-th gives ds[i], as it stands or as a new tuple -/
structure WalkD (J : It) (ds : List D) (B : Hp) : Prop where
  go : ∀ i H, i < ds.length → Ex B H → J.go i H
  stop : ∀ H, Ex B H → J.stop ds.length H
  yld : ∀ i H x H', i < ds.length → Ex B H → J.yld i H x H' → ∃ d, ds[i]? = some d ∧ ((H' = H ∧ Dt B x d) ∨ ∃ T o xs es, x = .ref T ∧ H T = none ∧ o.dict = none ∧ H' = upd H T (.frz o (.tup xs)) ∧ d = .tuple es ∧ DtAll B xs es)
  size : ds.length ≤ sizeLine
def tDI (c : Ct) (ρ : List Sl) (ds : List D) : TI := fun σ H R => ∃ H0 B, Ex B H ∧ EnvOk c H0 B H σ ρ ∧ ∀ J B1 H1, Step B H B1 H1 → WalkD J ds B1 → R J H1
def EvI (C : Addr) (X : Cx) (tg iter : Expr) (ρ : List Sl) (ds : List D) : Prop := PI X tg iter (tDI (ct X C) ρ ds)
theorem pi_weak {X : Cx} {tg iter : Expr} {w w' : TI} (h : PI X tg iter w) (k : ∀ σ H R, w' σ H R → w σ H R) : PI X tg iter w' := ⟨fun pins s σ H R I q => h.run pins s σ H R I (k σ H R q)⟩
section
variable {C : Addr} {X : Cx} {tg e : Expr} {ρ : List Sl}
theorem ei_list {ds : List D} (h : Ev C X e ρ (.d (.list ds))) : EvI C X tg e ρ ds := pi_weak (pi_list (pe_size h)) fun σ H R ⟨H0, B, ex, en, k⟩ => ⟨H0, B, ex, en, fun v B1 H1 s1 r1 sz => by
  cases r1 with
  | @lst a xs _ ha hd =>
    have hl := dtall_len hd
    refine ⟨a, rfl, ⟨xs, sl_of (s1.t _ _ ha)⟩, k _ B1 H1 s1 ⟨fun i H2 hi e2 => ⟨xs, xs[i]'(by rw [hl]; exact hi), sl_of (e2 _ _ ha), by simp⟩, fun H2 e2 => ⟨xs, sl_of (e2 _ _ ha), by rw [hl]; exact Nat.le_refl _⟩, fun i H2 x H' hi e2 y => ?_, by rw [← hl]; exact sz.1 a xs (s1.t _ _ ha)⟩⟩
    obtain ⟨y1, y2⟩ := y
    obtain ⟨d, h1, h2⟩ := dtall_get hd (y2 xs (sl_of (e2 _ _ ha)))
    exact ⟨d, h1, .inl ⟨y1, h2⟩⟩⟩
theorem ei_tup {ds : List D} (h : Ev C X e ρ (.d (.tuple ds))) : EvI C X tg e ρ ds := pi_weak (pi_tup (pe_size h)) fun σ H R ⟨H0, B, ex, en, k⟩ => ⟨H0, B, ex, en, fun v B1 H1 s1 r1 sz => by
  cases r1 with
  | @tup a xs _ ha hd =>
    have hl := dtall_len hd
    refine ⟨a, rfl, ⟨xs, (ha.mono s1.t).sq⟩, k _ B1 H1 s1 ⟨fun i H2 hi e2 => ⟨xs, xs[i]'(by rw [hl]; exact hi), (ha.mono e2).sq, by simp⟩, fun H2 e2 => ⟨xs, (ha.mono e2).sq, by rw [hl]; exact Nat.le_refl _⟩, fun i H2 x H' hi e2 y => ?_, by rw [← hl]; exact sz.2 a xs (ha.mono s1.t)⟩⟩
    obtain ⟨y1, y2⟩ := y
    obtain ⟨d, h1, h2⟩ := dtall_get hd (y2 xs ((ha.mono e2).sq))
    exact ⟨d, h1, .inl ⟨y1, h2⟩⟩⟩
def signs (s : Str) : List D := s.cps.toList.map fun c => .str ⟨#[c]⟩
theorem ei_str {s : Str} (hz : s.length ≤ sizeLine) (h : Ev C X e ρ (.d (.str s))) : EvI C X tg e ρ (signs s) := pi_weak (pi_str h) fun σ H R ⟨H0, B, ex, en, k⟩ => ⟨H0, B, ex, en, fun v B1 H1 s1 r1 => by
  cases r1
  have hl : (signs s).length = s.cps.size := by simp [signs]
  refine ⟨s, rfl, k _ B1 H1 s1 ⟨fun i H2 hi e2 => by rw [hl] at hi; exact hi, fun H2 e2 => by rw [hl]; exact Nat.le_refl _, fun i H2 x H' hi e2 y => ?_, by rw [hl]; exact hz⟩⟩
  obtain ⟨y1, c, y2, y3⟩ := y
  exact ⟨.str ⟨#[c]⟩, by simp [signs, y2], .inl ⟨y1, by rw [y3]; exact Dt.str _⟩⟩⟩
def natsD (n : Nat) : List D := (List.range n).map fun i => .int (i : Nat)
theorem natsD_len (n : Nat) : (natsD n).length = n := by simp [natsD]
theorem natsD_get {n i : Nat} (h : i < n) : (natsD n)[i]? = some (.int (i : Nat)) := by simp [natsD, h]
theorem ei_range {a : Expr} {n : Nat} {p pos : Pos} (hm : X.mg "range" = none) (hz : n ≤ sizeLine) (h : Ev C X a ρ (.d (.int (n : Nat)))) (hg : Gl X "range" := by rfl) (hs : starEach [a] X.env = (false, eval a X.env) :: starEach [] X.env := by rfl) (hs2 : starEach [a] X.env = [(false, eval a X.env)] := by rfl) : EvI C X tg (.Call (.Name "range" p) [a] [] pos) ρ (natsD n) :=
  pi_weak (pi_range1 hg hm (pa_cons h pa_nil hs) hs2) fun σ H R ⟨H0, B, ex, en, k⟩ => ⟨H0, B, ex, en, fun v B1 H1 s1 r1 => by
    cases r1
    have hb : (n : Int) < 2 ^ 62 := by
      have : (n : Int) ≤ (sizeLine : Int) := Int.ofNat_le.mpr hz
      rw [sizeLine_eq] at this
      omega
    refine ⟨_, rfl, by omega, hb, k _ B1 H1 s1 ⟨fun i H2 hi e2 => by
      rw [natsD_len] at hi
      show i < (n : Int).toNat
      omega, fun H2 e2 => by
      rw [natsD_len]
      show (n : Int).toNat ≤ n
      omega, fun i H2 x H' hi e2 y => ?_, by rw [natsD_len]; exact hz⟩⟩
    obtain ⟨y1, y2⟩ := y
    rw [natsD_len] at hi
    exact ⟨_, natsD_get hi, .inl ⟨y1, by rw [y2, Int.zero_add]; exact Dt.int _⟩⟩⟩
/-- (0, x0), (1, x1), .. -/
def enumD (ds : List D) : List D := ds.zipIdx.map fun p => .tuple [.int (p.2 : Nat), p.1]
theorem enumD_len (ds : List D) : (enumD ds).length = ds.length := by simp [enumD]
theorem enumD_get {ds : List D} {i : Nat} {d : D} (h : ds[i]? = some d) : (enumD ds)[i]? = some (.tuple [.int (i : Nat), d]) := by simp [enumD, h]
theorem enum_walk {tup : Bool} {K : PySem.W.Frag} {B : Hp} {a : Addr} {xs : List V} {ds : List D} (hq : ∀ H2, Ex B H2 → SqS tup K H2 a xs) (hd : DtAll B xs ds) (hz : xs.length ≤ sizeLine) : WalkD (IteS tup K a) (enumD ds) B := by
  have hl := dtall_len hd
  refine ⟨fun i H2 hi e2 => ?_, fun H2 e2 => ⟨xs, hq H2 e2, by rw [hl, enumD_len]⟩, fun i H2 x H' hi e2 y => ?_, by rw [enumD_len, ← hl]; exact hz⟩
  · rw [enumD_len, ← hl] at hi
    exact ⟨xs, xs[i], hq H2 e2, by simp [hi]⟩
  · obtain ⟨T, o, z, h1, h2, h3, h4, h5⟩ := y
    obtain ⟨d, g1, g2⟩ := dtall_get hd (h5 xs (hq H2 e2))
    exact ⟨_, enumD_get g1, .inr ⟨T, o, _, _, h1, h2, h3, h4, rfl, .cons (Dt.int _) (.cons g2 .nil)⟩⟩
theorem ei_enumT {e : Expr} {elts : List Expr} {kk : Nat} {p pos tpos : Pos} {ds : List D} (hm : X.mg "enumerate" = none) (h : Ev C X e ρ (.d (.tuple ds))) (hg : Gl X "enumerate" := by rfl) (hs : starEach [e] X.env = (false, eval e X.env) :: starEach [] X.env := by rfl) (hs2 : starEach [e] X.env = [(false, eval e X.env)] := by rfl) :
    EvI C X (.Tuple elts kk tpos) (.Call (.Name "enumerate" p) [e] [] pos) ρ (enumD ds) := pi_weak (pi_enumS true hg hm (pa_cons (pe_size h) pa_nil hs) hs2) fun σ H R ⟨H0, B, ex, en, k⟩ => ⟨H0, B, ex, en, fun v B1 H1 s1 r1 sz => by
  cases r1 with
  | @tup a xs _ ha hd => exact ⟨a, xs, rfl, (ha.mono s1.t).sq, k _ B1 H1 s1 (enum_walk (tup := true) (fun H2 e2 => (ha.mono e2).sq) hd (sz.2 a xs (ha.mono s1.t)))⟩⟩
theorem ei_enumL {e : Expr} {elts : List Expr} {kk : Nat} {p pos tpos : Pos} {ds : List D} (hm : X.mg "enumerate" = none) (h : Ev C X e ρ (.d (.list ds))) (hg : Gl X "enumerate" := by rfl) (hs : starEach [e] X.env = (false, eval e X.env) :: starEach [] X.env := by rfl) (hs2 : starEach [e] X.env = [(false, eval e X.env)] := by rfl) :
    EvI C X (.Tuple elts kk tpos) (.Call (.Name "enumerate" p) [e] [] pos) ρ (enumD ds) := pi_weak (pi_enumS false hg hm (pa_cons (pe_size h) pa_nil hs) hs2) fun σ H R ⟨H0, B, ex, en, k⟩ => ⟨H0, B, ex, en, fun v B1 H1 s1 r1 sz => by
  cases r1 with
  | @lst a xs _ ha hd => exact ⟨a, xs, rfl, sl_of (s1.t _ _ ha), k _ B1 H1 s1 (enum_walk (tup := false) (fun H2 e2 => sl_of (e2 _ _ ha)) hd (sz.1 a xs (s1.t _ _ ha)))⟩⟩
end

/-! ### targets -/
def NotIn (js : List Nat) (σ σ' : L2.St) : Prop := ∀ j, j ∉ js → σ'[j]? = σ[j]?
def tDG (c : Ct) (ρ ρ' : List Sl) (d : D) (js : List Nat) : TG := fun v σ H Q => ∃ H0 B, Ex B H ∧ EnvOk c H0 B H σ ρ ∧ Dt B v d ∧ ∀ σ', EnvOk c H0 B H σ' ρ' → σ'.length = σ.length → NotIn js σ σ' → Q σ' H
def tDGs (c : Ct) (ρ ρ' : List Sl) (ds : List D) (js : List Nat) : TGs := fun vs σ H Q => ∃ H0 B, Ex B H ∧ EnvOk c H0 B H σ ρ ∧ DtAll B vs ds ∧ ∀ σ', EnvOk c H0 B H σ' ρ' → σ'.length = σ.length → NotIn js σ σ' → Q σ' H
def EvG (C : Addr) (X : Cx) (tg : Expr) (ρ : List Sl) (d : D) (ρ' : List Sl) (js : List Nat) : Prop := PG X tg (tDG (ct X C) ρ ρ' d js)
def EvGs (C : Addr) (X : Cx) (tgs : List Expr) (ρ : List Sl) (ds : List D) (ρ' : List Sl) (js : List Nat) : Prop := PGs X tgs (tDGs (ct X C) ρ ρ' ds js)
theorem pg_weak {X : Cx} {tg : Expr} {g g' : TG} (h : PG X tg g) (k : ∀ v σ H Q, g' v σ H Q → g v σ H Q) : PG X tg g' := ⟨fun pins s σ H v u Q I r q => h.run pins s σ H v u Q I r (k v σ H Q q)⟩
theorem pgs_weak {X : Cx} {tgs : List Expr} {g g' : TGs} (h : PGs X tgs g) (k : ∀ v σ H Q, g' v σ H Q → g v σ H Q) : PGs X tgs g' := ⟨fun pins s σ H v u Q I r q => h.run pins s σ H v u Q I r (k v σ H Q q)⟩
section
variable {C : Addr} {X : Cx} {tg : Expr} {tgs : List Expr} {ρ ρ1 ρ2 : List Sl} {d : D} {ds : List D} {pos : Pos}
theorem eg_name (i : Nat) {x : Str} (hN : X.N.Nodup) (hi : X.N[i]? = some x := by rfl) (hx : Loc X.env.scope x := by first | exact Or.inl rfl | exact Or.inr rfl) (hf : X.fn x = true ∨ X.env.scope.names.lookup x = some .local := by first | exact .inl rfl | exact .inr rfl) :
    EvG C X (.Name x pos) ρ d (ρ.set i (.i (.d d))) [i] := pg_weak (pg_name hN hi hx hf) fun v σ H Q ⟨H0, B, ex, en, r, k⟩ => k _ (en.set i r) (by rw [List.length_set]) fun j hj => by
  rw [List.getElem?_set_ne]
  exact fun e => hj (by rw [e]; exact List.mem_singleton.mpr rfl)
theorem egs_nil : EvGs C X [] ρ [] ρ [] := pgs_weak pgs_nil fun v σ H Q ⟨H0, B, ex, en, r, k⟩ => by
  cases r
  exact ⟨rfl, k σ en rfl fun j _ => rfl⟩
theorem egs_cons {js ks : List Nat} (h1 : EvG C X tg ρ d ρ1 js) (h2 : EvGs C X tgs ρ1 ds ρ2 ks) (hs : (assignEach (tg :: tgs) X.env).map (·.2) = assign tg X.env :: (assignEach tgs X.env).map (·.2) := by rfl) : EvGs C X (tg :: tgs) ρ (d :: ds) ρ2 (js ++ ks) :=
  pgs_weak (pgs_cons h1 h2 hs) fun v σ H Q ⟨H0, B, ex, en, r, k⟩ => by
    cases r with
    | cons r1 r2 =>
      exact ⟨_, _, rfl, H0, B, ex, en, r1, fun σ1 e1 l1 n1 => ⟨H0, B, ex, e1, r2, fun σ2 e2 l2 n2 => k σ2 e2 (l2.trans l1) fun j hj => by
        rw [List.mem_append, not_or] at hj
        exact (n2 j hj.2).trans (n1 j hj.1)⟩⟩
theorem eg_tup {js : List Nat} {k : Nat} (hc : X.calm = true) (h : EvGs C X tgs ρ ds ρ1 js) (hl : ds.length = (assignEach tgs X.env).length := by rfl) (hst : (assignEach tgs X.env).findIdx? (·.1) = none := by rfl) : EvG C X (.Tuple tgs k pos) ρ (.tuple ds) ρ1 js :=
  pg_weak (pg_tup hc h rfl hst) fun v σ H Q ⟨H0, B, ex, en, r, q⟩ => by
    cases r with
    | @tup a xs _ ha hd => exact ⟨a, xs, rfl, (ha.mono ex).sq, (dtall_len hd).trans hl, H0, B, ex, en, hd, q⟩
end

/-! ### comprehensions -/
theorem wipe_get (σ : L2.St) : ∀ (vs : List Nat) (j : Nat), (wipe σ vs)[j]? = if j ∈ vs ∧ j < σ.length then some none else σ[j]?
  | [], j => by simp [wipe]
  | v :: vs, j => by
    have ih := wipe_get σ vs j
    unfold wipe
    rw [List.getElem?_set]
    by_cases hv : v = j
    · subst hv
      rw [if_pos rfl, wipe_length]
      by_cases hl : v < σ.length
      · rw [if_pos hl, if_pos ⟨List.mem_cons_self, hl⟩]
      · rw [if_neg hl, if_neg fun q => hl q.2, List.getElem?_eq_none (by omega)]
    · rw [if_neg hv, ih]
      by_cases h : j ∈ vs ∧ j < σ.length
      · rw [if_pos h, if_pos ⟨List.mem_cons_of_mem _ h.1, h.2⟩]
      · rw [if_neg h, if_neg fun q => h ⟨(List.mem_cons.mp q.1).resolve_left (Ne.symm hv), q.2⟩]
theorem wipe_same {σ σ' : L2.St} {js vs : List Nat} (hl : σ'.length = (wipe σ vs).length) (h : NotIn js (wipe σ vs) σ') (hs : ∀ j ∈ js, j ∈ vs) : wipe σ' vs = wipe σ vs := by
  rw [wipe_length] at hl
  apply List.ext_getElem?
  intro j
  rw [wipe_get, wipe_get, hl]
  by_cases hj : j ∈ vs
  · by_cases h2 : j < σ.length
    · rw [if_pos ⟨hj, h2⟩, if_pos ⟨hj, h2⟩]
    · rw [if_neg fun q => h2 q.2, if_neg fun q => h2 q.2, List.getElem?_eq_none (by omega), List.getElem?_eq_none (by omega)]
  · rw [if_neg fun q => hj q.1, if_neg fun q => hj q.1, h j fun q => hj (hs j q), wipe_get, if_neg fun q => hj q.1]
def forgets (ρ : List Sl) : List Nat → List Sl
  | [] => ρ
  | v :: vs => (forgets ρ vs).set v .no
theorem EnvOk.wipe {c : Ct} {H0 B H : Hp} {σ : L2.St} {ρ : List Sl} (e : EnvOk c H0 B H σ ρ) : ∀ vs : List Nat, EnvOk c H0 B H (L2.wipe σ vs) (forgets ρ vs)
  | [] => e
  | v :: vs => (e.wipe vs).any v none
def tDTs (c : Ct) (ρ : List Sl) (b : Bool) : TT := tDT c ρ b
def EvTs (C : Addr) (X : Cx) (ifs : List Expr) (ρ : List Sl) (b : Bool) : Prop := PTs X ifs (tDT (ct X C) ρ b)
theorem ets_nil {C : Addr} {X : Cx} {ρ : List Sl} : EvTs C X [] ρ true := ⟨fun pins s σ H Q I ⟨H0, B, ex, en, k⟩ => pts_nil.run pins s σ H Q I (k B H (Step.refl ex))⟩
theorem ets_one {C : Addr} {X : Cx} {ρ : List Sl} {e : Expr} {b : Bool} (h : EvT C X e ρ b) : EvTs C X [e] ρ b := pts_one h
section
variable {C : Addr} {X : Cx} {ρ : List Sl} {own : List (Str × Nat)} {elt tg iter : Expr} {ifs : List Expr} {scope : Scope} {pos : Pos} {ds : List D}
/-- what a turn's item, its test and its element ask -/
def gAll (c : Ct) (ρ : List Sl) (ρ' : D → List Sl) (ds : List D) (js : List Nat) : TG := fun v σ H Q => ∃ d, d ∈ ds ∧ tDG c ρ (ρ' d) d js v σ H Q
def ttAll (c : Ct) (ρ' : D → List Sl) (p : D → Bool) (ds : List D) : TT := fun σ H Q => ∃ d, d ∈ ds ∧ tDT c (ρ' d) (p d) σ H Q
def teAll (c : Ct) (ρ' : D → List Sl) (p : D → Bool) (f : D → D) (ds : List D) : TE := fun σ H Q => ∃ d, (d ∈ ds ∧ p d = true) ∧ tD c (ρ' d) (.d (f d)) σ H Q
theorem pg_all {X' : Cx} {ρ : List Sl} {ρ' : D → List Sl} {js : List Nat} (h : ∀ d ∈ ds, EvG C X' tg ρ d (ρ' d) js) : PG X' tg (gAll (ct X' C) ρ ρ' ds js) := ⟨fun pins s σ H v u Q I r ⟨d, hd, q⟩ => (h d hd).run pins s σ H v u Q I r q⟩
theorem pts_all {X' : Cx} {ρ' : D → List Sl} {p : D → Bool} (h : ∀ d ∈ ds, EvTs C X' ifs (ρ' d) (p d)) : PTs X' ifs (ttAll (ct X' C) ρ' p ds) := ⟨fun pins s σ H Q I ⟨d, hd, q⟩ => (h d hd).run pins s σ H Q I q⟩
theorem pe_all {X' : Cx} {ρ' : D → List Sl} {p : D → Bool} {f : D → D} (h : ∀ d ∈ ds, p d = true → Ev C X' elt (ρ' d) (.d (f d))) : PE X' elt (teAll (ct X' C) ρ' p f ds) := ⟨fun pins s σ H Q I ⟨d, ⟨hd, hp⟩, q⟩ => (h d hd hp).run pins s σ H Q I q⟩
theorem lc_run {c : Ct} {ρ' : D → List Sl} {p : D → Bool} {f : D → D} {js vs : List Nat} (hjs : ∀ j ∈ js, j ∈ vs) {σ : L2.St} {H : Hp} {Q : VK} (h : tDF c ρ ((ds.filter p).map f) σ H Q) :
    tLc (tDI c ρ ds) (gAll c (forgets ρ vs) ρ' ds js) (ttAll c ρ' p ds) (teAll c ρ' p f ds) vs σ H Q := by
  obtain ⟨H0, B, ex, en, k⟩ := h
  refine ⟨H0, B, ex, en, fun J B1 H1 s1 wd D hD => ?_⟩
  have ex1 : Ex B1 H1 := s1.t
  have hBD : B1 D = none := ex1.free hD
  refine lc_it (n := ds.length) (G := fun H2 => Ex B1 H2) (Y := fun i H2 x H' => ∃ d, ds[i]? = some d ∧ ((H' = H2 ∧ Dt B1 x d) ∨ ∃ T o xs es, x = .ref T ∧ H2 T = none ∧ o.dict = none ∧ H' = upd H2 T (.frz o (.tup xs)) ∧ d = .tuple es ∧ DtAll B1 xs es))
    ⟨fun i H2 hi g => wd.go i H2 hi g, fun H2 g => wd.stop H2 g, fun i H2 x H' hi g y => wd.yld i H2 x H' hi g y⟩
    (fun i H2 => ∃ B2 vs', Step B1 H1 B2 H2 ∧ B2 D = none ∧ H2 D = some (.lst vs') ∧ vs'.length ≤ i ∧ DtAll B2 vs' (((ds.take i).filter p).map f)) ?_ ?_ ?_ ?_
  · exact ⟨B1, [], Step.aside ex1 hD, hBD, upd_same, Nat.le_refl _, .nil⟩
  · rintro i H2 hi ⟨B2, vs', st, _⟩
    exact st.b.trans st.t
  · rintro i x H2 H' hi ⟨B2, acc, st, hB2, hD2, hal, hacc⟩ ⟨d, hdi, hy⟩
    have hmem : d ∈ ds := List.mem_of_getElem? hdi
    have htake : ds.take (i + 1) = ds.take i ++ [d] := by rw [List.take_add_one, hdi]; rfl
    have hlt : acc.length < sizeLine := Nat.lt_of_le_of_lt hal (Nat.lt_of_lt_of_le hi wd.size)
    obtain ⟨B3, st3, hx⟩ : ∃ B3, Step B2 H2 B3 H' ∧ Dt B3 x d := by
      rcases hy with ⟨rfl, hx⟩ | ⟨T, o, xs, es, rfl, hT, ho, rfl, rfl, hes⟩
      · exact ⟨B2, Step.refl st.t, dt_mono st.b _ _ hx⟩
      · have s3 := Step.new (o := .frz o (.tup xs)) st.t hT
        exact ⟨_, s3, .tup ⟨o, upd_same, ho⟩ (dtall_mono (st.b.trans s3.b) _ _ hes)⟩
    have st13 : Step B1 H1 B3 H' := st.trans st3
    obtain ⟨hB3, hD3⟩ := st3.f D _ hB2 hD2
    have en3 : EnvOk c H0 B3 H' (wipe σ vs) (forgets ρ vs) := ((en.step s1).step st13).wipe vs
    refine ⟨d, hmem, H0, B3, st3.t, en3, hx, fun σ2 en4 hl hn => ⟨wipe_same hl hn hjs, d, hmem, H0, B3, st3.t, en4, fun B4 H4 st4 => ?_⟩⟩
    have en5 := en4.step st4
    obtain ⟨hB4, hD4⟩ := st4.f D _ hB3 hD3
    cases hp : p d with
    | false =>
      refine iteF ?_
      refine ⟨B4, acc, st13.trans st4, hB4, hD4, Nat.le_succ_of_le hal, ?_⟩
      rw [htake, List.filter_append, List.filter_cons, hp]
      simp only [Bool.false_eq_true, if_false, List.filter_nil, List.append_nil]
      exact dtall_mono (st3.b.trans st4.b) _ _ hacc
    | true =>
      refine iteT ?_
      refine ⟨d, ⟨hmem, hp⟩, H0, B4, st4.t, en5, fun v B5 H5 st5 r5 => ?_⟩
      obtain ⟨hB5, hD5⟩ := st5.f D _ hB4 hD4
      refine ⟨acc, hD5, hlt, B5, acc ++ [v], ?_, hB5, upd_same, by rw [List.length_append]; exact Nat.succ_le_succ hal, ?_⟩
      · exact (st13.trans (st4.trans st5)).mut hB5 hD
      · rw [htake, List.filter_append, List.filter_cons, hp]
        simp only [if_true, List.filter_nil, List.map_append, List.map_cons, List.map_nil]
        exact dtall_append (dtall_mono (st3.b.trans (st4.b.trans st5.b)) _ _ hacc) (dtall_one r5)
  · rintro H2 ⟨B2, acc, st, hB2, hD2, hal, hacc⟩
    rw [List.take_length] at hacc
    exact k D acc B2 H2 (s1.trans st) ((Step.ex ex s1).free hD) hB2 hD2 hacc
/-- [elt for tg in iter if ..] -/
theorem ef_lc {ρ' : D → List Sl} {p : D → Bool} {f : D → D} {js : List Nat} (hc : X.calm = true) (hN : X.N.Nodup) (ok : BlkOk X.N X.env.scope scope own) (hjs : ∀ j ∈ js, j ∈ own.map (·.2)) (hi : EvI C X tg iter ρ ds)
    (hg : ∀ (s : Shared) (H : Hp) (Cc : Addr) (cl : List (Str × Addr)) (fp : List Addr), ∀ d ∈ ds, EvG C (X.blk s H scope (compEnvC scope cl Cc X.env) fp) tg (forgets ρ (own.map (·.2))) d (ρ' d) js)
    (ht : ∀ (s : Shared) (H : Hp) (Cc : Addr) (cl : List (Str × Addr)) (fp : List Addr), ∀ d ∈ ds, EvTs C (X.blk s H scope (compEnvC scope cl Cc X.env) fp) ifs (ρ' d) (p d))
    (he : ∀ (s : Shared) (H : Hp) (Cc : Addr) (cl : List (Str × Addr)) (fp : List Addr), ∀ d ∈ ds, p d = true → Ev C (X.blk s H scope (compEnvC scope cl Cc X.env) fp) elt (ρ' d) (.d (f d)))
    (hs : ∀ x, foldedSetIterable iter X.env x = pure x := by intro _; rfl) : EvF C X (.ListComp elt [⟨tg, iter, ifs, 0⟩] scope pos) ρ ((ds.filter p).map f) :=
  pe_weak (pe_lc hc hN hi ok (fun s H Cc cl fp => pg_all (hg s H Cc cl fp)) (fun s H Cc cl fp => pts_all (ht s H Cc cl fp)) (fun s H Cc cl fp => pe_all (he s H Cc cl fp)) hs) fun σ H Q h => lc_run hjs h
/-- without a test -/
theorem ef_lcm {ρ' : D → List Sl} {f : D → D} {js : List Nat} (hc : X.calm = true) (hN : X.N.Nodup) (ok : BlkOk X.N X.env.scope scope own) (hjs : ∀ j ∈ js, j ∈ own.map (·.2)) (hi : EvI C X tg iter ρ ds)
    (hg : ∀ (s : Shared) (H : Hp) (Cc : Addr) (cl : List (Str × Addr)) (fp : List Addr), ∀ d ∈ ds, EvG C (X.blk s H scope (compEnvC scope cl Cc X.env) fp) tg (forgets ρ (own.map (·.2))) d (ρ' d) js)
    (he : ∀ (s : Shared) (H : Hp) (Cc : Addr) (cl : List (Str × Addr)) (fp : List Addr), ∀ d ∈ ds, Ev C (X.blk s H scope (compEnvC scope cl Cc X.env) fp) elt (ρ' d) (.d (f d)))
    (hs : ∀ x, foldedSetIterable iter X.env x = pure x := by intro _; rfl) : EvF C X (.ListComp elt [⟨tg, iter, [], 0⟩] scope pos) ρ (ds.map f) := by
  have h := ef_lc (p := fun _ => true) hc hN ok hjs hi hg (fun _ _ _ _ _ _ _ => ets_nil) (fun s H Cc cl fp d hd _ => he s H Cc cl fp d hd) hs (pos := pos)
  rwa [List.filter_eq_self.mpr fun _ _ => rfl] at h
end
end DL
set_option maxRecDepth 100000
set_option maxHeartbeats 4000000
/-! the data layer, 6: statements, defs -/
namespace DL
open PySem PySem.Spec PyProof.Rows L2 SlX

/-! ### values that go into a slot -/
/-- v is what the slot s says; where s changes, v is an object that H did not have -/
def SlNew (c : Ct) (H B' H' : Hp) (v : V) : Sl → Prop
  | .no => True
  | .i x => Rp c B' v x
  | .ml xs => ∃ p vs, v = .ref p ∧ H p = none ∧ B' p = none ∧ H' p = some (.lst vs) ∧ DtAll B' vs xs
  | .mk kvs => ∃ p ks, v = .ref p ∧ H p = none ∧ B' p = none ∧ H' p = some (.dK ks) ∧ Paired (fun (p : Key × V) (q : Str × D) => p.1 = Sum.inr q.1 ∧ Dt B' p.2 q.2) ks kvs
  | .mn kvs => ∃ p xs, v = .ref p ∧ H p = none ∧ B' p = none ∧ H' p = some (DkO c.P c.w p xs) ∧ Paired (fun (p : NestedKey × Addr × V) (q : NestedKey × D) => p.1 = q.1 ∧ Dt B' (.ref p.2.1) p.1.data ∧ Dt B' p.2.2 q.2) xs kvs
def tDS (c : Ct) (ρ : List Sl) (s : Sl) : TE := fun σ H Q => ∃ H0 B, Ex B H ∧ EnvOk c H0 B H σ ρ ∧ ∀ v B' H', Step B H B' H' → SlNew c H B' H' v s → Q v H'
def EvS (C : Addr) (X : Cx) (e : Expr) (ρ : List Sl) (s : Sl) : Prop := PE X e (tDS (ct X C) ρ s)
theorem Ev.s {C : Addr} {X : Cx} {e : Expr} {ρ : List Sl} {x : DV} (h : Ev C X e ρ x) : EvS C X e ρ (.i x) := pe_weak h fun σ H Q ⟨H0, B, ex, en, k⟩ => ⟨H0, B, ex, en, fun v B' H' st r => k v B' H' st r⟩
theorem tDF_s {c : Ct} {ρ : List Sl} {xs : List D} {σ : L2.St} {H : Hp} {Q : VK} (h : tDS c ρ (.ml xs) σ H Q) : tDF c ρ xs σ H Q := by
  obtain ⟨H0, B, ex, en, k⟩ := h
  exact ⟨H0, B, ex, en, fun p vs B' H' st h1 h2 h3 h4 => k _ B' H' st ⟨p, vs, rfl, h1, h2, h3, h4⟩⟩
theorem EvF.s {C : Addr} {X : Cx} {e : Expr} {ρ : List Sl} {xs : List D} (h : EvF C X e ρ xs) : EvS C X e ρ (.ml xs) := pe_weak h fun σ H Q q => tDF_s q
theorem SlNew.addr {c : Ct} {H B' H' : Hp} {v : V} {s : Sl} (h : SlNew c H B' H' v s) (m : s.mut = true) : ∃ p, v = .ref p ∧ H p = none := by
  cases s with
  | no => exact Bool.noConfusion m
  | i x => exact Bool.noConfusion m
  | ml xs => obtain ⟨p, _, e, q, _⟩ := h; exact ⟨p, e, q⟩
  | mk xs => obtain ⟨p, _, e, q, _⟩ := h; exact ⟨p, e, q⟩
  | mn xs => obtain ⟨p, _, e, q, _⟩ := h; exact ⟨p, e, q⟩
theorem SlNew.ok {c : Ct} {H0 H B' H' : Hp} {v : V} {s : Sl} (h : SlNew c H B' H' v s) (e0 : ∀ p, H p = none → H0 p = none) : SlOk c H0 B' H' (some v) s := by
  cases s with
  | no => exact True.intro
  | i x => exact ⟨v, rfl, h⟩
  | ml xs => obtain ⟨p, vs, rfl, q, h1, h2, h3⟩ := h; exact ⟨p, vs, rfl, h1, e0 p q, h2, h3⟩
  | mk xs => obtain ⟨p, vs, rfl, q, h1, h2, h3⟩ := h; exact ⟨p, vs, rfl, h1, e0 p q, h2, h3⟩
  | mn xs => obtain ⟨p, vs, rfl, q, h1, h2, h3⟩ := h; exact ⟨p, vs, rfl, h1, e0 p q, h2, h3⟩
theorem EnvOk.setS {c : Ct} {H0 B H B' H' : Hp} {σ : L2.St} {ρ : List Sl} {v : V} {s : Sl} (e : EnvOk c H0 B H σ ρ) (st : Step B H B' H') (e0 : ∀ p, H p = none → H0 p = none) (i : Nat) (h : SlNew c H B' H' v s) : EnvOk c H0 B' H' (σ.set i (some v)) (ρ.set i s) := by
  have e1 := e.step st
  have key : ∀ (j : Nat) (t : Sl), (ρ.set i s)[j]? = some t → (i = j ∧ t = s ∧ i < ρ.length) ∨ (i ≠ j ∧ ρ[j]? = some t) := fun j t h => by
    rw [List.getElem?_set] at h
    by_cases hij : i = j
    · rw [if_pos hij] at h
      by_cases hl : i < ρ.length
      · rw [if_pos hl] at h
        exact .inl ⟨hij, (Option.some.inj h).symm, hl⟩
      · rw [if_neg hl] at h
        cases h
    · rw [if_neg hij] at h
      exact .inr ⟨hij, h⟩
  have old : ∀ (p : Addr), H p = none → ∀ (j : Nat) (t : Sl), ρ[j]? = some t → t.mut = true → (σ[j]?).join = some (.ref p) → False := fun p hp j t h m q => by
    obtain ⟨b, hb, _, _, u', hu⟩ := (e.at_ j t h).addr m
    rw [hb] at q
    cases q
    rw [hp] at hu
    cases hu
  refine ⟨by rw [List.length_set, List.length_set]; exact e.len, fun j t hj => ?_, fun j l t t' b hjl ht ht' mt mt' h1 h2 => ?_⟩
  · rcases key j t hj with ⟨rfl, rfl, hl⟩ | ⟨n, hj⟩
    · rw [get_join_set, e.len, if_pos ⟨rfl, hl⟩]
      exact h.ok e0
    · rw [get_join_set, if_neg fun q => n q.1]
      exact e1.at_ j t hj
  · rcases key j t ht with ⟨rfl, rfl, hl⟩ | ⟨n1, ht⟩
    · rcases key l t' ht' with ⟨rfl, _, _⟩ | ⟨n2, ht'⟩
      · exact hjl rfl
      · rw [get_join_set, e.len, if_pos ⟨rfl, hl⟩] at h1
        rw [get_join_set, if_neg fun q => n2 q.1] at h2
        cases h1
        obtain ⟨p, ep, hp⟩ := h.addr mt
        cases ep
        exact old _ hp l t' ht' mt' h2
    · rw [get_join_set, if_neg fun q => n1 q.1] at h1
      rcases key l t' ht' with ⟨rfl, rfl, hl⟩ | ⟨n2, ht'⟩
      · rw [get_join_set, e.len, if_pos ⟨rfl, hl⟩] at h2
        cases h2
        obtain ⟨p, ep, hp⟩ := h.addr mt'
        cases ep
        rw [List.getElem?_set_ne n1] at ht
        exact old _ hp j t ht mt h1
      · rw [get_join_set, if_neg fun q => n2 q.1] at h2
        exact e.dis j l t t' b hjl ht ht' mt mt' h1 h2

/-! ### statements -/
inductive Out where
  | nx (ρ : List Sl)
  | rt (x : DV)
  | bk (ρ : List Sl)
  | ct (ρ : List Sl)
def tS (c : Ct) (ρ : List Sl) (Φ : Out → Prop) : TS := fun D σ H => ∃ B0 H0 B, Ex B0 H0 ∧ Step B0 H0 B H ∧ EnvOk c H0 B H σ ρ ∧
  (∀ σ' B' H' ρ', Step B0 H0 B' H' → Ex B B' → EnvOk c H0 B' H' σ' ρ' → Φ (.nx ρ') → D.nx σ' H') ∧ (∀ v B' H' x, Step B0 H0 B' H' → Rp c B' v x → Φ (.rt x) → D.rt v H') ∧
  (∀ σ' B' H' ρ', Step B0 H0 B' H' → Ex B B' → EnvOk c H0 B' H' σ' ρ' → Φ (.bk ρ') → D.bk σ' H') ∧ (∀ σ' B' H' ρ', Step B0 H0 B' H' → Ex B B' → EnvOk c H0 B' H' σ' ρ' → Φ (.ct ρ') → D.ct σ' H')
def Sts (C : Addr) (X : Cx) (sts : List Stmt) (ρ : List Sl) (Φ : Out → Prop) : Prop := PSs X sts (tS (ct X C) ρ Φ)
def Then (C : Addr) (X : Cx) (ss : List Stmt) (Φ : Out → Prop) : Out → Prop
  | .nx ρ => Sts C X ss ρ Φ
  | .rt x => Φ (.rt x)
  | .bk ρ => Φ (.bk ρ)
  | .ct ρ => Φ (.ct ρ)
section
variable {C : Addr} {X : Cx} {st : Stmt} {ss : List Stmt} {ρ : List Sl} {Φ Ψ : Out → Prop} {pos : Pos} {e c : Expr} {x : DV} {s : Sl}
theorem pss_weak {sts : List Stmt} {t t' : TS} (h : PSs X sts t) (k : ∀ D σ H, t' D σ H → t D σ H) : PSs X sts t' := ⟨fun pins s σ H D I q => h.run pins s σ H D I (k D σ H q)⟩
theorem ps_weak {st : Stmt} {t t' : TS} (h : PS X st t) (k : ∀ D σ H, t' D σ H → t D σ H) : PS X st t' := ⟨fun pins s σ H D I q => h.run pins s σ H D I (k D σ H q)⟩
theorem Sts.mono (h : Sts C X ss ρ Ψ) (k : ∀ o, Ψ o → Φ o) : Sts C X ss ρ Φ := pss_weak h fun D σ H ⟨B0, H0, B, ex, st, en, k1, k2, k3, k4⟩ =>
  ⟨B0, H0, B, ex, st, en, fun σ' B' H' ρ' s1 eb e1 f => k1 σ' B' H' ρ' s1 eb e1 (k _ f), fun v B' H' x s1 r f => k2 v B' H' x s1 r (k _ f), fun σ' B' H' ρ' s1 eb e1 f => k3 σ' B' H' ρ' s1 eb e1 (k _ f), fun σ' B' H' ρ' s1 eb e1 f => k4 σ' B' H' ρ' s1 eb e1 (k _ f)⟩
theorem sts_nil (h : Φ (.nx ρ)) : Sts C X [] ρ Φ := pss_weak pss_nil fun D σ H ⟨B0, H0, B, ex, st, en, k1, _⟩ => k1 σ B H ρ st (Ex.refl B) en h
/-- what stands behind, from any of the slots that are left -/
def tThen (C : Addr) (X : Cx) (ss : List Stmt) (Φ : Out → Prop) : TS := fun D σ H => ∃ ρ, Sts C X ss ρ Φ ∧ tS (ct X C) ρ Φ D σ H
theorem pss_then : PSs X ss (tThen C X ss Φ) := ⟨fun pins s σ H D I ⟨ρ, h, q⟩ => h.run pins s σ H D I q⟩
theorem sts_cons (h : PS X st (tS (ct X C) ρ (Then C X ss Φ))) : Sts C X (st :: ss) ρ Φ := pss_weak (pss_cons h (pss_then (C := C) (Φ := Φ))) fun D σ H ⟨B0, H0, B, ex, s0, en, k1, k2, k3, k4⟩ =>
  ⟨B0, H0, B, ex, s0, en, fun σ' B' H' ρ' s1 eb e1 f => ⟨ρ', f, B0, H0, B', ex, s1, e1, fun σ2 B2 H2 ρ2 s2 eb2 => k1 σ2 B2 H2 ρ2 s2 (eb.trans eb2), k2, fun σ2 B2 H2 ρ2 s2 eb2 => k3 σ2 B2 H2 ρ2 s2 (eb.trans eb2), fun σ2 B2 H2 ρ2 s2 eb2 => k4 σ2 B2 H2 ρ2 s2 (eb.trans eb2)⟩, fun v B' H' x s1 r f => k2 v B' H' x s1 r f, fun σ' B' H' ρ' s1 eb e1 f => k3 σ' B' H' ρ' s1 eb e1 f, fun σ' B' H' ρ' s1 eb e1 f => k4 σ' B' H' ρ' s1 eb e1 f⟩
/-- more is data now -/
theorem tS_grow {c : Ct} {D : Ends} {σ : L2.St} {H B0 H0 B B' H' : Hp} {ρ ρ' : List Sl} {σ' : L2.St} (ex : Ex B0 H0) (st : Step B0 H0 B' H') (eb : Ex B B') (en : EnvOk c H0 B' H' σ' ρ')
    (q : (∀ σ' B' H' ρ', Step B0 H0 B' H' → Ex B B' → EnvOk c H0 B' H' σ' ρ' → Φ (.nx ρ') → D.nx σ' H') ∧ (∀ v B' H' x, Step B0 H0 B' H' → Rp c B' v x → Φ (.rt x) → D.rt v H') ∧
      (∀ σ' B' H' ρ', Step B0 H0 B' H' → Ex B B' → EnvOk c H0 B' H' σ' ρ' → Φ (.bk ρ') → D.bk σ' H') ∧ (∀ σ' B' H' ρ', Step B0 H0 B' H' → Ex B B' → EnvOk c H0 B' H' σ' ρ' → Φ (.ct ρ') → D.ct σ' H')) : tS c ρ' Φ D σ' H' :=
  ⟨B0, H0, B', ex, st, en, fun σ2 B2 H2 ρ2 s2 eb2 => q.1 σ2 B2 H2 ρ2 s2 (eb.trans eb2), q.2.1, fun σ2 B2 H2 ρ2 s2 eb2 => q.2.2.1 σ2 B2 H2 ρ2 s2 (eb.trans eb2), fun σ2 B2 H2 ρ2 s2 eb2 => q.2.2.2 σ2 B2 H2 ρ2 s2 (eb.trans eb2)⟩
theorem back {B0 H0 B H : Hp} (ex : Ex B0 H0) (st : Step B0 H0 B H) : ∀ p, H p = none → H0 p = none := fun p h => (Step.ex ex st).free h
/-- name = e -/
theorem sts_set (i : Nat) {n : Str} {p' : Pos} (he : EvS C X e ρ s) (k : Sts C X ss (ρ.set i s) Φ) (hN : X.N.Nodup) (hi : X.N[i]? = some n := by rfl) (hx : Loc X.env.scope n := by first | exact Or.inl rfl | exact Or.inr rfl) (hs : swapsWith e (some (.Name n p')) pos.line X.env = pure false := by rfl)
    (hf : X.fn n = true ∨ X.env.scope.names.lookup n = some .local := by first | exact .inl rfl | exact .inr rfl) : Sts C X (.Assign [.Name n p'] e pos :: ss) ρ Φ :=
  sts_cons (ps_weak (ps_set hN hi hx he hs hf) fun D σ H ⟨B0, H0, B, ex, s0, en, k1, _⟩ => ⟨H0, B, s0.t, en, fun v B' H' s1 r => k1 _ B' H' _ (s0.trans s1) s1.b (en.setS s1 (back ex s0) i r) k⟩)
/-- name = e, e data -/
theorem sts_let (i : Nat) {n : Str} {p' : Pos} (he : Ev C X e ρ x) (k : Sts C X ss (ρ.set i (.i x)) Φ) (hN : X.N.Nodup) (hi : X.N[i]? = some n := by rfl) (hx : Loc X.env.scope n := by first | exact Or.inl rfl | exact Or.inr rfl) (hs : swapsWith e (some (.Name n p')) pos.line X.env = pure false := by rfl)
    (hf : X.fn n = true ∨ X.env.scope.names.lookup n = some .local := by first | exact .inl rfl | exact .inr rfl) : Sts C X (.Assign [.Name n p'] e pos :: ss) ρ Φ := sts_set i he.s k hN hi hx hs hf
/-- a, b = e, f, both plain locals -/
theorem sts_par (i j : Nat) {f : Expr} {n m : Str} {px py pt pt2 : Pos} {kt k2 : Nat} {t : Sl} (he : EvS C X e ρ s) (hf : EvS C X f ρ t) (k : Sts C X ss ((ρ.set i s).set j t) Φ) (hN : X.N.Nodup) (hc : X.calm = true := by rfl) (hi : X.N[i]? = some n := by rfl) (hj : X.N[j]? = some m := by rfl) (hij : i ≠ j := by decide)
    (hx : X.env.scope.names.lookup n = some .local := by rfl) (hy : X.env.scope.names.lookup m = some .local := by rfl)
    (hw : swappedStores [.Tuple [.Name n px, .Name m py] kt pt] (.Tuple [e, f] k2 pt2) X.env = pure (some [n, m]) := by rfl)
    (hs : swapsWithSole [.Tuple [.Name n px, .Name m py] kt pt] (.Tuple [e, f] k2 pt2) pos.line X.env = pure false := by rfl)
    (h1 : starEach [e, f] X.env = (false, eval e X.env) :: starEach [f] X.env := by rfl) (h2 : starEach [f] X.env = (false, eval f X.env) :: starEach [] X.env := by rfl) :
    Sts C X (.Assign [.Tuple [.Name n px, .Name m py] kt pt] (.Tuple [e, f] k2 pt2) pos :: ss) ρ Φ :=
  sts_cons (ps_weak (ps_par hc hN hi hj hij hx hy (pa_cons he (pa_cons hf pa_nil h2) h1) hw hs) fun D σ H ⟨B0, H0, B, ex, s0, en, k1, _⟩ => ⟨H0, B, s0.t, en, fun v B' H' s1 r => ⟨H0, B', s1.t, en.step s1, fun w B2 H2 s2 r2 =>
    ⟨v, w, rfl, k1 _ B2 H2 _ ((s0.trans s1).trans s2) (s1.b.trans s2.b) ((en.setS s1 (back ex s0) i r).setS s2 (back ex (s0.trans s1)) j r2) k⟩⟩⟩)
theorem sts_par3 (i j l : Nat) {f g : Expr} {n m o : Str} {px py pz pt pt2 : Pos} {kt k2 : Nat} {t u : Sl} (he : EvS C X e ρ s) (hf : EvS C X f ρ t) (hg : EvS C X g ρ u) (k : Sts C X ss (((ρ.set i s).set j t).set l u) Φ) (hN : X.N.Nodup) (hc : X.calm = true := by rfl) (hi : X.N[i]? = some n := by rfl) (hj : X.N[j]? = some m := by rfl) (hl : X.N[l]? = some o := by rfl)
    (hij : i ≠ j := by decide) (hil : i ≠ l := by decide) (hjl : j ≠ l := by decide)
    (hx : X.env.scope.names.lookup n = some .local := by rfl) (hy : X.env.scope.names.lookup m = some .local := by rfl) (hz : X.env.scope.names.lookup o = some .local := by rfl)
    (hw : swappedStores [.Tuple [.Name n px, .Name m py, .Name o pz] kt pt] (.Tuple [e, f, g] k2 pt2) X.env = pure (some [n, m, o]) := by rfl)
    (hs : swapsWithSole [.Tuple [.Name n px, .Name m py, .Name o pz] kt pt] (.Tuple [e, f, g] k2 pt2) pos.line X.env = pure false := by rfl)
    (h1 : starEach [e, f, g] X.env = (false, eval e X.env) :: starEach [f, g] X.env := by rfl) (h2 : starEach [f, g] X.env = (false, eval f X.env) :: starEach [g] X.env := by rfl) (h3 : starEach [g] X.env = (false, eval g X.env) :: starEach [] X.env := by rfl) :
    Sts C X (.Assign [.Tuple [.Name n px, .Name m py, .Name o pz] kt pt] (.Tuple [e, f, g] k2 pt2) pos :: ss) ρ Φ :=
  sts_cons (ps_weak (ps_par3 hc hN hi hj hl hij hil hjl hx hy hz (pa_cons he (pa_cons hf (pa_cons hg pa_nil h3) h2) h1) hw hs) fun D σ H ⟨B0, H0, B, ex, s0, en, k1, _⟩ => ⟨H0, B, s0.t, en, fun v B' H' s1 r => ⟨H0, B', s1.t, en.step s1, fun w B2 H2 s2 r2 => ⟨H0, B2, s2.t, (en.step s1).step s2, fun z B3 H3 s3 r3 =>
    ⟨v, w, z, rfl, k1 _ B3 H3 _ (((s0.trans s1).trans s2).trans s3) ((s1.b.trans s2.b).trans s3.b) (((en.setS s1 (back ex s0) i r).setS s2 (back ex (s0.trans s1)) j r2).setS s3 (back ex ((s0.trans s1).trans s2)) l r3) k⟩⟩⟩⟩)
/-- target = e, the target a tuple of names (or any), e data -/
theorem sts_asg {tg : Expr} {d : D} {ρ1 : List Sl} {js : List Nat} (he : Ev C X e ρ (.d d)) (hg : EvG C X tg ρ d ρ1 js) (k : Sts C X ss ρ1 Φ) (hs : swapsWithSole [tg] e pos.line X.env = pure false := by rfl) (hw : swappedStores [tg] e X.env = pure none := by rfl)
    (h1 : (assignEach [tg] X.env).map (·.2) = [assign tg X.env] := by rfl) : Sts C X (.Assign [tg] e pos :: ss) ρ Φ :=
  sts_cons (ps_weak (ps_asg he hg hs hw h1) fun D σ H ⟨B0, H0, B, ex, s0, en, k1, _⟩ => ⟨H0, B, s0.t, en, fun v B' H' s1 r => ⟨H0, B', s1.t, en.step s1, r, fun σ' e' _ _ => k1 _ B' H' _ (s0.trans s1) s1.b e' k⟩⟩)
/-- e alone -/
theorem sts_expr (he : Ev C X e ρ x) (k : Sts C X ss ρ Φ) (hs : swapsWith e none pos.line X.env = pure false := by rfl) : Sts C X (.Expr e pos :: ss) ρ Φ :=
  sts_cons (ps_weak (ps_expr he hs) fun D σ H ⟨B0, H0, B, ex, s0, en, k1, _⟩ => ⟨H0, B, s0.t, en, fun v B' H' s1 r => k1 _ B' H' _ (s0.trans s1) s1.b (en.step s1) k⟩)
theorem sts_ret (he : Ev C X e ρ x) (k : Φ (.rt x)) : Sts C X (.Return (some e) pos :: ss) ρ Φ :=
  sts_cons (ps_weak (ps_ret he) fun D σ H ⟨B0, H0, B, ex, s0, en, _, k2, _⟩ => ⟨H0, B, s0.t, en, fun v B' H' s1 r => k2 _ B' H' _ (s0.trans s1) r k⟩)
theorem sts_retF {xs : List D} (he : EvF C X e ρ xs) (k : Φ (.rt (.d (.list xs)))) : Sts C X (.Return (some e) pos :: ss) ρ Φ := sts_ret he.d k
theorem sts_if {a b : List Stmt} {k : Bool} (hc : EvT C X c ρ k) (ha : k = true → Sts C X a ρ (Then C X ss Φ)) (hb : k = false → Sts C X b ρ (Then C X ss Φ)) : Sts C X (.If c a b pos :: ss) ρ Φ := by
  refine sts_cons ?_
  cases k with
  | true => exact ps_weak (ps_if hc (ha rfl) (pss_never (sts := b))) fun D σ H ⟨B0, H0, B, ex, s0, en, q⟩ => ⟨H0, B, s0.t, en, fun B' H' s1 => tS_grow (σ := σ) (H := H) (ρ := ρ) ex (s0.trans s1) s1.b (en.step s1) q⟩
  | false => exact ps_weak (ps_if hc (pss_never (sts := a)) (hb rfl)) fun D σ H ⟨B0, H0, B, ex, s0, en, q⟩ => ⟨H0, B, s0.t, en, fun B' H' s1 => tS_grow (σ := σ) (H := H) (ρ := ρ) ex (s0.trans s1) s1.b (en.step s1) q⟩
/-- if c: .. (no else), c false -/
theorem sts_ifF {a : List Stmt} (hc : EvT C X c ρ false) (k : Sts C X ss ρ Φ) : Sts C X (.If c a [] pos :: ss) ρ Φ := sts_if hc (fun q => nomatch q) fun _ => sts_nil k
/-- the list becomes data -/
theorem EnvOk.fix {c : Ct} {B0 H0 B H : Hp} {σ : L2.St} {ρ : List Sl} {i : Nat} {xs : List D} (e : EnvOk c H0 B H σ ρ) (st : Step B0 H0 B H) (h : ρ[i]? = some (.ml xs)) : ∃ B', Step B0 H0 B' H ∧ Ex B B' ∧ EnvOk c H0 B' H σ (ρ.set i (.i (.d (.list xs)))) := by
  obtain ⟨a, vs, ea, h1, h2, h3, h4⟩ := e.at_ i _ h
  refine ⟨upd B a (.lst vs), st.fix h1 h2 h3, Ex.new h1, by rw [List.length_set]; exact e.len, fun j s hj => ?_, fun j l s t b hjl hs ht ms mt q1 q2 => ?_⟩
  · rw [List.getElem?_set] at hj
    by_cases hij : i = j
    · subst hij
      rw [if_pos rfl] at hj
      by_cases hl : i < ρ.length
      · rw [if_pos hl] at hj
        cases hj
        exact ⟨.ref a, ea, .lst upd_same (dtall_mono (Ex.new h1) _ _ h4)⟩
      · rw [if_neg hl] at hj
        cases hj
    · rw [if_neg hij] at hj
      have q := e.at_ j s hj
      have up : ∀ b, b ≠ a → (upd B a (.lst vs)) b = B b := fun b hb => upd_ne hb
      cases s with
      | no => exact True.intro
      | i x =>
        obtain ⟨v, e1, r⟩ := q
        exact ⟨v, e1, rp_mono (Ex.new h1) r⟩
      | ml ys =>
        obtain ⟨b, ws, e1, g1, g2, g3, g4⟩ := q
        have hb : b ≠ a := fun z => e.dis i j _ _ a hij h hj rfl rfl ea (by rw [e1, z])
        exact ⟨b, ws, e1, by rw [up b hb]; exact g1, g2, g3, dtall_mono (Ex.new h1) _ _ g4⟩
      | mk ys =>
        obtain ⟨b, ws, e1, g1, g2, g3, g4⟩ := q
        have hb : b ≠ a := fun z => e.dis i j _ _ a hij h hj rfl rfl ea (by rw [e1, z])
        exact ⟨b, ws, e1, by rw [up b hb]; exact g1, g2, g3, Paired.mapP g4 fun p q r => ⟨r.1, dt_mono (Ex.new h1) _ _ r.2⟩⟩
      | mn ys =>
        obtain ⟨b, ws, e1, g1, g2, g3, g4⟩ := q
        have hb : b ≠ a := fun z => e.dis i j _ _ a hij h hj rfl rfl ea (by rw [e1, z])
        exact ⟨b, ws, e1, by rw [up b hb]; exact g1, g2, g3, Paired.mapP g4 fun p q r => ⟨r.1, dt_mono (Ex.new h1) _ _ r.2.1, dt_mono (Ex.new h1) _ _ r.2.2⟩⟩
  · have key : ∀ (j : Nat) (t : Sl), (ρ.set i (.i (.d (.list xs))))[j]? = some t → t.mut = true → ρ[j]? = some t := fun j t h m => by
      rw [List.getElem?_set] at h
      by_cases hij : i = j
      · rw [if_pos hij] at h
        by_cases hl : i < ρ.length
        · rw [if_pos hl] at h
          cases h
          cases m
        · rw [if_neg hl] at h
          cases h
      · rw [if_neg hij] at h
        exact h
    exact e.dis j l s t b hjl (key j s hs ms) (key l t ht mt) ms mt q1 q2
theorem sts_fix (i : Nat) {xs : List D} (h : ρ[i]? = some (.ml xs)) (k : Sts C X ss (ρ.set i (.i (.d (.list xs)))) Φ) : Sts C X ss ρ Φ := pss_weak k fun D σ H ⟨B0, H0, B, ex, s0, en, q⟩ => by
  obtain ⟨B', s1, eb, e1⟩ := en.fix s0 h
  exact tS_grow (σ := σ) (H := H) (ρ := ρ) ex s1 eb e1 q
/-- name.append(e) -/
theorem sts_append (i : Nat) {n : Str} {xs : List D} {d : D} {p1 p2 p3 : Pos} (h : ρ[i]? = some (.ml xs)) (hz : xs.length < sizeLine) (he : Ev C X e ρ (.d d)) (k : Sts C X ss (ρ.set i (.ml (xs ++ [d]))) Φ)
    (hp : PS X (.Expr (.Call (.Attribute (.Name n p1) "append" p2) [e] [] p3) pos) (tDrop (tBM X.K "list" rAppend (tVar i) (tCons (tD (ct X C) ρ (.d d)) tNil)))) :
    Sts C X (.Expr (.Call (.Attribute (.Name n p1) "append" p2) [e] [] p3) pos :: ss) ρ Φ :=
  sts_cons (ps_weak hp fun D σ H ⟨B0, H0, B, ex, s0, en, k1, _⟩ => by
    obtain ⟨a, vs, ea, h1, h2, h3, h4⟩ := en.at_ i _ h
    have ev : σ[i]? = some (some (.ref a)) := by
      cases q : σ[i]? with
      | none =>
        rw [q] at ea
        cases ea
      | some o =>
        rw [q] at ea
        exact congrArg some ea
    refine ⟨.ref a, ev, .inl ⟨rfl, _, .inl (.inl h3)⟩, H0, B, s0.t, en, fun v B' H' s1 r1 => ?_⟩
    obtain ⟨g1, g2⟩ := s1.f a _ h1 h3
    refine ⟨a, vs, v, rfl, rfl, g2, by rw [dtall_len h4]; exact hz, ?_⟩
    exact k1 σ B' _ _ ((s0.trans s1).mut g1 h2) s1.b ((en.step s1).mutate (s' := .ml (xs ++ [d])) h rfl ea ⟨a, _, rfl, g1, h2, upd_same, dtall_append (dtall_mono s1.b _ _ h4) (dtall_one r1)⟩ rfl) k)
theorem ps_append {i : Nat} {n : Str} {t : TE} {p1 p2 p3 : Pos} (he : PE X e t) (hN : X.N[i]? = some n := by rfl) (hv : Vis X.env.scope n := by first | exact Or.inl rfl | exact Or.inr (Or.inl rfl) | exact Or.inr (Or.inr rfl)) (hd : (n == ("__debug__" : Str)) = false := by decide) (hcd : (n == ("__classdict__" : Str)) = false := by decide)
    (hb : PE X (.Call (.Attribute (.Name n p1) "append" p2) [e] [] p3) (tBM X.K "list" rAppend (tVar i) (tCons t tNil)))
    (hs : swapsWith (.Call (.Attribute (.Name n p1) "append" p2) [e] [] p3) none pos.line X.env = pure false := by rfl) : PS X (.Expr (.Call (.Attribute (.Name n p1) "append" p2) [e] [] p3) pos) (tDrop (tBM X.K "list" rAppend (tVar i) (tCons t tNil))) := ps_expr hb hs

/-! ### loops -/
/-- behind a turn -/
def Turned (C : Addr) (X : Cx) (ss : List Stmt) (Φ : Out → Prop) (W : List Sl → Prop) : Out → Prop
  | .nx ρ => W ρ
  | .ct ρ => W ρ
  | .bk ρ => Sts C X ss ρ Φ
  | .rt x => Φ (.rt x)
theorem sts_for {tg iter : Expr} {body : List Stmt} {ds : List D} (W : Nat → List Sl → Prop) (post : D → List Sl → List Sl) (hi : EvI C X tg iter ρ ds) (h0 : W 0 ρ)
    (hg : ∀ i d ρi, ds[i]? = some d → W i ρi → ∃ js, EvG C X tg ρi d (post d ρi) js) (hb : ∀ i d ρi, ds[i]? = some d → W i ρi → Sts C X body (post d ρi) (Turned C X ss Φ (W (i + 1)))) (hd : ∀ ρn, W ds.length ρn → Sts C X ss ρn Φ)
    (hc : X.calm = true := by rfl) (hp : PassesOwn (model X.prog X.w) X.A X.env X.xe := by exact PassesOwn.never) (hs : ∀ x, foldedSetIterable iter X.env x = pure x := by intro _; rfl) : Sts C X (.For tg iter body [] pos :: ss) ρ Φ := by
  have gg : PG X tg (fun v σ H Q => ∃ i d ρi, (ds[i]? = some d ∧ W i ρi) ∧ ∃ js, EvG C X tg ρi d (post d ρi) js ∧ tDG (ct X C) ρi (post d ρi) d js v σ H Q) := ⟨fun pins s σ H v u Q I r ⟨i, d, ρi, hw, js, hE, q⟩ => hE.run pins s σ H v u Q I r q⟩
  have bb : PSs X body (fun D σ H => ∃ i d ρi, (ds[i]? = some d ∧ W i ρi) ∧ tS (ct X C) (post d ρi) (Turned C X ss Φ (W (i + 1))) D σ H) := ⟨fun pins s σ H D I ⟨i, d, ρi, hw, q⟩ => (hb i d ρi hw.1 hw.2).run pins s σ H D I q⟩
  refine sts_cons (ps_weak (ps_for hp hc hi gg bb hs) fun D σ H ⟨B0, H0, B, ex, s0, en, k1, k2, k3, k4⟩ => ?_)
  refine ⟨H0, B, s0.t, en, fun J B1 H1 s1 wd => ?_⟩
  refine for_it (D := D) (g := fun v σ H Q => ∃ i d ρi, (ds[i]? = some d ∧ W i ρi) ∧ ∃ js, EvG C X tg ρi d (post d ρi) js ∧ tDG (ct X C) ρi (post d ρi) d js v σ H Q) (tb := fun D σ H => ∃ i d ρi, (ds[i]? = some d ∧ W i ρi) ∧ tS (ct X C) (post d ρi) (Turned C X ss Φ (W (i + 1))) D σ H)
    (n := ds.length) (G := fun H2 => Ex B1 H2) (Y := fun i H2 x H' => ∃ d, ds[i]? = some d ∧ ((H' = H2 ∧ Dt B1 x d) ∨ ∃ T o xs es, x = .ref T ∧ H2 T = none ∧ o.dict = none ∧ H' = upd H2 T (.frz o (.tup xs)) ∧ d = .tuple es ∧ DtAll B1 xs es))
    ⟨fun i H2 hi g => wd.go i H2 hi g, fun H2 g => wd.stop H2 g, fun i H2 x H' hi g y => wd.yld i H2 x H' hi g y⟩
    (fun i σ2 H2 => ∃ B2 ρi, Step B0 H0 B2 H2 ∧ Ex B1 B2 ∧ EnvOk (ct X C) H0 B2 H2 σ2 ρi ∧ W i ρi) ?_ ?_ ?_ ?_
  · exact ⟨B1, ρ, s0.trans s1, Ex.refl _, en.step s1, h0⟩
  · rintro i σ2 H2 hi ⟨B2, ρi, st, eb, _⟩
    exact eb.trans st.t
  · rintro i x σ2 H2 H' hi ⟨B2, ρi, st, eb, e2, w⟩ ⟨d, hdi, hy⟩
    obtain ⟨js, hE⟩ := hg i d ρi hdi w
    obtain ⟨B3, st3, hx⟩ : ∃ B3, Step B2 H2 B3 H' ∧ Dt B3 x d := by
      rcases hy with ⟨rfl, hx⟩ | ⟨T, o, xs, es, rfl, hT, ho, rfl, rfl, hes⟩
      · exact ⟨B2, Step.refl st.t, dt_mono eb _ _ hx⟩
      · have s3 := Step.new (o := .frz o (.tup xs)) st.t hT
        exact ⟨_, s3, .tup ⟨o, upd_same, ho⟩ (dtall_mono (eb.trans s3.b) _ _ hes)⟩
    have e3 := e2.step st3
    refine ⟨i, d, ρi, ⟨hdi, w⟩, js, hE, H0, B3, st3.t, e3, hx, fun σ3 e4 _ _ => ⟨i, d, ρi, ⟨hdi, w⟩, B0, H0, B3, ex, st.trans st3, e4, ?_, ?_, ?_, ?_⟩⟩
    · exact fun σ' B' H'' ρ' s4 eb4 e5 f => ⟨B', ρ', s4, (eb.trans st3.b).trans eb4, e5, f⟩
    · exact fun v B' H'' x s4 r f => k2 v B' H'' x s4 r f
    · exact fun σ' B' H'' ρ' s4 eb4 e5 f => k1 σ' B' H'' ρ' s4 (((s1.b.trans eb).trans st3.b).trans eb4) e5 f
    · exact fun σ' B' H'' ρ' s4 eb4 e5 f => ⟨B', ρ', s4, (eb.trans st3.b).trans eb4, e5, f⟩
  · rintro σ2 H2 ⟨B2, ρi, st, eb, e2, w⟩
    exact k1 σ2 B2 H2 ρi st (s1.b.trans eb) e2 (hd ρi w)
theorem sts_while {c : Expr} {body : List Stmt} (W : Nat → List Sl → Prop) {m0 : Nat} (h0 : W m0 ρ) (k : List Sl → Bool) (hc : ∀ m ρi, W m ρi → EvT C X c ρi (k ρi)) (hb : ∀ m ρi, W m ρi → k ρi = true → Sts C X body ρi (Turned C X ss Φ (fun ρ' => ∃ m', m' < m ∧ W m' ρ')))
    (hd : ∀ m ρi, W m ρi → k ρi = false → Sts C X ss ρi Φ) (hp : PassesOwn (model X.prog X.w) X.A X.env X.xe := by exact PassesOwn.never) : Sts C X (.While c body [] pos :: ss) ρ Φ := by
  have cc : PT X c (fun σ H Q => ∃ m ρi, W m ρi ∧ tDT (ct X C) ρi (k ρi) σ H Q) := ⟨fun pins s σ H Q I ⟨m, ρi, hw, q⟩ => (hc m ρi hw).run pins s σ H Q I q⟩
  have bb : PSs X body (fun D σ H => ∃ m ρi, (W m ρi ∧ k ρi = true) ∧ tS (ct X C) ρi (Turned C X ss Φ (fun ρ' => ∃ m', m' < m ∧ W m' ρ')) D σ H) := ⟨fun pins s σ H D I ⟨m, ρi, hw, q⟩ => (hb m ρi hw.1 hw.2).run pins s σ H D I q⟩
  refine sts_cons (ps_weak (ps_while hp cc bb) fun D σ H ⟨B0, H0, B, ex, s0, en, k1, k2, k3, k4⟩ => ?_)
  refine ⟨fun m σ2 H2 => ∃ B2 ρi, Step B0 H0 B2 H2 ∧ Ex B B2 ∧ EnvOk (ct X C) H0 B2 H2 σ2 ρi ∧ W m ρi, ⟨m0, B, ρ, s0, Ex.refl B, en, h0⟩, ?_⟩
  rintro m σ2 H2 ⟨B2, ρi, st, eb, e2, w⟩
  refine ⟨m, ρi, w, H0, B2, st.t, e2, fun B3 H3 s3 => ?_⟩
  cases hk : k ρi with
  | false =>
    refine iteF ?_
    exact k1 σ2 B3 H3 ρi (st.trans s3) (eb.trans s3.b) (e2.step s3) (hd m ρi w hk)
  | true =>
    refine iteT ⟨fun σ' H' => ∃ m' B' ρ', m' < m ∧ Step B0 H0 B' H' ∧ Ex B B' ∧ EnvOk (ct X C) H0 B' H' σ' ρ' ∧ W m' ρ', fun σ' H' ⟨m', B', ρ', h1, h2, h3, h4, h5⟩ => ⟨m', h1, B', ρ', h2, h3, h4, h5⟩, m, ρi, ⟨w, hk⟩, B0, H0, B3, ex, st.trans s3, e2.step s3, ?_, ?_, ?_, ?_⟩
    · exact fun σ' B' H'' ρ' s4 eb4 e5 ⟨m', hm, hw⟩ => ⟨m', B', ρ', hm, s4, (eb.trans s3.b).trans eb4, e5, hw⟩
    · exact fun v B' H'' x s4 r f => k2 v B' H'' x s4 r f
    · exact fun σ' B' H'' ρ' s4 eb4 e5 f => k1 σ' B' H'' ρ' s4 ((eb.trans s3.b).trans eb4) e5 f
    · exact fun σ' B' H'' ρ' s4 eb4 e5 ⟨m', hm, hw⟩ => ⟨m', B', ρ', hm, s4, (eb.trans s3.b).trans eb4, e5, hw⟩
end

/-! ### defs -/
def spD (c : Ct) (R : List DV → DV → Prop) : Sp := fun vs H Q _ => ∃ B xs y, Ex B H ∧ Paired (Rp c B) vs xs ∧ R xs y ∧ ∀ v B' H', Step B H B' H' → Rp c B' v y → Q v H'
/-- the slots at a def's entry -/
def slots0 (n : Nat) (xs : List DV) : List Sl := xs.map .i ++ List.replicate (n - xs.length) .no
theorem env_start {c : Ct} {B H : Hp} {N : List Str} {vs : List V} {xs : List DV} (hp : Paired (Rp c B) vs xs) : EnvOk c H B H (L2.start N vs) (slots0 N.length xs) := by
  have hl := paired_len hp
  refine ⟨by unfold L2.start slots0; simp only [List.length_append, List.length_map, List.length_replicate, hl], fun i s h => ?_, fun i j s t a hij hs ht ms mt _ _ => ?_⟩
  · unfold slots0 at h
    by_cases hi : i < xs.length
    · rw [List.getElem?_append_left (by simpa using hi), List.getElem?_map] at h
      rw [List.getElem?_eq_getElem hi] at h
      cases h
      have hiv : i < vs.length := by rw [hl]; exact hi
      obtain ⟨b, hb, r⟩ := paired_get hp (List.getElem?_eq_getElem hiv)
      rw [List.getElem?_eq_getElem hi] at hb
      cases hb
      refine ⟨vs[i], ?_, r⟩
      unfold L2.start
      rw [List.getElem?_append_left (by simpa using hiv), List.getElem?_map, List.getElem?_eq_getElem hiv]
      rfl
    · rw [List.getElem?_append_right (by simpa using hi), List.getElem?_replicate] at h
      split at h
      · cases h
        exact True.intro
      · cases h
  · unfold slots0 at hs
    by_cases hi : i < xs.length
    · rw [List.getElem?_append_left (by simpa using hi), List.getElem?_map, List.getElem?_eq_getElem hi] at hs
      cases hs
      cases ms
    · rw [List.getElem?_append_right (by simpa using hi), List.getElem?_replicate] at hs
      split at hs
      · cases hs
        cases ms
      · cases hs
/-- the end of a def that gives y -/
def Gives (y : DV) : Out → Prop := fun o => o = .rt y ∨ (y = .d .none ∧ ∃ ρ, o = .nx ρ)
theorem Gives.rt {y : DV} : Gives y (.rt y) := .inl rfl
theorem Gives.nx {ρ : List Sl} : Gives (.d .none) (.nx ρ) := .inr ⟨rfl, ρ, rfl⟩
theorem fn_D {P : Program} {w : World} {K : PySem.W.Frag} {mg : Str → Option Value} {base : Heap} {C : Addr} {x qual : Str} {st : Stmt} {f : Addr} {fd : FuncData} {N ps : List Str} {k : Nat} {R : List DV → DV → Prop} (F : Fun K x qual st f fd) (S : FnScope N ps (defScope st)) (len : ∀ xs y, R xs y → xs.length = ps.length)
    (hbody : ∀ (cdv : Value) (A : Around) (outer : List Env) (s : Shared) (H : Hp) (E : XK) (xs : List DV) (y : DV), Room k (A.deeper (envOfC qual (defScope st) s.heap.objs.size f cdv)) → R xs y → Sts C (cxOf CX0 P w K mg base N qual (defScope st) f cdv A outer s H E).nox (defBody st) (slots0 N.length xs) (Gives y)) :
    FnOk P w K mg base CX0 (k + 1) f fd ps (spD ⟨P, w, K, C⟩ R) := by
  refine F.ok S (fun vs H Q E h => ?_) (fun cdv A outer s H vs Q E hr h => ?_)
  · obtain ⟨B, xs, y, _, hp, hR, _⟩ := h
    rw [paired_len hp]
    exact len xs y hR
  · obtain ⟨B, xs, y, ex, hp, hR, k1⟩ := h
    refine ⟨_, hbody cdv A outer s H E xs y hr hR, B, H, B, ex, Step.refl ex, env_start hp, ?_, ?_, ?_, ?_⟩
    · rintro σ' B' H' ρ' st _ _ (q | ⟨rfl, _⟩)
      · cases q
      · exact k1 .non B' H' st Dt.non
    · rintro v B' H' z st r (q | ⟨_, _, q⟩)
      · cases q
        exact k1 v B' H' st r
      · cases q
    · rintro σ' B' H' ρ' st _ _ (q | ⟨_, _, q⟩) <;> cases q
    · rintro σ' B' H' ρ' st _ _ (q | ⟨_, _, q⟩) <;> cases q
/-- a def that stands under its name, with its promise -/
structure Gf (P : Program) (w : World) (K : PySem.W.Frag) (mg : Str → Option Value) (base : Heap) (n : Str) (k : Nat) (sp : Sp) : Prop where
  ex : ∃ f fd ps, mg n = some (.ref f) ∧ PySem.W.keepIn K (.ref f) = true ∧ Binds K fd ps [] ∧ FnOk P w K mg base CX0 k f fd ps sp
theorem Gf.mono {P : Program} {w : World} {K : PySem.W.Frag} {mg : Str → Option Value} {base : Heap} {n : Str} {j k : Nat} {sp : Sp} (G : Gf P w K mg base n j sp) (h : j ≤ k) : Gf P w K mg base n k sp := by
  obtain ⟨f, fd, ps, h1, h2, h3, h4⟩ := G.ex
  exact ⟨f, fd, ps, h1, h2, h3, h4.mono h⟩
section
variable {C : Addr} {X : Cx} {ρ : List Sl} {e : Expr} {es : List Expr} {n : Str} {p pos : Pos} {k : Nat} {R : List DV → DV → Prop} {xs : List DV} {y : DV}
theorem ev_call (G : Gf X.prog X.w X.K X.mg X.base n k (spD (ct X C) R)) (hr : Room k X.A) (ha : EvA C X (e :: es) ρ xs) (h : R xs y) (hg : Gl X n := by rfl) (hdb : (n == ("__debug__" : Str)) = false := by decide) (he : starEach (e :: es) X.env = (false, eval e X.env) :: starEach es X.env := by rfl) (hpl : (backTo pos (starEach es X.env)).any (·.1) = false := by rfl) :
    Ev C X (.Call (.Name n p) (e :: es) [] pos) ρ y := by
  obtain ⟨f, fd, ps, hm, hk, hb, F⟩ := G.ex
  refine pe_weak (pe_call F hr hg hm hk hb .nil (pass0 (X := X)) ha hdb he hpl) fun σ H Q ⟨H0, B, ex, en, q⟩ => ⟨H0, B, ex, en, fun vs B1 H1 s1 r1 => ?_⟩
  show spD (ct X C) R (vs ++ []) H1 Q E0
  rw [List.append_nil]
  exact ⟨B1, xs, y, s1.t, r1, h, fun v B2 H2 s2 r2 => q v B2 H2 (s1.trans s2) r2⟩
theorem ev_call0 (G : Gf X.prog X.w X.K X.mg X.base n k (spD (ct X C) R)) (hr : Room k X.A) (h : R [] y) (hg : Gl X n := by rfl) (hdb : (n == ("__debug__" : Str)) = false := by decide) : Ev C X (.Call (.Name n p) [] [] pos) ρ y := by
  obtain ⟨f, fd, ps, hm, hk, hb, F⟩ := G.ex
  refine pe_weak (pe_call0 F hr hg hm hk hb .nil (pass0 (X := X)) hdb) fun σ H Q ⟨H0, B, ex, en, q⟩ => ?_
  exact ⟨B, [], y, ex, .nil, h, fun v B2 H2 s2 r2 => q v B2 H2 s2 r2⟩
end
end DL
set_option maxRecDepth 100000
set_option maxHeartbeats 4000000
/-! the data layer, 7: built-in functions, methods, slices -/
namespace DL
open PySem PySem.Spec PyProof.Rows L2 SlX

/-! ### isinstance -/
def tyName : D → String
  | .none => "NoneType"
  | .bool _ => "bool"
  | .int _ => "int"
  | .str _ => "str"
  | .list _ => "list"
  | .tuple _ => "tuple"
  | .dict _ => "dict"
theorem tyx_of {K : PySem.W.Frag} {H : Hp} {v : V} {d : D} (h : Dt H v d) : TyX K H v (.type (tyName d)) := by
  cases h with
  | non => exact .base .non
  | bl b => exact .base (.bl b)
  | int i => exact .base (.int i)
  | str x => exact .base (.str x)
  | lst e _ => exact .base (.lst e)
  | tup e _ =>
    obtain ⟨o, e, _⟩ := e
    exact .fTuple e
section
variable {C : Addr} {X : Cx} {e a b : Expr} {es : List Expr} {ρ : List Sl} {pos p p2 : Pos} {d : D} {ds : List D}
theorem ev_isi {T : String} {k : Bool} (he : Ev C X e ρ (.d d)) (hm : X.mg "isinstance" = none) (hT : X.mg (Str.ofString T) = none) (hb : bootBuiltins (Str.ofString T) = some (.type T)) (hk : kitB (tyName d) T = some k) (hg : Gl X "isinstance" := by rfl) (hgT : Gl X (Str.ofString T) := by rfl) (hn : (Str.ofString T) ≠ "__name__" := by decide) (hdb : ((Str.ofString T) == ("__debug__" : Str)) = false := by decide)
    (h1 : starEach [e, .Name (Str.ofString T) p2] X.env = (false, eval e X.env) :: starEach [.Name (Str.ofString T) p2] X.env := by rfl) (h2 : starEach [.Name (Str.ofString T) p2] X.env = (false, eval (.Name (Str.ofString T) p2) X.env) :: starEach [] X.env := by rfl) (hpl : (backTo pos (starEach [.Name (Str.ofString T) p2] X.env)).any (·.1) = false := by rfl) :
    Ev C X (.Call (.Name "isinstance" p) [e, .Name (Str.ofString T) p2] [] pos) ρ (.d (.bool k)) :=
  pe_weak (pe_callB call_isi hg hm boot_isinstance (pa_cons he (pa_cons (pe_bltn (v := .ty T) hgT hT hb rfl hn hdb) pa_nil h2) h1) (by decide) (by decide) h1 hpl) fun σ H Q ⟨H0, B, ex, en, q⟩ => ⟨H0, B, ex, en, fun v B1 H1 s1 r1 =>
    ⟨v, .ty T, _, _, k, rfl, .ty T, tyx_of (dt_mono s1.t _ _ r1), kit_ty hk, q _ B1 H1 s1 (Dt.bl k)⟩⟩
theorem ev_isi2 {T U : String} {k : Bool} {kk : Nat} {p3 p4 p5 : Pos} (he : Ev C X e ρ (.d d)) (hm : X.mg "isinstance" = none) (hT : X.mg (Str.ofString T) = none) (hb : bootBuiltins (Str.ofString T) = some (.type T)) (hU : X.mg (Str.ofString U) = none) (hbU : bootBuiltins (Str.ofString U) = some (.type U)) (hk : ∃ k1 k2, kitB (tyName d) T = some k1 ∧ kitB (tyName d) U = some k2 ∧ (k1 || k2) = k)
    (hg : Gl X "isinstance" := by rfl) (hgT : Gl X (Str.ofString T) := by rfl) (hgU : Gl X (Str.ofString U) := by rfl) (hn : (Str.ofString T) ≠ "__name__" := by decide) (hdb : ((Str.ofString T) == ("__debug__" : Str)) = false := by decide) (hnU : (Str.ofString U) ≠ "__name__" := by decide) (hdbU : ((Str.ofString U) == ("__debug__" : Str)) = false := by decide)
    (h1 : starEach [e, .Tuple [.Name (Str.ofString T) p2, .Name (Str.ofString U) p3] kk p4] X.env = (false, eval e X.env) :: starEach [.Tuple [.Name (Str.ofString T) p2, .Name (Str.ofString U) p3] kk p4] X.env := by rfl) (h2 : starEach [.Tuple [.Name (Str.ofString T) p2, .Name (Str.ofString U) p3] kk p4] X.env = (false, eval (.Tuple [.Name (Str.ofString T) p2, .Name (Str.ofString U) p3] kk p4) X.env) :: starEach [] X.env := by rfl)
    (hpl : (backTo pos (starEach [.Tuple [.Name (Str.ofString T) p2, .Name (Str.ofString U) p3] kk p4] X.env)).any (·.1) = false := by rfl)
    (h3 : starEach [.Name (Str.ofString T) p2, .Name (Str.ofString U) p3] X.env = (false, eval (.Name (Str.ofString T) p2) X.env) :: starEach [.Name (Str.ofString U) p3] X.env := by rfl) (h4 : starEach [.Name (Str.ofString U) p3] X.env = (false, eval (.Name (Str.ofString U) p3) X.env) :: starEach [] X.env := by rfl) :
    Ev C X (.Call (.Name "isinstance" p) [e, .Tuple [.Name (Str.ofString T) p2, .Name (Str.ofString U) p3] kk p4] [] pos) ρ (.d (.bool k)) :=
  pe_weak (pe_callB call_isiT hg hm boot_isinstance (pa_cons he (pa_cons (pe_tup (pa_cons (pe_bltn (v := .ty T) hgT hT hb rfl hn hdb) (pa_cons (pe_bltn (v := .ty U) hgU hU hbU rfl hnU hdbU) pa_nil h4) h3)) pa_nil h2) h1) (by decide) (by decide) h1 hpl) fun σ H Q ⟨H0, B, ex, en, q⟩ => ⟨H0, B, ex, en, fun v B1 H1 s1 r1 => by
    refine ⟨by show 2 ≤ sizeLine; decide, fun tp htp => ?_⟩
    obtain ⟨k1, k2, e1, e2, e3⟩ := hk
    have st := Step.aside (o := .tup [.ty T, .ty U]) s1.t htp
    refine ⟨v, tp, _, _, _, k, rfl, upd_same, .cons (.ty T) (.cons (.ty U) .nil), tyx_of (dt_mono (s1.trans st).t _ _ r1), kitAny_cons (kit_ty e1) (fun z => kitAny_cons (kit_ty e2) (fun z2 => by rw [← e3, z, z2]; exact kitAny_nil) fun z2 => by rw [← e3, z2, Bool.or_true]) (fun z => by rw [← e3, z, Bool.true_or]), q _ B1 _ (s1.trans st) (Dt.bl k)⟩⟩

/-! ### len, tuple, list, all, any, sorted, abs, int, max -/
theorem ev_len_tup (he : Ev C X e ρ (.d (.tuple ds))) (hm : X.mg "len" = none) (hg : Gl X "len" := by rfl) (h1 : starEach [e] X.env = (false, eval e X.env) :: starEach [] X.env := by rfl) (hpl : (backTo pos (starEach [] X.env)).any (·.1) = false := by rfl) : Ev C X (.Call (.Name "len" p) [e] [] pos) ρ (.d (.int (ds.length : Nat))) :=
  pe_weak (pe_callB call_len_seq hg hm PySem.boot_len (pa_cons he pa_nil h1) (by decide) (by decide) h1 hpl) fun σ H Q ⟨H0, B, ex, en, q⟩ => ⟨H0, B, ex, en, fun v B1 H1 s1 r1 => by
    cases r1 with
    | @tup a xs _ ha hd => exact ⟨a, xs, rfl, .inr (ha.mono s1.t).sq, by rw [dtall_len hd]; exact q _ B1 H1 s1 (Dt.int _)⟩⟩
theorem ev_len_list (he : Ev C X e ρ (.d (.list ds))) (hm : X.mg "len" = none) (hg : Gl X "len" := by rfl) (h1 : starEach [e] X.env = (false, eval e X.env) :: starEach [] X.env := by rfl) (hpl : (backTo pos (starEach [] X.env)).any (·.1) = false := by rfl) : Ev C X (.Call (.Name "len" p) [e] [] pos) ρ (.d (.int (ds.length : Nat))) :=
  pe_weak (pe_callB call_len_seq hg hm PySem.boot_len (pa_cons he pa_nil h1) (by decide) (by decide) h1 hpl) fun σ H Q ⟨H0, B, ex, en, q⟩ => ⟨H0, B, ex, en, fun v B1 H1 s1 r1 => by
    cases r1 with
    | @lst a xs _ ha hd => exact ⟨a, xs, rfl, .inl (sl_of (s1.t _ _ ha)), by rw [dtall_len hd]; exact q _ B1 H1 s1 (Dt.int _)⟩⟩
theorem ev_len_str {z : Str} (hz : z.length ≤ sizeLine) (he : Ev C X e ρ (.d (.str z))) (hm : X.mg "len" = none) (hg : Gl X "len" := by rfl) (h1 : starEach [e] X.env = (false, eval e X.env) :: starEach [] X.env := by rfl) (hpl : (backTo pos (starEach [] X.env)).any (·.1) = false := by rfl) : Ev C X (.Call (.Name "len" p) [e] [] pos) ρ (.d (.int (z.length : Nat))) :=
  pe_weak (pe_callB call_len_str hg hm PySem.boot_len (pa_cons he pa_nil h1) (by decide) (by decide) h1 hpl) fun σ H Q ⟨H0, B, ex, en, q⟩ => ⟨H0, B, ex, en, fun v B1 H1 s1 r1 => by
    cases r1
    exact ⟨z, rfl, hz, q _ B1 H1 s1 (Dt.int _)⟩⟩
/-- tuple(x) -/
def rTupF (K : PySem.W.Frag) : List V → Hp → VK → Prop := fun xs H Q => ∃ p ys, xs = [.ref p] ∧ ((SqL K H p ys ∧ ∀ l o, H l = none → o.dict = none → Q (.ref l) (upd H l (.frz o (.tup ys)))) ∨ (SqT K H p ys ∧ Q (.ref p) H))
theorem call_tupF : CallR X (.type "tuple") (rTupF X.K) := fun pins s σ H xs us Q I r ⟨p, ys, ex, h⟩ => by
  subst ex
  obtain rfl := Vals.ref1 r
  rcases h with ⟨hq, q⟩ | ⟨hq, q⟩
  · obtain ⟨its, rv, pl, hz⟩ := I.list hq
    refine call_tuple_list pl.isList (fun h' kp => ?_) (by rw [List.size_toArray, ← rv.length]; exact hz)
    exact laidF (s := { s with heap := h' }) (I.kept (t' := s.toks) kp) rv hz q
  · obtain ⟨its, rv, pl, _⟩ := I.tuple hq
    exact call_tuple_same pl ⟨.ref p, H, I, rfl, q⟩
theorem ev_tuple_list (he : Ev C X e ρ (.d (.list ds))) (hm : X.mg "tuple" = none) (hg : Gl X "tuple" := by rfl) (h1 : starEach [e] X.env = (false, eval e X.env) :: starEach [] X.env := by rfl) (hpl : (backTo pos (starEach [] X.env)).any (·.1) = false := by rfl) : Ev C X (.Call (.Name "tuple" p) [e] [] pos) ρ (.d (.tuple ds)) :=
  pe_weak (pe_callTy call_tupF hg hm boot_tuple (pa_cons he pa_nil h1) (by decide) (by decide) h1 hpl) fun σ H Q ⟨H0, B, ex, en, q⟩ => ⟨H0, B, ex, en, fun v B1 H1 s1 r1 => by
    cases r1 with
    | @lst a xs _ ha hd => exact ⟨a, xs, rfl, .inl ⟨sl_of (s1.t _ _ ha), fun l o hl ho => Step.tup s1.t hl ho hd fun v B' H' st r => q v B' H' (s1.trans st) r⟩⟩⟩
/-- list(x): a new one -/
theorem ef_list_of (tup : Bool) (he : Ev C X e ρ (.d (if tup = true then .tuple ds else .list ds))) (hm : X.mg "list" = none) (hg : Gl X "list" := by rfl) (h1 : starEach [e] X.env = (false, eval e X.env) :: starEach [] X.env := by rfl) (hpl : (backTo pos (starEach [] X.env)).any (·.1) = false := by rfl) : EvF C X (.Call (.Name "list" p) [e] [] pos) ρ ds :=
  pe_weak (pe_callTy call_list_of hg hm boot_list (pa_cons he pa_nil h1) (by decide) (by decide) h1 hpl) fun σ H Q ⟨H0, B, ex, en, q⟩ => ⟨H0, B, ex, en, fun v B1 H1 s1 r1 => by
    have fin : ∀ xs, DtAll B1 xs ds → ∀ l, H1 l = none → Q (.ref l) (upd H1 l (.lst xs)) := fun xs hd l hl => by
      have st := Step.aside (o := .lst xs) s1.t hl
      exact q l xs B1 _ (s1.trans st) ((Step.ex ex s1).free hl) (s1.t.free hl) upd_same hd
    cases tup with
    | true =>
      cases r1 with
      | @tup a xs _ ha hd => exact ⟨a, xs, rfl, .inr (ha.mono s1.t).sq, fin xs hd⟩
    | false =>
      cases r1 with
      | @lst a xs _ ha hd => exact ⟨a, xs, rfl, .inl (sl_of (s1.t _ _ ha)), fin xs hd⟩⟩
theorem bls_of {B : Hp} : ∀ {bs : List Bool} {vs : List V}, DtAll B vs (bs.map .bool) → vs = bs.map V.bl
  | [], _, h => by
    cases h
    rfl
  | b :: bs, _, h => by
    cases h with
    | cons h1 h2 =>
      cases h1
      rw [bls_of h2]
      rfl
theorem ev_all {bs : List Bool} (he : Ev C X e ρ (.d (.list (bs.map .bool)))) (hm : X.mg "all" = none) (hc : X.calm = true := by rfl) (hg : Gl X "all" := by rfl) (h1 : starEach [e] X.env = (false, eval e X.env) :: starEach [] X.env := by rfl) (hpl : (backTo pos (starEach [] X.env)).any (·.1) = false := by rfl) : Ev C X (.Call (.Name "all" p) [e] [] pos) ρ (.d (.bool (bs.all id))) :=
  pe_weak (pe_callB (cr_all hc) hg hm (by decide +kernel) (pa_cons he pa_nil h1) (by decide) (by decide) h1 hpl) fun σ H Q ⟨H0, B, ex, en, q⟩ => ⟨H0, B, ex, en, fun v B1 H1 s1 r1 => by
    cases r1 with
    | @lst a xs _ ha hd =>
      rw [bls_of hd] at ha
      exact ⟨a, bs, rfl, sl_of (s1.t _ _ ha), q _ B1 H1 s1 (Dt.bl _)⟩⟩
theorem ev_any {bs : List Bool} (he : Ev C X e ρ (.d (.list (bs.map .bool)))) (hm : X.mg "any" = none) (hc : X.calm = true := by rfl) (hg : Gl X "any" := by rfl) (h1 : starEach [e] X.env = (false, eval e X.env) :: starEach [] X.env := by rfl) (hpl : (backTo pos (starEach [] X.env)).any (·.1) = false := by rfl) : Ev C X (.Call (.Name "any" p) [e] [] pos) ρ (.d (.bool (bs.any id))) :=
  pe_weak (pe_callB (cr_any hc) hg hm (by decide +kernel) (pa_cons he pa_nil h1) (by decide) (by decide) h1 hpl) fun σ H Q ⟨H0, B, ex, en, q⟩ => ⟨H0, B, ex, en, fun v B1 H1 s1 r1 => by
    cases r1 with
    | @lst a xs _ ha hd =>
      rw [bls_of hd] at ha
      exact ⟨a, bs, rfl, sl_of (s1.t _ _ ha), q _ B1 H1 s1 (Dt.bl _)⟩⟩
/-- what sorted(x) can take -/
inductive SrcD : DV → List D → Prop
  | l (ds : List D) : SrcD (.d (.list ds)) ds
  | t (ds : List D) : SrcD (.d (.tuple ds)) ds
  | n (kvs : List (NestedKey × D)) : SrcD (.dn kvs) (kvs.map fun z => z.1.data)
  | k (kvs : List (Str × D)) : SrcD (.dk kvs) (kvs.map fun z => .str z.1)
theorem src_of {x : DV} {B H : Hp} {v : V} (ex : Ex B H) (s : SrcD x ds) (r : Rp (ct X C) B v x) : Src X v B H ds := by
  cases s with
  | l ds =>
    cases r with
    | @lst a xs _ ha hd => exact .inl ⟨a, xs, rfl, ex _ _ ha, hd⟩
  | t ds =>
    cases r with
    | @tup a xs _ ha hd => exact .inr (.inl ⟨a, xs, rfl, (ha.mono ex).sq, hd⟩)
  | n kvs =>
    obtain ⟨a, xs, rfl, ha, hp⟩ := r
    refine .inr (.inr (.inl ⟨a, xs, rfl, ex _ _ ha, ?_⟩))
    have : ∀ {xs : List (NestedKey × Addr × V)} {kvs : List (NestedKey × D)}, Paired (fun (p : NestedKey × Addr × V) (q : NestedKey × D) => p.1 = q.1 ∧ Dt B (.ref p.2.1) p.1.data ∧ Dt B p.2.2 q.2) xs kvs → DtAll B (xs.map fun z => .ref z.2.1) (kvs.map fun z => z.1.data) := fun {xs} => by
      induction xs with
      | nil =>
        intro kvs h
        cases h
        exact .nil
      | cons x xs ih =>
        intro kvs h
        cases h with
        | cons h1 h2 =>
          refine .cons ?_ (ih h2)
          have h3 := h1.2.1
          rw [h1.1] at h3
          exact h3
    exact this hp
  | k kvs =>
    obtain ⟨a, o, ks, rfl, ha, hp⟩ := r
    refine .inr (.inr (.inr ⟨a, ks, rfl, .inr ⟨o, ex _ _ ha⟩, ?_⟩))
    have : ∀ {ks : List (Key × V)} {kvs : List (Str × D)}, Paired (fun (p : Key × V) (q : Str × D) => p.1 = Sum.inr q.1 ∧ Dt B p.2 q.2) ks kvs → DtAll B (ks.map fun z => kV z.1) (kvs.map fun z => .str z.1) := fun {ks} => by
      induction ks with
      | nil =>
        intro kvs h
        cases h
        exact .nil
      | cons x xs ih =>
        intro kvs h
        cases h with
        | cons h1 h2 =>
          refine .cons ?_ (ih h2)
          show Dt B (kV x.1) (.str _)
          rw [h1.1]
          exact Dt.str _
    exact this hp
theorem ef_sorted {x : DV} {n : Nat} (s : SrcD x ds) (ok : Okays ds) (he : Ev C X e ρ x) (hm : X.mg "sorted" = none) (hr : Room n X.A) (hc : X.calm = true := by rfl) (hg : Gl X "sorted" := by rfl) (h1 : starEach [e] X.env = (false, eval e X.env) :: starEach [] X.env := by rfl) (hpl : (backTo pos (starEach [] X.env)).any (·.1) = false := by rfl) : EvF C X (.Call (.Name "sorted" p) [e] [] pos) ρ (sortD ds) :=
  pe_weak (pe_callB (call_sortedD hc hr) hg hm boot_sorted (pa_cons he pa_nil h1) (by decide) (by decide) h1 hpl) fun σ H Q ⟨H0, B, ex, en, q⟩ => ⟨H0, B, ex, en, fun v B1 H1 s1 r1 => ⟨v, B1, ds, rfl, s1.t, src_of s1.t s r1, ok, fun l vs hl hd => by
    have st := Step.aside (o := .lst vs) s1.t hl
    exact q l vs B1 _ (s1.trans st) ((Step.ex ex s1).free hl) (s1.t.free hl) upd_same hd⟩⟩
/-! ### x in t, x not in t -/
def rInT (K : PySem.W.Frag) (neg : Bool) : R2 := fun x y H Q => ∃ d ds, Dp K H x d ∧ Dp K H y (.tuple ds) ∧ SeqAt.shaped d = true ∧ SeqAt.shaped (.tuple ds) = true ∧ Q (.bl (if neg = true then !ds.any fun z => PyData.eqv z d else ds.any fun z => PyData.eqv z d)) H
theorem room65 {n : Nat} (hr : Room n X.A) : X.A.units + 65 < cLine := by
  have := hr.un
  omega
theorem op_inT {n : Nat} (hr : Room n X.A) : OpR X (compareOp .In) (rInT X.K false) := fun pins s σ H x y v u Q I rx ry ⟨d, ds, hd, he, sd, se, q⟩ =>
  have ⟨_, r1⟩ := Dp.reads I d x v hd rx
  have ⟨_, r2⟩ := Dp.reads I (.tuple ds) y u he ry
  SeqAt.in_tuple_reads r2 r1 (SeqAt.canLay_of_shaped se) (SeqAt.canLay_of_shaped sd) (room_in_shaped sd (room65 hr)) ⟨.bl _, H, I, rfl, q⟩
theorem op_niT {n : Nat} (hr : Room n X.A) : OpR X (compareOp .NotIn) (rInT X.K true) := fun pins s σ H x y v u Q I rx ry ⟨d, ds, hd, he, sd, se, q⟩ =>
  have ⟨_, r1⟩ := Dp.reads I d x v hd rx
  have ⟨_, r2⟩ := Dp.reads I (.tuple ds) y u he ry
  SeqAt.notIn_tuple_reads r2 r1 (SeqAt.canLay_of_shaped se) (SeqAt.canLay_of_shaped sd) (room_in_shaped sd (room65 hr)) ⟨.bl _, H, I, rfl, q⟩
def inD (d : D) (ds : List D) : Bool := ds.any fun z => PyData.eqv z d
theorem r2_inL {c : Ct} (h1 : SeqAt.shaped d = true) (h2 : SeqAt.shaped (.list ds) = true) : R2D c (rInD c.K) (.d d) (.d (.list ds)) (.d (.bool (inD d ds))) := fun B H v w Q ex r1 r2 k =>
  ⟨d, ds, dt_dp _ _ (dt_mono ex _ _ r1), dt_dp _ _ (dt_mono ex _ _ r2), h1, h2, k _ B H (Step.refl ex) (Dt.bl _)⟩
theorem r2_niL {c : Ct} (h1 : SeqAt.shaped d = true) (h2 : SeqAt.shaped (.list ds) = true) : R2D c (rNotInD c.K) (.d d) (.d (.list ds)) (.d (.bool (!inD d ds))) := fun B H v w Q ex r1 r2 k =>
  ⟨d, ds, dt_dp _ _ (dt_mono ex _ _ r1), dt_dp _ _ (dt_mono ex _ _ r2), h1, h2, k _ B H (Step.refl ex) (Dt.bl _)⟩
theorem r2_inT {c : Ct} (h1 : SeqAt.shaped d = true) (h2 : SeqAt.shaped (.tuple ds) = true) : R2D c (rInT c.K false) (.d d) (.d (.tuple ds)) (.d (.bool (inD d ds))) := fun B H v w Q ex r1 r2 k =>
  ⟨d, ds, dt_dp _ _ (dt_mono ex _ _ r1), dt_dp _ _ (dt_mono ex _ _ r2), h1, h2, k _ B H (Step.refl ex) (Dt.bl _)⟩
theorem r2_niT {c : Ct} (h1 : SeqAt.shaped d = true) (h2 : SeqAt.shaped (.tuple ds) = true) : R2D c (rInT c.K true) (.d d) (.d (.tuple ds)) (.d (.bool (!inD d ds))) := fun B H v w Q ex r1 r2 k =>
  ⟨d, ds, dt_dp _ _ (dt_mono ex _ _ r1), dt_dp _ _ (dt_mono ex _ _ r2), h1, h2, k _ B H (Step.refl ex) (Dt.bl _)⟩
theorem et_inL {n : Nat} {k : Bool} (hr : Room n X.A) (h1 : SeqAt.shaped d = true) (h2 : SeqAt.shaped (.list ds) = true) (hk : inD d ds = k) (ha : Ev C X a ρ (.d d)) (hb : Ev C X b ρ (.d (.list ds))) (hm : behindInMarks .In b = false := by rfl) : EvT C X (.Compare a [.In] [b] pos) ρ k := hk ▸ et_cmp (op_inD (room65 hr)) (r2_inL h1 h2) ha hb hm
theorem ev_inL {n : Nat} {k : Bool} (hr : Room n X.A) (h1 : SeqAt.shaped d = true) (h2 : SeqAt.shaped (.list ds) = true) (hk : inD d ds = k) (ha : Ev C X a ρ (.d d)) (hb : Ev C X b ρ (.d (.list ds))) (hm : behindInMarks .In b = false := by rfl) : Ev C X (.Compare a [.In] [b] pos) ρ (.d (.bool k)) := hk ▸ ev_cmp (op_inD (room65 hr)) (r2_inL h1 h2) ha hb hm
theorem et_niL {n : Nat} {k : Bool} (hr : Room n X.A) (h1 : SeqAt.shaped d = true) (h2 : SeqAt.shaped (.list ds) = true) (hk : (!inD d ds) = k) (ha : Ev C X a ρ (.d d)) (hb : Ev C X b ρ (.d (.list ds))) (hm : behindInMarks .NotIn b = false := by rfl) : EvT C X (.Compare a [.NotIn] [b] pos) ρ k := hk ▸ et_cmp (op_notInD (room65 hr)) (r2_niL h1 h2) ha hb hm
theorem et_inT {n : Nat} {k : Bool} (hr : Room n X.A) (h1 : SeqAt.shaped d = true) (h2 : SeqAt.shaped (.tuple ds) = true) (hk : inD d ds = k) (ha : Ev C X a ρ (.d d)) (hb : Ev C X b ρ (.d (.tuple ds))) (hm : behindInMarks .In b = false := by rfl) : EvT C X (.Compare a [.In] [b] pos) ρ k := hk ▸ et_cmp (op_inT hr) (r2_inT h1 h2) ha hb hm
theorem et_niT {n : Nat} {k : Bool} (hr : Room n X.A) (h1 : SeqAt.shaped d = true) (h2 : SeqAt.shaped (.tuple ds) = true) (hk : (!inD d ds) = k) (ha : Ev C X a ρ (.d d)) (hb : Ev C X b ρ (.d (.tuple ds))) (hm : behindInMarks .NotIn b = false := by rfl) : EvT C X (.Compare a [.NotIn] [b] pos) ρ k := hk ▸ et_cmp (op_niT hr) (r2_niT h1 h2) ha hb hm

/-! ### methods of a tuple, of a list: count, index -/
def tTM (K : PySem.W.Frag) (r : V → List V → Hp → VK → Prop) (to : TE) (t : TA) : TE := fun σ H Q => to σ H fun x H1 => (∃ a xs, x = .ref a ∧ TupAt H1 a xs) ∧ t σ H1 fun xs H2 => r x xs H2 Q
theorem pe_tm {o : Expr} {to : TE} {t : TA} {name : Str} {apos cpos : Pos} {id : String} {r : V → List V → Hp → VK → Prop} (slot : Slot "tuple" name id) (hty : typeOf (.builtin id) = pure (.type "method_descriptor")) (hm : MtR X id r) (ho : PE X o to) (ha : PA X (e :: es) t)
    (hbase : attributeBase o name X.env (eval o X.env) = eval o X.env := by rfl)
    (hfew : ((backTo cpos (starEach (e :: es) X.env)).all (fun x => !x.1) && (backToKw cpos (keywordEach [] X.env)).all (fun x => x.1.isSome) && decide ((e :: es).length + ([] : List Keyword).length + (if ([] : List Keyword).isEmpty then 0 else 1) < 30)) = true := by rfl)
    (hline : (apos.endLine == cpos.line) = true := by rfl) (hs : starEach (e :: es) X.env = (false, eval e X.env) :: starEach es X.env := by rfl) (hplain : (backTo cpos (starEach es X.env)).any (·.1) = false := by rfl) : PE X (.Call (.Attribute o name apos) (e :: es) [] cpos) (tTM X.K r to t) where
  run := fun pins s σ H Q I h => by
    refine wpAny_Call_method_late hbase hfew hline rfl (thn (ho.run pins s σ H _ I h) ?_)
    rintro v s1 ⟨x, H1, I1, r1, ⟨a, xs, rfl, o', ho', hd⟩, q⟩
    cases r1
    obtain ⟨hob, _, its, _, tt⟩ := (show ObjOk X.prog X.w H1 s1.heap a (.frz o' (.tup xs)) from I1.hok a _ ho')
    refine ⟨"tuple", id, PySem.F.plainAttrs_tuple, slot, hty, tt.typeIs, fun b eb => ?_, ?_⟩
    · cases eb
      exact ⟨o', hob, hd⟩
    · have run := ha.run cpos pins s1 σ H1 _ I1 q
      rw [hs] at run ⊢
      exact Calls.callWith_builtin (by show (false || (backTo cpos (starEach es X.env)).any (·.1)) = false; rw [hplain]; rfl) (Calls.evalArgs_plain (thn run fun us s2 ⟨vs, H2, I2, r2, q2⟩ => hm pins s2 σ H2 (.ref a) vs (.ref a) us Q I2 rfl r2 q2))
def countD (d : D) (ds : List D) : Nat := ds.countP fun y => PyData.eqv y d
theorem mt_countT {n : Nat} (hr : Room n X.A) : MtR X "tuple.count" (fun x xs H Q => ∃ y d ds, xs = [y] ∧ Dp X.K H x (.tuple ds) ∧ Dp X.K H y d ∧ PyData.plainAll ds = true ∧ d.plain = true ∧ d.depth ≤ 60 ∧ Q (.int (countD d ds : Nat)) H) := fun pins s σ H x xs v us Q I rx rs ⟨y, d, ds, ex, hx, hy, p1, p2, hdep, q⟩ => by
  subst ex
  cases rs with
  | cons r1 r2 =>
    cases r2
    obtain ⟨bs, rd⟩ := Dp.reads I d y _ hy r1
    cases hx with
    | tup hs ha =>
      cases rx
      obtain ⟨its, rv, pl, _⟩ := I.tuple hs
      obtain ⟨as, rds⟩ := Dp.readsAll I ds _ its ha rv
      exact SeqAt.count_tuple_data pl (xs := ds) (as := as) rds rd p1 p2 (by
        have := hr.un
        have h2 := Nat.min_le_right (PyData.depthAll ds) d.depth
        omega) ⟨.int _, H, I.tok _, ⟨_, rfl⟩, q⟩
theorem ev_countT {o : Expr} {apos : Pos} {n : Nat} (hr : Room n X.A) (ho : Ev C X o ρ (.d (.tuple ds))) (he : Ev C X e ρ (.d d)) (p1 : PyData.plainAll ds = true) (p2 : d.plain = true) (p3 : d.depth ≤ 60)
    (hb : PE X (.Call (.Attribute o "count" apos) [e] [] pos) (tTM X.K (fun x xs H Q => ∃ y d ds, xs = [y] ∧ Dp X.K H x (.tuple ds) ∧ Dp X.K H y d ∧ PyData.plainAll ds = true ∧ d.plain = true ∧ d.depth ≤ 60 ∧ Q (.int (countD d ds : Nat)) H) (tD (ct X C) ρ (.d (.tuple ds))) (tCons (tD (ct X C) ρ (.d d)) tNil))) :
    Ev C X (.Call (.Attribute o "count" apos) [e] [] pos) ρ (.d (.int (countD d ds : Nat))) := pe_weak hb fun σ H Q ⟨H0, B, ex, en, q⟩ => ⟨H0, B, ex, en, fun v B1 H1 s1 r1 => by
  refine ⟨?_, H0, B1, s1.t, en.step s1, fun w B2 H2 s2 r2 => ⟨w, d, ds, rfl, dt_dp _ _ (dt_mono (s2.b.trans s2.t) _ _ r1), dt_dp _ _ (dt_mono s2.t _ _ r2), p1, p2, p3, q _ B2 H2 (s1.trans s2) (Dt.int _)⟩⟩
  cases r1 with
  | tup ha hd => exact ⟨_, _, rfl, ha.mono s1.t⟩⟩
end
end DL
set_option maxRecDepth 100000
set_option maxHeartbeats 4000000
/-! the data layer, 8: slices -/
namespace HT
open PySem PySem.Spec PyProof.Rows
section
variable {prog : Program} {w : World} {A : Around} {E : Value → Shared → Prop} {s : Shared}
theorem adj_back (n : Nat) : Builtin.Slice.sliceAdjust none none (-1) (n : Int) = ((n : Int) - 1, -1) := by
  unfold Builtin.Slice.sliceAdjust
  first
    | rfl
    | simp
theorem places_back (n : Nat) : Builtin.Slice.slicePlaces ((n : Int) - 1) (-1) (-1) = n := by
  unfold Builtin.Slice.slicePlaces
  have h1 : ¬ ((-1 : Int) > 0) := by omega
  simp only [h1, if_false]
  split
  · simp only [show (- -1 : Int) = 1 by decide, Int.ediv_one]
    omega
  · omega
theorem applied_back {sl : Addr} {vl vu vk : Value} {n : Nat} {Q : Int × Int × Nat → Shared → Prop} (hs : s.heap.IsSliceOf sl vl vu vk) (pl : IsPart vl none) (pu : IsPart vu none) (pk : IsPart vk (some (-1)))
    (h : Q ((n : Int) - 1, -1, n) s) : wpAny (model prog w) A (Builtin.Slice.sliceApplied (.ref sl) (pure (n : Int))) Q E s := by
  obtain ⟨os, hos, hcs, hds⟩ := id hs
  unfold Builtin.Slice.sliceApplied Builtin.Slice.sliceFields
  refine wpAny_bind (wpAny_bind (wpAny_field hos hds (x := vl) rfl (wpAny_bind (wpAny_field hos hds (x := vu) rfl (wpAny_bind (wpAny_field hos hds (x := vk) rfl (wpAny_pure ?_)))))))
  refine wpAny_bind (slicePart_ pk ?_)
  show wpAny _ _ (if ((-1 : Int) == 0) = true then _ else _) _ _ s
  rw [if_neg (by decide)]
  refine wpAny_bind (slicePart_ pl (wpAny_bind (slicePart_ pu (wpAny_bind (wpAny_pure ?_)))))
  show wpAny _ _ (match Builtin.Slice.sliceAdjust none none (-1) (n : Int) with | (lo, hi) => pure (lo, (-1 : Int), Builtin.Slice.slicePlaces lo hi (-1))) _ _ s
  rw [adj_back]
  show wpAny _ _ (pure ((n : Int) - 1, (-1 : Int), Builtin.Slice.slicePlaces ((n : Int) - 1) (-1) (-1))) _ _ s
  rw [places_back]
  exact wpAny_pure h
theorem fmap_some {α β : Type} {f : α → Option β} {g : α → β} : ∀ {l : List α}, (∀ m ∈ l, f m = some (g m)) → l.filterMap f = l.map g
  | [], _ => rfl
  | a :: l, h => by
    rw [List.filterMap_cons_some (h a List.mem_cons_self), List.map_cons, fmap_some fun m hm => h m (List.mem_cons_of_mem _ hm)]
theorem pick_back (xs : Array Value) : ((List.range xs.size).filterMap fun (m : Nat) => xs[((xs.size : Int) - 1 + (m : Int) * (-1)).toNat]?).toArray = xs.toList.reverse.toArray := by
  congr 1
  apply List.ext_getElem?
  intro i
  have e : (List.range xs.size).filterMap (fun (m : Nat) => xs[((xs.size : Int) - 1 + (m : Int) * (-1)).toNat]?) = (List.range xs.size).map (fun m => (xs.toList.reverse)[m]?.getD .none) := by
    apply fmap_some
    intro m hm
    rw [List.mem_range] at hm
    have e1 : ((xs.size : Int) - 1 + (m : Int) * (-1)).toNat = xs.size - 1 - m := by omega
    rw [e1, List.getElem?_reverse (by rw [Array.length_toList]; exact hm), Array.length_toList, Array.getElem?_toList, Array.getElem?_eq_getElem (by omega)] <;> rfl
  rw [e, List.getElem?_map]
  by_cases hi : i < xs.size
  · rw [List.getElem?_range hi]
    have : i < xs.toList.reverse.length := by rw [List.length_reverse, Array.length_toList]; exact hi
    rw [List.getElem?_eq_getElem this]
    simp [List.getElem?_eq_getElem this]
  · rw [List.getElem?_eq_none (by rw [List.length_range]; omega), List.getElem?_eq_none (by rw [List.length_reverse, Array.length_toList]; omega)]
    rfl
theorem getItem_tuple_back {t sl : Addr} {items : Array Value} {vl vu vk : Value} {Q : Value → Shared → Prop} (ht : IsTup s.heap t items) (hs : s.heap.IsSliceOf sl vl vu vk) (pl : IsPart vl none) (pu : IsPart vu none) (pk : IsPart vk (some (-1)))
    (h : Q (.ref s.heap.objs.size) { s with heap := s.heap.push { cls := .type "tuple", data := .seq items.toList.reverse.toArray } }) (hsz : items.size ≤ sizeLine) : wpAny (model prog w) A (getItem (.ref t) (.ref sl)) Q E s := by
  have hrev : sizeOk (.seq items.toList.reverse.toArray) := by
    show items.toList.reverse.toArray.size ≤ sizeLine
    rw [List.size_toArray, List.length_reverse, Array.length_toList]
    omega
  obtain ⟨os, hos, hcs, hds⟩ := id hs
  have hTs : s.TypeIs (.ref sl) "slice" := ⟨os, hos, hcs⟩
  unfold getItem
  try with_reducible refine wpAny_holding ?_
  first | refine wpAny_bind (wpAny_pure ?_) | skip
  refine wpAny_bind (wpAny_sequenceKey ht.typeIs (by decide) ?_)
  refine wpAny_bind (wpAny_callSpecial?_slot (name := Str.ofString "__getitem__") ht.typeIs PyProof.Rows.slot_tuple_getitem (wpAny_call_entry PyProof.Rows.slot_tuple_getitem ht.typeIs entry_tuple_getitem ?_ (args_tuple_getitem _ _)))
  show wpAny _ _ (Builtin.Tuple.tupleItemsOf (.ref t) >>= _) _ _ s
  refine wpAny_bind (tupleItemsOf_ ht ?_)
  refine wpAny_bind (wpAny_typeOf hTs ?_)
  rw [if_pos (by decide)]
  refine wpAny_bind (applied_back hs pl pu pk ?_)
  have hno : ¬ (((((items.size : Nat) : Int) - 1) == 0 && (-1 : Int) == 1 && items.size == items.size) = true) := by
    intro q
    rw [Bool.and_eq_true, Bool.and_eq_true] at q
    exact absurd (eq_of_beq q.1.2) (by decide)
  show wpAny _ _ (if ((((items.size : Nat) : Int) - 1) == 0 && (-1 : Int) == 1 && items.size == items.size) = true then _ else _) _ _ s
  rw [if_neg hno, pick_back]
  first
    | exact wpAny_bind (m := Builtin.Tuple.tupleExact _) (wpAny_newObj_type (wpAny_pure ⟨_, rfl, wpAny_pure h⟩) hrev)
    | exact wpAny_bind (m := Builtin.Tuple.tupleExact _) (wpAny_newObj_type (wpAny_bind (wpAny_pure (wpAny_pure ⟨_, rfl, wpAny_pure h⟩))) hrev)
    | exact wpAny_bind (wpAny_bind (m := Builtin.Tuple.tupleExact _) (wpAny_newObj_type (wpAny_pure (wpAny_pure ⟨_, rfl, wpAny_pure h⟩)) hrev))
    | exact wpAny_bind (wpAny_bind (m := Builtin.Tuple.tupleExact _) (wpAny_newObj_type (wpAny_pure ⟨_, rfl, wpAny_pure h⟩) hrev))
end
end HT
namespace DL
open PySem PySem.Spec PyProof.Rows L2 SlX

def tDO (c : Ct) (ρ : List Sl) (o : Option Int) : TO := fun σ H Q => ∃ H0 B, Ex B H ∧ EnvOk c H0 B H σ ρ ∧ ∀ B' H', Step B H B' H' → Q o H'
/-- a part of a slice -/
def EvO (C : Addr) (X : Cx) (e : Option Expr) (ρ : List Sl) (o : Option Int) : Prop := PO X e (tDO (ct X C) ρ o)
/-- xs[lo:hi] -/
def cutD {α : Type} (ds : List α) (lo hi : Option Int) : List α := (ds.drop (HT.sIx ds.length 0 lo)).take (HT.sIx ds.length ds.length hi - HT.sIx ds.length 0 lo)
section
variable {C : Addr} {X : Cx} {e : Expr} {lo hi : Option Expr} {ρ : List Sl} {p2 pos : Pos} {ds : List D} {o u : Option Int}
theorem po_weak {t t' : TO} {e : Option Expr} (h : PO X e t) (k : ∀ σ H Q, t' σ H Q → t σ H Q) : PO X e t' := ⟨fun pins s σ H Q I q => h.run pins s σ H Q I (k σ H Q q)⟩
theorem eo_none : EvO C X none ρ none := po_weak po_none fun σ H Q ⟨H0, B, ex, en, k⟩ => k B H (Step.refl ex)
theorem eo_some {i : Int} (h : Ev C X e ρ (.d (.int i))) : EvO C X (some e) ρ (some i) := po_weak (po_some h) fun σ H Q ⟨H0, B, ex, en, k⟩ => ⟨H0, B, ex, en, fun v B' H' st r => by
  cases r
  exact ⟨i, rfl, k B' H' st⟩⟩
theorem dtall_cut {B : Hp} {xs : List V} (h : DtAll B xs ds) : DtAll B (cutV xs o u) (cutD ds o u) := by
  unfold cutV cutD
  rw [dtall_len h]
  exact dtall_take _ (dtall_drop _ h)
theorem sl3 {r : V → Option Int → Option Int → Hp → VK → Prop} {x y : DV} (hr : SlR X r) (he : Ev C X e ρ x) (hl : EvO C X lo ρ o) (hh : EvO C X hi ρ u)
    (k : ∀ (B H : Hp) (v : V) (Q : VK), Ex B H → Rp (ct X C) B v x → (∀ v B' H', Step B H B' H' → Rp (ct X C) B' v y → Q v H') → r v o u H Q) : Ev C X (.Subscript e (.Slice lo hi none p2) pos) ρ y :=
  pe_weak (pe_slice hr he hl hh) fun σ H Q ⟨H0, B, ex, en, q⟩ => ⟨H0, B, ex, en, fun v B1 H1 s1 r1 => ⟨H0, B1, s1.t, en.step s1, fun B2 H2 s2 => ⟨H0, B2, s2.t, (en.step s1).step s2, fun B3 H3 s3 =>
    k B3 H3 v Q s3.t (rp_mono (s2.b.trans s3.b) r1) fun v B' H' st r => q v B' H' (((s1.trans s2).trans s3).trans st) r⟩⟩⟩
def rSlF (K : PySem.W.Frag) : V → Option Int → Option Int → Hp → VK → Prop := fun x lo hi H Q => ∃ a xs, x = .ref a ∧ SqT K H a xs ∧ (cutV xs lo hi = xs → Q (.ref a) H) ∧ ∀ p o, H p = none → o.dict = none → Q (.ref p) (upd H p (.frz o (.tup (cutV xs lo hi))))
theorem sl_tupF : SlR X (rSlF X.K) := fun pins s σ H x v vl vu lo hi sl Q I rx hs pl pu ⟨a, xs, ex, hx, q1, q2⟩ => by
  subst ex
  cases rx
  obtain ⟨its, r, ht, hz⟩ := I.tuple hx
  have hlen : its.toArray.size = xs.length := by rw [List.size_toArray]; exact r.length.symm
  refine ⟨"tuple", _, PyProof.Rows.slot_tuple_getitem.lookup, ht.typeIs, ?_⟩
  by_cases hw : HT.sIx xs.length 0 lo = 0 ∧ HT.sIx xs.length xs.length hi = xs.length
  · refine getItem_tuple_whole ht hs pl pu (by rw [hlen]; exact hw) ⟨.ref a, H, I, rfl, q1 ?_⟩
    unfold cutV
    rw [hw.1, hw.2, Nat.sub_zero, List.drop_zero, List.take_length]
  · refine HT.getItem_tuple_cut ht hs pl pu (by rw [hlen]; exact hw) ?_ (by rw [hlen]; exact hz)
    rw [hlen]
    exact laidF I ((r.drop (HT.sIx xs.length 0 lo)).take (HT.sIx xs.length xs.length hi - HT.sIx xs.length 0 lo)) (Nat.le_trans (cutV_length xs lo hi) hz) q2
/-- t[lo:hi] -/
theorem ev_sl_tup (he : Ev C X e ρ (.d (.tuple ds))) (hl : EvO C X lo ρ o) (hh : EvO C X hi ρ u) : Ev C X (.Subscript e (.Slice lo hi none p2) pos) ρ (.d (.tuple (cutD ds o u))) :=
  sl3 sl_tupF he hl hh fun B H v Q ex r q => by
    cases r with
    | @tup a xs _ ha hd =>
      refine ⟨a, xs, rfl, (ha.mono ex).sq, fun e1 => ?_, fun p o hp ho => Step.tup ex hp ho (dtall_cut hd) q⟩
      have hd2 := dtall_cut (o := o) (u := u) hd
      rw [e1] at hd2
      exact q _ B H (Step.refl ex) (.tup ha hd2)
/-- xs[lo:hi] of a list: a new one -/
theorem ef_sl_list (he : Ev C X e ρ (.d (.list ds))) (hl : EvO C X lo ρ o) (hh : EvO C X hi ρ u) : EvF C X (.Subscript e (.Slice lo hi none p2) pos) ρ (cutD ds o u) :=
  pe_weak (pe_slice sl_list he hl hh) fun σ H Q ⟨H0, B, ex, en, q⟩ => ⟨H0, B, ex, en, fun v B1 H1 s1 r1 => ⟨H0, B1, s1.t, en.step s1, fun B2 H2 s2 => ⟨H0, B2, s2.t, (en.step s1).step s2, fun B3 H3 s3 => by
    have s13 := (s1.trans s2).trans s3
    cases r1 with
    | @lst a xs _ ha hd =>
      refine ⟨a, xs, rfl, sl_of (s3.t _ _ ((s2.b.trans s3.b) _ _ ha)), fun l hl => ?_⟩
      have st := Step.aside (o := .lst (cutV xs o u)) s3.t hl
      exact q l _ B3 _ (s13.trans st) ((Step.ex ex s13).free hl) (s3.t.free hl) upd_same (dtall_cut (dtall_mono (s2.b.trans s3.b) _ _ hd))⟩⟩⟩
theorem ev_sl_str {z : Str} (hz : z.length ≤ sizeLine) (he : Ev C X e ρ (.d (.str z))) (hl : EvO C X lo ρ o) (hh : EvO C X hi ρ u) : Ev C X (.Subscript e (.Slice lo hi none p2) pos) ρ (.d (.str (cutS z o u))) :=
  sl3 sl_str he hl hh fun B H v Q ex r q => by
    cases r
    exact ⟨z, rfl, hz, q _ B H (Step.refl ex) (Dt.str _)⟩
/-- t[::-1] -/
def tRevF (K : PySem.W.Frag) (te : TE) : TE := fun σ H Q => te σ H fun x H1 => ∃ a xs, x = .ref a ∧ SqT K H1 a xs ∧ ∀ p o, H1 p = none → o.dict = none → Q (.ref p) (upd H1 p (.frz o (.tup xs.reverse)))
theorem pe_revF {te : TE} {k : Nat} {p1 p3 : Pos} (he : PE X e te) : PE X (.Subscript e (.Slice none none (some (.UnaryOp .USub (.Constant (.int 1) k p1) p2)) p3) pos) (tRevF X.K te) := by
  refine ⟨fun pins s σ H Q I h => ?_⟩
  refine Subscript_ (thn (he.run pins s σ H _ I h) fun v s1 ⟨x, H1, I1, r1, a, xs, ex, hx, q⟩ => ?_)
  subst ex
  cases r1
  have hst : PO X (some (.UnaryOp .USub (.Constant (.int 1) k p1) p2)) (tPart (tUn (rU fun i => .int (-i)) (tC (.int 1)))) := po_some (pe_un un_neg pe_int)
  refine wpAny_Slice (thn (po_none.run pins s1 σ H1 (fun o H2 => o = none ∧ H2 = H1) I1 ⟨rfl, rfl⟩) fun vl s2 ⟨l, H2, I2, pl, el, e2⟩ => ?_)
  subst el e2
  refine thn (po_none.run pins s2 σ H2 (fun o H3 => o = none ∧ H3 = H2) I2 ⟨rfl, rfl⟩) fun vu s3 ⟨u, H3, I3, pu, eu, e3⟩ => ?_
  subst eu e3
  refine thn (hst.run pins s3 σ H3 (fun o H4 => o = some (-1) ∧ H4 = H3) I3 ⟨1, rfl, -1, rfl, rfl, rfl⟩) fun vs s4 ⟨o, H4, I4, ps, eo, e4⟩ => ?_
  subst eo e4
  have I5 : Inv X pins σ H4 { s4 with heap := s4.heap.push { cls := .type "slice", data := .fields #[vl, vu, vs] } } := I4.kept (t' := s4.toks) fun b ob q => Heap.get?_push_of_some _ q
  obtain ⟨its, r, ht, hz⟩ := I5.tuple hx
  have hlen := r.length
  refine tail_any (ops := [.ref a, .ref s4.heap.objs.size]) ht.typeIs PyProof.Rows.slot_tuple_getitem.lookup ?_ (by with_unfolding_all rfl)
  refine HT.getItem_tuple_back ht (Heap.IsSliceOf.new _ vl vu vs) pl pu ps ?_ (by rw [List.size_toArray]; omega)
  exact laidF I5 r.reverse (by rw [List.length_reverse]; exact hz) q
theorem ev_rev_tup {k : Nat} {p1 p3 : Pos} (he : Ev C X e ρ (.d (.tuple ds))) : Ev C X (.Subscript e (.Slice none none (some (.UnaryOp .USub (.Constant (.int 1) k p1) p2)) p3) pos) ρ (.d (.tuple ds.reverse)) :=
  pe_weak (pe_revF he) fun σ H Q ⟨H0, B, ex, en, q⟩ => ⟨H0, B, ex, en, fun v B1 H1 s1 r1 => by
    cases r1 with
    | @tup a xs _ ha hd => exact ⟨a, xs, rfl, (ha.mono s1.t).sq, fun p o hp ho => Step.tup s1.t hp ho (dtall_reverse hd) fun v B' H' st r => q v B' H' (s1.trans st) r⟩⟩
end
end DL
set_option maxRecDepth 100000
set_option maxHeartbeats 4000000
/-! the data layer, 9: own lists as data, pop, index, texts -/
namespace DL
open PySem PySem.Spec PyProof.Rows L2 SlX

section
variable {C : Addr} {X : Cx} {e a b : Expr} {es : List Expr} {ss : List Stmt} {ρ : List Sl} {pos p p2 p3 : Pos} {d : D} {ds xs : List D} {Φ : Out → Prop}
/-! ### a list of one's own, read as data for a moment -/
theorem EnvOk.fixE {c : Ct} {H0 B H : Hp} {σ : L2.St} {i : Nat} (e : EnvOk c H0 B H σ ρ) (ex : Ex B H) (h : ρ[i]? = some (.ml xs)) : ∃ a vs, B a = none ∧ H a = some (.lst vs) ∧ DtAll B vs xs ∧ (σ[i]?).join = some (.ref a) ∧ Ex (upd B a (.lst vs)) H ∧ EnvOk c H0 (upd B a (.lst vs)) H σ (ρ.set i (.i (.d (.list xs)))) := by
  obtain ⟨a, vs, ea, h1, h2, h3, h4⟩ := e.at_ i _ h
  refine ⟨a, vs, h1, h3, h4, ea, fun x o q => ?_, by rw [List.length_set]; exact e.len, fun j s hj => ?_, fun j l s t b hjl hs ht ms mt q1 q2 => ?_⟩
  · by_cases hx : x = a
    · subst hx
      rw [upd_same] at q
      rw [h3]
      exact q
    · rw [upd_ne hx] at q
      exact ex x o q
  · rw [List.getElem?_set] at hj
    by_cases hij : i = j
    · subst hij
      rw [if_pos rfl] at hj
      by_cases hl : i < ρ.length
      · rw [if_pos hl] at hj
        cases hj
        exact ⟨.ref a, ea, .lst upd_same (dtall_mono (Ex.new h1) _ _ h4)⟩
      · rw [if_neg hl] at hj
        cases hj
    · rw [if_neg hij] at hj
      have q := e.at_ j s hj
      have up : ∀ b, b ≠ a → (upd B a (.lst vs)) b = B b := fun b hb => upd_ne hb
      cases s with
      | no => exact True.intro
      | i x =>
        obtain ⟨v, e1, r⟩ := q
        exact ⟨v, e1, rp_mono (Ex.new h1) r⟩
      | ml ys =>
        obtain ⟨b, ws, e1, g1, g2, g3, g4⟩ := q
        have hb : b ≠ a := fun z => e.dis i j _ _ a hij h hj rfl rfl ea (by rw [e1, z])
        exact ⟨b, ws, e1, by rw [up b hb]; exact g1, g2, g3, dtall_mono (Ex.new h1) _ _ g4⟩
      | mk ys =>
        obtain ⟨b, ws, e1, g1, g2, g3, g4⟩ := q
        have hb : b ≠ a := fun z => e.dis i j _ _ a hij h hj rfl rfl ea (by rw [e1, z])
        exact ⟨b, ws, e1, by rw [up b hb]; exact g1, g2, g3, Paired.mapP g4 fun p q r => ⟨r.1, dt_mono (Ex.new h1) _ _ r.2⟩⟩
      | mn ys =>
        obtain ⟨b, ws, e1, g1, g2, g3, g4⟩ := q
        have hb : b ≠ a := fun z => e.dis i j _ _ a hij h hj rfl rfl ea (by rw [e1, z])
        exact ⟨b, ws, e1, by rw [up b hb]; exact g1, g2, g3, Paired.mapP g4 fun p q r => ⟨r.1, dt_mono (Ex.new h1) _ _ r.2.1, dt_mono (Ex.new h1) _ _ r.2.2⟩⟩
  · have key : ∀ (j : Nat) (t : Sl), (ρ.set i (.i (.d (.list xs))))[j]? = some t → t.mut = true → ρ[j]? = some t := fun j t h m => by
      rw [List.getElem?_set] at h
      by_cases hij : i = j
      · rw [if_pos hij] at h
        by_cases hl : i < ρ.length
        · rw [if_pos hl] at h
          cases h
          cases m
        · rw [if_neg hl] at h
          cases h
      · rw [if_neg hij] at h
        exact h
    exact e.dis j l s t b hjl (key j s hs ms) (key l t ht mt) ms mt q1 q2
theorem Step.unfix {B H B' H' : Hp} {a : Addr} {o : HO} (hb : B a = none) (hh : H a = some o) (ex : Ex B H) (st : Step (upd B a o) H B' H') : Step B H B H' :=
  ⟨Ex.refl B, fun x u q => st.t x u (st.b x u (by rw [upd_ne (fun z => by rw [z, hb] at q; cases q)]; exact q)), fun x u q z => by
    refine ⟨q, ?_⟩
    by_cases hx : x = a
    · subst hx
      rw [hh] at z
      cases z
      exact st.t x _ (st.b x _ upd_same)
    · exact (st.f x u (by rw [upd_ne hx]; exact q) z).2⟩
/-- no address in it -/
def Flat : DV → Prop
  | .d .none => True
  | .d (.bool _) => True
  | .d (.int _) => True
  | .d (.str _) => True
  | _ => False
theorem Flat.any {c : Ct} {B B' : Hp} {v : V} : ∀ {x : DV}, Flat x → Rp c B v x → Rp c B' v x
  | .d .none, _, r => by cases r; exact Dt.non
  | .d (.bool _), _, r => by cases r; exact Dt.bl _
  | .d (.int _), _, r => by cases r; exact Dt.int _
  | .d (.str _), _, r => by cases r; exact Dt.str _
  | .d (.list _), h, _ => h.elim
  | .d (.tuple _), h, _ => h.elim
  | .d (.dict _), h, _ => h.elim
  | .ob _, h, _ => h.elim
  | .dk _, h, _ => h.elim
  | .dn _, h, _ => h.elim
  | .dnk _, h, _ => h.elim
  | .scr _, h, _ => h.elim
  | .at _, h, _ => h.elim
theorem ev_frz (i : Nat) {x : DV} (h : ρ[i]? = some (.ml xs)) (he : Ev C X e (ρ.set i (.i (.d (.list xs)))) x) (hx : Flat x := by exact True.intro) : Ev C X e ρ x := pe_weak he fun σ H Q ⟨H0, B, ex, en, k⟩ => by
  obtain ⟨a, vs, h1, h3, h4, ea, ex2, en2⟩ := en.fixE ex h
  exact ⟨H0, _, ex2, en2, fun v B' H' st r => k v B H' (st.unfix h1 h3 ex) (hx.any r)⟩
theorem et_frz (i : Nat) {k : Bool} (h : ρ[i]? = some (.ml xs)) (he : EvT C X e (ρ.set i (.i (.d (.list xs)))) k) : EvT C X e ρ k := pt_weak he fun σ H Q ⟨H0, B, ex, en, q⟩ => by
  obtain ⟨a, vs, h1, h3, h4, ea, ex2, en2⟩ := en.fixE ex h
  exact ⟨H0, _, ex2, en2, fun B' H' st => q B H' (st.unfix h1 h3 ex)⟩
/-- a slot by its value -/
theorem EnvOk.val {c : Ct} {H0 B H : Hp} {σ : L2.St} {i : Nat} {v : V} (ea : (σ[i]?).join = some v) : σ[i]? = some (some v) := by
  cases q : σ[i]? with
  | none =>
    rw [q] at ea
    cases ea
  | some o =>
    rw [q] at ea
    exact congrArg some ea
/-- own list + list: a new one -/
theorem ef_catM (i : Nat) {n : Str} (h : ρ[i]? = some (.ml ds)) (hz : ds.length + xs.length ≤ sizeLine) (hb : Ev C X b ρ (.d (.list xs))) (hN : X.N[i]? = some n := by rfl) (hv : Vis X.env.scope n := by first | exact Or.inl rfl | exact Or.inr (Or.inl rfl) | exact Or.inr (Or.inr rfl)) (hd : (n == ("__debug__" : Str)) = false := by decide)
    (hcd : (n == ("__classdict__" : Str)) = false := by decide) : EvF C X (.BinOp (.Name n p) .Add b pos) ρ (ds ++ xs) :=
  pe_weak (pe_op op_cat (pe_var hN hv hd hcd) hb) fun σ H Q ⟨H0, B, ex, en, q⟩ => by
    obtain ⟨a, vs, ea, h1, h2, h3, h4⟩ := en.at_ i _ h
    refine ⟨.ref a, EnvOk.val (c := ct X C) (H0 := H0) (B := B) (H := H) ea, H0, B, ex, en, fun w B2 H2 s2 r2 => ?_⟩
    cases r2 with
    | @lst p2 ys _ h22 a2 =>
      refine ⟨a, p2, vs, ys, rfl, rfl, (s2.f a _ h1 h3).2, s2.t _ _ h22, by rw [dtall_len h4, dtall_len a2]; exact hz, fun l hl => ?_⟩
      have st := Step.aside (o := .lst (vs ++ ys)) s2.t hl
      exact q l _ _ _ (s2.trans st) ((Step.ex ex s2).free hl) (s2.t.free hl) upd_same (dtall_append (dtall_mono s2.b _ _ h4) a2)
/-! ### x = l.pop() -/
theorem sts_pop (i j : Nat) {n m : Str} {pn p1 : Pos} (h : ρ[j]? = some (.ml (xs ++ [d]))) (hij : i ≠ j) (k : Sts C X ss ((ρ.set j (.ml xs)).set i (.i (.d d))) Φ) (hN : X.N.Nodup)
    (hp : PE X (.Call (.Attribute (.Name m p1) "pop" p2) [] [] p3) (tBM0 X.K "list" rPop (tVar j)))
    (hi : X.N[i]? = some n := by rfl) (hx : Loc X.env.scope n := by first | exact Or.inl rfl | exact Or.inr rfl) (hs : swapsWith (.Call (.Attribute (.Name m p1) "pop" p2) [] [] p3) (some (.Name n pn)) pos.line X.env = pure false := by rfl)
    (hf : X.fn n = true ∨ X.env.scope.names.lookup n = some .local := by first | exact .inl rfl | exact .inr rfl) : Sts C X (.Assign [.Name n pn] (.Call (.Attribute (.Name m p1) "pop" p2) [] [] p3) pos :: ss) ρ Φ :=
  sts_cons (ps_weak (ps_set hN hi hx hp hs hf) fun D σ H ⟨B0, H0, B, ex, s0, en, k1, _⟩ => by
    obtain ⟨a, vs, ea, h1, h2, h3, h4⟩ := en.at_ j _ h
    have hl := dtall_len h4
    rw [List.length_append, List.length_singleton] at hl
    have hy : vs[vs.length - 1]? = some (vs[vs.length - 1]'(by omega)) := List.getElem?_eq_getElem (by omega)
    obtain ⟨d', hd', rd⟩ := dtall_get h4 hy
    rw [hl, Nat.add_sub_cancel, List.getElem?_append_right (Nat.le_refl _), Nat.sub_self] at hd'
    cases hd'
    have hdr : DtAll B vs.dropLast xs := by
      have := dtall_take (vs.length - 1) h4
      rw [hl, Nat.add_sub_cancel, List.take_left' rfl] at this
      rw [List.dropLast_eq_take, hl, Nat.add_sub_cancel]
      exact this
    refine ⟨.ref a, EnvOk.val (c := ct X C) (H0 := H0) (B := B) (H := H) ea, .inl ⟨rfl, _, .inl (.inl h3)⟩, a, vs, _, rfl, rfl, h3, hy, ?_⟩
    have e1 := en.mutate (s' := .ml xs) h rfl ea ⟨a, _, rfl, h1, h2, upd_same, hdr⟩ rfl
    exact k1 _ B _ _ (s0.mut h1 h2) (Ex.refl B) (e1.set (x := .d d) i rd) k)
theorem pe_popM {j : Nat} {m : Str} {p1 : Pos} (hN : X.N[j]? = some m := by rfl) (hv : Vis X.env.scope m := by first | exact Or.inl rfl | exact Or.inr (Or.inl rfl) | exact Or.inr (Or.inr rfl)) (hd : (m == ("__debug__" : Str)) = false := by decide) (hcd : (m == ("__classdict__" : Str)) = false := by decide)
    (hbase : attributeBase (.Name m p1) "pop" X.env (eval (.Name m p1) X.env) = eval (.Name m p1) X.env := by rfl) (hline : (p2.endLine == p3.line) = true := by rfl) : PE X (.Call (.Attribute (.Name m p1) "pop" p2) [] [] p3) (tBM0 X.K "list" rPop (tVar j)) :=
  pe_bm0 F.plainAttrs_list F.slot_list_pop F.type_list_pop mt_pop (pe_var hN hv hd hcd) hbase hline
/-! ### index -/
theorem mt_indexT {n : Nat} (hr : Room n X.A) : MtR X "tuple.index" (fun x xs H Q => ∃ (a : Addr) (y : V) (d : D) (ds : List D) (j : Nat) (z : D), x = V.ref a ∧ xs = [y] ∧ Dp X.K H (V.ref a) (.tuple ds) ∧ Dp X.K H y d ∧
    SeqAt.shaped (.tuple ds) = true ∧ SeqAt.shaped d = true ∧ ds[j]? = some z ∧ PyData.eqv z d = true ∧ (∀ (m : Nat) (z' : D), m < j → ds[m]? = some z' → PyData.eqv z' d = false) ∧ Q (.int (j : Nat)) H) := fun pins s σ H x xs v us Q I rx rxs h => by
  obtain ⟨a, y, d, ds, j, z, rfl, rfl, hl, hy, sl, sd, hz, hzj, hno, q⟩ := h
  cases rx
  cases rxs with
  | @cons _ uy _ _ ry rt =>
    cases rt
    obtain ⟨bs, r1⟩ := Dp.reads I d y uy hy ry
    have hxs : PyData.canLayAll0 ds = true := SeqAt.canLay_of_shaped sl
    have hroom : X.A.units + 1 + min (PyData.depthAll ds) d.depth < cLine := room_in_shaped sd (room65 hr)
    cases hl with
    | tup hs ha =>
      obtain ⟨its, rv, ⟨⟨cls, dd, data, sls⟩, ho, hc, n, hdt⟩, hlen⟩ := I.tuple hs
      simp only at hc hdt
      subst hc hdt
      obtain ⟨as, h4⟩ := Dp.readsAll I ds _ its ha rv
      have hn : its.length = ds.length := SeqAt.ReadsAll.length ds its as h4
      have hmap : its.map (SeqAt.readOf s.heap) = ds := SeqAt.readsAll_map ds its as hxs h4
      obtain ⟨hjd, _⟩ := List.getElem?_eq_some_iff.mp hz
      have hj : j < its.toArray.size := by rw [List.size_toArray]; omega
      have at_ : ∀ (m : Nat) (hm : m < its.toArray.size) (z' : D), ds[m]? = some z' → SeqAt.readOf s.heap its.toArray[m] = z' := fun m hm z' hz' => by
        have hml : m < its.length := by simpa using hm
        rw [← hmap, List.getElem?_map, List.getElem?_eq_getElem hml] at hz'
        have e1 : SeqAt.readOf s.heap its[m] = z' := Option.some.inj (show some (SeqAt.readOf s.heap its[m]) = some z' from hz')
        simpa using e1
      have heq := SeqAt.items_eqAt (vs := its.toArray) (show ReadsAll s.heap its.toArray.toList ds as from h4) r1 hxs (SeqAt.canLay_of_shaped sd) hroom
      refine call_meets F.slot_tuple_index ⟨_, ho, rfl⟩ F.entry_tuple_index (F.args_tuple_index_2 _ _)
        (SeqAt.tuple_index2_found a its.toArray n dd sls uy (fun m => if hm : m < its.toArray.size then PyData.eqv (SeqAt.readOf s.heap its.toArray[m]) d else false) j hj (Nat.zero_le _) hj ?_ ?_) ⟨ho, fun m hm => ?_, ?_⟩
      · show (if hm : j < its.toArray.size then PyData.eqv (SeqAt.readOf s.heap its.toArray[j]) d else false) = true
        rw [dif_pos hj, at_ j hj z hz]
        exact hzj
      · intro m hm _ hmj
        have hmd : m < ds.length := by omega
        show (if hm : m < its.toArray.size then PyData.eqv (SeqAt.readOf s.heap its.toArray[m]) d else false) = false
        rw [dif_pos hm, at_ m hm _ (List.getElem?_eq_getElem hmd)]
        exact hno m _ hmj (List.getElem?_eq_getElem hmd)
      · show SeqAt.EqAt _ _ _ _ (if hm : m < its.toArray.size then PyData.eqv (SeqAt.readOf s.heap its.toArray[m]) d else false)
        rw [dif_pos hm]
        exact heq _ (Array.getElem_mem hm)
      · exact ⟨.int (j : Nat), H, I.tok _, ⟨_, rfl⟩, q⟩
/-- d stands first at j -/
structure FirstAt (d : D) (ds : List D) (j : Nat) : Prop where
  ex : ∃ z, ds[j]? = some z ∧ PyData.eqv z d = true
  no : ∀ (m : Nat) (z' : D), m < j → ds[m]? = some z' → PyData.eqv z' d = false
theorem ev_indexT {o : Expr} {apos : Pos} {n j : Nat} (hr : Room n X.A) (hj : FirstAt d ds j) (p1 : SeqAt.shaped (.tuple ds) = true) (p2 : SeqAt.shaped d = true) (ho : Ev C X o ρ (.d (.tuple ds))) (he : Ev C X e ρ (.d d))
    (hbase : attributeBase o "index" X.env (eval o X.env) = eval o X.env := by rfl)
    (hfew : ((backTo pos (starEach [e] X.env)).all (fun x => !x.1) && (backToKw pos (keywordEach [] X.env)).all (fun x => x.1.isSome) && decide (([e] : List Expr).length + ([] : List Keyword).length + (if ([] : List Keyword).isEmpty then 0 else 1) < 30)) = true := by rfl)
    (hline : (apos.endLine == pos.line) = true := by rfl) (hs : starEach [e] X.env = (false, eval e X.env) :: starEach [] X.env := by rfl) (hplain : (backTo pos (starEach [] X.env)).any (·.1) = false := by rfl) :
    Ev C X (.Call (.Attribute o "index" apos) [e] [] pos) ρ (.d (.int (j : Nat))) := by
  obtain ⟨⟨z, hz, hzj⟩, hno⟩ := hj
  refine pe_weak (pe_tm F.slot_tuple_index F.type_tuple_index (mt_indexT hr) ho (pa_cons he pa_nil hs) hbase hfew hline hs hplain) fun σ H Q ⟨H0, B, ex, en, q⟩ => ⟨H0, B, ex, en, fun v B1 H1 s1 r1 => ?_⟩
  cases r1 with
  | @tup a xs _ ha hd =>
    exact ⟨⟨_, _, rfl, ha.mono s1.t⟩, H0, B1, s1.t, en.step s1, fun w B2 H2 s2 r2 => ⟨a, w, d, ds, j, z, rfl, rfl, dt_dp _ _ (dt_mono (s2.b.trans s2.t) _ _ (.tup ha hd)), dt_dp _ _ (dt_mono s2.t _ _ r2), p1, p2, hz, hzj, hno, q _ B2 H2 (s1.trans s2) (Dt.int _)⟩⟩
theorem ev_indexL {o : Expr} {apos : Pos} {n j : Nat} (hr : Room n X.A) (hj : FirstAt d ds j) (p1 : SeqAt.shaped (.list ds) = true) (p2 : SeqAt.shaped d = true) (ho : Ev C X o ρ (.d (.list ds))) (he : Ev C X e ρ (.d d))
    (hbase : attributeBase o "index" X.env (eval o X.env) = eval o X.env := by rfl)
    (hfew : ((backTo pos (starEach [e] X.env)).all (fun x => !x.1) && (backToKw pos (keywordEach [] X.env)).all (fun x => x.1.isSome) && decide (([e] : List Expr).length + ([] : List Keyword).length + (if ([] : List Keyword).isEmpty then 0 else 1) < 30)) = true := by rfl)
    (hline : (apos.endLine == pos.line) = true := by rfl) (hs : starEach [e] X.env = (false, eval e X.env) :: starEach [] X.env := by rfl) (hplain : (backTo pos (starEach [] X.env)).any (·.1) = false := by rfl) :
    Ev C X (.Call (.Attribute o "index" apos) [e] [] pos) ρ (.d (.int (j : Nat))) := by
  obtain ⟨⟨z, hz, hzj⟩, hno⟩ := hj
  refine pe_weak (pe_bm F.plainAttrs_list F.slot_list_index F.type_list_index (mt_indexD (room65 hr)) ho (pa_cons he pa_nil hs) hbase hfew hline hs hplain) fun σ H Q ⟨H0, B, ex, en, q⟩ => ⟨H0, B, ex, en, fun v B1 H1 s1 r1 => ?_⟩
  cases r1 with
  | @lst a xs _ ha hd =>
    exact ⟨.inl ⟨rfl, _, sl_of (s1.t _ _ ha)⟩, H0, B1, s1.t, en.step s1, fun w B2 H2 s2 r2 => ⟨a, w, d, ds, j, z, rfl, rfl, dt_dp _ _ (dt_mono (s2.b.trans s2.t) _ _ (.lst ha hd)), dt_dp _ _ (dt_mono s2.t _ _ r2), p1, p2, hz, hzj, hno, q _ B2 H2 (s1.trans s2) (Dt.int _)⟩⟩
/-! ### split, join -/
theorem strs_dtall {B : Hp} : ∀ xs : List Str, DtAll B (xs.map V.str) (xs.map PyData.str)
  | [] => .nil
  | x :: xs => .cons (.str x) (strs_dtall xs)
theorem strs_of {B : Hp} : ∀ {xs : List Str} {vs : List V}, DtAll B vs (xs.map PyData.str) → vs = xs.map V.str
  | [], _, h => by
    cases h
    rfl
  | x :: xs, _, h => by
    cases h with
    | cons h1 h2 =>
      cases h1
      rw [strs_of h2]
      rfl
theorem ef_split {o : Expr} {apos : Pos} {x y : Str} (hy : (y.length == 0) = false) (hz : x.length + 2 ≤ sizeLine) (ho : Ev C X o ρ (.d (.str x))) (he : Ev C X e ρ (.d (.str y)))
    (hs : starEach [e] X.env = [(false, eval e X.env)] := by rfl) (hbase : attributeBase o "split" X.env (eval o X.env) = eval o X.env := by rfl) (hline : (apos.endLine == pos.line) = true := by rfl) :
    EvF C X (.Call (.Attribute o "split" apos) [e] [] pos) ρ ((Txt.split x y).map .str) :=
  pe_weak (pe_split ho he hs hbase hline) fun σ H Q ⟨H0, B, ex, en, q⟩ => ⟨H0, B, ex, en, fun v B1 H1 s1 r1 => by
    cases r1
    refine ⟨⟨x, rfl⟩, H0, B1, s1.t, en.step s1, fun w B2 H2 s2 r2 => ?_⟩
    cases r2
    refine ⟨x, y, rfl, rfl, hy, hz, fun l hl => ?_⟩
    have st := Step.aside (o := .lst ((Txt.split x y).map V.str)) s2.t hl
    exact q l _ B2 _ ((s1.trans s2).trans st) ((Step.ex ex (s1.trans s2)).free hl) (s2.t.free hl) upd_same (strs_dtall _)⟩
theorem ev_join {o : Expr} {apos : Pos} {x : Str} {ys : List Str} (hz : (ys.map (·.length)).sum + ys.length * x.length ≤ 16777216) (ho : Ev C X o ρ (.d (.str x))) (he : Ev C X e ρ (.d (.list (ys.map .str))))
    (hs : starEach [e] X.env = [(false, eval e X.env)] := by rfl) (hbase : attributeBase o "join" X.env (eval o X.env) = eval o X.env := by rfl) (hline : (apos.endLine == pos.line) = true := by rfl) :
    Ev C X (.Call (.Attribute o "join" apos) [e] [] pos) ρ (.d (.str (Txt.join x ys))) :=
  pe_weak (pe_join ho he hs hbase hline) fun σ H Q ⟨H0, B, ex, en, q⟩ => ⟨H0, B, ex, en, fun v B1 H1 s1 r1 => by
    cases r1
    refine ⟨⟨x, rfl⟩, H0, B1, s1.t, en.step s1, fun w B2 H2 s2 r2 => ?_⟩
    cases r2 with
    | @lst a xs _ ha hd =>
      obtain rfl := strs_of hd
      exact ⟨x, a, ys, rfl, rfl, .inl (sl_of (s2.t _ _ ha)), hz, q _ B2 H2 (s1.trans s2) (Dt.str _)⟩⟩
/-! ### a < b <= c -/
theorem ev_chain {op op' : CmpOp} {c : Expr} {r r' : R2} {x y z : DV} {k m : Bool} (ho : OpR X (compareOp op) r) (ho' : OpR X (compareOp op') r') (h1 : R2D (ct X C) r x y (.d (.bool k))) (h2 : R2D (ct X C) r' y z (.d (.bool m))) (ha : Ev C X a ρ x) (hb : Ev C X b ρ y) (hc : Ev C X c ρ z)
    (hm : lastMarks [op, op'] [b, c] = false := by with_unfolding_all rfl) : Ev C X (.Compare a [op, op'] [b, c] pos) ρ (.d (.bool (k && m))) :=
  pe_weak (pe_chain ho ho' ha hb hc hm) fun σ H Q ⟨H0, B, ex, en, q⟩ => ⟨H0, B, ex, en, fun v B1 H1 s1 r1 => ⟨H0, B1, s1.t, en.step s1, fun w B2 H2 s2 r2 => by
    refine h1 B2 H2 v w _ s2.t (rp_mono s2.b r1) r2 fun u B3 H3 s3 r3 => ?_
    cases r3
    refine ⟨k, rfl, ?_⟩
    have s13 := (s1.trans s2).trans s3
    cases k with
    | false => exact iteF (q _ B3 H3 s13 (Dt.bl _))
    | true => exact iteT ⟨H0, B3, s3.t, en.step s13, fun w2 B4 H4 s4 r4 => h2 B4 H4 w w2 _ s4.t (rp_mono (s3.b.trans s4.b) r2) r4 fun u B5 H5 s5 r5 => q u B5 H5 ((s13.trans s4).trans s5) r5⟩⟩⟩
theorem et_chain {op op' : CmpOp} {c : Expr} {r r' : R2} {x y z : DV} {k m : Bool} (ho : OpR X (compareOp op) r) (ho' : OpR X (compareOp op') r') (h1 : R2D (ct X C) r x y (.d (.bool k))) (h2 : R2D (ct X C) r' y z (.d (.bool m))) (ha : Ev C X a ρ x) (hb : Ev C X b ρ y) (hc : Ev C X c ρ z)
    (hm : lastMarks [op, op'] [b, c] = false := by with_unfolding_all rfl) : EvT C X (.Compare a [op, op'] [b, c] pos) ρ (k && m) :=
  pt_weak (pt_chain ho ho' ha hb hc hm) fun σ H Q ⟨H0, B, ex, en, q⟩ => ⟨H0, B, ex, en, fun v B1 H1 s1 r1 => ⟨H0, B1, s1.t, en.step s1, fun w B2 H2 s2 r2 => by
    refine h1 B2 H2 v w _ s2.t (rp_mono s2.b r1) r2 fun u B3 H3 s3 r3 => ?_
    cases r3
    refine ⟨k, rfl, ?_⟩
    have s13 := (s1.trans s2).trans s3
    cases k with
    | false => exact iteF ⟨_, rfl, q B3 H3 s13⟩
    | true => exact iteT ⟨H0, B3, s3.t, en.step s13, fun w2 B4 H4 s4 r4 => h2 B4 H4 w w2 _ s4.t (rp_mono (s3.b.trans s4.b) r2) r4 fun u B5 H5 s5 r5 => by
        cases r5
        exact ⟨m, rfl, q B5 H5 ((s13.trans s4).trans s5)⟩⟩⟩⟩
end
end DL
set_option maxRecDepth 100000
set_option maxHeartbeats 4000000
/-! the data layer, 10: dicts with tuples for keys -/
namespace DL
open PySem PySem.Spec PyProof.Rows L2 SlX

theorem paired_append {α β : Type} {F : α → β → Prop} : ∀ {l l2 : List α} {m m2 : List β}, Paired F l m → Paired F l2 m2 → Paired F (l ++ l2) (m ++ m2)
  | _, _, _, _, .nil, h => h
  | _, _, _, _, .cons a b, h => .cons a (paired_append b h)
/-! ### keys -/
section
variable {X : Cx} {pins : List (Addr × Obj)} {σ : L2.St} {H B : Hp} {s : Shared}
mutual
theorem nested_of (I : Inv X pins σ H s) (ex : Ex B H) : ∀ (k : NestedKey) (v : V) (u : Value), Dt B v k.data → RelV v u → NestedIs s.heap k u
  | .none, _, u, h, r => by
    cases h
    cases r
    exact .none
  | .num i, _, u, h, r => by
    cases h
    obtain ⟨t, rfl⟩ := r
    exact .int i t
  | .text x, _, u, h, r => by
    cases h
    obtain ⟨t, rfl⟩ := r
    exact .text x t
  | .tup ks, _, u, h, r => by
    have h' : Dt B _ (.tuple (NestedKey.datas ks)) := h
    cases h' with
    | @tup a xs _ ha hd =>
      cases r
      obtain ⟨its, rv, ⟨o, ho, hc, n, hdt⟩, _⟩ := I.tuple (ha.mono ex).sq
      exact .tup ho hc hdt (nestedAll_of I ex ks xs its hd rv)
theorem nestedAll_of (I : Inv X pins σ H s) (ex : Ex B H) : ∀ (ks : List NestedKey) (vs : List V) (us : List Value), DtAll B vs (NestedKey.datas ks) → Vals vs us → NestedAll s.heap ks us
  | [], _, us, h, r => by
    have h' : DtAll B _ [] := h
    cases h'
    cases r
    exact .nil
  | k :: ks, _, us, h, r => by
    have h' : DtAll B _ (k.data :: NestedKey.datas ks) := h
    cases h' with
    | cons h1 h2 =>
      cases r with
      | cons r1 r2 => exact .cons (nested_of I ex k _ _ h1 r1) (nestedAll_of I ex ks _ _ h2 r2)
end
end
abbrev Tri := List (NestedKey × Addr × V)
/-- the value at a key -/
def kfind {β : Type} (kvs : List (NestedKey × β)) (k : NestedKey) : Option β := (kvs.find? fun x => decide (x.1 = k)).map (·.2)
def tris (xs : Tri) (vs : List Value) : List (NestedKey × Addr × Value) := List.zipWith (fun (x : NestedKey × Addr × V) v => (x.1, x.2.1, v)) xs vs
theorem tris_at {k : NestedKey} : ∀ {xs : Tri} {vs : List Value}, Vals (xs.map fun x => x.2.2) vs → RelO (kfind (xs.map fun x => (x.1, x.2.2)) k) ((atKey (tris xs vs) k).map (·.2))
  | [], _, h => by
    cases h
    exact True.intro
  | x :: xs, _, h => by
    cases h with
    | @cons _ u _ us h1 h2 =>
      have ih := tris_at (k := k) h2
      unfold kfind atKey tris at ih ⊢
      rw [List.map_cons, List.zipWith_cons_cons, List.find?_cons, List.find?_cons]
      by_cases e : x.1 = k
      · simp only [e, decide_true]
        exact h1
      · simp only [e, decide_false]
        exact ih
theorem tris_keys : ∀ {xs : Tri} {vs : List Value}, vs.length = xs.length → (tris xs vs).map (·.1) = xs.map (·.1)
  | [], [], _ => rfl
  | [], _ :: _, h => by cases h
  | _ :: _, [], h => by cases h
  | x :: xs, v :: vs, h => by
    show x.1 :: (tris xs vs).map (·.1) = _
    rw [tris_keys (by simpa using h)]
    rfl
theorem tris_mem {p : NestedKey × Addr × Value} : ∀ {xs : Tri} {vs : List Value}, p ∈ tris xs vs → ∃ x ∈ xs, p.1 = x.1 ∧ p.2.1 = x.2.1
  | [], _, h => by cases h
  | _ :: _, [], h => by cases h
  | x :: xs, v :: vs, h => by
    rcases List.mem_cons.mp h with rfl | h
    · exact ⟨x, List.mem_cons_self, rfl, rfl⟩
    · obtain ⟨y, hy, e⟩ := tris_mem h
      exact ⟨y, List.mem_cons_of_mem _ hy, e⟩
theorem tris_app : ∀ {xs : Tri} {vs : List Value} {k : NestedKey} {b : Addr} {v : V} {u : Value}, vs.length = xs.length → tris (xs ++ [(k, b, v)]) (vs ++ [u]) = tris xs vs ++ [(k, b, u)] := fun {xs vs k b v u} h => by
  unfold tris
  rw [List.zipWith_append (by rw [h])]
  rfl
structure DkAt (P : Program) (w : World) (h : Heap) (a : Addr) (xs : Tri) (vs : List Value) : Prop where
  va : Vals (xs.map fun x => x.2.2) vs
  sz : xs.length ≤ sizeLine
  sy : (a == sysModules) = false
  d : h.DictOfH (nestedKind P w) a (tris xs vs)
  dp : ∀ x ∈ xs, x.1.depth ≤ 8
theorem zip_map {P : Program} {w : World} : ∀ (xs : Tri) (vs : List Value), List.zipWith (fun (x : NestedKey × Addr × V) v => entryOfKey (nestedKind P w) (x.1, x.2.1, v)) xs vs = (tris xs vs).map (entryOfKey (nestedKind P w))
  | [], _ => rfl
  | _ :: _, [] => rfl
  | x :: xs, v :: vs => by
    rw [List.zipWith_cons_cons, zip_map xs vs]
    rfl
theorem dkAt_of {X : Cx} {pins : List (Addr × Obj)} {σ : L2.St} {H B : Hp} {s : Shared} {a : Addr} {xs : Tri} (I : Inv X pins σ H s) (ex : Ex B H) (h : H a = some (DkO X.prog X.w a xs)) (hk : ∀ x ∈ xs, Dt B (.ref x.2.1) x.1.data) : ∃ vs, DkAt X.prog X.w s.heap a xs vs := by
  obtain ⟨⟨vs, va, sz, sy, o, es, ep, ho, he, hd, hes, hdp, hnd⟩, _⟩ := I.hok a _ h
  have hl : vs.length = xs.length := by
    have := va.length
    rw [List.length_map] at this
    exact this.symm
  refine ⟨vs, va, sz, sy, ⟨o, es, ep, ho, he, hd, by rw [hes, zip_map], fun p hp => ?_, by rw [tris_keys hl]; exact hnd⟩, hdp⟩
  obtain ⟨x, hx, e1, e2⟩ := tris_mem hp
  rw [e1, e2]
  exact ⟨nested_of I ex x.1 _ _ (hk x hx) rfl, hdp x hx⟩
theorem DkAt.ok {P : Program} {w : World} {H : Hp} {h : Heap} {a : Addr} {xs : Tri} {vs : List Value} (x : DkAt P w h a xs vs) : ObjOk P w H h a (DkO P w a xs) := by
  obtain ⟨va, sz, sy, ⟨o, es, ep, ho, he, hd, hes, _, hnd⟩, dp⟩ := x
  have hl : vs.length = xs.length := by
    have := va.length
    rw [List.length_map] at this
    exact this.symm
  exact ⟨⟨vs, va, sz, sy, o, es, ep, ho, he, hd, by rw [hes, zip_map], dp, by rw [← tris_keys hl]; exact hnd⟩, ⟨o, ho⟩, fun h1 h2 ⟨vs, va, sz, sy, o, es, ep, ho, rest⟩ hk => ⟨vs, va, sz, sy, o, es, ep, hk o ho, rest⟩⟩

/-! ### reading -/
/-- x is a key, y a dict -/
def KeyDict (P : Program) (w : World) (H : Hp) (x y : V) (k : NestedKey) (a : Addr) (xs : Tri) : Prop := ∃ B b, Ex B H ∧ x = .ref b ∧ Dt B x k.data ∧ k.depth ≤ 8 ∧ y = .ref a ∧ H a = some (DkO P w a xs) ∧ ∀ z ∈ xs, Dt B (.ref z.2.1) z.1.data
def rInN (P : Program) (w : World) (neg : Bool) : R2 := fun x y H Q => ∃ k a xs, KeyDict P w H x y k a xs ∧ Q (.bl (if neg = true then !(kfind (xs.map fun z => (z.1, z.2.2)) k).isSome else (kfind (xs.map fun z => (z.1, z.2.2)) k).isSome)) H
def rIxN (P : Program) (w : World) : R2 := fun y x H Q => ∃ k a xs v, KeyDict P w H x y k a xs ∧ kfind (xs.map fun z => (z.1, z.2.2)) k = some v ∧ Q v H
section
variable {C : Addr} {X : Cx} {e a b : Expr} {es : List Expr} {ss : List Stmt} {ρ : List Sl} {pos p p2 p3 : Pos} {d : D} {ds : List D} {Φ : Out → Prop} {n : Nat}
theorem room8 (hr : Room n X.A) : (nestedKind X.prog X.w).room X.A.in1 := by
  show X.A.in1.units + 8 < cLine
  have := hr.un
  have : X.A.in1.units ≤ X.A.units + 1 := by
    unfold Around.in1
    simp
  omega
theorem op_inN (hr : Room n X.A) : OpR X (compareOp .In) (rInN X.prog X.w false) := fun pins s σ H x y v u Q I rx ry ⟨k, a, xs, ⟨B, b, ex, e1, hk, hdp, e2, hH, hks⟩, q⟩ => by
  subst e1 e2
  obtain ⟨vs, dk⟩ := dkAt_of I ex hH hks
  have hn := nested_of I ex k _ v hk rx
  cases rx
  cases ry
  refine wpAny_in_heap (room8 hr) ⟨hn, hdp⟩ dk.sy dk.d ⟨.bl _, H, I.tok _, ?_, q⟩
  have := tris_at (k := k) dk.va
  show Value.bool _ = Value.bool _
  rw [if_neg Bool.false_ne_true, RelO.isSome_eq this, Option.isSome_map]
theorem op_niN (hr : Room n X.A) : OpR X (compareOp .NotIn) (rInN X.prog X.w true) := fun pins s σ H x y v u Q I rx ry ⟨k, a, xs, ⟨B, b, ex, e1, hk, hdp, e2, hH, hks⟩, q⟩ => by
  subst e1 e2
  obtain ⟨vs, dk⟩ := dkAt_of I ex hH hks
  have hn := nested_of I ex k _ v hk rx
  cases rx
  cases ry
  refine notIn_keyed (room8 hr) ⟨hn, hdp⟩ dk.sy ⟨_, dk.d, rfl⟩ ⟨.bl _, H, I.tok _, ?_, q⟩
  have := tris_at (k := k) dk.va
  show Value.bool _ = Value.bool _
  rw [if_pos rfl, RelO.isSome_eq this, valueAt_pairsH]
theorem ix_N (hr : Room n X.A) : IxR X (rIxN X.prog X.w) := fun value slice pins s σ H y x u v Q I ry rx ⟨k, a, xs, z, ⟨B, b, ex, e1, hk, hdp, e2, hH, hks⟩, hz, q⟩ hs => by
  subst e1 e2
  obtain ⟨vs, dk⟩ := dkAt_of I ex hH hks
  have hn := nested_of I ex k _ v hk rx
  cases rx
  cases ry
  have hrel := tris_at (k := k) dk.va
  rw [hz] at hrel
  obtain ⟨u, hu, ru⟩ := RelO.some_of hrel
  obtain ⟨p, hp, rfl⟩ := Option.map_eq_some_iff.mp hu
  exact tail_any dk.d.typeIs F.slot_dict_getitem.lookup (wpAny_getItem_heap (room8 hr) ⟨hn, hdp⟩ dk.d hp ⟨z, H, I.tok _, ru, q⟩) hs
/-! by their kinds -/
theorem kfind_pair {β : Type} {R : V → β → Prop} {B : Hp} {k : NestedKey} : ∀ {xs : Tri} {kvs : List (NestedKey × β)}, Paired (fun (p : NestedKey × Addr × V) (q : NestedKey × β) => p.1 = q.1 ∧ Dt B (.ref p.2.1) p.1.data ∧ R p.2.2 q.2) xs kvs →
    (∀ y, kfind kvs k = some y → ∃ v, kfind (xs.map fun z => (z.1, z.2.2)) k = some v ∧ R v y) ∧ (kfind kvs k = none → kfind (xs.map fun z => (z.1, z.2.2)) k = none)
  | [], _, h => by
    cases h
    exact ⟨fun y e => (by cases e), fun _ => rfl⟩
  | x :: xs, _, h => by
    cases h with
    | @cons _ y _ ys h1 h2 =>
      have ih := kfind_pair (k := k) h2
      unfold kfind at ih ⊢
      rw [List.map_cons, List.find?_cons, List.find?_cons]
      by_cases e : x.1 = k
      · have e2 : y.1 = k := h1.1.symm.trans e
        simp only [e, e2, decide_true]
        exact ⟨fun z hz => ⟨_, rfl, by cases hz; exact h1.2.2⟩, fun hz => by cases hz⟩
      · have e2 : ¬ y.1 = k := fun z => e (h1.1.trans z)
        simp only [e, e2, decide_false]
        exact ih
theorem kfind_some {β : Type} {R : V → β → Prop} {B : Hp} {k : NestedKey} {xs : Tri} {kvs : List (NestedKey × β)} (h : Paired (fun (p : NestedKey × Addr × V) (q : NestedKey × β) => p.1 = q.1 ∧ Dt B (.ref p.2.1) p.1.data ∧ R p.2.2 q.2) xs kvs) :
    (kfind (xs.map fun z => (z.1, z.2.2)) k).isSome = (kfind kvs k).isSome := by
  obtain ⟨h1, h2⟩ := kfind_pair (k := k) h
  cases e : kfind kvs k with
  | none =>
    rw [h2 e]
    rfl
  | some y =>
    obtain ⟨v, hv, _⟩ := h1 y e
    rw [hv]
    rfl
theorem keys_of {β : Type} {R : V → β → Prop} {B : Hp} : ∀ {xs : Tri} {kvs : List (NestedKey × β)}, Paired (fun (p : NestedKey × Addr × V) (q : NestedKey × β) => p.1 = q.1 ∧ Dt B (.ref p.2.1) p.1.data ∧ R p.2.2 q.2) xs kvs → ∀ z ∈ xs, Dt B (.ref z.2.1) z.1.data
  | _, _, .nil, _, hz => by cases hz
  | x :: _, _, .cons h1 h2, z, hz => by
    rcases List.mem_cons.mp hz with rfl | hz
    · exact h1.2.1
    · exact keys_of h2 z hz
/-- k is a tuple, not deep -/
structure KeyOk (k : NestedKey) : Prop where
  tup : ∃ ks, k = .tup ks
  dp : k.depth ≤ 8
theorem KeyOk.ref {k : NestedKey} (h : KeyOk k) {B : Hp} {v : V} (r : Dt B v k.data) : ∃ b, v = .ref b := by
  obtain ⟨⟨ks, rfl⟩, _⟩ := h
  have r' : Dt B v (.tuple (NestedKey.datas ks)) := r
  cases r' with
  | @tup a xs _ ha hd => exact ⟨a, rfl⟩
theorem r2_inN {β : Type} {c : Ct} {neg : Bool} {k : NestedKey} {y : DV} {R : Hp → V → β → Prop} {kvs : List (NestedKey × β)} (hk : KeyOk k) (hy : ∀ B v, Rp c B v y → IsN c B (R B) v kvs) :
    R2D c (rInN c.P c.w neg) (.d k.data) y (.d (.bool (if neg = true then !(kfind kvs k).isSome else (kfind kvs k).isSome))) := fun B H v w Q ex r1 r2 q => by
  obtain ⟨a, xs, rfl, h1, h2⟩ := hy B w r2
  obtain ⟨b, rfl⟩ := hk.ref r1
  refine ⟨k, a, xs, ⟨B, b, ex, rfl, r1, hk.dp, rfl, ex _ _ h1, keys_of h2⟩, ?_⟩
  rw [kfind_some h2]
  exact q _ B H (Step.refl ex) (Dt.bl _)
theorem r2_ixN {β : Type} {c : Ct} {k : NestedKey} {y z : DV} {R : Hp → V → β → Prop} {kvs : List (NestedKey × β)} {u : β} (hk : KeyOk k) (hy : ∀ B v, Rp c B v y → IsN c B (R B) v kvs) (hu : kfind kvs k = some u) (hz : ∀ B v, R B v u → Rp c B v z) :
    R2D c (rIxN c.P c.w) y (.d k.data) z := fun B H w v Q ex r2 r1 q => by
  obtain ⟨a, xs, rfl, h1, h2⟩ := hy B w r2
  obtain ⟨b, rfl⟩ := hk.ref r1
  obtain ⟨x, hx, rx⟩ := (kfind_pair h2).1 u hu
  exact ⟨k, a, xs, x, ⟨B, b, ex, rfl, r1, hk.dp, rfl, ex _ _ h1, keys_of h2⟩, hx, q _ B H (Step.refl ex) (hz B x rx)⟩
theorem et_inN {k : NestedKey} {kvs : List (NestedKey × D)} {m : Bool} (hr : Room n X.A) (hk : KeyOk k) (hm' : (kfind kvs k).isSome = m) (ha : Ev C X a ρ (.d k.data)) (hb : Ev C X b ρ (.dn kvs)) (hm : behindInMarks .In b = false := by rfl) : EvT C X (.Compare a [.In] [b] pos) ρ m :=
  hm' ▸ et_cmp (op_inN hr) (r2_inN (y := .dn kvs) (R := fun B => Dt B) hk fun _ _ r => r) ha hb hm
theorem et_niN {k : NestedKey} {kvs : List (NestedKey × D)} {m : Bool} (hr : Room n X.A) (hk : KeyOk k) (hm' : (!(kfind kvs k).isSome) = m) (ha : Ev C X a ρ (.d k.data)) (hb : Ev C X b ρ (.dn kvs)) (hm : behindInMarks .NotIn b = false := by rfl) : EvT C X (.Compare a [.NotIn] [b] pos) ρ m :=
  hm' ▸ et_cmp (op_niN hr) (r2_inN (y := .dn kvs) (R := fun B => Dt B) hk fun _ _ r => r) ha hb hm
theorem ev_ixN {k : NestedKey} {kvs : List (NestedKey × D)} {u : D} (hr : Room n X.A) (hk : KeyOk k) (hu : kfind kvs k = some u) (ha : Ev C X a ρ (.dn kvs)) (hb : Ev C X b ρ (.d k.data)) (hs : PlainIx b := by exact fun _ _ => rfl) : Ev C X (.Subscript a b pos) ρ (.d u) :=
  ev_ix (ix_N hr) (r2_ixN (y := .dn kvs) (z := .d u) (R := fun B => Dt B) hk (fun _ _ r => r) hu fun _ _ r => r) ha hb hs
theorem ev_ixNK {k : NestedKey} {kvs : List (NestedKey × List (Str × D))} {u : List (Str × D)} (hr : Room n X.A) (hk : KeyOk k) (hu : kfind kvs k = some u) (ha : Ev C X a ρ (.dnk kvs)) (hb : Ev C X b ρ (.d k.data)) (hs : PlainIx b := by exact fun _ _ => rfl) : Ev C X (.Subscript a b pos) ρ (.dk u) :=
  ev_ix (ix_N hr) (r2_ixN (y := .dnk kvs) (z := .dk u) (R := fun B => IsK B) hk (fun _ _ r => r) hu fun _ _ r => r) ha hb hs
/-! of a dict of one's own -/
section
variable {i : Nat} {m : Str} {pm : Pos} {k : NestedKey} {kvs : List (NestedKey × D)}
theorem et_niM {t : Bool} (i : Nat) (h : ρ[i]? = some (.mn kvs)) (hr : Room n X.A) (hk : KeyOk k) (ht : (!(kfind kvs k).isSome) = t) (ha : Ev C X a ρ (.d k.data)) (hN : X.N[i]? = some m := by rfl) (hv : Vis X.env.scope m := by first | exact Or.inl rfl | exact Or.inr (Or.inl rfl) | exact Or.inr (Or.inr rfl)) (hd : (m == ("__debug__" : Str)) = false := by decide)
    (hcd : (m == ("__classdict__" : Str)) = false := by decide) (hm : behindInMarks .NotIn (.Name m pm) = false := by rfl) : EvT C X (.Compare a [.NotIn] [.Name m pm] pos) ρ t :=
  pt_weak (pt_cmpR (op_niN hr) ha (pe_var hN hv hd hcd) hm) fun σ H Q ⟨H0, B, ex, en, q⟩ => ⟨H0, B, ex, en, fun v B1 H1 s1 r1 => by
    obtain ⟨c, xs, ea, h1, h2, h3, h4⟩ := (en.step s1).at_ i _ h
    obtain ⟨b, rfl⟩ := hk.ref r1
    refine ⟨.ref c, EnvOk.val (c := ct X C) (H0 := H0) (B := B1) (H := H1) ea, k, c, xs, ⟨B1, b, s1.t, rfl, r1, hk.dp, rfl, h3, keys_of h4⟩, ?_⟩
    rw [kfind_some h4]
    exact ⟨t, by rw [← ht]; rfl, q B1 H1 s1⟩⟩
theorem ev_ixM (i : Nat) {u : D} (h : ρ[i]? = some (.mn kvs)) (hr : Room n X.A) (hk : KeyOk k) (hu : kfind kvs k = some u) (hb : Ev C X b ρ (.d k.data)) (hN : X.N[i]? = some m := by rfl) (hv : Vis X.env.scope m := by first | exact Or.inl rfl | exact Or.inr (Or.inl rfl) | exact Or.inr (Or.inr rfl)) (hd : (m == ("__debug__" : Str)) = false := by decide)
    (hcd : (m == ("__classdict__" : Str)) = false := by decide) (hs : PlainIx b := by exact fun _ _ => rfl) : Ev C X (.Subscript (.Name m pm) b pos) ρ (.d u) :=
  pe_weak (pe_ix (ix_N hr) (pe_var hN hv hd hcd) hb hs) fun σ H Q ⟨H0, B, ex, en, q⟩ => by
    obtain ⟨c, xs, ea, h1, h2, h3, h4⟩ := en.at_ i _ h
    refine ⟨.ref c, EnvOk.val (c := ct X C) (H0 := H0) (B := B) (H := H) ea, H0, B, ex, en, fun v B1 H1 s1 r1 => ?_⟩
    obtain ⟨g1, g2⟩ := s1.f c _ h1 h3
    obtain ⟨b, rfl⟩ := hk.ref r1
    obtain ⟨x, hx, rx⟩ := (kfind_pair h4).1 u hu
    exact ⟨k, c, xs, x, ⟨B1, b, s1.t, rfl, r1, hk.dp, rfl, g2, fun z hz => dt_mono s1.b _ _ (keys_of h4 z hz)⟩, hx, q _ B1 H1 s1 (dt_mono s1.b _ _ rx)⟩
/-- d[k] = e, k new -/
def sPutN (P : Program) (w : World) (td tk tv : TE) : TS := fun D σ H => tv σ H fun v H1 => td σ H1 fun y H2 => tk σ H2 fun x H3 => ∃ k a b xs, KeyDict P w H3 x y k a xs ∧ x = .ref b ∧ kfind (xs.map fun z => (z.1, z.2.2)) k = none ∧ xs.length < sizeLine ∧ D.nx σ (upd H3 a (DkO P w a (xs ++ [(k, b, v)])))
theorem kfind_keys {β : Type} {k : NestedKey} : ∀ {xs : List (NestedKey × β)}, kfind xs k = none → k ∉ xs.map (·.1)
  | [], _, h => by cases h
  | x :: xs, e, h => by
    unfold kfind at e
    rw [List.find?_cons] at e
    by_cases hx : x.1 = k
    · simp only [hx, decide_true] at e
      cases e
    · simp only [hx, decide_false] at e
      rw [List.map_cons] at h
      rcases List.mem_cons.mp h with h | h
      · exact hx h.symm
      · exact kfind_keys (xs := xs) (by unfold kfind; exact e) h
theorem ps_putN {o ke value : Expr} {pos' : Pos} {td tk tv : TE} (hr : Room n X.A) (ho : PE X o td) (hi : PE X ke tk) (hv : PE X value tv) (hs : swapsWith value (some (.Subscript o ke pos')) pos.line X.env = pure false) : PS X (.Assign [.Subscript o ke pos'] value pos) (sPutN X.prog X.w td tk tv) := by
  refine ⟨fun pins s σ H D I h => ?_⟩
  refine wpAny_Assign_Subscript (thn (hv.run pins s σ H _ I h) fun r s1 ⟨v, H1, I1, rv, q1⟩ => thn (ho.run pins s1 σ H1 _ I1 q1) fun u s2 ⟨y, H2, I2, ry, q2⟩ => thn (hi.run pins s2 σ H2 _ I2 q2) fun iv s3 ⟨x, H3, I3, rx, k, a, b, xs, ⟨B, b', ex, e1, hk, hdp, e2, hH, hks⟩, e3, hno, hz, q3⟩ => ?_) hs
  subst e1 e2
  cases e3
  obtain ⟨vs, dk⟩ := dkAt_of I3 ex hH hks
  have hn := nested_of I3 ex k _ iv hk rx
  cases rx
  cases ry
  have hl : vs.length = xs.length := by
    have := dk.va.length
    rw [List.length_map] at this
    exact this.symm
  have hat : atKey (tris xs vs) k = none := by
    have hrel := tris_at (k := k) dk.va
    rw [hno] at hrel
    exact Option.map_eq_none_iff.mp (RelO.none_of hrel)
  refine wpAny_setItem_heap (hsz := ?_) (room8 hr) ⟨hn, hdp⟩ dk.d fun h' dd' hsame => ?_
  · rw [storedH_new hat] at dd'
    have new : DkAt X.prog X.w h' a (xs ++ [(k, b, v)]) (vs ++ [r]) := ⟨by rw [List.map_append]; exact dk.va.append (.cons rv .nil), by rw [List.length_append]; exact hz, dk.sy, by rw [tris_app hl]; exact dd', fun z hz => by
      rcases List.mem_append.mp hz with hz | hz
      · exact dk.dp z hz
      · cases List.mem_singleton.mp hz
        exact hdp⟩
    obtain ⟨q, _, _, hq, _⟩ := dd'
    exact ⟨σ, _, d_write I3 (by rw [hH]; exact True.intro) hsame ⟨q, hq⟩ new.ok, q3⟩
  · unfold tris
    rw [List.length_zipWith, hl, Nat.min_self]
    exact dk.sz
theorem sts_putN (i : Nat) {ke value : Expr} {u : D} {pos' : Pos} (h : ρ[i]? = some (.mn kvs)) (hr : Room n X.A) (hk : KeyOk k) (hno : kfind kvs k = none) (hz : kvs.length < sizeLine) (hv' : Ev C X value ρ (.d u)) (hi : Ev C X ke ρ (.d k.data)) (q : Sts C X ss (ρ.set i (.mn (kvs ++ [(k, u)]))) Φ)
    (hN : X.N[i]? = some m := by rfl) (hv : Vis X.env.scope m := by first | exact Or.inl rfl | exact Or.inr (Or.inl rfl) | exact Or.inr (Or.inr rfl)) (hd : (m == ("__debug__" : Str)) = false := by decide)
    (hcd : (m == ("__classdict__" : Str)) = false := by decide) (hs : swapsWith value (some (.Subscript (.Name m pm) ke pos')) pos.line X.env = pure false := by rfl) : Sts C X (.Assign [.Subscript (.Name m pm) ke pos'] value pos :: ss) ρ Φ :=
  sts_cons (ps_weak (ps_putN hr (pe_var hN hv hd hcd) hi hv' hs) fun D σ H ⟨B0, H0, B, ex, s0, en, k1, _⟩ => ⟨H0, B, s0.t, en, fun v B1 H1 s1 r1 => by
    have e1 := en.step s1
    obtain ⟨c, xs, ea, h1, h2, h3, h4⟩ := e1.at_ i _ h
    refine ⟨.ref c, EnvOk.val (c := ct X C) (H0 := H0) (B := B1) (H := H1) ea, H0, B1, s1.t, e1, fun x B2 H2 s2 r2 => ?_⟩
    obtain ⟨g1, g2⟩ := s2.f c _ h1 h3
    obtain ⟨b, rfl⟩ := hk.ref r2
    have h4' : Paired (fun (p : NestedKey × Addr × V) (q : NestedKey × DL.D) => p.1 = q.1 ∧ Dt B2 (.ref p.2.1) p.1.data ∧ Dt B2 p.2.2 q.2) xs kvs := Paired.mapP h4 fun p q r => ⟨r.1, dt_mono s2.b _ _ r.2.1, dt_mono s2.b _ _ r.2.2⟩
    have hlen := paired_len h4
    refine ⟨k, c, b, xs, ⟨B2, b, s2.t, rfl, r2, hk.dp, rfl, g2, keys_of h4'⟩, rfl, (kfind_pair h4).2 hno, by rw [hlen]; exact hz, ?_⟩
    have s12 := (s0.trans s1).trans s2
    refine k1 σ B2 _ _ (s12.mut g1 h2) (s1.b.trans s2.b) ((e1.step s2).mutate (s' := .mn (kvs ++ [(k, u)])) h rfl ea ⟨c, _, rfl, g1, h2, upd_same, ?_⟩ rfl) q
    exact paired_append h4' (.cons ⟨rfl, r2, dt_mono s2.b _ _ r1⟩ .nil)⟩)
end
/-- {} -/
theorem es_newN {s : List (NestedKey × D)} (hs : s = [] := by rfl) : EvS C X (.Dict [] [] pos) ρ (.mn s) := by
  subst hs
  refine ⟨fun pins s σ H Q I ⟨H0, B, ex, en, k⟩ => ?_⟩
  have hp := I.hok.fresh (Nat.le_refl s.heap.objs.size)
  refine wpAny_Dict_empty ⟨.ref s.heap.objs.size, _, I.laid (a := s.heap.objs.size) (o := DkO X.prog X.w s.heap.objs.size []) (t' := s.toks) (fun _ _ q => Heap.get?_push_of_some _ q) (Nat.le_refl _) ?_, rfl, k _ B _ (Step.aside ex hp) ⟨_, [], rfl, hp, ex.free hp, upd_same, .nil⟩⟩
  refine DkAt.ok (vs := []) ⟨.nil, Nat.zero_le _, beq_eq_false_iff_ne.mpr (Ne.symm (Nat.ne_of_lt I.big)), Heap.DictOfH.new _, fun _ h => (by cases h)⟩
end
end DL
set_option maxRecDepth 100000
set_option maxHeartbeats 4000000
/-! the data layer, 11: dicts with texts for keys -/
namespace DL
open PySem PySem.Spec PyProof.Rows L2 SlX

abbrev SD := List (Str × D)
def sfind (kvs : SD) (k : Str) : Option D := (kvs.find? fun x => decide (x.1 = k)).map (·.2)
def sput (kvs : SD) (k : Str) (v : D) : SD := if (kvs.any fun x => decide (x.1 = k)) = true then kvs.map (fun x => if x.1 = k then (x.1, v) else x) else kvs ++ [(k, v)]
abbrev KP (B : Hp) : List (Key × V) → SD → Prop := Paired (fun (p : Key × V) (q : Str × D) => p.1 = Sum.inr q.1 ∧ Dt B p.2 q.2)
theorem inr_eq {a b : Str} : (decide ((Sum.inr a : Key) = Sum.inr b)) = decide (a = b) := by
  by_cases h : a = b
  · subst h
    simp
  · rw [decide_eq_false h, decide_eq_false fun z => h (Sum.inr.inj z)]
theorem kp_val {B : Hp} {k : Str} : ∀ {ks : List (Key × V)} {kvs : SD}, KP B ks kvs → (∀ d, sfind kvs k = some d → ∃ v, valV ks (Sum.inr k) = some v ∧ Dt B v d) ∧ (sfind kvs k = none → valV ks (Sum.inr k) = none)
  | _, _, .nil => ⟨fun d e => (by cases e), fun _ => rfl⟩
  | _, _, .cons (a := p) (b := q) (l₁ := r) (l₂ := t) h1 h2 => by
    have ih := kp_val (k := k) h2
    unfold sfind valV at ih ⊢
    rw [List.find?_cons, List.find?_cons, h1.1, inr_eq]
    by_cases e : q.1 = k
    · simp only [e, decide_true]
      exact ⟨fun d hd => ⟨_, rfl, by cases hd; exact h1.2⟩, fun z => by cases z⟩
    · simp only [e, decide_false]
      exact ih
theorem kp_some {B : Hp} {k : Str} {ks : List (Key × V)} {kvs : SD} (h : KP B ks kvs) : (valV ks (Sum.inr k)).isSome = (sfind kvs k).isSome := by
  obtain ⟨h1, h2⟩ := kp_val (k := k) h
  cases e : sfind kvs k with
  | none =>
    rw [h2 e]
    rfl
  | some d =>
    obtain ⟨v, hv, _⟩ := h1 d e
    rw [hv]
    rfl
theorem kp_put {B : Hp} {k : Str} {v : V} {d : D} (hd : Dt B v d) {ks : List (Key × V)} {kvs : SD} (h : KP B ks kvs) : KP B (putK ks (Sum.inr k) v) (sput kvs k d) := by
  have hany : (ks.any fun x => decide (x.1 = (Sum.inr k : Key))) = kvs.any fun x => decide (x.1 = k) := by
    induction h with
    | nil => rfl
    | cons h1 h2 ih => rw [List.any_cons, List.any_cons, ih, h1.1, inr_eq]
  unfold putK sput
  rw [hany]
  by_cases e : (kvs.any fun x => decide (x.1 = k)) = true
  · rw [if_pos e, if_pos e]
    clear e hany
    induction h with
    | nil => exact .nil
    | @cons p q _ _ h1 h2 ih =>
      rw [List.map_cons, List.map_cons]
      refine .cons ?_ ih
      by_cases e : q.1 = k
      · rw [if_pos e, if_pos (by rw [h1.1, e])]
        exact ⟨h1.1, hd⟩
      · rw [if_neg e, if_neg (by rw [h1.1]; exact fun z => e (Sum.inr.inj z))]
        exact h1
  · rw [if_neg e, if_neg e]
    exact paired_append h (.cons ⟨rfl, hd⟩ .nil)
theorem kp_mono {B B' : Hp} (e : Ex B B') {ks : List (Key × V)} {kvs : SD} (h : KP B ks kvs) : KP B' ks kvs := Paired.mapP h fun p q r => ⟨r.1, dt_mono e _ _ r.2⟩
section
variable {C : Addr} {X : Cx} {e f a b : Expr} {es : List Expr} {ss : List Stmt} {ρ : List Sl} {pos p p2 p3 : Pos} {d : D} {ds : List D} {Φ : Out → Prop} {n : Nat} {kvs : SD} {k : Str}
theorem room1 (hr : Room n X.A) : X.A.units + 1 < cLine := by
  have := hr.un
  omega
/-! ### {} -/
theorem es_newK {s : SD} (hs : s = [] := by rfl) : EvS C X (.Dict [] [] pos) ρ (.mk s) := by
  subst hs
  refine pe_weak pe_dnewK fun σ H Q ⟨H0, B, ex, en, q⟩ => fun p hp => q _ B _ (Step.aside ex hp) ⟨p, [], rfl, hp, ex.free hp, upd_same, .nil⟩
/-! ### reading -/
theorem ev_ixK {kv : D} (hr : Room n X.A) (h : sfind kvs k = some d) (ha : Ev C X a ρ (.dk kvs)) (hb : Ev C X b ρ (.d (.str k))) (hs : NoSl b := by exact fun _ _ => rfl) : Ev C X (.Subscript a b pos) ρ (.d d) :=
  pe_weak (pe_dget (room1 hr) ha hb hs) fun σ H Q ⟨H0, B, ex, en, q⟩ => ⟨H0, B, ex, en, fun v B1 H1 s1 r1 => ⟨H0, B1, s1.t, en.step s1, fun w B2 H2 s2 r2 => by
    obtain ⟨c, o, ks, rfl, h1, h2⟩ := r1
    cases r2
    obtain ⟨u, hu, ru⟩ := (kp_val (k := k) h2).1 d h
    exact ⟨c, u, rfl, .inl ⟨ks, Sum.inr k, .inr ⟨o, s2.t _ _ (s2.b _ _ h1)⟩, rfl, hu.symm⟩, q u B2 H2 (s1.trans s2) (dt_mono s2.b _ _ ru)⟩⟩⟩
theorem et_inK {m : Bool} (hr : Room n X.A) (h : (sfind kvs k).isSome = m) (ha : Ev C X a ρ (.d (.str k))) (hb : Ev C X b ρ (.dk kvs)) (hm : behindInMarks .In b = false := by rfl) : EvT C X (.Compare a [.In] [b] pos) ρ m :=
  pt_weak (pt_cmp (pc_din (room1 hr) ha hb) hm) fun σ H Q ⟨H0, B, ex, en, q⟩ => ⟨H0, B, ex, en, fun v B1 H1 s1 r1 => ⟨H0, B1, s1.t, en.step s1, fun w B2 H2 s2 r2 => by
    cases r1
    obtain ⟨c, o, ks, rfl, h1, h2⟩ := r2
    refine ⟨c, valV ks (Sum.inr k), rfl, .inl ⟨ks, Sum.inr k, .inr ⟨o, s2.t _ _ h1⟩, rfl, rfl⟩, m, ?_, q B2 H2 (s1.trans s2)⟩
    rw [kp_some h2, h]⟩⟩
theorem et_niK {m : Bool} (hr : Room n X.A) (h : (!(sfind kvs k).isSome) = m) (ha : Ev C X a ρ (.d (.str k))) (hb : Ev C X b ρ (.dk kvs)) (hm : behindInMarks .NotIn b = false := by rfl) : EvT C X (.Compare a [.NotIn] [b] pos) ρ m :=
  pt_weak (pt_cmp (pc_dnotin (room1 hr) ha hb) hm) fun σ H Q ⟨H0, B, ex, en, q⟩ => ⟨H0, B, ex, en, fun v B1 H1 s1 r1 => ⟨H0, B1, s1.t, en.step s1, fun w B2 H2 s2 r2 => by
    cases r1
    obtain ⟨c, o, ks, rfl, h1, h2⟩ := r2
    refine ⟨c, valV ks (Sum.inr k), rfl, .inl ⟨ks, Sum.inr k, .inr ⟨o, s2.t _ _ h1⟩, rfl, rfl⟩, m, ?_, q B2 H2 (s1.trans s2)⟩
    rw [kp_some h2, h]⟩⟩
/-- m.get(k, x), m a dict of one's own -/
theorem ev_getM (i : Nat) {m : Str} {pm apos : Pos} {x z : D} (h : ρ[i]? = some (.mk kvs)) (hr : Room n X.A) (hz : (sfind kvs k).getD x = z) (he : Ev C X e ρ (.d (.str k))) (hf : Ev C X f ρ (.d x)) (hN : X.N[i]? = some m := by rfl) (hv : Vis X.env.scope m := by first | exact Or.inl rfl | exact Or.inr (Or.inl rfl) | exact Or.inr (Or.inr rfl)) (hd : (m == ("__debug__" : Str)) = false := by decide)
    (hcd : (m == ("__classdict__" : Str)) = false := by decide) (mm : M2 X (.Name m pm) "get" apos e f pos := by exact ⟨rfl, rfl, rfl, rfl⟩) : Ev C X (.Call (.Attribute (.Name m pm) "get" apos) [e, f] [] pos) ρ (.d z) :=
  pe_weak (pe_dget2 (room1 hr) (pe_var hN hv hd hcd) he hf mm) fun σ H Q ⟨H0, B, ex, en, q⟩ => by
    obtain ⟨c, ks, ea, h1, h2, h3, h4⟩ := en.at_ i _ h
    refine ⟨.ref c, EnvOk.val (c := ct X C) (H0 := H0) (B := B) (H := H) ea, c, rfl, .inl ⟨ks, .inl h3⟩, H0, B, ex, en, fun v B1 H1 s1 r1 => ⟨H0, B1, s1.t, en.step s1, fun w B2 H2 s2 r2 => ?_⟩⟩
    cases r1
    obtain ⟨g1, g2⟩ := (s1.trans s2).f c _ h1 h3
    refine ⟨valV ks (Sum.inr k), .inl ⟨ks, Sum.inr k, .inl g2, rfl, rfl⟩, q _ B2 H2 (s1.trans s2) ?_⟩
    obtain ⟨k1, k2⟩ := kp_val (k := k) h4
    subst hz
    cases hs : sfind kvs k with
    | none =>
      rw [k2 hs]
      exact r2
    | some y =>
      obtain ⟨u, hu, ru⟩ := k1 y hs
      rw [hu]
      exact dt_mono (s1.b.trans s2.b) _ _ ru
/-- m[k] = e, m a dict of one's own -/
theorem sts_putK (i : Nat) {m : Str} {pm pos' : Pos} {ke value : Expr} (h : ρ[i]? = some (.mk kvs)) (hr : Room n X.A) (hz : kvs.length < sizeLine) (hv' : Ev C X value ρ (.d d)) (hi : Ev C X ke ρ (.d (.str k))) (q : Sts C X ss (ρ.set i (.mk (sput kvs k d))) Φ)
    (hN : X.N[i]? = some m := by rfl) (hv : Vis X.env.scope m := by first | exact Or.inl rfl | exact Or.inr (Or.inl rfl) | exact Or.inr (Or.inr rfl)) (hd : (m == ("__debug__" : Str)) = false := by decide)
    (hcd : (m == ("__classdict__" : Str)) = false := by decide) (hs : swapsWith value (some (.Subscript (.Name m pm) ke pos')) pos.line X.env = pure false := by rfl) : Sts C X (.Assign [.Subscript (.Name m pm) ke pos'] value pos :: ss) ρ Φ :=
  sts_cons (ps_weak (ps_dput (room1 hr) (pe_var hN hv hd hcd) hi hv' hs) fun D σ H ⟨B0, H0, B, ex, s0, en, k1, _⟩ => ⟨H0, B, s0.t, en, fun v B1 H1 s1 r1 => by
    have e1 := en.step s1
    obtain ⟨c, ks, ea, h1, h2, h3, h4⟩ := e1.at_ i _ h
    refine ⟨.ref c, EnvOk.val (c := ct X C) (H0 := H0) (B := B1) (H := H1) ea, H0, B1, s1.t, e1, fun x B2 H2 s2 r2 => ?_⟩
    obtain ⟨g1, g2⟩ := s2.f c _ h1 h3
    cases r2
    refine ⟨c, _, rfl, DPut.k (k := Sum.inr k) (v := v) g2 (by rw [paired_len h4]; exact hz), ?_⟩
    have s12 := (s0.trans s1).trans s2
    exact k1 σ B2 _ _ (s12.mut g1 h2) (s1.b.trans s2.b) ((e1.step s2).mutate (s' := .mk (sput kvs k d)) h rfl ea ⟨c, _, rfl, g1, h2, upd_same, kp_put (dt_mono s2.b _ _ r1) (kp_mono s2.b h4)⟩ rfl) q⟩)
/-! ### for k in d -/
theorem ei_keysK {tg : Expr} (h : Ev C X e ρ (.dk kvs)) (hz : kvs.length ≤ sizeLine) : EvI C X tg e ρ (kvs.map fun x => .str x.1) := pi_weak (pi_keys h) fun σ H R ⟨H0, B, ex, en, q⟩ => ⟨H0, B, ex, en, fun v B1 H1 s1 r1 => by
  obtain ⟨c, o, ks, rfl, h1, h2⟩ := r1
  have hl := paired_len h2
  refine ⟨c, o, rfl, .inl ⟨ks, s1.t _ _ h1, q _ B1 H1 s1 ⟨fun i H2 hi e2 => ?_, fun H2 e2 => ?_, fun i H2 x H' hi e2 y => ?_, by rw [List.length_map]; exact hz⟩⟩⟩
  · rw [List.length_map, ← hl] at hi
    exact ⟨e2 _ _ h1, hi⟩
  · exact ⟨e2 _ _ h1, by rw [List.length_map, hl]; exact Nat.le_refl _⟩
  · obtain ⟨y1, key, v, y2, y3⟩ := y
    obtain ⟨q', hq, hk, _⟩ := paired_get h2 y2
    refine ⟨.str q'.1, by rw [List.getElem?_map, hq]; rfl, .inl ⟨y1, ?_⟩⟩
    have hk' : key = Sum.inr q'.1 := hk
    rw [y3, hk']
    exact Dt.str _⟩
/-! ### a dict of one's own becomes data: locked -/
/-- the thing at a, no longer to be changed: the heap knows it locked -/
theorem pss_lock {sts : List Stmt} {t : TS} (h : PSs X sts t) : PSs X sts (fun D σ H => ∃ a u, H a = some u ∧ Mut (some u) ∧ ∀ o, t D σ (upd H a (.frz o u))) := ⟨fun pins s σ H D I ⟨a, u, ha, mu, q⟩ => by
  obtain ⟨o, I1⟩ := I.lock ha mu
  exact h.run pins s σ _ D I1 (q o)⟩
theorem EnvOk.lock {c : Ct} {B0 H0 B H : Hp} {σ : L2.St} {i : Nat} (e : EnvOk c H0 B H σ ρ) (st : Step B0 H0 B H) (h : ρ[i]? = some (.mk kvs)) : ∃ a ks, H a = some (.dK ks) ∧ ∀ o, ∃ B', Step B0 H0 B' (upd H a (.frz o (.dK ks))) ∧ Ex B B' ∧ EnvOk c H0 B' (upd H a (.frz o (.dK ks))) σ (ρ.set i (.i (.dk kvs))) := by
  obtain ⟨a, ks, ea, h1, h2, h3, h4⟩ := e.at_ i _ h
  refine ⟨a, ks, h3, fun o => ⟨upd B a (.frz o (.dK ks)), (st.mut h1 h2).fix h1 h2 upd_same, Ex.new h1, by rw [List.length_set]; exact e.len, fun j s hj => ?_, fun j l s t b hjl hs ht ms mt q1 q2 => ?_⟩⟩
  · rw [List.getElem?_set] at hj
    by_cases hij : i = j
    · subst hij
      rw [if_pos rfl] at hj
      by_cases hl : i < ρ.length
      · rw [if_pos hl] at hj
        cases hj
        exact ⟨.ref a, ea, a, o, ks, rfl, upd_same, kp_mono (Ex.new h1) h4⟩
      · rw [if_neg hl] at hj
        cases hj
    · rw [if_neg hij] at hj
      have q := e.at_ j s hj
      cases s with
      | no => exact True.intro
      | i x =>
        obtain ⟨v, e1, r⟩ := q
        exact ⟨v, e1, rp_mono (Ex.new h1) r⟩
      | ml ys =>
        obtain ⟨b, ws, e1, g1, g2, g3, g4⟩ := q
        have hb : b ≠ a := fun z => e.dis i j _ _ a hij h hj rfl rfl ea (by rw [e1, z])
        exact ⟨b, ws, e1, by rw [upd_ne hb]; exact g1, g2, by rw [upd_ne hb]; exact g3, dtall_mono (Ex.new h1) _ _ g4⟩
      | mk ys =>
        obtain ⟨b, ws, e1, g1, g2, g3, g4⟩ := q
        have hb : b ≠ a := fun z => e.dis i j _ _ a hij h hj rfl rfl ea (by rw [e1, z])
        exact ⟨b, ws, e1, by rw [upd_ne hb]; exact g1, g2, by rw [upd_ne hb]; exact g3, kp_mono (Ex.new h1) g4⟩
      | mn ys =>
        obtain ⟨b, ws, e1, g1, g2, g3, g4⟩ := q
        have hb : b ≠ a := fun z => e.dis i j _ _ a hij h hj rfl rfl ea (by rw [e1, z])
        exact ⟨b, ws, e1, by rw [upd_ne hb]; exact g1, g2, by rw [upd_ne hb]; exact g3, Paired.mapP g4 fun p q r => ⟨r.1, dt_mono (Ex.new h1) _ _ r.2.1, dt_mono (Ex.new h1) _ _ r.2.2⟩⟩
  · have key : ∀ (j : Nat) (t : Sl), (ρ.set i (.i (.dk kvs)))[j]? = some t → t.mut = true → ρ[j]? = some t := fun j t h m => by
      rw [List.getElem?_set] at h
      by_cases hij : i = j
      · rw [if_pos hij] at h
        by_cases hl : i < ρ.length
        · rw [if_pos hl] at h
          cases h
          cases m
        · rw [if_neg hl] at h
          cases h
      · rw [if_neg hij] at h
        exact h
    exact e.dis j l s t b hjl (key j s hs ms) (key l t ht mt) ms mt q1 q2
theorem sts_lock (i : Nat) (h : ρ[i]? = some (.mk kvs)) (k : Sts C X ss (ρ.set i (.i (.dk kvs))) Φ) : Sts C X ss ρ Φ := pss_weak (pss_lock k) fun D σ H ⟨B0, H0, B, ex, s0, en, q⟩ => by
  obtain ⟨a, ks, ha, hh⟩ := en.lock s0 h
  refine ⟨a, _, ha, True.intro, fun o => ?_⟩
  obtain ⟨B', s1, eb, e1⟩ := hh o
  exact tS_grow (σ := σ) (H := H) (ρ := ρ) ex s1 eb e1 q
end
end DL
set_option maxRecDepth 100000
set_option maxHeartbeats 4000000
/-! the data layer, 12: dict(..), .items(), .values() -/
namespace DL
open PySem PySem.Spec PyProof.Rows L2 SlX
open PySem.W (EachIs KdxG)

/-! ### many objects at once -/
theorem Inv.grow {X : Cx} {pins : List (Addr × Obj)} {σ : L2.St} {H H' : Hp} {s : Shared} {h' : Heap} {tk : Nat} {dr} (I : Inv X pins σ H s) (hk : ∀ b o, s.heap.get? b = some o → h'.get? b = some o) (kp : Ex H H')
    (new : ∀ b u, H' b = some u → H b = some u ∨ (s.heap.objs.size ≤ b ∧ ObjOk X.prog X.w H' h' b u)) : Inv X pins σ H' { s with heap := h', toks := tk, drawn := dr } := by
  refine I.call' (ch := []) rfl ⟨fun b o q _ _ _ => hk b o q, fun b o q _ _ _ => ⟨o.slots, hk b o q⟩, fun b o q n _ => ?_, fun b o q _ => ⟨o, hk b o q⟩, fun b xs q => kp b _ q, fun b o u q => kp b _ q, fun b ps q => ⟨#[], by rw [kp b _ q]; simp⟩⟩ (fun b u q => ?_) I.bare fun b z => by simp at z
  · cases e : H' b with
    | none => rfl
    | some u =>
      rcases new b u e with z | ⟨z, _⟩
      · rw [n] at z
        cases z
      · exact absurd (Heap.lt_size q) (Nat.not_lt.mpr z)
  · rcases new b u q with z | ⟨_, z⟩
    · exact (I.hok b u z).stay (fun d v _ y => hk d v y) (fun d y => kp d _ y) fun d xs y => kp d _ y
    · exact z
def putL (H : Hp) (l : List (Addr × HO)) : Hp := fun b => ((l.find? fun p => decide (p.1 = b)).map (·.2)).or (H b)
theorem putL_some {H : Hp} {l : List (Addr × HO)} {b : Addr} {o : HO} (h : H b = some o) (hn : ∀ p ∈ l, H p.1 = none) : putL H l b = some o := by
  unfold putL
  cases e : l.find? fun p => decide (p.1 = b) with
  | none => exact h
  | some p =>
    have h1 := List.find?_some e
    have h2 := hn p (List.mem_of_find?_eq_some e)
    have h3 : p.1 = b := of_decide_eq_true h1
    rw [h3, h] at h2
    cases h2
theorem putL_mem {H : Hp} {l : List (Addr × HO)} {b : Addr} {o : HO} (h : putL H l b = some o) : H b = some o ∨ (b, o) ∈ l := by
  unfold putL at h
  cases e : l.find? fun p => decide (p.1 = b) with
  | none =>
    rw [e] at h
    exact .inl h
  | some p =>
    rw [e] at h
    have h0 := List.find?_some e
    have h1 : p.1 = b := of_decide_eq_true h0
    have h2 := List.mem_of_find?_eq_some e
    have h3 : p.2 = o := Option.some.inj h
    refine .inr ?_
    rw [← h1, ← h3]
    exact h2
theorem putL_at {H : Hp} {l : List (Addr × HO)} {b : Addr} {o : HO} (hd : (l.map (·.1)).Nodup) (h : (b, o) ∈ l) : putL H l b = some o := by
  unfold putL
  have : (l.find? fun p => decide (p.1 = b)) = some (b, o) := by
    induction l with
    | nil => cases h
    | cons p l ih =>
      rw [List.find?_cons]
      rw [List.map_cons, List.nodup_cons] at hd
      rcases List.mem_cons.mp h with rfl | h
      · simp
      · have hne : ¬ p.1 = b := fun z => hd.1 (by rw [z]; exact List.mem_map.mpr ⟨_, h, rfl⟩)
        simp only [hne, decide_false]
        exact ih hd.2 h
  rw [this]
  rfl
theorem Step.puts {B H : Hp} {l : List (Addr × HO)} (ex : Ex B H) (hn : ∀ p ∈ l, H p.1 = none) : Step B H (putL B l) (putL H l) := by
  have hb : ∀ p ∈ l, B p.1 = none := fun p hp => ex.free (hn p hp)
  refine ⟨fun a o h => putL_some h hb, fun a o h => ?_, fun a o h1 h2 => ⟨?_, putL_some h2 hn⟩⟩
  · unfold putL at h ⊢
    cases e : l.find? fun p => decide (p.1 = a) with
    | none =>
      rw [e] at h
      exact ex a o h
    | some p =>
      rw [e] at h
      exact h
  · cases e : putL B l a with
    | none => rfl
    | some u =>
      rcases putL_mem e with z | z
      · rw [h1] at z
        cases z
      · have := hn _ z
        rw [h2] at this
        cases this
/-! ### pairs -/
def pairD (p : Str × D) : D := .tuple [.str p.1, p.2]
section
variable {X : Cx} {pins : List (Addr × Obj)} {σ : L2.St} {H B : Hp} {s : Shared}
theorem tup_obj (I : Inv X pins σ H s) {a : Addr} {xs : List V} (h : TupAt H a xs) : ∃ o its n, s.heap.get? a = some o ∧ o.cls = .type "tuple" ∧ o.dict = none ∧ o.data = .seq (List.toArray its) n ∧ Vals xs its ∧ its.length ≤ sizeLine := by
  obtain ⟨o, ho, hd⟩ := h
  obtain ⟨hob, sz, its, rv, o2, ho2, hc, n, hdat⟩ := (show ObjOk X.prog X.w H s.heap a (.frz o (.tup xs)) from I.hok a _ ho)
  rw [hob] at ho2
  cases ho2
  exact ⟨o, its, n, hob, hc, hd, hdat, rv, by rw [← rv.length]; exact sz⟩
theorem pairs_at (I : Inv X pins σ H s) (ex : Ex B H) : ∀ {kvs : SD} {xs : List V} {its : List Value}, DtAll B xs (kvs.map pairD) → Vals xs its → ∃ (Ts : List Addr) (ps : List (Value × Value)) (ks : List (Key × V)) (vs : List (Key × Value)),
    its = Ts.map Value.ref ∧ Paired (fun (T : Addr) (p : Value × Value) => PairAt s.heap T p.1 p.2) Ts ps ∧ KP B ks kvs ∧ KV ks vs ∧ Paired (fun (q : Key × Value) (p : Value × Value) => (mixKind X.prog X.w).is q.1 p.1 = true ∧ q.2 = p.2) vs ps
  | [], _, _, h, r => by
    cases h
    cases r
    exact ⟨[], [], [], [], rfl, .nil, .nil, .nil, .nil⟩
  | p :: kvs, _, _, h, r => by
    cases h with
    | cons h1 h2 =>
      cases r with
      | @cons _ u _ us r1 r2 =>
        obtain ⟨Ts, ps, ks, vs, e1, e2, e3, e4, e5⟩ := pairs_at I ex h2 r2
        have h1' : Dt B _ (.tuple [.str p.1, p.2]) := h1
        cases h1' with
        | @tup a ys _ ha hd =>
          cases r1
          obtain ⟨o, its, n, g1, g2, g3, g4, g5, g6⟩ := tup_obj I (ha.mono ex)
          cases hd with
          | cons d1 d2 =>
            cases d2 with
            | cons d2 d3 =>
              cases d3
              cases d1
              cases g5 with
              | cons q1 q2 =>
                cases q2 with
                | @cons _ z _ _ q2 q3 =>
                  cases q3
                  obtain ⟨t, rfl⟩ := q1
                  exact ⟨a :: Ts, (Value.str p.1 t, z) :: ps, (Sum.inr p.1, _) :: ks, (Sum.inr p.1, z) :: vs, by rw [List.map_cons, e1], .cons (.inl ⟨o, g1, g2, n, g4⟩) e2, .cons ⟨rfl, d2⟩ e3, .cons ⟨rfl, q2⟩ e4, .cons ⟨mixKind_str _ _ _ _, rfl⟩ e5⟩
end
theorem stored_new {K : Type} [DecidableEq K] {acc : List (K × Value)} {k : K} {v : Value} (h : k ∉ acc.map (·.1)) : stored acc k v = acc ++ [(k, v)] := by
  unfold stored
  rw [if_neg]
  intro z
  obtain ⟨p, hp, e⟩ := List.any_eq_true.mp z
  exact h (List.mem_map.mpr ⟨p, hp, of_decide_eq_true e⟩)
theorem merged_new {K : Type} [DecidableEq K] : ∀ (more acc : List (K × Value)), (more.map (·.1)).Nodup → (∀ k ∈ more.map (·.1), k ∉ acc.map (·.1)) → merged acc more = acc ++ more
  | [], acc, _, _ => (List.append_nil acc).symm
  | p :: more, acc, hn, hd => by
    rw [List.map_cons, List.nodup_cons] at hn
    show merged (stored acc p.1 p.2) more = _
    rw [stored_new (hd p.1 List.mem_cons_self), merged_new more _ hn.2, List.append_assoc]
    · rfl
    · intro k hk hk2
      rw [List.map_append, List.mem_append] at hk2
      rcases hk2 with hk2 | hk2
      · exact hd k (List.mem_cons_of_mem _ hk) hk2
      · have : k = p.1 := by simpa using hk2
        exact hn.1 (this ▸ hk)
theorem kp_keys {B : Hp} : ∀ {ks : List (Key × V)} {kvs : SD}, KP B ks kvs → ks.map (·.1) = kvs.map fun p => Sum.inr p.1
  | _, _, .nil => rfl
  | _, _, .cons h1 h2 => by rw [List.map_cons, List.map_cons, kp_keys h2, h1.1]
theorem nodup_inr {l : List Str} (h : l.Nodup) : (l.map (Sum.inr : Str → Key)).Nodup := by
  rw [List.nodup_iff_pairwise_ne, List.pairwise_map]
  exact List.Pairwise.imp (fun hne z => hne (Sum.inr.inj z)) h
section
variable {C : Addr} {X : Cx} {e f a b : Expr} {es : List Expr} {ss : List Stmt} {ρ : List Sl} {pos p p2 p3 apos mpos cpos : Pos} {d : D} {ds : List D} {Φ : Out → Prop} {n : Nat} {kvs : SD} {k : Str}
/-- dict(a tuple of pairs), no key twice -/
theorem call_dictT (hc : X.calm = true) : CallR X (.type "dict") (fun xs H Q => ∃ a B kvs, xs = [V.ref a] ∧ Ex B H ∧ Dt B (.ref a) (.tuple (kvs.map pairD)) ∧ (kvs.map (·.1)).Nodup ∧ ∀ (p : Addr) (o : Obj) (ks : List (Key × V)), H p = none → KP B ks kvs → Q (.ref p) (upd H p (.frz o (.dK ks)))) := fun pins s σ H xs us Q I r ⟨a, B, kvs, e, ex, hd, hn, q⟩ => by
  subst e
  obtain rfl := Vals.ref1 r
  cases hd with
  | @tup _ ys _ ha hd =>
    obtain ⟨o, its, n, g1, g2, g3, g4, g5, g6⟩ := tup_obj I (ha.mono ex)
    obtain ⟨Ts, ps, ks, vs, e1, e2, e3, e4, e5⟩ := pairs_at I ex hd g5
    have l1 : Ts.length = ps.length := paired_len e2
    have l2 : vs.length = ps.length := paired_len e5
    have l3 : ks.length = vs.length := paired_len e4
    have l4 : ks.length = kvs.length := paired_len e3
    have hits : PairItems s.heap its.toArray (fun j => Ts.getD j 0) ps := by
      refine ⟨by rw [List.size_toArray, e1, List.length_map, l1], fun j k v hj => ?_⟩
      have hjl : j < Ts.length := by rw [l1]; exact (List.getElem?_eq_some_iff.mp hj).1
      obtain ⟨p, hp, hpa⟩ := paired_get e2 (List.getElem?_eq_getElem hjl)
      rw [hj] at hp
      cases hp
      have hT : Ts.getD j 0 = Ts[j] := by rw [List.getD_eq_getElem?_getD, List.getElem?_eq_getElem hjl]; rfl
      refine ⟨?_, ?_⟩
      · show its.toArray[j]? = some (Value.ref (Ts.getD j 0))
        rw [hT, e1]
        simp [hjl]
      · show PairAt s.heap (Ts.getD j 0) k v
        rw [hT]
        exact hpa
    have hkeys : vs.map (·.1) = kvs.map fun p => (Sum.inr p.1 : Key) := by
      rw [← kp_keys e3]
      exact e4.keys.symm
    have hnd : (vs.map (·.1)).Nodup := by
      rw [hkeys]
      have := nodup_inr hn
      rwa [List.map_map] at this
    refine PySem.call_dict_pairs (knd := mixKind X.prog X.w) (kvs := vs) (PairArg.tuple a its.toArray (fun j => Ts.getD j 0) ps) (I.ok.hd hc) ⟨⟨o, n, g1, g2, g3, g4⟩, hits⟩ ⟨l2, fun i key v hi => ?_⟩ (by rw [← l1]; rw [e1, List.length_map] at g6; exact g6) fun h' tk hd' hk => ?_
    · have hi' : ps[i]? = some (key, v) := hi
      have hil : i < vs.length := by rw [l2]; exact (List.getElem?_eq_some_iff.mp hi').1
      obtain ⟨p, hp, h1, h2⟩ := paired_get e5 (List.getElem?_eq_getElem hil)
      rw [hi'] at hp
      cases hp
      exact ⟨vs[i].1, by rw [List.getElem?_eq_getElem hil]; exact congrArg some (Prod.ext rfl h2), h1⟩
    · rw [merged_new vs [] hnd (fun _ _ z => by cases z), List.nil_append] at hd'
      have hlaid : Inv X pins σ (upd H s.heap.objs.size (.dK ks)) { s with heap := h', toks := tk } := I.laid (t' := tk) (fun b u q => hk b u (fun z => by cases z) q) (Nat.le_refl _)
        (dk_new (by rw [l3, l2, ← l1]; rw [e1, List.length_map] at g6; exact g6) (beq_eq_false_iff_ne.mpr (Ne.symm (Nat.ne_of_lt I.big))) e4 hd')
      obtain ⟨od, I2⟩ := hlaid.lock (d := s.heap.objs.size) upd_same True.intro
      have hup : upd (upd H s.heap.objs.size (.dK ks)) s.heap.objs.size (.frz od (.dK ks)) = upd H s.heap.objs.size (.frz od (.dK ks)) := by
        funext x
        by_cases hx : x = s.heap.objs.size
        · rw [hx, upd_same, upd_same]
        · rw [upd_ne hx, upd_ne hx, upd_ne hx]
      rw [hup] at I2
      exact ⟨.ref _, _, I2, rfl, q _ od ks (I.hok.fresh (Nat.le_refl _)) e3⟩
theorem ev_dictT (hn : (kvs.map (·.1)).Nodup) (he : Ev C X e ρ (.d (.tuple (kvs.map pairD)))) (hm : X.mg "dict" = none) (hc : X.calm = true := by rfl) (hg : Gl X "dict" := by rfl) (h1 : starEach [e] X.env = (false, eval e X.env) :: starEach [] X.env := by rfl) (hpl : (backTo pos (starEach [] X.env)).any (·.1) = false := by rfl) : Ev C X (.Call (.Name "dict" p) [e] [] pos) ρ (.dk kvs) :=
  pe_weak (pe_callTy (call_dictT hc) hg hm (by decide +kernel) (pa_cons he pa_nil h1) (by decide) (by decide) h1 hpl) fun σ H Q ⟨H0, B, ex, en, q⟩ => ⟨H0, B, ex, en, fun v B1 H1 s1 r1 => by
    cases r1 with
    | @tup a xs _ ha hd =>
      refine ⟨a, B1, kvs, rfl, s1.t, .tup ha hd, hn, fun l o ks hl hk => ?_⟩
      have st := Step.new (o := .frz o (.dK ks)) s1.t hl
      exact q _ _ _ (s1.trans st) ⟨l, o, ks, rfl, upd_same, kp_mono st.b hk⟩⟩
end
end DL
set_option maxRecDepth 100000
set_option maxHeartbeats 4000000
/-! the data layer, 13: sorted(d.items()), x not in d.values() -/
namespace DL
open PySem PySem.Spec PyProof.Rows L2 SlX
open PySem.W (EachIs KdxG AllAlike Sortable dataLe)

def plus (F : Addr → Option HO) (H : Hp) : Hp := fun b => (F b).or (H b)
theorem plus_old {F : Addr → Option HO} {H : Hp} {b : Addr} {o : HO} (hF : ∀ b o, F b = some o → H b = none) (h : H b = some o) : plus F H b = some o := by
  unfold plus
  cases e : F b with
  | none => exact h
  | some u =>
    rw [hF b u e] at h
    cases h
theorem plus_new {F : Addr → Option HO} {H : Hp} {b : Addr} {o : HO} (h : F b = some o) : plus F H b = some o := by
  unfold plus
  rw [h]
  rfl
theorem plus_or {F : Addr → Option HO} {H : Hp} {b : Addr} {o : HO} (h : plus F H b = some o) : H b = some o ∨ F b = some o := by
  unfold plus at h
  cases e : F b with
  | none =>
    rw [e] at h
    exact .inl h
  | some u =>
    rw [e] at h
    exact .inr h
theorem Step.plus {B H : Hp} {F : Addr → Option HO} (ex : Ex B H) (hF : ∀ b o, F b = some o → H b = none) : Step B H (DL.plus F B) (DL.plus F H) := by
  have hb : ∀ b o, F b = some o → B b = none := fun b o h => ex.free (hF b o h)
  refine ⟨fun a o h => plus_old hb h, fun a o h => ?_, fun a o h1 h2 => ⟨?_, plus_old hF h2⟩⟩
  · rcases plus_or h with z | z
    · exact plus_old hF (ex a o z)
    · exact plus_new z
  · cases e : DL.plus F B a with
    | none => rfl
    | some u =>
      rcases plus_or e with z | z
      · rw [h1] at z
        cases z
      · have := hF _ _ z
        rw [h2] at this
        cases this
section
variable {C : Addr} {X : Cx} {e f a b : Expr} {es : List Expr} {ss : List Stmt} {ρ : List Sl} {pos p p2 p3 apos mpos cpos : Pos} {d : D} {ds : List D} {Φ : Out → Prop} {n : Nat} {kvs : SD} {k : Str}
theorem key_inj {β : Type} : ∀ {l : List (Str × β)} {a b : Str × β}, (l.map (·.1)).Nodup → a ∈ l → b ∈ l → a.1 = b.1 → a = b
  | [], _, _, _, h, _, _ => by cases h
  | q :: l, a, b, hn, ha, hb, e => by
    rw [List.map_cons, List.nodup_cons] at hn
    rcases List.mem_cons.mp ha with h1 | h1
    · rcases List.mem_cons.mp hb with h2 | h2
      · rw [h1, h2]
      · exact absurd (by rw [← h1, e]; exact List.mem_map.mpr ⟨b, h2, rfl⟩) hn.1
    · rcases List.mem_cons.mp hb with h2 | h2
      · exact absurd (by rw [← h2, ← e]; exact List.mem_map.mpr ⟨a, h1, rfl⟩) hn.1
      · exact key_inj hn.2 h1 h2 e
def pairO (key x : Value) : Obj := { cls := .type "tuple", data := .seq #[key, x] }
/-- the pair b stands new at T -/
structure GoodT (B : Hp) (lo : Addr) (h : Heap) (kvs : SD) (T : Addr) (b : Str × D) (v : V) : Prop where
  mem : b ∈ kvs
  new : lo < T
  at_ : ∃ t x, h.get? T = some (pairO (.str b.1 t) x) ∧ RelV v x
  d : Dt B v b.2
open Classical in
noncomputable def goodF (B : Hp) (lo : Addr) (h : Heap) (kvs : SD) : Addr → Option HO := fun T => if hh : ∃ z : (Str × D) × V, GoodT B lo h kvs T z.1 z.2 then
  (match h.get? T with
  | some o => some (.frz o (.tup [.str hh.choose.1.1, hh.choose.2]))
  | none => none) else none
theorem goodF_at {B : Hp} {lo : Addr} {h : Heap} {T : Addr} {b : Str × D} {v : V} (hn : (kvs.map (·.1)).Nodup) (g : GoodT B lo h kvs T b v) : ∃ o v', goodF B lo h kvs T = some (.frz o (.tup [.str b.1, v'])) ∧ o.dict = none ∧ Dt B v' b.2 := by
  have hh : ∃ z : (Str × D) × V, GoodT B lo h kvs T z.1 z.2 := ⟨(b, v), g⟩
  have hc := hh.choose_spec
  obtain ⟨t, x, hx, rx⟩ := g.at_
  obtain ⟨t2, x2, hx2, rx2⟩ := hc.at_
  rw [hx] at hx2
  have e1 : Value.str b.1 t = .str hh.choose.1.1 t2 := by
    have := congrArg (fun o : Option Obj => match o with | some o => (match o.data with | .seq vs _ => vs[0]? | _ => none) | none => none) hx2
    exact Option.some.inj this
  have e2 : hh.choose.1.1 = b.1 := by
    injection e1 with z _
    exact z.symm
  have e3 : hh.choose.1 = b := key_inj hn hc.mem g.mem e2
  refine ⟨pairO (.str b.1 t) x, hh.choose.2, ?_, rfl, ?_⟩
  · unfold goodF
    rw [dif_pos hh, hx]
    show some (HO.frz (pairO (.str b.1 t) x) (.tup [.str hh.choose.1.1, hh.choose.2])) = _
    rw [e2]
  · rw [← e3]
    exact hc.d
theorem goodF_new {B : Hp} {lo : Addr} {h : Heap} {T : Addr} {o : HO} (e : goodF B lo h kvs T = some o) : lo < T ∧ ∃ ob xs, h.get? T = some ob ∧ o = .frz ob (.tup xs) ∧ ∃ (t : Str × Tok) (x : Value) (v : V), ob = pairO (.str t.1 t.2) x ∧ xs = [.str t.1, v] ∧ RelV v x := by
  unfold goodF at e
  by_cases hh : ∃ z : (Str × D) × V, GoodT B lo h kvs T z.1 z.2
  · rw [dif_pos hh] at e
    obtain ⟨t, x, hx, rx⟩ := hh.choose_spec.at_
    rw [hx] at e
    exact ⟨hh.choose_spec.new, _, _, hx, (Option.some.inj e).symm, (hh.choose.1.1, t), x, hh.choose.2, rfl, rfl, rx⟩
  · rw [dif_neg hh] at e
    cases e
theorem each_imp {α β : Type} {R R' : α → β → Prop} : ∀ {us : List α} {bs : List β}, EachIs R us bs → (∀ u b, R u b → R' u b) → EachIs R' us bs
  | _, _, .nil, _ => .nil
  | _, _, .cons h t, k => .cons (k _ _ h) (each_imp t k)
theorem good_vals {B' : Hp} : ∀ {us : List Value} {bs : SD}, EachIs (fun u b => ∃ T, u = Value.ref T ∧ Dt B' (.ref T) (pairD b)) us bs → ∃ vs, Vals vs us ∧ DtAll B' vs (bs.map pairD)
  | _, _, .nil => ⟨[], .nil, .nil⟩
  | _, _, .cons ⟨T, e, h⟩ t => by
    obtain ⟨vs, r, q⟩ := good_vals t
    exact ⟨.ref T :: vs, .cons e r, .cons h q⟩
theorem map_sort (bs : SD) : (bs.mergeSort (dataLe false pairD)).map pairD = sortD (bs.map pairD) := by
  unfold sortD
  have key : ∀ a b : Str × D, dataLe false pairD a b = dataLe false id (pairD a) (pairD b) := fun _ _ => rfl
  rw [List.map_mergeSort (r := dataLe false pairD) (s := dataLe false id) (f := pairD) (fun a _ b _ => key a b)]
theorem each_ix {α β : Type} {R : α → β → Prop} : ∀ {us : List α} {bs : List β}, us.length = bs.length → (∀ (j : Nat) u b, us[j]? = some u → bs[j]? = some b → R u b) → EachIs R us bs
  | [], [], _, _ => .nil
  | [], _ :: _, h, _ => by cases h
  | _ :: _, [], h, _ => by cases h
  | u :: us, b :: bs, h, k => .cons (k 0 u b rfl rfl) (each_ix (by simpa using h) fun j u b h1 h2 => k (j + 1) u b h1 h2)
theorem ef_sortedItems (hn : (kvs.map (·.1)).Nodup) (ok : Okays (kvs.map pairD)) (he : Ev C X e ρ (.dk kvs)) (hm : X.mg "sorted" = none) (hr : Room n X.A) (hc : X.calm = true := by rfl) (hg : Gl X "sorted" := by rfl)
    (hbase : attributeBase e "items" X.env (eval e X.env) = eval e X.env := by rfl) (hline : (apos.endLine == mpos.line) = true := by rfl)
    (hs : starEach [Expr.Call (.Attribute e "items" apos) [] [] mpos] X.env = [(false, eval (Expr.Call (.Attribute e "items" apos) [] [] mpos) X.env)] := by rfl) :
    EvF C X (.Call (.Name "sorted" p) [.Call (.Attribute e "items" apos) [] [] mpos] [] pos) ρ (sortD (kvs.map pairD)) := by
  refine ⟨fun pins s σ H Q I ⟨H0, B, ex, en, q⟩ => ?_⟩
  refine wpAny_Call_Name_kw (ld_blt I hg hm (u := .builtin "sorted") boot_sorted ?_ (by decide) (by decide))
  rw [hs]
  refine PySem.callWith_builtin1 (wpAny_Call_method0_late hbase hline (thn (he.run pins s σ H _ I ⟨H0, B, ex, en, fun v B1 H1 s1 r1 => (show ∃ B1, Step B H B1 H1 ∧ Rp (ct X C) B1 v (.dk kvs) from ⟨B1, s1, r1⟩)⟩) fun v s1 ⟨x, H1, I1, rx, B1, st1, r1⟩ => ?_))
  obtain ⟨a, oa, ks, rfl, ha, hp⟩ := r1
  obtain rfl : v = Value.ref a := rx
  obtain ⟨hz, hsys, vs, rel, dof⟩ := dk_rd I1.hok (.inr ⟨oa, st1.t _ _ ha⟩)
  obtain ⟨ep, dat⟩ := dof.dictAt
  refine ⟨"dict", "dict.items", F.plainAttrs_dict, F.slot_dict_items, F.type_dict_items, dof.typeIs, dof.mapOf.noDict, Calls.callWith_builtin rfl (PySem.evalArgs_none ?_)⟩
  refine call_meetsIn F.slot_dict_items dof.typeIs F.entry_dict_items (F.args_dict_items_1 _) (meets_dict_items (mixKind X.prog X.w) a hsys) ⟨⟨vs, dof⟩, ?_⟩
  have I2 : Inv X pins σ H1 { s1 with heap := s1.heap.push { cls := .type "dict_items", data := .fields #[.ref a] } } := I1.kept (t' := s1.toks) fun b ob q => Heap.get?_push_of_some _ q
  have ex1 : Ex B1 H1 := st1.t
  have hlen : vs.length = kvs.length := rel.length.symm.trans (paired_len hp)
  have hkz : kvs.length ≤ sizeLine := by rw [← hlen, ← rel.length]; exact hz
  have hpush : ∀ b o, s1.heap.get? b = some o → (s1.heap.push { cls := .type "dict_items", data := .fields #[.ref a] }).get? b = some o := fun b o e => Heap.get?_push_of_some _ e
  refine sorted_from (enc := pairD) (bs := kvs) (Rr := fun h' us => ∃ as : List Addr, us = as.map Value.ref ∧ as.length = vs.length ∧ KdxG (mixKind X.prog X.w) vs (s1.heap.push { cls := .type "dict_items", data := .fields #[.ref a] }).objs.size h' as)
    (R := fun h' u b => ∃ T v, u = Value.ref T ∧ GoodT B1 (s1.heap.push { cls := .type "dict_items", data := .fields #[.ref a] }).objs.size h' kvs T b v) (fun Q' hq => ?_) (fun h' us k ⟨as, e, hl, hG⟩ => ?_) ok.al ok.so hkz (fun b hb => ?_) fun h1 us k1 _ h' tk dr D out c k2 hD ho he => ?_
  · exact PySem.W.kdx_collect (knd := mixKind X.prog X.w) (I.ok.hd hc) ⟨_, Heap.get?_push_size _ rfl, rfl, rfl⟩ (dat.push _) (by rw [hlen]; exact hkz) fun h' tk as k hl hG => hq h' tk s1.drawn _ k ⟨as, rfl, hl, hG⟩
  · subst e
    have at_ : ∀ (j : Nat) (u : Value) (b : Str × DL.D), (as.map Value.ref)[j]? = some u → kvs[j]? = some b → ∃ T v, u = Value.ref T ∧ GoodT B1 (s1.heap.push { cls := .type "dict_items", data := .fields #[.ref a] }).objs.size h' kvs T b v := fun j u b hu hb => by
      rw [List.getElem?_map] at hu
      obtain ⟨T, hT, rfl⟩ := Option.map_eq_some_iff.mp hu
      obtain ⟨key, kk, x, f1, f2, f3⟩ := hG.pairs j T hT
      have hjk : j < ks.length := by
        rw [paired_len hp]
        exact (List.getElem?_eq_some_iff.mp hb).1
      obtain ⟨q1, g1, g2⟩ := paired_get hp (List.getElem?_eq_getElem hjk)
      rw [hb] at g1
      cases g1
      obtain ⟨q2, g3, g4, g5⟩ := paired_get rel (List.getElem?_eq_getElem hjk)
      rw [f1] at g3
      cases g3
      have rk : RelV (kV ks[j].1) key := by
        have e4 : ks[j].1 = kk := g4
        rw [e4]
        exact relV_key (show keyIs kk key = true from f2)
      rw [g2.1] at rk
      obtain ⟨t, rfl⟩ := rk
      exact ⟨T, ks[j].2, rfl, List.mem_of_getElem? hb, hG.above T (List.mem_of_getElem? hT), ⟨t, x, f3, g5⟩, g2.2⟩
    have hle : (as.map Value.ref).length = kvs.length := by rw [List.length_map, hl, hlen]
    refine ⟨each_ix hle at_, each_ix hle fun j u b hu hb => ?_⟩
    obtain ⟨T, v, rfl, g⟩ := at_ j u b hu hb
    obtain ⟨t, x, hx, rx⟩ := g.at_
    obtain ⟨as2, r2⟩ := Dp.reads I2 _ _ _ (dt_dp _ _ (dt_mono ex1 _ _ g.d)) rx
    exact ⟨_, .tuple hx rfl rfl (.cons (.str _ _) (.cons (PyProof.Rows.Reads.keeps k r2) .nil))⟩
  · have := ok.dp (pairD b) (List.mem_map.mpr ⟨b, hb, rfl⟩)
    have hun : X.A.units + 64 < cLine := hr.units
    show X.A.units + 2 + (pairD b).depth < cLine
    omega
  · have hF : ∀ b o, goodF B1 (s1.heap.push { cls := .type "dict_items", data := .fields #[.ref a] }).objs.size h1 kvs b = some o → H1 b = none := fun b o e => I2.hok.fresh (Nat.le_of_lt (goodF_new e).1)
    have hle1 : (s1.heap.push { cls := .type "dict_items", data := .fields #[.ref a] }).objs.size ≤ h1.objs.size := by
      rw [Heap.size_push]
      exact Heap.lt_size (k1 _ _ (Heap.get?_push_size _ rfl))
    have hD1 : H1 D = none := I2.hok.fresh (Nat.le_trans hle1 hD)
    have hFD : goodF B1 (s1.heap.push { cls := .type "dict_items", data := .fields #[.ref a] }).objs.size h1 kvs D = none := by
      cases e : goodF B1 (s1.heap.push { cls := .type "dict_items", data := .fields #[.ref a] }).objs.size h1 kvs D with
      | none => rfl
      | some u =>
        obtain ⟨_, ob, xs, hob, _⟩ := goodF_new e
        exact absurd (Heap.lt_size hob) (Nat.not_lt.mpr hD)
    have stp := Step.plus ex1 hF
    have hD2 : plus (goodF B1 (s1.heap.push { cls := .type "dict_items", data := .fields #[.ref a] }).objs.size h1 kvs) H1 D = none := by
      unfold plus
      rw [hFD, hD1]
      rfl
    obtain ⟨ws, rw1, dw⟩ := good_vals (B' := plus (goodF B1 (s1.heap.push { cls := .type "dict_items", data := .fields #[.ref a] }).objs.size h1 kvs) B1) (each_imp he fun u b ⟨T, v, e, g⟩ => by
      obtain ⟨o, v', g1, g2, g3⟩ := goodF_at hn g
      exact ⟨T, e, .tup ⟨o, plus_new g1, g2⟩ (.cons (.str _) (.cons (dt_mono stp.b _ _ g3) .nil))⟩)
    have stl := Step.aside (o := .lst ws) stp.t hD2
    rw [map_sort] at dw
    have hwl : ws.length ≤ sizeLine := by
      rw [dtall_len dw]
      unfold sortD
      rw [List.length_mergeSort, List.length_map]
      exact hkz
    refine ⟨.ref D, _, Inv.grow (tk := tk) (dr := dr) I2 (fun b o e => k2 b o (k1 b o e)) (Step.ex ex1 (stp.trans stl)) (fun b u e => ?_), rfl, q D ws _ _ (st1.trans (stp.trans stl)) ((Step.ex ex st1).free hD1) (stp.t.free hD2) upd_same dw⟩
    by_cases hb : b = D
    · subst hb
      rw [upd_same] at e
      cases e
      exact .inr ⟨Nat.le_trans hle1 hD, hwl, out, c, rw1, ho⟩
    · rw [upd_ne hb] at e
      rcases plus_or e with z | z
      · exact .inl z
      · obtain ⟨z1, ob, xs, z2, rfl, t, x, v, rfl, rfl, rx⟩ := goodF_new z
        have z3 := k2 b _ z2
        exact .inr ⟨Nat.le_of_lt z1, z3, by show 2 ≤ sizeLine; decide, [.str t.1 t.2, x], .cons ⟨_, rfl⟩ (.cons rx .nil), ⟨_, z3, rfl, _, rfl⟩⟩
end
end DL
set_option maxRecDepth 100000
set_option maxHeartbeats 4000000
/-! the data layer, 14: x not in d.values() -/
namespace DL
open PySem PySem.Spec PyProof.Rows L2 SlX

theorem plain_ci : plainId "proto.contains_iter" = true := by decide +kernel
theorem entry_ci : entryFor table "proto.contains_iter" = some Builtin.«proto.contains_iter» := entryFor_of_fast (by kernel_rfl)
theorem vals_no_contains : typeLookup (.type "dict_values") "__contains__" = pure none := am_miss_of_fast (by decide +kernel)
section
variable {prog : Program} {w : World} {A : Around}
theorem ci_loop {it d : Addr} {ep : Nat} {vs : List (Key × Value)} {x : Value} {e : Nat → Bool} {s : Shared} {R : Result → Shared → Prop} (hh : A.handled = none) (hne : d ≠ it) (he : ∀ j p, vs[j]? = some p → ∀ A s, SeqAt.EqAt A s p.2 x (e j))
    (hR : ∀ h' tk, (∀ b o, b ≠ it → s.heap.get? b = some o → h'.get? b = some o) → R (.ok (.ret (.bool ((List.range vs.length).any e)))) { s with heap := h', toks := tk }) :
    ∀ (k i : Nat) (h : Heap) (tk : Tok), vs.length - i = k → i ≤ vs.length → (∀ j, j < i → e j = false) → h.IsValIter it d i vs.length ep → h.DictAt (mixKind prog w) d vs ep → (∀ b o, b ≠ it → s.heap.get? b = some o → h.get? b = some o) →
      codeAny (model prog w) A (.builtin "proto.contains_iter" ⟨[.ref it, x], []⟩) R { s with heap := h, toks := tk } := by
  intro k
  induction k with
  | zero =>
    intro i h tk hk hi hf hit hm hkeep
    have hin : i = vs.length := by omega
    subst hin
    refine codeAny_builtin entry_ci ?_
    rw [Around.under_plainId plain_ci _]
    show wpAny _ A.in1 (pyNext (.ref it) >>= _) _ _ _
    refine wpAny_bind (wpAny_pyNext_values_end (A := A.in1) (knd := mixKind prog w) (kvs := vs) hh hit hm (List.getElem?_eq_none (Nat.le_refl _)) fun h' hx => ?_)
    have hany : (List.range vs.length).any e = false := by
      rw [List.any_eq_false]
      intro j hj
      rw [hf j (List.mem_range.mp hj)]
      exact Bool.false_ne_true
    have := hR h' tk fun b o h1 h2 => hx b o h1 (hkeep b o h1 h2)
    rw [hany] at this
    exact wpAny_bind (wpAny_rule (wpAny_pure this))
  | succ k ih =>
    intro i h tk hk hi hf hit hm hkeep
    have hlt : i < vs.length := by omega
    obtain ⟨⟨key, v⟩, hx⟩ : ∃ p, vs[i]? = some p := ⟨vs[i], List.getElem?_eq_getElem hlt⟩
    refine codeAny_builtin entry_ci ?_
    rw [Around.under_plainId plain_ci _]
    show wpAny _ A.in1 (pyNext (.ref it) >>= _) _ _ _
    refine wpAny_bind (wpAny_pyNext_values_item (A := A.in1) (knd := mixKind prog w) (kvs := vs) hit hm hx fun h' hit' hs => ?_)
    refine wpAny_bind (he i _ hx _ _ prog w _ _ ?_)
    have keep' : ∀ b o, b ≠ it → s.heap.get? b = some o → h'.get? b = some o := fun b o h1 h2 => by
      rw [hs.2 b h1]
      exact hkeep b o h1 h2
    cases hei : e i with
    | true =>
      have hany : (List.range vs.length).any e = true := List.any_eq_true.mpr ⟨i, List.mem_range.mpr hlt, hei⟩
      have := hR h' tk keep'
      rw [hany] at this
      rw [if_pos rfl]
      exact wpAny_bind (wpAny_rule (wpAny_pure this))
    | false =>
      refine wpAny_pure ⟨plainId_quiet plain_ci _, ih (i + 1) h' tk (by omega) hlt (fun j hj => ?_) hit' (hm.extBut hs.extBut hne) keep'⟩
      by_cases hji : j = i
      · rw [hji]
        exact hei
      · exact hf j (by omega)
def ixB {β : Type} (l : List β) (f : β → Bool) (j : Nat) : Bool := match l[j]? with
  | some b => f b
  | none => false
theorem any_of {β : Type} (l : List β) (f : β → Bool) : (List.range l.length).any (ixB l f) = l.any f := by
  rw [Bool.eq_iff_iff, List.any_eq_true, List.any_eq_true]
  unfold ixB
  constructor
  · rintro ⟨j, hj, h⟩
    have hj' := List.mem_range.mp hj
    rw [List.getElem?_eq_getElem hj'] at h
    exact ⟨l[j], List.getElem_mem hj', h⟩
  · rintro ⟨b, hb, h⟩
    obtain ⟨j, hj⟩ := List.mem_iff_getElem?.mp hb
    exact ⟨j, List.mem_range.mpr (List.getElem?_eq_some_iff.mp hj).1, by rw [hj]; exact h⟩
end
section
variable {C : Addr} {X : Cx} {e f a b : Expr} {es : List Expr} {ss : List Stmt} {ρ : List Sl} {pos p p2 p3 apos mpos cpos : Pos} {d : D} {n : Nat} {kvs : SD} {x : Str}
theorem et_niVals {k : Bool} (hv : ∀ p ∈ kvs, ∃ s, p.2 = .str s) (hk : (!(kvs.any fun p => PyData.eqv p.2 (.str x))) = k) (ha : Ev C X a ρ (.d (.str x))) (he : Ev C X e ρ (.dk kvs)) (hc : X.calm = true := by rfl)
    (hbase : attributeBase e "values" X.env (eval e X.env) = eval e X.env := by rfl) (hline : (apos.endLine == mpos.line) = true := by rfl) (hm : behindInMarks .NotIn (.Call (.Attribute e "values" apos) [] [] mpos) = false := by rfl) :
    EvT C X (.Compare a [.NotIn] [.Call (.Attribute e "values" apos) [] [] mpos] pos) ρ k := by
  subst hk
  refine ⟨fun pins s σ H Q I ⟨H0, B, ex, en, q⟩ => ?_⟩
  refine wpAny_isTrue_Compare1 (thn (ha.run pins s σ H _ I ⟨H0, B, ex, en, fun v B1 H1 s1 r1 => (show v = .str x ∧ ∃ B1, Step B H B1 H1 from ⟨by cases r1; rfl, B1, s1⟩)⟩) fun v s1 ⟨y, H1, I1, ry, ey, B1, st1⟩ => ?_) hm
  subst ey
  obtain ⟨t, rfl⟩ := ry
  refine wpAny_Call_method0_late hbase hline (thn (he.run pins s1 σ H1 _ I1 ⟨H0, B1, st1.t, en.step st1, fun v B2 H2 s2 r2 => (show ∃ B2, Step B1 H1 B2 H2 ∧ Rp (ct X C) B2 v (.dk kvs) from ⟨B2, s2, r2⟩)⟩) fun v s2 ⟨z, H2, I2, rz, B2, st2, r2⟩ => ?_)
  obtain ⟨c, oc, ks, rfl, hc', hp⟩ := r2
  obtain rfl : v = Value.ref c := rz
  obtain ⟨hz, hsys, vs, rel, dof⟩ := dk_rd I2.hok (.inr ⟨oc, st2.t _ _ hc'⟩)
  obtain ⟨ep, dat⟩ := dof.dictAt
  refine ⟨"dict", "dict.values", F.plainAttrs_dict, F.slot_dict_values, F.type_dict_values, dof.typeIs, dof.mapOf.noDict, Calls.callWith_builtin rfl (PySem.evalArgs_none ?_)⟩
  refine call_meetsIn F.slot_dict_values dof.typeIs F.entry_dict_values (F.args_dict_values_1 _) (meets_dict_values (mixKind X.prog X.w) c hsys) ⟨⟨vs, dof⟩, ?_⟩
  have hT : Shared.TypeIs { s2 with heap := s2.heap.push { cls := .type "dict_values", data := .fields #[.ref c] } } (.ref s2.heap.objs.size) "dict_values" := ⟨_, Heap.get?_push_size _ rfl, rfl⟩
  have dat1 : (s2.heap.push { cls := .type "dict_values", data := .fields #[.ref c] }).DictAt (mixKind X.prog X.w) c vs ep := dat.push _
  show wpAny _ _ (do return Value.bool (!(← contains (.ref s2.heap.objs.size) (.str x t)))) _ _ _
  refine wpAny_bind ?_
  unfold contains
  refine wpAny_holding ?_
  rw [stdlibNamesSay?_of_typeIs hT]
  refine wpAny_bind (wpAny_specialOf hT vals_no_contains ?_)
  show wpAny _ _ (if ((none : Option Value) == some Value.none) = true then _ else _) _ _ _
  rw [if_neg (by simp)]
  refine wpAny_bind (wpAny_callSpecialUnlessNone?_none hT vals_no_contains ?_)
  refine wpAny_bind (wpAny_rule ?_)
  have hlt : c < s2.heap.objs.size := by
    obtain ⟨_, _, ho, _⟩ := id dat
    exact Heap.lt_size ho
  have hp1 : ∀ b o, s2.heap.get? b = some o → (s2.heap.push { cls := .type "dict_values", data := .fields #[.ref c] }).get? b = some o := fun b o q => Heap.get?_push_of_some _ q
  refine wpAny_bind (wpAny_tryCatch (wpAny_pyIter_values (v := s2.heap.objs.size) (d := c) (knd := mixKind X.prog X.w) (kvs := vs) (ep := ep) ⟨_, Heap.get?_push_size _ rfl, rfl, rfl⟩ dat1 ?_))
  have hsz : (s2.heap.push { cls := .type "dict_values", data := .fields #[.ref c] }).objs.size = s2.heap.objs.size + 1 := Heap.size_push _ _
  have lv : vs.length = ks.length := rel.length.symm
  have lk : ks.length = kvs.length := paired_len hp
  have heq : ∀ (j : Nat) p, vs[j]? = some p → ∀ A s, SeqAt.EqAt A s p.2 (.str x t) (ixB kvs (fun b => PyData.eqv b.2 (.str x)) j) := fun j p hj A s => by
    have hjk : j < ks.length := by
      rw [← lv]
      exact (List.getElem?_eq_some_iff.mp hj).1
    obtain ⟨q1, g1, g2⟩ := paired_get hp (List.getElem?_eq_getElem hjk)
    obtain ⟨q2, g3, g4⟩ := paired_get rel (List.getElem?_eq_getElem hjk)
    rw [hj] at g3
    cases g3
    unfold ixB
    rw [g1]
    obtain ⟨y, hy⟩ := hv q1 (List.mem_of_getElem? g1)
    have g5 := g2.2
    rw [hy] at g5
    have g6 := g4.2
    cases hk : ks[j].2 with
    | str z =>
      rw [hk] at g5 g6
      cases g5
      obtain ⟨t', e'⟩ := g6
      rw [e']
      show SeqAt.EqAt A s _ _ (PyData.eqv q1.2 (.str x))
      rw [hy]
      exact SeqAt.EqAt.str_str _ _ _ _
    | _ =>
      rw [hk] at g5
      cases g5
  refine wpAny_bind (wpAny_runValue (ci_loop (d := c) (ep := ep) (vs := vs) (e := ixB kvs (fun b => PyData.eqv b.2 (.str x))) (s := { s2 with heap := (s2.heap.push { cls := .type "dict_values", data := .fields #[.ref c] }) }) (I.ok.hd hc) (by rw [hsz]; exact Nat.ne_of_lt (Nat.lt_succ_of_lt hlt)) heq (fun h' tk hk => ?_) vs.length 0 _ s2.toks (Nat.sub_zero _) (Nat.zero_le _) (fun j hj => absurd hj (Nat.not_lt_zero _)) ⟨_, Heap.get?_push_size _ rfl, rfl, rfl⟩ (dat1.push _) fun b o _ q => Heap.get?_push_of_some _ q))
  show wpAny _ _ (pure ((List.range vs.length).any _)) _ _ _
  refine wpAny_pure (wpAny_pure (wpAny_truthy_bool ?_))
  have I3 : Inv X pins σ H2 { s2 with heap := h', toks := tk } := I2.kept fun b o q => hk b o (fun z => by
    have := Heap.lt_size q
    rw [z, hsz] at this
    exact absurd this (Nat.not_lt.mpr (Nat.le_succ _))) (hp1 b o q)
  refine ⟨H2, I3, ?_⟩
  rw [lv, lk, any_of]
  exact q B2 H2 (st1.trans st2)
end
end DL
set_option maxRecDepth 100000
set_option maxHeartbeats 4000000
/-! the data layer, 15: zip of two, each a list or a tuple -/
namespace DL
open PySem PySem.Spec PyProof.Rows L2 SlX
open Sem (wp)

/-! ### zip(x, y) -/
def zipOb (n : Nat) : Obj := { cls := .type "zip", data := .fields #[.none, .bool false, .bool false, .ref (n + 2), .ref (n + 3)] }
def zip2 (o1 o2 : Obj) (h : Heap) : Heap := (h.push o1).push o2
def zip4 (o1 o2 : Obj) (h : Heap) : Heap := ((zip2 o1 o2 h).push (tupOb [.ref h.objs.size, .ref (h.push o1).objs.size])).push (tupOb [.none, .none])
def zip5 (o1 o2 : Obj) (h : Heap) : Heap := (zip4 o1 o2 h).push { cls := .type "zip", data := .fields #[.none, .bool false, .bool false, .ref (zip2 o1 o2 h).objs.size, .ref ((zip2 o1 o2 h).push (tupOb [.ref h.objs.size, .ref (h.push o1).objs.size])).objs.size] }
theorem meets_zip2 {v1 v2 : Value} {o1 o2 : Obj} {G1 G2 : Heap → Prop} (B1 : Begins v1 o1 G1) (B2 : Begins v2 o2 G2) :
    Meets (Builtin.«zip.__new__» ⟨[.type "zip", v1, v2], []⟩) (fun _ R s => G1 s.heap ∧ G2 s.heap ∧ R (.ok (.ret (.ref (zip4 o1 o2 s.heap).objs.size))) { s with heap := zip5 o1 o2 s.heap }) :=
  .of_wp fun prog w A R s hs => by
    obtain ⟨hp, g, d, tk, os⟩ := s
    obtain ⟨h1, h2, h3⟩ := hs
    have isSub := sub_zip
    have begun1 : ∀ {A' : Around} {E : Value → Shared → Prop} {Q : Value → Shared → Prop}, Q (.ref hp.objs.size) ⟨hp.push o1, g, d, tk, os⟩ → wpAny (model prog w) A' (pyIter v1) Q E ⟨hp, g, d, tk, os⟩ :=
      fun q => B1.iter prog w _ _ ⟨hp, g, d, tk, os⟩ _ h1 q
    have begun2 : ∀ {A' : Around} {E : Value → Shared → Prop} {Q : Value → Shared → Prop}, Q (.ref (hp.push o1).objs.size) ⟨(hp.push o1).push o2, g, d, tk, os⟩ → wpAny (model prog w) A' (pyIter v2) Q E ⟨hp.push o1, g, d, tk, os⟩ :=
      fun q => B2.iter prog w _ _ ⟨hp.push o1, g, d, tk, os⟩ _ (B2.keeps _ _ h2 fun b o' q => Heap.get?_push_of_some _ q) q
    wp_walk using begun1, begun2
    exact ⟨_, rfl, h3⟩
theorem zip5_at {o1 o2 : Obj} (h : Heap) (f1 : o1.isFreed = false) (f2 : o2.isFreed = false) : (zip4 o1 o2 h).objs.size = h.objs.size + 4 ∧ (zip5 o1 o2 h).get? (h.objs.size + 4) = some (zipOb h.objs.size) ∧ (zip5 o1 o2 h).get? (h.objs.size + 2) = some (tupOb [.ref h.objs.size, .ref (h.objs.size + 1)]) ∧
    (zip5 o1 o2 h).get? (h.objs.size + 3) = some (tupOb [.none, .none]) ∧ (zip5 o1 o2 h).get? h.objs.size = some o1 ∧ (zip5 o1 o2 h).get? (h.objs.size + 1) = some o2 ∧ ∀ b o, h.get? b = some o → (zip5 o1 o2 h).get? b = some o := by
  have z1 : (h.push o1).objs.size = h.objs.size + 1 := Heap.size_push ..
  have z2 : (zip2 o1 o2 h).objs.size = h.objs.size + 2 := by
    unfold zip2
    rw [Heap.size_push, z1]
  have z3 : ((zip2 o1 o2 h).push (tupOb [.ref h.objs.size, .ref (h.push o1).objs.size])).objs.size = h.objs.size + 3 := by rw [Heap.size_push, z2]
  have z4 : (zip4 o1 o2 h).objs.size = h.objs.size + 4 := by
    unfold zip4
    rw [Heap.size_push, z3]
  have up : ∀ b o, (zip2 o1 o2 h).get? b = some o → (zip5 o1 o2 h).get? b = some o := fun b o q => Heap.get?_push_of_some _ (Heap.get?_push_of_some _ (Heap.get?_push_of_some _ q))
  refine ⟨z4, ?_, ?_, ?_, ?_, ?_, fun b o q => up b o (Heap.get?_push_of_some _ (Heap.get?_push_of_some _ q))⟩
  · have q := Heap.get?_push_size (zip4 o1 o2 h) (o := { cls := .type "zip", data := .fields #[.none, .bool false, .bool false, .ref (zip2 o1 o2 h).objs.size, .ref ((zip2 o1 o2 h).push (tupOb [.ref h.objs.size, .ref (h.push o1).objs.size])).objs.size] }) rfl
    rw [z2, z3, z4] at q
    unfold zip5
    rw [z2, z3]
    exact q
  · have q := Heap.get?_push_size (zip2 o1 o2 h) (o := tupOb [.ref h.objs.size, .ref (h.push o1).objs.size]) rfl
    rw [z2, z1] at q
    refine Heap.get?_push_of_some _ (Heap.get?_push_of_some _ ?_)
    rw [z1]
    exact q
  · have q := Heap.get?_push_size ((zip2 o1 o2 h).push (tupOb [.ref h.objs.size, .ref (h.push o1).objs.size])) (o := tupOb [.none, .none]) rfl
    rw [z3] at q
    exact Heap.get?_push_of_some _ q
  · exact up _ _ (Heap.get?_push_of_some _ (Heap.get?_push_size _ f1))
  · have q := Heap.get?_push_size (h.push o1) (o := o2) f2
    rw [z1] at q
    exact up _ _ q
theorem off2 {a b c : Nat} (h1 : a ≠ b) (h2 : a ≠ c) : (a : Addr) ∉ ([b, c] : List Addr) := fun h => by
  rcases List.mem_cons.mp h with e | h
  · exact h1 e
  · exact h2 (List.mem_singleton.mp h)
theorem zip_sep {n l1 l2 : Nat} (h1 : l1 < n) (h2 : l2 < n) : ZipSep2 (n + 4) (n + 2) (n + 3) n (n + 1) [n, l1] [n + 1, l2] where
  TIz := fun e => absurd (show (n : Nat) + 2 = n + 4 from e) (by omega)
  TOz := fun e => absurd (show (n : Nat) + 3 = n + 4 from e) (by omega)
  TITO := fun e => absurd (show (n : Nat) + 2 = n + 3 from e) (by omega)
  TIi1 := fun e => absurd (show (n : Nat) + 2 = n from e) (by omega)
  mem1 := List.mem_cons_self
  zf1 := off2 (by omega) (by omega)
  Tf1 := off2 (by omega) (by omega)
  TIi2 := fun e => absurd (show (n : Nat) + 2 = n + 1 from e) (by omega)
  mem2 := List.mem_cons_self
  zf2 := off2 (by omega) (by omega)
  Tf2 := off2 (by omega) (by omega)
  sep1_2 := off2 (by omega) (by omega)
  sep2_1 := off2 (by omega) (by omega)
/-! ### a loop over it -/
/-- x at a, y at b, the items in new pairs -/
def IzS (t1 t2 : Bool) (K : PySem.W.Frag) (a b : Addr) : It where
  go := fun i H => ∃ (xs ys : List V) (x y : V), SqS t1 K H a xs ∧ SqS t2 K H b ys ∧ xs[i]? = some x ∧ ys[i]? = some y
  yld := fun i H v H' => ∃ (T : Addr) (o : Obj) (x y : V), v = .ref T ∧ H T = none ∧ o.dict = none ∧ H' = upd H T (.frz o (.tup [x, y])) ∧ (∀ xs, SqS t1 K H a xs → xs[i]? = some x) ∧ ∀ ys, SqS t2 K H b ys → ys[i]? = some y
  stop := fun i H => ∃ xs ys : List V, SqS t1 K H a xs ∧ SqS t2 K H b ys ∧ i ≤ xs.length ∧ i ≤ ys.length ∧ (i = xs.length ∨ i = ys.length)
theorem zip_turn {P : Program} {w : World} {K : PySem.W.Frag} {elts : List Expr} {kk : Nat} {tpos : Pos} (t1 t2 : Bool) (a b z TI TO i1 i2 : Addr) (S : ZipSep2 z TI TO i1 i2 [i1, a] [i2, b]) (ha1 : a ≠ i1) (hb2 : b ≠ i2) :
    Turn P w K (.Tuple elts kk tpos) (IzS t1 t2 K a b) [z, TI, TO, i1, i2] z (fun i h => IsZip h z TI TO .none ∧ IsTupOf2 h TI (.ref i1) (.ref i2) ∧ (∃ u v, IsTupOf2 h TO u v) ∧ SIter t1 h i1 a i ∧ SIter t2 h i2 b i) := by
  have five : ∀ {c : Addr}, c ∈ [z, TI, TO, i1, i2] → c = z ∨ c = TI ∨ c = TO ∨ c = i1 ∨ c = i2 := fun hc => by simpa using hc
  have mz : z ∈ [z, TI, TO, i1, i2] := by simp
  have mI : TI ∈ [z, TI, TO, i1, i2] := by simp
  have mO : TO ∈ [z, TI, TO, i1, i2] := by simp
  have m1 : i1 ∈ [z, TI, TO, i1, i2] := by simp
  have m2 : i2 ∈ [z, TI, TO, i1, i2] := by simp
  refine { mem := mz, obj := ?_, keep := ?_, item := ?_, done := ?_, self := ?_ }
  · rintro i h ⟨hz, hI, ⟨u, v, hO⟩, h1, h2⟩ c hc
    obtain ⟨o1, vs1, g1, d1⟩ := h1.ob
    obtain ⟨o2, vs2, g2, d2⟩ := h2.ob
    rcases five hc with rfl | rfl | rfl | rfl | rfl
    · exact ⟨_, hz, fun v q => nomatch q⟩
    · exact ⟨_, hI, fun v q => nomatch q⟩
    · exact ⟨_, hO, fun v q => nomatch q⟩
    · exact ⟨o1, g1, fun v q => by rw [d1] at q; cases q⟩
    · exact ⟨o2, g2, fun v q => by rw [d2] at q; cases q⟩
  · rintro i h h' ⟨hz, hI, ⟨u, v, hO⟩, h1, h2⟩ k
    exact ⟨k z mz _ hz, k TI mI _ hI, ⟨u, v, k TO mO _ hO⟩, h1.stay (k i1 m1), h2.stay (k i2 m2)⟩
  · rintro X rfl rfl rfl calm i pins s σ H E I hf ⟨hz, hI, ⟨u0, v0, hO⟩, h1, h2⟩ ⟨xs, ys, x, y, hqx, hqy, hx, hy⟩
    obtain ⟨its, rv, p, _⟩ := inv_src I hqx
    obtain ⟨jts, rw', q, _⟩ := inv_src I hqy
    obtain ⟨u, hu, ru⟩ := rv.get hx
    obtain ⟨v, hv, rv'⟩ := rw'.get hy
    have bx : i < its.toArray.size := by simpa using (List.getElem?_eq_some_iff.mp hu).1
    have by' : i < jts.toArray.size := by simpa using (List.getElem?_eq_some_iff.mp hv).1
    have lz : z < s.heap.objs.size := Heap.lt_size hz
    refine wpAny_pyNext_zipD2_item S (sis_draws (prog := X.prog) (w := X.w) (A := X.A.in1) t1 (I.ok.hd calm) i1 a ha1 its.toArray) (sis_draws (prog := X.prog) (w := X.w) (A := X.A.in1) t2 (I.ok.hd calm) i2 b hb2 jts.toArray) hz hI hO ⟨h1, p⟩ ⟨h2, q⟩ bx by' fun x' y' g tk hx' hy' out hO' st1 st2 hT _ hk => ?_
    obtain rfl : x' = u := by
      have e : its[i]? = some x' := by simpa using hx'
      rw [hu] at e
      exact (Option.some.inj e).symm
    obtain rfl : y' = v := by
      have e : jts[i]? = some y' := by simpa using hy'
      rw [hv] at e
      exact (Option.some.inj e).symm
    refine ⟨_, rfl, wpAny_letOwnedTupleGo_zip (s := { s with heap := g, toks := tk }) out fun g' hz' sb => ?_⟩
    have hT' : g'.get? s.heap.objs.size = some (tupOb [x', y']) := (sb.2 _ (Nat.ne_of_gt lz)).trans hT
    have I1 : Inv X pins σ (upd H s.heap.objs.size (.frz (tupOb [x', y']) (.tup [x, y]))) { s with heap := g', toks := tk } :=
      I.turnedNew (ch := [z, TI, TO, i1, i2]) (fun c ob nc e => by
        have n0 : c ≠ z := fun w => nc (w ▸ mz)
        have nO : c ≠ TO := fun w => nc (w ▸ mO)
        have n1 : c ≠ i1 := fun w => nc (w ▸ m1)
        have n2 : c ≠ i2 := fun w => nc (w ▸ m2)
        exact (sb.2 c n0).trans (hk c ob n0 nO n1 n2 e)) hf (Nat.le_refl _) ⟨hT', by show 2 ≤ sizeLine; decide, _, .cons ru (.cons rv' .nil), _, hT', rfl, _, rfl⟩
    refine ⟨.ref s.heap.objs.size, _, I1, rfl, ⟨_, _, x, y, rfl, I.hok.fresh (Nat.le_refl _), rfl, rfl, fun zs hzs => ?_, fun zs hzs => ?_⟩, ⟨hz', ?_, ⟨x', y', ?_⟩, st1.1.stay fun o e => (sb.2 i1 S.zi1.symm).trans e, st2.1.stay fun o e => (sb.2 i2 S.zi2.symm).trans e⟩, fun c hc => ?_⟩
    · rw [src_inj I hzs hqx]
      exact hx
    · rw [src_inj I hzs hqy]
      exact hy
    · exact (sb.2 TI S.TIz).trans (hk TI _ S.TIz S.TITO S.TIi1 S.TIi2 hI)
    · exact (sb.2 TO S.TOz).trans hO'
    · have lb : c < s.heap.objs.size := by
        rcases five hc with rfl | rfl | rfl | rfl | rfl
        · exact lz
        · exact Heap.lt_size hI
        · exact Heap.lt_size hO
        · exact Heap.lt_size h1.ob.choose_spec.choose_spec.1
        · exact Heap.lt_size h2.ob.choose_spec.choose_spec.1
      rw [upd_ne (Nat.ne_of_lt lb)]
      exact (hf c hc).1
  · rintro X rfl rfl rfl calm i pins s σ H E I hf ⟨hz, hI, ⟨u0, v0, hO⟩, h1, h2⟩ ⟨xs, ys, hqx, hqy, lx, ly, hend⟩
    obtain ⟨its, rv, p, _⟩ := inv_src I hqx
    obtain ⟨jts, rw', q, _⟩ := inv_src I hqy
    have ex : its.toArray.size = xs.length := by rw [List.size_toArray, ← rv.length]
    have ey : jts.toArray.size = ys.length := by rw [List.size_toArray, ← rw'.length]
    refine wpAny_pyNext_zipD2_end S (sis_draws (prog := X.prog) (w := X.w) (A := X.A.in1) t1 (I.ok.hd calm) i1 a ha1 its.toArray) (sis_draws (prog := X.prog) (w := X.w) (A := X.A.in1) t2 (I.ok.hd calm) i2 b hb2 jts.toArray) hz hI hO ⟨h1, p⟩ ⟨h2, q⟩ (by omega) (by omega) (by omega) fun g tk hk => ⟨rfl, ?_⟩
    have J := I.turnedL (t' := tk) (ch := [z, TI, TO, i1, i2]) (fun c ob nc e => hk c ob (fun w => nc (w ▸ mz)) (fun w => nc (w ▸ mO)) (fun w => nc (w ▸ m1)) (fun w => nc (w ▸ m2)) e) hf
    exact J
  · rintro A i s Q E ⟨hz, _⟩ h
    exact wpAny_pyIter_zip hz h
def iZipS (t1 t2 : Bool) (K : PySem.W.Frag) (ta : TA) : TI := fun σ H R => ta σ H fun vs H1 => ∃ a b xs ys, vs = [.ref a, .ref b] ∧ SqS t1 K H1 a xs ∧ SqS t2 K H1 b ys ∧ R (IzS t1 t2 K a b) H1
theorem pi_zipS {X : Cx} {e f : Expr} {ta : TA} {p pos tpos : Pos} {elts : List Expr} {kk : Nat} (t1 t2 : Bool) (hg : Gl X "zip") (hm : X.mg "zip" = none) (ha : PA X [e, f] ta)
    (hs : starEach [e, f] X.env = (false, eval e X.env) :: starEach [f] X.env := by rfl) (hpl : (backTo pos (starEach [f] X.env)).any (·.1) = false := by rfl) :
    PI X (.Tuple elts kk tpos) (.Call (.Name "zip" p) [e, f] [] pos) (iZipS t1 t2 X.K ta) where
  run := fun pins s σ H R I h => by
    refine Call_ (ld_blt I hg hm boot_zip (PyProof.Rows.callWith_type1 (thn (ha.run pos pins s σ H _ I h) ?_) hs hpl))
    rintro us s1 ⟨vs, H1, I1, r1, a, b, xs, ys, rfl, hqx, hqy, k⟩
    obtain ⟨u1, u2, rfl, r2, r3⟩ := r1.two
    cases r2
    cases r3
    obtain ⟨its, _, p1, _⟩ := inv_src I1 hqx
    obtain ⟨jts, _, p2, _⟩ := inv_src I1 hqy
    obtain ⟨z4, gz, gI, gO, g1, g2, keep⟩ := zip5_at s1.heap (sis_begins t1 a its.toArray).free (sis_begins t2 b jts.toArray).free
    refine callType_new F.called_zip (by decide) (F.typeCall_zip_2 _ _) (F.newCall_zip_2 _ _) (fun obj => F.args_object_init_3 obj _ _) F.entry_zip_new (meets_zip2 (sis_begins t1 a its.toArray) (sis_begins t2 b jts.toArray)) ⟨p1, p2, ?_⟩
    show _ ∧ _
    rw [z4]
    refine ⟨⟨_, gz, rfl⟩, wpAny_pyIter_zip gz ?_⟩
    refine ⟨s1.heap.objs.size + 4, [s1.heap.objs.size + 4, s1.heap.objs.size + 2, s1.heap.objs.size + 3, s1.heap.objs.size, s1.heap.objs.size + 1], _, _, H1, rfl, I1.kept (t' := s1.toks) keep,
      zip_turn t1 t2 a b _ _ _ _ _ (zip_sep p1.lt p2.lt) (Nat.ne_of_lt p1.lt) (Nat.ne_of_lt (Nat.lt_succ_of_lt p2.lt)), ⟨gz, gI, ⟨_, _, gO⟩, iterOb_at g1, iterOb_at g2⟩, fun c hc => ?_, k⟩
    have old : s1.heap.objs.size ≤ c := by
      have e : c = s1.heap.objs.size + 4 ∨ c = s1.heap.objs.size + 2 ∨ c = s1.heap.objs.size + 3 ∨ c = s1.heap.objs.size ∨ c = s1.heap.objs.size + 1 := by simpa using hc
      rcases e with rfl | rfl | rfl | rfl | rfl
      · exact Nat.le_add_right _ _
      · exact Nat.le_add_right _ _
      · exact Nat.le_add_right _ _
      · exact Nat.le_refl _
      · exact Nat.le_add_right _ _
    exact I1.fpOk old (I1.hok.fresh old)
end DL
set_option maxRecDepth 100000
set_option maxHeartbeats 4000000
/-! the data layer, 16: zip in a comprehension; dict(zip(..)) -/
namespace DL
open PySem PySem.Spec PyProof.Rows L2 SlX
open Sem (wp)

def zipD (ds es : List D) : List D := List.zipWith (fun a b => .tuple [a, b]) ds es
/-- a sequence of data -/
def seqD (t : Bool) (ds : List D) : D := if t = true then .tuple ds else .list ds
theorem seq_src {t : Bool} {K : PySem.W.Frag} {B H : Hp} {v : V} {ds : List D} (ex : Ex B H) (h : Dt B v (seqD t ds)) : ∃ a xs, v = .ref a ∧ (∀ H2, Ex B H2 → SqS t K H2 a xs) ∧ DtAll B xs ds ∧ ∀ H2, Ex B H2 → SizeOk H2 → xs.length ≤ sizeLine := by
  cases t with
  | true =>
    have h' : Dt B v (.tuple ds) := h
    cases h' with
    | @tup a xs _ ha hd => exact ⟨a, xs, rfl, fun H2 e => (ha.mono e).sq, hd, fun H2 e z => z.2 a xs (ha.mono e)⟩
  | false =>
    have h' : Dt B v (.list ds) := h
    cases h' with
    | @lst a xs _ ha hd => exact ⟨a, xs, rfl, fun H2 e => sl_of (e _ _ ha), hd, fun H2 e z => z.1 a xs (e _ _ ha)⟩
theorem zipD_len (ds es : List D) : (zipD ds es).length = min ds.length es.length := by simp [zipD]
theorem zipD_get {ds es : List D} {i : Nat} {d e : D} (h1 : ds[i]? = some d) (h2 : es[i]? = some e) : (zipD ds es)[i]? = some (.tuple [d, e]) := by
  unfold zipD
  rw [List.getElem?_zipWith, h1, h2]
theorem zip_walk {t1 t2 : Bool} {K : PySem.W.Frag} {B : Hp} {a b : Addr} {xs ys : List V} {ds es : List D} (hx : ∀ H2, Ex B H2 → SqS t1 K H2 a xs) (hy : ∀ H2, Ex B H2 → SqS t2 K H2 b ys) (hd : DtAll B xs ds) (he : DtAll B ys es) (hz : xs.length ≤ sizeLine) : WalkD (IzS t1 t2 K a b) (zipD ds es) B := by
  have lx := dtall_len hd
  have ly := dtall_len he
  refine ⟨fun i H2 hi e2 => ?_, fun H2 e2 => ?_, fun i H2 x H' hi e2 y => ?_, by rw [zipD_len, ← lx]; exact Nat.le_trans (Nat.min_le_left _ _) hz⟩
  · rw [zipD_len] at hi
    have h1 : i < xs.length := by omega
    have h2 : i < ys.length := by omega
    exact ⟨xs, ys, xs[i], ys[i], hx H2 e2, hy H2 e2, List.getElem?_eq_getElem h1, List.getElem?_eq_getElem h2⟩
  · rw [zipD_len]
    exact ⟨xs, ys, hx H2 e2, hy H2 e2, by omega, by omega, by omega⟩
  · obtain ⟨T, o, u, v, h1, h2, h3, h4, h5, h6⟩ := y
    obtain ⟨d, g1, g2⟩ := dtall_get hd (h5 xs (hx H2 e2))
    obtain ⟨e, g3, g4⟩ := dtall_get he (h6 ys (hy H2 e2))
    exact ⟨_, zipD_get g1 g3, .inr ⟨T, o, _, _, h1, h2, h3, h4, rfl, .cons g2 (.cons g4 .nil)⟩⟩
section
variable {C : Addr} {X : Cx} {e f : Expr} {ρ : List Sl} {p pos tpos : Pos} {elts : List Expr} {kk : Nat} {ds es : List D}
theorem ei_zip (t1 t2 : Bool) (hm : X.mg "zip" = none) (he : Ev C X e ρ (.d (seqD t1 ds))) (hf : Ev C X f ρ (.d (seqD t2 es))) (hg : Gl X "zip" := by rfl) (hs : starEach [e, f] X.env = (false, eval e X.env) :: starEach [f] X.env := by rfl) (hs2 : starEach [f] X.env = (false, eval f X.env) :: starEach [] X.env := by rfl)
    (hpl : (backTo pos (starEach [f] X.env)).any (·.1) = false := by rfl) : EvI C X (.Tuple elts kk tpos) (.Call (.Name "zip" p) [e, f] [] pos) ρ (zipD ds es) :=
  pi_weak (pi_zipS t1 t2 hg hm (pa_cons (pe_size he) (pa_cons (pe_size hf) pa_nil hs2) hs) hs hpl) fun σ H R ⟨H0, B, ex, en, k⟩ => ⟨H0, B, ex, en, fun v B1 H1 s1 r1 sz1 => ⟨H0, B1, s1.t, en.step s1, fun w B2 H2 s2 r2 sz2 => by
    obtain ⟨a, xs, rfl, hx, hd, hz⟩ := seq_src (K := X.K) s1.t r1
    obtain ⟨b, ys, rfl, hy, he, _⟩ := seq_src (K := X.K) s2.t r2
    exact ⟨a, b, xs, ys, rfl, hx H2 (s2.b.trans s2.t), hy H2 s2.t, k _ B2 H2 (s1.trans s2) (zip_walk (fun H3 e3 => hx H3 (s2.b.trans e3)) hy (dtall_mono s2.b _ _ hd) he (hz H1 s1.t sz1))⟩⟩⟩
end
end DL
set_option maxRecDepth 100000
set_option maxHeartbeats 4000000
/-! the data layer, 17: dict(zip(x, y)) -/
namespace DL
open PySem PySem.Spec PyProof.Rows L2 SlX
open Sem (wp)

section
variable {prog : Program} {w : World} {A : Around} {E : Value → Shared → Prop} {s : Shared} {z TI TO T i1 i2 : Addr} {fp1 fp2 : List Addr} {n1 n2 i : Nat} {P1 P2 : Nat → Value → Prop} {St1 St2 : Nat → Heap → Prop} {f : Bool} {oT : Obj}
/-- a pair is still out: the next one is made anew -/
theorem held_item {Q : Value → Shared → Prop} (S : ZipSep2 z TI TO i1 i2 fp1 fp2) (D1 : Draws prog w A i1 fp1 n1 P1 St1) (D2 : Draws prog w A i2 fp2 n2 P2 St2) (hz : IsZipHeld s.heap z TI TO T f) (hT : s.heap.get? T = some oT) (hI : IsTupOf2 s.heap TI (.ref i1) (.ref i2))
    (st1 : St1 i s.heap) (st2 : St2 i s.heap) (b1 : i < n1) (b2 : i < n2)
    (k : ∀ x1 x2 h' tk, P1 i x1 → P2 i x2 → IsZipHeld h' z TI TO T true → St1 (i + 1) h' → St2 (i + 1) h' → IsTupOf2 h' s.heap.objs.size x1 x2 → h'.objs.size = s.heap.objs.size + 1 → (∀ c o, c ≠ z → c ≠ i1 → c ≠ i2 → s.heap.get? c = some o → h'.get? c = some o) → Q (.ref s.heap.objs.size) { s with heap := h', toks := tk }) :
    wpAny (model prog w) A (Builtin.«zip.__next__» ⟨[.ref z], []⟩) (fun fin s' => ∃ v, fin = .done (.ret v) ∧ Q v s') E s := by
  obtain ⟨hp, gs, dr, tk0, os⟩ := s
  show wpAny _ _ (field (.ref z) 2 >>= fun _ => _) _ _ _
  refine wpAny_bind (wpAny_field (x := .bool false) hz rfl rfl ?_)
  show wpAny _ _ (field (.ref z) 3 >>= fun _ => _) _ _ _
  refine wpAny_bind (wpAny_field (x := .ref TI) hz rfl rfl ?_)
  refine wpAny_bind (wpAny_seqItems hI rfl ?_)
  show wpAny _ _ (Builtin.SmallTypes.ownedTupleIsFree (.ref z) >>= fun _ => _) _ _ _
  refine wpAny_bind (wpAny_tupleHeld_zip hz hT fun g0 z0 e0 => ?_)
  replace e0 : Heap.SameBut z hp g0 := e0
  simp only [Bool.false_eq_true, if_false]
  refine wpAny_bind ?_
  rw [← Array.forIn_toList]
  simp only [List.forIn_cons, List.forIn_nil]
  refine wpAny_bind (wpAny_bind (wpAny_holding ?_))
  show wpAny _ _ (Builtin.SmallTypes.nextOf (.ref i1) >>= fun _ => _) _ _ ⟨g0, gs, dr, tk0, os⟩
  refine wpAny_bind (D1.item i _ _ _ b1 (D1.over st1 e0 S.zf1) fun x1 g1 t1 hx1 u1 e1 => wpAny_pure ?_)
  replace e1 : Heap.SameBut i1 g0 g1 := e1
  refine wpAny_pure ?_
  refine wpAny_bind (wpAny_bind (wpAny_holding ?_))
  show wpAny _ _ (Builtin.SmallTypes.nextOf (.ref i2) >>= fun _ => _) _ _ ⟨g1, gs, dr, t1, os⟩
  refine wpAny_bind (D2.item i _ _ _ b2 (D2.over (D2.over st2 e0 S.zf2) e1 S.sep1_2) fun x2 g2 t2 hx2 u2 e2 => wpAny_pure ?_)
  replace e2 : Heap.SameBut i2 g1 g2 := e2
  refine wpAny_pure (wpAny_pure ?_)
  show wpAny _ _ (newTuple [x1, x2] >>= fun _ => _) _ _ _
  refine wpAny_bind (wpAny_newTuple ?_)
  have sz : g2.objs.size = hp.objs.size := by rw [e2.1, e1.1, e0.1]
  have zg : IsZipHeld g2 z TI TO T true := e2.extBut _ _ S.zi2 (e1.extBut _ _ S.zi1 z0)
  have old : ∀ c o, c ≠ z → c ≠ i1 → c ≠ i2 → hp.get? c = some o → g2.get? c = some o := fun c o q0 q1 q2 e => e2.extBut _ _ q2 (e1.extBut _ _ q1 (e0.extBut _ _ q0 e))
  have up : ∀ b o, g2.get? b = some o → (g2.push (tupOb [x1, x2])).get? b = some o := fun b o q => Heap.get?_push_of_some _ q
  refine wpAny_pure ⟨_, rfl, ?_⟩
  show Q (.ref g2.objs.size) _
  have hp2 : IsTupOf2 (g2.push (tupOb [x1, x2])) g2.objs.size x1 x2 := Heap.get?_push_size _ rfl
  have hs2 : (g2.push (tupOb [x1, x2])).objs.size = g2.objs.size + 1 := Heap.size_push ..
  rw [sz] at hp2 hs2 ⊢
  exact k x1 x2 _ t2 hx1 hx2 (up _ _ zg) (D1.frame _ _ _ (D1.over u1 e2 S.sep2_1) fun b _ o q => up b o q) (D2.frame _ _ _ u2 fun b _ o q => up b o q) hp2 hs2 fun c o q0 q1 q2 e => up c o (old c o q0 q1 q2 e)
theorem held_end {Q : Fin → Shared → Prop} (S : ZipSep2 z TI TO i1 i2 fp1 fp2) (D1 : Draws prog w A i1 fp1 n1 P1 St1) (D2 : Draws prog w A i2 fp2 n2 P2 St2) (hz : IsZipHeld s.heap z TI TO T f) (hT : s.heap.get? T = some oT) (hI : IsTupOf2 s.heap TI (.ref i1) (.ref i2))
    (st1 : St1 i s.heap) (st2 : St2 i s.heap) (hle1 : i ≤ n1) (hle2 : i ≤ n2) (hend : i = n1 ∨ i = n2)
    (k : ∀ h' tk e, (∀ c o, c ≠ z → c ≠ i1 → c ≠ i2 → s.heap.get? c = some o → h'.get? c = some o) → (∃ o, h'.get? e = some o ∧ o.cls = .type "StopIteration") → E (.ref e) { s with heap := h', toks := tk }) : wpAny (model prog w) A (Builtin.«zip.__next__» ⟨[.ref z], []⟩) Q E s := by
  obtain ⟨hp, gs, dr, tk0, os⟩ := s
  show wpAny _ _ (field (.ref z) 2 >>= fun _ => _) _ _ _
  refine wpAny_bind (wpAny_field (x := .bool false) hz rfl rfl ?_)
  show wpAny _ _ (field (.ref z) 3 >>= fun _ => _) _ _ _
  refine wpAny_bind (wpAny_field (x := .ref TI) hz rfl rfl ?_)
  refine wpAny_bind (wpAny_seqItems hI rfl ?_)
  show wpAny _ _ (Builtin.SmallTypes.ownedTupleIsFree (.ref z) >>= fun _ => _) _ _ _
  refine wpAny_bind (wpAny_tupleHeld_zip hz hT fun g0 z0 e0 => ?_)
  replace e0 : Heap.SameBut z hp g0 := e0
  simp only [Bool.false_eq_true, if_false]
  refine wpAny_bind ?_
  rw [← Array.forIn_toList]
  simp only [List.forIn_cons, List.forIn_nil]
  refine wpAny_bind (wpAny_bind (wpAny_holding ?_))
  show wpAny _ _ (Builtin.SmallTypes.nextOf (.ref i1) >>= fun _ => _) _ _ ⟨g0, gs, dr, tk0, os⟩
  by_cases b1 : i < n1
  · refine wpAny_bind (D1.item i _ _ _ b1 (D1.over st1 e0 S.zf1) fun x1 g1 t1 hx1 u1 e1 => wpAny_pure ?_)
    replace e1 : Heap.SameBut i1 g0 g1 := e1
    refine wpAny_pure ?_
    refine wpAny_bind (wpAny_bind (wpAny_holding ?_))
    show wpAny _ _ (Builtin.SmallTypes.nextOf (.ref i2) >>= fun _ => _) _ _ ⟨g1, gs, dr, t1, os⟩
    have e : i = n2 := by omega
    subst e
    refine wpAny_bind (D2.done _ _ _ (D2.over (D2.over st2 e0 S.zf2) e1 S.sep1_2) fun g2 ex e2 he => ?_)
    exact k g2 t1 ex (fun c o q0 q1 q2 q => e2 _ _ q2 (e1.extBut _ _ q1 (e0.extBut _ _ q0 q))) he
  · have e : i = n1 := by omega
    subst e
    refine wpAny_bind (D1.done _ _ _ (D1.over st1 e0 S.zf1) fun g1 ex e1 he => ?_)
    exact k g1 tk0 ex (fun c o q0 q1 _ q => e1 _ _ q1 (e0.extBut _ _ q0 q)) he
end
section
variable {prog : Program} {w : World} {A : Around} {E : Value → Shared → Prop} {s : Shared} {z TI TO T i1 i2 : Addr} {fp1 fp2 : List Addr} {n1 n2 i : Nat} {P1 P2 : Nat → Value → Prop} {St1 St2 : Nat → Heap → Prop} {f : Bool} {oT : Obj}
theorem next_held {Q : Option Value → Shared → Prop} (S : ZipSep2 z TI TO i1 i2 fp1 fp2) (D1 : Draws prog w A.in1 i1 fp1 n1 P1 St1) (D2 : Draws prog w A.in1 i2 fp2 n2 P2 St2) (hz : IsZipHeld s.heap z TI TO T f) (hT : s.heap.get? T = some oT) (hI : IsTupOf2 s.heap TI (.ref i1) (.ref i2))
    (st1 : St1 i s.heap) (st2 : St2 i s.heap) (b1 : i < n1) (b2 : i < n2)
    (k : ∀ x1 x2 h' tk, P1 i x1 → P2 i x2 → IsZipHeld h' z TI TO T true → St1 (i + 1) h' → St2 (i + 1) h' → IsTupOf2 h' s.heap.objs.size x1 x2 → h'.objs.size = s.heap.objs.size + 1 → (∀ c o, c ≠ z → c ≠ i1 → c ≠ i2 → s.heap.get? c = some o → h'.get? c = some o) → Q (some (.ref s.heap.objs.size)) { s with heap := h', toks := tk }) :
    wpAny (model prog w) A (pyNext (.ref z)) Q E s := by
  have ty : s.TypeIs (.ref z) "zip" := ⟨_, hz, rfl⟩
  unfold pyNext
  refine wpAny_bind (wpAny_attempt (wpAny_callSpecial?_slot (name := Str.ofString "__next__") ty F.slot_zip_next (wpAny_call_entry F.slot_zip_next ty F.entry_zip_next ?_ (F.args_zip_next_1 _))))
  exact held_item S D1 D2 hz hT hI st1 st2 b1 b2 fun x1 x2 h' tk y1 y2 q1 q2 q3 q4 q5 q6 => wpAny_pure (k x1 x2 h' tk y1 y2 q1 q2 q3 q4 q5 q6)
theorem end_held {Q : Option Value → Shared → Prop} (S : ZipSep2 z TI TO i1 i2 fp1 fp2) (D1 : Draws prog w A.in1 i1 fp1 n1 P1 St1) (D2 : Draws prog w A.in1 i2 fp2 n2 P2 St2) (hz : IsZipHeld s.heap z TI TO T f) (hT : s.heap.get? T = some oT) (hI : IsTupOf2 s.heap TI (.ref i1) (.ref i2))
    (st1 : St1 i s.heap) (st2 : St2 i s.heap) (hle1 : i ≤ n1) (hle2 : i ≤ n2) (hend : i = n1 ∨ i = n2)
    (k : ∀ h' tk, (∀ c o, c ≠ z → c ≠ i1 → c ≠ i2 → s.heap.get? c = some o → h'.get? c = some o) → Q none { s with heap := h', toks := tk }) : wpAny (model prog w) A (pyNext (.ref z)) Q E s := by
  have ty : s.TypeIs (.ref z) "zip" := ⟨_, hz, rfl⟩
  unfold pyNext
  refine wpAny_bind (wpAny_attempt (wpAny_callSpecial?_slot (name := Str.ofString "__next__") ty F.slot_zip_next (wpAny_call_entry F.slot_zip_next ty F.entry_zip_next ?_ (F.args_zip_next_1 _))))
  refine held_end S D1 D2 hz hT hI st1 st2 hle1 hle2 hend fun h' tk e hk ⟨o, ho, hc⟩ => ?_
  exact wpAny_bind (wpAny_isInstance (T := "StopIteration") (b := true) ⟨o, ho, hc⟩ isSubtype_stop (wpAny_pure (k _ _ hk)))
end
/-- the zip at n + 4, as it was made -/
structure ZipAt (t1 t2 : Bool) (n l1 l2 : Nat) (xs ys : Array Value) (h : Heap) : Prop where
  z : IsZip h (n + 4) (n + 2) (n + 3) .none
  I : IsTupOf2 h (n + 2) (.ref n) (.ref (n + 1))
  O : ∃ a b, IsTupOf2 h (n + 3) a b
  i1 : SIter t1 h n l1 0
  i2 : SIter t2 h (n + 1) l2 0
  s1 : SIs t1 h l1 xs
  s2 : SIs t2 h l2 ys
theorem SIs.stay {tup : Bool} {h h' : Heap} {a : Addr} {its : Array Value} (x : SIs tup h a its) (k : ∀ o, h.get? a = some o → h'.get? a = some o) : SIs tup h' a its := by
  cases tup <;> exact ⟨_, k _ x.choose_spec.1, x.choose_spec.2⟩
theorem zip_pairs {prog : Program} {w : World} (t1 t2 : Bool) (n l1 l2 : Nat) (b1 : l1 < n) (b2 : l2 < n) (xs ys : Array Value) :
    PairArg prog w "zip" (n + 4) [n + 4, n + 2, n + 3, n, n + 1, l1, l2] [n + 4, n + 3, n, n + 1] (min xs.size ys.size) (fun i k v => xs[i]? = some k ∧ ys[i]? = some v) (ZipAt t1 t2 n l1 l2 xs ys) where
  type := fun s ok => ⟨_, ok.z, rfl⟩
  notDict := by decide
  keep := fun h h' ok hk => ⟨hk _ _ ok.z, hk _ _ ok.I, ok.O.imp fun a ⟨b, q⟩ => ⟨b, hk _ _ q⟩, ok.i1.stay fun o e => hk _ o e, ok.i2.stay fun o e => hk _ o e, ok.s1.stay fun o e => hk _ o e, ok.s2.stay fun o e => hk _ o e⟩
  there := fun h ok b hb => by
    obtain ⟨a, c, hO⟩ := ok.O
    obtain ⟨o1, _, g1, _⟩ := ok.i1.ob
    obtain ⟨o2, _, g2, _⟩ := ok.i2.ob
    have s1 : ∃ o, h.get? l1 = some o := by
      have := ok.s1
      cases t1 <;> exact ⟨_, this.choose_spec.1⟩
    have s2 : ∃ o, h.get? l2 = some o := by
      have := ok.s2
      cases t2 <;> exact ⟨_, this.choose_spec.1⟩
    have e : b = n + 4 ∨ b = n + 2 ∨ b = n + 3 ∨ b = n ∨ b = n + 1 ∨ b = l1 ∨ b = l2 := by simpa using hb
    rcases e with rfl | rfl | rfl | rfl | rfl | rfl | rfl
    · exact ⟨_, ok.z⟩
    · exact ⟨_, ok.I⟩
    · exact ⟨_, hO⟩
    · exact ⟨_, g1⟩
    · exact ⟨_, g2⟩
    · exact s1
    · exact s2
  sub := fun b hb => by
    have e : b = n + 4 ∨ b = n + 3 ∨ b = n ∨ b = n + 1 := by simpa using hb
    rcases e with rfl | rfl | rfl | rfl <;> simp
  noKeys := fun A s Q E hA ok h => getAttrOr_miss_zip ok.z rfl rfl rfl zip_no_keys (by decide +kernel) hA h
  iter := fun A s d Q E hA ok hd hdf h => by
    have hdn : ∀ c : Addr, c ∈ ([n + 4, n + 2, n + 3, n, n + 1, l1, l2] : List Addr) → c ≠ d := fun c hc e => hdf (e ▸ hc)
    have dz : (n + 4 : Addr) ≠ d := hdn _ (by simp)
    have dI : (n + 2 : Addr) ≠ d := hdn _ (by simp)
    have dO : (n + 3 : Addr) ≠ d := hdn _ (by simp)
    have d1 : (n : Addr) ≠ d := hdn _ (by simp)
    have d2 : (n + 1 : Addr) ≠ d := hdn _ (by simp)
    have dl1 : (l1 : Addr) ≠ d := hdn _ (by simp)
    have dl2 : (l2 : Addr) ≠ d := hdn _ (by simp)
    have S := zip_sep b1 b2
    have D1 : ∀ {A' : Around}, A'.handled = none → Draws prog w A' n [n, l1] xs.size (fun i v => xs[i]? = some v) (fun i h => SIter t1 h n l1 i ∧ SIs t1 h l1 xs) := fun hh => sis_draws t1 hh n l1 (Nat.ne_of_lt b1) xs
    have D2 : ∀ {A' : Around}, A'.handled = none → Draws prog w A' (n + 1) [n + 1, l2] ys.size (fun i v => ys[i]? = some v) (fun i h => SIter t2 h (n + 1) l2 i ∧ SIs t2 h l2 ys) := fun hh => sis_draws t2 hh (n + 1) l2 (Nat.ne_of_lt (Nat.lt_succ_of_lt b2)) ys
    refine wpAny_pyIter_zip ok.z (h (n + 4) [n + 4, n + 3, n, n + 1] (fun i h => IsTupOf2 h (n + 2) (.ref n) (.ref (n + 1)) ∧ (SIter t1 h n l1 i ∧ SIs t1 h l1 xs) ∧ (SIter t2 h (n + 1) l2 i ∧ SIs t2 h l2 ys) ∧
      ((IsZip h (n + 4) (n + 2) (n + 3) .none ∧ ∃ a b, IsTupOf2 h (n + 3) a b) ∨ ∃ T f oT, IsZipHeld h (n + 4) (n + 2) (n + 3) T f ∧ h.get? T = some oT ∧ T ≠ n + 4 ∧ T ≠ n ∧ T ≠ n + 1 ∧ T ≠ d)) s.heap s.toks ?_
      ⟨ok.I, ⟨ok.i1, ok.s1⟩, ⟨ok.i2, ok.s2⟩, .inl ⟨ok.z, ok.O⟩⟩ (fun _ _ e => e) fun b hb => .inl hb)
    refine { off := ?_, frame := ?_, item := ?_, done := ?_ }
    · intro hm
      have e : d = n + 4 ∨ d = n + 3 ∨ d = n ∨ d = n + 1 := by simpa using hm
      rcases e with e | e | e | e
      · exact dz e.symm
      · exact dO e.symm
      · exact d1 e.symm
      · exact d2 e.symm
    · rintro i h₁ h₂ ⟨hI, ⟨u1, v1⟩, ⟨u2, v2⟩, hz⟩ hk
      refine ⟨hk _ _ dI hI, ⟨u1.stay fun o e => hk _ o d1 e, v1.stay fun o e => hk _ o dl1 e⟩, ⟨u2.stay fun o e => hk _ o d2 e, v2.stay fun o e => hk _ o dl2 e⟩, ?_⟩
      rcases hz with ⟨hz, a, b, hO⟩ | ⟨T, f, oT, hz, hT, r1, r2, r3, r4⟩
      · exact .inl ⟨hk _ _ dz hz, a, b, hk _ _ dO hO⟩
      · exact .inr ⟨T, f, oT, hk _ _ dz hz, hk _ _ r4 hT, r1, r2, r3, r4⟩
    · rintro i s₁ Q₁ E₁ hi ⟨hI, u1, u2, hz⟩ hds hQ
      have c1 : i < xs.size := Nat.lt_of_lt_of_le hi (Nat.min_le_left ..)
      have c2 : i < ys.size := Nat.lt_of_lt_of_le hi (Nat.min_le_right ..)
      have new : ∀ {c o}, s₁.heap.get? c = some o → s₁.heap.objs.size ≠ c := fun e => Nat.ne_of_gt (Heap.lt_size e)
      obtain ⟨o1, _, g1, _⟩ := u1.1.ob
      obtain ⟨o2, _, g2, _⟩ := u2.1.ob
      rcases hz with ⟨hz, a, b, hO⟩ | ⟨T, f, oT, hz, hT, r1, r2, r3, r4⟩
      · refine wpAny_pyNext_zipD2_item S (D1 (A' := A.in1) hA) (D2 (A' := A.in1) hA) hz hI hO u1 u2 c1 c2 fun x y h' tk ex ey a1 a2 a3 a4 a5 a6 hk => ?_
        exact hQ s₁.heap.objs.size _ _ h' tk ⟨ex, ey⟩ (.inl ⟨_, a5, rfl, _, rfl⟩) ⟨hk _ _ S.TIz S.TITO S.TIi1 S.TIi2 hI, a3, a4, .inr ⟨s₁.heap.objs.size, false, _, a1, a5, new hz, new g1, new g2, Nat.ne_of_gt hds⟩⟩
          fun c o hc e => hk c o (fun q => hc (by simp [q])) (fun q => hc (by simp [q])) (fun q => hc (by simp [q])) (fun q => hc (by simp [q])) e
      · refine next_held S (D1 (A' := A.in1) hA) (D2 (A' := A.in1) hA) hz hT hI u1 u2 c1 c2 fun x y h' tk ex ey a1 a3 a4 a5 a6 hk => ?_
        exact hQ s₁.heap.objs.size _ _ h' tk ⟨ex, ey⟩ (.inl ⟨_, a5, rfl, _, rfl⟩) ⟨hk _ _ S.TIz S.TIi1 S.TIi2 hI, a3, a4, .inr ⟨T, true, oT, a1, hk _ _ r1 r2 r3 hT, r1, r2, r3, r4⟩⟩
          fun c o hc e => hk c o (fun q => hc (by simp [q])) (fun q => hc (by simp [q])) (fun q => hc (by simp [q])) e
    · rintro s₁ Q₁ E₁ ⟨hI, u1, u2, hz⟩ hQ
      have m1 : min xs.size ys.size ≤ xs.size := Nat.min_le_left ..
      have m2 : min xs.size ys.size ≤ ys.size := Nat.min_le_right ..
      have m3 : min xs.size ys.size = xs.size ∨ min xs.size ys.size = ys.size := by omega
      rcases hz with ⟨hz, a, b, hO⟩ | ⟨T, f, oT, hz, hT, r1, r2, r3, r4⟩
      · exact wpAny_pyNext_zipD2_end S (D1 (A' := A.in1) hA) (D2 (A' := A.in1) hA) hz hI hO u1 u2 m1 m2 m3 fun h' tk hk => hQ h' tk fun c o hc e => hk c o (fun q => hc (by simp [q])) (fun q => hc (by simp [q])) (fun q => hc (by simp [q])) (fun q => hc (by simp [q])) e
      · exact end_held S (D1 (A' := A.in1) hA) (D2 (A' := A.in1) hA) hz hT hI u1 u2 m1 m2 m3 fun h' tk hk => hQ h' tk fun c o hc e => hk c o (fun q => hc (by simp [q])) (fun q => hc (by simp [q])) (fun q => hc (by simp [q])) e
end DL
set_option maxRecDepth 100000
set_option maxHeartbeats 4000000
/-! the data layer, 18: dict(zip(a tuple of tuples, a list)) -/
namespace DL
open PySem PySem.Spec PyProof.Rows L2 SlX
open Sem (wp)

theorem storedAll_new : ∀ (ps acc : List (NestedKey × Addr × Value)), (ps.map (·.1)).Nodup → (∀ k ∈ ps.map (·.1), k ∉ acc.map (·.1)) → storedAllH acc ps = acc ++ ps
  | [], acc, _, _ => (List.append_nil acc).symm
  | p :: ps, acc, hn, hd => by
    rw [List.map_cons, List.nodup_cons] at hn
    have hno : atKey acc p.1 = none := by
      unfold atKey
      rw [Option.map_eq_none_iff, List.find?_eq_none]
      intro x hx hx2
      exact hd p.1 List.mem_cons_self (List.mem_map.mpr ⟨x, hx, of_decide_eq_true hx2⟩)
    show storedAllH (storedH acc p.1 p.2.1 p.2.2) ps = _
    rw [storedH_new hno, storedAll_new ps _ hn.2, List.append_assoc]
    · rfl
    · intro k hk hk2
      rw [List.map_append, List.mem_append] at hk2
      rcases hk2 with hk2 | hk2
      · exact hd k (List.mem_cons_of_mem _ hk) hk2
      · have : k = p.1 := by simpa using hk2
        exact hn.1 (this ▸ hk)
theorem keys_tri {B : Hp} : ∀ {ks : List NestedKey} {vals : List D} {xs ys : List V} {its jts : List Value}, (∀ k ∈ ks, KeyOk k) → DtAll B xs (ks.map NestedKey.data) → Vals xs its → DtAll B ys vals → Vals ys jts → ∃ (tr : Tri) (ws : List Value),
    Paired (fun (p : NestedKey × Addr × V) (q : NestedKey × D) => p.1 = q.1 ∧ Dt B (.ref p.2.1) p.1.data ∧ Dt B p.2.2 q.2) tr (ks.zip vals) ∧ Vals (tr.map fun x => x.2.2) ws ∧ (tris tr ws).length = min its.length jts.length ∧ ∀ (i : Nat) u v, its[i]? = some u → jts[i]? = some v → ∃ k b, (tris tr ws)[i]? = some (k, b, v) ∧ u = Value.ref b
  | [], vals, _, ys, _, jts, _, h, r, h2, r2 => by
    cases h
    cases r
    exact ⟨[], [], .nil, .nil, by simp [tris], fun i u v e => by cases e⟩
  | k :: ks, [], _, _, its, _, _, h, r, h2, r2 => by
    cases h2
    cases r2
    exact ⟨[], [], by rw [List.zip_nil_right]; exact .nil, .nil, by simp [tris], fun i u v _ e => by cases e⟩
  | k :: ks, d :: vals, _, _, _, _, hk, h, r, h2, r2 => by
    cases h with
    | cons a1 a2 =>
      cases r with
      | @cons _ u _ us c1 c2 =>
        cases h2 with
        | cons b1 b2 =>
          cases r2 with
          | @cons _ w _ ws' e1 e2 =>
            obtain ⟨tr, ws, g1, g2, g3, g4⟩ := keys_tri (fun k hk' => hk k (List.mem_cons_of_mem _ hk')) a2 c2 b2 e2
            obtain ⟨b, rfl⟩ := (hk k List.mem_cons_self).ref a1
            refine ⟨(k, b, _) :: tr, w :: ws, .cons ⟨rfl, a1, b1⟩ g1, .cons e1 g2, ?_, fun i u' v' h1 h2 => ?_⟩
            · show (tris tr ws).length + 1 = _
              rw [g3]
              simp only [List.length_cons]
              omega
            · cases i with
              | zero =>
                cases h1
                cases h2
                exact ⟨k, b, rfl, c1⟩
              | succ i => exact g4 i u' v' h1 h2
theorem tri_keys {β : Type} {R : NestedKey × Addr × V → NestedKey × β → Prop} (hR : ∀ p q, R p q → p.1 = q.1) : ∀ {tr : Tri} {kvs : List (NestedKey × β)}, Paired R tr kvs → tr.map (·.1) = kvs.map (·.1)
  | _, _, .nil => rfl
  | _, _, .cons h t => by rw [List.map_cons, List.map_cons, hR _ _ h, tri_keys hR t]
section
variable {C : Addr} {X : Cx} {e f : Expr} {ρ : List Sl} {p p2 pos zpos : Pos} {n : Nat}
theorem ev_dictZip {ks : List NestedKey} {vals : List D} (hk : ∀ k ∈ ks, KeyOk k) (hn : ks.Nodup) (hr : Room n X.A) (he : Ev C X e ρ (.d (.tuple (ks.map NestedKey.data)))) (hf : Ev C X f ρ (.d (.list vals))) (hm : X.mg "dict" = none) (hmz : X.mg "zip" = none) (hc : X.calm = true := by rfl) (hg : Gl X "dict" := by rfl) (hgz : Gl X "zip" := by rfl)
    (hs : starEach [e, f] X.env = (false, eval e X.env) :: starEach [f] X.env := by rfl) (hs2 : starEach [f] X.env = (false, eval f X.env) :: starEach [] X.env := by rfl) (hpl : (backTo zpos (starEach [f] X.env)).any (·.1) = false := by rfl)
    (hs0 : starEach [.Call (.Name "zip" p2) [e, f] [] zpos] X.env = (false, eval (.Call (.Name "zip" p2) [e, f] [] zpos) X.env) :: starEach [] X.env := by rfl) :
    Ev C X (.Call (.Name "dict" p) [.Call (.Name "zip" p2) [e, f] [] zpos] [] pos) ρ (.dn (ks.zip vals)) := by
  refine ⟨fun pins s σ H Q I ⟨H0, B, ex, en, q⟩ => ?_⟩
  refine wpAny_Call_Name_kw (ld_blt I hg hm (u := .type "dict") (by decide +kernel) ?_ (by decide) (by decide))
  refine PyProof.Rows.callWith_type1 ?_ hs0 rfl
  rw [hs0]
  show wpAny _ _ (spliced ((false, eval (.Call (.Name "zip" p2) [e, f] [] zpos) X.env) :: backTo pos (starEach [] X.env))) _ _ s
  refine Calls.spliced_cons ?_
  have ha := (pa_cons (pe_size he) (pa_cons (pe_size hf) pa_nil hs2) hs).run zpos pins s σ H (fun vs H2 => ∃ B2 a b xs ys, vs = [.ref a, .ref b] ∧ Step B H B2 H2 ∧ TupAt B2 a xs ∧ DtAll B2 xs (ks.map NestedKey.data) ∧ B2 b = some (.lst ys) ∧ DtAll B2 ys vals ∧ xs.length ≤ sizeLine) I
    ⟨H0, B, ex, en, fun v B1 H1 s1 r1 sz1 => ⟨H0, B1, s1.t, en.step s1, fun w B2 H2 s2 r2 sz2 => by
      cases r1 with
      | @tup a xs _ ha hd =>
        cases r2 with
        | @lst b ys _ hb hd2 => exact ⟨B2, a, b, xs, ys, rfl, s1.trans s2, ha.mono s2.b, dtall_mono s2.b _ _ hd, hb, hd2, sz1.2 a xs (ha.mono s1.t)⟩⟩⟩
  refine Call_ (ld_blt I hgz hmz boot_zip (PyProof.Rows.callWith_type1 (thn ha ?_) hs hpl))
  rintro us s1 ⟨vs, H1, I1, r1, B2, a, b, xs, ys, rfl, st, hta, hda, hlb, hdb, hxz⟩
  obtain ⟨u1, u2, rfl, r2, r3⟩ := r1.two
  cases r2
  cases r3
  have ex1 : Ex B2 H1 := st.t
  obtain ⟨its, rv, q1, _⟩ := inv_src (tup := true) I1 (hta.mono ex1).sq
  obtain ⟨jts, rw', q2, _⟩ := inv_src (tup := false) I1 (sl_of (ex1 _ _ hlb))
  obtain ⟨z4, gz, gI, gO, g1, g2, keep⟩ := zip5_at s1.heap (sis_begins true a its.toArray).free (sis_begins false b jts.toArray).free
  refine callType_new F.called_zip (by decide) (F.typeCall_zip_2 _ _) (F.newCall_zip_2 _ _) (fun obj => F.args_object_init_3 obj _ _) F.entry_zip_new (meets_zip2 (sis_begins true a its.toArray) (sis_begins false b jts.toArray)) ⟨q1, q2, ?_⟩
  show _ ∧ _
  rw [z4]
  refine ⟨⟨_, gz, rfl⟩, ?_⟩
  refine Calls.spliced_nil ?_
  obtain ⟨tr, ws, t1, t2, t3, t4⟩ := keys_tri hk hda rv hdb rw'
  have hlw : ws.length = tr.length := by
    have := t2.length
    rw [List.length_map] at this
    exact this.symm
  have hkeys : tr.map (·.1) = (ks.zip vals).map (·.1) := tri_keys (fun _ _ h => h.1) t1
  have hnd : ((tris tr ws).map (·.1)).Nodup := by
    rw [tris_keys hlw, hkeys]
    have sub : ((ks.zip vals).map (·.1)).Sublist ks := by
      have : ∀ (l : List NestedKey) (m : List D), ((l.zip m).map (·.1)).Sublist l := fun l => by
        induction l with
        | nil => intro m; exact List.Sublist.refl _
        | cons x l ih =>
          intro m
          cases m with
          | nil => exact List.nil_sublist _
          | cons y m => exact (ih m).cons_cons x
      exact this ks vals
    exact hn.sublist sub
  have hz2 : tr.length ≤ sizeLine := by
    have h3 : (tris tr ws).length = tr.length := by
      unfold tris
      rw [List.length_zipWith, hlw, Nat.min_self]
    have h4 : its.length = xs.length := rv.length.symm
    omega
  have hdep : ∀ x ∈ tr, x.1.depth ≤ 8 := fun x hx => by
    have : x.1 ∈ (ks.zip vals).map (·.1) := hkeys ▸ List.mem_map.mpr ⟨x, hx, rfl⟩
    obtain ⟨y, hy, e⟩ := List.mem_map.mp this
    rw [← e]
    exact (hk y.1 (List.of_mem_zip hy).1).dp
  have isk : ∀ h' : Heap, (∀ b o, s1.heap.get? b = some o → h'.get? b = some o) → ∀ x ∈ tris tr ws, (nestedKind X.prog X.w).is h' x.1 x.2.1 := fun h' hk' x hx => by
    obtain ⟨y, hy, e1, e2⟩ := tris_mem hx
    rw [e1, e2]
    exact ⟨NestedIs.at (fun a o _ _ q _ => hk' a o q) _ _ (nested_of I1 ex1 y.1 _ _ (keys_of t1 y hy) rfl), hdep y hy⟩
  have hold : ∀ b o, s1.heap.get? b = some o → b ∉ ([s1.heap.objs.size + 4, s1.heap.objs.size + 3, s1.heap.objs.size, s1.heap.objs.size + 1] : List Addr) := fun b o hb hm => by
    have lt : b < s1.heap.objs.size := Heap.lt_size hb
    have e : b = s1.heap.objs.size + 4 ∨ b = s1.heap.objs.size + 3 ∨ b = s1.heap.objs.size ∨ b = s1.heap.objs.size + 1 := by simpa using hm
    rcases e with e | e | e | e
    · exact absurd (e ▸ lt) (Nat.not_lt.mpr (Nat.le_add_right _ _))
    · exact absurd (e ▸ lt) (Nat.not_lt.mpr (Nat.le_add_right _ _))
    · exact absurd (e ▸ lt) (Nat.lt_irrefl _)
    · exact absurd (e ▸ lt) (Nat.not_lt.mpr (Nat.le_add_right _ _))
  have hsz5 : (zip5 (iterOb true a) (iterOb false b) s1.heap).objs.size = s1.heap.objs.size + 5 := by
    unfold zip5
    rw [Heap.size_push, z4]
  have hne : ∀ x o, s1.heap.get? x = some o → x ≠ (zip5 (iterOb true a) (iterOb false b) s1.heap).objs.size := fun x o hb e => by
    have lt : x < s1.heap.objs.size := Heap.lt_size hb
    rw [hsz5] at e
    exact absurd (e ▸ lt) (Nat.not_lt.mpr (Nat.le_add_right _ _))
  have hroom : (nestedKind X.prog X.w).room X.A.in1.in1 := by
    show X.A.in1.in1.units + 8 < cLine
    have := hr.un
    have : X.A.in1.in1.units ≤ X.A.units + 2 := by
      unfold Around.in1
      simp
    omega
  refine PySem.call_dict_pairsH (knd := nestedKind X.prog X.w) (ps := tris tr ws) (zip_pairs (prog := X.prog) (w := X.w) true false s1.heap.objs.size a b q1.lt q2.lt its.toArray jts.toArray) (I.ok.hd hc) hroom
    ⟨gz, gI, ⟨_, _, gO⟩, iterOb_at g1, iterOb_at g2, q1.stay fun o e => keep _ o e, q2.stay fun o e => keep _ o e⟩ ⟨by rw [t3, List.size_toArray, List.size_toArray], fun i key v hi => t4 i key v (by simpa using hi.1) (by simpa using hi.2)⟩
    (fun h' hk' => isk h' fun x o e => hk' x o (hne x o e) (hold x o e) (keep x o e)) (by
      have : (min its.toArray.size jts.toArray.size) ≤ its.toArray.size := Nat.min_le_left ..
      have h2 : its.toArray.size = xs.length := by rw [List.size_toArray, ← rv.length]
      exact Nat.le_trans this (h2 ▸ hxz)) fun h' tk hd' hk' => ?_
  rw [storedAll_new _ [] hnd (fun _ _ z => by cases z), List.nil_append] at hd'
  have kp : ∀ x o, s1.heap.get? x = some o → h'.get? x = some o := fun x o e => hk' x o (hold x o e) (keep x o e)
  have hD : s1.heap.objs.size ≤ (zip5 (iterOb true a) (iterOb false b) s1.heap).objs.size := by
    rw [hsz5]
    exact Nat.le_add_right _ _
  have hok : DkAt X.prog X.w h' (zip5 (iterOb true a) (iterOb false b) s1.heap).objs.size tr ws := ⟨t2, hz2, by
    refine beq_eq_false_iff_ne.mpr (Ne.symm (Nat.ne_of_lt (Nat.lt_of_lt_of_le I1.big hD))), hd', hdep⟩
  have I2 : Inv X pins σ (upd H1 (zip5 (iterOb true a) (iterOb false b) s1.heap).objs.size (DkO X.prog X.w (zip5 (iterOb true a) (iterOb false b) s1.heap).objs.size tr)) { s1 with heap := h', toks := tk } := I1.laid (t' := tk) kp hD hok.ok
  have hfr : H1 (zip5 (iterOb true a) (iterOb false b) s1.heap).objs.size = none := I1.hok.fresh hD
  have stn := Step.new (o := DkO X.prog X.w (zip5 (iterOb true a) (iterOb false b) s1.heap).objs.size tr) ex1 hfr
  exact ⟨.ref _, _, I2, rfl, q _ _ _ (st.trans stn) ⟨_, tr, rfl, upd_same, Paired.mapP t1 fun p q r => ⟨r.1, dt_mono stn.b _ _ r.2.1, dt_mono stn.b _ _ r.2.2⟩⟩⟩
end
end DL
set_option maxRecDepth 100000
set_option maxHeartbeats 4000000
/-! the data layer, 19: {k: v for ..}, the keys tuples, each new -/
namespace DL
open PySem PySem.Spec PyProof.Rows L2 SlX

theorem d_putNew {X : Cx} {pins : List (Addr × Obj)} {σ : L2.St} {H B : Hp} {s : Shared} {E : Value → Shared → Prop} {a b : Addr} {xs : Tri} {k : NestedKey} {v : V} {u r : Value} {n : Nat} {Q : Unit → Shared → Prop} (hr : Room n X.A) (I : Inv X pins σ H s) (ex : Ex B H) (hk : Dt B (.ref b) k.data) (hdp : k.depth ≤ 8)
    (hH : H a = some (DkO X.prog X.w a xs)) (hks : ∀ z ∈ xs, Dt B (.ref z.2.1) z.1.data) (hno : kfind (xs.map fun z => (z.1, z.2.2)) k = none) (hz : xs.length < sizeLine) (ru : RelV (.ref b) u) (rv : RelV v r)
    (q : ∀ s', Inv X pins σ (upd H a (DkO X.prog X.w a (xs ++ [(k, b, v)]))) s' → Q () s') : wpAny (model X.prog X.w) X.A (dictSet a u r) Q E s := by
  obtain ⟨vs, dk⟩ := dkAt_of I ex hH hks
  have hn := nested_of I ex k _ u hk ru
  cases ru
  have hl : vs.length = xs.length := by
    have := dk.va.length
    rw [List.length_map] at this
    exact this.symm
  have hat : atKey (tris xs vs) k = none := by
    have hrel := tris_at (k := k) dk.va
    rw [hno] at hrel
    exact Option.map_eq_none_iff.mp (RelO.none_of hrel)
  have room : (nestedKind X.prog X.w).room X.A := by
    show X.A.units + 8 < cLine
    have := hr.un
    omega
  refine wpAny_dictSet_heap (hsz := ?_) room ⟨hn, hdp⟩ dk.d fun h' dd' hsame => ?_
  · rw [storedH_new hat] at dd'
    have new : DkAt X.prog X.w h' a (xs ++ [(k, b, v)]) (vs ++ [r]) := ⟨by rw [List.map_append]; exact dk.va.append (.cons rv .nil), by rw [List.length_append]; exact hz, dk.sy, by rw [tris_app hl]; exact dd', fun z hz => by
      rcases List.mem_append.mp hz with hz | hz
      · exact dk.dp z hz
      · cases List.mem_singleton.mp hz
        exact hdp⟩
    obtain ⟨o, _, _, ho, _⟩ := dd'
    exact q _ (d_write I (by rw [hH]; exact True.intro) hsame ⟨o, ho⟩ new.ok)
  · unfold tris
    rw [List.length_zipWith, hl, Nat.min_self]
    exact dk.sz
section
variable {X : Cx}
/-- the heap behind a new key -/
def NewKey (P : Program) (w : World) (H : Hp) (a : Addr) (y z : V) (H' : Hp) : Prop := ∃ B b k xs, Ex B H ∧ y = .ref b ∧ Dt B y k.data ∧ k.depth ≤ 8 ∧ H a = some (DkO P w a xs) ∧ (∀ t ∈ xs, Dt B (.ref t.2.1) t.1.data) ∧ kfind (xs.map fun t => (t.1, t.2.2)) k = none ∧ xs.length < sizeLine ∧ H' = upd H a (DkO P w a (xs ++ [(k, b, z)]))
def tDcN (P : Program) (w : World) (wi : TI) (g : TG) (tk tv : TE) (vs : List Nat) : TE := fun σ H Q => wi σ H fun J H1 => ∀ D, H1 D = none → ∃ W : Nat → Nat → Hp → Prop, (∃ m, W 0 m (upd H1 D (DkO P w D []))) ∧ ∀ i m H, W i m H →
  (J.stop i H ∧ Q (.ref D) H) ∨ (J.go i H ∧ ∃ Nx : Hp → Prop, (∀ H', Nx H' → ∃ m', m' < m ∧ W (i + 1) m' H') ∧ ∀ x H', J.yld i H x H' → g x (wipe σ vs) H' fun σ2 H2 => wipe σ2 vs = wipe σ vs ∧ tk σ2 H2 fun y H4 => tv σ2 H4 fun z H5 => ∃ H6, NewKey P w H5 D y z H6 ∧ Nx H6)
theorem dcN_core {n : Nat} {pins : List (Addr × Obj)} {s : Shared} {σ : L2.St} {H : Hp} {Q : VK} {kx vx tg iter : Expr} {scope : Scope} {own : List (Str × Nat)} {pos : Pos} {wi : TI} {g : TG} {tk tv : TE}
    (hr : Room n X.A) (hc : X.calm = true) (hN : X.N.Nodup) (I : Inv X pins σ H s) (hi : PI X tg iter wi) (ok : BlkOk X.N X.env.scope scope own)
    (hg : ∀ (s : Shared) (H : Hp) (C : Addr) (cl : List (Str × Addr)) (fp : List Addr), PG (X.blk s H scope (compEnvC scope cl C X.env) fp) tg g) (hk : ∀ (s : Shared) (H : Hp) (C : Addr) (cl : List (Str × Addr)) (fp : List Addr), PE (X.blk s H scope (compEnvC scope cl C X.env) fp) kx tk)
    (he : ∀ (s : Shared) (H : Hp) (C : Addr) (cl : List (Str × Addr)) (fp : List Addr), PE (X.blk s H scope (compEnvC scope cl C X.env) fp) vx tv) (hs : ∀ x, foldedSetIterable iter X.env x = pure x) (h : tDcN X.prog X.w wi g tk tv (own.map (·.2)) σ H Q) :
    wpAny (model X.prog X.w) X.A (eval (.DictComp kx vx [⟨tg, iter, [], 0⟩] scope pos) X.env) (EP X pins σ Q) X.xe s := by
  rw [arm_eval_DictComp]
  have free : ∀ y ∈ scope.names, y.2 = .free → ∃ c, X.env.cells.lookup y.1 = some c := fun y hy e => (ok.free y hy e).elim (fun k => I.ok.has _ (.inl k)) fun k => I.ok.has _ (.inr k)
  refine wpAny_comprehension_free rfl hs (closure_ok free) ok.kind (fun y hy e => by rw [ok.uniq y hy, e]) (thn (hi.run pins s σ H _ I h) fun xv s1 hx => thn hx fun itv s2 ⟨it, fp, tn, J, H2, e, I2, T, st2, f2, q⟩ => ?_)
  subst e
  refine wpAny_newObj_type (newEnv_comp ?_)
  generalize hD : s2.heap.objs.size = D
  have hDn : H2 D = none := I2.hok.fresh (Nat.le_of_eq hD)
  obtain ⟨W, ⟨m0, w0⟩, turn⟩ := q D hDn
  have h0 : ObjOk X.prog X.w (upd H2 D (DkO X.prog X.w D [])) (s2.heap.push { cls := .type "dict", data := .dict #[] }) D (DkO X.prog X.w D []) := by
    rw [← hD]
    exact DkAt.ok (vs := []) ⟨.nil, Nat.zero_le _, beq_eq_false_iff_ne.mpr (Ne.symm (Nat.ne_of_lt I2.big)), Heap.DictOfH.new _, fun _ h => (by cases h)⟩
  generalize hs3 : ({ s2 with heap := s2.heap.push { cls := .type "dict", data := .dict #[] } } : Shared) = s3
  have h3 : s3.heap = s2.heap.push { cls := .type "dict", data := .dict #[] } := by rw [← hs3]
  have I3 : Inv X pins σ (upd H2 D (DkO X.prog X.w D [])) s3 := by
    rw [← hs3]
    exact I2.laid (t' := s2.toks) (fun b o e => Heap.get?_push_of_some _ e) (Nat.le_of_eq hD) h0
  have low : ∀ b ∈ fp, b < s2.heap.objs.size := fun b hb => Heap.lt_size (T.obj _ _ st2 b hb).choose_spec.1
  have f3 : ∀ b ∈ fp, FpOk X pins (upd H2 D (DkO X.prog X.w D [])) b ∧ b < s3.heap.objs.size := fun b hb => by
    refine ⟨⟨?_, (f2 b hb).2⟩, by rw [h3, Heap.size_push]; exact Nat.lt_succ_of_lt (low b hb)⟩
    rw [upd_ne (by rw [← hD]; exact Nat.ne_of_lt (low b hb))]
    exact (f2 b hb).1
  have st3 : tn 0 s3.heap := T.keep _ _ _ st2 fun b _ o e => by rw [h3]; exact Heap.get?_push_of_some _ e
  have I4 := block_start I3 ok hN f3
  generalize hH3 : upd H2 D (DkO X.prog X.w D []) = H3 at I3 I4 w0 f3
  have pg := hg s3 H3 s3.heap.objs.size (cellsFrom (s3.heap.objs.size + 1) scope.names (cloFrom X.env.cells scope.names [])) fp
  have pk := hk s3 H3 s3.heap.objs.size (cellsFrom (s3.heap.objs.size + 1) scope.names (cloFrom X.env.cells scope.names [])) fp
  have pe := he s3 H3 s3.heap.objs.size (cellsFrom (s3.heap.objs.size + 1) scope.names (cloFrom X.env.cells scope.names [])) fp
  have nfp : ∀ b ∈ fp, H3 b = none := fun b hb => (f3 b hb).1.1
  generalize hce : compEnvC scope (cellsFrom (s3.heap.objs.size + 1) scope.names (cloFrom X.env.cells scope.names [])) s3.heap.objs.size X.env = ce at I4 pg pk pe
  have cL : ce.locals = s3.heap.objs.size := by subst hce; rfl
  generalize hs4 : ({ s3 with heap := pushCells (s3.heap.push { cls := .type "dict", data := .dict #[] }) scope.names } : Shared) = s4 at I4
  have st4 : tn 0 s4.heap := T.keep _ _ _ st3 fun b _ o e => by rw [← hs4]; exact pushCells_keeps _ _ _ _ (Heap.get?_push_of_some _ e)
  have stat : ∀ {σ' : L2.St} {H' : Hp} {s' : Shared}, Inv (X.blk s3 H3 scope ce fp) [] σ' H' s' → (∀ b ∈ fp, H' b = none) → ∀ b ∈ fp, FpOk (X.blk s3 H3 scope ce fp) [] H' b := fun {σ' H' s'} I' hn b hb =>
    ⟨hn b hb, (I'.ok.exf b hb).1, I'.ok.exfs b hb, .inl hb, fun x c e => (I'.ok.exf b hb).2 x c e, fun p hp => absurd (show p ∈ ([] : List (Addr × Obj)) ++ [] from hp) (by simp)⟩
  have goal : codeAny (model X.prog X.w) X.A (.compLoop (.DictComp kx vx [⟨tg, iter, [], 0⟩] scope pos) 0 (.ref it) (.ref D) ce) (compPost (model X.prog X.w) X.A X.xe none (EP X pins σ Q) (.ref D) s3.heap.objs.size) s4 := by
    refine compLoop_anyD (fun n s' => ∃ i H', Inv (X.blk s3 H3 scope ce fp) [] (wipe σ (own.map (·.2))) H' s' ∧ tn i s'.heap ∧ (∀ b ∈ fp, H' b = none) ∧ W i n H') ?_ m0 ⟨0, H3, I4, st4, nfp, w0⟩
    rintro n s5 ⟨i, H5, I5, st5, n5, w5⟩
    rcases turn i n H5 w5 with ⟨stop, qq⟩ | ⟨go, Nx, hNx, step⟩
    · refine thnF (T.done (X.blk s3 H3 scope ce fp) rfl rfl rfl hc i [] s5 _ H5 (fun _ _ => False) I5 (stat I5 n5) st5 stop) fun r s6 ⟨hr, I6⟩ => ?_
      subst hr
      have I7 : Inv X pins σ H5 s6 := I3.call' (ch := fp) I6.os I6.base I6.hok I6.bare fun b hb => ⟨(f3 b hb).1.2.2.2.1, (f3 b hb).1.2.1, (f3 b hb).1.2.2.2.2.1, (f3 b hb).1.2.2.2.2.2⟩
      have nC : H5 s3.heap.objs.size = none := cL ▸ (show H5 ce.locals = none from I6.free)
      obtain ⟨m, hn, _⟩ := I6.loc
      have hn : s6.heap.Ns ce.locals m := hn
      rw [cL] at hn
      obtain ⟨q0, q1, q2, q3, q4, q5⟩ := I3.fpOk (Nat.le_refl _) nC
      exact ⟨m, hn, fun h'' sb => ⟨.ref D, H5, I7.turned (t' := s6.toks) (fun b o hb e => (sb.2 b hb).trans e) q0 q1 q3 q4 q5, rfl, qq⟩⟩
    · refine thnF (T.item (X.blk s3 H3 scope ce fp) rfl rfl rfl hc i [] s5 _ H5 (fun _ _ => False) I5 (stat I5 n5) st5 go) fun r s6 ⟨u, hr, h6⟩ => ?_
      subst hr
      refine thnF h6 fun _ s7 ⟨x, H7, I7, r7, y7, st7, n7⟩ => ?_
      have I7' := I7.pinned (stat I7 n7) (T.obj _ _ st7)
      refine thnF (pg.run _ s7 _ H7 x u _ I7' r7 (step x H7 y7)) fun _ s8 ⟨σ8, H8, I8, hw8, q8⟩ => ?_
      refine thnF ((pts_nil (X := X.blk s3 H3 scope ce fp)).run _ s8 σ8 H8 (fun b H' => b = true ∧ H' = H8) I8 ⟨rfl, rfl⟩) fun b s9 ⟨H9, I9, e1, e2⟩ => ?_
      subst e1 e2
      simp only [if_true]
      refine thnF (pk.run _ s9 σ8 H9 _ I9 q8) fun z s10 ⟨yk, H10, I10, r10, q10⟩ => ?_
      refine thnF (pe.run _ s10 σ8 H10 _ I10 q10) fun z2 s11 ⟨yv, H11, I11, r11, H6, ⟨B, b, k, xs, ex, ey, hkk, hdp, hH, hks, hno, hz, eH⟩, nx⟩ => ?_
      subst ey eH
      refine d_putNew (X := X.blk s3 H3 scope ce fp) hr I11 ex hkk hdp hH hks hno hz r10 r11 fun s' I' => ?_

      obtain ⟨m', hm, w'⟩ := hNx _ nx
      have pin' : ∀ b ∈ fp, ∀ o, s7.heap.get? b = some o → s'.heap.get? b = some o ∧ _ = none := fun b hb o e =>
        let z := I'.pin (b, o) (List.mem_append_right _ (List.mem_append_right _ (mem_pinsAt hb e)))
        ⟨z.1, z.2.1⟩
      have hl : (wipe σ (own.map (·.2))).length = σ8.length := by rw [← hw8, wipe_length]
      refine ⟨m', hm, i + 1, _, (I'.unpinned (pins := [])).weak hl (fun j v e => ?_), T.keep _ _ _ st7 fun b hb o e => (pin' b hb o e).1, fun b hb => ?_, w'⟩
      · rw [← hw8] at e
        exact (wipe_some e).1
      · obtain ⟨o, e, _⟩ := T.obj _ _ st7 b hb
        exact (pin' b hb o e).2
  subst hce hs4
  exact codeAny_compStart_dict goal (T.self X.A 0 _ _ _ st4 goal)
end
end DL
set_option maxRecDepth 100000
set_option maxHeartbeats 4000000
/-! the data layer, 20: {k: a dict for ..}; set(texts), sorted -/
namespace DL
open PySem PySem.Spec PyProof.Rows L2 SlX

theorem kfind_none {β : Type} {kvs : List (NestedKey × β)} {k : NestedKey} (h : k ∉ kvs.map (·.1)) : kfind kvs k = none := by
  unfold kfind
  rw [Option.map_eq_none_iff, List.find?_eq_none]
  intro x hx hx2
  exact h (List.mem_map.mpr ⟨x, hx, of_decide_eq_true hx2⟩)
def teF (c : Ct) (ρ' : D → List Sl) (f : D → DV) (ds : List D) : TE := fun σ H Q => ∃ d, d ∈ ds ∧ tD c (ρ' d) (f d) σ H Q
section
variable {C : Addr} {X : Cx} {kx vx tg iter : Expr} {ρ : List Sl} {pos : Pos} {scope : Scope} {own : List (Str × Nat)} {n : Nat} {ds : List D}
theorem pe_f {X' : Cx} {e : Expr} {ρ' : D → List Sl} {f : D → DV} (h : ∀ d ∈ ds, Ev C X' e (ρ' d) (f d)) : PE X' e (teF (ct X' C) ρ' f ds) := ⟨fun pins s σ H Q I ⟨d, hd, q⟩ => (h d hd).run pins s σ H Q I q⟩
theorem ev_dcN {ρ' : D → List Sl} {js : List Nat} {kf : D → NestedKey} {vf : D → List (Str × D)} (hr : Room n X.A) (hc : X.calm = true) (hN : X.N.Nodup) (ok : BlkOk X.N X.env.scope scope own) (hjs : ∀ j ∈ js, j ∈ own.map (·.2)) (hi : EvI C X tg iter ρ ds) (hkey : ∀ d ∈ ds, KeyOk (kf d)) (hnd : (ds.map kf).Nodup)
    (hg : ∀ (s : Shared) (H : Hp) (Cc : Addr) (cl : List (Str × Addr)) (fp : List Addr), ∀ d ∈ ds, EvG C (X.blk s H scope (compEnvC scope cl Cc X.env) fp) tg (forgets ρ (own.map (·.2))) d (ρ' d) js)
    (hk : ∀ (s : Shared) (H : Hp) (Cc : Addr) (cl : List (Str × Addr)) (fp : List Addr), ∀ d ∈ ds, Ev C (X.blk s H scope (compEnvC scope cl Cc X.env) fp) kx (ρ' d) (.d (kf d).data))
    (he : ∀ (s : Shared) (H : Hp) (Cc : Addr) (cl : List (Str × Addr)) (fp : List Addr), ∀ d ∈ ds, Ev C (X.blk s H scope (compEnvC scope cl Cc X.env) fp) vx (ρ' d) (.dk (vf d)))
    (hs : ∀ x, foldedSetIterable iter X.env x = pure x := by intro _; rfl) : Ev C X (.DictComp kx vx [⟨tg, iter, [], 0⟩] scope pos) ρ (.dnk (ds.map fun d => (kf d, vf d))) := by
  refine ⟨fun pins s σ H Q I ⟨H0, B, ex, en, k⟩ => ?_⟩
  refine dcN_core (g := gAll (ct X C) (forgets ρ (own.map (·.2))) ρ' ds js) (tk := teF (ct X C) ρ' (fun d => .d (kf d).data) ds) (tv := teF (ct X C) ρ' (fun d => .dk (vf d)) ds) hr hc hN I hi ok (fun s H Cc cl fp => pg_all (hg s H Cc cl fp)) (fun s H Cc cl fp => pe_f (f := fun d => .d (kf d).data) (hk s H Cc cl fp)) (fun s H Cc cl fp => pe_f (f := fun d => .dk (vf d)) (he s H Cc cl fp)) hs ?_
  refine ⟨H0, B, ex, en, fun J B1 H1 s1 wd D hD => ?_⟩
  have ex1 : Ex B1 H1 := s1.t
  have hBD : B1 D = none := ex1.free hD
  refine ⟨fun i m H2 => m = ds.length - i ∧ i ≤ ds.length ∧ ∃ B2 tri, Step B1 H1 B2 H2 ∧ B2 D = none ∧ H2 D = some (DkO X.prog X.w D tri) ∧ Paired (fun (p : NestedKey × Addr × V) (q : NestedKey × List (Str × DL.D)) => p.1 = q.1 ∧ Dt B2 (.ref p.2.1) p.1.data ∧ IsK B2 p.2.2 q.2) tri ((ds.take i).map fun d => (kf d, vf d)),
    ⟨_, rfl, Nat.zero_le _, B1, [], Step.aside ex1 hD, hBD, upd_same, .nil⟩, ?_⟩
  rintro i m H2 ⟨rfl, hi2, B2, tri, st, hB2, hD2, hp⟩
  by_cases hlt : i < ds.length
  · refine .inr ⟨wd.go i H2 hlt (st.b.trans st.t), fun H' => i + 1 ≤ ds.length ∧ ∃ B2 tri, Step B1 H1 B2 H' ∧ B2 D = none ∧ H' D = some (DkO X.prog X.w D tri) ∧ Paired (fun (p : NestedKey × Addr × V) (q : NestedKey × List (Str × DL.D)) => p.1 = q.1 ∧ Dt B2 (.ref p.2.1) p.1.data ∧ IsK B2 p.2.2 q.2) tri ((ds.take (i + 1)).map fun d => (kf d, vf d)),
      fun H' h => ⟨_, by omega, rfl, h.1, h.2⟩, fun x H' y => ?_⟩
    obtain ⟨d, hdi, hy⟩ := wd.yld i H2 x H' hlt (st.b.trans st.t) y
    have hmem : d ∈ ds := List.mem_of_getElem? hdi
    have htake : ds.take (i + 1) = ds.take i ++ [d] := by rw [List.take_add_one, hdi]; rfl
    obtain ⟨B3, st3, hx⟩ : ∃ B3, Step B2 H2 B3 H' ∧ Dt B3 x d := by
      rcases hy with ⟨rfl, hx⟩ | ⟨T, o, xs, es, rfl, hT, ho, rfl, rfl, hes⟩
      · exact ⟨B2, Step.refl st.t, dt_mono st.b _ _ hx⟩
      · have s3 := Step.new (o := .frz o (.tup xs)) st.t hT
        exact ⟨_, s3, .tup ⟨o, upd_same, ho⟩ (dtall_mono (st.b.trans s3.b) _ _ hes)⟩
    have st13 : Step B1 H1 B3 H' := st.trans st3
    obtain ⟨hB3, hD3⟩ := st3.f D _ hB2 hD2
    have en3 : EnvOk (ct X C) H0 B3 H' (wipe σ (own.map (·.2))) (forgets ρ (own.map (·.2))) := ((en.step s1).step st13).wipe _
    refine ⟨d, hmem, H0, B3, st3.t, en3, hx, fun σ2 en4 hl hn => ⟨wipe_same hl hn hjs, d, hmem, H0, B3, st3.t, en4, fun v B4 H4 st4 r4 => ⟨d, hmem, H0, B4, st4.t, en4.step st4, fun w B5 H5 st5 r5 => ?_⟩⟩⟩
    have st35 := st4.trans st5
    obtain ⟨hB5, hD5⟩ := st35.f D _ hB3 hD3
    obtain ⟨b, rfl⟩ := (hkey d hmem).ref r4
    have hp5 : Paired (fun (p : NestedKey × Addr × V) (q : NestedKey × List (Str × DL.D)) => p.1 = q.1 ∧ Dt B5 (.ref p.2.1) p.1.data ∧ IsK B5 p.2.2 q.2) tri ((ds.take i).map fun d => (kf d, vf d)) :=
      Paired.mapP hp fun p q r => ⟨r.1, dt_mono (st3.b.trans st35.b) _ _ r.2.1, isK_mono (st3.b.trans st35.b) r.2.2⟩
    have hno : kfind ((ds.take i).map fun d => (kf d, vf d)) (kf d) = none := kfind_none fun hm => by
      rw [List.map_map] at hm
      obtain ⟨d', hd', e⟩ := List.mem_map.mp hm
      have hsub : (ds.take i ++ [d]).Sublist ds := by
        rw [← htake]
        exact List.take_sublist _ _
      have hnd2 := hnd.sublist (hsub.map kf)
      rw [List.map_append, List.nodup_append] at hnd2
      exact hnd2.2.2 _ (List.mem_map.mpr ⟨d', hd', rfl⟩) _ (List.mem_map.mpr ⟨d, List.mem_singleton.mpr rfl, rfl⟩) e
    have hlen : tri.length ≤ i := by
      rw [paired_len hp, List.length_map, List.length_take]
      omega
    refine ⟨_, ⟨B5, b, kf d, tri, st5.t, rfl, dt_mono st5.b _ _ r4, (hkey d hmem).dp, hD5, keys_of hp5, (kfind_pair hp5).2 hno, by have := wd.size; omega, rfl⟩, by omega, B5, tri ++ [(kf d, b, w)], (st13.trans st35).mut hB5 hD, hB5, upd_same, ?_⟩
    rw [htake, List.map_append]
    exact paired_append hp5 (.cons ⟨rfl, dt_mono st5.b _ _ r4, r5⟩ .nil)
  · have e : i = ds.length := by omega
    subst e
    refine .inl ⟨wd.stop H2 (st.b.trans st.t), ?_⟩
    rw [List.take_length] at hp
    have stf : Step B H (upd B2 D (DkO X.prog X.w D tri)) H2 := (s1.trans st).fix hB2 ((Step.ex ex s1).free hD) hD2
    exact k _ _ _ stf ⟨D, tri, rfl, upd_same, Paired.mapP hp fun p q r => ⟨r.1, dt_mono (Ex.new hB2) _ _ r.2.1, isK_mono (Ex.new hB2) r.2.2⟩⟩
end
end DL
set_option maxRecDepth 100000
set_option maxHeartbeats 4000000
/-! the data layer, 21: sets of texts -/
namespace DL
open PySem PySem.Spec PyProof.Rows L2 SlX PySem.Calls

/-- the payload holds the texts l, and can be gathered -/
structure TxG (P : Program) (w : World) (D : Froz.SD) (l : List Str) : Prop where
  ok : Froz.TxOk P w D l
  ris : Ris D.2.2.place.toList
  led : w.params.followText "set-order" = true ∨ D.2.2.led = true
section
variable {P : Program} {w : World} {A : Around} {E : Value → Shared → Prop} {s : Shared}
theorem txg_new : TxG P w (#[], 0, .fresh 0 0 (!w.params.followText "set-order")) [] := ⟨Froz.TxOk.nil rfl, List.Pairwise.nil, by
  show _ ∨ (!w.params.followText "set-order") = true
  cases w.params.followText "set-order"
  · exact .inr rfl
  · exact .inl rfl⟩
theorem tail_ris {ep : Nat} {es : Array (Int × Value)} {t : SetTable} {b : Bool} (r : Ris t.place.toList) : Ris (Froz.tailTx ep es t b).2.2.place.toList := by
  unfold Froz.tailTx
  split
  · exact relayAll_ris _ _ _
  · exact r
theorem tail_led {ep : Nat} {es : Array (Int × Value)} {t : SetTable} {b : Bool} (r : t.led = true) : (Froz.tailTx ep es t b).2.2.led = true := by
  unfold Froz.tailTx
  split
  · exact (relayAll_led _ _ _).trans r
  · exact r
theorem txg_add {D : Froz.SD} {l : List Str} {k : Str} (u : Tok) (g : TxG P w D l) : TxG P w (Froz.addTx (hashStr w k) (.str k u) D) (k :: l) := by
  refine ⟨Froz.add_ok u g.ok, tail_ris ?_, g.led.imp id fun q => tail_led ?_⟩
  · have r := layNew_ris D.2.2 D.1 (hashStr w k) (.str k u) g.ris
    split
    · exact r
    · exact r
  · have r := (layNew_led D.2.2 D.1 (hashStr w k) (.str k u)).trans q
    split
    · exact r
    · exact r
/-- one that is there already -/
theorem add_there {a : Addr} {T : String} {D : Froz.SD} {l : List Str} {k : Str} {u : Tok} {Q : Bool → Shared → Prop} (ho : s.heap.get? a = some (Froz.sObj T D)) (g : Froz.TxOk P w D l) (hk : k ∈ l) (hb : l.length < scanBound) (h : Q false s) : wpAny (model P w) A (setAddHashed a (.str k u) (hashStr w k)) Q E s := by
  obtain ⟨es, ep, t⟩ := D
  have hd : (Froz.sObj T (es, ep, t)).data = .set es ep t := rfl
  have hf : t.fits es.size = true := g.fit
  have hel : ElemsOf (strKind P w) es.toList := g.el
  have hsz : es.size = l.length := g.sz
  have hkey : (strKind P w).is k (.str k u) = true := Froz.is_str k u
  obtain ⟨e, he, hek⟩ := (g.mem k).mp hk
  have hsome : ∃ j, List.findIdx? (fun e => (strKind P w).is k e.2) es.toList = some j := by
    cases hr : List.findIdx? (fun e => (strKind P w).is k e.2) es.toList with
    | some j => exact ⟨j, rfl⟩
    | none =>
      rw [List.findIdx?_eq_none_iff] at hr
      have := hr e he
      rw [hek] at this
      cases this
  obtain ⟨j, hj⟩ := hsome
  unfold setAddHashed setAddHashedIn
  refine wpAny_holding (wpAny_bind (wpAny_setState_of ho hd hf ?_))
  dsimp only
  rw [byScan_of rfl (by rw [hsz]; exact hb) hel, if_pos rfl]
  unfold setAddByScan
  refine wpAny_bind ?_
  refine wpAny_bind (wpAny_rule ?_)
  refine wpAny_bind (wpAny_setScan_of (knd := strKind P w) (k := k) hkey ho hd hf hel ?_)
  rw [hj]
  dsimp only
  first
    | exact wpAny_pure (wpAny_pure h)
    | exact wpAny_pure h
def addAll (l : List Str) (k : Str) : List Str := if k ∈ l then l else k :: l
theorem addAll_mem {l : List Str} {k x : Str} : x ∈ addAll l k ↔ x = k ∨ x ∈ l := by
  unfold addAll
  split
  · rename_i h
    exact ⟨.inr, fun q => q.elim (fun e => e ▸ h) id⟩
  · exact List.mem_cons
theorem addAll_nodup {l : List Str} {k : Str} (h : l.Nodup) : (addAll l k).Nodup := by
  unfold addAll
  split
  · exact h
  · rename_i h2
    exact List.nodup_cons.mpr ⟨h2, h⟩
theorem addAll_len (l : List Str) (k : Str) : (addAll l k).length ≤ l.length + 1 := by
  unfold addAll
  split
  · exact Nat.le_succ _
  · exact Nat.le_refl _
def TxAt (P : Program) (w : World) (h : Heap) (a : Addr) (l : List Str) : Prop := ∃ D, h.get? a = some (Froz.sObj "set" D) ∧ TxG P w D l
theorem add_txt {a : Addr} {l : List Str} {k : Str} {u : Tok} {Q : Bool → Shared → Prop} (x : TxAt P w s.heap a l) (hb : l.length + 1 < scanBound) (h : ∀ b h', Heap.SameBut a s.heap h' → TxAt P w h' a (addAll l k) → Q b { s with heap := h' }) :
    wpAny (model P w) A (setAddHashed a (.str k u) (hashStr w k)) Q E s := by
  obtain ⟨D, ho, g⟩ := x
  by_cases hk : k ∈ l
  · refine add_there ho g.ok hk (by omega) (h false s.heap ⟨rfl, fun _ _ => rfl⟩ ⟨D, ho, ?_⟩)
    unfold addAll
    rw [if_pos hk]
    exact g
  · refine Froz.add_x ho g.ok hk hb (h true _ (Heap.SameBut.update ..) ⟨_, Froz.get_upd _ ho rfl, ?_⟩)
    unfold addAll
    rw [if_neg hk]
    exact txg_add u g
theorem TxAt.at {h h' : Heap} {a : Addr} {l : List Str} (x : TxAt P w h a l) (k : ∀ o, h.get? a = some o → h'.get? a = some o) : TxAt P w h' a l :=
  let ⟨D, ho, g⟩ := x; ⟨D, k _ ho, g⟩
end
section
variable {P : Program} {w : World} {A : Around} {R : Result → Shared → Prop} {I : Addr} {fp wr : List Addr} {n : Nat} {Pv : Nat → Value → Prop} {St : Nat → Heap → Prop}
theorem txt_loop (W : Walks P w A.in1 I fp wr n Pv St) (S : Addr) (hSf : S ∉ fp) (ts : List Str) (hn : n = ts.length) (hval : ∀ i v, Pv i v → ∃ k t, ts[i]? = some k ∧ v = Value.str k t) (hb : n + 1 < scanBound) {s : Shared}
    (hR : ∀ h' tk l, TxAt P w h' S l → l.Nodup → (∀ x, x ∈ l ↔ x ∈ ts) → (∀ b o, b ≠ S → b ∉ wr → s.heap.get? b = some o → h'.get? b = some o) → R (.ok (.ret .none)) { s with heap := h', toks := tk }) :
    ∀ (k i : Nat) (h : Heap) (tk : Nat) (l : List Str), n - i = k → i ≤ n → St i h → TxAt P w h S l → l.Nodup → (∀ x, x ∈ l ↔ x ∈ ts.take i) → l.length ≤ i → (∀ b o, b ≠ S → b ∉ wr → s.heap.get? b = some o → h.get? b = some o) →
      codeAny (model P w) A (.builtin "set.update.loop" ⟨[.ref S, .ref I], []⟩) R { s with heap := h, toks := tk } := by
  have hSw : S ∉ wr := fun h => hSf (W.sub _ h)
  intro k
  induction k with
  | zero =>
    intro i h tk l hk hi hst hS hl hm hli hkeep
    have e : i = n := by omega
    subst e
    refine codeAny_builtin F.entry_set_update_loop ?_
    rw [Around.under_plainId F.plain_set_update_loop _]
    refine wpAny_bind (W.done { s with heap := h, toks := tk } _ _ hst fun h' tk' hk' => ?_)
    refine wpAny_pure (hR h' tk' l (hS.at fun o q => hk' S o hSw q) hl (fun x => ?_) fun b o h1 h2 q => hk' b o h2 (hkeep b o h1 h2 q))
    rw [hm x, hn, List.take_length]
  | succ k ih =>
    intro i h tk l hk hi hst hS hl hm hli hkeep
    have hlt : i < n := by omega
    refine codeAny_builtin F.entry_set_update_loop ?_
    rw [Around.under_plainId F.plain_set_update_loop _]
    refine wpAny_bind (W.item i { s with heap := h, toks := tk } _ _ hlt hst fun v h' tk' hP hst' hk' => ?_)
    obtain ⟨key, t, hts, rfl⟩ := hval i v hP
    refine wpAny_bind (wpAny_holding ?_)
    unfold setAdd
    refine wpAny_holding ?_
    refine wpAny_bind ((strKind P w).pyHash (k := key) (Froz.is_str key t) ?_)
    refine add_txt (P := P) (w := w) (s := { s with heap := h', toks := tk' + 1 }) (hS.at fun o q => hk' S o hSw q) (by omega) fun b h2 hsb hS2 => ?_
    refine wpAny_pure ⟨plainId_quiet F.plain_set_update_loop _, ih (i + 1) h2 (tk' + 1) (addAll l key) (by omega) hlt (W.frame _ _ _ hst' fun b hb o q => ?_) hS2 (addAll_nodup hl) (fun x => ?_) (Nat.le_trans (addAll_len _ _) (Nat.succ_le_succ hli)) fun b o h1 h3 q => ?_⟩
    · rw [hsb.2 b fun z => hSf (z ▸ hb)]
      exact q
    · rw [addAll_mem, hm x, List.take_add_one, hts, List.mem_append]
      constructor
      · rintro (e | e)
        · exact .inr (by simp [e])
        · exact .inl e
      · rintro (e | e)
        · exact .inr e
        · exact .inl (by simpa using e)
    · rw [hsb.2 b h1]
      exact hk' b o h3 (hkeep b o h1 h3 q)
end
end DL
set_option maxRecDepth 100000
set_option maxHeartbeats 4000000
/-! the data layer, 22: sorted(set(a tuple of texts)) -/
namespace DL
open PySem PySem.Spec PyProof.Rows L2 SlX PySem.Calls
open PySem.W (EachIs AllAlike Sortable dataLe)

def freshSet (w : World) : Obj := { cls := .type "set", dict := none, data := .set #[] 0 (.fresh 0 0 (!w.params.followText "set-order")) }
section
variable {P : Program} {w : World} {A : Around} {E : Value → Shared → Prop} {s : Shared}
theorem call_set_txt {l : Addr} {items : Array Value} (ts : List Str) {Q : Value → Shared → Prop} (hh : A.handled = none) (hl : s.heap.IsTuple l items) (hit : ∀ (i : Nat) v, items[i]? = some v → ∃ k t, ts[i]? = some k ∧ v = Value.str k t) (hn : items.size = ts.length) (hb : ts.length + 1 < scanBound)
    (h : ∀ (h' : Heap) (tk : Nat) ls, TxAt P w h' s.heap.objs.size ls → ls.Nodup → (∀ x, x ∈ ls ↔ x ∈ ts) → (∀ b o, s.heap.get? b = some o → h'.get? b = some o) → Q (.ref s.heap.objs.size) { s with heap := h', toks := tk }) :
    wpAny (model P w) A (call (.type "set") [.ref l]) Q E s := by
  obtain ⟨c, tl, hmro⟩ := F.called_set.mro
  have hmade := F.called_set.made
  have hsub := F.called_set.sub
  refine wpAny_call (codeAny_of_tree ?_)
  show wpAny _ _ (callAny (.type "set") _) _ _ _
  refine wpAny_pure ⟨Code.quiet_builtin _ (by decide +kernel), codeAny_builtin F.entry_type_call ?_⟩
  rw [Around.under_plain (weight_type_call_type "set" [.ref l] []) rfl]
  have h1 := F.called_set.notType
  have h2 := F.called_set.canCreate
  have hct := F.typeCall_set_1 (.ref l)
  repeat (any_goals (first | assumption | wp_step))
  refine codeAny_mono (code_set_led1 (.ref l) (E := E) (Q₁ := fun obj s₁ => obj = .ref s.heap.objs.size ∧ s₁ = { s with heap := s.heap.push (freshSet w) }) ⟨rfl, rfl⟩) fun r s₁ hr => ?_
  match r, hr with
  | .error e, hr => exact hr
  | .ok .next, hr => exact hr.elim
  | .ok .brk, hr => exact hr.elim
  | .ok .cont, hr => exact hr.elim
  | .ok (.ret obj), hr =>
    obtain ⟨rfl, rfl⟩ := hr
    have hS : (s.heap.push (freshSet w)).get? s.heap.objs.size = some (freshSet w) := Heap.get?_push_size _ rfl
    have hT : Shared.TypeIs { s with heap := s.heap.push (freshSet w) } (.ref s.heap.objs.size) "set" := ⟨_, hS, rfl⟩
    have hli := F.called_set.init.lookup
    have hbi := F.called_set.init.bind (.ref s.heap.objs.size)
    repeat (any_goals (first | assumption | wp_step))
    refine codeAny_mono (codeAny_call_builtin (R := wants (fun r s₂ => r = .none ∧ ∃ h' tk ls, s₂ = { s with heap := h', toks := tk } ∧ TxAt P w h' s.heap.objs.size ls ∧ ls.Nodup ∧ (∀ x, x ∈ ls ↔ x ∈ ts) ∧ (∀ b o, s.heap.get? b = some o → h'.get? b = some o)) E) F.called_set.init.plain F.entry_set_init (check_set_init_1 hT ?_)) fun r₂ s₂ hr₂ => ?_
    · obtain ⟨⟨ocls, odict, odata, oslots⟩, hol, hcl, nl, hdl⟩ := hl
      simp only at hcl hdl
      subst hcl hdl
      have hol' : (s.heap.push (freshSet w)).get? l = some { cls := .type "tuple", dict := odict, data := .seq items nl, slots := oslots } := Heap.get?_push_of_some _ hol
      have hsls := F.sub_tuple_set
      have hslf := F.sub_tuple_frozenset
      have hne : (Value.type "tuple" == Value.type "dict") = false := by decide
      have hl1 : (s.heap.push (freshSet w)).IsTuple l items := ⟨_, hol', rfl, nl, rfl⟩
      unfold Builtin.«set.__init__» noKeywords Builtin.Frozenset.updateFrom
      generalize hPI : pyIter = PI
      wp_walk
      subst hPI
      refine wpAny_pyIter_tuple hl1 ?_
      refine wpAny_bind (wpAny_runValue ?_)
      have hlS : l < s.heap.objs.size := Heap.lt_size hol
      have hh3 : A.in1.in1.in1.handled = none := by simp [hh]
      have hz1 : (s.heap.push (freshSet w)).objs.size = s.heap.objs.size + 1 := Heap.size_push ..
      have hlI : l ≠ (s.heap.push (freshSet w)).objs.size := by
        rw [hz1]
        exact Nat.ne_of_lt (Nat.lt_succ_of_lt hlS)
      have hSf : s.heap.objs.size ∉ [(s.heap.push (freshSet w)).objs.size, l] := by
        rw [hz1]
        exact off2 (Nat.ne_of_lt (Nat.lt_succ_self _)) (Nat.ne_of_gt hlS)
      refine txt_loop (P := P) (w := w) (s := { s with heap := (s.heap.push (freshSet w)).push { cls := .type "tuple_iterator", data := .fields #[.ref l, .int 0 0] } }) (Walks.tuple hh3 _ l hlI items) s.heap.objs.size hSf ts hn hit (by rw [hn]; exact hb) (fun h' tk ls x1 x2 x3 x4 => ?_) (items.size - 0) 0 _ s.toks [] (Nat.sub_zero _) (Nat.zero_le _)
        ⟨⟨_, Heap.get?_push_size _ rfl, rfl, rfl⟩, (hl1.push _)⟩ ⟨(#[], 0, .fresh 0 0 (!w.params.followText "set-order")), Heap.get?_push_of_some _ hS, txg_new⟩ List.nodup_nil (fun x => by simp) (Nat.le_refl _) (fun b o _ _ q => q)
      show wpAny _ _ _ _ _ _
      refine wpAny_pure ?_
      show wpAny _ _ (ret Value.none) _ _ _
      refine wpAny_pure ⟨rfl, h', tk, ls, rfl, x1, x2, x3, fun b o e => ?_⟩
      have hb0 : b < s.heap.objs.size := Heap.lt_size e
      refine x4 b o (Nat.ne_of_lt hb0) (fun z => ?_) (Heap.get?_push_of_some _ (Heap.get?_push_of_some _ e))
      have e2 := List.mem_singleton.mp z
      rw [hz1] at e2
      exact absurd (e2 ▸ hb0) (Nat.not_lt.mpr (Nat.le_succ _))
    · match r₂, hr₂ with
      | .error e, hr => exact hr
      | .ok .next, hr => exact hr.elim
      | .ok .brk, hr => exact hr.elim
      | .ok .cont, hr => exact hr.elim
      | .ok (.ret r), hr =>
        obtain ⟨rfl, h', tk', ls, rfl, x1, x2, x3, x4⟩ := hr
        repeat (any_goals (first | assumption | wp_step))
        exact h _ _ ls x1 x2 x3 x4
end
end DL
set_option maxRecDepth 100000
set_option maxHeartbeats 4000000
/-! the data layer, 23: sorted(set(..)), how sorted lists are told -/
namespace DL
open PySem PySem.Spec PyProof.Rows L2 SlX PySem.Calls
open PySem.W

/-! ### sorted lists -/
theorem le_toks {a b : D} (h1 : dataLe false id a b = true) (h2 : dataLe false id b a = true) : keyToks a = keyToks b := by
  have e1 : (!dataLt b a) = true := h1
  have e2 : (!dataLt a b) = true := h2
  rw [Bool.not_eq_true'] at e1 e2
  exact lex_total _ _ e2 e1
theorem le_tot (a b : D) : (dataLe false id a b || dataLe false id b a) = true := by
  show ((!dataLt b a) || (!dataLt a b)) = true
  cases h : dataLt b a with
  | false => rfl
  | true =>
    cases h2 : dataLt a b with
    | false => rfl
    | true =>
      have := lex_trans _ _ _ h h2
      rw [lex_irrefl] at this
      cases this
theorem le_trans (a b c : D) (h1 : dataLe false id a b = true) (h2 : dataLe false id b c = true) : dataLe false id a c = true := by
  have e1 : (!dataLt b a) = true := h1
  have e2 : (!dataLt c b) = true := h2
  show (!dataLt c a) = true
  rw [Bool.not_eq_true'] at e1 e2 ⊢
  cases h : dataLt c a with
  | false => rfl
  | true =>
    rcases lex_negTrans _ (keyToks b) _ h with q | q
    · exact absurd (show dataLt c b = true from q) (by rw [e2]; exact Bool.false_ne_true)
    · exact absurd (show dataLt b a = true from q) (by rw [e1]; exact Bool.false_ne_true)
theorem sortD_pw (ds : List D) : (sortD ds).Pairwise fun a b => dataLe false id a b = true := List.pairwise_mergeSort le_trans le_tot ds
/-- keys tell -/
def KeyInj (ds : List D) : Prop := ∀ a ∈ ds, ∀ b ∈ ds, keyToks a = keyToks b → a = b
theorem sort_uniq {ds es : List D} (hi : KeyInj ds) (hp : ds.Perm es) (hs : es.Pairwise fun a b => dataLe false id a b = true) : sortD ds = es :=
  List.Perm.eq_of_pairwise (fun a b ha hb h1 h2 => hi a ((sortD_perm ds).mem_iff.mp ha) b (hp.mem_iff.mpr hb) (le_toks h1 h2)) (sortD_pw ds) hs ((sortD_perm ds).trans hp)
theorem sort_perm {ds es : List D} (hi : KeyInj ds) (hp : ds.Perm es) : sortD ds = sortD es := sort_uniq hi (hp.trans (sortD_perm es).symm) (sortD_pw es)
theorem keyInj_strs (l : List Str) : KeyInj (l.map .str) := fun a ha b hb e => by
  obtain ⟨x, _, rfl⟩ := List.mem_map.mp ha
  obtain ⟨y, _, rfl⟩ := List.mem_map.mp hb
  simp only [keyToks, List.cons.injEq, Sum.inr.injEq, and_true] at e
  rw [PySem.W.str_of_cps e]
theorem perm_cover {α : Type} [DecidableEq α] : ∀ {l kl : List α}, l.Nodup → (∀ x ∈ l, x ∈ kl) → kl.length ≤ l.length → kl.Perm l
  | [], kl, _, _, h => by
    rw [List.eq_nil_of_length_eq_zero (Nat.le_zero.mp h)]
  | x :: l, kl, hn, hs, h => by
    rw [List.nodup_cons] at hn
    have hx := hs x List.mem_cons_self
    have h2 : (kl.erase x).Perm l := perm_cover hn.2 (fun y hy => by
      rw [List.mem_erase_of_ne (fun z : y = x => hn.1 (z ▸ hy))]
      exact hs y (List.mem_cons_of_mem _ hy)) (by
      rw [List.length_erase_of_mem hx]
      have : (x :: l).length = l.length + 1 := rfl
      omega)
    exact (List.perm_cons_erase hx).trans (h2.cons x)
theorem alike_strs (l : List Str) : AllAlike (l.map .str) := by
  have := AllAlike.of (enc := fun x : Str => PyData.str x) (bs := l) fun _ _ => rfl
  exact this
theorem sortable_strs (l : List Str) : Sortable (l.map .str) := by
  have := Sortable.others (enc := fun x : Str => PyData.str x) (bs := l) fun _ => ⟨fun z => (by cases z), fun xs z => (by cases z)⟩
  exact this
section
variable {C : Addr} {X : Cx} {e : Expr} {ρ : List Sl} {p p2 pos spos : Pos} {n : Nat} {ts rs : List Str}
theorem ef_sortedSet (hb : ts.length + 1 < 4096) (hrs : ∀ ls : List Str, ls.Nodup → (∀ x, x ∈ ls ↔ x ∈ ts) → sortD (ls.map .str) = rs.map .str) (he : Ev C X e ρ (.d (.tuple (ts.map .str)))) (hm : X.mg "sorted" = none) (hms : X.mg "set" = none) (hr : Room n X.A) (hc : X.calm = true := by rfl) (hg : Gl X "sorted" := by rfl) (hgs : Gl X "set" := by rfl)
    (h1 : starEach [e] X.env = (false, eval e X.env) :: starEach [] X.env := by rfl) (hpl : (backTo spos (starEach [] X.env)).any (·.1) = false := by rfl)
    (hs : starEach [Expr.Call (.Name "set" p2) [e] [] spos] X.env = [(false, eval (Expr.Call (.Name "set" p2) [e] [] spos) X.env)] := by rfl) : EvF C X (.Call (.Name "sorted" p) [.Call (.Name "set" p2) [e] [] spos] [] pos) ρ (rs.map .str) := by
  refine ⟨fun pins s σ H Q I ⟨H0, B, ex, en, q⟩ => ?_⟩
  refine wpAny_Call_Name_kw (ld_blt I hg hm (u := .builtin "sorted") boot_sorted ?_ (by decide) (by decide))
  rw [hs]
  refine PySem.callWith_builtin1 ?_
  refine Call_ (ld_blt I hgs hms (u := .type "set") (by decide +kernel) ?_ (by decide) (by decide))
  refine PyProof.Rows.callWith_type1 (thn ((pa_cons he pa_nil h1).run spos pins s σ H (fun vs H1 => ∃ B1 a, vs = [.ref a] ∧ Step B H B1 H1 ∧ TupAt B1 a (ts.map V.str)) I ⟨H0, B, ex, en, fun v B1 H1 s1 r1 => by
    cases r1 with
    | @tup a xs _ ha hd =>
      rw [strs_of hd] at ha
      exact ⟨B1, a, rfl, s1, ha⟩⟩) ?_) h1 hpl
  rintro us s1 ⟨vs, H1, I1, r1, B1, a, rfl, st1, ha⟩
  obtain rfl := Vals.ref1 r1
  have ex1 : Ex B1 H1 := st1.t
  obtain ⟨its, rv, pl, hz⟩ := I1.tuple (ha.mono ex1).sq
  have hl : its.length = ts.length := by rw [← rv.length, List.length_map]
  refine call_set_txt (P := X.prog) (w := X.w) ts (I.ok.hd hc) pl (fun i v hv => ?_) (by rw [List.size_toArray, hl]) hb fun h' tk ls hx hnd hmem hkeep => ?_
  · have hv' : its[i]? = some v := by simpa using hv
    have hi : i < ts.length := by
      rw [← hl]
      exact (List.getElem?_eq_some_iff.mp hv').1
    obtain ⟨u, hu, t, e⟩ := rv.get (i := i) (x := .str ts[i]) (by simp [hi])
    rw [hv'] at hu
    cases hu
    exact ⟨ts[i], t, List.getElem?_eq_getElem hi, e⟩
  have I2 : Inv X pins σ H1 { s1 with heap := h', toks := tk } := I1.kept hkeep
  obtain ⟨D, hD, hG⟩ := hx
  have hlen : ls.length ≤ ts.length := by
    exact List.Nodup.length_le_of_subset hnd fun x hx => (hmem x).mp hx
  have hsz : D.1.size = ls.length := hG.ok.sz
  -- the keys that are gathered
  have keyOf : ∀ v : Value, (∃ e ∈ D.1.toList, e.2 = v) → ∃ k t, v = Value.str k t ∧ k ∈ ls := fun v ⟨e, he, ev⟩ => by
    obtain ⟨⟨k, hk, _⟩, _⟩ := hG.ok.el e he
    have hk2 : k ∈ ls := (hG.ok.mem k).mpr ⟨e, he, hk⟩
    have hk3 : Value.isStrOf k e.2 = true := hk
    rw [ev] at hk3
    cases v with
    | str y t =>
      have : y = k := by simpa [Value.isStrOf] using hk3
      exact ⟨k, t, by rw [this], hk2⟩
    | _ => simp [Value.isStrOf] at hk3
  have gather : ∀ us : List Value, us.Perm (D.1.toList.map (·.2)) → ∃ kl : List Str, Vals (kl.map V.str) us ∧ kl.Perm ls := fun us pm => by
    have all : ∀ us' : List Value, (∀ v ∈ us', ∃ k t, v = Value.str k t ∧ k ∈ ls) → ∃ kl : List Str, Vals (kl.map V.str) us' ∧ ∀ k, k ∈ kl ↔ ∃ t, Value.str k t ∈ us' := fun us' => by
      induction us' with
      | nil => exact fun _ => ⟨[], .nil, fun k => by simp⟩
      | cons v us' ih =>
        intro h
        obtain ⟨k, t, rfl, hk⟩ := h v List.mem_cons_self
        obtain ⟨kl, h1, h2⟩ := ih fun v hv => h v (List.mem_cons_of_mem _ hv)
        refine ⟨k :: kl, .cons ⟨t, rfl⟩ h1, fun k' => ?_⟩
        rw [List.mem_cons, h2 k']
        constructor
        · rintro (rfl | ⟨t', ht'⟩)
          · exact ⟨t, List.mem_cons_self⟩
          · exact ⟨t', List.mem_cons_of_mem _ ht'⟩
        · rintro ⟨t', ht'⟩
          rcases List.mem_cons.mp ht' with e | e
          · injection e with e1 _
            exact .inl e1
          · exact .inr ⟨t', e⟩
    obtain ⟨kl, h1, h2⟩ := all us fun v hv => by
      obtain ⟨e, he, ev⟩ := List.mem_map.mp (pm.mem_iff.mp hv)
      exact keyOf v ⟨e, he, ev⟩
    refine ⟨kl, h1, perm_cover hnd (fun k hk => ?_) ?_⟩
    · obtain ⟨e, he, hke⟩ := (hG.ok.mem k).mp hk
      obtain ⟨k', t, e2, _⟩ := keyOf e.2 ⟨e, he, rfl⟩
      have hke2 : Value.isStrOf k e.2 = true := hke
      rw [e2] at hke2
      have : k' = k := by simpa [Value.isStrOf] using hke2
      rw [h2 k]
      refine ⟨t, pm.mem_iff.mpr (List.mem_map.mpr ⟨e, he, ?_⟩)⟩
      rw [e2, this]
    · have e1 := h1.length
      rw [List.length_map] at e1
      rw [e1, pm.length_eq, List.length_map, Array.length_toList, hsz]
      exact Nat.le_refl _
  refine sorted_gen (β := Str) (enc := fun x => .str x) (Rr := fun _ us => us.Perm (D.1.toList.map (·.2))) (R := fun _ u b => ∃ t, u = Value.str b t) (fun Q' hq => ?_) fun h1 us k1 pm => ?_
  · refine collect_set (A := X.A.in1) (I.ok.hd hc) (es := D.1) (ep := D.2.1) (t := D.2.2) ⟨_, hD, rfl, rfl⟩ hG.ok.fit (by show D.1.size < 4096; omega) hG.ris hG.led fun s' out k1 _ hgens hos pm => ?_
    obtain ⟨h2, g2, d2, tk2, os2⟩ := s'
    obtain rfl : g2 = s1.gens := hgens
    obtain rfl : os2 = s1.os := hos
    exact hq h2 tk2 d2 out k1 pm
  obtain ⟨kl, hv, hperm⟩ := gather us pm
  have each : ∀ {kl : List Str} {us : List Value}, Vals (kl.map V.str) us → EachIs (fun u (b : Str) => ∃ t, u = Value.str b t) us kl := fun {kl} => by
    induction kl with
    | nil =>
      intro us h
      cases h
      exact .nil
    | cons k kl ih =>
      intro us h
      cases h with
      | cons h1 h2 => exact .cons h1 (ih h2)
  have back : ∀ {us : List Value} {kl : List Str}, EachIs (fun u (b : Str) => ∃ t, u = Value.str b t) us kl → Vals (kl.map V.str) us := fun {us kl} h => by
    induction h with
    | nil => exact .nil
    | cons h1 _ ih => exact .cons h1 ih
  have hz4 : ts.length ≤ sizeLine := by
    have := hz
    rw [List.length_map] at this
    exact this
  have hkl : kl.length ≤ sizeLine := by
    rw [hperm.length_eq]
    omega
  refine ⟨kl, ⟨each hv, (each hv).mono fun u b ⟨t, e⟩ => ⟨[], by rw [e]; exact .str b t⟩⟩, alike_strs kl, sortable_strs kl, hkl, fun b _ => ?_, fun h2 tk2 dr D2 out c k2 hD2 ho he => ?_⟩
  · have hun : X.A.units + 64 < cLine := hr.units
    show X.A.units + 2 + (PyData.str b).depth < cLine
    have : (PyData.str b).depth = 0 := by simp [PyData.depth]
    omega
  · have hout := back he
    have hrs2 := hrs kl (hperm.nodup_iff.mpr hnd) fun x => (hperm.mem_iff).trans (hmem x)
    have hmap : (kl.mergeSort (dataLe false fun x => PyData.str x)).map PyData.str = rs.map .str := by
      rw [← hrs2]
      unfold sortD
      rw [List.map_mergeSort (r := dataLe false fun x => PyData.str x) (s := dataLe false id) (f := PyData.str) (fun a _ b _ => rfl)]
    have hlo : out.length = kl.length := by
      rw [← hout.length, List.length_map, List.length_mergeSort]
    have I3 : Inv X pins σ H1 { s1 with heap := h1, toks := tk2, drawn := dr } := (Inv.dr I2 dr).kept k1
    have hfr : H1 D2 = none := I3.hok.fresh hD2
    have stl := Step.aside (o := .lst ((kl.mergeSort (dataLe false fun x => PyData.str x)).map V.str)) ex1 hfr
    refine ⟨.ref D2, _, I3.laid (t' := tk2) (o := .lst ((kl.mergeSort (dataLe false fun x => PyData.str x)).map V.str)) k2 hD2 ⟨by rw [List.length_map, List.length_mergeSort]; exact hkl, out, c, hout, ho⟩, rfl, q D2 _ B1 _ (st1.trans stl) ((Step.ex ex st1).free hfr) (ex1.free hfr) upd_same ?_⟩
    rw [← hmap]
    exact strs_dtall _
end
end DL
set_option maxRecDepth 100000
set_option maxHeartbeats 4000000
/-! the data layer, 24: name = [.. for ..] -/
namespace DL
open PySem PySem.Spec PyProof.Rows L2 SlX
section
variable {C : Addr} {X : Cx} {elt tg iter : Expr} {ifs : List Expr} {ρ : List Sl} {pos spos py : Pos} {scope : Scope} {own : List (Str × Nat)} {ds es : List D} {ss : List Stmt} {Φ : Out → Prop} {y : Str}
theorem sts_lc (i : Nat) {ρ' : D → List Sl} {p : D → Bool} {f : D → D} {js : List Nat} (hc : X.calm = true) (hN : X.N.Nodup) (ok : BlkOk X.N X.env.scope scope own) (hjs : ∀ j ∈ js, j ∈ own.map (·.2)) (hi : EvI C X tg iter ρ ds)
    (hg : ∀ (s : Shared) (H : Hp) (Cc : Addr) (cl : List (Str × Addr)) (fp : List Addr), ∀ d ∈ ds, EvG C (X.blk s H scope (compEnvC scope cl Cc X.env) fp) tg (forgets ρ (own.map (·.2))) d (ρ' d) js)
    (ht : ∀ (s : Shared) (H : Hp) (Cc : Addr) (cl : List (Str × Addr)) (fp : List Addr), ∀ d ∈ ds, EvTs C (X.blk s H scope (compEnvC scope cl Cc X.env) fp) ifs (ρ' d) (p d))
    (he : ∀ (s : Shared) (H : Hp) (Cc : Addr) (cl : List (Str × Addr)) (fp : List Addr), ∀ d ∈ ds, p d = true → Ev C (X.blk s H scope (compEnvC scope cl Cc X.env) fp) elt (ρ' d) (.d (f d)))
    (hr : (ds.filter p).map f = es) (k : Sts C X ss (ρ.set i (.i (.d (.list es)))) Φ)
    (hy : X.N[i]? = some y := by rfl) (hyl : X.env.scope.names.lookup y = some .local := by rfl) (hkf : X.env.scope.kind = .function := by rfl) (hl : (py.line == pos.line) = true := by rfl) (ha : (scope.names.any fun (n, k) => n == y && (k == .local || k == .cell)) = false := by rfl)
    (hs : ∀ x, foldedSetIterable iter X.env x = pure x := by intro _; rfl) : Sts C X (.Assign [.Name y py] (.ListComp elt [⟨tg, iter, ifs, 0⟩] scope pos) spos :: ss) ρ Φ := by
  subst hr
  refine sts_cons (ps_weak (ps_setLc (i := i) (g := gAll (ct X C) (forgets ρ (own.map (·.2))) ρ' ds js) (tt := ttAll (ct X C) ρ' p ds) (te := teAll (ct X C) ρ' p f ds) hc hN hy hyl (sw_true hkf hyl hl ha) hi ok (fun s H Cc cl fp => pg_all (hg s H Cc cl fp)) (fun s H Cc cl fp => pts_all (ht s H Cc cl fp)) (fun s H Cc cl fp => pe_all (he s H Cc cl fp)) hs) fun D σ H ⟨B0, H0, B, ex, s0, en, k1, _⟩ => ?_)
  refine lc_run (ρ := ρ) hjs ⟨H0, B, s0.t, en, fun q vs B' H' st hq hb hh hd => ?_⟩
  have st2 := st.fix hb hq hh
  exact k1 _ _ H' _ (s0.trans st2) st2.b ((en.step st2).set (x := .d (.list ((ds.filter p).map f))) i (.lst upd_same (dtall_mono (Ex.new hb) _ _ hd))) k
theorem ev_pair {a b : Expr} {x y : D} {k : Nat} (ha : Ev C X a ρ (.d x)) (hb : Ev C X b ρ (.d y)) (hs : starEach [a, b] X.env = (false, eval a X.env) :: starEach [b] X.env := by rfl) (hs2 : starEach [b] X.env = (false, eval b X.env) :: starEach [] X.env := by rfl) : Ev C X (.Tuple [a, b] k pos) ρ (.d (.tuple [x, y])) :=
  ev_tup (ds := [x, y]) (ea_cons ha (ea_cons hb ea_nil hs2) hs) rfl (by show 2 ≤ sizeLine; decide)
theorem ev_single {a : Expr} {x : D} {k : Nat} (ha : Ev C X a ρ (.d x)) (hs : starEach [a] X.env = (false, eval a X.env) :: starEach [] X.env := by rfl) : Ev C X (.Tuple [a] k pos) ρ (.d (.tuple [x])) :=
  ev_tup (ds := [x]) (ea_cons ha ea_nil hs) rfl (by show 1 ≤ sizeLine; decide)
theorem ev_unit {k : Nat} : Ev C X (.Tuple [] k pos) ρ (.d (.tuple [])) := ev_tup (ds := []) ea_nil rfl (Nat.zero_le _)
end
end DL
set_option maxRecDepth 100000
set_option maxHeartbeats 4000000
/-! the data layer, 25: objects -/
namespace DL
open PySem PySem.Spec PyProof.Rows L2 SlX

/-! ### a tuple of the top (an empty default) -/
structure Emp (K : PySem.W.Frag) (T : Addr) : Prop where
  ex : ∃ (o : Obj) (n : Nat), K.lookup T = some o ∧ o.cls = .type "tuple" ∧ o.data = .seq #[] n
theorem Emp.sq {K : PySem.W.Frag} {T : Addr} (h : Emp K T) (H : Hp) : SqT K H T [] := by
  obtain ⟨o, n, h1, h2, h3⟩ := h.ex
  exact .inr ⟨o, #[], n, h1, h2, h3, Nat.zero_le _, .nil⟩
section
variable {C : Addr} {X : Cx} {e f : Expr} {ρ : List Sl} {pos p p2 p3 p4 : Pos} {T : Addr} {k : Nat} {nm : Str}
theorem ev_isiEmp {kk : Nat} (hT : Emp X.K T) (he : Ev C X e ρ (.at T)) (hm : X.mg "isinstance" = none) (hl : X.mg "list" = none) (ht : X.mg "tuple" = none)
    (hg : Gl X "isinstance" := by rfl) (hgT : Gl X "list" := by rfl) (hgU : Gl X "tuple" := by rfl)
    (h1 : starEach [e, .Tuple [.Name "list" p2, .Name "tuple" p3] kk p4] X.env = (false, eval e X.env) :: starEach [.Tuple [.Name "list" p2, .Name "tuple" p3] kk p4] X.env := by rfl) (h2 : starEach [.Tuple [.Name "list" p2, .Name "tuple" p3] kk p4] X.env = (false, eval (.Tuple [.Name "list" p2, .Name "tuple" p3] kk p4) X.env) :: starEach [] X.env := by rfl)
    (hpl : (backTo pos (starEach [.Tuple [.Name "list" p2, .Name "tuple" p3] kk p4] X.env)).any (·.1) = false := by rfl)
    (h3 : starEach [.Name "list" p2, .Name "tuple" p3] X.env = (false, eval (.Name "list" p2) X.env) :: starEach [.Name "tuple" p3] X.env := by rfl) (h4 : starEach [.Name "tuple" p3] X.env = (false, eval (.Name "tuple" p3) X.env) :: starEach [] X.env := by rfl) :
    Ev C X (.Call (.Name "isinstance" p) [e, .Tuple [.Name "list" p2, .Name "tuple" p3] kk p4] [] pos) ρ (.d (.bool true)) :=
  pe_weak (pe_callB call_isiT hg hm boot_isinstance (pa_cons he (pa_cons (pe_tup (pa_cons (pe_bltn (v := .ty "list") hgT hl rfl rfl (by decide) (by decide)) (pa_cons (pe_bltn (v := .ty "tuple") hgU ht rfl rfl (by decide) (by decide)) pa_nil h4) h3)) pa_nil h2) h1) (by decide) (by decide) h1 hpl) fun σ H Q ⟨H0, B, ex, en, q⟩ => ⟨H0, B, ex, en, fun v B1 H1 s1 r1 => by
    refine ⟨by show 2 ≤ sizeLine; decide, fun tp htp => ?_⟩
    obtain rfl : v = .ref T := r1
    obtain ⟨o, n, g1, g2, _⟩ := hT.ex
    have st := Step.aside (o := .tup [.ty "list", .ty "tuple"]) s1.t htp
    exact ⟨.ref T, tp, _, _, _, true, rfl, upd_same, .cons (.ty "list") (.cons (.ty "tuple") .nil), .kTuple g1 g2, kitAny_cons (kit_ty (show kitB "tuple" "list" = some false from rfl)) (fun _ => kitAny_cons (kit_ty (show kitB "tuple" "tuple" = some true from rfl)) (fun z => (by cases z)) fun _ => rfl) (fun z => (by cases z)), q _ B1 _ (s1.trans st) (Dt.bl true)⟩⟩
theorem ei_emp {tg : Expr} (hT : Emp X.K T) (h : Ev C X e ρ (.at T)) : EvI C X tg e ρ [] := pi_weak (pi_tup (pe_size h)) fun σ H R ⟨H0, B, ex, en, k⟩ => ⟨H0, B, ex, en, fun v B1 H1 s1 r1 sz => by
  obtain rfl : v = .ref T := r1
  exact ⟨T, rfl, ⟨[], hT.sq _⟩, k _ B1 H1 s1 ⟨fun i H2 hi e2 => absurd hi (Nat.not_lt_zero _), fun H2 e2 => ⟨[], hT.sq _, Nat.le_refl _⟩, fun i H2 x H' hi e2 y => absurd hi (Nat.not_lt_zero _), Nat.zero_le _⟩⟩⟩

/-! ### a Program: its slot, its properties -/
structure PCls (K : PySem.W.Frag) (C : Addr) : Prop where
  c : SCls K C
  sl : ∃ p, Slot1 K C "own_deeds" p 0
theorem ob_slt {c : Ct} {B H : Hp} {v : V} {x : D} (ex : Ex B H) (h : Rp c B v (.ob x)) : ∃ a dx u, v = .ref a ∧ Slt H a c.C dx [some u] ∧ Dt B u x := by
  obtain ⟨a, dx, u, rfl, h1, h2, h3⟩ := h
  exact ⟨a, dx, u, rfl, .inr ⟨ex _ _ h1, ex _ _ h2⟩, h3⟩
theorem ev_own {x : D} (hc : PCls X.K C) (he : Ev C X e ρ (.ob x)) (hb : attributeBase e "own_deeds" X.env (eval e X.env) = eval e X.env := by rfl) : Ev C X (.Attribute e "own_deeds" pos) ρ (.d x) :=
  pe_weak (pe_sl he hb) fun σ H Q ⟨H0, B, ex, en, q⟩ => ⟨H0, B, ex, en, fun v B1 H1 s1 r1 => by
    obtain ⟨a, dx, u, rfl, h1, h2⟩ := ob_slt s1.t r1
    obtain ⟨p, hp⟩ := hc.sl
    exact ⟨a, C, dx, p, [some u], 0, u, rfl, h1, hc.c, hp, rfl, q u B1 H1 s1 h2⟩⟩
/-- a property of the class C, its def's promise -/
structure Gp (P : Program) (w : World) (K : PySem.W.Frag) (mg : Str → Option Value) (base : Heap) (C : Addr) (nm : Str) (k : Nat) (sp : Sp) : Prop where
  ex : ∃ p g fd ps rest, PySem.W.findIn K (.ref C) nm = some (some (.ref p)) ∧ PySem.W.specialIn K (.ref p) "__get__" = some (some (.builtin "property.__get__")) ∧ PySem.W.takesIn K (.ref p) = some true ∧ PySem.W.recIn K p "property" = some (.ref g :: rest) ∧ FnOk P w K mg base CX0 k g fd ps sp ∧ Binds K fd ps []
theorem ev_prop {x : D} {y : DV} {R : List DV → DV → Prop} (hc : SCls X.K C) (G : Gp X.prog X.w X.K X.mg X.base C nm k (spD (ct X C) R)) (hr : Room (k + 1) X.A) (he : Ev C X e ρ (.ob x)) (h : R [.ob x] y) (hb : attributeBase e nm X.env (eval e X.env) = eval e X.env := by rfl) : Ev C X (.Attribute e nm pos) ρ y := by
  obtain ⟨p, g, fd, ps, rest, h1, h2, h3, h4, F, hbd⟩ := G.ex
  refine pe_weak (pe_propSl (E := E0) he hc h1 h2 h3 ⟨rest, h4⟩ (F.raw hbd .nil) hr (fun _ _ _ _ z => z) hb) fun σ H Q ⟨H0, B, ex, en, q⟩ => ⟨H0, B, ex, en, fun v B1 H1 s1 r1 => ?_⟩
  obtain ⟨a, dx, u, e1, hs, hd⟩ := ob_slt s1.t r1
  subst e1
  refine ⟨a, dx, [some u], rfl, hs, ?_⟩
  show spD (ct X C) R ([.ref a] ++ []) H1 Q E0
  rw [List.append_nil]
  exact ⟨B1, [.ob x], y, s1.t, .cons r1 .nil, h, fun v B2 H2 s2 r2 => q v B2 H2 (s1.trans s2) r2⟩
/-! ### Program(deeds) -/
def spInit (c : Ct) (R : DV → D → Prop) : Sp := fun vs H Q _ => ∃ B a dx v x y, vs = [.ref a, v] ∧ Ex B H ∧ B a = none ∧ H a = some (.ins c.C dx []) ∧ dx ≠ a ∧ Rp c B v x ∧ R x y ∧ ∀ u B' H', Step B H B' H' → Dt B' u y → Q .non (slH H' a c.C dx [some u])
theorem Step.made {B H B' H' : Hp} {a dx C : Addr} {u : V} (ex : Ex B H) (ha : H a = none) (hd : H dx = none) (hne : dx ≠ a) {o1 o2 : HO} (st : Step B (upd (upd H dx o1) a o2) B' H') : Step B H (slH B' a C dx [some u]) (slH H' a C dx [some u]) := by
  have g1 : (upd (upd H dx o1) a o2) a = some o2 := upd_same
  have g2 : (upd (upd H dx o1) a o2) dx = some o1 := by rw [upd_ne hne, upd_same]
  obtain ⟨n1, _⟩ := st.f a o2 (ex.free ha) g1
  obtain ⟨n2, _⟩ := st.f dx o1 (ex.free hd) g2
  have off : ∀ {G : Hp} {y : Addr}, y ≠ a → y ≠ dx → slH G a C dx [some u] y = G y := fun h1 h2 => slH_ne h1 h2
  refine ⟨fun y o q => ?_, fun y o q => ?_, fun y o q z => ?_⟩
  · have e1 : y ≠ a := fun e => by rw [e, ex.free ha] at q; cases q
    have e2 : y ≠ dx := fun e => by rw [e, ex.free hd] at q; cases q
    rw [off e1 e2]
    exact st.b y o q
  · by_cases e1 : y = a
    · subst e1
      unfold slH at q ⊢
      rw [upd_same] at q ⊢
      exact q
    · by_cases e2 : y = dx
      · subst e2
        unfold slH at q ⊢
        rw [upd_ne hne, upd_same] at q ⊢
        exact q
      · rw [off e1 e2] at q ⊢
        exact st.t y o q
  · have e1 : y ≠ a := fun e => by rw [e, ha] at z; cases z
    have e2 : y ≠ dx := fun e => by rw [e, hd] at z; cases z
    have z2 : (upd (upd H dx o1) a o2) y = some o := by rw [upd_ne e1, upd_ne e2]; exact z
    obtain ⟨w1, w2⟩ := st.f y o q z2
    rw [off e1 e2, off e1 e2]
    exact ⟨w1, w2⟩
structure Gm (P : Program) (w : World) (K : PySem.W.Frag) (mg : Str → Option Value) (base : Heap) (C : Addr) (k : Nat) (R : DV → D → Prop) : Prop where
  ex : ∃ f fd ps T ds, mg "Program" = some (.ref C) ∧ Mk K C f ∧ FnOk P w K mg base CX0 k f fd ps (spInit ⟨P, w, K, C⟩ R) ∧ Binds K fd ps [] ∧ Binds K fd ps ds ∧ Vals [.ref T] ds ∧ Emp K T ∧ R (.at T) (.tuple [])
theorem made_rp {B1 H1 B2 H2 : Hp} {x dx : Addr} {u : V} {y : D} {c : Ct} (ex : Ex B1 H1) (hx : H1 x = none) (hdx : H1 dx = none) (hne : dx ≠ x) {o1 o2 : HO} (st : Step B1 (upd (upd H1 dx o1) x o2) B2 H2) (hu : Dt B2 u y) : Rp c (slH B2 x c.C dx [some u]) (.ref x) (.ob y) := by
  have st3 := Step.made (C := c.C) (u := u) ex hx hdx hne st
  have n1 := (st.f x _ (ex.free hx) upd_same).1
  have n2 := (st.f dx _ (ex.free hdx) (by rw [upd_ne hne, upd_same])).1
  have hgrow : Ex B2 (slH B2 x c.C dx [some u]) := fun b o q => by
    rw [slH_ne (fun e => by rw [e, n1] at q; cases q) (fun e => by rw [e, n2] at q; cases q)]
    exact q
  exact ⟨x, dx, u, rfl, upd_same, by unfold slH; rw [upd_ne hne, upd_same], dt_mono hgrow _ _ hu⟩
theorem ev_new {R : DV → D → Prop} {x : DV} {y : D} (G : Gm X.prog X.w X.K X.mg X.base C k R) (hr : Room (k + 1) X.A) (he : Ev C X e ρ x) (h : R x y) (hg : Gl X "Program" := by rfl) (hs : starEach [e] X.env = (false, eval e X.env) :: starEach [] X.env := by rfl) (hpl : (backTo pos (starEach [] X.env)).any (·.1) = false := by rfl) : Ev C X (.Call (.Name "Program" p) [e] [] pos) ρ (.ob y) := by
  obtain ⟨f, fd, ps, T, ds, hm, M, F, hb, _, _, _, _⟩ := G.ex
  refine pe_weak (pe_make M F hr hg hm hb .nil (pass0 (X := X)) (pa_cons he pa_nil hs) (by decide) hs hpl) fun σ H Q ⟨H0, B, ex, en, q⟩ => ⟨H0, B, ex, en, fun v B1 H1 s1 r1 a dx ha hdx hne => ?_⟩
  show spInit (ct X C) R (V.ref a :: ([v] ++ [])) _ _ E0
  rw [List.append_nil]
  have stA : Ex B1 (upd (upd H1 dx (.own a)) a (.ins C dx [])) := fun b o z => by
    have e1 : b ≠ a := fun e => by rw [e, s1.t.free ha] at z; cases z
    have e2 : b ≠ dx := fun e => by rw [e, s1.t.free hdx] at z; cases z
    rw [upd_ne e1, upd_ne e2]
    exact s1.t b o z
  exact ⟨B1, a, dx, v, x, y, rfl, stA, s1.t.free ha, upd_same, hne, r1, h, fun u B2 H2 s2 hu => ⟨rfl, q _ _ _ (s1.trans (Step.made s1.t ha hdx hne s2)) (made_rp (c := ct X C) s1.t ha hdx hne s2 hu)⟩⟩
theorem ev_new0 {R : DV → D → Prop} (G : Gm X.prog X.w X.K X.mg X.base C k R) (hr : Room (k + 1) X.A) (hg : Gl X "Program" := by rfl) : Ev C X (.Call (.Name "Program" p) [] [] pos) ρ (.ob (.tuple [])) := by
  obtain ⟨f, fd, ps, T, ds, hm, M, F, _, hb, hd, hT, h⟩ := G.ex
  refine pe_weak (pe_make0 M F hr hg hm hb hd (pass0 (X := X)) (by decide)) fun σ H Q ⟨H0, B, ex, en, q⟩ => fun a dx ha hdx hne => ?_
  have stA : Ex B (upd (upd H dx (.own a)) a (.ins C dx [])) := fun b o z => by
    have e1 : b ≠ a := fun e => by rw [e, ex.free ha] at z; cases z
    have e2 : b ≠ dx := fun e => by rw [e, ex.free hdx] at z; cases z
    rw [upd_ne e1, upd_ne e2]
    exact ex b o z
  exact ⟨B, a, dx, .ref T, .at T, .tuple [], rfl, stA, ex.free ha, upd_same, hne, rfl, h, fun u B2 H2 s2 hu => ⟨rfl, q _ _ _ (Step.made ex ha hdx hne s2) (made_rp (c := ct X C) ex ha hdx hne s2 hu)⟩⟩
end
end DL
set_option maxRecDepth 100000
set_option maxHeartbeats 4000000
/-! the data layer, 26: name = {k: a dict for ..} -/
namespace DL
open PySem PySem.Spec PyProof.Rows L2 SlX
section
variable {X : Cx}
theorem dcN_use {n : Nat} {pins : List (Addr × Obj)} {s : Shared} {σ : L2.St} {H : Hp} {Q : VK} {kx vx tg iter : Expr} {scope : Scope} {own : List (Str × Nat)} {pos : Pos} {wi : TI} {g : TG} {tk tv : TE} {pos' : Pos} {use : Option (Value → Sem Unit)} {Qf : Value → Shared → Prop}
    (hr : Room n X.A) (hc : X.calm = true) (hN : X.N.Nodup) (I : Inv X pins σ H s) (hi : PI X tg iter wi) (ok : BlkOk X.N X.env.scope scope own)
    (hg : ∀ (s : Shared) (H : Hp) (C : Addr) (cl : List (Str × Addr)) (fp : List Addr), PG (X.blk s H scope (compEnvC scope cl C X.env) fp) tg g) (hk : ∀ (s : Shared) (H : Hp) (C : Addr) (cl : List (Str × Addr)) (fp : List Addr), PE (X.blk s H scope (compEnvC scope cl C X.env) fp) kx tk)
    (he : ∀ (s : Shared) (H : Hp) (C : Addr) (cl : List (Str × Addr)) (fp : List Addr), PE (X.blk s H scope (compEnvC scope cl C X.env) fp) vx tv) (hs : ∀ x, foldedSetIterable iter X.env x = pure x) (h : tDcN X.prog X.w wi g tk tv (own.map (·.2)) σ H Q)
    (hRR : ∀ D C s' m H', Inv X pins σ H' s' → Q (.ref D) H' → s'.heap.Ns C m → FpOk X pins H' C → compPost (model X.prog X.w) X.A X.xe use Qf (.ref D) C (.ok .next) s') :
    wpAny (model X.prog X.w) X.A (comprehension (.DictComp kx vx [⟨tg, iter, [], 0⟩] scope pos) scope X.env pos' newDict false (eval iter X.env) use) Qf X.xe s := by
  have free : ∀ y ∈ scope.names, y.2 = .free → ∃ c, X.env.cells.lookup y.1 = some c := fun y hy e => (ok.free y hy e).elim (fun k => I.ok.has _ (.inl k)) fun k => I.ok.has _ (.inr k)
  refine wpAny_comprehension_free (use := use) rfl hs (closure_ok free) ok.kind (fun y hy e => by rw [ok.uniq y hy, e]) (thn (hi.run pins s σ H _ I h) fun xv s1 hx => thn hx fun itv s2 ⟨it, fp, tn, J, H2, e, I2, T, st2, f2, q⟩ => ?_)
  subst e
  refine wpAny_newObj_type (newEnv_comp ?_)
  generalize hD : s2.heap.objs.size = D
  have hDn : H2 D = none := I2.hok.fresh (Nat.le_of_eq hD)
  obtain ⟨W, ⟨m0, w0⟩, turn⟩ := q D hDn
  have h0 : ObjOk X.prog X.w (upd H2 D (DkO X.prog X.w D [])) (s2.heap.push { cls := .type "dict", data := .dict #[] }) D (DkO X.prog X.w D []) := by
    rw [← hD]
    exact DkAt.ok (vs := []) ⟨.nil, Nat.zero_le _, beq_eq_false_iff_ne.mpr (Ne.symm (Nat.ne_of_lt I2.big)), Heap.DictOfH.new _, fun _ h => (by cases h)⟩
  generalize hs3 : ({ s2 with heap := s2.heap.push { cls := .type "dict", data := .dict #[] } } : Shared) = s3
  have h3 : s3.heap = s2.heap.push { cls := .type "dict", data := .dict #[] } := by rw [← hs3]
  have I3 : Inv X pins σ (upd H2 D (DkO X.prog X.w D [])) s3 := by
    rw [← hs3]
    exact I2.laid (t' := s2.toks) (fun b o e => Heap.get?_push_of_some _ e) (Nat.le_of_eq hD) h0
  have low : ∀ b ∈ fp, b < s2.heap.objs.size := fun b hb => Heap.lt_size (T.obj _ _ st2 b hb).choose_spec.1
  have f3 : ∀ b ∈ fp, FpOk X pins (upd H2 D (DkO X.prog X.w D [])) b ∧ b < s3.heap.objs.size := fun b hb => by
    refine ⟨⟨?_, (f2 b hb).2⟩, by rw [h3, Heap.size_push]; exact Nat.lt_succ_of_lt (low b hb)⟩
    rw [upd_ne (by rw [← hD]; exact Nat.ne_of_lt (low b hb))]
    exact (f2 b hb).1
  have st3 : tn 0 s3.heap := T.keep _ _ _ st2 fun b _ o e => by rw [h3]; exact Heap.get?_push_of_some _ e
  have I4 := block_start I3 ok hN f3
  generalize hH3 : upd H2 D (DkO X.prog X.w D []) = H3 at I3 I4 w0 f3
  have pg := hg s3 H3 s3.heap.objs.size (cellsFrom (s3.heap.objs.size + 1) scope.names (cloFrom X.env.cells scope.names [])) fp
  have pk := hk s3 H3 s3.heap.objs.size (cellsFrom (s3.heap.objs.size + 1) scope.names (cloFrom X.env.cells scope.names [])) fp
  have pe := he s3 H3 s3.heap.objs.size (cellsFrom (s3.heap.objs.size + 1) scope.names (cloFrom X.env.cells scope.names [])) fp
  have nfp : ∀ b ∈ fp, H3 b = none := fun b hb => (f3 b hb).1.1
  generalize hce : compEnvC scope (cellsFrom (s3.heap.objs.size + 1) scope.names (cloFrom X.env.cells scope.names [])) s3.heap.objs.size X.env = ce at I4 pg pk pe
  have cL : ce.locals = s3.heap.objs.size := by subst hce; rfl
  generalize hs4 : ({ s3 with heap := pushCells (s3.heap.push { cls := .type "dict", data := .dict #[] }) scope.names } : Shared) = s4 at I4
  have st4 : tn 0 s4.heap := T.keep _ _ _ st3 fun b _ o e => by rw [← hs4]; exact pushCells_keeps _ _ _ _ (Heap.get?_push_of_some _ e)
  have stat : ∀ {σ' : L2.St} {H' : Hp} {s' : Shared}, Inv (X.blk s3 H3 scope ce fp) [] σ' H' s' → (∀ b ∈ fp, H' b = none) → ∀ b ∈ fp, FpOk (X.blk s3 H3 scope ce fp) [] H' b := fun {σ' H' s'} I' hn b hb =>
    ⟨hn b hb, (I'.ok.exf b hb).1, I'.ok.exfs b hb, .inl hb, fun x c e => (I'.ok.exf b hb).2 x c e, fun p hp => absurd (show p ∈ ([] : List (Addr × Obj)) ++ [] from hp) (by simp)⟩
  have goal : codeAny (model X.prog X.w) X.A (.compLoop (.DictComp kx vx [⟨tg, iter, [], 0⟩] scope pos) 0 (.ref it) (.ref D) ce) (compPost (model X.prog X.w) X.A X.xe use Qf (.ref D) s3.heap.objs.size) s4 := by
    refine compLoop_anyD (fun n s' => ∃ i H', Inv (X.blk s3 H3 scope ce fp) [] (wipe σ (own.map (·.2))) H' s' ∧ tn i s'.heap ∧ (∀ b ∈ fp, H' b = none) ∧ W i n H') ?_ m0 ⟨0, H3, I4, st4, nfp, w0⟩
    rintro n s5 ⟨i, H5, I5, st5, n5, w5⟩
    rcases turn i n H5 w5 with ⟨stop, qq⟩ | ⟨go, Nx, hNx, step⟩
    · refine thnF (T.done (X.blk s3 H3 scope ce fp) rfl rfl rfl hc i [] s5 _ H5 (fun _ _ => False) I5 (stat I5 n5) st5 stop) fun r s6 ⟨hr, I6⟩ => ?_
      subst hr
      have I7 : Inv X pins σ H5 s6 := I3.call' (ch := fp) I6.os I6.base I6.hok I6.bare fun b hb => ⟨(f3 b hb).1.2.2.2.1, (f3 b hb).1.2.1, (f3 b hb).1.2.2.2.2.1, (f3 b hb).1.2.2.2.2.2⟩
      have nC : H5 s3.heap.objs.size = none := cL ▸ (show H5 ce.locals = none from I6.free)
      obtain ⟨m, hn, _⟩ := I6.loc
      have hn : s6.heap.Ns ce.locals m := hn
      rw [cL] at hn
      exact hRR D s3.heap.objs.size s6 m H5 I7 qq hn (I3.fpOk (Nat.le_refl _) nC)
    · refine thnF (T.item (X.blk s3 H3 scope ce fp) rfl rfl rfl hc i [] s5 _ H5 (fun _ _ => False) I5 (stat I5 n5) st5 go) fun r s6 ⟨u, hr, h6⟩ => ?_
      subst hr
      refine thnF h6 fun _ s7 ⟨x, H7, I7, r7, y7, st7, n7⟩ => ?_
      have I7' := I7.pinned (stat I7 n7) (T.obj _ _ st7)
      refine thnF (pg.run _ s7 _ H7 x u _ I7' r7 (step x H7 y7)) fun _ s8 ⟨σ8, H8, I8, hw8, q8⟩ => ?_
      refine thnF ((pts_nil (X := X.blk s3 H3 scope ce fp)).run _ s8 σ8 H8 (fun b H' => b = true ∧ H' = H8) I8 ⟨rfl, rfl⟩) fun b s9 ⟨H9, I9, e1, e2⟩ => ?_
      subst e1 e2
      simp only [if_true]
      refine thnF (pk.run _ s9 σ8 H9 _ I9 q8) fun z s10 ⟨yk, H10, I10, r10, q10⟩ => ?_
      refine thnF (pe.run _ s10 σ8 H10 _ I10 q10) fun z2 s11 ⟨yv, H11, I11, r11, H6, ⟨B, b, k, xs, ex, ey, hkk, hdp, hH, hks, hno, hz, eH⟩, nx⟩ => ?_
      subst ey eH
      refine d_putNew (X := X.blk s3 H3 scope ce fp) hr I11 ex hkk hdp hH hks hno hz r10 r11 fun s' I' => ?_

      obtain ⟨m', hm, w'⟩ := hNx _ nx
      have pin' : ∀ b ∈ fp, ∀ o, s7.heap.get? b = some o → s'.heap.get? b = some o ∧ _ = none := fun b hb o e =>
        let z := I'.pin (b, o) (List.mem_append_right _ (List.mem_append_right _ (mem_pinsAt hb e)))
        ⟨z.1, z.2.1⟩
      have hl : (wipe σ (own.map (·.2))).length = σ8.length := by rw [← hw8, wipe_length]
      refine ⟨m', hm, i + 1, _, (I'.unpinned (pins := [])).weak hl (fun j v e => ?_), T.keep _ _ _ st7 fun b hb o e => (pin' b hb o e).1, fun b hb => ?_, w'⟩
      · rw [← hw8] at e
        exact (wipe_some e).1
      · obtain ⟨o, e, _⟩ := T.obj _ _ st7 b hb
        exact (pin' b hb o e).2
  subst hce hs4
  exact codeAny_compStart_dict goal (T.self X.A 0 _ _ _ st4 goal)
theorem sw_trueD {kx vx : Expr} {gs : List Comprehension} {scope : Scope} {pos py : Pos} {y : Str} {l : Nat} {env : Env} (hk : env.scope.kind = .function) (hy : env.scope.names.lookup y = some .local) (hl : (py.line == pos.line) = true)
    (ha : (scope.names.any fun (n, k) => n == y && (k == .local || k == .cell)) = false) : swapsWith (.DictComp kx vx gs scope pos) (some (.Name y py)) l env = pure true := by
  have ky : env.kindOf y = some .local := hy
  have hb : env.blockKind = .function := by unfold Env.blockKind; rw [hk]; rfl
  unfold swapsWith
  simp only [hb, ky, ha, Expr.pos, hl]
  rfl
theorem ps_setDcN {i n : Nat} {y : Str} {py : Pos} {kx vx tg iter : Expr} {scope : Scope} {own : List (Str × Nat)} {pos spos : Pos} {wi : TI} {g : TG} {tk tv : TE} (hr : Room n X.A) (hc : X.calm = true) (hN : X.N.Nodup) (hy : X.N[i]? = some y) (hyl : X.env.scope.names.lookup y = some .local)
    (hsw : swapsWith (.DictComp kx vx [⟨tg, iter, [], 0⟩] scope pos) (some (.Name y py)) spos.line X.env = pure true) (hi : PI X tg iter wi) (ok : BlkOk X.N X.env.scope scope own)
    (hg : ∀ (s : Shared) (H : Hp) (C : Addr) (cl : List (Str × Addr)) (fp : List Addr), PG (X.blk s H scope (compEnvC scope cl C X.env) fp) tg g) (hk : ∀ (s : Shared) (H : Hp) (C : Addr) (cl : List (Str × Addr)) (fp : List Addr), PE (X.blk s H scope (compEnvC scope cl C X.env) fp) kx tk)
    (he : ∀ (s : Shared) (H : Hp) (C : Addr) (cl : List (Str × Addr)) (fp : List Addr), PE (X.blk s H scope (compEnvC scope cl C X.env) fp) vx tv) (hs : ∀ x, foldedSetIterable iter X.env x = pure x) :
    PS X (.Assign [.Name y py] (.DictComp kx vx [⟨tg, iter, [], 0⟩] scope pos) spos) (tAsg (tDcN X.prog X.w wi g tk tv (own.map (·.2))) (gName i)) := by
  refine ⟨fun pins s σ H D I h => ?_⟩
  rw [exec_Assign_Name_used _ _ _ _ hsw]
  refine wpAny_bind (wpAny_standAt (wpAny_bind ?_))
  show wpAny _ X.A (do let _ ← comprehension (.DictComp kx vx [⟨tg, iter, [], 0⟩] scope pos) scope X.env (firstIterPos [⟨tg, iter, [], 0⟩] pos) newDict false (eval iter X.env) (some (assign (.Name y py) X.env))) _ _ s
  have h : tDcN X.prog X.w wi g tk tv (own.map (·.2)) σ H (fun x H1 => gName i x σ H1 D.nx) := h
  refine wpAny_bind (thn (dcN_use (Qf := fun _ s' => SP X pins D .next s') hr hc hN I hi ok hg hk he hs h fun L C s' m H' I' q hn f => ?_) fun _ s' hq => wpAny_pure (wpAny_pure hq))
  show wpAny _ _ (assign (.Name y py) X.env (.ref L)) _ _ _
  refine wpAny_assign_Name (store_ok2 (v := V.ref L) I' hN hy (.inl hyl) rfl (fun s2 I2 ⟨a, sb, ha⟩ => ?_) (.inr hyl))
  obtain ⟨f0, f1, f2, f3, f4, f5⟩ := f
  have haC : C ≠ a := by
    rcases ha with z | z
    · rw [z]; exact f1
    · exact fun e => f4 y a z e.symm
  refine ⟨m, hn.sameBut sb haC, fun h3 sb3 => ?_⟩
  exact ⟨_, H', I2.turned (t' := s2.toks) (fun b o hb e => (sb3.2 b hb).trans e) f0 f1 f3 f4 f5, q⟩
end
section
variable {C : Addr} {X : Cx} {kx vx tg iter : Expr} {ρ : List Sl} {pos spos py : Pos} {scope : Scope} {own : List (Str × Nat)} {n : Nat} {ds : List D} {ss : List Stmt} {Φ : Out → Prop} {y : Str}
theorem dcN_run {ρ' : D → List Sl} {js : List Nat} {kf : D → NestedKey} {vf : D → List (Str × D)} (hjs : ∀ j ∈ js, j ∈ own.map (·.2)) (hkey : ∀ d ∈ ds, KeyOk (kf d)) (hnd : (ds.map kf).Nodup) {σ : L2.St} {H : Hp} {Q : VK} (h0 : tD (ct X C) ρ (.dnk (ds.map fun d => (kf d, vf d))) σ H Q) :
    tDcN X.prog X.w (tDI (ct X C) ρ ds) (gAll (ct X C) (forgets ρ (own.map (·.2))) ρ' ds js) (teF (ct X C) ρ' (fun d => .d (kf d).data) ds) (teF (ct X C) ρ' (fun d => .dk (vf d)) ds) (own.map (·.2)) σ H Q := by
  obtain ⟨H0, B, ex, en, k⟩ := h0
  refine ⟨H0, B, ex, en, fun J B1 H1 s1 wd D hD => ?_⟩
  have ex1 : Ex B1 H1 := s1.t
  have hBD : B1 D = none := ex1.free hD
  refine ⟨fun i m H2 => m = ds.length - i ∧ i ≤ ds.length ∧ ∃ B2 tri, Step B1 H1 B2 H2 ∧ B2 D = none ∧ H2 D = some (DkO X.prog X.w D tri) ∧ Paired (fun (p : NestedKey × Addr × V) (q : NestedKey × List (Str × DL.D)) => p.1 = q.1 ∧ Dt B2 (.ref p.2.1) p.1.data ∧ IsK B2 p.2.2 q.2) tri ((ds.take i).map fun d => (kf d, vf d)),
    ⟨_, rfl, Nat.zero_le _, B1, [], Step.aside ex1 hD, hBD, upd_same, .nil⟩, ?_⟩
  rintro i m H2 ⟨rfl, hi2, B2, tri, st, hB2, hD2, hp⟩
  by_cases hlt : i < ds.length
  · refine .inr ⟨wd.go i H2 hlt (st.b.trans st.t), fun H' => i + 1 ≤ ds.length ∧ ∃ B2 tri, Step B1 H1 B2 H' ∧ B2 D = none ∧ H' D = some (DkO X.prog X.w D tri) ∧ Paired (fun (p : NestedKey × Addr × V) (q : NestedKey × List (Str × DL.D)) => p.1 = q.1 ∧ Dt B2 (.ref p.2.1) p.1.data ∧ IsK B2 p.2.2 q.2) tri ((ds.take (i + 1)).map fun d => (kf d, vf d)),
      fun H' h => ⟨_, by omega, rfl, h.1, h.2⟩, fun x H' y => ?_⟩
    obtain ⟨d, hdi, hy⟩ := wd.yld i H2 x H' hlt (st.b.trans st.t) y
    have hmem : d ∈ ds := List.mem_of_getElem? hdi
    have htake : ds.take (i + 1) = ds.take i ++ [d] := by rw [List.take_add_one, hdi]; rfl
    obtain ⟨B3, st3, hx⟩ : ∃ B3, Step B2 H2 B3 H' ∧ Dt B3 x d := by
      rcases hy with ⟨rfl, hx⟩ | ⟨T, o, xs, es, rfl, hT, ho, rfl, rfl, hes⟩
      · exact ⟨B2, Step.refl st.t, dt_mono st.b _ _ hx⟩
      · have s3 := Step.new (o := .frz o (.tup xs)) st.t hT
        exact ⟨_, s3, .tup ⟨o, upd_same, ho⟩ (dtall_mono (st.b.trans s3.b) _ _ hes)⟩
    have st13 : Step B1 H1 B3 H' := st.trans st3
    obtain ⟨hB3, hD3⟩ := st3.f D _ hB2 hD2
    have en3 : EnvOk (ct X C) H0 B3 H' (wipe σ (own.map (·.2))) (forgets ρ (own.map (·.2))) := ((en.step s1).step st13).wipe _
    refine ⟨d, hmem, H0, B3, st3.t, en3, hx, fun σ2 en4 hl hn => ⟨wipe_same hl hn hjs, d, hmem, H0, B3, st3.t, en4, fun v B4 H4 st4 r4 => ⟨d, hmem, H0, B4, st4.t, en4.step st4, fun w B5 H5 st5 r5 => ?_⟩⟩⟩
    have st35 := st4.trans st5
    obtain ⟨hB5, hD5⟩ := st35.f D _ hB3 hD3
    obtain ⟨b, rfl⟩ := (hkey d hmem).ref r4
    have hp5 : Paired (fun (p : NestedKey × Addr × V) (q : NestedKey × List (Str × DL.D)) => p.1 = q.1 ∧ Dt B5 (.ref p.2.1) p.1.data ∧ IsK B5 p.2.2 q.2) tri ((ds.take i).map fun d => (kf d, vf d)) :=
      Paired.mapP hp fun p q r => ⟨r.1, dt_mono (st3.b.trans st35.b) _ _ r.2.1, isK_mono (st3.b.trans st35.b) r.2.2⟩
    have hno : kfind ((ds.take i).map fun d => (kf d, vf d)) (kf d) = none := kfind_none fun hm => by
      rw [List.map_map] at hm
      obtain ⟨d', hd', e⟩ := List.mem_map.mp hm
      have hsub : (ds.take i ++ [d]).Sublist ds := by
        rw [← htake]
        exact List.take_sublist _ _
      have hnd2 := hnd.sublist (hsub.map kf)
      rw [List.map_append, List.nodup_append] at hnd2
      exact hnd2.2.2 _ (List.mem_map.mpr ⟨d', hd', rfl⟩) _ (List.mem_map.mpr ⟨d, List.mem_singleton.mpr rfl, rfl⟩) e
    have hlen : tri.length ≤ i := by
      rw [paired_len hp, List.length_map, List.length_take]
      omega
    refine ⟨_, ⟨B5, b, kf d, tri, st5.t, rfl, dt_mono st5.b _ _ r4, (hkey d hmem).dp, hD5, keys_of hp5, (kfind_pair hp5).2 hno, by have := wd.size; omega, rfl⟩, by omega, B5, tri ++ [(kf d, b, w)], (st13.trans st35).mut hB5 hD, hB5, upd_same, ?_⟩
    rw [htake, List.map_append]
    exact paired_append hp5 (.cons ⟨rfl, dt_mono st5.b _ _ r4, r5⟩ .nil)
  · have e : i = ds.length := by omega
    subst e
    refine .inl ⟨wd.stop H2 (st.b.trans st.t), ?_⟩
    rw [List.take_length] at hp
    have stf : Step B H (upd B2 D (DkO X.prog X.w D tri)) H2 := (s1.trans st).fix hB2 ((Step.ex ex s1).free hD) hD2
    exact k _ _ _ stf ⟨D, tri, rfl, upd_same, Paired.mapP hp fun p q r => ⟨r.1, dt_mono (Ex.new hB2) _ _ r.2.1, isK_mono (Ex.new hB2) r.2.2⟩⟩
theorem sts_dcN (i : Nat) {ρ' : D → List Sl} {js : List Nat} {kf : D → NestedKey} {vf : D → List (Str × D)} {kvs : List (NestedKey × List (Str × D))} (hr : Room n X.A) (hc : X.calm = true) (hN : X.N.Nodup) (ok : BlkOk X.N X.env.scope scope own) (hjs : ∀ j ∈ js, j ∈ own.map (·.2)) (hi : EvI C X tg iter ρ ds) (hkey : ∀ d ∈ ds, KeyOk (kf d)) (hnd : (ds.map kf).Nodup)
    (hg : ∀ (s : Shared) (H : Hp) (Cc : Addr) (cl : List (Str × Addr)) (fp : List Addr), ∀ d ∈ ds, EvG C (X.blk s H scope (compEnvC scope cl Cc X.env) fp) tg (forgets ρ (own.map (·.2))) d (ρ' d) js)
    (hk : ∀ (s : Shared) (H : Hp) (Cc : Addr) (cl : List (Str × Addr)) (fp : List Addr), ∀ d ∈ ds, Ev C (X.blk s H scope (compEnvC scope cl Cc X.env) fp) kx (ρ' d) (.d (kf d).data))
    (he : ∀ (s : Shared) (H : Hp) (Cc : Addr) (cl : List (Str × Addr)) (fp : List Addr), ∀ d ∈ ds, Ev C (X.blk s H scope (compEnvC scope cl Cc X.env) fp) vx (ρ' d) (.dk (vf d)))
    (he2 : (ds.map fun d => (kf d, vf d)) = kvs) (k : Sts C X ss (ρ.set i (.i (.dnk kvs))) Φ)
    (hy : X.N[i]? = some y := by rfl) (hyl : X.env.scope.names.lookup y = some .local := by rfl) (hkf : X.env.scope.kind = .function := by rfl) (hl : (py.line == pos.line) = true := by rfl) (ha : (scope.names.any fun (n, k) => n == y && (k == .local || k == .cell)) = false := by rfl)
    (hs : ∀ x, foldedSetIterable iter X.env x = pure x := by intro _; rfl) : Sts C X (.Assign [.Name y py] (.DictComp kx vx [⟨tg, iter, [], 0⟩] scope pos) spos :: ss) ρ Φ := by
  subst he2
  refine sts_cons (ps_weak (ps_setDcN (i := i) (g := gAll (ct X C) (forgets ρ (own.map (·.2))) ρ' ds js) (tk := teF (ct X C) ρ' (fun d => .d (kf d).data) ds) (tv := teF (ct X C) ρ' (fun d => .dk (vf d)) ds) hr hc hN hy hyl (sw_trueD hkf hyl hl ha) hi ok (fun s H Cc cl fp => pg_all (hg s H Cc cl fp)) (fun s H Cc cl fp => pe_f (f := fun d => .d (kf d).data) (hk s H Cc cl fp)) (fun s H Cc cl fp => pe_f (f := fun d => .dk (vf d)) (he s H Cc cl fp)) hs) fun D σ H ⟨B0, H0, B, ex, s0, en, k1, _⟩ => ?_)
  exact dcN_run hjs hkey hnd ⟨H0, B, s0.t, en, fun v B' H' st r => k1 _ B' H' _ (s0.trans st) st.b ((en.step st).set i r) k⟩
end
end DL
set_option maxRecDepth 100000
set_option maxHeartbeats 4000000
/-! the data layer, 27: a tuple-key dict of one's own becomes data -/
namespace DL
open PySem PySem.Spec PyProof.Rows L2 SlX
section
variable {C : Addr} {X : Cx} {ρ : List Sl} {ss : List Stmt} {Φ : Out → Prop}
theorem EnvOk.fixN {c : Ct} {B0 H0 B H : Hp} {σ : L2.St} {ρ : List Sl} {i : Nat} {kvs : List (NestedKey × D)} (e : EnvOk c H0 B H σ ρ) (st : Step B0 H0 B H) (h : ρ[i]? = some (.mn kvs)) : ∃ B', Step B0 H0 B' H ∧ Ex B B' ∧ EnvOk c H0 B' H σ (ρ.set i (.i (.dn kvs))) := by
  obtain ⟨a, vs, ea, h1, h2, h3, h4⟩ := e.at_ i _ h
  refine ⟨upd B a (DkO c.P c.w a vs), st.fix h1 h2 h3, Ex.new h1, by rw [List.length_set]; exact e.len, fun j s hj => ?_, fun j l s t b hjl hs ht ms mt q1 q2 => ?_⟩
  · rw [List.getElem?_set] at hj
    by_cases hij : i = j
    · subst hij
      rw [if_pos rfl] at hj
      by_cases hl : i < ρ.length
      · rw [if_pos hl] at hj
        cases hj
        exact ⟨.ref a, ea, a, vs, rfl, upd_same, Paired.mapP h4 fun p q r => ⟨r.1, dt_mono (Ex.new h1) _ _ r.2.1, dt_mono (Ex.new h1) _ _ r.2.2⟩⟩
      · rw [if_neg hl] at hj
        cases hj
    · rw [if_neg hij] at hj
      have q := e.at_ j s hj
      have up : ∀ b, b ≠ a → (upd B a (DkO c.P c.w a vs)) b = B b := fun b hb => upd_ne hb
      cases s with
      | no => exact True.intro
      | i x =>
        obtain ⟨v, e1, r⟩ := q
        exact ⟨v, e1, rp_mono (Ex.new h1) r⟩
      | ml ys =>
        obtain ⟨b, ws, e1, g1, g2, g3, g4⟩ := q
        have hb : b ≠ a := fun z => e.dis i j _ _ a hij h hj rfl rfl ea (by rw [e1, z])
        exact ⟨b, ws, e1, by rw [up b hb]; exact g1, g2, g3, dtall_mono (Ex.new h1) _ _ g4⟩
      | mk ys =>
        obtain ⟨b, ws, e1, g1, g2, g3, g4⟩ := q
        have hb : b ≠ a := fun z => e.dis i j _ _ a hij h hj rfl rfl ea (by rw [e1, z])
        exact ⟨b, ws, e1, by rw [up b hb]; exact g1, g2, g3, Paired.mapP g4 fun p q r => ⟨r.1, dt_mono (Ex.new h1) _ _ r.2⟩⟩
      | mn ys =>
        obtain ⟨b, ws, e1, g1, g2, g3, g4⟩ := q
        have hb : b ≠ a := fun z => e.dis i j _ _ a hij h hj rfl rfl ea (by rw [e1, z])
        exact ⟨b, ws, e1, by rw [up b hb]; exact g1, g2, g3, Paired.mapP g4 fun p q r => ⟨r.1, dt_mono (Ex.new h1) _ _ r.2.1, dt_mono (Ex.new h1) _ _ r.2.2⟩⟩
  · have key : ∀ (j : Nat) (t : Sl), (ρ.set i (.i (.dn kvs)))[j]? = some t → t.mut = true → ρ[j]? = some t := fun j t h m => by
      rw [List.getElem?_set] at h
      by_cases hij : i = j
      · rw [if_pos hij] at h
        by_cases hl : i < ρ.length
        · rw [if_pos hl] at h
          cases h
          cases m
        · rw [if_neg hl] at h
          cases h
      · rw [if_neg hij] at h
        exact h
    exact e.dis j l s t b hjl (key j s hs ms) (key l t ht mt) ms mt q1 q2
theorem sts_fixN (i : Nat) {kvs : List (NestedKey × D)} (h : ρ[i]? = some (.mn kvs)) (k : Sts C X ss (ρ.set i (.i (.dn kvs))) Φ) : Sts C X ss ρ Φ := pss_weak k fun D σ H ⟨B0, H0, B, ex, s0, en, q⟩ => by
  obtain ⟨B', s1, eb, e1⟩ := en.fixN s0 h
  exact tS_grow (σ := σ) (H := H) (ρ := ρ) ex s1 eb e1 q
end
end DL
set_option maxRecDepth 100000
set_option maxHeartbeats 4000000
/-! the data layer, 28: sorted of at most one -/
namespace DL
open PySem PySem.Spec PyProof.Rows L2 SlX
theorem perm_one {α : Type} {a b : List α} (h : b.length ≤ 1) (hp : a.Perm b) : a = b := by
  cases b with
  | nil => exact hp.eq_nil
  | cons x b =>
    cases b with
    | nil => exact List.perm_singleton.mp hp
    | cons y b => simp at h
section
variable {C : Addr} {X : Cx} {e : Expr} {ρ : List Sl} {pos p : Pos} {ds : List D}
theorem call_sorted1 : CallR X (.builtin "sorted") (fun xs H Q => ∃ l vs, xs = [.ref l] ∧ H l = some (.lst vs) ∧ vs.length ≤ 1 ∧ ∀ p : Addr, H p = none → Q (.ref p) (upd H p (.lst vs))) := by
  intro pins s σ H xs us Q I r h
  obtain ⟨l, vs, rfl, hl, h1, q⟩ := h
  obtain ⟨u, rfl, rx⟩ := r.one
  cases rx
  obtain ⟨its, rv, pl, hz⟩ := I.list (sl_of hl)
  have hlen : its.length ≤ 1 := by rw [← rv.length]; exact h1
  refine Srt.sorted_any pl.isList (by rw [← rv.length]; exact hz) (fun h2 => absurd h2 (by omega)) fun out hp => ?_
  have e : out = its := perm_one hlen hp
  subst e
  obtain ⟨ep, he'⟩ := PyProof.Rows.sortedAll_at s.heap out out.toArray
  have hz2 : vs.length ≤ sizeLine := hz
  exact ⟨.ref _, upd H (s.heap.objs.size + 1) (.lst vs), I.laid (t' := s.toks) (fun _ _ => PyProof.Rows.sortedAll_old) (Nat.le_succ _) ⟨hz2, out, ep, rv, he'⟩, rfl, q _ (I.hok.fresh (Nat.le_succ _))⟩
/-- sorted(l), l of one thing at most -/
theorem ef_sorted1 (h1 : ds.length ≤ 1) (he : Ev C X e ρ (.d (.list ds))) (hm : X.mg "sorted" = none) (hg : Gl X "sorted" := by rfl) (hs : starEach [e] X.env = (false, eval e X.env) :: starEach [] X.env := by rfl) (hpl : (backTo pos (starEach [] X.env)).any (·.1) = false := by rfl) : EvF C X (.Call (.Name "sorted" p) [e] [] pos) ρ ds :=
  pe_weak (pe_callB call_sorted1 hg hm boot_sorted (pa_cons he pa_nil hs) (by decide) (by decide) hs hpl) fun σ H Q ⟨H0, B, ex, en, q⟩ => ⟨H0, B, ex, en, fun v B1 H1 s1 r1 => by
    cases r1 with
    | @lst a xs _ ha hd =>
      exact ⟨a, xs, rfl, s1.t _ _ ha, by rw [dtall_len hd]; exact h1, fun l hl => by
        have st := Step.aside (o := .lst xs) s1.t hl
        exact q l xs B1 _ (s1.trans st) ((Step.ex ex s1).free hl) (s1.t.free hl) upd_same hd⟩⟩
end
end DL
set_option maxRecDepth 100000
set_option maxHeartbeats 4000000
/-! the data layer, 29: C.m(e) of a staticmethod, calls by keywords alone, tuples of any values to names -/
namespace DL
open PySem PySem.Spec PyProof.Rows L2 SlX
section
variable {C : Addr} {X : Cx} {e a b c : Expr} {es tgs : List Expr} {ρ ρ1 ρ2 : List Sl} {pos p apos pt pt2 px : Pos} {k : Nat} {nm n : Str} {R : List DV → DV → Prop} {xs : List DV} {x y : DV} {ss : List Stmt} {Φ : Out → Prop}
/-- a staticmethod of the class Program, its def's promise -/
structure Gs (P : Program) (w : World) (K : PySem.W.Frag) (mg : Str → Option Value) (base : Heap) (C : Addr) (nm : Str) (k : Nat) (sp : Sp) : Prop where
  ex : ∃ q g fd ps rest mc, mg "Program" = some (.ref C) ∧ ClX.CRead K C mc ∧ PySem.W.findCls K (.ref C) mc nm = some (.get (.builtin "staticmethod.__get__") (.ref q) .none (.ref C)) ∧ PySem.W.recIn K q "staticmethod" = some (.ref g :: rest) ∧ PySem.W.keepIn K (.ref g) = true ∧ Binds K fd ps [] ∧ FnOk P w K mg base CX0 k g fd ps sp
theorem ev_static {pl : Sem Bool} (G : Gs X.prog X.w X.K X.mg X.base C nm k (spD (ct X C) R)) (hr : Room k X.A) (ha : EvA C X (e :: es) ρ xs) (h : R xs y) (hg : Gl X "Program" := by rfl)
    (hst : starEach (e :: es) X.env = (false, eval e X.env) :: starEach es X.env := by rfl) (hpl : (backTo pos (starEach es X.env)).any (·.1) = false := by rfl)
    (ht : eval (.Call (.Attribute (.Name "Program" p) nm apos) (e :: es) [] pos) X.env = (do
      let ov ← eval (.Name "Program" p) X.env
      standAt apos.atName
      let (f, first) ← holding [ov] (getMethod ov nm pl)
      callWith pos f first (backTo pos (starEach (e :: es) X.env)) (backToKw pos (keywordEach [] X.env))) := by rfl) :
    Ev C X (.Call (.Attribute (.Name "Program" p) nm apos) (e :: es) [] pos) ρ y := by
  obtain ⟨q, g, fd, ps, rest, mc, hm, hrd, hfc, hrec, hk, hb, F⟩ := G.ex
  refine ⟨fun pins s σ H Q I ⟨H0, B, ex, en, kk⟩ => ?_⟩
  refine PySem.W.methodCall_KW (pl := pl) (thn ((pe_glob (v := .ref C) hg hm rfl (by decide)).run pins s σ H (fun v H1 => v = .ref C ∧ H1 = H) I ⟨rfl, rfl⟩) fun u s1 ⟨v, H1, I1, rx, ev, eh⟩ => ?_) ht
  subst ev eh
  obtain rfl : u = Value.ref C := rx
  refine PySem.W.method_cls I1.kIn hrd.ga ?_
  refine PySem.W.cls_bind I1.kIn hrd.rd hfc ?_
  refine wpAny_call (PySem.W.sm_get (s := { s1 with toks := s1.toks + 1 }) I1.kIn hrec (PySem.W.handed_on rfl ?_))
  have I2 := I1.tok (s1.toks + 1)
  refine PySem.W.callWith_K (h₀ := X.base) I2.ok.mod.kin hk (thn (ha.run pos pins _ σ H1 _ I2 ⟨H0, B, ex, en, fun vs B2 H2 s2 r2 => (⟨B2, xs, y, s2.t, r2, h, fun v B3 H3 s3 r3 => kk v B3 H3 (s2.trans s3) r3⟩ : spD (ct X C) R vs H2 Q E0)⟩) fun us s3 ⟨vs, H3, I3, rv, q3⟩ => ⟨I3.kIn, ?_⟩) hst hpl
  exact run_fn (dvs := []) F hr hb .nil (pass0 (X := X)) I3 rv (by rw [List.append_nil]; exact q3)
/-! ### tuples of any values to names -/
def tDXs (c : Ct) (ρ ρ' : List Sl) (xs : List DV) : TGs := fun vs σ H Q => ∃ H0 B, Ex B H ∧ EnvOk c H0 B H σ ρ ∧ Paired (Rp c B) vs xs ∧ ∀ σ', EnvOk c H0 B H σ' ρ' → Q σ' H
def EvXs (C : Addr) (X : Cx) (tgs : List Expr) (ρ : List Sl) (xs : List DV) (ρ' : List Sl) : Prop := PGs X tgs (tDXs (ct X C) ρ ρ' xs)
theorem exs_nil : EvXs C X [] ρ [] ρ := pgs_weak pgs_nil fun v σ H Q ⟨H0, B, ex, en, r, kk⟩ => by
  cases r
  exact ⟨rfl, kk σ en⟩
theorem exs_cons (i : Nat) (h2 : EvXs C X tgs (ρ.set i (.i x)) xs ρ2) (hN : X.N.Nodup) (hi : X.N[i]? = some n := by rfl) (hx : Loc X.env.scope n := by first | exact Or.inl rfl | exact Or.inr rfl) (hf : X.fn n = true ∨ X.env.scope.names.lookup n = some .local := by first | exact .inl rfl | exact .inr rfl)
    (hs : (assignEach (.Name n px :: tgs) X.env).map (·.2) = assign (.Name n px) X.env :: (assignEach tgs X.env).map (·.2) := by rfl) : EvXs C X (.Name n px :: tgs) ρ (x :: xs) ρ2 :=
  pgs_weak (pgs_cons (pg_name hN hi hx hf) h2 hs) fun v σ H Q ⟨H0, B, ex, en, r, kk⟩ => by
    cases r with
    | cons r1 r2 => exact ⟨_, _, rfl, H0, B, ex, en.set i r1, r2, kk⟩
/-- n, m, .. = e, f, .. by way of a tuple -/
theorem sts_tupx {kt k2 : Nat} (he : EvA C X es ρ xs) (hg : EvXs C X tgs ρ xs ρ1) (kk : Sts C X ss ρ1 Φ) (hz : xs.length ≤ sizeLine := by decide) (hc : X.calm = true := by rfl) (hl : xs.length = (assignEach tgs X.env).length := by rfl) (hst : (assignEach tgs X.env).findIdx? (·.1) = none := by rfl)
    (hs : swapsWithSole [.Tuple tgs kt pt] (.Tuple es k2 pt2) pos.line X.env = pure false := by rfl) (hw : swappedStores [.Tuple tgs kt pt] (.Tuple es k2 pt2) X.env = pure none := by rfl)
    (h1 : (assignEach [.Tuple tgs kt pt] X.env).map (·.2) = [assign (.Tuple tgs kt pt) X.env] := by rfl) : Sts C X (.Assign [.Tuple tgs kt pt] (.Tuple es k2 pt2) pos :: ss) ρ Φ :=
  sts_cons (ps_weak (ps_asg (pe_tupF he) (pg_tup hc hg rfl hst) hs hw h1) fun D σ H ⟨B0, H0, B, ex, s0, en, k1, _⟩ => ⟨H0, B, s0.t, en, fun vs B1 H1 s1 r1 => by
    have hlen := paired_len r1
    refine ⟨by rw [hlen]; exact hz, fun q o hq ho => ?_⟩
    have sa := Step.aside (o := .frz o (.tup vs)) s1.t hq
    have st := s1.trans sa
    exact ⟨q, vs, rfl, Or.inl (Or.inr ⟨o, upd_same⟩), hlen.trans hl, H0, B1, st.t, en.step st, r1, fun σ' e' => k1 _ B1 _ _ (s0.trans st) st.b e' kk⟩⟩)
/-! ### a call by keywords alone -/
/-- a def that stands under its name and takes three values by keywords in the order from right to left -/
structure Gk (P : Program) (w : World) (K : PySem.W.Frag) (mg : Str → Option Value) (base : Heap) (n : Str) (ks : List Str) (k : Nat) (sp : Sp) : Prop where
  ex : ∃ f fd ps, mg n = some (.ref f) ∧ PySem.W.keepIn K (.ref f) = true ∧ KBn K fd ps 0 ks (fun _ ws => ws.reverse) (fun _ zs => zs.reverse) ∧ FnOk P w K mg base CX0 k f fd ps sp
theorem pe_callN0 {f : Addr} {fd : FuncData} {ps ks : List Str} {sp : Sp} {E : XK} {kws : List Keyword} {tk : TA} {g : List Value → List Value → List Value} {gV : List V → List V → List V} (F : FnOk X.prog X.w X.K X.mg X.base CX0 k f fd ps sp) (hr : Room k X.A) (hg : Gl X n) (hm : X.mg n = some (.ref f)) (hk : PySem.W.keepIn X.K (.ref f) = true) (hb : KBn X.K fd ps 0 ks g gV) (hx : Passes CX0 X E)
    (hkw : PK X kws tk) (hall : (backToKw pos (keywordEach kws X.env)).all (·.1.isSome) = true) (hks : (backToKw pos (keywordEach kws X.env)).filterMap (·.1) = ks)
    (hdb : (n == ("__debug__" : Str)) = false) (hpl : ((backTo pos (starEach [] X.env)).any (·.1) || (backToKw pos (keywordEach kws X.env)).any (·.1.isNone)) = false) :
    PE X (.Call (.Name n p) [] kws pos) (tCallN 0 ks.length sp gV E tNil tk) := by
  refine ⟨fun pins s σ H Q I h => wpAny_Call_Name_kw (ld_glob I hg hm ?_ hdb)⟩
  refine PySem.W.callWith_KW0 (h₀ := X.base) I.ok.mod.kin hk hall (thn (hkw.run pos pins s σ H _ I h) fun ws s2 ⟨zs, H2, I2, rz, l1, l2, q2⟩ => ⟨I2.kIn, ?_⟩) hpl
  rw [hks]
  exact run_fnN (us := []) (vs := []) F hr hb hx I2 .nil rz rfl l2 q2
theorem ev_kw3 {n1 n2 n3 : Str} {p1 p2 p3 : Pos} {x1 x2 x3 : DV} (G : Gk X.prog X.w X.K X.mg X.base n [n1, n2, n3] k (spD (ct X C) R)) (hr : Room k X.A) (h1 : Ev C X a ρ x1) (h2 : Ev C X b ρ x2) (h3 : Ev C X c ρ x3) (h : R [x3, x2, x1] y) (hg : Gl X n := by rfl) (hdb : (n == ("__debug__" : Str)) = false := by decide)
    (hall : (backToKw pos (keywordEach [⟨some n1, a, p1⟩, ⟨some n2, b, p2⟩, ⟨some n3, c, p3⟩] X.env)).all (·.1.isSome) = true := by rfl) (hks : (backToKw pos (keywordEach [⟨some n1, a, p1⟩, ⟨some n2, b, p2⟩, ⟨some n3, c, p3⟩] X.env)).filterMap (·.1) = [n1, n2, n3] := by rfl)
    (hpl : ((backTo pos (starEach [] X.env)).any (·.1) || (backToKw pos (keywordEach [⟨some n1, a, p1⟩, ⟨some n2, b, p2⟩, ⟨some n3, c, p3⟩] X.env)).any (·.1.isNone)) = false := by rfl) :
    Ev C X (.Call (.Name n p) [] [⟨some n1, a, p1⟩, ⟨some n2, b, p2⟩, ⟨some n3, c, p3⟩] pos) ρ y := by
  obtain ⟨f, fd, ps, hm, hk, hb, F⟩ := G.ex
  refine pe_weak (pe_callN0 F hr hg hm hk hb (pass0 (X := X)) (pk_cons h1 (pk_cons h2 (pk_cons h3 pk_nil))) hall hks hdb hpl) fun σ H Q ⟨H0, B, ex, en, kk⟩ => ?_
  refine ⟨H0, B, ex, en, fun v1 B1 H1 s1 r1 => ⟨H0, B1, s1.t, en.step s1, fun v2 B2 H2 s2 r2 => ⟨H0, B2, s2.t, (en.step s1).step s2, fun v3 B3 H3 s3 r3 => ⟨rfl, rfl, ?_⟩⟩⟩⟩
  exact ⟨B3, [x3, x2, x1], y, s3.t, .cons r3 (.cons (rp_mono s3.b r2) (.cons (rp_mono (s2.b.trans s3.b) r1) .nil)), h, fun v B4 H4 s4 r4 => kk v B4 H4 (((s1.trans s2).trans s3).trans s4) r4⟩
end
end DL
set_option maxRecDepth 100000
set_option maxHeartbeats 4000000
/-! the urn layer, 1: a list of three numbers at u changes while all else grows -/
namespace DL
open PySem PySem.Spec PyProof.Rows L2 SlX
structure UOk (a b c : Int) (n : Nat) : Prop where
  a0 : 0 ≤ a
  b0 : 0 ≤ b
  b1 : b < 4611686018427387904
  c0 : 0 ≤ c
  c1 : c ≤ n
def UrnO (o : HO) (n : Nat) : Prop := ∃ a b c : Int, o = .lst [.int a, .int b, .int c] ∧ UOk a b c n
def Urn (H : Hp) (u : Addr) (n : Nat) : Prop := ∃ o, H u = some o ∧ UrnO o n
theorem UrnO.mono {o : HO} {n m : Nat} (h : UrnO o n) (hn : n ≤ m) : UrnO o m := by
  obtain ⟨a, b, c, e, k⟩ := h
  exact ⟨a, b, c, e, k.a0, k.b0, k.b1, k.c0, by have := k.c1; omega⟩
def StepN (u : Addr) (n : Nat) (B H B' H' : Hp) : Prop := ∃ o, UrnO o n ∧ Step B (upd H u o) B' H'
theorem upd_self {H : Hp} {u : Addr} {o : HO} (h : H u = some o) : upd H u o = H := by
  funext a
  by_cases e : a = u
  · rw [e, upd_same, h]
  · rw [upd_ne e]
section
variable {u : Addr} {n n1 n2 : Nat} {B H B1 H1 B2 H2 B' H' H0 : Hp} {c : Ct} {σ : L2.St} {ρ : List Sl}
theorem StepN.of (hu : Urn H u n) (s : Step B H B' H') : StepN u n B H B' H' := by
  obtain ⟨o, h1, h2⟩ := hu
  exact ⟨o, h2, by rw [upd_self h1]; exact s⟩
theorem StepN.trans (hb : B u = none) (s1 : StepN u n1 B H B1 H1) (s2 : StepN u n2 B1 H1 B2 H2) : StepN u n2 B H B2 H2 := by
  obtain ⟨o, _, s1⟩ := s1
  obtain ⟨o2, k2, s2⟩ := s2
  refine ⟨o2, k2, s1.b.trans s2.b, s2.t, fun a w h q => ?_⟩
  by_cases e : a = u
  · subst e
    rw [upd_same] at q
    cases q
    obtain ⟨g1, _⟩ := s1.f a o h upd_same
    exact s2.f a _ g1 upd_same
  · rw [upd_ne e] at q
    obtain ⟨g1, g2⟩ := s1.f a w h (by rw [upd_ne e]; exact q)
    exact s2.f a w g1 (by rw [upd_ne e]; exact g2)
theorem StepN.urn (hb : B u = none) (s : StepN u n B H B' H') : B' u = none ∧ Urn H' u n := by
  obtain ⟨o, k, s⟩ := s
  obtain ⟨g1, g2⟩ := s.f u o hb upd_same
  exact ⟨g1, o, g2, k⟩
theorem StepN.b (s : StepN u n B H B' H') : Ex B B' := let ⟨_, _, s⟩ := s; s.b
theorem StepN.t (s : StepN u n B H B' H') : Ex B' H' := let ⟨_, _, s⟩ := s; s.t
theorem StepN.mono (s : StepN u n B H B' H') (h : n ≤ n1) : StepN u n1 B H B' H' := let ⟨o, k, s⟩ := s; ⟨o, k.mono h, s⟩
/-- the slots do not see the urn -/
theorem EnvOk.urn {o : HO} (h0 : H0 u ≠ none) (e : EnvOk c H0 B H σ ρ) : EnvOk c H0 B (upd H u o) σ ρ := by
  refine ⟨e.len, fun i s hs => ?_, e.dis⟩
  have q := e.at_ i s hs
  have ne : ∀ a, H0 a = none → a ≠ u := fun a ha e => h0 (e ▸ ha)
  cases s with
  | no => exact True.intro
  | i x => exact q
  | ml xs =>
    obtain ⟨a, vs, e1, g1, g2, g3, g4⟩ := q
    exact ⟨a, vs, e1, g1, g2, by rw [upd_ne (ne a g2)]; exact g3, g4⟩
  | mk xs =>
    obtain ⟨a, vs, e1, g1, g2, g3, g4⟩ := q
    exact ⟨a, vs, e1, g1, g2, by rw [upd_ne (ne a g2)]; exact g3, g4⟩
  | mn xs =>
    obtain ⟨a, vs, e1, g1, g2, g3, g4⟩ := q
    exact ⟨a, vs, e1, g1, g2, by rw [upd_ne (ne a g2)]; exact g3, g4⟩
theorem EnvOk.stepN (h0 : H0 u ≠ none) (e : EnvOk c H0 B H σ ρ) (s : StepN u n B H B' H') : EnvOk c H0 B' H' σ ρ := let ⟨_, _, s⟩ := s; (e.urn h0).step s
/-- .. nor does it matter what the base has there -/
theorem EnvOk.base {o : HO} (h0 : H0 u ≠ none) (e : EnvOk c H0 B H σ ρ) : EnvOk c (upd H0 u o) B H σ ρ := by
  refine ⟨e.len, fun i s hs => ?_, e.dis⟩
  have q := e.at_ i s hs
  have ne : ∀ a, H0 a = none → a ≠ u := fun a ha e => h0 (e ▸ ha)
  cases s with
  | no => exact True.intro
  | i x => exact q
  | ml xs =>
    obtain ⟨a, vs, e1, g1, g2, g3, g4⟩ := q
    exact ⟨a, vs, e1, g1, by rw [upd_ne (ne a g2)]; exact g2, g3, g4⟩
  | mk xs =>
    obtain ⟨a, vs, e1, g1, g2, g3, g4⟩ := q
    exact ⟨a, vs, e1, g1, by rw [upd_ne (ne a g2)]; exact g2, g3, g4⟩
  | mn xs =>
    obtain ⟨a, vs, e1, g1, g2, g3, g4⟩ := q
    exact ⟨a, vs, e1, g1, by rw [upd_ne (ne a g2)]; exact g2, g3, g4⟩
theorem EnvOk.unbase {o : HO} (e : EnvOk c (upd H0 u o) B H σ ρ) : EnvOk c H0 B H σ ρ := by
  refine ⟨e.len, fun i s hs => ?_, e.dis⟩
  have q := e.at_ i s hs
  have old : ∀ a, (upd H0 u o) a = Option.none → H0 a = Option.none := fun a h => by
    by_cases z : a = u
    · rw [z, upd_same] at h
      cases h
    · rw [upd_ne z] at h
      exact h
  cases s with
  | no => exact True.intro
  | i x => exact q
  | ml xs =>
    obtain ⟨a, vs, e1, g1, g2, g3, g4⟩ := q
    exact ⟨a, vs, e1, g1, old a g2, g3, g4⟩
  | mk xs =>
    obtain ⟨a, vs, e1, g1, g2, g3, g4⟩ := q
    exact ⟨a, vs, e1, g1, old a g2, g3, g4⟩
  | mn xs =>
    obtain ⟨a, vs, e1, g1, g2, g3, g4⟩ := q
    exact ⟨a, vs, e1, g1, old a g2, g3, g4⟩
end
/-- where an expression stands -/
structure NSt (c : Ct) (u : Addr) (ρ : List Sl) (n : Nat) (σ : L2.St) (H H0 B : Hp) : Prop where
  ex : Ex B H
  en : EnvOk c H0 B H σ ρ
  hb : B u = none
  h0 : H0 u ≠ none
  ur : Urn H u n
theorem NSt.step {c : Ct} {u : Addr} {ρ : List Sl} {n n' : Nat} {σ : L2.St} {H H0 B B' H' : Hp} (N : NSt c u ρ n σ H H0 B) (s : StepN u n' B H B' H') : NSt c u ρ n' σ H' H0 B' := ⟨s.t, N.en.stepN N.h0 s, (s.urn N.hb).1, N.h0, (s.urn N.hb).2⟩
theorem NSt.aside {c : Ct} {u : Addr} {ρ : List Sl} {n : Nat} {σ : L2.St} {H H0 B : Hp} (N : NSt c u ρ n σ H H0 B) {p : Addr} {o : HO} (h : H p = none) : StepN u n B H B (upd H p o) := .of N.ur (Step.aside N.ex h)
def tN (c : Ct) (u : Addr) (ρ : List Sl) (n n' : Nat) (R : DV → Prop) : TE := fun σ H Q => ∃ H0 B, NSt c u ρ n σ H H0 B ∧ ∀ x v B' H', R x → StepN u n' B H B' H' → Rp c B' v x → Q v H'
def tNA (c : Ct) (u : Addr) (ρ : List Sl) (n n' : Nat) (R : List DV → Prop) : TA := fun σ H Q => ∃ H0 B, NSt c u ρ n σ H H0 B ∧ ∀ xs vs B' H', R xs → StepN u n' B H B' H' → Paired (Rp c B') vs xs → Q vs H'
def tNT (c : Ct) (u : Addr) (ρ : List Sl) (n n' : Nat) (R : Bool → Prop) : TT := fun σ H Q => ∃ H0 B, NSt c u ρ n σ H H0 B ∧ ∀ b B' H', R b → StepN u n' B H B' H' → Q b H'
def tNI (c : Ct) (u : Addr) (ρ : List Sl) (n n' : Nat) (R : List D → Prop) : TI := fun σ H Rk => ∃ H0 B, NSt c u ρ n σ H H0 B ∧ ∀ ds J B1 H1, R ds → StepN u n' B H B1 H1 → WalkD J ds B1 → Rk J H1
/-- a new list -/
def tNF (c : Ct) (u : Addr) (ρ : List Sl) (n n' : Nat) (R : List D → Prop) : TE := fun σ H Q => ∃ H0 B, NSt c u ρ n σ H H0 B ∧ ∀ xs p vs B' H', R xs → StepN u n' B H B' H' → H p = none → B' p = none → H' p = some (.lst vs) → DtAll B' vs xs → Q (.ref p) H'
def EvN (C : Addr) (X : Cx) (u : Addr) (e : Expr) (ρ : List Sl) (n n' : Nat) (R : DV → Prop) : Prop := PE X e (tN (ct X C) u ρ n n' R)
def EvAN (C : Addr) (X : Cx) (u : Addr) (es : List Expr) (ρ : List Sl) (n n' : Nat) (R : List DV → Prop) : Prop := PA X es (tNA (ct X C) u ρ n n' R)
def EvTN (C : Addr) (X : Cx) (u : Addr) (e : Expr) (ρ : List Sl) (n n' : Nat) (R : Bool → Prop) : Prop := PT X e (tNT (ct X C) u ρ n n' R)
def EvWN (C : Addr) (X : Cx) (u : Addr) (e : Expr) (ρ : List Sl) (n n' : Nat) (R : Bool → Prop) : Prop := PW X e (tNT (ct X C) u ρ n n' R)
def EvIN (C : Addr) (X : Cx) (u : Addr) (tg iter : Expr) (ρ : List Sl) (n n' : Nat) (R : List D → Prop) : Prop := PI X tg iter (tNI (ct X C) u ρ n n' R)
def EvFN (C : Addr) (X : Cx) (u : Addr) (e : Expr) (ρ : List Sl) (n n' : Nat) (R : List D → Prop) : Prop := PE X e (tNF (ct X C) u ρ n n' R)
section
variable {C u : Addr} {X : Cx} {e a b tg iter : Expr} {es : List Expr} {ρ : List Sl} {n n1 n2 : Nat} {x : DV} {pos p p2 : Pos} {R R1 : DV → Prop}
theorem evn_of (h : Ev C X e ρ x) : EvN C X u e ρ n n (fun y => y = x) := pe_weak h fun σ H Q ⟨H0, B, N, k⟩ => ⟨H0, B, N.ex, N.en, fun v B' H' st r => k x v B' H' rfl (.of N.ur st) r⟩
theorem evn_mono {R' : DV → Prop} (h : EvN C X u e ρ n n1 R) (hR : ∀ y, R y → R' y) (hn : n1 ≤ n2) : EvN C X u e ρ n n2 R' := pe_weak h fun σ H Q ⟨H0, B, N, k⟩ => ⟨H0, B, N, fun y v B' H' hy st r => k y v B' H' (hR y hy) (st.mono hn) r⟩
theorem evtn_of {k : Bool} (h : EvT C X e ρ k) : EvTN C X u e ρ n n (fun y => y = k) := pt_weak h fun σ H Q ⟨H0, B, N, q⟩ => ⟨H0, B, N.ex, N.en, fun B' H' st => q k B' H' rfl (.of N.ur st)⟩
theorem ean_nil : EvAN C X u [] ρ n n (fun xs => xs = []) := pa_weak pa_nil fun σ H Q ⟨H0, B, N, k⟩ => k [] [] B H rfl (.of N.ur (Step.refl N.ex)) .nil
theorem ean_cons {Rs : List DV → Prop} (ha : EvN C X u e ρ n n1 R) (hr : EvAN C X u es ρ n1 n2 Rs) (hs : starEach (e :: es) X.env = (false, eval e X.env) :: starEach es X.env := by rfl) : EvAN C X u (e :: es) ρ n n2 (fun xs => ∃ y r, xs = y :: r ∧ R y ∧ Rs r) :=
  pa_weak (pa_cons ha hr hs) fun σ H Q ⟨H0, B, N, k⟩ => ⟨H0, B, N, fun y v B1 H1 hy s1 r1 => ⟨H0, B1, N.step s1, fun ys vs B2 H2 hys s2 r2 => k (y :: ys) (v :: vs) B2 H2 ⟨y, ys, rfl, hy, hys⟩ (s1.trans N.hb s2) (.cons (rp_mono s2.b r1) r2)⟩⟩
/-! ### calls -/
def spN (c : Ct) (m : Nat) (Pre : List DV → Prop) (Post : List DV → DV → Prop) : Sp := fun vs H Q _ => ∃ B u n xs, Ex B H ∧ Paired (Rp c B) vs (.at u :: xs) ∧ B u = none ∧ Urn H u n ∧ n + m ≤ 1000 ∧ Pre xs ∧ ∀ y v B' H', Post xs y → StepN u (n + m) B H B' H' → Rp c B' v y → Q v H'
theorem evn_call {nm : Str} {k m : Nat} {Pre Rs : List DV → Prop} {Post : List DV → DV → Prop} (G : Gf X.prog X.w X.K X.mg X.base nm k (spN (ct X C) m Pre Post)) (hr : Room k X.A) (ha : EvAN C X u (e :: es) ρ n n1 Rs) (hn : n1 + m ≤ 1000) (hpre : ∀ xs, Rs xs → ∃ r, xs = .at u :: r ∧ Pre r ∧ ∀ y, Post r y → R y)
    (hg : Gl X nm := by rfl) (hdb : (nm == ("__debug__" : Str)) = false := by decide) (he : starEach (e :: es) X.env = (false, eval e X.env) :: starEach es X.env := by rfl) (hpl : (backTo pos (starEach es X.env)).any (·.1) = false := by rfl) : EvN C X u (.Call (.Name nm p) (e :: es) [] pos) ρ n (n1 + m) R := by
  obtain ⟨f, fd, ps, hm, hk, hb, F⟩ := G.ex
  refine pe_weak (pe_call F hr hg hm hk hb .nil (pass0 (X := X)) ha hdb he hpl) fun σ H Q ⟨H0, B, N, q⟩ => ⟨H0, B, N, fun xs vs B1 H1 hxs s1 r1 => ?_⟩
  obtain ⟨r, rfl, hp, hq⟩ := hpre xs hxs
  show spN (ct X C) m Pre Post (vs ++ []) H1 Q E0
  rw [List.append_nil]
  have N1 := N.step s1
  exact ⟨B1, u, n1, r, N1.ex, r1, N1.hb, N1.ur, hn, hp, fun y v B2 H2 hy s2 r2 => q y v B2 H2 (hq y hy) (s1.trans N.hb s2) r2⟩
/-! ### operators -/
theorem evn_opR {op : Operator} {r : R2} {y : DV} (ho : OpR X (binaryOp op) r) (hr : ∀ z, R z → ∃ w, R1 w ∧ R2D (ct X C) r y z w) (ha : Ev C X a ρ y) (hb : EvN C X u b ρ n n1 R) : EvN C X u (.BinOp a op b pos) ρ n n1 R1 :=
  pe_weak (pe_op ho ha hb) fun σ H Q ⟨H0, B, N, k⟩ => ⟨H0, B, N.ex, N.en, fun v B1 H1 s1 r1 => by
    have t1 := StepN.of N.ur s1
    refine ⟨H0, B1, N.step t1, fun z w B2 H2 hz s2 r2 => ?_⟩
    obtain ⟨q, hq, hR⟩ := hr z hz
    have t2 := t1.trans N.hb s2
    exact hR B2 H2 v w Q s2.t (rp_mono s2.b r1) r2 fun x' B3 H3 s3 r3 => k q x' B3 H3 hq (t2.trans N.hb (.of (N.step t2).ur s3)) r3⟩
theorem evn_ix {r : R2} {y : DV} (hi : IxR X r) (hr : ∀ z, R z → ∃ w, R1 w ∧ R2D (ct X C) r y z w) (ha : Ev C X a ρ y) (hb : EvN C X u b ρ n n1 R) (hs : PlainIx b := by exact fun _ _ => rfl) : EvN C X u (.Subscript a b pos) ρ n n1 R1 :=
  pe_weak (pe_ix hi ha hb hs) fun σ H Q ⟨H0, B, N, k⟩ => ⟨H0, B, N.ex, N.en, fun v B1 H1 s1 r1 => by
    have t1 := StepN.of N.ur s1
    refine ⟨H0, B1, N.step t1, fun z w B2 H2 hz s2 r2 => ?_⟩
    obtain ⟨q, hq, hR⟩ := hr z hz
    have t2 := t1.trans N.hb s2
    exact hR B2 H2 v w Q s2.t (rp_mono s2.b r1) r2 fun x' B3 H3 s3 r3 => k q x' B3 H3 hq (t2.trans N.hb (.of (N.step t2).ur s3)) r3⟩
end
end DL
set_option maxRecDepth 100000
set_option maxHeartbeats 4000000
/-! the urn layer, 2: tests, statements, defs -/
namespace DL
open PySem PySem.Spec PyProof.Rows L2 SlX
section
variable {C u : Addr} {X : Cx} {e a b tg iter : Expr} {es : List Expr} {ρ : List Sl} {n n1 n2 : Nat} {x : DV} {pos p p2 : Pos} {R R1 : DV → Prop}
/-- a op b as a test, b plain -/
theorem evtn_cmp {op : CmpOp} {r : R2} {y : DV} {T : Bool → Prop} (ho : OpR X (compareOp op) r) (hr : ∀ z, R z → ∃ k, T k ∧ R2D (ct X C) r z y (.d (.bool k))) (ha : EvN C X u a ρ n n1 R) (hb : Ev C X b ρ y) (hm : behindInMarks op b = false := by first | exact nomark _ | rfl) : EvTN C X u (.Compare a [op] [b] pos) ρ n n1 T :=
  pt_weak (pt_cmpR ho ha hb hm) fun σ H Q ⟨H0, B, N, q⟩ => ⟨H0, B, N, fun z v B1 H1 hz s1 r1 => by
    have N1 := N.step s1
    refine ⟨H0, B1, N1.ex, N1.en, fun w B2 H2 s2 r2 => ?_⟩
    obtain ⟨k, hk, hR⟩ := hr z hz
    have t2 := s1.trans N.hb (.of N1.ur s2)
    refine hR B2 H2 v w _ s2.t (rp_mono s2.b r1) r2 fun x' B3 H3 s3 r3 => ?_
    cases r3
    exact ⟨k, rfl, q k B3 H3 hk (t2.trans N.hb (.of (N.step t2).ur s3))⟩⟩
theorem evwn_and {k : Bool} {T : Bool → Prop} (ha : EvT C X a ρ k) (hb : k = true → EvTN C X u b ρ n n1 T) (hn : n ≤ n1) : EvWN C X u (.BoolOp .And [a, b] pos) ρ n n1 (fun r => (k = true → T r) ∧ (k = false → r = false)) := by
  cases k with
  | true => exact pw_weak (pw_and ha (pw_and1 (hb rfl))) fun σ H Q ⟨H0, B, N, q⟩ => ⟨H0, B, N.ex, N.en, fun B1 H1 s1 => by
      have t1 := StepN.of N.ur s1
      exact ⟨H0, B1, N.step t1, fun r B2 H2 hr s2 => q r B2 H2 ⟨fun _ => hr, fun z => nomatch z⟩ (t1.trans N.hb s2)⟩⟩
  | false => exact pw_weak (pw_and ha pw_never) fun σ H Q ⟨H0, B, N, q⟩ => ⟨H0, B, N.ex, N.en, fun B1 H1 s1 => q false B1 H1 ⟨fun z => (nomatch z), fun _ => rfl⟩ ((StepN.of N.ur s1).mono hn)⟩
theorem EvWN.t {T : Bool → Prop} (h : EvWN C X u e ρ n n1 T) : EvTN C X u e ρ n n1 T := PW.pt h
/-! ### range -/
theorem ein_of {ds : List D} (h : EvI C X tg iter ρ ds) : EvIN C X u tg iter ρ n n (fun r => r = ds) := pi_weak h fun σ H R ⟨H0, B, N, k⟩ => ⟨H0, B, N.ex, N.en, fun J B1 H1 s1 w => k ds J B1 H1 rfl (.of N.ur s1) w⟩
theorem ein_range {T : Nat → Prop} (hm : X.mg "range" = none) (hz : ∀ m, T m → m ≤ sizeLine) (h : EvN C X u a ρ n n1 (fun y => ∃ m : Nat, T m ∧ y = .d (.int (m : Nat)))) (hg : Gl X "range" := by rfl) (hs : starEach [a] X.env = (false, eval a X.env) :: starEach [] X.env := by rfl) (hs2 : starEach [a] X.env = [(false, eval a X.env)] := by rfl) :
    EvIN C X u tg (.Call (.Name "range" p) [a] [] pos) ρ n n1 (fun r => ∃ m, T m ∧ r = natsD m) :=
  pi_weak (pi_range1 hg hm (pa_cons h pa_nil hs) hs2) fun σ H R ⟨H0, B, N, k⟩ => ⟨H0, B, N, fun y v B1 H1 hy s1 r1 => by
    obtain ⟨m, hT, rfl⟩ := hy
    cases r1
    have hb : (m : Int) < 2 ^ 62 := by
      have : (m : Int) ≤ (sizeLine : Int) := Int.ofNat_le.mpr (hz m hT)
      rw [sizeLine_eq] at this
      omega
    refine ⟨_, rfl, by omega, hb, k (natsD m) _ B1 H1 ⟨m, hT, rfl⟩ s1 ⟨fun i H2 hi e2 => ?_, fun H2 e2 => ?_, fun i H2 x H' hi e2 y => ?_, by rw [natsD_len]; exact hz m hT⟩⟩
    · rw [natsD_len] at hi
      show i < (m : Int).toNat
      omega
    · rw [natsD_len]
      show (m : Int).toNat ≤ m
      omega
    · obtain ⟨y1, y2⟩ := y
      rw [natsD_len] at hi
      exact ⟨_, natsD_get hi, .inl ⟨y1, by rw [y2, Int.zero_add]; exact Dt.int _⟩⟩⟩
/-! ### slots -/
def tNS (c : Ct) (u : Addr) (ρ : List Sl) (n n' : Nat) (R : Sl → Prop) : TE := fun σ H Q => ∃ H0 B, NSt c u ρ n σ H H0 B ∧ ∀ s v B' H', R s → StepN u n' B H B' H' → SlNew c H B' H' v s → Q v H'
def EvSN (C : Addr) (X : Cx) (u : Addr) (e : Expr) (ρ : List Sl) (n n' : Nat) (R : Sl → Prop) : Prop := PE X e (tNS (ct X C) u ρ n n' R)
theorem esn_of {s : Sl} (h : EvS C X e ρ s) : EvSN C X u e ρ n n (fun t => t = s) := pe_weak h fun σ H Q ⟨H0, B, N, k⟩ => ⟨H0, B, N.ex, N.en, fun v B' H' st r => k s v B' H' rfl (.of N.ur st) r⟩
theorem esn_n (h : EvN C X u e ρ n n1 R) : EvSN C X u e ρ n n1 (fun t => ∃ y, t = .i y ∧ R y) := pe_weak h fun σ H Q ⟨H0, B, N, k⟩ => ⟨H0, B, N, fun y v B' H' hy st r => k (.i y) v B' H' ⟨y, rfl, hy⟩ st r⟩
theorem EnvOk.setSN {c : Ct} {H0 B H B' H' : Hp} {σ : L2.St} {v : V} {s : Sl} (h0 : H0 u ≠ none) (hu : H u ≠ none) (e : EnvOk c H0 B H σ ρ) (st : StepN u n B H B' H') (e0 : ∀ p, H p = none → H0 p = none) (i : Nat) (h : SlNew c H B' H' v s) : EnvOk c H0 B' H' (σ.set i (some v)) (ρ.set i s) := by
  obtain ⟨o, _, st⟩ := st
  have old : ∀ p, H p = none → (upd H u o) p = none := fun p hp => by
    rw [upd_ne (fun z : p = u => hu (by rw [← z]; exact hp))]
    exact hp
  refine (e.urn (o := o) h0).setS st (fun p hp => ?_) i ?_
  · by_cases z : p = u
    · rw [z, upd_same] at hp
      cases hp
    · rw [upd_ne z] at hp
      exact e0 p hp
  · cases s with
    | no => exact True.intro
    | i x => exact h
    | ml xs =>
      obtain ⟨q, vs, g1, g2, g3⟩ := h
      exact ⟨q, vs, g1, old q g2, g3⟩
    | mk xs =>
      obtain ⟨q, vs, g1, g2, g3⟩ := h
      exact ⟨q, vs, g1, old q g2, g3⟩
    | mn xs =>
      obtain ⟨q, vs, g1, g2, g3⟩ := h
      exact ⟨q, vs, g1, old q g2, g3⟩
end
/-! ### statements -/
inductive OutN where
  | nx (ρ : List Sl)
  | rt (x : DV)
/-- where a statement stands: H0 the heap at the def's entry -/
structure NBd (c : Ct) (u : Addr) (ρ : List Sl) (n : Nat) (σ : L2.St) (H B0 H0 B : Hp) : Prop where
  ex : Ex B0 H0
  hb0 : B0 u = none
  h0 : H0 u ≠ none
  st : StepN u n B0 H0 B H
  en : EnvOk c H0 B H σ ρ
theorem NBd.N {c : Ct} {u : Addr} {ρ : List Sl} {n : Nat} {σ : L2.St} {H B0 H0 B : Hp} (h : NBd c u ρ n σ H B0 H0 B) : NSt c u ρ n σ H H0 B := ⟨h.st.t, h.en, (h.st.urn h.hb0).1, h.h0, (h.st.urn h.hb0).2⟩
theorem NBd.back {c : Ct} {u : Addr} {ρ : List Sl} {n : Nat} {σ : L2.St} {H B0 H0 B : Hp} (h : NBd c u ρ n σ H B0 H0 B) : ∀ p, H p = none → H0 p = none := fun p hp => by
  obtain ⟨o, _, st⟩ := h.st
  have ex : Ex B0 (upd H0 u o) := fun a w q => by
    rw [upd_ne (fun z => by rw [z, h.hb0] at q; cases q)]
    exact h.ex a w q
  have := DL.back ex st p hp
  by_cases z : p = u
  · rw [z, upd_same] at this
    cases this
  · rw [upd_ne z] at this
    exact this
theorem NBd.to {c : Ct} {u : Addr} {ρ ρ' : List Sl} {n n' : Nat} {σ σ' : L2.St} {H B0 H0 B H' B' : Hp} (h : NBd c u ρ n σ H B0 H0 B) (s : StepN u n' B H B' H') (e : EnvOk c H0 B' H' σ' ρ') : NBd c u ρ' n' σ' H' B0 H0 B' := ⟨h.ex, h.hb0, h.h0, h.st.trans h.hb0 s, e⟩
def tSN (c : Ct) (u : Addr) (ρ : List Sl) (n : Nat) (Φ : OutN → Nat → Prop) : TS := fun D σ H => ∃ B0 H0 B, NBd c u ρ n σ H B0 H0 B ∧
  (∀ σ' B' H' ρ' n', NBd c u ρ' n' σ' H' B0 H0 B' → Ex B B' → Φ (.nx ρ') n' → D.nx σ' H') ∧ (∀ v B' H' x n', StepN u n' B0 H0 B' H' → Rp c B' v x → Φ (.rt x) n' → D.rt v H')
def StsN (C : Addr) (X : Cx) (u : Addr) (sts : List Stmt) (ρ : List Sl) (n : Nat) (Φ : OutN → Nat → Prop) : Prop := PSs X sts (tSN (ct X C) u ρ n Φ)
def ThenN (C : Addr) (X : Cx) (u : Addr) (ss : List Stmt) (Φ : OutN → Nat → Prop) : OutN → Nat → Prop
  | .nx ρ, n => StsN C X u ss ρ n Φ
  | .rt x, n => Φ (.rt x) n
section
variable {C u : Addr} {X : Cx} {st : Stmt} {ss : List Stmt} {ρ : List Sl} {n n1 n2 : Nat} {Φ Ψ : OutN → Nat → Prop} {pos : Pos} {e c : Expr} {x : DV} {R R1 : DV → Prop}
theorem StsN.mono (h : StsN C X u ss ρ n Ψ) (k : ∀ o m, Ψ o m → Φ o m) : StsN C X u ss ρ n Φ := pss_weak h fun D σ H ⟨B0, H0, B, b, k1, k2⟩ => ⟨B0, H0, B, b, fun σ' B' H' ρ' n' b' eb f => k1 σ' B' H' ρ' n' b' eb (k _ _ f), fun v B' H' x n' s r f => k2 v B' H' x n' s r (k _ _ f)⟩
theorem stsn_nil (h : Φ (.nx ρ) n) : StsN C X u [] ρ n Φ := pss_weak pss_nil fun D σ H ⟨B0, H0, B, b, k1, _⟩ => k1 σ B H ρ n b (Ex.refl B) h
def tThenN (C : Addr) (X : Cx) (u : Addr) (ss : List Stmt) (Φ : OutN → Nat → Prop) : TS := fun D σ H => ∃ ρ n, StsN C X u ss ρ n Φ ∧ tSN (ct X C) u ρ n Φ D σ H
theorem pss_thenN : PSs X ss (tThenN C X u ss Φ) := ⟨fun pins s σ H D I ⟨ρ, n, h, q⟩ => h.run pins s σ H D I q⟩
theorem stsn_cons (h : PS X st (tSN (ct X C) u ρ n (ThenN C X u ss Φ))) : StsN C X u (st :: ss) ρ n Φ := pss_weak (pss_cons h (pss_thenN (C := C) (u := u) (Φ := Φ))) fun D σ H ⟨B0, H0, B, b, k1, k2⟩ =>
  ⟨B0, H0, B, b, fun σ' B' H' ρ' n' b' eb f => ⟨ρ', n', f, B0, H0, B', b', fun σ2 B2 H2 ρ2 n2 b2 eb2 => k1 σ2 B2 H2 ρ2 n2 b2 (eb.trans eb2), k2⟩, fun v B' H' x n' s r f => k2 v B' H' x n' s r f⟩
theorem execs_one (st : Stmt) (env : Env) : execs [st] env = exec st env := by
  rw [execs_cons]
  refine Eq.trans (b := exec st env >>= fun f => pure f) (congrArg (exec st env >>= ·) ?_) (bind_pure _)
  funext f
  cases f <;> rfl
/-- what is plain -/
theorem stsn_pure {Ξ : Out → Prop} (h : Sts C X [st] ρ Ξ) (k : ∀ o, Ξ o → (∃ ρ', o = .nx ρ' ∧ StsN C X u ss ρ' n Φ) ∨ ∃ y, o = .rt y ∧ Φ (.rt y) n) : StsN C X u (st :: ss) ρ n Φ := by
  have h1 : PS X st (tS (ct X C) ρ Ξ) := ⟨fun pins s σ H D I q => by
    have := h.run pins s σ H D I q
    rw [execs_one] at this
    exact this⟩
  refine stsn_cons (ps_weak h1 fun D σ H ⟨B0, H0, B, b, k1, k2⟩ => ?_)
  obtain ⟨o, ho, st⟩ := b.st
  have ex : Ex B0 (upd H0 u o) := fun a w q => by
    rw [upd_ne (fun z => by rw [z, b.hb0] at q; cases q)]
    exact b.ex a w q
  refine ⟨B0, upd H0 u o, B, ex, st, b.en.base b.h0, fun σ' B' H' ρ' s1 eb en f => ?_, fun v B' H' y s1 r f => ?_, fun σ' B' H' ρ' s1 eb en f => ?_, fun σ' B' H' ρ' s1 eb en f => ?_⟩
  · rcases k _ f with ⟨ρ2, e1, hk⟩ | ⟨y, e1, _⟩
    · cases e1
      exact k1 σ' B' H' _ n ⟨b.ex, b.hb0, b.h0, ⟨o, ho, s1⟩, en.unbase⟩ eb hk
    · cases e1
  · rcases k _ f with ⟨ρ2, e1, hk⟩ | ⟨y, e1, hk⟩
    · cases e1
    · cases e1
      exact k2 v B' H' _ n ⟨o, ho, s1⟩ r hk
  · rcases k _ f with ⟨ρ2, e1, hk⟩ | ⟨y, e1, hk⟩ <;> cases e1
  · rcases k _ f with ⟨ρ2, e1, hk⟩ | ⟨y, e1, hk⟩ <;> cases e1
theorem stsn_step {ρ' : List Sl} (h : Sts C X [st] ρ (fun o => o = .nx ρ')) (k : StsN C X u ss ρ' n Φ) : StsN C X u (st :: ss) ρ n Φ := stsn_pure h fun o e => .inl ⟨ρ', e, k⟩
theorem stsn_let (i : Nat) {nm : Str} {p' : Pos} (he : EvN C X u e ρ n n1 R) (k : ∀ y, R y → StsN C X u ss (ρ.set i (.i y)) n1 Φ) (hN : X.N.Nodup) (hi : X.N[i]? = some nm := by rfl) (hx : Loc X.env.scope nm := by first | exact Or.inl rfl | exact Or.inr rfl) (hs : swapsWith e (some (.Name nm p')) pos.line X.env = pure false := by rfl)
    (hf : X.fn nm = true ∨ X.env.scope.names.lookup nm = some .local := by first | exact .inl rfl | exact .inr rfl) : StsN C X u (.Assign [.Name nm p'] e pos :: ss) ρ n Φ :=
  stsn_cons (ps_weak (ps_set hN hi hx he hs hf) fun D σ H ⟨B0, H0, B, b, k1, _⟩ => ⟨H0, B, b.N, fun y v B' H' hy s1 r => k1 _ B' H' _ n1 (b.to s1 ((b.en.stepN b.h0 s1).set i r)) s1.b (k y hy)⟩)
theorem stsn_par (i j : Nat) {f : Expr} {nm m : Str} {px py pt pt2 : Pos} {kt k2 : Nat} {S T : Sl → Prop} (he : EvSN C X u e ρ n n1 S) (hf : EvSN C X u f ρ n1 n2 T) (k : ∀ s t, S s → T t → StsN C X u ss ((ρ.set i s).set j t) n2 Φ) (hN : X.N.Nodup) (hc : X.calm = true := by rfl) (hi : X.N[i]? = some nm := by rfl) (hj : X.N[j]? = some m := by rfl) (hij : i ≠ j := by decide)
    (hx : X.env.scope.names.lookup nm = some .local := by rfl) (hy : X.env.scope.names.lookup m = some .local := by rfl)
    (hw : swappedStores [.Tuple [.Name nm px, .Name m py] kt pt] (.Tuple [e, f] k2 pt2) X.env = pure (some [nm, m]) := by rfl)
    (hs : swapsWithSole [.Tuple [.Name nm px, .Name m py] kt pt] (.Tuple [e, f] k2 pt2) pos.line X.env = pure false := by rfl)
    (h1 : starEach [e, f] X.env = (false, eval e X.env) :: starEach [f] X.env := by rfl) (h2 : starEach [f] X.env = (false, eval f X.env) :: starEach [] X.env := by rfl) :
    StsN C X u (.Assign [.Tuple [.Name nm px, .Name m py] kt pt] (.Tuple [e, f] k2 pt2) pos :: ss) ρ n Φ :=
  stsn_cons (ps_weak (ps_par hc hN hi hj hij hx hy (pa_cons he (pa_cons hf pa_nil h2) h1) hw hs) fun D σ H ⟨B0, H0, B, b, k1, _⟩ => ⟨H0, B, b.N, fun s v B1 H1 hsv s1 r1 => by
    have b1 := b.to s1 (b.en.stepN b.h0 s1)
    refine ⟨H0, B1, b1.N, fun t w B2 H2 htw s2 r2 => ⟨v, w, rfl, ?_⟩⟩
    have hu : ∀ {H : Hp} {m : Nat}, Urn H u m → H u ≠ none := fun ⟨o, h, _⟩ z => by rw [z] at h; cases h
    have e1 := b.en.setSN b.h0 (hu b.N.ur) s1 b.back i r1
    have e2 := e1.setSN b.h0 (hu b1.N.ur) s2 b1.back j r2
    exact k1 _ B2 H2 _ n2 (b1.to s2 e2) (s1.b.trans s2.b) (k s t hsv htw)⟩)
theorem stsn_tupx {es tgs : List Expr} {pt pt2 : Pos} {kt k2 : Nat} {Rs : List DV → Prop} {ρ1 : List DV → List Sl} {m : Nat} (he : EvAN C X u es ρ n n1 Rs) (hg : ∀ xs, Rs xs → EvXs C X tgs ρ xs (ρ1 xs)) (kk : ∀ xs, Rs xs → StsN C X u ss (ρ1 xs) n1 Φ) (hz : ∀ xs, Rs xs → xs.length = m) (hm : m ≤ sizeLine := by decide) (hc : X.calm = true := by rfl) (hl : m = (assignEach tgs X.env).length := by rfl) (hst : (assignEach tgs X.env).findIdx? (·.1) = none := by rfl)
    (hs : swapsWithSole [.Tuple tgs kt pt] (.Tuple es k2 pt2) pos.line X.env = pure false := by rfl) (hw : swappedStores [.Tuple tgs kt pt] (.Tuple es k2 pt2) X.env = pure none := by rfl)
    (h1 : (assignEach [.Tuple tgs kt pt] X.env).map (·.2) = [assign (.Tuple tgs kt pt) X.env] := by rfl) : StsN C X u (.Assign [.Tuple tgs kt pt] (.Tuple es k2 pt2) pos :: ss) ρ n Φ := by
  have gg : PGs X tgs (fun vs σ H Q => ∃ xs, Rs xs ∧ tDXs (ct X C) ρ (ρ1 xs) xs vs σ H Q) := ⟨fun pins s σ H vs us Q I r ⟨xs, hx, q⟩ => (hg xs hx).run pins s σ H vs us Q I r q⟩
  refine stsn_cons (ps_weak (ps_asg (pe_tupF he) (pg_tup hc gg rfl hst) hs hw h1) fun D σ H ⟨B0, H0, B, b, k1, _⟩ => ⟨H0, B, b.N, fun xs vs B1 H1 hxs s1 r1 => ?_⟩)
  have hlen : vs.length = m := (paired_len r1).trans (hz xs hxs)
  refine ⟨by rw [hlen]; exact hm, fun q o hq ho => ?_⟩
  have b1 := b.to s1 (b.en.stepN b.h0 s1)
  have sa := b1.N.aside (o := .frz o (.tup vs)) hq
  have b2 := b1.to sa (b1.en.stepN b1.h0 sa)
  exact ⟨q, vs, rfl, Or.inl (Or.inr ⟨o, upd_same⟩), hlen.trans hl, xs, hxs, H0, B1, b2.N.ex, b2.en, r1, fun σ' e' => k1 _ B1 _ _ n1 (b1.to sa e') s1.b (kk xs hxs)⟩
theorem stsn_if {a b : List Stmt} {T : Bool → Prop} (hc : EvTN C X u c ρ n n1 T) (ha : T true → StsN C X u a ρ n1 (ThenN C X u ss Φ)) (hb : T false → StsN C X u b ρ n1 (ThenN C X u ss Φ)) : StsN C X u (.If c a b pos :: ss) ρ n Φ := by
  have aa : PSs X a (fun D σ H => T true ∧ tSN (ct X C) u ρ n1 (ThenN C X u ss Φ) D σ H) := ⟨fun pins s σ H D I ⟨h, q⟩ => (ha h).run pins s σ H D I q⟩
  have bb : PSs X b (fun D σ H => T false ∧ tSN (ct X C) u ρ n1 (ThenN C X u ss Φ) D σ H) := ⟨fun pins s σ H D I ⟨h, q⟩ => (hb h).run pins s σ H D I q⟩
  refine stsn_cons (ps_weak (ps_if hc aa bb) fun D σ H ⟨B0, H0, B, bd, k1, k2⟩ => ⟨H0, B, bd.N, fun k B' H' hk s1 => ?_⟩)
  have b1 := bd.to s1 (bd.en.stepN bd.h0 s1)
  have t : tSN (ct X C) u ρ n1 (ThenN C X u ss Φ) D σ H' := ⟨B0, H0, B', b1, fun σ2 B2 H2 ρ2 n2 b2 eb2 => k1 σ2 B2 H2 ρ2 n2 b2 (s1.b.trans eb2), k2⟩
  cases k with
  | true => exact iteT ⟨hk, t⟩
  | false => exact iteF ⟨hk, t⟩
theorem stsn_ret (he : EvN C X u e ρ n n1 R) (k : ∀ y, R y → Φ (.rt y) n1) : StsN C X u (.Return (some e) pos :: ss) ρ n Φ :=
  stsn_cons (ps_weak (ps_ret he) fun D σ H ⟨B0, H0, B, b, _, k2⟩ => ⟨H0, B, b.N, fun y v B' H' hy s1 r => k2 v B' H' y n1 (b.st.trans b.hb0 s1) r (k y hy)⟩)
/-- behind a turn -/
def TurnedN (Φ : OutN → Nat → Prop) (W : List Sl → Nat → Prop) : OutN → Nat → Prop
  | .nx ρ, n => W ρ n
  | .rt x, n => Φ (.rt x) n
theorem stsn_for {tg iter : Expr} {body : List Stmt} {T : List D → Prop} (W : List D → Nat → List Sl → Nat → Prop) (post : D → List Sl → List Sl) (hi : EvIN C X u tg iter ρ n n1 T) (h0 : ∀ ds, T ds → W ds 0 ρ n1)
    (hg : ∀ ds i d ρi m, T ds → ds[i]? = some d → W ds i ρi m → ∃ js, EvG C X tg ρi d (post d ρi) js) (hb : ∀ ds i d ρi m, T ds → ds[i]? = some d → W ds i ρi m → StsN C X u body (post d ρi) m (TurnedN Φ (W ds (i + 1)))) (hd : ∀ ds ρn m, T ds → W ds ds.length ρn m → StsN C X u ss ρn m Φ)
    (hc : X.calm = true := by rfl) (hp : PassesOwn (model X.prog X.w) X.A X.env X.xe := by exact PassesOwn.never) (hs : ∀ x, foldedSetIterable iter X.env x = pure x := by intro _; rfl) : StsN C X u (.For tg iter body [] pos :: ss) ρ n Φ := by
  have gg : PG X tg (fun v σ H Q => ∃ ds i d ρi m, (T ds ∧ ds[i]? = some d ∧ W ds i ρi m) ∧ ∃ js, EvG C X tg ρi d (post d ρi) js ∧ tDG (ct X C) ρi (post d ρi) d js v σ H Q) := ⟨fun pins s σ H v w Q I r ⟨ds, i, d, ρi, m, hw, js, hE, q⟩ => hE.run pins s σ H v w Q I r q⟩
  have bb : PSs X body (fun D σ H => ∃ ds i d ρi m, (T ds ∧ ds[i]? = some d ∧ W ds i ρi m) ∧ tSN (ct X C) u (post d ρi) m (TurnedN Φ (W ds (i + 1))) D σ H) := ⟨fun pins s σ H D I ⟨ds, i, d, ρi, m, hw, q⟩ => (hb ds i d ρi m hw.1 hw.2.1 hw.2.2).run pins s σ H D I q⟩
  refine stsn_cons (ps_weak (ps_for hp hc hi gg bb hs) fun D σ H ⟨B0, H0, B, b, k1, k2⟩ => ?_)
  refine ⟨H0, B, b.N, fun ds J B1 H1 hT s1 wd => ?_⟩
  refine for_it (D := D) (g := fun v σ H Q => ∃ ds i d ρi m, (T ds ∧ ds[i]? = some d ∧ W ds i ρi m) ∧ ∃ js, EvG C X tg ρi d (post d ρi) js ∧ tDG (ct X C) ρi (post d ρi) d js v σ H Q) (tb := fun D σ H => ∃ ds i d ρi m, (T ds ∧ ds[i]? = some d ∧ W ds i ρi m) ∧ tSN (ct X C) u (post d ρi) m (TurnedN Φ (W ds (i + 1))) D σ H)
    (n := ds.length) (G := fun H2 => Ex B1 H2) (Y := fun i H2 x H' => ∃ d, ds[i]? = some d ∧ ((H' = H2 ∧ Dt B1 x d) ∨ ∃ T o xs es, x = .ref T ∧ H2 T = none ∧ o.dict = none ∧ H' = upd H2 T (.frz o (.tup xs)) ∧ d = .tuple es ∧ DtAll B1 xs es))
    ⟨fun i H2 hi g => wd.go i H2 hi g, fun H2 g => wd.stop H2 g, fun i H2 x H' hi g y => wd.yld i H2 x H' hi g y⟩
    (fun i σ2 H2 => ∃ B2 ρi m, NBd (ct X C) u ρi m σ2 H2 B0 H0 B2 ∧ Ex B1 B2 ∧ W ds i ρi m) ?_ ?_ ?_ ?_
  · exact ⟨B1, ρ, n1, b.to s1 (b.en.stepN b.h0 s1), Ex.refl _, h0 ds hT⟩
  · rintro i σ2 H2 hi ⟨B2, ρi, m, bi, eb, _⟩
    exact eb.trans bi.st.t
  · rintro i x σ2 H2 H' hi ⟨B2, ρi, m, bi, eb, w⟩ ⟨d, hdi, hy⟩
    obtain ⟨js, hE⟩ := hg ds i d ρi m hT hdi w
    obtain ⟨B3, st3, hx⟩ : ∃ B3, Step B2 H2 B3 H' ∧ Dt B3 x d := by
      rcases hy with ⟨rfl, hx⟩ | ⟨T, o, xs, es, rfl, hT, ho, rfl, rfl, hes⟩
      · exact ⟨B2, Step.refl bi.st.t, dt_mono eb _ _ hx⟩
      · have s3 := Step.new (o := .frz o (.tup xs)) bi.st.t hT
        exact ⟨_, s3, .tup ⟨o, upd_same, ho⟩ (dtall_mono (eb.trans s3.b) _ _ hes)⟩
    have t3 := StepN.of bi.N.ur st3
    have b3 := bi.to t3 (bi.en.stepN bi.h0 t3)
    refine ⟨ds, i, d, ρi, m, ⟨hT, hdi, w⟩, js, hE, H0, B3, b3.N.ex, b3.en, hx, fun σ3 e4 _ _ => ⟨ds, i, d, ρi, m, ⟨hT, hdi, w⟩, B0, H0, B3, bi.to t3 e4, ?_, ?_⟩⟩
    · exact fun σ' B' H'' ρ' n' b4 eb4 f => ⟨B', ρ', n', b4, (eb.trans st3.b).trans eb4, f⟩
    · exact fun v B' H'' x n' s4 r f => k2 v B' H'' x n' s4 r f
  · rintro σ2 H2 ⟨B2, ρi, m, bi, eb, w⟩
    exact k1 σ2 B2 H2 ρi m bi (s1.b.trans eb) (hd ds ρi m hT w)
/-- name.append(e) -/
theorem stsn_app (i : Nat) {nm : Str} {xs : List D} {p1 p2 p3 : Pos} {T : D → Prop} (h : ρ[i]? = some (.ml xs)) (hz : xs.length < sizeLine) (he : EvN C X u e ρ n n1 (fun y => ∃ d, T d ∧ y = .d d)) (k : ∀ d, T d → StsN C X u ss (ρ.set i (.ml (xs ++ [d]))) n1 Φ)
    (hp : PS X (.Expr (.Call (.Attribute (.Name nm p1) "append" p2) [e] [] p3) pos) (tDrop (tBM X.K "list" rAppend (tVar i) (tCons (tN (ct X C) u ρ n n1 (fun y => ∃ d, T d ∧ y = .d d)) tNil)))) :
    StsN C X u (.Expr (.Call (.Attribute (.Name nm p1) "append" p2) [e] [] p3) pos :: ss) ρ n Φ :=
  stsn_cons (ps_weak hp fun D σ H ⟨B0, H0, B, b, k1, _⟩ => by
    obtain ⟨a, vs, ea, h1, h2, h3, h4⟩ := b.en.at_ i _ h
    have ev : σ[i]? = some (some (.ref a)) := EnvOk.val (c := ct X C) (H0 := H0) (B := B) (H := H) ea
    refine ⟨.ref a, ev, .inl ⟨rfl, _, .inl (.inl h3)⟩, H0, B, b.N, fun y v B' H' hy s1 r1 => ?_⟩
    obtain ⟨d, hT, rfl⟩ := hy
    have b1 := b.to s1 (b.en.stepN b.h0 s1)
    obtain ⟨a', vs', ea', g1, g2, g3, g4⟩ := b1.en.at_ i _ h
    rw [ea] at ea'
    cases ea'
    refine ⟨a, vs', v, rfl, rfl, g3, by rw [dtall_len g4]; exact hz, ?_⟩
    have e1 := b1.en.mutate (s' := .ml (xs ++ [d])) h rfl ea ⟨a, _, rfl, g1, g2, upd_same, dtall_append g4 (dtall_one r1)⟩ rfl
    obtain ⟨o, ho, st⟩ := b1.st
    have au : a ≠ u := fun z => b.h0 (z ▸ g2)
    have sm := st.mut (o := .lst (vs' ++ [v])) g1 (by rw [upd_ne au]; exact g2)
    exact k1 σ B' _ _ n1 ⟨b.ex, b.hb0, b.h0, ⟨o, ho, sm⟩, e1⟩ s1.b (k d hT))
end
/-! ### defs -/
def GivesN (m : Nat) (P : DV → Prop) : OutN → Nat → Prop := fun o n => ∃ y, o = .rt y ∧ P y ∧ n ≤ m
theorem fn_N {P : Program} {w : World} {K : PySem.W.Frag} {mg : Str → Option Value} {base : Heap} {C : Addr} {x qual : Str} {st : Stmt} {f : Addr} {fd : FuncData} {N ps : List Str} {k m : Nat} {Pre : List DV → Prop} {Post : List DV → DV → Prop} (F : Fun K x qual st f fd) (S : FnScope N ps (defScope st)) (len : ∀ xs, Pre xs → xs.length + 1 = ps.length)
    (hbody : ∀ (cdv : Value) (A : Around) (outer : List Env) (s : Shared) (H : Hp) (E : XK) (u : Addr) (n : Nat) (xs : List DV), Room k (A.deeper (envOfC qual (defScope st) s.heap.objs.size f cdv)) → n + m ≤ 1000 → Pre xs → StsN C (cxOf CX0 P w K mg base N qual (defScope st) f cdv A outer s H E).nox u (defBody st) (slots0 N.length (.at u :: xs)) n (GivesN (n + m) (Post xs))) :
    FnOk P w K mg base CX0 (k + 1) f fd ps (spN ⟨P, w, K, C⟩ m Pre Post) := by
  refine F.ok S (fun vs H Q E h => ?_) (fun cdv A outer s H vs Q E hr h => ?_)
  · obtain ⟨B, u, n, xs, _, hp, _, _, _, hpre, _⟩ := h
    rw [paired_len hp, List.length_cons]
    exact len xs hpre
  · obtain ⟨B, u, n, xs, ex, hp, hb, hu, hn, hpre, k1⟩ := h
    refine ⟨_, hbody cdv A outer s H E u n xs hr hn hpre, B, H, B, ⟨ex, hb, ?_, .of hu (Step.refl ex), env_start hp⟩, ?_, ?_⟩
    · obtain ⟨o, ho, _⟩ := hu
      rw [ho]
      exact fun z => nomatch z
    · rintro σ' B' H' ρ' n' _ _ ⟨_, q, _⟩
      cases q
    · rintro v B' H' z n' s1 r ⟨y, q, hy, hn'⟩
      cases q
      exact k1 _ v B' H' hy (s1.mono hn') r
end DL
set_option maxRecDepth 100000
set_option maxHeartbeats 4000000
/-! walks, 0: where the defs stand -/
namespace DL
open PySem PySem.Spec PyProof.Rows L2 SlX
def top (i : Nat) : Stmt := PySem.Challenge.pw_lateshown_k15_whole_outputs_of_trees_by.main.body.getD i (.Pass ⟨0, 0, 0, 0⟩)
/-- a def of a class -/
def sub (i j : Nat) : Stmt := match top i with
  | .ClassDef _ _ _ body _ _ _ _ _ _ _ => body.getD j (.Pass ⟨0, 0, 0, 0⟩)
  | _ => .Pass ⟨0, 0, 0, 0⟩
/-- what the module's names are -/
structure Mg (mg : Str → Option Value) : Prop where
  len : mg "len" = none
  isi : mg "isinstance" = none
  int : mg "int" = none
  bool : mg "bool" = none
  tuple : mg "tuple" = none
  list : mg "list" = none
  str : mg "str" = none
  all : mg "all" = none
  any : mg "any" = none
  enum : mg "enumerate" = none
  range : mg "range" = none
  sorted : mg "sorted" = none
  dict : mg "dict" = none
  zip : mg "zip" = none
  set : mg "set" = none
  abs : mg "abs" = none
  max : mg "max" = none
  WRITE : ∃ t, mg "WRITE" = some (.str "write" t)
  FLUSH : ∃ t, mg "FLUSH" = some (.str "flush" t)
  SIGN : ∃ t, mg "SIGN" = some (.str "!" t)
  NOTHING : ∃ t, mg "NOTHING" = some (.str "-" t)
  BLANK : ∃ t, mg "BLANK" = some (.str " " t)
  LETTERS : ∃ t, mg "LETTERS" = some (.str "abcdefghijklmnopqrstuvwxyz" t)
  LONGEST : ∃ t, mg "LONGEST" = some (.int 8 t)
  PAIR : ∃ t, mg "PAIR" = some (.int 2 t)
  SCREEN : ∃ t, mg "SCREEN" = some (.str "" t)
section
variable {P : Program} {w : World} {K : PySem.W.Frag} {mg : Str → Option Value} {base : Heap} {C : Addr} {f : Addr} {fd : FuncData}
/-! ### times_of -/
theorem sc21 : FnScope ["deeds", "deed", "own"] ["deeds", "deed"] (defScope (top 21)) := ⟨rfl, rfl, rfl, by decide +kernel, rfl, by decide +kernel, by decide +kernel⟩
def Shp (d : D) : Prop := SeqAt.shaped d = true
theorem ef_eq {C : Addr} {X : Cx} {e : Expr} {ρ : List Sl} {xs ys : List D} (h : EvF C X e ρ xs) (q : xs = ys) : EvF C X e ρ ys := q ▸ h
def timesOf (ds : List D) (d : D) : Nat := (ds.filter fun y => PyData.eqv y d).length
def rTimesOf : List DV → DV → Prop := fun xs y => ∃ ds d, xs = [.d (.tuple ds), .d d] ∧ (∀ z ∈ ds, Shp z) ∧ Shp d ∧ y = .d (.int (timesOf ds d : Nat))
theorem ok_timesOf (F : Fun K "times_of" "times_of" (top 21) f fd) (M : Mg mg) : FnOk P w K mg base CX0 2 f fd ["deeds", "deed"] (spD ⟨P, w, K, C⟩ rTimesOf) := by
  refine fn_D F sc21 (fun xs y h => by obtain ⟨ds, d, rfl, _⟩ := h; rfl) (fun cdv A outer s H E xs y hr h => ?_)
  obtain ⟨ds, d, rfl, hs, hd, rfl⟩ := h
  refine sts_ret (ev_len_list (EvF.d (ef_eq (ef_lc (own := [("own", 2)]) (ds := ds) (js := [2]) (p := fun y => PyData.eqv y d) (f := fun y => y) rfl sc21.nd (blkOk_by (by rfl)) (by decide)
    (ei_tup (ev_var 0 rfl)) (fun _ _ _ _ _ y _ => eg_name 2 sc21.nd) (fun _ _ _ _ _ y hy => ets_one (et_eq hr (hs y hy) hd rfl (ev_var 2 rfl) (ev_var 1 rfl))) (fun _ _ _ _ _ y _ _ => ev_var 2 rfl)) (by rw [List.map_id']))) M.len) .rt
end
end DL
set_option maxRecDepth 100000
set_option maxHeartbeats 4000000
/-! plain facts about data: well formed, equal, the sorts of data of this program -/
namespace DL
open PySem PySem.Spec PyProof.Rows L2 SlX

/-- texts, whole numbers, truth values, None, lists and tuples of them: n deep -/
structure OkD (n : Nat) (d : D) : Prop where
  lay : d.canLay0 = true
  dp : d.depth ≤ n
theorem OkD.shp {n : Nat} {d : D} (h : OkD n d) (hn : n ≤ 64 := by decide) : SeqAt.shaped d = true := by
  unfold SeqAt.shaped
  rw [h.lay, decide_eq_true (Nat.le_trans h.dp hn)]
  rfl
theorem OkD.mono {n m : Nat} {d : D} (h : OkD n d) (hm : n ≤ m := by decide) : OkD m d := ⟨h.lay, Nat.le_trans h.dp hm⟩
theorem OkD.plain {n : Nat} {d : D} (h : OkD n d) : d.plain = true := PyData.plain_of_canLay0 d h.lay
theorem okD_int {n : Nat} (i : Int) : OkD n (.int i) := ⟨by simp [PyData.canLay0], by simp [PyData.depth]⟩
theorem okD_bool {n : Nat} (b : Bool) : OkD n (.bool b) := ⟨by simp [PyData.canLay0], by simp [PyData.depth]⟩
theorem okD_none {n : Nat} : OkD n .none := ⟨by simp [PyData.canLay0], by simp [PyData.depth]⟩
theorem okD_str {n : Nat} {s : Str} (h : PyData.strOk s = true) : OkD n (.str s) := ⟨by simp [PyData.canLay0, h], by simp [PyData.depth]⟩
theorem layAll_iff : ∀ {xs : List D}, PyData.canLayAll0 xs = true ↔ ∀ x ∈ xs, x.canLay0 = true
  | [] => by simp [PyData.canLayAll0]
  | x :: xs => by rw [PyData.canLayAll0, Bool.and_eq_true, layAll_iff (xs := xs), List.forall_mem_cons]
theorem dpAll_iff {n : Nat} : ∀ {xs : List D}, PyData.depthAll xs ≤ n ↔ ∀ x ∈ xs, x.depth ≤ n
  | [] => by simp [PyData.depthAll]
  | x :: xs => by rw [PyData.depthAll, Nat.max_le, dpAll_iff (xs := xs), List.forall_mem_cons]
theorem okD_tup {n : Nat} {xs : List D} : OkD (n + 1) (.tuple xs) ↔ ∀ x ∈ xs, OkD n x := by
  constructor
  · rintro ⟨h1, h2⟩ x hx
    rw [PyData.canLay0] at h1
    rw [PyData.depth] at h2
    exact ⟨layAll_iff.mp h1 x hx, dpAll_iff.mp (Nat.le_of_succ_le_succ h2) x hx⟩
  · intro h
    refine ⟨?_, ?_⟩
    · rw [PyData.canLay0]
      exact layAll_iff.mpr fun x hx => (h x hx).lay
    · rw [PyData.depth]
      exact Nat.succ_le_succ (dpAll_iff.mpr fun x hx => (h x hx).dp)
theorem okD_list {n : Nat} {xs : List D} : OkD (n + 1) (.list xs) ↔ ∀ x ∈ xs, OkD n x := by
  constructor
  · rintro ⟨h1, h2⟩ x hx
    rw [PyData.canLay0] at h1
    rw [PyData.depth] at h2
    exact ⟨layAll_iff.mp h1 x hx, dpAll_iff.mp (Nat.le_of_succ_le_succ h2) x hx⟩
  · intro h
    refine ⟨?_, ?_⟩
    · rw [PyData.canLay0]
      exact layAll_iff.mpr fun x hx => (h x hx).lay
    · rw [PyData.depth]
      exact Nat.succ_le_succ (dpAll_iff.mpr fun x hx => (h x hx).dp)
/-! ### equal -/
mutual
/-- no truth value in it -/
def clean : D → Bool
  | .none => true
  | .int _ => true
  | .str _ => true
  | .list xs => cleanAll xs
  | .tuple xs => cleanAll xs
  | .bool _ => false
  | .dict _ => false
def cleanAll : List D → Bool
  | [] => true
  | x :: xs => clean x && cleanAll xs
end
mutual
theorem eqv_clean : ∀ (a b : D), clean a = true → clean b = true → (PyData.eqv a b = true ↔ a = b)
  | .none, b, _, hb => by cases b <;> simp [PyData.eqv]
  | .int i, b, _, hb => by
    cases b with
    | bool _ => simp [clean] at hb
    | _ => simp [PyData.eqv]
  | .str i, b, _, hb => by cases b <;> simp [PyData.eqv]
  | .list xs, b, ha, hb => by
    cases b with
    | list ys => simp only [PyData.eqv, PyData.list.injEq]; exact eqvAll_clean xs ys (by simpa [clean] using ha) (by simpa [clean] using hb)
    | _ => simp [PyData.eqv]
  | .tuple xs, b, ha, hb => by
    cases b with
    | tuple ys => simp only [PyData.eqv, PyData.tuple.injEq]; exact eqvAll_clean xs ys (by simpa [clean] using ha) (by simpa [clean] using hb)
    | _ => simp [PyData.eqv]
  | .bool _, _, ha, _ => by simp [clean] at ha
  | .dict _, _, ha, _ => by simp [clean] at ha
theorem eqvAll_clean : ∀ (xs ys : List D), cleanAll xs = true → cleanAll ys = true → (PyData.eqvAll xs ys = true ↔ xs = ys)
  | [], ys, _, _ => by cases ys <;> simp [PyData.eqvAll]
  | x :: xs, [], _, _ => by simp [PyData.eqvAll]
  | x :: xs, y :: ys, ha, hb => by
    simp only [cleanAll, Bool.and_eq_true] at ha hb
    simp only [PyData.eqvAll, Bool.and_eq_true, List.cons.injEq]
    rw [eqv_clean x y ha.1 hb.1, eqvAll_clean xs ys ha.2 hb.2]
end
theorem clean_all : ∀ {xs : List D}, cleanAll xs = true ↔ ∀ x ∈ xs, clean x = true
  | [] => by simp [cleanAll]
  | x :: xs => by rw [cleanAll, Bool.and_eq_true, clean_all (xs := xs), List.forall_mem_cons]
/-- an encoding into data that tells its things apart -/
structure Enc {α : Type} (n : Nat) (f : α → D) : Prop where
  ok : ∀ a, OkD n (f a)
  cl : ∀ a, clean (f a) = true
  inj : ∀ a b, f a = f b → a = b
theorem Enc.eqv {α : Type} [DecidableEq α] {n : Nat} {f : α → D} (h : Enc n f) (a b : α) : PyData.eqv (f a) (f b) = decide (a = b) := by
  rw [Bool.eq_iff_iff, eqv_clean _ _ (h.cl a) (h.cl b), decide_eq_true_eq]
  exact ⟨h.inj a b, fun e => e ▸ rfl⟩
theorem Enc.tup {α : Type} {n : Nat} {f : α → D} (h : Enc n f) : Enc (n + 1) (fun l : List α => .tuple (l.map f)) where
  ok := fun l => okD_tup.mpr fun x hx => by
    obtain ⟨a, _, rfl⟩ := List.mem_map.mp hx
    exact h.ok a
  cl := fun l => by
    show cleanAll _ = true
    refine clean_all.mpr fun x hx => ?_
    obtain ⟨a, _, rfl⟩ := List.mem_map.mp hx
    exact h.cl a
  inj := fun l m e => by
    injection e with e
    exact List.map_inj_right (fun a b q => h.inj a b q) |>.mp e
theorem Enc.list {α : Type} {n : Nat} {f : α → D} (h : Enc n f) : Enc (n + 1) (fun l : List α => .list (l.map f)) where
  ok := fun l => okD_list.mpr fun x hx => by
    obtain ⟨a, _, rfl⟩ := List.mem_map.mp hx
    exact h.ok a
  cl := fun l => by
    show cleanAll _ = true
    refine clean_all.mpr fun x hx => ?_
    obtain ⟨a, _, rfl⟩ := List.mem_map.mp hx
    exact h.cl a
  inj := fun l m e => by
    injection e with e
    exact List.map_inj_right (fun a b q => h.inj a b q) |>.mp e
end DL
set_option maxRecDepth 100000
set_option maxHeartbeats 4000000
/-! walks, 1: small tests -/
namespace DL
open PySem PySem.Spec PyProof.Rows L2 SlX
def letters : List Nat := List.range' 97 26
def LETT : Str := "abcdefghijklmnopqrstuvwxyz"
theorem letters_eq : LETT.cps.toList = letters := by decide +kernel
def nameB (s : Str) : Bool := decide (1 ≤ s.length) && decide (s.length ≤ 8) && s.cps.toList.all fun c => letters.contains c
theorem sign_in (c : Nat) : (!(Builtin.Str.occurrences LETT ⟨#[c]⟩ 0 LETT.length 1).isEmpty) = letters.contains c := by
  rw [Bool.eq_iff_iff, StrLaws.found_iff, List.contains_iff_mem, ← letters_eq, List.mem_iff_getElem?]
  exact ⟨fun ⟨i, h⟩ => ⟨i, (StrLaws.subAt_one LETT c i).mp h⟩, fun ⟨i, h⟩ => ⟨i, (StrLaws.subAt_one LETT c i).mpr h⟩⟩
def isInt : D → Bool
  | .int _ => true
  | _ => false
def isStr : D → Bool
  | .str _ => true
  | _ => false
def isTup : D → Bool
  | .tuple _ => true
  | _ => false
def isLst : D → Bool
  | .list _ => true
  | _ => false
/-- isinstance(d, a built-in class) -/
theorem kit_int {n : Nat} {d : D} (h : OkD n d) : ∃ k1 k2, kitB (tyName d) "int" = some k1 ∧ kitB (tyName d) "bool" = some k2 ∧ isInt d = (k1 && !k2) := by
  cases d with
  | dict _ => exact absurd h.lay (by simp [PyData.canLay0])
  | _ => exact ⟨_, _, rfl, rfl, rfl⟩
theorem kit_str {n : Nat} {d : D} (h : OkD n d) : kitB (tyName d) "str" = some (isStr d) := by
  cases d with
  | dict _ => exact absurd h.lay (by simp [PyData.canLay0])
  | _ => rfl
theorem kit_tup {n : Nat} {d : D} (h : OkD n d) : kitB (tyName d) "tuple" = some (isTup d) := by
  cases d with
  | dict _ => exact absurd h.lay (by simp [PyData.canLay0])
  | _ => rfl
theorem kit_lst {n : Nat} {d : D} (h : OkD n d) : kitB (tyName d) "list" = some (isLst d) := by
  cases d with
  | dict _ => exact absurd h.lay (by simp [PyData.canLay0])
  | _ => rfl
theorem sizeLine_big {n : Nat} (h : n ≤ 1000000) : n ≤ sizeLine := by
  rw [sizeLine_eq]
  exact Nat.le_trans h (by decide)
section
variable {P : Program} {w : World} {K : PySem.W.Frag} {mg : Str → Option Value} {base : Heap} {C : Addr} {f : Addr} {fd : FuncData}
theorem sc7 : FnScope ["value"] ["value"] (defScope (top 7)) := ⟨rfl, rfl, rfl, by decide +kernel, rfl, by decide +kernel, by decide +kernel⟩
def rIsNumber : List DV → DV → Prop := fun xs y => ∃ d, xs = [.d d] ∧ OkD 64 d ∧ y = .d (.bool (isInt d))
theorem ok_isNumber (F : Fun K "is_number" "is_number" (top 7) f fd) (M : Mg mg) : FnOk P w K mg base CX0 1 f fd ["value"] (spD ⟨P, w, K, C⟩ rIsNumber) := by
  refine fn_D F sc7 (fun xs y h => by obtain ⟨d, rfl, _⟩ := h; rfl) (fun cdv A outer s H E xs y hr h => ?_)
  obtain ⟨d, rfl, hn, rfl⟩ := h
  obtain ⟨k1, k2, h1, h2, h3⟩ := kit_int hn
  rw [h3]
  exact sts_ret (ev_and (ev_isi (T := "int") (ev_var 0 rfl) M.isi M.int rfl h1) fun _ => ev_one (ev_not (ev_isi (T := "bool") (ev_var 0 rfl) M.isi M.bool rfl h2))) .rt
def signOk : D → Bool
  | .str y => !(Builtin.Str.occurrences LETT y 0 LETT.length 1).isEmpty
  | _ => false
theorem sc18 : FnScope ["thing", "letter"] ["thing"] (defScope (top 18)) := ⟨rfl, rfl, rfl, by decide +kernel, rfl, by decide +kernel, by decide +kernel⟩
def isName : D → Bool
  | .str s => nameB s
  | _ => false
def Short (d : D) : Prop := ∀ s, d = .str s → s.length ≤ 100
def rIsName : List DV → DV → Prop := fun xs y => ∃ d, xs = [.d d] ∧ OkD 64 d ∧ Short d ∧ y = .d (.bool (isName d))
theorem ok_isName (F : Fun K "is_name" "is_name" (top 18) f fd) (M : Mg mg) : FnOk P w K mg base CX0 1 f fd ["thing"] (spD ⟨P, w, K, C⟩ rIsName) := by
  refine fn_D F sc18 (fun xs y h => by obtain ⟨d, rfl, _⟩ := h; rfl) (fun cdv A outer s H E xs y hr h => ?_)
  obtain ⟨d, rfl, hn, hsh, rfl⟩ := h
  obtain ⟨tL, hL⟩ := M.LONGEST
  obtain ⟨tA, hA⟩ := M.LETTERS
  cases hd : isStr d with
  | false =>
    have e : isName d = (isStr d && false) := by
      rw [hd]
      cases d <;> first | rfl | cases hd
    rw [e]
    exact sts_ret (ev_and (ev_isi (T := "str") (ev_var 0 rfl) M.isi M.str rfl (kit_str hn)) fun z => by rw [hd] at z; cases z) .rt
  | true =>
    cases d with
    | str z =>
      have hz : z.length ≤ sizeLine := sizeLine_big (Nat.le_trans (hsh z rfl) (by decide))
      have e : isName (.str z) = (true && ((decide ((1 : Int) ≤ (z.length : Nat)) && decide (((z.length : Nat) : Int) ≤ 8)) && (z.cps.toList.map fun c => letters.contains c).all id)) := by
        show nameB z = _
        unfold nameB
        rw [Bool.true_and, List.all_map]
        have e1 : decide ((1 : Int) ≤ (z.length : Nat)) = decide (1 ≤ z.length) := by
          apply decide_eq_decide.mpr
          omega
        have e2 : decide (((z.length : Nat) : Int) ≤ 8) = decide (z.length ≤ 8) := by
          apply decide_eq_decide.mpr
          omega
        rw [e1, e2]
        rfl
      have hall : (signs z).map (fun x => PyData.bool (signOk x)) = (z.cps.toList.map fun c => letters.contains c).map .bool := by
        unfold signs
        rw [List.map_map, List.map_map]
        apply List.map_congr_left
        intro c _
        exact congrArg PyData.bool (sign_in c)
      rw [e]
      refine sts_ret (ev_and (ev_isi (T := "str") (ev_var 0 rfl) M.isi M.str rfl rfl) fun _ => ev_and (ev_chain (x := .d (.int 1)) (y := .d (.int (z.length : Nat))) (z := .d (.int 8)) op_le op_le (r2_I0 fun _ => .bl _) (r2_I0 fun _ => .bl _) ev_int (ev_len_str hz (ev_var 0 rfl) M.len) (ev_gint hL)) fun _ => ev_one (ev_all ?_ M.all)) .rt
      refine EvF.d (ef_eq (ef_lcm (own := [("letter", 1)]) (ds := signs z) (js := [1]) (f := fun x => .bool (signOk x)) rfl sc18.nd (blkOk_by (by rfl)) (by decide) (ei_str hz (ev_var 0 rfl)) (fun _ _ _ _ _ y _ => eg_name 1 sc18.nd) (fun _ _ _ _ _ y hy => ?_)) hall)
      obtain ⟨c, _, rfl⟩ := List.mem_map.mp hy
      exact ev_in_sign rfl (ev_var 1 rfl) (ev_gstr hA)
    | _ => cases hd
end
end DL
set_option maxRecDepth 100000
set_option maxHeartbeats 4000000
/-! walks, 2: pairs, lines, deeds -/
namespace DL
open PySem PySem.Spec PyProof.Rows L2 SlX
theorem okD_at {n : Nat} {xs : List D} {i : Int} {d : D} (h : OkD (n + 1) (.tuple xs)) (e : atI xs i = some d) : OkD n d := by
  unfold atI at e
  obtain ⟨j, _, hd⟩ := Option.bind_eq_some_iff.mp e
  exact okD_tup.mp h d (List.mem_of_getElem? hd)
def isPair : D → Bool
  | .tuple xs => decide (xs.length = 2)
  | _ => false
def isLine : D → Bool
  | .tuple [a, .int i] => isName a && decide (0 < i)
  | _ => false
section
variable {P : Program} {w : World} {K : PySem.W.Frag} {mg : Str → Option Value} {base : Heap} {C : Addr} {f : Addr} {fd : FuncData}
theorem sc19 : FnScope ["thing"] ["thing"] (defScope (top 19)) := ⟨rfl, rfl, rfl, by decide +kernel, rfl, by decide +kernel, by decide +kernel⟩
def rIsPair : List DV → DV → Prop := fun xs y => ∃ d, xs = [.d d] ∧ OkD 64 d ∧ y = .d (.bool (isPair d))
theorem ok_isPair (F : Fun K "is_pair" "is_pair" (top 19) f fd) (M : Mg mg) : FnOk P w K mg base CX0 1 f fd ["thing"] (spD ⟨P, w, K, C⟩ rIsPair) := by
  refine fn_D F sc19 (fun xs y h => by obtain ⟨d, rfl, _⟩ := h; rfl) (fun cdv A outer s H E xs y hr h => ?_)
  obtain ⟨d, rfl, hn, rfl⟩ := h
  obtain ⟨tP, hP⟩ := M.PAIR
  cases hd : isTup d with
  | false =>
    have e : isPair d = (isTup d && false) := by
      rw [hd]
      cases d <;> first | rfl | cases hd
    rw [e]
    exact sts_ret (ev_and (ev_isi (T := "tuple") (ev_var 0 rfl) M.isi M.tuple rfl (kit_tup hn)) fun z => by rw [hd] at z; cases z) .rt
  | true =>
    cases d with
    | tuple xs =>
      refine sts_ret (x := .d (.bool (true && isPair (.tuple xs)))) (ev_and (ev_isi (T := "tuple") (ev_var 0 rfl) M.isi M.tuple rfl rfl) fun _ => ev_one (ev_eq (n := 0) hr (okD_int (n := 0) _).shp (okD_int (n := 0) _).shp ?_ (ev_len_tup (ev_var 0 rfl) M.len) (ev_gint hP))) .rt
      show ((xs.length : Int) == 2) = decide (xs.length = 2)
      rw [Bool.eq_iff_iff, beq_iff_eq, decide_eq_true_eq]
      omega
    | _ => cases hd
theorem sc20 : FnScope ["thing"] ["thing"] (defScope (top 20)) := ⟨rfl, rfl, rfl, by decide +kernel, rfl, by decide +kernel, by decide +kernel⟩
/-- what is_line can be asked -/
structure AskLine (d : D) : Prop where
  ok : OkD 64 d
  sh : ∀ xs, d = .tuple xs → ∀ x ∈ xs, Short x
def rIsLine : List DV → DV → Prop := fun xs y => ∃ d, xs = [.d d] ∧ AskLine d ∧ y = .d (.bool (isLine d))
theorem ok_isLine (F : Fun K "is_line" "is_line" (top 20) f fd) (M : Mg mg) (G1 : Gf P w K mg base "is_pair" 1 (spD ⟨P, w, K, C⟩ rIsPair)) (G2 : Gf P w K mg base "is_name" 1 (spD ⟨P, w, K, C⟩ rIsName)) (G3 : Gf P w K mg base "is_number" 1 (spD ⟨P, w, K, C⟩ rIsNumber)) :
    FnOk P w K mg base CX0 2 f fd ["thing"] (spD ⟨P, w, K, C⟩ rIsLine) := by
  refine fn_D F sc20 (fun xs y h => by obtain ⟨d, rfl, _⟩ := h; rfl) (fun cdv A outer s H E xs y hr h => ?_)
  obtain ⟨d, rfl, ⟨hn, hsh⟩, rfl⟩ := h
  by_cases hp : isPair d = true
  · obtain ⟨a, b, rfl⟩ : ∃ a b, d = .tuple [a, b] := by
      cases d with
      | tuple xs =>
        have h2 : xs.length = 2 := of_decide_eq_true hp
        match xs, h2 with
        | [a, b], _ => exact ⟨a, b, rfl⟩
      | _ => cases hp
    have h0 : OkD 63 a := okD_tup.mp hn a (by simp)
    have h1 : OkD 63 b := okD_tup.mp hn b (by simp)
    have s0 : Short a := hsh _ rfl a (by simp)
    have e : isLine (.tuple [a, b]) = (true && (isName a && (isInt b && isLine (.tuple [a, b])))) := by
      cases b with
      | int i => cases hna : isName a <;> simp [isLine, hna, isInt]
      | _ => simp [isLine, isInt]
    rw [e]
    refine sts_ret (ev_and (hp ▸ ev_call G1 hr (ea_cons (ev_var 0 rfl) ea_nil) ⟨_, rfl, hn, rfl⟩) fun _ => ev_and (ev_call G2 hr (ea_cons (ev_ix_tup (i := 0) (d := a) rfl (ev_var 0 rfl) ev_int) ea_nil) ⟨_, rfl, h0.mono, s0, rfl⟩) fun hna => ev_and (ev_call G3 hr (ea_cons (ev_ix_tup (i := 1) (d := b) rfl (ev_var 0 rfl) ev_int) ea_nil) ⟨_, rfl, h1.mono, rfl⟩) fun hb => ev_one ?_) .rt
    cases b with
    | int i =>
      have e2 : isLine (.tuple [a, .int i]) = decide (0 < i) := by simp [isLine, hna]
      rw [e2]
      exact ev_gt (ev_ix_tup (i := 1) (d := .int i) rfl (ev_var 0 rfl) ev_int) ev_int
    | _ => cases hb
  · have hp' : isPair d = false := Bool.eq_false_iff.mpr hp
    have e : isLine d = (isPair d && false) := by
      rw [Bool.and_false]
      cases d with
      | tuple xs =>
        match xs with
        | [a, b] => cases hp'
        | [] => rfl
        | [a] => rfl
        | a :: b :: c :: r => simp [isLine]
      | _ => rfl
    rw [e]
    exact sts_ret (ev_and (ev_call G1 hr (ea_cons (ev_var 0 rfl) ea_nil) ⟨_, rfl, hn, rfl⟩) fun z => by rw [hp'] at z; cases z) .rt
end
end DL
set_option maxRecDepth 100000
set_option maxHeartbeats 4000000
/-! names, deeds, lines, trees, as data -/
namespace DL
open PySem PySem.Spec PyProof.Rows L2 SlX

abbrev Nm := { s : Str // nameB s = true }
abbrev Deed := Bool × Nm
abbrev Line := Nm × Nat
abbrev Tree := List (Nm × Option Nm)
theorem name_ok {s : Str} (h : nameB s = true) : PyData.strOk s = true := by
  unfold nameB at h
  simp only [Bool.and_eq_true, List.all_eq_true, List.contains_iff_mem] at h
  unfold PyData.strOk
  rw [← Array.all_toList, List.all_eq_true]
  intro c hc
  have := h.2 c hc
  unfold letters at this
  rw [List.mem_range'] at this
  obtain ⟨i, hi, rfl⟩ := this
  simp
  omega
theorem name_len {s : Str} (h : nameB s = true) : 1 ≤ s.length ∧ s.length ≤ 8 := by
  unfold nameB at h
  simp only [Bool.and_eq_true, decide_eq_true_eq] at h
  exact h.1
theorem strOk_empty : PyData.strOk "" = true := by decide +kernel
theorem strOk_write : PyData.strOk "write" = true := by decide +kernel
theorem strOk_flush : PyData.strOk "flush" = true := by decide +kernel
def wordS (b : Bool) : Str := if b = true then "write" else "flush"
theorem wordS_ok (b : Bool) : PyData.strOk (wordS b) = true := by cases b <;> decide +kernel
theorem wordS_inj : ∀ a b : Bool, wordS a = wordS b → a = b := by decide +kernel
def nmD (s : Nm) : D := .str s.1
def upS : Option Nm → Str
  | none => ""
  | some s => s.1
theorem upS_ok (o : Option Nm) : PyData.strOk (upS o) = true := by
  cases o with
  | none => exact strOk_empty
  | some s => exact name_ok s.2
theorem nm_ne (s : Nm) : s.1 ≠ "" := fun e => by
  have := (name_len s.2).1
  rw [e] at this
  exact absurd this (by decide)
theorem upS_inj : ∀ a b : Option Nm, upS a = upS b → a = b
  | none, none, _ => rfl
  | none, some s, e => absurd e.symm (nm_ne s)
  | some s, none, e => absurd e (nm_ne s)
  | some s, some t, e => congrArg some (Subtype.ext e)
def deedD (d : Deed) : D := .tuple [.str (wordS d.1), .str d.2.1]
def lineD (l : Line) : D := .tuple [.str l.1.1, .int (l.2 : Nat)]
def edgeD (p : Nm × Option Nm) : D := pairD (p.1.1, .str (upS p.2))
def treeD (t : Tree) : D := .tuple (t.map edgeD)
def deedsD (ds : List Deed) : D := .tuple (ds.map deedD)
def linesD (ls : List Line) : D := .tuple (ls.map lineD)
theorem pair_ok {n : Nat} {a b : D} (h1 : OkD n a) (h2 : OkD n b) : OkD (n + 1) (.tuple [a, b]) := okD_tup.mpr fun x hx => by
  rcases List.mem_cons.mp hx with rfl | hx
  · exact h1
  · rw [List.mem_singleton.mp hx]
    exact h2
theorem pair_clean {a b : D} (h1 : clean a = true) (h2 : clean b = true) : clean (.tuple [a, b]) = true := by
  simp [clean, cleanAll, h1, h2]
theorem enc_nm {n : Nat} : Enc n nmD where
  ok := fun a => okD_str (name_ok a.2)
  cl := fun a => rfl
  inj := fun a b e => by
    injection e with e
    exact Subtype.ext e
theorem enc_deed {n : Nat} : Enc (n + 1) deedD where
  ok := fun a => pair_ok (okD_str (wordS_ok _)) (okD_str (name_ok a.2.2))
  cl := fun a => pair_clean rfl rfl
  inj := fun a b e => by
    injection e with e
    injection e with e1 e2
    injection e2 with e2 _
    injection e1 with e1
    injection e2 with e2
    exact Prod.ext (wordS_inj _ _ e1) (Subtype.ext e2)
theorem enc_line {n : Nat} : Enc (n + 1) lineD where
  ok := fun a => pair_ok (okD_str (name_ok a.1.2)) (okD_int _)
  cl := fun a => pair_clean rfl rfl
  inj := fun a b e => by
    injection e with e
    injection e with e1 e2
    injection e2 with e2 _
    injection e1 with e1
    injection e2 with e2
    exact Prod.ext (Subtype.ext e1) (Int.ofNat.inj e2)
theorem enc_edge {n : Nat} : Enc (n + 1) edgeD where
  ok := fun a => pair_ok (okD_str (name_ok a.1.2)) (okD_str (upS_ok _))
  cl := fun a => pair_clean rfl rfl
  inj := fun a b e => by
    have e : PyData.tuple [.str a.1.1, .str (upS a.2)] = .tuple [.str b.1.1, .str (upS b.2)] := e
    injection e with e
    injection e with e1 e2
    injection e2 with e2 _
    injection e1 with e1
    injection e2 with e2
    exact Prod.ext (Subtype.ext e1) (upS_inj _ _ e2)
theorem enc_deeds {n : Nat} : Enc (n + 2) deedsD := enc_deed.tup
theorem enc_lines {n : Nat} : Enc (n + 2) linesD := enc_line.tup
theorem enc_tree {n : Nat} : Enc (n + 2) treeD := enc_edge.tup
/-- parts of data -/
def dAt (d : D) (i : Nat) : D := match d with
  | .tuple xs => xs.getD i .none
  | .list xs => xs.getD i .none
  | _ => .none
theorem mem_enumD {xs : List D} {d : D} (h : d ∈ enumD xs) : ∃ i x, xs[i]? = some x ∧ d = .tuple [.int (i : Nat), x] := by
  unfold enumD at h
  obtain ⟨⟨x, i⟩, hp, rfl⟩ := List.mem_map.mp h
  rw [List.mk_mem_zipIdx_iff_getElem?] at hp
  exact ⟨i, x, hp, rfl⟩
theorem atI_natD {α : Type} {xs : List α} {i : Nat} {x : α} (h : xs[i]? = some x) : atI xs (i : Int) = some x := atI_nat h
end DL
set_option maxRecDepth 100000
set_option maxHeartbeats 4000000
/-! walks, 3: numbered, deed_in -/
namespace DL
open PySem PySem.Spec PyProof.Rows L2 SlX

/-! ### slices in plain words -/
theorem cut_to {α : Type} (xs : List α) (k : Nat) : cutD xs none (some (k : Int)) = xs.take k := by
  unfold cutD
  rw [HT.sIx_none, HT.sIx_nat, List.drop_zero, Nat.sub_zero]
  by_cases h : k ≤ xs.length
  · rw [Nat.min_eq_left h]
  · rw [Nat.min_eq_right (by omega), List.take_length, List.take_of_length_le (by omega)]
theorem cut_from {α : Type} (xs : List α) (k : Nat) : cutD xs (some (k : Int)) none = xs.drop k := by
  unfold cutD
  rw [HT.sIx_none, HT.sIx_nat]
  by_cases h : k ≤ xs.length
  · rw [Nat.min_eq_left h, List.take_of_length_le (by rw [List.length_drop]; exact Nat.le_refl _)]
  · rw [Nat.min_eq_right (by omega), Nat.sub_self, List.drop_eq_nil_of_le (by omega : xs.length ≤ k)]
    simp
theorem cut_mid {α : Type} (xs : List α) (j k : Nat) : cutD xs (some (j : Int)) (some (k : Int)) = (xs.drop j).take (k - j) := by
  unfold cutD
  rw [HT.sIx_nat, HT.sIx_nat]
  by_cases h : j ≤ xs.length
  · rw [Nat.min_eq_left h]
    by_cases h2 : k ≤ xs.length
    · rw [Nat.min_eq_left h2]
    · rw [Nat.min_eq_right (by omega), List.take_of_length_le (by rw [List.length_drop]; exact Nat.le_refl _), List.take_of_length_le (by rw [List.length_drop]; omega)]
  · rw [Nat.min_eq_right (by omega : xs.length ≤ j), List.drop_eq_nil_of_le (Nat.le_refl _), List.drop_eq_nil_of_le (by omega : xs.length ≤ j)]
    simp
theorem cut_init {α : Type} (xs : List α) : cutD xs none (some (-1)) = xs.take (xs.length - 1) := by
  have e : HT.sIx xs.length xs.length (some (-1)) = xs.length - 1 := by
    show (if (-1 : Int) < 0 then (-1 + (xs.length : Int)).toNat else min (-1 : Int).toNat xs.length) = xs.length - 1
    rw [if_pos (by decide)]
    omega
  unfold cutD
  rw [e, HT.sIx_none, List.drop_zero, Nat.sub_zero]
/-! ### models -/
instance : Inhabited Nm := ⟨⟨"a", by decide +kernel⟩⟩
/-- the places of the writes -/
def isW (ds : List Deed) (i : Nat) : Bool := match ds[i]? with
  | some d => d.1
  | none => false
def wr (ds : List Deed) : List Nat := (List.range ds.length).filter (isW ds)
def cnt (ds : List Deed) (d : Deed) : Nat := (ds.filter fun x => decide (x = d)).length
def lnAt (ds : List Deed) (i : Nat) : Line := match ds[i]? with
  | some d => (d.2, cnt (ds.take (i + 1)) d)
  | none => default
/-- the lines, by birth -/
def numb (ds : List Deed) : List Line := (wr ds).map (lnAt ds)
def intsD (l : List Nat) : List D := l.map fun (i : Nat) => .int (i : Int)
theorem enumD_range {α : Type} (g : α → D) (xs : List α) : enumD (xs.map g) = (List.range xs.length).map fun i => .tuple [.int (i : Nat), (xs[i]?.map g).getD .none] := by
  apply List.ext_getElem?
  intro i
  by_cases h : i < xs.length
  · rw [enumD_get (d := g xs[i]) (by simp [h]), List.getElem?_map, List.getElem?_range h]
    simp [h]
  · rw [List.getElem?_eq_none (by rw [enumD_len, List.length_map]; omega), List.getElem?_eq_none (by simp; omega)]
/-- is an item of enumerate(deeds) a write? -/
def enW (d : D) : Bool := PyData.eqv (dAt (dAt d 1) 0) (.str "write")
theorem word_eq (b : Bool) : PyData.eqv (.str (wordS b)) (.str "write") = b := by
  cases b <;> decide +kernel
theorem places_eq (ds : List Deed) : ((enumD (ds.map deedD)).filter enW).map (fun d => dAt d 0) = intsD (wr ds) := by
  rw [enumD_range, List.filter_map, List.map_map]
  unfold intsD wr
  have e : (List.range ds.length).filter (enW ∘ fun i => .tuple [.int (i : Nat), (ds[i]?.map deedD).getD .none]) = (List.range ds.length).filter (isW ds) := by
    apply List.filter_congr
    intro i hi
    have hl := List.mem_range.mp hi
    show PyData.eqv (dAt ((ds[i]?.map deedD).getD .none) 0) (.str "write") = isW ds i
    unfold isW
    rw [List.getElem?_eq_getElem hl]
    exact word_eq _
  rw [e]
  rfl
theorem mem_wr {ds : List Deed} {i : Nat} : i ∈ wr ds ↔ ∃ s, ds[i]? = some (true, s) := by
  unfold wr isW
  rw [List.mem_filter, List.mem_range]
  constructor
  · rintro ⟨h1, h2⟩
    rw [List.getElem?_eq_getElem h1] at h2 ⊢
    exact ⟨_, congrArg some (Prod.ext h2 rfl)⟩
  · rintro ⟨s, h⟩
    refine ⟨(List.getElem?_eq_some_iff.mp h).1, ?_⟩
    rw [h]
theorem timesOf_eq (ds : List Deed) (d : Deed) : timesOf (ds.map deedD) (deedD d) = cnt ds d := by
  unfold timesOf cnt
  rw [List.filter_map, List.length_map]
  congr 1
  apply List.filter_congr
  intro x _
  exact enc_deed (n := 0) |>.eqv x d
section
variable {P : Program} {w : World} {K : PySem.W.Frag} {mg : Str → Option Value} {base : Heap} {C : Addr} {f : Addr} {fd : FuncData}
theorem sc22 : FnScope ["deeds", "place", "word", "stream", "places"] ["deeds"] (defScope (top 22)) := ⟨rfl, rfl, rfl, by decide +kernel, rfl, by decide +kernel, by decide +kernel⟩
def rNumbered : List DV → DV → Prop := fun xs y => ∃ ds, xs = [.d (deedsD ds)] ∧ ds.length ≤ 1000 ∧ y = .d (linesD (numb ds))
def lineOf (ds : List Deed) (d : D) : D := match d with
  | .int i => lineD (lnAt ds i.toNat)
  | _ => .none
theorem ok_numbered (F : Fun K "numbered" "numbered" (top 22) f fd) (M : Mg mg) (G1 : Gf P w K mg base "times_of" 2 (spD ⟨P, w, K, C⟩ rTimesOf)) : FnOk P w K mg base CX0 3 f fd ["deeds"] (spD ⟨P, w, K, C⟩ rNumbered) := by
  refine fn_D F sc22 (fun xs y h => by obtain ⟨d, rfl, _⟩ := h; rfl) (fun cdv A outer s H E xs y hr h => ?_)
  obtain ⟨ds, rfl, hlen, rfl⟩ := h
  obtain ⟨tW, hW⟩ := M.WRITE
  refine sts_lc 4 (own := [("place", 1), ("word", 2), ("stream", 3)]) (ds := enumD (ds.map deedD)) (js := [1, 2, 3]) (p := enW) (f := fun d => dAt d 0)
    (ρ' := fun d => [.i (.d (deedsD ds)), .i (.d (dAt d 0)), .i (.d (dAt (dAt d 1) 0)), .i (.d (dAt (dAt d 1) 1)), .no]) rfl sc22.nd (blkOk_by (by rfl)) (by decide) (ei_enumT M.enum (ev_var 0 rfl)) (fun _ _ _ _ _ d hd => ?_) (fun _ _ _ _ _ d hd => ?_) (fun _ _ _ _ _ d hd _ => ev_var 1 rfl) (places_eq ds) ?_
  · obtain ⟨i, x, hx, rfl⟩ := mem_enumD hd
    obtain ⟨y, hy, rfl⟩ := Option.map_eq_some_iff.mp (by rw [← List.getElem?_map]; exact hx)
    exact eg_tup rfl (egs_cons (eg_name 1 sc22.nd) (egs_cons (eg_tup rfl (egs_cons (eg_name 2 sc22.nd) (egs_cons (eg_name 3 sc22.nd) egs_nil))) egs_nil))
  · obtain ⟨i, x, hx, rfl⟩ := mem_enumD hd
    obtain ⟨y, hy, rfl⟩ := Option.map_eq_some_iff.mp (by rw [← List.getElem?_map]; exact hx)
    exact ets_one (et_eq hr (okD_str (n := 0) (wordS_ok _)).shp (okD_str (n := 0) strOk_write).shp rfl (ev_var 2 rfl) (ev_gstr hW))
  refine sts_ret (ev_tuple_list (EvF.d (ef_eq (ef_lcm (own := [("place", 1)]) (ds := intsD (wr ds)) (js := [1]) (f := lineOf ds) rfl sc22.nd (blkOk_by (by rfl)) (by decide) (ei_list (ev_var 4 rfl)) (fun _ _ _ _ _ d hd => eg_name 1 sc22.nd) (fun _ _ _ _ _ d hd => ?_)) ?_)) M.tuple) .rt
  · obtain ⟨i, hi, rfl⟩ := List.mem_map.mp hd
    obtain ⟨s, hs⟩ := mem_wr.mp hi
    have hsD : (ds.map deedD)[i]? = some (deedD (true, s)) := by rw [List.getElem?_map, hs]; rfl
    have hat : ∀ {X : Cx} {ρ : List Sl} {j k : Nat} {n1 n2 : Str} {p1 p2 p3 : Pos}, Ev C X (.Name n1 p1) ρ (.d (deedsD ds)) → Ev C X (.Name n2 p2) ρ (.d (.int (i : Nat))) → Ev C X (.Subscript (.Name n1 p1) (.Name n2 p2) p3) ρ (.d (deedD (true, s))) := fun h1 h2 => ev_ix_tup (atI_nat hsD) h1 h2
    have e : lineOf ds (.int (i : Nat)) = .tuple [.str s.1, .int ((timesOf ((ds.take (i + 1)).map deedD) (deedD (true, s)) : Nat))] := by
      show lineD (lnAt ds i) = _
      unfold lnAt
      rw [hs, timesOf_eq]
      rfl
    rw [e]
    refine ev_pair (ev_ix_tup (i := 1) (d := .str s.1) rfl (hat (j := 0) (k := 0) (ev_var 0 rfl) (ev_var 1 rfl)) ev_int) (ev_call G1 (hr.mono (by decide)) (ea_cons (ev_sl_tup (ev_var 0 rfl) eo_none (eo_some (ev_add (ev_var 1 rfl) ev_int))) (ea_cons (hat (j := 0) (k := 0) (ev_var 0 rfl) (ev_var 1 rfl)) ea_nil)) ⟨(ds.take (i + 1)).map deedD, deedD (true, s), ?_, fun z hz => ?_, ?_, rfl⟩)
    · have : cutD (ds.map deedD) none (some ((i : Int) + 1)) = (ds.take (i + 1)).map deedD := by
        rw [List.map_take]
        exact cut_to _ (i + 1)
      rw [this]
    · obtain ⟨y, _, rfl⟩ := List.mem_map.mp hz
      exact (enc_deed (n := 0)).ok y |>.shp
    · exact (enc_deed (n := 0)).ok _ |>.shp
  · unfold intsD numb
    rw [List.map_map, List.map_map]
    rfl
end
end DL
set_option maxRecDepth 100000
set_option maxHeartbeats 4000000
/-! walks, 4: tupled, _law_lists -/
namespace DL
open PySem PySem.Spec PyProof.Rows L2 SlX
mutual
/-- lists become tuples, at every depth -/
def tupD : D → D
  | .list xs => .tuple (tupDs xs)
  | .tuple xs => .tuple (tupDs xs)
  | .none => .none
  | .bool b => .bool b
  | .int i => .int i
  | .str s => .str s
  | .dict kvs => .dict kvs
def tupDs : List D → List D
  | [] => []
  | x :: xs => tupD x :: tupDs xs
end
mutual
/-- tuples become lists -/
def lisD : D → D
  | .list xs => .list (lisDs xs)
  | .tuple xs => .list (lisDs xs)
  | .none => .none
  | .bool b => .bool b
  | .int i => .int i
  | .str s => .str s
  | .dict kvs => .dict kvs
def lisDs : List D → List D
  | [] => []
  | x :: xs => lisD x :: lisDs xs
end
theorem tupDs_eq : ∀ xs : List D, tupDs xs = xs.map tupD
  | [] => rfl
  | x :: xs => by rw [tupDs, tupDs_eq xs, List.map_cons]
theorem lisDs_eq : ∀ xs : List D, lisDs xs = xs.map lisD
  | [] => rfl
  | x :: xs => by rw [lisDs, lisDs_eq xs, List.map_cons]
theorem kit_seq {n : Nat} {d : D} (h : OkD n d) : ∃ k1 k2, kitB (tyName d) "list" = some k1 ∧ kitB (tyName d) "tuple" = some k2 ∧ (k1 || k2) = (isLst d || isTup d) := ⟨_, _, kit_lst h, kit_tup h, rfl⟩
section
variable {P : Program} {w : World} {K : PySem.W.Frag} {mg : Str → Option Value} {base : Heap} {C : Addr} {f : Addr} {fd : FuncData}
theorem sc8 : FnScope ["value", "part"] ["value"] (defScope (top 8)) := ⟨rfl, rfl, rfl, by decide +kernel, rfl, by decide +kernel, by decide +kernel⟩
def rTupled (n : Nat) : List DV → DV → Prop := fun xs y => ∃ d, xs = [.d d] ∧ OkD n d ∧ y = .d (tupD d)
theorem ok_tupled (F : Fun K "tupled" "tupled" (top 8) f fd) (M : Mg mg) (n : Nat) (hn : n ≤ 60) (G : ∀ m, m + 1 = n → Gf P w K mg base "tupled" (m + 1) (spD ⟨P, w, K, C⟩ (rTupled m))) : FnOk P w K mg base CX0 (n + 1) f fd ["value"] (spD ⟨P, w, K, C⟩ (rTupled n)) := by
  refine fn_D F sc8 (fun xs y h => by obtain ⟨d, rfl, _⟩ := h; rfl) (fun cdv A outer s H E xs y hr h => ?_)
  obtain ⟨d, rfl, hd, rfl⟩ := h
  refine sts_ret (ev_if (et_val (ev_isi2 (p5 := ⟨0, 0, 0, 0⟩) (T := "list") (U := "tuple") (ev_var 0 rfl) M.isi M.list rfl M.tuple rfl (kit_seq hd))) (fun hk => ?_) (fun hk => ?_)) .rt
  · have key : ∃ (t : Bool) (xs : List D), d = seqD t xs := by
      cases d with
      | list xs => exact ⟨false, xs, rfl⟩
      | tuple xs => exact ⟨true, xs, rfl⟩
      | _ => cases hk
    obtain ⟨t, xs, rfl⟩ := key
    obtain ⟨m, rfl⟩ : ∃ m, n = m + 1 := by
      cases n with
      | zero =>
        have := hd.dp
        cases t <;> simp [seqD, PyData.depth] at this
      | succ m => exact ⟨m, rfl⟩
    have hall : ∀ x ∈ xs, OkD m x := by
      cases t with
      | true => exact okD_tup.mp hd
      | false => exact okD_list.mp hd
    have e : tupD (seqD t xs) = .tuple (xs.map tupD) := by
      cases t with
      | true => show tupD (.tuple xs) = _; rw [tupD, tupDs_eq]
      | false => show tupD (.list xs) = _; rw [tupD, tupDs_eq]
    rw [e]
    refine ev_tuple_list (EvF.d ?_) M.tuple
    have body : ∀ {X : Cx} {ρ : List Sl} (d : D), d ∈ xs → ∀ {p1 p2 p3 : Pos}, Ev C X (.Name "part" p1) ρ (.d d) → Gf X.prog X.w X.K X.mg X.base "tupled" (m + 1) (spD (ct X C) (rTupled m)) → Room (m + 1) X.A → Gl X "tupled" → (starEach [.Name "part" p1] X.env = (false, eval (.Name "part" p1) X.env) :: starEach [] X.env) → ((backTo p3 (starEach [] X.env)).any (·.1) = false) →
        Ev C X (.Call (.Name "tupled" p2) [.Name "part" p1] [] p3) ρ (.d (tupD d)) := fun d hd _ _ _ h1 G hr hg h2 h3 => ev_call G hr (ea_cons h1 ea_nil h2) ⟨d, rfl, hall d hd, rfl⟩ hg (by decide) h2 h3
    cases t with
    | true => exact ef_lcm (own := [("part", 1)]) (ds := xs) (js := [1]) (f := tupD) rfl sc8.nd (blkOk_by (by rfl)) (by decide) (ei_tup (ev_var 0 rfl)) (fun _ _ _ _ _ d _ => eg_name 1 sc8.nd) (fun _ _ _ _ _ d hd => body d hd (ev_var 1 rfl) (G m rfl) hr rfl rfl rfl)
    | false => exact ef_lcm (own := [("part", 1)]) (ds := xs) (js := [1]) (f := tupD) rfl sc8.nd (blkOk_by (by rfl)) (by decide) (ei_list (ev_var 0 rfl)) (fun _ _ _ _ _ d _ => eg_name 1 sc8.nd) (fun _ _ _ _ _ d hd => body d hd (ev_var 1 rfl) (G m rfl) hr rfl rfl rfl)
  · have e : tupD d = d := by
      cases d with
      | list _ => cases hk
      | tuple _ => cases hk
      | _ => rfl
    rw [e]
    exact ev_var 0 rfl
theorem sc47 : FnScope ["_law_thing_so", "_law_bit"] ["_law_thing_so"] (defScope (top 47)) := ⟨rfl, rfl, rfl, by decide +kernel, rfl, by decide +kernel, by decide +kernel⟩
def rLists (n : Nat) : List DV → DV → Prop := fun xs y => ∃ d, xs = [.d d] ∧ OkD n d ∧ y = .d (lisD d)
theorem ok_lists (F : Fun K "_law_lists" "_law_lists" (top 47) f fd) (M : Mg mg) (n : Nat) (hn : n ≤ 60) (G : ∀ m, m + 1 = n → Gf P w K mg base "_law_lists" (m + 1) (spD ⟨P, w, K, C⟩ (rLists m))) : FnOk P w K mg base CX0 (n + 1) f fd ["_law_thing_so"] (spD ⟨P, w, K, C⟩ (rLists n)) := by
  refine fn_D F sc47 (fun xs y h => by obtain ⟨d, rfl, _⟩ := h; rfl) (fun cdv A outer s H E xs y hr h => ?_)
  obtain ⟨d, rfl, hd, rfl⟩ := h
  refine sts_ret (ev_if (et_val (ev_isi2 (p5 := ⟨0, 0, 0, 0⟩) (T := "list") (U := "tuple") (ev_var 0 rfl) M.isi M.list rfl M.tuple rfl (kit_seq hd))) (fun hk => ?_) (fun hk => ?_)) .rt
  · have key : ∃ (t : Bool) (xs : List D), d = seqD t xs := by
      cases d with
      | list xs => exact ⟨false, xs, rfl⟩
      | tuple xs => exact ⟨true, xs, rfl⟩
      | _ => cases hk
    obtain ⟨t, xs, rfl⟩ := key
    obtain ⟨m, rfl⟩ : ∃ m, n = m + 1 := by
      cases n with
      | zero =>
        have := hd.dp
        cases t <;> simp [seqD, PyData.depth] at this
      | succ m => exact ⟨m, rfl⟩
    have hall : ∀ x ∈ xs, OkD m x := by
      cases t with
      | true => exact okD_tup.mp hd
      | false => exact okD_list.mp hd
    have e : lisD (seqD t xs) = .list (xs.map lisD) := by
      cases t with
      | true => show lisD (.tuple xs) = _; rw [lisD, lisDs_eq]
      | false => show lisD (.list xs) = _; rw [lisD, lisDs_eq]
    rw [e]
    refine EvF.d ?_
    have body : ∀ {X : Cx} {ρ : List Sl} (d : D), d ∈ xs → ∀ {p1 p2 p3 : Pos}, Ev C X (.Name "_law_bit" p1) ρ (.d d) → Gf X.prog X.w X.K X.mg X.base "_law_lists" (m + 1) (spD (ct X C) (rLists m)) → Room (m + 1) X.A → Gl X "_law_lists" → (starEach [.Name "_law_bit" p1] X.env = (false, eval (.Name "_law_bit" p1) X.env) :: starEach [] X.env) → ((backTo p3 (starEach [] X.env)).any (·.1) = false) →
        Ev C X (.Call (.Name "_law_lists" p2) [.Name "_law_bit" p1] [] p3) ρ (.d (lisD d)) := fun d hd _ _ _ h1 G hr hg h2 h3 => ev_call G hr (ea_cons h1 ea_nil h2) ⟨d, rfl, hall d hd, rfl⟩ hg (by decide) h2 h3
    cases t with
    | true => exact ef_lcm (own := [("_law_bit", 1)]) (ds := xs) (js := [1]) (f := lisD) rfl sc47.nd (blkOk_by (by rfl)) (by decide) (ei_tup (ev_var 0 rfl)) (fun _ _ _ _ _ d _ => eg_name 1 sc47.nd) (fun _ _ _ _ _ d hd => body d hd (ev_var 1 rfl) (G m rfl) hr rfl rfl rfl)
    | false => exact ef_lcm (own := [("_law_bit", 1)]) (ds := xs) (js := [1]) (f := lisD) rfl sc47.nd (blkOk_by (by rfl)) (by decide) (ei_list (ev_var 0 rfl)) (fun _ _ _ _ _ d _ => eg_name 1 sc47.nd) (fun _ _ _ _ _ d hd => body d hd (ev_var 1 rfl) (G m rfl) hr rfl rfl rfl)
  · have e : lisD d = d := by
      cases d with
      | list _ => cases hk
      | tuple _ => cases hk
      | _ => rfl
    rw [e]
    exact ev_var 0 rfl
end
end DL
set_option maxRecDepth 100000
set_option maxHeartbeats 4000000
/-! walks, 5: the class Program -/
namespace DL
open PySem PySem.Spec PyProof.Rows L2 SlX
section
variable {P : Program} {w : World} {K : PySem.W.Frag} {mg : Str → Option Value} {base : Heap} {C : Addr} {f : Addr} {fd : FuncData}
def rTupled0 (K : PySem.W.Frag) : List DV → DV → Prop := fun xs y => ∃ T, xs = [.at T] ∧ Emp K T ∧ y = .d (.tuple [])
theorem ok_tupled0 (F : Fun K "tupled" "tupled" (top 8) f fd) (M : Mg mg) : FnOk P w K mg base CX0 1 f fd ["value"] (spD ⟨P, w, K, C⟩ (rTupled0 K)) := by
  refine fn_D F sc8 (fun xs y h => by obtain ⟨d, rfl, _⟩ := h; rfl) (fun cdv A outer s H E xs y hr h => ?_)
  obtain ⟨T, rfl, hT, rfl⟩ := h
  refine sts_ret (ev_if (et_val (ev_isiEmp hT (ev_var 0 rfl) M.isi M.list M.tuple)) (fun _ => ?_) (fun hk => by cases hk)) .rt
  exact ev_tuple_list (EvF.d (ef_lcm (own := [("part", 1)]) (ds := []) (js := [1]) (f := fun d => d) rfl sc8.nd (blkOk_by (by rfl)) (by decide) (ei_emp hT (ev_var 0 rfl)) (fun _ _ _ _ _ d _ => eg_name 1 sc8.nd) (fun _ _ _ _ _ d hd => by cases hd))) M.tuple
/-! ### __init__ -/
def rInit (K : PySem.W.Frag) (x : DV) (y : D) : Prop := (∃ d, x = .d d ∧ OkD 10 d ∧ y = tupD d) ∨ ∃ T, x = .at T ∧ Emp K T ∧ y = .tuple []
theorem scI : FnScope ["self", "deeds"] ["self", "deeds"] (defScope (sub 24 1)) := ⟨rfl, rfl, rfl, by decide +kernel, rfl, by decide +kernel, by decide +kernel⟩
theorem ok_init {T : Addr} (F : L2.FunD K "__init__" "Program.__init__" (defArgs (sub 24 1)) (defBody (sub 24 1)) (defScope (sub 24 1)) [.ref T] [] f fd) (M : Mg mg) (hc : PCls K C) (G : Gf P w K mg base "tupled" 11 (spD ⟨P, w, K, C⟩ (rTupled 10))) (G0 : Gf P w K mg base "tupled" 1 (spD ⟨P, w, K, C⟩ (rTupled0 K))) :
    FnOk P w K mg base CX0 12 f fd ["self", "deeds"] (spInit ⟨P, w, K, C⟩ (rInit K)) := by
  refine F.ok scI (fun vs H Q E h => by obtain ⟨B, a, dx, v, x, y, rfl, _⟩ := h; rfl) (fun cdv A outer s H vs Q E hr h => ?_)
  obtain ⟨B, a, dx, v, x, y, rfl, ex, hBa, ha, hne, hv, hR, hq⟩ := h
  obtain ⟨p, hp⟩ := hc.sl
  have en : EnvOk ⟨P, w, K, C⟩ H B H (L2.start ["self", "deeds"] [.ref a, v]) (slots0 2 [.at a, x]) := env_start (c := ⟨P, w, K, C⟩) (.cons rfl (.cons hv .nil))
  have hval : ∀ {p1 p2 p3 : Pos}, Ev C (cxOf CX0 P w K mg base ["self", "deeds"] "Program.__init__" (defScope (sub 24 1)) f cdv A outer s H E) (.Call (.Name "tupled" p1) [.Name "deeds" p2] [] p3) (slots0 2 [.at a, x]) (.d y) := fun {p1 p2 p3} => by
    rcases hR with ⟨d, rfl, hd, rfl⟩ | ⟨T', rfl, hT', rfl⟩
    · exact ev_call G hr (ea_cons (ev_var 1 rfl) ea_nil) ⟨d, rfl, hd, rfl⟩
    · exact ev_call G0 (hr.mono (by decide)) (ea_cons (ev_var 1 rfl) ea_nil) ⟨T', rfl, hT', rfl⟩
  refine ⟨_, pss_cons (ps_sl (pe_var (i := 0) (x := "self") rfl (Or.inl rfl) (by decide) (by decide)) hval) pss_nil, ?_⟩
  refine ⟨H, B, ex, en, fun u B1 H1 s1 hu => ?_⟩
  obtain ⟨n1, e1⟩ := s1.f a _ hBa ha
  exact ⟨.ref a, rfl, a, C, dx, p, [], 0, rfl, .inl ⟨e1, rfl⟩, hc.c, hp, hq u B1 H1 s1 hu⟩
end
end DL
set_option maxRecDepth 100000
set_option maxHeartbeats 4000000
/-! walks, 6: the properties of Program -/
namespace DL
open PySem PySem.Spec PyProof.Rows L2 SlX
/-- each once -/
def ddp {α : Type} [DecidableEq α] : List α → List α
  | [] => []
  | x :: xs => if x ∈ ddp xs then ddp xs else x :: ddp xs
theorem mem_ddp {α : Type} [DecidableEq α] {a : α} : ∀ {l : List α}, a ∈ ddp l ↔ a ∈ l
  | [] => Iff.rfl
  | x :: xs => by
    unfold ddp
    split
    · rename_i h
      rw [mem_ddp (l := xs), List.mem_cons]
      exact ⟨.inr, fun q => q.elim (fun e => e ▸ mem_ddp.mp h) id⟩
    · rw [List.mem_cons, List.mem_cons, mem_ddp (l := xs)]
theorem ddp_nodup {α : Type} [DecidableEq α] : ∀ l : List α, (ddp l).Nodup
  | [] => List.nodup_nil
  | x :: xs => by
    unfold ddp
    split
    · exact ddp_nodup xs
    · rename_i h
      exact List.nodup_cons.mpr ⟨h, ddp_nodup xs⟩
theorem nodup_map {α β : Type} {f : α → β} {l : List α} (h : (l.map f).Nodup) : l.Nodup := by
  rw [List.nodup_iff_pairwise_ne, List.pairwise_map] at h
  exact List.nodup_iff_pairwise_ne.mpr (h.imp fun hne e => hne (congrArg f e))
/-- the names that are written, in order -/
def wnames (ds : List Deed) : List Nm := (ds.filter (·.1)).map (·.2)
def nmLe (a b : Nm) : Bool := PySem.W.dataLe false nmD a b
/-- each once, sorted -/
def strms (ds : List Deed) : List Nm := (ddp (wnames ds)).mergeSort nmLe
theorem mem_strms {ds : List Deed} {a : Nm} : a ∈ strms ds ↔ (true, a) ∈ ds := by
  unfold strms wnames
  rw [List.mem_mergeSort, mem_ddp, List.mem_map]
  constructor
  · rintro ⟨⟨b, s⟩, h, rfl⟩
    rw [List.mem_filter] at h
    have hb : b = true := h.2
    rw [← hb]
    exact h.1
  · intro h
    exact ⟨(true, a), List.mem_filter.mpr ⟨h, rfl⟩, rfl⟩
theorem strms_nodup (ds : List Deed) : (strms ds).Nodup := by
  unfold strms
  rw [(List.mergeSort_perm _ _).nodup_iff]
  exact ddp_nodup _
theorem sort_names (l m : List Nm) (h : l.Perm m) : sortD (l.map nmD) = (m.mergeSort nmLe).map nmD := by
  have e : (m.mergeSort nmLe).map nmD = sortD (m.map nmD) := by
    unfold sortD nmLe
    rw [List.map_mergeSort (r := PySem.W.dataLe false nmD) (s := PySem.W.dataLe false id) (f := nmD) (fun a _ b _ => rfl)]
  rw [e]
  refine sort_perm ?_ (h.map nmD)
  have : l.map nmD = (l.map (·.1)).map PyData.str := by rw [List.map_map]; rfl
  rw [this]
  exact keyInj_strs _
theorem strms_of (ds : List Deed) (ls : List Str) (hn : ls.Nodup) (hm : ∀ x, x ∈ ls ↔ x ∈ (wnames ds).map (·.1)) : sortD (ls.map .str) = ((strms ds).map (·.1)).map .str := by
  have key : ∀ ls : List Str, (∀ x ∈ ls, x ∈ (wnames ds).map (·.1)) → ∃ ns : List Nm, ls = ns.map (·.1) := fun ls => by
    induction ls with
    | nil => exact fun _ => ⟨[], rfl⟩
    | cons x ls ih =>
      intro h
      obtain ⟨ns, rfl⟩ := ih fun y hy => h y (List.mem_cons_of_mem _ hy)
      obtain ⟨a, _, rfl⟩ := List.mem_map.mp (h x List.mem_cons_self)
      exact ⟨a :: ns, rfl⟩
  obtain ⟨ns, rfl⟩ := key ls fun x hx => (hm x).mp hx
  have hns : ns.Nodup := nodup_map hn
  have hp : ns.Perm (ddp (wnames ds)) := (List.perm_ext_iff_of_nodup hns (ddp_nodup _)).mpr fun a => by
    rw [mem_ddp]
    constructor
    · intro h
      obtain ⟨b, hb, e⟩ := List.mem_map.mp ((hm a.1).mp (List.mem_map.mpr ⟨a, h, rfl⟩))
      rwa [← Subtype.ext e]
    · intro h
      obtain ⟨b, hb, e⟩ := List.mem_map.mp ((hm a.1).mpr (List.mem_map.mpr ⟨a, h, rfl⟩))
      rwa [← Subtype.ext e]
  have := sort_names ns _ hp
  rw [List.map_map, List.map_map]
  exact this
section
variable {P : Program} {w : World} {K : PySem.W.Frag} {mg : Str → Option Value} {base : Heap} {C : Addr} {f : Addr} {fd : FuncData}
def rDeeds : List DV → DV → Prop := fun xs y => ∃ x, xs = [.ob x] ∧ y = .d x
theorem scS3 : FnScope ["self"] ["self"] (defScope (sub 24 3)) := ⟨rfl, rfl, rfl, by decide +kernel, rfl, by decide +kernel, by decide +kernel⟩
theorem ok_deeds (F : Fun K "deeds" "Program.deeds" (sub 24 3) f fd) (hc : PCls K C) : FnOk P w K mg base CX0 1 f fd ["self"] (spD ⟨P, w, K, C⟩ rDeeds) := by
  refine fn_D F scS3 (fun xs y h => by obtain ⟨d, rfl, _⟩ := h; rfl) (fun cdv A outer s H E xs y hr h => ?_)
  obtain ⟨x, rfl, rfl⟩ := h
  exact sts_ret (ev_own hc (ev_var 0 rfl)) .rt
def rLines : List DV → DV → Prop := fun xs y => ∃ ds, xs = [.ob (deedsD ds)] ∧ ds.length ≤ 1000 ∧ y = .d (linesD (numb ds))
theorem scS4 : FnScope ["self"] ["self"] (defScope (sub 24 4)) := ⟨rfl, rfl, rfl, by decide +kernel, rfl, by decide +kernel, by decide +kernel⟩
theorem ok_lines (F : Fun K "lines" "Program.lines" (sub 24 4) f fd) (hc : PCls K C) (G : Gf P w K mg base "numbered" 3 (spD ⟨P, w, K, C⟩ rNumbered)) : FnOk P w K mg base CX0 4 f fd ["self"] (spD ⟨P, w, K, C⟩ rLines) := by
  refine fn_D F scS4 (fun xs y h => by obtain ⟨d, rfl, _⟩ := h; rfl) (fun cdv A outer s H E xs y hr h => ?_)
  obtain ⟨ds, rfl, hl, rfl⟩ := h
  exact sts_ret (ev_call G hr (ea_cons (ev_own hc (ev_var 0 rfl)) ea_nil) ⟨ds, rfl, hl, rfl⟩) .rt
def rWrites : List DV → DV → Prop := fun xs y => ∃ ds, xs = [.ob (deedsD ds)] ∧ y = .d (.tuple (((wnames ds).map (·.1)).map .str))
theorem scS5 : FnScope ["self", "word", "stream"] ["self"] (defScope (sub 24 5)) := ⟨rfl, rfl, rfl, by decide +kernel, rfl, by decide +kernel, by decide +kernel⟩
theorem ok_writes (F : Fun K "writes" "Program.writes" (sub 24 5) f fd) (M : Mg mg) (hc : PCls K C) : FnOk P w K mg base CX0 1 f fd ["self"] (spD ⟨P, w, K, C⟩ rWrites) := by
  refine fn_D F scS5 (fun xs y h => by obtain ⟨d, rfl, _⟩ := h; rfl) (fun cdv A outer s H E xs y hr h => ?_)
  obtain ⟨ds, rfl, rfl⟩ := h
  obtain ⟨tW, hW⟩ := M.WRITE
  refine sts_ret (ev_tuple_list (EvF.d (ef_eq (ef_lc (own := [("word", 1), ("stream", 2)]) (ds := ds.map deedD) (js := [1, 2]) (p := fun d => PyData.eqv (dAt d 0) (.str "write")) (f := fun d => dAt d 1)
    (ρ' := fun d => [.i (.ob (deedsD ds)), .i (.d (dAt d 0)), .i (.d (dAt d 1))]) rfl scS5.nd (blkOk_by (by rfl)) (by decide) (ei_tup (ev_own hc (ev_var 0 rfl))) (fun _ _ _ _ _ d hd => ?_) (fun _ _ _ _ _ d hd => ?_) (fun _ _ _ _ _ d hd _ => ev_var 2 rfl)) ?_)) M.tuple) .rt
  · obtain ⟨y, hy, rfl⟩ := List.mem_map.mp hd
    exact eg_tup rfl (egs_cons (eg_name 1 scS5.nd) (egs_cons (eg_name 2 scS5.nd) egs_nil))
  · obtain ⟨y, hy, rfl⟩ := List.mem_map.mp hd
    exact ets_one (et_eq hr (okD_str (n := 0) (wordS_ok _)).shp (okD_str (n := 0) strOk_write).shp rfl (ev_var 1 rfl) (ev_gstr hW))
  · unfold wnames
    rw [List.filter_map, List.map_map, List.map_map, List.map_map]
    have e : ds.filter ((fun d => PyData.eqv (dAt d 0) (.str "write")) ∘ deedD) = ds.filter (·.1) := by
      apply List.filter_congr
      intro d _
      exact word_eq d.1
    rw [e]
    rfl
def rStreams : List DV → DV → Prop := fun xs y => ∃ ds, xs = [.ob (deedsD ds)] ∧ ds.length ≤ 1000 ∧ y = .d (.tuple (((strms ds).map (·.1)).map .str))
theorem scS6 : FnScope ["self"] ["self"] (defScope (sub 24 6)) := ⟨rfl, rfl, rfl, by decide +kernel, rfl, by decide +kernel, by decide +kernel⟩
theorem ok_streams (F : Fun K "streams" "Program.streams" (sub 24 6) f fd) (M : Mg mg) (hc : PCls K C) (G : Gp P w K mg base C "writes" 1 (spD ⟨P, w, K, C⟩ rWrites)) : FnOk P w K mg base CX0 3 f fd ["self"] (spD ⟨P, w, K, C⟩ rStreams) := by
  refine fn_D F scS6 (fun xs y h => by obtain ⟨d, rfl, _⟩ := h; rfl) (fun cdv A outer s H E xs y hr h => ?_)
  obtain ⟨ds, rfl, hl, rfl⟩ := h
  have hlen : ((wnames ds).map (·.1)).length ≤ 1000 := by
    unfold wnames
    rw [List.length_map, List.length_map]
    exact Nat.le_trans (List.length_filter_le _ _) hl
  exact sts_ret (ev_tuple_list (EvF.d (ef_sortedSet (ts := (wnames ds).map (·.1)) (by omega) (strms_of ds) (ev_prop hc.c G hr (ev_var 0 rfl) ⟨ds, rfl, rfl⟩) M.sorted M.set hr)) M.tuple) .rt
end
end DL
set_option maxRecDepth 100000
set_option maxHeartbeats 4000000
/-! walks, 7: trees -/
namespace DL
open PySem PySem.Spec PyProof.Rows L2 SlX
/-! ### models -/
def tnames (t : Tree) : List Nm := t.map (·.1)
def up (t : Tree) (a : Nm) : Option Nm := ((t.find? fun p => decide (p.1 = a)).map (·.2)).getD none
/-- a TREE: no name twice, what a stream goes on to is a stream of it or the screen, no way round -/
structure TreeOk (t : Tree) : Prop where
  nd : (tnames t).Nodup
  up : ∀ p ∈ t, ∀ b, p.2 = some b → b ∈ tnames t
  rank : ∃ r : Nm → Nat, ∀ p ∈ t, ∀ b, p.2 = some b → r b < r p.1
  len : t.length ≤ 100
def kvT (t : Tree) : SD := t.map fun p => (p.1.1, .str (upS p.2))
theorem kvT_pairs (t : Tree) : (kvT t).map pairD = t.map edgeD := by
  unfold kvT
  rw [List.map_map]
  rfl
theorem kvT_nodup {t : Tree} (h : (tnames t).Nodup) : ((kvT t).map (·.1)).Nodup := by
  have e : (kvT t).map (·.1) = (tnames t).map (·.1) := by
    unfold kvT tnames
    rw [List.map_map, List.map_map]
    rfl
  rw [e, List.nodup_iff_pairwise_ne, List.pairwise_map]
  exact h.imp fun hne z => hne (Subtype.ext z)
theorem sfind_kvT : ∀ (t : Tree) (a : Nm), sfind (kvT t) a.1 = (t.find? fun p => decide (p.1 = a)).map fun p => .str (upS p.2)
  | [], _ => rfl
  | p :: t, a => by
    have ih := sfind_kvT t a
    unfold sfind kvT at ih ⊢
    rw [List.map_cons, List.find?_cons, List.find?_cons]
    by_cases e : p.1 = a
    · subst e
      simp
    · have e2 : ¬ p.1.1 = a.1 := fun z => e (Subtype.ext z)
      simp only [e, e2, decide_false]
      exact ih
theorem up_find {t : Tree} {a : Nm} (h : a ∈ tnames t) : ∃ p ∈ t, p.1 = a ∧ (t.find? fun p => decide (p.1 = a)) = some p ∧ up t a = p.2 := by
  cases e : t.find? fun p => decide (p.1 = a) with
  | none =>
    obtain ⟨p, hp, rfl⟩ := List.mem_map.mp h
    exact absurd (decide_eq_true rfl) (List.find?_eq_none.mp e p hp)
  | some p =>
    have h0 := List.find?_some e
    exact ⟨p, List.mem_of_find?_eq_some e, of_decide_eq_true h0, rfl, by unfold up; rw [e]; rfl⟩
theorem get_up {t : Tree} {a : Nm} (h : a ∈ tnames t) : sfind (kvT t) a.1 = some (.str (upS (up t a))) := by
  obtain ⟨p, _, _, e, e2⟩ := up_find h
  rw [sfind_kvT, e, e2]
  rfl
theorem has_name {t : Tree} {a : Nm} : (sfind (kvT t) a.1).isSome = decide (a ∈ tnames t) := by
  rw [sfind_kvT, Option.isSome_map, Bool.eq_iff_iff, decide_eq_true_eq, List.find?_isSome]
  constructor
  · rintro ⟨p, hp, e⟩
    exact List.mem_map.mpr ⟨p, hp, of_decide_eq_true e⟩
  · intro h
    obtain ⟨p, hp, e⟩ := List.mem_map.mp h
    exact ⟨p, hp, decide_eq_true e⟩
theorem up_rank {t : Tree} {a b : Nm} {r : Nm → Nat} (hr : ∀ p ∈ t, ∀ b, p.2 = some b → r b < r p.1) (h : a ∈ tnames t) (e : up t a = some b) : r b < r a := by
  obtain ⟨p, hp, rfl, _, e2⟩ := up_find h
  exact hr p hp b (e2 ▸ e)
theorem up_mem {t : Tree} {a b : Nm} (ok : TreeOk t) (h : a ∈ tnames t) (e : up t a = some b) : b ∈ tnames t := by
  obtain ⟨p, hp, rfl, _, e2⟩ := up_find h
  exact ok.up p hp b (e2 ▸ e)
/-- what stands above a, n steps at most -/
def ups (t : Tree) : Nat → Option Nm → List (Option Nm)
  | 0, _ => []
  | _ + 1, none => []
  | n + 1, some a => up t a :: ups t n (up t a)
/-- above a, up to the screen -/
structure UpsAre (t : Tree) (a : Option Nm) (l : List (Option Nm)) : Prop where
  is : ∃ n, l = ups t n a ∧ ∀ m, n ≤ m → ups t m a = l
def leavesM (t : Tree) : List Nm := ((tnames t).mergeSort nmLe).filter fun a => decide (some a ∉ t.map (·.2))
theorem alike_nms (l : List Nm) : PySem.W.AllAlike (l.map nmD) := PySem.W.AllAlike.of (enc := nmD) (bs := l) fun _ _ => rfl
theorem sortable_nms (l : List Nm) : PySem.W.Sortable (l.map nmD) := PySem.W.Sortable.others (enc := nmD) (bs := l) fun _ => ⟨fun z => (by cases z), fun xs z => (by cases z)⟩
theorem okays_nms {l : List Nm} (h : l.length ≤ 1000) : Okays (l.map nmD) := ⟨alike_nms l, sortable_nms l, sizeLine_big (by rw [List.length_map]; omega), fun d hd => by
  obtain ⟨a, _, rfl⟩ := List.mem_map.mp hd
  exact Nat.zero_le _⟩
section
variable {P : Program} {w : World} {K : PySem.W.Frag} {mg : Str → Option Value} {base : Heap} {C : Addr} {f : Addr} {fd : FuncData}
/-- a TREE as it is handed in: lists or tuples -/
structure TreeD (d : D) (t : Tree) : Prop where
  ok : OkD 10 d
  is : tupD d = treeD t
  good : TreeOk t
abbrev GTup (P : Program) (w : World) (K : PySem.W.Frag) (mg : Str → Option Value) (base : Heap) (C : Addr) : Prop := Gf P w K mg base "tupled" 11 (spD ⟨P, w, K, C⟩ (rTupled 10))
/-- dict(tupled(tree)) -/
theorem ev_above {X : Cx} {e : Expr} {ρ : List Sl} {p p2 p3 pos : Pos} {d : D} {t : Tree} (M : Mg X.mg) (G : GTup X.prog X.w X.K X.mg X.base C) (hr : Room 11 X.A) (ht : TreeD d t) (he : Ev C X e ρ (.d d)) (hc : X.calm = true := by rfl) (hg : Gl X "dict" := by rfl) (hg2 : Gl X "tupled" := by rfl)
    (h1 : starEach [e] X.env = (false, eval e X.env) :: starEach [] X.env := by rfl) (hpl : (backTo p3 (starEach [] X.env)).any (·.1) = false := by rfl)
    (h2 : starEach [Expr.Call (.Name "tupled" p2) [e] [] p3] X.env = (false, eval (Expr.Call (.Name "tupled" p2) [e] [] p3) X.env) :: starEach [] X.env := by rfl) (hpl2 : (backTo pos (starEach [] X.env)).any (·.1) = false := by rfl) :
    Ev C X (.Call (.Name "dict" p) [.Call (.Name "tupled" p2) [e] [] p3] [] pos) ρ (.dk (kvT t)) := by
  refine ev_dictT (kvT_nodup ht.good.nd) ?_ M.dict hc hg h2 hpl2
  rw [kvT_pairs]
  have : Ev C X (.Call (.Name "tupled" p2) [e] [] p3) ρ (.d (tupD d)) := ev_call G hr (ea_cons he ea_nil h1) ⟨d, rfl, ht.ok, rfl⟩ hg2 (by decide) h1 hpl
  rw [ht.is] at this
  exact this
/-! ### leaves -/
theorem sc30 : FnScope ["tree", "above", "name"] ["tree"] (defScope (top 30)) := ⟨rfl, rfl, rfl, by decide +kernel, rfl, by decide +kernel, by decide +kernel⟩
def nmsD (l : List Nm) : D := .tuple (l.map nmD)
def rLeaves : List DV → DV → Prop := fun xs y => ∃ d t, xs = [.d d] ∧ TreeD d t ∧ y = .d (nmsD (leavesM t))
def strOf : D → Str
  | .str s => s
  | _ => ""
theorem ok_leaves (F : Fun K "leaves" "leaves" (top 30) f fd) (M : Mg mg) (G : GTup P w K mg base C) : FnOk P w K mg base CX0 12 f fd ["tree"] (spD ⟨P, w, K, C⟩ rLeaves) := by
  refine fn_D F sc30 (fun xs y h => by obtain ⟨d, t, rfl, _⟩ := h; rfl) (fun cdv A outer s H E xs y hr h => ?_)
  obtain ⟨d, t, rfl, ht, rfl⟩ := h
  refine sts_let (x := .dk (kvT t)) 1 (ev_above M G hr ht (ev_var 0 rfl)) ?_ sc30.nd
  have hsrc : (kvT t).map (fun z => PyData.str z.1) = (tnames t).map nmD := by
    unfold kvT tnames
    rw [List.map_map, List.map_map]
    rfl
  have hlen : (tnames t).length ≤ 1000 := by
    unfold tnames
    rw [List.length_map]
    exact Nat.le_trans ht.good.len (by decide)
  have hsort : sortD ((kvT t).map fun z => PyData.str z.1) = ((tnames t).mergeSort nmLe).map nmD := by
    rw [hsrc]
    exact sort_names _ _ (List.Perm.refl _)
  refine sts_ret (ev_tuple_list (EvF.d (ef_eq (ef_lc (own := [("name", 2)]) (ds := ((tnames t).mergeSort nmLe).map nmD) (js := [2]) (p := fun d => !(kvT t).any fun p => PyData.eqv p.2 (.str (strOf d))) (f := fun d => d) rfl sc30.nd (blkOk_by (by rfl)) (by decide)
    (ei_list (EvF.d (ef_eq (ef_sorted (SrcD.k (kvT t)) (hsrc ▸ okays_nms hlen) (ev_var 1 rfl) M.sorted hr) hsort))) (fun _ _ _ _ _ d hd => eg_name 2 sc30.nd) (fun _ _ _ _ _ d hd => ?_) (fun _ _ _ _ _ d hd _ => ev_var 2 rfl)) ?_)) M.tuple) .rt
  · obtain ⟨a, _, rfl⟩ := List.mem_map.mp hd
    exact ets_one (et_niVals (x := a.1) (fun p hp => by
      obtain ⟨q, _, rfl⟩ := List.mem_map.mp hp
      exact ⟨_, rfl⟩) rfl (ev_var 2 rfl) (ev_var 1 rfl))
  · unfold leavesM
    rw [List.map_id', List.filter_map]
    congr 1
    apply List.filter_congr
    intro a _
    show (!(kvT t).any fun p => PyData.eqv p.2 (.str a.1)) = decide (some a ∉ t.map (·.2))
    unfold kvT
    rw [List.any_map, decide_not, Bool.not_inj_iff, Bool.eq_iff_iff, List.any_eq_true, decide_eq_true_eq, List.mem_map]
    constructor
    · rintro ⟨p, hp, e⟩
      refine ⟨p, hp, upS_inj _ _ ?_⟩
      have e2 : (upS p.2 == a.1) = true := e
      exact beq_iff_eq.mp e2
    · rintro ⟨p, hp, e⟩
      refine ⟨p, hp, ?_⟩
      show (upS p.2 == a.1) = true
      rw [e]
      exact beq_self_eq_true _
end
end DL
set_option maxRecDepth 100000
set_option maxHeartbeats 4000000
/-! walks, 8: first_flush, is_ahead -/
namespace DL
open PySem PySem.Spec PyProof.Rows L2 SlX
/-! ### models -/
/-- the places of the flushes of s behind p -/
def fls (ds : List Deed) (s : Nm) (p : Nat) : List Nat := (List.range ds.length).filter fun i => decide (p < i) && decide (ds[i]? = some (false, s))
def ff (ds : List Deed) (s : Nm) (p : Nat) : Option Nat := (fls ds s p).head?
def optD : Option Nat → D
  | none => .none
  | some i => .int (i : Nat)
def intOf : D → Int
  | .int i => i
  | _ => 0
/-- is an item of enumerate(deeds) a flush of s behind p? -/
def enF (s : Nm) (p : Nat) (d : D) : Bool := decide ((p : Int) < intOf (dAt d 0)) && PyData.eqv (dAt d 1) (deedD (false, s))
theorem fls_eq (ds : List Deed) (s : Nm) (p : Nat) : ((enumD (ds.map deedD)).filter (enF s p)).map (fun d => dAt d 0) = intsD (fls ds s p) := by
  rw [enumD_range, List.filter_map, List.map_map]
  unfold intsD fls
  have e : (List.range ds.length).filter (enF s p ∘ fun i => .tuple [.int (i : Nat), (ds[i]?.map deedD).getD .none]) = (List.range ds.length).filter fun i => decide (p < i) && decide (ds[i]? = some (false, s)) := by
    apply List.filter_congr
    intro i hi
    have hl := List.mem_range.mp hi
    show (decide ((p : Int) < (i : Int)) && PyData.eqv ((ds[i]?.map deedD).getD .none) (deedD (false, s))) = _
    rw [List.getElem?_eq_getElem hl]
    congr 1
    · exact decide_eq_decide.mpr Int.ofNat_lt
    · show PyData.eqv (deedD ds[i]) (deedD (false, s)) = _
      rw [(enc_deed (n := 0)).eqv]
      exact decide_eq_decide.mpr ⟨fun q => congrArg some q, fun q => Option.some.inj q⟩
  rw [e]
  rfl
theorem ff_some {ds : List Deed} {s : Nm} {p i : Nat} (h : ff ds s p = some i) : p < i ∧ ds[i]? = some (false, s) := by
  have := List.mem_of_head? h
  unfold fls at this
  simp only [List.mem_filter, Bool.and_eq_true, decide_eq_true_eq] at this
  exact this.2
section
variable {P : Program} {w : World} {K : PySem.W.Frag} {mg : Str → Option Value} {base : Heap} {C : Addr} {f : Addr} {fd : FuncData}
theorem et_gtK {X : Cx} {a b : Expr} {ρ : List Sl} {pos : Pos} {i j : Int} {k : Bool} (h : decide (j < i) = k) (ha : Ev C X a ρ (.d (.int i))) (hb : Ev C X b ρ (.d (.int j))) : EvT C X (.Compare a [.Gt] [b] pos) ρ k := h ▸ et_gt ha hb
abbrev GDeeds (P : Program) (w : World) (K : PySem.W.Frag) (mg : Str → Option Value) (base : Heap) (C : Addr) : Prop := Gp P w K mg base C "deeds" 1 (spD ⟨P, w, K, C⟩ rDeeds)
theorem sc25 : FnScope ["program", "stream", "place", "own", "deed", "places"] ["program", "stream", "place"] (defScope (top 25)) := ⟨rfl, rfl, rfl, by decide +kernel, rfl, by decide +kernel, by decide +kernel⟩
def rFF : List DV → DV → Prop := fun xs y => ∃ ds s p, xs = [.ob (deedsD ds), .d (nmD s), .d (.int (p : Nat))] ∧ y = .d (optD (ff ds s p))
theorem ok_ff (F : Fun K "first_flush" "first_flush" (top 25) f fd) (M : Mg mg) (hc : PCls K C) (G : GDeeds P w K mg base C) : FnOk P w K mg base CX0 3 f fd ["program", "stream", "place"] (spD ⟨P, w, K, C⟩ rFF) := by
  refine fn_D F sc25 (fun xs y h => by obtain ⟨ds, s, p, rfl, _⟩ := h; rfl) (fun cdv A outer s H E xs y hr h => ?_)
  obtain ⟨ds, nm, pl, rfl, rfl⟩ := h
  obtain ⟨tF, hF⟩ := M.FLUSH
  refine sts_lc 5 (own := [("own", 3), ("deed", 4)]) (ds := enumD (ds.map deedD)) (js := [3, 4]) (p := enF nm pl) (f := fun d => dAt d 0)
    (ρ' := fun d => [.i (.ob (deedsD ds)), .i (.d (nmD nm)), .i (.d (.int (pl : Nat))), .i (.d (dAt d 0)), .i (.d (dAt d 1)), .no]) rfl sc25.nd (blkOk_by (by rfl)) (by decide) (ei_enumT M.enum (ev_prop hc.c G hr (ev_var 0 rfl) ⟨_, rfl, rfl⟩)) (fun _ _ _ _ _ d hd => ?_) (fun _ _ _ _ _ d hd => ?_) (fun _ _ _ _ _ d hd _ => ev_var 3 rfl) (fls_eq ds nm pl) ?_
  · obtain ⟨i, x, hx, rfl⟩ := mem_enumD hd
    exact eg_tup rfl (egs_cons (eg_name 3 sc25.nd) (egs_cons (eg_name 4 sc25.nd) egs_nil))
  · obtain ⟨i, x, hx, rfl⟩ := mem_enumD hd
    obtain ⟨y, hy, rfl⟩ := Option.map_eq_some_iff.mp (by rw [← List.getElem?_map]; exact hx)
    exact ets_one (EvW.t (ew_and (et_gt (i := (i : Nat)) (j := (pl : Nat)) (ev_var 3 rfl) (ev_var 2 rfl)) fun _ => ew_and1 (et_eq (d := deedD y) (e := deedD (false, nm)) hr ((enc_deed (n := 0)).ok _).shp ((enc_deed (n := 0)).ok _).shp rfl (ev_var 4 rfl) (ev_pair (ev_gstr hF) (ev_var 1 rfl)))))
  cases e : fls ds nm pl with
  | nil =>
    refine sts_ret (ev_if (k := false) (et_gt (i := ((intsD []).length : Nat)) (j := 0) (ev_len_list (ev_var 5 (by rw [← e]; rfl)) M.len) ev_int) (fun z => nomatch z) fun _ => ev_none) ?_
    unfold ff
    rw [e]
    exact .rt
  | cons i r =>
    refine sts_ret (ev_if (k := true) (et_gtK (i := ((intsD (i :: r)).length : Nat)) (j := 0) (decide_eq_true (by unfold intsD; rw [List.length_map, List.length_cons]; omega)) (ev_len_list (ev_var 5 (by rw [← e]; rfl)) M.len) ev_int) (fun _ => ev_ix_list (ds := intsD (i :: r)) (i := 0) (d := .int (i : Nat)) (atI_nat rfl) (ev_var 5 (by rw [← e]; rfl)) ev_int) fun z => nomatch z) ?_
    unfold ff
    rw [e]
    exact .rt
/-! ### is_ahead -/
theorem sc36 : FnScope ["place", "birth"] ["place", "birth"] (defScope (top 36)) := ⟨rfl, rfl, rfl, by decide +kernel, rfl, by decide +kernel, by decide +kernel⟩
def aheadM (o : Option Nat) (b : Nat) : Bool := match o with
  | none => false
  | some i => decide (i < b)
def rAhead : List DV → DV → Prop := fun xs y => ∃ o b, xs = [.d (optD o), .d (.int (b : Nat))] ∧ y = .d (.bool (aheadM o b))
theorem ok_ahead (F : Fun K "is_ahead" "is_ahead" (top 36) f fd) (M : Mg mg) : FnOk P w K mg base CX0 1 f fd ["place", "birth"] (spD ⟨P, w, K, C⟩ rAhead) := by
  refine fn_D F sc36 (fun xs y h => by obtain ⟨ds, s, rfl, _⟩ := h; rfl) (fun cdv A outer s H E xs y hr h => ?_)
  obtain ⟨o, b, rfl, rfl⟩ := h
  cases o with
  | none => exact sts_ret (ev_and (k := false) (m := true) (ev_notN (d := .none) (ev_var 0 rfl) ev_none) fun z => nomatch z) .rt
  | some i =>
    have e : aheadM (some i) b = (true && decide ((i : Int) < (b : Int))) := by
      rw [Bool.true_and]
      exact decide_eq_decide.mpr Int.ofNat_lt.symm
    rw [e]
    exact sts_ret (ev_and (k := true) (ev_notN (d := .int (i : Nat)) (ev_var 0 rfl) ev_none) fun _ => ev_one (ev_lt (ev_var 0 rfl) (ev_var 1 rfl))) .rt
end
end DL
set_option maxRecDepth 100000
set_option maxHeartbeats 4000000
/-! walks, 9: uppers, check_stream, meeting -/
namespace DL
open PySem PySem.Spec PyProof.Rows L2 SlX
/-! ### models -/
/-- l is what stands above a, up to the screen -/
def UpsL (t : Tree) : List (Option Nm) → Option Nm → Prop
  | [], a => a = none
  | b :: l, a => ∃ x, a = some x ∧ x ∈ tnames t ∧ b = up t x ∧ UpsL t l b
abbrev IsUps (t : Tree) (a : Option Nm) (l : List (Option Nm)) : Prop := UpsL t l a
theorem isUps_uniq {t : Tree} : ∀ {l m : List (Option Nm)} {a : Option Nm}, IsUps t a l → IsUps t a m → l = m
  | [], [], a, h1, h2 => rfl
  | [], _ :: _, _, h1, ⟨x, e, _⟩ => by
    rw [show _ = none from h1] at e
    cases e
  | _ :: _, [], _, ⟨x, e, _⟩, h2 => by
    rw [show _ = none from h2] at e
    cases e
  | b :: l, c :: m, a, ⟨x, e, _, e1, h1⟩, ⟨y, e', _, e2, h2⟩ => by
    subst e
    cases e'
    subst e1
    subst e2
    rw [isUps_uniq h1 h2]
theorem isUps_ex {t : Tree} (ok : TreeOk t) {a : Nm} (ha : a ∈ tnames t) : ∃ l, IsUps t (some a) l := by
  obtain ⟨r, hr⟩ := ok.rank
  have key : ∀ n a, a ∈ tnames t → r a < n → ∃ l, IsUps t (some a) l := fun n => by
    induction n with
    | zero => exact fun a _ h => absurd h (Nat.not_lt_zero _)
    | succ n ih =>
      intro a ha h
      cases e : up t a with
      | none => exact ⟨[none], a, rfl, ha, e.symm, rfl⟩
      | some b =>
        obtain ⟨l, hl⟩ := ih b (up_mem ok ha e) (by have := up_rank hr ha e; omega)
        exact ⟨some b :: l, a, rfl, ha, e.symm, hl⟩
  exact key (r a + 1) a ha (Nat.lt_succ_self _)
theorem isUps_none {t : Tree} : ∀ {l : List (Option Nm)} {a : Option Nm}, IsUps t a l → a ≠ none → none ∈ l
  | [], a, h1, h => absurd h1 h
  | b :: l, a, ⟨x, e, _, e2, h⟩, _ => by
    cases b with
    | none => exact List.mem_cons_self
    | some b => exact List.mem_cons_of_mem _ (isUps_none h (fun z => nomatch z))
theorem len_le_of {α : Type} [DecidableEq α] : ∀ {l m : List α}, l.Nodup → (∀ x ∈ l, x ∈ m) → l.length ≤ m.length
  | [], _, _, _ => Nat.zero_le _
  | x :: l, m, h, hs => by
    obtain ⟨h1, h2⟩ := List.nodup_cons.mp h
    have hx := hs x List.mem_cons_self
    have := len_le_of (m := m.erase x) h2 fun y hy => (List.mem_erase_of_ne (by rintro rfl; exact h1 hy)).mpr (hs y (List.mem_cons_of_mem _ hy))
    rw [List.length_erase_of_mem hx] at this
    have := List.length_pos_of_mem hx
    rw [List.length_cons]
    omega
/-- no name stands above itself, so the way up is short -/
theorem isUps_len {t : Tree} (ok : TreeOk t) : ∀ {l : List (Option Nm)} {a : Option Nm}, IsUps t a l → l.length ≤ t.length + 1 := by
  obtain ⟨r, hr⟩ := ok.rank
  have key : ∀ (l : List (Option Nm)) (a : Option Nm), IsUps t a l → ∃ ns : List Nm, ns.length = l.length ∧ (∀ n ∈ ns, n ∈ tnames t) ∧ ns.Pairwise (fun x y => r y < r x) ∧ ∀ n ∈ ns, ∃ b, a = some b ∧ r n ≤ r b := fun l => by
    induction l with
    | nil => exact fun a h => ⟨[], rfl, fun _ h => (by cases h), List.Pairwise.nil, fun _ h => (by cases h)⟩
    | cons b l ih =>
      intro a h
      · obtain ⟨a, rfl, ha, e, h⟩ := h
        obtain ⟨ns, h1, h2, h3, h4⟩ := ih b h
        refine ⟨a :: ns, by rw [List.length_cons, List.length_cons, h1], ?_, ?_, ?_⟩
        · intro n hn
          rcases List.mem_cons.mp hn with rfl | hn
          · exact ha
          · exact h2 n hn
        · refine List.pairwise_cons.mpr ⟨fun n hn => ?_, h3⟩
          obtain ⟨c, rfl, hc⟩ := h4 n hn
          exact Nat.lt_of_le_of_lt hc (up_rank hr ha e.symm)
        · intro n hn
          refine ⟨a, rfl, ?_⟩
          rcases List.mem_cons.mp hn with rfl | hn
          · exact Nat.le_refl _
          · obtain ⟨c, rfl, hc⟩ := h4 n hn
            exact Nat.le_of_lt (Nat.lt_of_le_of_lt hc (up_rank hr ha e.symm))
  intro l a h
  obtain ⟨ns, h1, h2, h3, _⟩ := key l a h
  have hnd : ns.Nodup := List.nodup_iff_pairwise_ne.mpr (h3.imp fun q e => by rw [e] at q; exact absurd q (Nat.lt_irrefl _))
  have := len_le_of hnd h2
  unfold tnames at this
  rw [List.length_map, h1] at this
  omega
def upsD (l : List (Option Nm)) : List D := l.map fun b => .str (upS b)
theorem enc_up {n : Nat} : Enc n (fun b : Option Nm => PyData.str (upS b)) where
  ok := fun a => okD_str (upS_ok a)
  cl := fun a => rfl
  inj := fun a b e => by
    injection e with e
    exact upS_inj _ _ e
theorem Enc.inD {α : Type} [DecidableEq α] {n : Nat} {f : α → D} (h : Enc n f) (a : α) (l : List α) : DL.inD (f a) (l.map f) = decide (a ∈ l) := by
  unfold DL.inD
  rw [List.any_map, Bool.eq_iff_iff, List.any_eq_true, decide_eq_true_eq]
  constructor
  · rintro ⟨x, hx, e⟩
    have := (h.eqv x a).symm.trans e
    rw [← of_decide_eq_true this]
    exact hx
  · intro hx
    exact ⟨a, hx, (h.eqv a a).trans (decide_eq_true rfl)⟩
theorem Enc.okList {α : Type} {n : Nat} {f : α → D} (h : Enc n f) (l : List α) : OkD (n + 1) (.list (l.map f)) := h.list.ok l
theorem Enc.okTup {α : Type} {n : Nat} {f : α → D} (h : Enc n f) (l : List α) : OkD (n + 1) (.tuple (l.map f)) := h.tup.ok l
section
variable {P : Program} {w : World} {K : PySem.W.Frag} {mg : Str → Option Value} {base : Heap} {C : Addr} {f : Addr} {fd : FuncData}
theorem sts_app (i : Nat) {X : Cx} {e : Expr} {ss : List Stmt} {ρ : List Sl} {Φ : Out → Prop} {pos : Pos} {n : Str} {xs : List D} {d : D} {p1 p2 p3 : Pos} (h : ρ[i]? = some (.ml xs)) (hz : xs.length < sizeLine) (he : Ev C X e ρ (.d d)) (k : Sts C X ss (ρ.set i (.ml (xs ++ [d]))) Φ)
    (hN : X.N[i]? = some n := by rfl) (hv : Vis X.env.scope n := by first | exact Or.inl rfl | exact Or.inr (Or.inl rfl) | exact Or.inr (Or.inr rfl)) (hd : (n == ("__debug__" : Str)) = false := by decide) (hcd : (n == ("__classdict__" : Str)) = false := by decide)
    (hbase : attributeBase (.Name n p1) "append" X.env (eval (.Name n p1) X.env) = eval (.Name n p1) X.env := by rfl)
    (hfew : ((backTo p3 (starEach [e] X.env)).all (fun x => !x.1) && (backToKw p3 (keywordEach [] X.env)).all (fun x => x.1.isSome) && decide (([e] : List Expr).length + ([] : List Keyword).length + (if ([] : List Keyword).isEmpty then 0 else 1) < 30)) = true := by rfl)
    (hline : (p2.endLine == p3.line) = true := by rfl) (hs : starEach [e] X.env = (false, eval e X.env) :: starEach [] X.env := by rfl) (hplain : (backTo p3 (starEach [] X.env)).any (·.1) = false := by rfl)
    (hsw : swapsWith (.Call (.Attribute (.Name n p1) "append" p2) [e] [] p3) none pos.line X.env = pure false := by rfl) : Sts C X (.Expr (.Call (.Attribute (.Name n p1) "append" p2) [e] [] p3) pos :: ss) ρ Φ :=
  sts_append i h hz he k (ps_append he hN hv hd hcd (pe_bm F.plainAttrs_list slot_list_append type_list_append mt_append (pe_var hN hv hd hcd) (pa_cons he pa_nil hs) hbase hfew hline hs hplain) hsw)
/-! ### uppers -/
theorem sc28 : FnScope ["tree", "name", "above", "found", "here"] ["tree", "name"] (defScope (top 28)) := ⟨rfl, rfl, rfl, by decide +kernel, rfl, by decide +kernel, by decide +kernel⟩
def rUppers : List DV → DV → Prop := fun xs y => ∃ d t a l, xs = [.d d, .d (nmD a)] ∧ TreeD d t ∧ IsUps t (some a) l ∧ y = .d (.list (upsD l))
def hereIs (ρ : List Sl) : D := match ρ[4]? with
  | some (Sl.i (DV.d d)) => d
  | _ => .none
theorem ok_uppers (F : Fun K "uppers" "uppers" (top 28) f fd) (M : Mg mg) (G : GTup P w K mg base C) : FnOk P w K mg base CX0 12 f fd ["tree", "name"] (spD ⟨P, w, K, C⟩ rUppers) := by
  refine fn_D F sc28 (fun xs y h => by obtain ⟨d, t, a, l, rfl, _⟩ := h; rfl) (fun cdv A outer s H E xs y hr h => ?_)
  obtain ⟨d, t, a, l, rfl, ht, hl, rfl⟩ := h
  obtain ⟨tS, hS⟩ := M.SCREEN
  refine sts_par 2 3 (s := .i (.dk (kvT t))) (t := .ml []) (ev_above M G hr ht (ev_var 0 rfl)).s (ef_list (xs := []) ea_nil rfl).s ?_ sc28.nd
  refine sts_let (x := .d (.str (upS (some a)))) 4 (ev_var 1 rfl) ?_ sc28.nd
  refine sts_while (fun m ρ => ∃ (b : Option Nm) (l1 l2 : List (Option Nm)), l = l1 ++ l2 ∧ IsUps t b l2 ∧ m = l2.length ∧ ρ = [.i (.d d), .i (.d (nmD a)), .i (.dk (kvT t)), .ml (upsD l1), .i (.d (.str (upS b)))])
    (m0 := l.length) ⟨some a, [], l, rfl, hl, rfl, rfl⟩ (fun ρ => !PyData.eqv (hereIs ρ) (.str "")) ?_ ?_ ?_
  · rintro m ρi ⟨b, l1, l2, e, hu, rfl, rfl⟩
    exact et_ne (d := .str (upS b)) (e := .str "") hr ((enc_up (n := 0)).ok b).shp ((enc_up (n := 0)).ok none).shp rfl (ev_var 4 rfl) (ev_gstr hS)
  · rintro m ρi ⟨b, l1, l2, e, hu, rfl, rfl⟩ hk
    have hb : b ≠ none := fun z => by
      subst z
      have h2 : (!PyData.eqv (.str (upS none)) (.str "")) = true := hk
      rw [show PyData.eqv (.str (upS none)) (.str "") = true from by decide +kernel] at h2
      cases h2
    · cases l2 with
      | nil => exact absurd hu hb
      | cons c l2 =>
        obtain ⟨b, rfl, hm, e2, hu⟩ := hu
        subst e2
        refine sts_let (x := .d (.str (upS (up t b)))) 4 (ev_ixK (kv := .none) hr (get_up hm) (ev_var 2 rfl) (ev_var 4 rfl)) ?_ sc28.nd
        have hlen := isUps_len ht.good hl
        have := ht.good.len
        rw [e, List.length_append, List.length_cons] at hlen
        refine sts_app 3 rfl (Nat.lt_of_lt_of_le (by unfold upsD; rw [List.length_map]; omega) (sizeLine_big (n := 1000) (by decide))) (ev_var 4 rfl) ?_
        · refine sts_nil ⟨l2.length, Nat.lt_succ_self _, up t b, l1 ++ [up t b], l2, by rw [e]; simp, hu, rfl, ?_⟩
          unfold upsD
          rw [List.map_append]
          rfl
  · rintro m ρi ⟨b, l1, l2, e, hu, rfl, rfl⟩ hk
    have hb : b = none := by
      have h2 : (!PyData.eqv (.str (upS b)) (.str "")) = false := hk
      have h3 := (enc_up (n := 0)).eqv b none
      have h4 : PyData.eqv (.str (upS b)) (.str (upS none)) = true := by
        cases h6 : PyData.eqv (.str (upS b)) (.str (upS none)) with
        | true => rfl
        | false =>
          rw [show PyData.eqv (.str (upS b)) (.str "") = false from h6] at h2
          cases h2
      exact of_decide_eq_true (h3.symm.trans h4)
    subst hb
    have hu : l2 = [] := by
      cases l2 with
      | nil => rfl
      | cons c l2 =>
        obtain ⟨x, e, _⟩ := hu
        cases e
    subst hu
    rw [List.append_nil] at e
    subst e
    exact sts_fix 3 rfl (sts_ret (ev_var 3 rfl) .rt)
/-! ### check_stream -/
theorem sc29 : FnScope ["tree", "name"] ["tree", "name"] (defScope (top 29)) := ⟨rfl, rfl, rfl, by decide +kernel, rfl, by decide +kernel, by decide +kernel⟩
def rCheck : List DV → DV → Prop := fun xs y => ∃ d t a, xs = [.d d, .d (nmD a)] ∧ TreeD d t ∧ a ∈ tnames t ∧ y = .d .none
theorem ok_check (F : Fun K "check_stream" "check_stream" (top 29) f fd) (M : Mg mg) (G : GTup P w K mg base C) : FnOk P w K mg base CX0 12 f fd ["tree", "name"] (spD ⟨P, w, K, C⟩ rCheck) := by
  refine fn_D F sc29 (fun xs y h => by obtain ⟨d, t, a, rfl, _⟩ := h; rfl) (fun cdv A outer s H E xs y hr h => ?_)
  obtain ⟨d, t, a, rfl, ht, ha, rfl⟩ := h
  exact sts_ifF (et_niK hr (by rw [has_name, decide_eq_true ha]; rfl) (ev_var 1 rfl) (ev_above M G hr ht (ev_var 0 rfl))) (sts_nil .nx)
end
end DL
set_option maxRecDepth 100000
set_option maxHeartbeats 4000000
/-! walks, 10: meeting, check_program, births_of -/
namespace DL
open PySem PySem.Spec PyProof.Rows L2 SlX
/-! ### models -/
theorem isUps_mem {t : Tree} (ok : TreeOk t) : ∀ {l : List (Option Nm)} {a : Option Nm}, IsUps t a l → ∀ b, some b ∈ l → b ∈ tnames t
  | [], _, _, _, h => nomatch h
  | c :: l, a, ⟨x, _, hx, e, h⟩, b, hb => by
    rcases List.mem_cons.mp hb with q | q
    · exact up_mem ok hx (e ▸ q.symm)
    · exact isUps_mem ok h b q
theorem Enc.inD2 {α : Type} {n : Nat} {f : α → D} (h : Enc n f) (a : α) (l : List α) [Decidable (a ∈ l)] : DL.inD (f a) (l.map f) = decide (a ∈ l) := by
  classical
  rw [h.inD a l]
  exact decide_eq_decide.mpr Iff.rfl
def lineK (l : Line) : NestedKey := .tup [.text l.1.1, .num (l.2 : Nat)]
theorem lineK_data (l : Line) : (lineK l).data = lineD l := by
  simp [lineK, NestedKey.data, NestedKey.datas, lineD]
theorem lineK_inj (a b : Line) (h : lineK a = lineK b) : a = b := (enc_line (n := 0)).inj a b (by rw [← lineK_data, ← lineK_data, h])
theorem mem_wr_lt {ds : List Deed} {i : Nat} (h : i ∈ wr ds) : i < ds.length := by
  unfold wr at h
  exact List.mem_range.mp (List.mem_filter.mp h).1
theorem nodup_filter {α : Type} (p : α → Bool) {l : List α} (h : l.Nodup) : (l.filter p).Nodup := by
  rw [List.nodup_iff_pairwise_ne] at h ⊢
  exact h.sublist List.filter_sublist
theorem wr_nodup (ds : List Deed) : (wr ds).Nodup := nodup_filter _ List.nodup_range
theorem cnt_take_mono (ds : List Deed) (d : Deed) {i j : Nat} (h : i ≤ j) : cnt (ds.take i) d ≤ cnt (ds.take j) d := by
  unfold cnt
  have e : ds.take i = (ds.take j).take i := by rw [List.take_take, Nat.min_eq_left h]
  rw [e]
  exact (List.Sublist.filter _ (List.take_sublist _ _)).length_le
theorem cnt_take_succ {ds : List Deed} {d : Deed} {i : Nat} (h : ds[i]? = some d) : cnt (ds.take (i + 1)) d = cnt (ds.take i) d + 1 := by
  unfold cnt
  rw [List.take_add_one, h, List.filter_append, List.length_append]
  simp
theorem lnAt_eq {ds : List Deed} {i : Nat} {s : Nm} (h : ds[i]? = some (true, s)) : lnAt ds i = (s, cnt (ds.take (i + 1)) (true, s)) := by
  unfold lnAt
  rw [h]
theorem lnAt_lt {ds : List Deed} {i j : Nat} {s : Nm} (hi : ds[i]? = some (true, s)) (hj : ds[j]? = some (true, s)) (h : i < j) : (lnAt ds i).2 < (lnAt ds j).2 := by
  rw [lnAt_eq hi, lnAt_eq hj, cnt_take_succ hj]
  exact Nat.lt_succ_of_le (cnt_take_mono ds _ h)
theorem lnAt_inj {ds : List Deed} {i j : Nat} (hi : i ∈ wr ds) (hj : j ∈ wr ds) (h : lnAt ds i = lnAt ds j) : i = j := by
  obtain ⟨s, hi⟩ := mem_wr.mp hi
  obtain ⟨u, hj⟩ := mem_wr.mp hj
  have e : s = u := by
    rw [lnAt_eq hi, lnAt_eq hj] at h
    exact congrArg Prod.fst h
  subst e
  rcases Nat.lt_trichotomy i j with q | q | q
  · have := lnAt_lt hi hj q
    rw [h] at this
    exact absurd this (Nat.lt_irrefl _)
  · exact q
  · have := lnAt_lt hj hi q
    rw [h] at this
    exact absurd this (Nat.lt_irrefl _)
theorem nodup_map_inj {α β : Type} {f : α → β} {l : List α} (hf : ∀ a ∈ l, ∀ b ∈ l, f a = f b → a = b) (h : l.Nodup) : (l.map f).Nodup := by
  rw [List.nodup_iff_pairwise_ne] at h ⊢
  rw [List.pairwise_map]
  refine h.imp_of_mem fun ha hb hne e => hne (hf _ ha _ hb e)
theorem numb_nodup (ds : List Deed) : (numb ds).Nodup := nodup_map_inj (fun _ ha _ hb h => lnAt_inj ha hb h) (wr_nodup ds)
/-- the births: each line's key and place -/
def birthsN (ds : List Deed) : List (NestedKey × D) := (wr ds).map fun i => (lineK (lnAt ds i), .int (i : Nat))
theorem birthsN_zip (ds : List Deed) : ((numb ds).map lineK).zip (intsD (wr ds)) = birthsN ds := by
  unfold numb intsD birthsN
  rw [List.map_map, List.zip_map_left, List.zip_map_right, List.map_map]
  have : (wr ds).zip (wr ds) = (wr ds).map fun i => (i, i) := by
    rw [List.zip_eq_zipWith]
    exact List.zipWith_self
  rw [this, List.map_map]
  rfl
/-- the deeds are those of the tree -/
structure Fits (t : Tree) (ds : List Deed) : Prop where
  nm : ∀ d ∈ ds, d.2 ∈ tnames t
  lf : ∀ d ∈ ds, d.1 = true → d.2 ∈ leavesM t
  len : ds.length ≤ 100
section
variable {P : Program} {w : World} {K : PySem.W.Frag} {mg : Str → Option Value} {base : Heap} {C : Addr} {f : Addr} {fd : FuncData}
theorem keyOk_line (l : Line) : KeyOk (lineK l) := by
  refine ⟨⟨_, rfl⟩, ?_⟩
  simp [lineK, NestedKey.depth, NestedKey.depthAll]
/-! ### meeting -/
theorem sc31 : FnScope ["tree", "one", "other", "far", "name"] ["tree", "one", "other"] (defScope (top 31)) := ⟨rfl, rfl, rfl, by decide +kernel, rfl, by decide +kernel, by decide +kernel⟩
def meets (l1 l2 : List (Option Nm)) : List (Option Nm) := l1.filter fun b => decide (b ∈ l2)
def rMeeting : List DV → DV → Prop := fun xs y => ∃ d t a b l1 l2 m r, xs = [.d d, .d (nmD a), .d (nmD b)] ∧ TreeD d t ∧ IsUps t (some a) l1 ∧ IsUps t (some b) l2 ∧ a ∈ tnames t ∧ b ∈ tnames t ∧ meets l1 l2 = m :: r ∧ y = .d (.str (upS m))
theorem ok_meeting (F : Fun K "meeting" "meeting" (top 31) f fd) (M : Mg mg) (G1 : Gf P w K mg base "check_stream" 12 (spD ⟨P, w, K, C⟩ rCheck)) (G2 : Gf P w K mg base "uppers" 12 (spD ⟨P, w, K, C⟩ rUppers)) : FnOk P w K mg base CX0 13 f fd ["tree", "one", "other"] (spD ⟨P, w, K, C⟩ rMeeting) := by
  refine fn_D F sc31 (fun xs y h => by obtain ⟨d, t, a, b, l1, l2, m, r, rfl, _⟩ := h; rfl) (fun cdv A outer s H E xs y hr h => ?_)
  obtain ⟨d, t, a, b, l1, l2, m, r, rfl, ht, h1, h2, ha, hb, hm, rfl⟩ := h
  refine sts_expr (ev_call G1 hr (ea_cons (ev_var 0 rfl) (ea_cons (ev_var 1 rfl) ea_nil)) ⟨d, t, a, rfl, ht, ha, rfl⟩) ?_
  refine sts_expr (ev_call G1 hr (ea_cons (ev_var 0 rfl) (ea_cons (ev_var 2 rfl) ea_nil)) ⟨d, t, b, rfl, ht, hb, rfl⟩) ?_
  refine sts_let (x := .d (.list (upsD l2))) 3 (ev_call G2 hr (ea_cons (ev_var 0 rfl) (ea_cons (ev_var 2 rfl) ea_nil)) ⟨d, t, b, l2, rfl, ht, h2, rfl⟩) ?_ sc31.nd
  refine sts_ret (ev_ix_list (ds := upsD (meets l1 l2)) (i := 0) (d := .str (upS m)) (by rw [hm]; exact atI_nat rfl) (EvF.d (ef_eq (ef_lc (own := [("name", 4)]) (ds := upsD l1) (js := [4]) (p := fun d => inD d (upsD l2)) (f := fun d => d) rfl sc31.nd (blkOk_by (by rfl)) (by decide)
    (ei_list (ev_call G2 hr (ea_cons (ev_var 0 rfl) (ea_cons (ev_var 1 rfl) ea_nil)) ⟨d, t, a, l1, rfl, ht, h1, rfl⟩)) (fun _ _ _ _ _ d hd => eg_name 4 sc31.nd) (fun _ _ _ _ _ d hd => ?_) (fun _ _ _ _ _ d hd _ => ev_var 4 rfl)) ?_)) ev_int) .rt
  · obtain ⟨z, _, rfl⟩ := List.mem_map.mp hd
    exact ets_one (et_inL (d := .str (upS z)) hr ((enc_up (n := 0)).ok z).shp ((enc_up (n := 0)).okList l2).shp rfl (ev_var 4 rfl) (ev_var 3 rfl))
  · unfold upsD meets
    rw [List.map_id', List.filter_map]
    congr 1
    apply List.filter_congr
    intro z _
    exact (enc_up (n := 0)).inD2 z l2
/-! ### check_program -/
theorem sc32 : FnScope ["tree", "program", "ends", "word", "stream"] ["tree", "program"] (defScope (top 32)) := ⟨rfl, rfl, rfl, by decide +kernel, rfl, by decide +kernel, by decide +kernel⟩
def rCheckP : List DV → DV → Prop := fun xs y => ∃ d t ds, xs = [.d d, .ob (deedsD ds)] ∧ TreeD d t ∧ Fits t ds ∧ y = .d .none
theorem ok_checkP (F : Fun K "check_program" "check_program" (top 32) f fd) (M : Mg mg) (hc : PCls K C) (G0 : GDeeds P w K mg base C) (G1 : Gf P w K mg base "check_stream" 12 (spD ⟨P, w, K, C⟩ rCheck)) (G2 : Gf P w K mg base "leaves" 12 (spD ⟨P, w, K, C⟩ rLeaves)) :
    FnOk P w K mg base CX0 13 f fd ["tree", "program"] (spD ⟨P, w, K, C⟩ rCheckP) := by
  refine fn_D F sc32 (fun xs y h => by obtain ⟨d, t, ds, rfl, _⟩ := h; rfl) (fun cdv A outer s H E xs y hr h => ?_)
  obtain ⟨d, t, ds, rfl, ht, hf, rfl⟩ := h
  obtain ⟨tW, hW⟩ := M.WRITE
  refine sts_let (x := .d (nmsD (leavesM t))) 2 (ev_call G2 hr (ea_cons (ev_var 0 rfl) ea_nil) ⟨d, t, rfl, ht, rfl⟩) ?_ sc32.nd
  refine sts_for (ds := ds.map deedD) (fun i ρ => ∃ s3 s4, ρ = [.i (.d d), .i (.ob (deedsD ds)), .i (.d (nmsD (leavesM t))), s3, s4]) (fun z _ => [.i (.d d), .i (.ob (deedsD ds)), .i (.d (nmsD (leavesM t))), .i (.d (dAt z 0)), .i (.d (dAt z 1))])
    (ei_tup (ev_prop hc.c G0 (hr.mono (by decide)) (ev_var 1 rfl) ⟨_, rfl, rfl⟩)) ⟨.no, .no, rfl⟩ ?_ ?_ ?_
  · rintro i z ρi hz ⟨s3, s4, rfl⟩
    obtain ⟨y, hy, rfl⟩ := Option.map_eq_some_iff.mp (by rw [← List.getElem?_map]; exact hz)
    exact ⟨_, eg_tup rfl (egs_cons (eg_name 3 sc32.nd) (egs_cons (eg_name 4 sc32.nd) egs_nil))⟩
  · rintro i z ρi hz ⟨s3, s4, rfl⟩
    obtain ⟨y, hy, rfl⟩ := Option.map_eq_some_iff.mp (by rw [← List.getElem?_map]; exact hz)
    have hmem : y ∈ ds := List.mem_of_getElem? hy
    refine sts_expr (ev_call G1 hr (ea_cons (ev_var 0 rfl) (ea_cons (ev_var 4 rfl) ea_nil)) ⟨d, t, y.2, rfl, ht, hf.nm y hmem, rfl⟩) ?_
    refine sts_ifF ?_ (sts_nil ⟨_, _, rfl⟩)
    cases hw : y.1 with
    | false => exact EvW.t (ew_and (k := false) (m := true) (et_eq (d := .str (wordS y.1)) hr (okD_str (n := 0) (wordS_ok _)).shp (okD_str (n := 0) strOk_write).shp (by rw [hw]; exact word_eq false) (ev_var 3 rfl) (ev_gstr hW)) fun z => nomatch z)
    | true => exact EvW.t (ew_and (k := true) (m := false) (et_eq (d := .str (wordS y.1)) hr (okD_str (n := 0) (wordS_ok _)).shp (okD_str (n := 0) strOk_write).shp (by rw [hw]; exact word_eq true) (ev_var 3 rfl) (ev_gstr hW)) fun _ => ew_and1 (et_niT (d := nmD y.2) (ds := (leavesM t).map nmD) hr ((enc_nm (n := 0)).ok _).shp ((enc_nm (n := 0)).okTup _).shp (by rw [(enc_nm (n := 0)).inD2, decide_eq_true (hf.lf y hmem hw)]; rfl) (ev_var 4 rfl) (ev_var 2 rfl)))
  · rintro ρn ⟨s3, s4, rfl⟩
    exact sts_nil .nx
/-! ### births_of -/
theorem sc33 : FnScope ["program", "place", "word", "stream", "places"] ["program"] (defScope (top 33)) := ⟨rfl, rfl, rfl, by decide +kernel, rfl, by decide +kernel, by decide +kernel⟩
def rBirths : List DV → DV → Prop := fun xs y => ∃ ds, xs = [.ob (deedsD ds)] ∧ ds.length ≤ 1000 ∧ y = .dn (birthsN ds)
abbrev GLines (P : Program) (w : World) (K : PySem.W.Frag) (mg : Str → Option Value) (base : Heap) (C : Addr) : Prop := Gp P w K mg base C "lines" 4 (spD ⟨P, w, K, C⟩ rLines)
theorem ok_births (F : Fun K "births_of" "births_of" (top 33) f fd) (M : Mg mg) (hc : PCls K C) (G0 : GDeeds P w K mg base C) (G1 : GLines P w K mg base C) : FnOk P w K mg base CX0 6 f fd ["program"] (spD ⟨P, w, K, C⟩ rBirths) := by
  refine fn_D F sc33 (fun xs y h => by obtain ⟨d, rfl, _⟩ := h; rfl) (fun cdv A outer s H E xs y hr h => ?_)
  obtain ⟨ds, rfl, hl, rfl⟩ := h
  obtain ⟨tW, hW⟩ := M.WRITE
  refine sts_lc 4 (own := [("place", 1), ("word", 2), ("stream", 3)]) (ds := enumD (ds.map deedD)) (js := [1, 2, 3]) (p := enW) (f := fun d => dAt d 0)
    (ρ' := fun d => [.i (.ob (deedsD ds)), .i (.d (dAt d 0)), .i (.d (dAt (dAt d 1) 0)), .i (.d (dAt (dAt d 1) 1)), .no]) rfl sc33.nd (blkOk_by (by rfl)) (by decide) (ei_enumT M.enum (ev_prop hc.c G0 (hr.mono (by decide)) (ev_var 0 rfl) ⟨_, rfl, rfl⟩)) (fun _ _ _ _ _ d hd => ?_) (fun _ _ _ _ _ d hd => ?_) (fun _ _ _ _ _ d hd _ => ev_var 1 rfl) (places_eq ds) ?_
  · obtain ⟨i, x, hx, rfl⟩ := mem_enumD hd
    obtain ⟨y, hy, rfl⟩ := Option.map_eq_some_iff.mp (by rw [← List.getElem?_map]; exact hx)
    exact eg_tup rfl (egs_cons (eg_name 1 sc33.nd) (egs_cons (eg_tup rfl (egs_cons (eg_name 2 sc33.nd) (egs_cons (eg_name 3 sc33.nd) egs_nil))) egs_nil))
  · obtain ⟨i, x, hx, rfl⟩ := mem_enumD hd
    obtain ⟨y, hy, rfl⟩ := Option.map_eq_some_iff.mp (by rw [← List.getElem?_map]; exact hx)
    exact ets_one (et_eq hr (okD_str (n := 0) (wordS_ok _)).shp (okD_str (n := 0) strOk_write).shp rfl (ev_var 2 rfl) (ev_gstr hW))
  have hk : ((numb ds).map lineK).map NestedKey.data = (numb ds).map lineD := by
    rw [List.map_map]
    exact List.map_congr_left fun l _ => lineK_data l
  refine sts_ret (x := .dn (((numb ds).map lineK).zip (intsD (wr ds)))) (ev_dictZip (ks := (numb ds).map lineK) (vals := intsD (wr ds)) (fun k hk => by
    obtain ⟨l, _, rfl⟩ := List.mem_map.mp hk
    exact keyOk_line l) (nodup_map_inj (fun a _ b _ h => lineK_inj a b h) (numb_nodup ds)) hr (by rw [hk]; exact ev_prop hc.c G1 hr (ev_var 0 rfl) ⟨ds, rfl, hl, rfl⟩) (ev_var 4 rfl) M.dict M.zip) ?_
  rw [birthsN_zip]
  exact .rt
end
end DL
set_option maxRecDepth 100000
set_option maxHeartbeats 4000000
/-! walks, 11: reached, met_at -/
namespace DL
open PySem PySem.Spec PyProof.Rows L2 SlX
/-! ### models -/
open Classical in
/-- what stands above a -/
noncomputable def way (t : Tree) (a : Nm) : List (Option Nm) := if h : ∃ l, IsUps t (some a) l then h.choose else []
theorem way_is {t : Tree} (ok : TreeOk t) {a : Nm} (h : a ∈ tnames t) : IsUps t (some a) (way t a) := by
  unfold way
  rw [dif_pos (isUps_ex ok h)]
  exact (isUps_ex ok h).choose_spec
noncomputable def meet (t : Tree) (a b : Nm) : Option Nm := ((meets (way t a) (way t b)).head?).getD none
theorem meet_is {t : Tree} (ok : TreeOk t) {a b : Nm} (ha : a ∈ tnames t) (hb : b ∈ tnames t) : ∃ r, meets (way t a) (way t b) = meet t a b :: r := by
  unfold meet
  cases e : meets (way t a) (way t b) with
  | cons m r => exact ⟨r, rfl⟩
  | nil =>
    have : none ∈ meets (way t a) (way t b) := List.mem_filter.mpr ⟨isUps_none (way_is ok ha) (fun z => nomatch z), decide_eq_true (isUps_none (way_is ok hb) (fun z => nomatch z))⟩
    rw [e] at this
    cases this
theorem meet_mem {t : Tree} (ok : TreeOk t) {a b : Nm} (ha : a ∈ tnames t) (hb : b ∈ tnames t) : meet t a b ∈ way t a := by
  obtain ⟨r, h⟩ := meet_is ok ha hb
  have : meet t a b ∈ meets (way t a) (way t b) := by
    rw [h]
    exact List.mem_cons_self
  exact (List.mem_filter.mp this).1
/-- when a line that is at h from p on comes to m, l the way above h -/
def rch (ds : List Deed) (m : Option Nm) : List (Option Nm) → Option Nm → Option Nat → Option Nat
  | [], _, p => p
  | b :: l, h, p => if h = m then p else match h, p with
    | some s, some q => rch ds m l b (ff ds s q)
    | _, _ => p
theorem rch_at (ds : List Deed) (m : Option Nm) (l : List (Option Nm)) (p : Option Nat) : rch ds m l m p = p := by
  cases l with
  | nil => rfl
  | cons b l =>
    unfold rch
    rw [if_pos rfl]
theorem rch_none (ds : List Deed) (m : Option Nm) (l : List (Option Nm)) (h : Option Nm) : rch ds m l h none = none := by
  cases l with
  | nil => rfl
  | cons b l =>
    unfold rch
    split
    · rfl
    · cases h <;> rfl
theorem rch_go {ds : List Deed} {m : Option Nm} {l : List (Option Nm)} {b : Option Nm} {s : Nm} {q : Nat} (h : some s ≠ m) : rch ds m (b :: l) (some s) (some q) = rch ds m l b (ff ds s q) := by
  show (if some s = m then some q else rch ds m l b (ff ds s q)) = _
  rw [if_neg h]
noncomputable def metM (t : Tree) (ds : List Deed) (a : Nm) (b : Nat) (s : Nm) : Option Nat := rch ds (meet t a s) (way t a) (some a) (some b)
theorem isNone_opt (o : Option Nat) : isNone (optD o) = o.isNone := by cases o <;> rfl
section
variable {P : Program} {w : World} {K : PySem.W.Frag} {mg : Str → Option Value} {base : Heap} {C : Addr} {f : Addr} {fd : FuncData}
/-! ### reached -/
theorem sc34 : FnScope ["tree", "program", "line", "birth", "name", "above", "place", "here"] ["tree", "program", "line", "birth", "name"] (defScope (top 34)) := ⟨rfl, rfl, rfl, by decide +kernel, rfl, by decide +kernel, by decide +kernel⟩
def rReached : List DV → DV → Prop := fun xs y => ∃ d t ds l b m us, xs = [.d d, .ob (deedsD ds), .d (lineD l), .d (.int (b : Nat)), .d (.str (upS m))] ∧ TreeD d t ∧ IsUps t (some l.1) us ∧ m ∈ us ∧ y = .d (optD (rch ds m us (some l.1) (some b)))
def slAt (ρ : List Sl) (i : Nat) : D := match ρ[i]? with
  | some (Sl.i (DV.d d)) => d
  | _ => .none
theorem ok_reached (F : Fun K "reached" "reached" (top 34) f fd) (M : Mg mg) (G : GTup P w K mg base C) (G2 : Gf P w K mg base "first_flush" 3 (spD ⟨P, w, K, C⟩ rFF)) : FnOk P w K mg base CX0 12 f fd ["tree", "program", "line", "birth", "name"] (spD ⟨P, w, K, C⟩ rReached) := by
  refine fn_D F sc34 (fun xs y h => by obtain ⟨d, t, ds, l, b, m, us, rfl, _⟩ := h; rfl) (fun cdv A outer s H E xs y hr h => ?_)
  obtain ⟨d, t, ds, ln, b, m, us, rfl, ht, hu, hm, rfl⟩ := h
  refine sts_par3 5 6 7 (s := .i (.dk (kvT t))) (t := .i (.d (.int (b : Nat)))) (u := .i (.d (.str ln.1.1))) (ev_above M G hr ht (ev_var 0 rfl)).s (ev_var 3 rfl).s (ev_ix_tup (ds := [.str ln.1.1, .int (ln.2 : Nat)]) (i := 0) rfl (ev_var 2 rfl) ev_int).s ?_ sc34.nd
  refine sts_while (fun k ρ => ∃ (h : Option Nm) (p : Option Nat) (l2 : List (Option Nm)), IsUps t h l2 ∧ (h = m ∨ m ∈ l2) ∧ rch ds m l2 h p = rch ds m us (some ln.1) (some b) ∧ k = l2.length ∧
      ρ = [.i (.d d), .i (.ob (deedsD ds)), .i (.d (lineD ln)), .i (.d (.int (b : Nat))), .i (.d (.str (upS m))), .i (.dk (kvT t)), .i (.d (optD p)), .i (.d (.str (upS h)))])
    (m0 := us.length) ⟨some ln.1, some b, us, hu, .inr hm, rfl, rfl, rfl⟩ (fun ρ => (!PyData.eqv (slAt ρ 7) (.str (upS m))) && !isNone (slAt ρ 6)) ?_ ?_ ?_
  · rintro k ρi ⟨h, p, l2, h1, h2, h3, rfl, rfl⟩
    exact EvW.t (ew_and (et_ne (d := .str (upS h)) (e := .str (upS m)) hr ((enc_up (n := 0)).ok h).shp ((enc_up (n := 0)).ok m).shp rfl (ev_var 7 rfl) (ev_var 4 rfl)) fun _ => ew_and1 (et_notN (d := optD p) (ev_var 6 rfl) ev_none))
  · rintro k ρi ⟨h, p, l2, h1, h2, h3, rfl, rfl⟩ hk
    have hk : ((!PyData.eqv (.str (upS h)) (.str (upS m))) && !isNone (optD p)) = true := hk
    rw [(enc_up (n := 0)).eqv h m, isNone_opt, Bool.and_eq_true, Bool.not_eq_true', Bool.not_eq_true', decide_eq_false_iff_not] at hk
    obtain ⟨k1, k2⟩ := hk
    cases p with
    | none => cases k2
    | some q =>
      cases l2 with
      | nil => exact absurd h2 (fun z => z.elim k1 (fun z => nomatch z))
      | cons c l2 =>
        obtain ⟨x, rfl, hx, rfl, h1⟩ := h1
        refine sts_par 6 7 (s := .i (.d (optD (ff ds x q)))) (t := .i (.d (.str (upS (up t x))))) (ev_call G2 (hr.mono (by decide)) (ea_cons (ev_var 1 rfl) (ea_cons (ev_var 7 rfl) (ea_cons (ev_var 6 rfl) ea_nil))) ⟨ds, x, q, rfl, rfl⟩).s (ev_ixK (kv := .none) hr (get_up hx) (ev_var 5 rfl) (ev_var 7 rfl)).s ?_ sc34.nd
        refine sts_nil ⟨l2.length, Nat.lt_succ_self _, up t x, ff ds x q, l2, h1, ?_, ?_, rfl, rfl⟩
        · rcases h2 with z | z
          · exact absurd z k1
          · exact (List.mem_cons.mp z).imp Eq.symm id
        · rw [← h3, rch_go k1]
  · rintro k ρi ⟨h, p, l2, h1, h2, h3, rfl, rfl⟩ hk
    have hk : ((!PyData.eqv (.str (upS h)) (.str (upS m))) && !isNone (optD p)) = false := hk
    have e : p = rch ds m us (some ln.1) (some b) := by
      rw [← h3]
      rw [(enc_up (n := 0)).eqv h m, isNone_opt] at hk
      cases p with
      | none => exact (rch_none _ _ _ _).symm
      | some q =>
        by_cases z : h = m
        · subst z
          exact (rch_at _ _ _ _).symm
        · rw [decide_eq_false z] at hk
          cases hk
    rw [← e]
    exact sts_ret (ev_var 6 rfl) .rt
/-! ### met_at -/
theorem sc35 : FnScope ["tree", "program", "line", "birth", "stream"] ["tree", "program", "line", "birth", "stream"] (defScope (top 35)) := ⟨rfl, rfl, rfl, by decide +kernel, rfl, by decide +kernel, by decide +kernel⟩
def rMetAt : List DV → DV → Prop := fun xs y => ∃ d t ds l b s, xs = [.d d, .ob (deedsD ds), .d (lineD l), .d (.int (b : Nat)), .d (nmD s)] ∧ TreeD d t ∧ l.1 ∈ tnames t ∧ s ∈ tnames t ∧ y = .d (optD (metM t ds l.1 b s))
theorem ok_metAt (F : Fun K "met_at" "met_at" (top 35) f fd) (M : Mg mg) (G1 : Gf P w K mg base "reached" 12 (spD ⟨P, w, K, C⟩ rReached)) (G2 : Gf P w K mg base "meeting" 13 (spD ⟨P, w, K, C⟩ rMeeting)) : FnOk P w K mg base CX0 14 f fd ["tree", "program", "line", "birth", "stream"] (spD ⟨P, w, K, C⟩ rMetAt) := by
  refine fn_D F sc35 (fun xs y h => by obtain ⟨d, t, ds, l, b, m, rfl, _⟩ := h; rfl) (fun cdv A outer s H E xs y hr h => ?_)
  obtain ⟨d, t, ds, ln, b, st, rfl, ht, h1, h2, rfl⟩ := h
  obtain ⟨r, hm⟩ := meet_is ht.good h1 h2
  refine sts_ret (ev_call G1 (hr.mono (by decide)) (ea_cons (ev_var 0 rfl) (ea_cons (ev_var 1 rfl) (ea_cons (ev_var 2 rfl) (ea_cons (ev_var 3 rfl) (ea_cons
    (ev_call G2 hr (ea_cons (ev_var 0 rfl) (ea_cons (ev_ix_tup (ds := [.str ln.1.1, .int (ln.2 : Nat)]) (i := 0) (d := nmD ln.1) rfl (ev_var 2 rfl) ev_int) (ea_cons (ev_var 4 rfl) ea_nil))) ⟨d, t, ln.1, st, _, _, meet t ln.1 st, r, rfl, ht, way_is ht.good h1, way_is ht.good h2, h1, h2, hm, rfl⟩) ea_nil)))))
    ⟨d, t, ds, ln, b, meet t ln.1 st, _, rfl, ht, way_is ht.good h1, meet_mem ht.good h1 h2, rfl⟩) .rt
end
end DL
set_option maxRecDepth 100000
set_option maxHeartbeats 4000000
/-! walks, 12: is_sure_in -/
namespace DL
open PySem PySem.Spec PyProof.Rows L2 SlX
/-! ### models -/
def birthOf (ds : List Deed) (l : Line) : Nat := ((wr ds).find? fun i => decide (lnAt ds i = l)).getD 0
theorem mem_numb {ds : List Deed} {l : Line} : l ∈ numb ds ↔ ∃ i, ds[i]? = some (true, l.1) ∧ lnAt ds i = l := by
  unfold numb
  rw [List.mem_map]
  constructor
  · rintro ⟨i, hi, rfl⟩
    obtain ⟨s, h⟩ := mem_wr.mp hi
    refine ⟨i, ?_, rfl⟩
    rw [lnAt_eq h]
    exact h
  · rintro ⟨i, h, e⟩
    exact ⟨i, mem_wr.mpr ⟨_, h⟩, e⟩
theorem birthOf_is {ds : List Deed} {l : Line} (h : l ∈ numb ds) : birthOf ds l ∈ wr ds ∧ lnAt ds (birthOf ds l) = l ∧ ((wr ds).find? fun i => decide (lnAt ds i = l)) = some (birthOf ds l) := by
  obtain ⟨i, hi, e⟩ := List.mem_map.mp h
  unfold birthOf
  cases q : (wr ds).find? fun i => decide (lnAt ds i = l) with
  | none => exact absurd (decide_eq_true e) (List.find?_eq_none.mp q i hi)
  | some j =>
    have q2 := List.find?_some q
    exact ⟨List.mem_of_find?_eq_some q, of_decide_eq_true q2, rfl⟩
theorem birthOf_eq {ds : List Deed} {i : Nat} (h : i ∈ wr ds) : birthOf ds (lnAt ds i) = i := by
  obtain ⟨h1, h2, _⟩ := birthOf_is (ds := ds) (l := lnAt ds i) (List.mem_map.mpr ⟨i, h, rfl⟩)
  exact lnAt_inj h1 h h2
theorem kfind_births {ds : List Deed} {l : Line} : kfind (birthsN ds) (lineK l) = ((wr ds).find? fun i => decide (lnAt ds i = l)).map fun i => .int (i : Nat) := by
  unfold kfind birthsN
  rw [List.find?_map]
  have : (fun x : NestedKey × D => decide (x.1 = lineK l)) ∘ (fun i : Nat => (lineK (lnAt ds i), PyData.int (i : Nat))) = fun i => decide (lnAt ds i = l) := by
    funext i
    exact decide_eq_decide.mpr ⟨fun q => lineK_inj _ _ q, fun q => congrArg lineK q⟩
  rw [this, Option.map_map]
  rfl
theorem birth_get {ds : List Deed} {l : Line} (h : l ∈ numb ds) : kfind (birthsN ds) (lineK l) = some (.int (birthOf ds l : Nat)) := by
  rw [kfind_births, (birthOf_is h).2.2]
  rfl
theorem birth_at {ds : List Deed} {l : Line} (h : l ∈ numb ds) : ds[birthOf ds l]? = some (true, l.1) := by
  obtain ⟨h1, h2, _⟩ := birthOf_is h
  obtain ⟨s, h3⟩ := mem_wr.mp h1
  rw [lnAt_eq h3] at h2
  rw [h3, ← h2]
theorem Fits.line {t : Tree} {ds : List Deed} (hf : Fits t ds) {l : Line} (h : l ∈ numb ds) : l.1 ∈ tnames t := hf.nm _ (List.mem_of_getElem? (birth_at h))
noncomputable def sureM (t : Tree) (ds : List Deed) (x y : Line) : Bool := if x.1 = y.1 then decide (x.2 < y.2) else aheadM (metM t ds x.1 (birthOf ds x) y.1) (birthOf ds y)
theorem tupD_line (l : Line) : tupD (lineD l) = lineD l := by simp [lineD, tupD, tupDs]
section
variable {P : Program} {w : World} {K : PySem.W.Frag} {mg : Str → Option Value} {base : Heap} {C : Addr} {f : Addr} {fd : FuncData}
/-! ### is_sure_in -/
theorem sc37 : FnScope ["tree", "program", "one", "other", "births", "mine", "its", "line"] ["tree", "program", "one", "other"] (defScope (top 37)) := ⟨rfl, rfl, rfl, by decide +kernel, rfl, by decide +kernel, by decide +kernel⟩
def rSure : List DV → DV → Prop := fun xs y => ∃ d t ds a b, xs = [.d d, .ob (deedsD ds), .d (lineD a), .d (lineD b)] ∧ TreeD d t ∧ Fits t ds ∧ a ∈ numb ds ∧ b ∈ numb ds ∧ y = .d (.bool (sureM t ds a b))
theorem ok_sure (F : Fun K "is_sure_in" "is_sure_in" (top 37) f fd) (M : Mg mg) (G : GTup P w K mg base C) (G1 : Gf P w K mg base "check_program" 13 (spD ⟨P, w, K, C⟩ rCheckP)) (G2 : Gf P w K mg base "births_of" 6 (spD ⟨P, w, K, C⟩ rBirths)) (G3 : Gf P w K mg base "met_at" 14 (spD ⟨P, w, K, C⟩ rMetAt))
    (G4 : Gf P w K mg base "is_ahead" 1 (spD ⟨P, w, K, C⟩ rAhead)) : FnOk P w K mg base CX0 15 f fd ["tree", "program", "one", "other"] (spD ⟨P, w, K, C⟩ rSure) := by
  refine fn_D F sc37 (fun xs y h => by obtain ⟨d, t, ds, a, b, rfl, _⟩ := h; rfl) (fun cdv A outer s H E xs y hr h => ?_)
  obtain ⟨d, t, ds, a, b, rfl, ht, hf, ha, hb, rfl⟩ := h
  have hl : ds.length ≤ 1000 := Nat.le_trans hf.len (by decide)
  refine sts_expr (ev_call G1 (hr.mono (by decide)) (ea_cons (ev_var 0 rfl) (ea_cons (ev_var 1 rfl) ea_nil)) ⟨d, t, ds, rfl, ht, hf, rfl⟩) ?_
  refine sts_par3 4 5 6 (s := .i (.dn (birthsN ds))) (t := .i (.d (lineD a))) (u := .i (.d (lineD b))) (ev_call G2 (hr.mono (by decide)) (ea_cons (ev_var 1 rfl) ea_nil) ⟨ds, rfl, hl, rfl⟩).s
    (ev_call G (hr.mono (by decide)) (ea_cons (ev_var 2 rfl) ea_nil) ⟨lineD a, rfl, (enc_line (n := 9)).ok a, by rw [tupD_line]⟩).s (ev_call G (hr.mono (by decide)) (ea_cons (ev_var 3 rfl) ea_nil) ⟨lineD b, rfl, (enc_line (n := 9)).ok b, by rw [tupD_line]⟩).s ?_ sc37.nd
  have hkey : ∀ {X : Cx} {i : Nat} {n : Str} {p : Pos} {ρ : List Sl} {l : Line}, Ev C X (.Name n p) ρ (.d (lineD l)) → Ev C X (.Name n p) ρ (.d (lineK l).data) := fun h => by rwa [lineK_data]
  have hin : ∀ {l : Line}, l ∈ numb ds → (!(kfind (birthsN ds) (lineK l)).isSome) = false := fun h => by rw [birth_get h]; rfl
  refine sts_for (ds := [lineD a, lineD b]) (fun i ρ => ∃ s7, ρ = [.i (.d d), .i (.ob (deedsD ds)), .i (.d (lineD a)), .i (.d (lineD b)), .i (.dn (birthsN ds)), .i (.d (lineD a)), .i (.d (lineD b)), s7])
    (fun z _ => [.i (.d d), .i (.ob (deedsD ds)), .i (.d (lineD a)), .i (.d (lineD b)), .i (.dn (birthsN ds)), .i (.d (lineD a)), .i (.d (lineD b)), .i (.d z)])
    (ei_tup (ev_pair (ev_var 5 rfl) (ev_var 6 rfl))) ⟨.no, rfl⟩ ?_ ?_ ?_
  · rintro i z ρi hz ⟨s7, rfl⟩
    exact ⟨_, eg_name 7 sc37.nd⟩
  · rintro i z ρi hz ⟨s7, rfl⟩
    obtain ⟨l, hl2, rfl⟩ : ∃ l, l ∈ numb ds ∧ z = lineD l := by
      rcases List.mem_cons.mp (List.mem_of_getElem? hz) with rfl | hz
      · exact ⟨a, ha, rfl⟩
      · rw [List.mem_singleton.mp hz]
        exact ⟨b, hb, rfl⟩
    exact sts_ifF (et_niN hr (keyOk_line l) (hin hl2) (hkey (i := 0) (ev_var 7 rfl)) (ev_var 4 rfl)) (sts_nil ⟨_, rfl⟩)
  rintro ρn ⟨s7, rfl⟩
  have at0 : ∀ {X : Cx} {n : Str} {p p2 p3 : Pos} {k : Nat} {ρ : List Sl} {l : Line}, Ev C X (.Name n p) ρ (.d (lineD l)) → Ev C X (.Subscript (.Name n p) (.Constant (.int 0) k p2) p3) ρ (.d (nmD l.1)) := fun {X n p p2 p3 k ρ l} h => ev_ix_tup (ds := [.str l.1.1, .int (l.2 : Nat)]) (i := 0) rfl h ev_int
  have at1 : ∀ {X : Cx} {n : Str} {p p2 p3 : Pos} {k : Nat} {ρ : List Sl} {l : Line}, Ev C X (.Name n p) ρ (.d (lineD l)) → Ev C X (.Subscript (.Name n p) (.Constant (.int 1) k p2) p3) ρ (.d (.int (l.2 : Nat))) := fun {X n p p2 p3 k ρ l} h => ev_ix_tup (ds := [.str l.1.1, .int (l.2 : Nat)]) (i := 1) rfl h ev_int
  refine sts_if (k := decide (a.1 = b.1)) (et_eq hr ((enc_nm (n := 0)).ok a.1).shp ((enc_nm (n := 0)).ok b.1).shp ((enc_nm (n := 0)).eqv a.1 b.1) (at0 (ev_var 5 rfl)) (at0 (ev_var 6 rfl))) (fun hk => ?_) (fun hk => ?_)
  · have e : sureM t ds a b = decide ((a.2 : Int) < (b.2 : Int)) := by
      unfold sureM
      rw [if_pos (of_decide_eq_true hk)]
      exact decide_eq_decide.mpr Int.ofNat_lt.symm
    rw [e]
    exact sts_ret (ev_lt (at1 (ev_var 5 rfl)) (at1 (ev_var 6 rfl))) .rt
  · have e : sureM t ds a b = aheadM (metM t ds a.1 (birthOf ds a) b.1) (birthOf ds b) := by
      unfold sureM
      rw [if_neg (of_decide_eq_false hk)]
    rw [e]
    refine sts_nil (sts_ret (ev_call G4 (hr.mono (by decide)) (ea_cons (ev_call G3 hr (ea_cons (ev_var 0 rfl) (ea_cons (ev_var 1 rfl) (ea_cons (ev_var 5 rfl) (ea_cons (ev_ixN hr (keyOk_line a) (birth_get ha) (ev_var 4 rfl) (hkey (i := 0) (ev_var 5 rfl))) (ea_cons (at0 (ev_var 6 rfl)) ea_nil))))) ⟨d, t, ds, a, birthOf ds a, b.1, rfl, ht, hf.line ha, hf.line hb, rfl⟩)
      (ea_cons (ev_ixN hr (keyOk_line b) (birth_get hb) (ev_var 4 rfl) (hkey (i := 0) (ev_var 6 rfl))) ea_nil)) ⟨_, _, rfl, rfl⟩) .rt)
end
end DL
set_option maxRecDepth 100000
set_option maxHeartbeats 4000000
/-! walks, 13: what table_in computes -/
namespace DL
open PySem PySem.Spec PyProof.Rows L2 SlX
/-! ### a dict of counts -/
structure Many (c : Nm → Nat) (kvs : SD) : Prop where
  ex : ∃ ns : List Nm, ns.Nodup ∧ kvs = ns.map (fun s => (s.1, .int (c s : Nat))) ∧ ∀ s, s ∈ ns ↔ 0 < c s
theorem many_nil : Many (fun _ => 0) [] := ⟨[], List.nodup_nil, rfl, fun s => ⟨fun h => (by cases h), fun h => absurd h (Nat.lt_irrefl _)⟩⟩
theorem sfind_ns (c : Nm → Nat) (ns : List Nm) (s : Nm) : sfind (ns.map fun s => (s.1, .int (c s : Nat))) s.1 = if s ∈ ns then some (.int (c s : Nat)) else none := by
  unfold sfind
  induction ns with
  | nil => rfl
  | cons x ns ih =>
    rw [List.map_cons, List.find?_cons]
    by_cases e : x = s
    · subst e
      simp
    · have e2 : ¬ x.1 = s.1 := fun z => e (Subtype.ext z)
      simp only [e2, decide_false]
      rw [ih]
      have : (s ∈ x :: ns) ↔ s ∈ ns := by
        rw [List.mem_cons]
        exact ⟨fun z => z.elim (fun q => absurd q.symm e) id, .inr⟩
      simp only [this]
theorem Many.get {c : Nm → Nat} {kvs : SD} (h : Many c kvs) (s : Nm) : (sfind kvs s.1).getD (.int 0) = .int (c s : Nat) := by
  obtain ⟨ns, h1, rfl, h3⟩ := h.ex
  rw [sfind_ns]
  split
  · rfl
  · rename_i q
    have : c s = 0 := Nat.eq_zero_of_not_pos fun z => q ((h3 s).mpr z)
    rw [this]
    rfl
theorem Many.put {c : Nm → Nat} {kvs : SD} (h : Many c kvs) (s : Nm) {v : Nat} (hv : 0 < v) : Many (fun x => if x = s then v else c x) (sput kvs s.1 (.int (v : Nat))) := by
  obtain ⟨ns, h1, rfl, h3⟩ := h.ex
  have hany : ((ns.map fun s => (s.1, PyData.int (c s : Nat))).any fun x => decide (x.1 = s.1)) = decide (s ∈ ns) := by
    rw [List.any_map, Bool.eq_iff_iff, List.any_eq_true, decide_eq_true_eq]
    constructor
    · rintro ⟨x, hx, e⟩
      have : x = s := Subtype.ext (of_decide_eq_true e)
      rwa [← this]
    · intro hs
      exact ⟨s, hs, decide_eq_true rfl⟩
  unfold sput
  rw [hany]
  by_cases hs : s ∈ ns
  · rw [if_pos (decide_eq_true hs)]
    refine ⟨ns, h1, ?_, fun x => ?_⟩
    · rw [List.map_map]
      apply List.map_congr_left
      intro x _
      show (if x.1 = s.1 then (x.1, PyData.int (v : Nat)) else (x.1, PyData.int (c x : Nat))) = (x.1, PyData.int ((if x = s then v else c x : Nat) : Nat))
      by_cases e : x = s
      · rw [if_pos e, if_pos (congrArg Subtype.val e)]
      · rw [if_neg e, if_neg fun z => e (Subtype.ext z)]
    · by_cases e : x = s
      · rw [if_pos e]
        exact ⟨fun _ => hv, fun _ => e ▸ hs⟩
      · rw [if_neg e]
        exact h3 x
  · rw [if_neg (by rw [decide_eq_false hs]; exact Bool.false_ne_true)]
    refine ⟨ns ++ [s], ?_, ?_, fun x => ?_⟩
    · rw [List.nodup_append]
      exact ⟨h1, List.nodup_cons.mpr ⟨(fun z => by cases z), List.nodup_nil⟩, fun a ha b hb => by
        rw [List.mem_singleton.mp hb]
        rintro rfl
        exact hs ha⟩
    · rw [List.map_append]
      congr 1
      · apply List.map_congr_left
        intro x hx
        have e : ¬ x = s := fun z => hs (z ▸ hx)
        simp only [e, if_false]
      · simp
    · rw [List.mem_append, List.mem_singleton]
      by_cases e : x = s
      · rw [if_pos e]
        exact ⟨fun _ => hv, fun _ => .inr e⟩
      · rw [if_neg e]
        exact ⟨fun z => z.elim (h3 x).mp (fun q => absurd q e), fun z => .inl ((h3 x).mpr z)⟩
theorem Many.keys {c : Nm → Nat} {kvs : SD} (h : Many c kvs) : (kvs.map (·.1)).Nodup := by
  obtain ⟨ns, h1, rfl, h3⟩ := h.ex
  rw [List.map_map]
  exact nodup_map_inj (fun a _ b _ e => Subtype.ext e) h1
/-! ### tuple keys -/
theorem kfind_no {β : Type} {kvs : List (NestedKey × β)} {k : NestedKey} (h : ∀ x ∈ kvs, x.1 ≠ k) : kfind kvs k = none := by
  unfold kfind
  rw [List.find?_eq_none.mpr fun x hx => by simpa using h x hx]
  rfl
theorem kfind_yes {β : Type} {kvs : List (NestedKey × β)} {k : NestedKey} {v : β} (h : ∃ x ∈ kvs, x.1 = k) (hv : ∀ x ∈ kvs, x.1 = k → x.2 = v) : kfind kvs k = some v := by
  unfold kfind
  cases e : kvs.find? fun x => decide (x.1 = k) with
  | none =>
    obtain ⟨x, hx, q⟩ := h
    exact absurd (decide_eq_true q) (List.find?_eq_none.mp e x hx)
  | some x =>
    have q := List.find?_some e
    rw [Option.map_some, hv x (List.mem_of_find?_eq_some e) (of_decide_eq_true q)]
def knK (l : Line) (s : Nm) : NestedKey := .tup [lineK l, .text s.1]
theorem knK_data (l : Line) (s : Nm) : (knK l s).data = .tuple [lineD l, nmD s] := by
  simp [knK, NestedKey.data, NestedKey.datas, lineK_data, nmD]
theorem knK_ok (l : Line) (s : Nm) : KeyOk (knK l s) := by
  refine ⟨⟨_, rfl⟩, ?_⟩
  simp [knK, lineK, NestedKey.depth, NestedKey.depthAll]
theorem knK_inj {l l' : Line} {s s' : Nm} (h : knK l s = knK l' s') : l = l' ∧ s = s' := by
  have e : NestedKey.tup [lineK l, .text s.1] = .tup [lineK l', .text s'.1] := h
  injection e with e
  injection e with e1 e2
  injection e2 with e2 _
  injection e2 with e2
  exact ⟨lineK_inj _ _ e1, Subtype.ext e2⟩
/-! ### the table -/
def lineLe (a b : Line) : Bool := PySem.W.dataLe false lineD a b
/-- the lines, sorted -/
def lns (ds : List Deed) : List Line := (numb ds).mergeSort lineLe
theorem mem_lns {ds : List Deed} {l : Line} : l ∈ lns ds ↔ l ∈ numb ds := by
  unfold lns
  rw [List.mem_mergeSort]
theorem lns_nodup (ds : List Deed) : (lns ds).Nodup := by
  unfold lns
  rw [(List.mergeSort_perm _ _).nodup_iff]
  exact numb_nodup ds
theorem lns_len (ds : List Deed) : (lns ds).length ≤ ds.length := by
  unfold lns numb
  rw [List.length_mergeSort, List.length_map]
  unfold wr
  have := (List.filter_sublist (l := List.range ds.length) (p := isW ds)).length_le
  rwa [List.length_range] at this
theorem strms_len (ds : List Deed) : (strms ds).length ≤ ds.length := by
  have h := len_le_of (strms_nodup ds) (m := ds.map (·.2)) fun a ha => List.mem_map.mpr ⟨_, mem_strms.mp ha, rfl⟩
  rwa [List.length_map] at h
noncomputable def kvOf (t : Tree) (ds : List Deed) (l : Line) (s : Nm) : NestedKey × D := (knK l s, optD (metM t ds l.1 (birthOf ds l) s))
noncomputable def rowK (t : Tree) (ds : List Deed) (l : Line) (ss : List Nm) : List (NestedKey × D) := (ss.filter fun s => decide (s ≠ l.1)).map (kvOf t ds l)
noncomputable def knownL (t : Tree) (ds : List Deed) (ls : List Line) : List (NestedKey × D) := ls.flatMap fun l => rowK t ds l (strms ds)
theorem mem_rowK {t : Tree} {ds : List Deed} {l : Line} {ss : List Nm} {x : NestedKey × D} : x ∈ rowK t ds l ss ↔ ∃ s ∈ ss, s ≠ l.1 ∧ x = kvOf t ds l s := by
  unfold rowK
  rw [List.mem_map]
  constructor
  · rintro ⟨s, hs, rfl⟩
    rw [List.mem_filter, decide_eq_true_eq] at hs
    exact ⟨s, hs.1, hs.2, rfl⟩
  · rintro ⟨s, hs, hn, rfl⟩
    exact ⟨s, List.mem_filter.mpr ⟨hs, decide_eq_true hn⟩, rfl⟩
theorem mem_knownL {t : Tree} {ds : List Deed} {ls : List Line} {x : NestedKey × D} : x ∈ knownL t ds ls ↔ ∃ l ∈ ls, ∃ s ∈ strms ds, s ≠ l.1 ∧ x = kvOf t ds l s := by
  unfold knownL
  rw [List.mem_flatMap]
  exact ⟨fun ⟨l, hl, h⟩ => ⟨l, hl, mem_rowK.mp h⟩, fun ⟨l, hl, h⟩ => ⟨l, hl, mem_rowK.mpr h⟩⟩
theorem rowK_len (t : Tree) (ds : List Deed) (l : Line) (ss : List Nm) : (rowK t ds l ss).length ≤ ss.length := by
  unfold rowK
  rw [List.length_map]
  exact List.length_filter_le _ _
theorem knownL_len (t : Tree) (ds : List Deed) (ls : List Line) : (knownL t ds ls).length ≤ ls.length * (strms ds).length := by
  induction ls with
  | nil => exact Nat.zero_le _
  | cons l ls ih =>
    have : knownL t ds (l :: ls) = rowK t ds l (strms ds) ++ knownL t ds ls := rfl
    rw [this, List.length_append, List.length_cons, Nat.succ_mul]
    have := rowK_len t ds l (strms ds)
    omega
theorem knownL_snoc (t : Tree) (ds : List Deed) (ls : List Line) (l : Line) : knownL t ds (ls ++ [l]) = knownL t ds ls ++ rowK t ds l (strms ds) := by
  unfold knownL
  rw [List.flatMap_append]
  simp
theorem rowK_snoc (t : Tree) (ds : List Deed) (l : Line) (ss : List Nm) (s : Nm) : rowK t ds l (ss ++ [s]) = rowK t ds l ss ++ if s = l.1 then [] else [kvOf t ds l s] := by
  unfold rowK
  rw [List.filter_append, List.map_append]
  by_cases e : s = l.1
  · simp [e]
  · simp [e]
theorem known_get {t : Tree} {ds : List Deed} {ls : List Line} {l : Line} {s : Nm} (hl : l ∈ ls) (hs : s ∈ strms ds) (hn : s ≠ l.1) : kfind (knownL t ds ls) (knK l s) = some (optD (metM t ds l.1 (birthOf ds l) s)) := by
  refine kfind_yes ⟨_, mem_knownL.mpr ⟨l, hl, s, hs, hn, rfl⟩, rfl⟩ fun x hx e => ?_
  obtain ⟨l', _, s', _, _, rfl⟩ := mem_knownL.mp hx
  obtain ⟨rfl, rfl⟩ := knK_inj e
  rfl
theorem known_new {t : Tree} {ds : List Deed} {ls : List Line} {l : Line} {ss : List Nm} {s : Nm} (hl : l ∉ ls) (hs : s ∉ ss) : kfind (knownL t ds ls ++ rowK t ds l ss) (knK l s) = none := by
  refine kfind_no fun x hx e => ?_
  rcases List.mem_append.mp hx with q | q
  · obtain ⟨l', h1, s', _, _, rfl⟩ := mem_knownL.mp q
    obtain ⟨rfl, _⟩ := knK_inj e
    exact hl h1
  · obtain ⟨s', h1, _, rfl⟩ := mem_rowK.mp q
    obtain ⟨_, rfl⟩ := knK_inj e
    exact hs h1
/-- is o, of another stream, surely ahead of l? -/
noncomputable def hit (t : Tree) (ds : List Deed) (l o : Line) : Bool := decide (o.1 ≠ l.1) && aheadM (metM t ds o.1 (birthOf ds o) l.1) (birthOf ds l)
noncomputable def cU (t : Tree) (ds : List Deed) (l : Line) (os : List Line) (s : Nm) : Nat := (os.filter fun o => decide (o.1 = s) && hit t ds l o).length
theorem cU_snoc (t : Tree) (ds : List Deed) (l : Line) (os : List Line) (o : Line) (s : Nm) : cU t ds l (os ++ [o]) s = cU t ds l os s + if o.1 = s ∧ hit t ds l o = true then 1 else 0 := by
  unfold cU
  rw [List.filter_append, List.length_append]
  congr 1
  by_cases h : o.1 = s ∧ hit t ds l o = true
  · rw [if_pos h]
    simp [h.1, h.2]
  · rw [if_neg h]
    have : (decide (o.1 = s) && hit t ds l o) = false := by
      rw [Bool.and_eq_false_imp]
      intro q
      cases z : hit t ds l o with
      | false => rfl
      | true => exact absurd ⟨of_decide_eq_true q, z⟩ h
    simp [this]
/-- how many lines of each other stream are surely ahead of l -/
noncomputable def rowM (t : Tree) (ds : List Deed) (l : Line) : List Line := (((strms ds).filter fun s => decide (0 < cU t ds l (lns ds) s)).map fun s => (s, cU t ds l (lns ds) s)).mergeSort lineLe
noncomputable def rowD (t : Tree) (ds : List Deed) (l : Line) : D := .tuple [lineD l, linesD (rowM t ds l)]
noncomputable def tableD (t : Tree) (ds : List Deed) : D := .tuple ((lns ds).map (rowD t ds))
theorem cU_strm {t : Tree} {ds : List Deed} {l : Line} {s : Nm} (h : 0 < cU t ds l (lns ds) s) : s ∈ strms ds := by
  unfold cU at h
  obtain ⟨o, ho⟩ := List.exists_mem_of_length_pos h
  rw [List.mem_filter, Bool.and_eq_true, decide_eq_true_eq] at ho
  have := birth_at (mem_lns.mp ho.1)
  rw [← ho.2.1]
  exact mem_strms.mpr (List.mem_of_getElem? this)
open PySem.W (alike alikeAll keyToks keyToksAll) in
mutual
theorem toks_inj : ∀ (x y : D), alike x y = true → clean x = true → clean y = true → ∀ l m, keyToks x ++ l = keyToks y ++ m → x = y ∧ l = m
  | .none, y, h, hx, hy, l, m, e => by
    cases y with
    | none => exact ⟨rfl, e⟩
    | _ => simp [alike] at h
  | .int i, y, h, hx, hy, l, m, e => by
    cases y with
    | int j =>
      simp only [keyToks, List.cons_append, List.nil_append, List.cons.injEq, Sum.inl.injEq] at e
      exact ⟨congrArg _ e.1, e.2⟩
    | _ => simp [alike] at h
  | .str i, y, h, hx, hy, l, m, e => by
    cases y with
    | str j =>
      simp only [keyToks, List.cons_append, List.nil_append, List.cons.injEq, Sum.inr.injEq] at e
      exact ⟨congrArg _ (PySem.W.str_of_cps e.1), e.2⟩
    | _ => simp [alike] at h
  | .list xs, y, h, hx, hy, l, m, e => by
    cases y with
    | list ys =>
      simp only [keyToks] at e
      obtain ⟨h1, h2⟩ := toksAll_inj xs ys (by simpa [alike] using h) (by simpa [clean] using hx) (by simpa [clean] using hy) l m e
      exact ⟨congrArg _ h1, h2⟩
    | _ => simp [alike] at h
  | .tuple xs, y, h, hx, hy, l, m, e => by
    cases y with
    | tuple ys =>
      simp only [keyToks] at e
      obtain ⟨h1, h2⟩ := toksAll_inj xs ys (by simpa [alike] using h) (by simpa [clean] using hx) (by simpa [clean] using hy) l m e
      exact ⟨congrArg _ h1, h2⟩
    | _ => simp [alike] at h
  | .bool _, _, _, hx, _, _, _, _ => by simp [clean] at hx
  | .dict _, _, _, hx, _, _, _, _ => by simp [clean] at hx
theorem toksAll_inj : ∀ (xs ys : List D), alikeAll xs ys = true → cleanAll xs = true → cleanAll ys = true → ∀ l m, keyToksAll xs ++ l = keyToksAll ys ++ m → xs = ys ∧ l = m
  | [], ys, h, hx, hy, l, m, e => by
    cases ys with
    | nil => exact ⟨rfl, by simpa [keyToksAll] using e⟩
    | cons y ys => simp [keyToksAll] at e
  | x :: xs, [], h, hx, hy, l, m, e => by simp [keyToksAll] at e
  | x :: xs, y :: ys, h, hx, hy, l, m, e => by
    simp only [cleanAll, Bool.and_eq_true] at hx hy
    simp only [alikeAll, Bool.and_eq_true] at h
    simp only [keyToksAll, List.cons_append, List.cons.injEq, true_and, List.append_assoc] at e
    obtain ⟨h1, h2⟩ := toks_inj x y h.1 hx.1 hy.1 _ _ e
    obtain ⟨h3, h4⟩ := toksAll_inj xs ys h.2 hx.2 hy.2 l m h2
    exact ⟨by rw [h1, h3], h4⟩
end
theorem keyInj_enc {α : Type} {n : Nat} {f : α → D} (h : Enc n f) {l : List α} (ha : PySem.W.AllAlike (l.map f)) : KeyInj (l.map f) := fun a hm b hb e => by
  have h1 := ha a hm b hb
  have ca : clean a = true := by
    obtain ⟨x, _, rfl⟩ := List.mem_map.mp hm
    exact h.cl x
  have cb : clean b = true := by
    obtain ⟨x, _, rfl⟩ := List.mem_map.mp hb
    exact h.cl x
  exact (toks_inj a b h1 ca cb [] [] (by rw [e])).1
theorem sort_enc {α : Type} {n : Nat} {f : α → D} (hf : Enc n f) (l m : List α) (ha : PySem.W.AllAlike (l.map f)) (h : l.Perm m) : sortD (l.map f) = (m.mergeSort (PySem.W.dataLe false f)).map f := by
  have e : (m.mergeSort (PySem.W.dataLe false f)).map f = sortD (m.map f) := by
    unfold sortD
    rw [List.map_mergeSort (r := PySem.W.dataLe false f) (s := PySem.W.dataLe false id) (f := f) (fun a _ b _ => rfl)]
  rw [e]
  exact sort_perm (keyInj_enc hf ha) (h.map f)
theorem alike_lines (l : List Line) : PySem.W.AllAlike (l.map lineD) := PySem.W.AllAlike.of (enc := lineD) (bs := l) fun _ _ => rfl
theorem okays_lines {l : List Line} (h : l.length ≤ 1000) : Okays (l.map lineD) := ⟨alike_lines l, PySem.W.Sortable.tuples (enc := lineD) (bs := l) fun b => ⟨_, _, rfl⟩, sizeLine_big (by rw [List.length_map]; omega), fun d hd => by
  obtain ⟨a, _, rfl⟩ := List.mem_map.mp hd
  exact Nat.le_trans ((enc_line (n := 0)).ok a).dp (by decide)⟩
theorem many_row {t : Tree} {ds : List Deed} {l : Line} {kvs : SD} (h : Many (cU t ds l (lns ds)) kvs) : sortD (kvs.map pairD) = (rowM t ds l).map lineD ∧ ∃ ls : List Line, ls.length ≤ ds.length ∧ kvs.map pairD = ls.map lineD := by
  obtain ⟨ns, h1, rfl, h3⟩ := h.ex
  have e : (ns.map fun s => (s.1, PyData.int (cU t ds l (lns ds) s : Nat))).map pairD = (ns.map fun s => ((s, cU t ds l (lns ds) s) : Line)).map lineD := by
    rw [List.map_map, List.map_map]
    rfl
  rw [e]
  have hp : ns.Perm ((strms ds).filter fun s => decide (0 < cU t ds l (lns ds) s)) := (List.perm_ext_iff_of_nodup h1 (nodup_filter _ (strms_nodup ds))).mpr fun s => by
    rw [List.mem_filter, decide_eq_true_eq, h3]
    exact ⟨fun q => ⟨cU_strm q, q⟩, fun q => q.2⟩
  refine ⟨sort_enc (enc_line (n := 0)) _ _ (alike_lines _) (hp.map _), _, ?_, rfl⟩
  rw [List.length_map, hp.length_eq]
  exact Nat.le_trans (List.length_filter_le _ _) (strms_len ds)
end DL
set_option maxRecDepth 100000
set_option maxHeartbeats 4000000
/-! walks, 14: table_in, alike_in -/
namespace DL
open PySem PySem.Spec PyProof.Rows L2 SlX
theorem nmsD_eq (l : List Nm) : PyData.tuple ((l.map (·.1)).map .str) = nmsD l := by
  unfold nmsD
  rw [List.map_map]
  rfl
theorem linesD_eq (l : List Line) : PyData.tuple (l.map lineD) = linesD l := rfl
theorem take_snoc {α : Type} {l : List α} {i : Nat} {x : α} (h : l[i]? = some x) : l.take (i + 1) = l.take i ++ [x] := by
  rw [List.take_add_one, h]
  rfl
theorem nodup_take {α : Type} {l : List α} {i : Nat} {x : α} (hn : l.Nodup) (h : l[i]? = some x) : x ∉ l.take i := fun hx => by
  obtain ⟨j, hj⟩ := List.getElem?_of_mem hx
  have hji : j < i := by
    have := (List.getElem?_eq_some_iff.mp hj).1
    rw [List.length_take] at this
    omega
  rw [List.getElem?_take_of_lt hji] at hj
  obtain ⟨p1, h1⟩ := List.getElem?_eq_some_iff.mp h
  obtain ⟨p2, h2⟩ := List.getElem?_eq_some_iff.mp hj
  exact List.pairwise_iff_getElem.mp (List.nodup_iff_pairwise_ne.mp hn) j i p2 p1 hji (h2.trans h1.symm)
section
variable {P : Program} {w : World} {K : PySem.W.Frag} {mg : Str → Option Value} {base : Heap} {C : Addr} {f : Addr} {fd : FuncData}
theorem ev_at0 {X : Cx} {e : Expr} {p2 p3 : Pos} {k : Nat} {ρ : List Sl} {l : Line} (h : Ev C X e ρ (.d (lineD l))) : Ev C X (.Subscript e (.Constant (.int 0) k p2) p3) ρ (.d (nmD l.1)) := ev_ix_tup (ds := [.str l.1.1, .int (l.2 : Nat)]) (i := 0) rfl h ev_int
theorem ev_at1 {X : Cx} {e : Expr} {p2 p3 : Pos} {k : Nat} {ρ : List Sl} {l : Line} (h : Ev C X e ρ (.d (lineD l))) : Ev C X (.Subscript e (.Constant (.int 1) k p2) p3) ρ (.d (.int (l.2 : Nat))) := ev_ix_tup (ds := [.str l.1.1, .int (l.2 : Nat)]) (i := 1) rfl h ev_int
theorem ev_key {X : Cx} {e : Expr} {ρ : List Sl} {l : Line} (h : Ev C X e ρ (.d (lineD l))) : Ev C X e ρ (.d (lineK l).data) := by rwa [lineK_data]
theorem sc38 : FnScope ["tree", "program", "births", "ends", "lines", "known", "found", "line", "stream", "many", "own"] ["tree", "program"] (defScope (top 38)) := ⟨rfl, rfl, rfl, by decide +kernel, rfl, by decide +kernel, by decide +kernel⟩
def rTable : List DV → DV → Prop := fun xs y => ∃ d t ds, xs = [.d d, .ob (deedsD ds)] ∧ TreeD d t ∧ Fits t ds ∧ y = .d (tableD t ds)
abbrev GStreams (P : Program) (w : World) (K : PySem.W.Frag) (mg : Str → Option Value) (base : Heap) (C : Addr) : Prop := Gp P w K mg base C "streams" 3 (spD ⟨P, w, K, C⟩ rStreams)
theorem births_keys (ds : List Deed) : ((birthsN ds).map fun z => z.1.data) = (numb ds).map lineD := by
  unfold birthsN numb
  rw [List.map_map, List.map_map]
  exact List.map_congr_left fun i _ => lineK_data _
theorem numb_len (ds : List Deed) : (numb ds).length ≤ ds.length := by
  have := lns_len ds
  unfold lns at this
  rwa [List.length_mergeSort] at this
theorem ok_table (F : Fun K "table_in" "table_in" (top 38) f fd) (M : Mg mg) (hc : PCls K C) (G1 : Gf P w K mg base "check_program" 13 (spD ⟨P, w, K, C⟩ rCheckP)) (G2 : Gf P w K mg base "births_of" 6 (spD ⟨P, w, K, C⟩ rBirths)) (G3 : Gf P w K mg base "met_at" 14 (spD ⟨P, w, K, C⟩ rMetAt))
    (G4 : Gf P w K mg base "is_ahead" 1 (spD ⟨P, w, K, C⟩ rAhead)) (G5 : GStreams P w K mg base C) : FnOk P w K mg base CX0 15 f fd ["tree", "program"] (spD ⟨P, w, K, C⟩ rTable) := by
  refine fn_D F sc38 (fun xs y h => by obtain ⟨d, t, ds, rfl, _⟩ := h; rfl) (fun cdv A outer s H E xs y hr h => ?_)
  obtain ⟨d, t, ds, rfl, ht, hf, rfl⟩ := h
  have hl : ds.length ≤ 1000 := Nat.le_trans hf.len (by decide)
  have h100 := hf.len
  have hln := lns_len ds
  have hst := strms_len ds
  refine sts_expr (ev_call G1 (hr.mono (by decide)) (ea_cons (ev_var 0 rfl) (ea_cons (ev_var 1 rfl) ea_nil)) ⟨d, t, ds, rfl, ht, hf, rfl⟩) ?_
  refine sts_par 2 3 (s := .i (.dn (birthsN ds))) (t := .i (.d (nmsD (strms ds)))) (ev_call G2 (hr.mono (by decide)) (ea_cons (ev_var 1 rfl) ea_nil) ⟨ds, rfl, hl, rfl⟩).s (by rw [← nmsD_eq]; exact (ev_prop hc.c G5 (hr.mono (by decide)) (ev_var 1 rfl) ⟨ds, rfl, hl, rfl⟩).s) ?_ sc38.nd
  have hso : sortD ((numb ds).map lineD) = (lns ds).map lineD := sort_enc (enc_line (n := 0)) _ _ (alike_lines _) (List.Perm.refl _)
  refine sts_par3 4 5 6 (s := .i (.d (.list ((lns ds).map lineD)))) (t := .mn []) (u := .ml []) (EvF.d (ef_eq (ef_sorted (SrcD.n (birthsN ds)) (by rw [births_keys]; exact okays_lines (Nat.le_trans (numb_len ds) hl)) (ev_var 2 rfl) M.sorted hr) (by rw [births_keys]; exact hso))).s (es_newN) (ef_list (xs := []) ea_nil rfl).s ?_ sc38.nd
  -- the first loop
  refine sts_for (ds := (lns ds).map lineD) (fun i ρ => ∃ s7 s8, ρ = [.i (.d d), .i (.ob (deedsD ds)), .i (.dn (birthsN ds)), .i (.d (nmsD (strms ds))), .i (.d (.list ((lns ds).map lineD))), .mn (knownL t ds ((lns ds).take i)), .ml [], s7, s8, .no, .no])
    (fun z ρ => ρ.set 7 (.i (.d z))) (ei_list (ev_var 4 rfl)) ⟨.no, .no, rfl⟩ ?_ ?_ ?_
  · rintro i z ρi hz ⟨s7, s8, rfl⟩
    exact ⟨_, eg_name 7 sc38.nd⟩
  · rintro i z ρi hz ⟨s7, s8, rfl⟩
    obtain ⟨l, hl', rfl⟩ := Option.map_eq_some_iff.mp (by rw [← List.getElem?_map]; exact hz)
    have hmem : l ∈ lns ds := List.mem_of_getElem? hl'
    have hnum := mem_lns.mp hmem
    have hil : i < (lns ds).length := (List.getElem?_eq_some_iff.mp hl').1
    refine sts_for (ds := (strms ds).map nmD) (fun j ρ => ∃ s8, ρ = [.i (.d d), .i (.ob (deedsD ds)), .i (.dn (birthsN ds)), .i (.d (nmsD (strms ds))), .i (.d (.list ((lns ds).map lineD))), .mn (knownL t ds ((lns ds).take i) ++ rowK t ds l ((strms ds).take j)), .ml [], .i (.d (lineD l)), s8, .no, .no])
      (fun z ρ => ρ.set 8 (.i (.d z))) (ei_tup (ev_var 3 rfl)) ⟨s8, by rw [List.take_zero, show rowK t ds l [] = [] from rfl, List.append_nil]; rfl⟩ ?_ ?_ ?_
    · rintro j z ρi hz ⟨s8, rfl⟩
      exact ⟨_, eg_name 8 sc38.nd⟩
    · rintro j z ρi hz ⟨s8, rfl⟩
      obtain ⟨st, hst', rfl⟩ := Option.map_eq_some_iff.mp (by rw [← List.getElem?_map]; exact hz)
      have hsm : st ∈ strms ds := List.mem_of_getElem? hst'
      have hstn : st ∈ tnames t := hf.nm _ (mem_strms.mp hsm)
      refine sts_if (k := !decide (st = l.1)) (et_ne (d := nmD st) (e := nmD l.1) hr ((enc_nm (n := 0)).ok _).shp ((enc_nm (n := 0)).ok _).shp (by rw [(enc_nm (n := 0)).eqv]) (ev_var 8 rfl) (ev_at0 (ev_var 7 rfl))) (fun hk => ?_) (fun hk => ?_)
      · have hne : ¬ st = l.1 := by simpa using hk
        have hlen : (knownL t ds ((lns ds).take i) ++ rowK t ds l ((strms ds).take j)).length < sizeLine := by
          refine Nat.lt_of_lt_of_le ?_ (sizeLine_big (n := 1000000) (Nat.le_refl _))
          rw [List.length_append]
          have h1 := knownL_len t ds ((lns ds).take i)
          have h2 := rowK_len t ds l ((strms ds).take j)
          have h3 : ((lns ds).take i).length * (strms ds).length ≤ 100 * 100 := Nat.mul_le_mul (by rw [List.length_take]; omega) (by omega)
          have h4 : ((strms ds).take j).length ≤ 100 := by rw [List.length_take]; omega
          omega
        refine sts_putN 5 (k := knK l st) (u := optD (metM t ds l.1 (birthOf ds l) st)) rfl hr (knK_ok l st) (known_new (nodup_take (lns_nodup ds) hl') (nodup_take (strms_nodup ds) hst')) hlen
          (ev_call G3 hr (ea_cons (ev_var 0 rfl) (ea_cons (ev_var 1 rfl) (ea_cons (ev_var 7 rfl) (ea_cons (ev_ixN hr (keyOk_line l) (birth_get hnum) (ev_var 2 rfl) (ev_key (ev_var 7 rfl))) (ea_cons (ev_var 8 rfl) ea_nil))))) ⟨d, t, ds, l, birthOf ds l, st, rfl, ht, hf.line hnum, hstn, rfl⟩)
          (by rw [knK_data]; exact ev_pair (ev_var 7 rfl) (ev_var 8 rfl)) ?_
        refine sts_nil (sts_nil ⟨.i (.d (nmD st)), ?_⟩)
        rw [take_snoc hst', rowK_snoc, if_neg hne, ← List.append_assoc]
        rfl
      · have he : st = l.1 := by simpa using hk
        refine sts_nil (sts_nil ⟨.i (.d (nmD st)), ?_⟩)
        rw [take_snoc hst', rowK_snoc, if_pos he, List.append_nil]
        rfl
    · rintro ρn ⟨s8, rfl⟩
      refine sts_nil ⟨.i (.d (lineD l)), s8, ?_⟩
      rw [List.length_map, List.take_length, take_snoc hl', knownL_snoc]
  -- the second loop
  rintro ρn ⟨s7, s8, rfl⟩
  rw [List.length_map, List.take_length]
  refine sts_for (ds := (lns ds).map lineD) (fun i ρ => ∃ s7 s8 s9 s10, ρ = [.i (.d d), .i (.ob (deedsD ds)), .i (.dn (birthsN ds)), .i (.d (nmsD (strms ds))), .i (.d (.list ((lns ds).map lineD))), .mn (knownL t ds (lns ds)), .ml (((lns ds).take i).map (rowD t ds)), s7, s8, s9, s10])
    (fun z ρ => ρ.set 7 (.i (.d z))) (ei_list (ev_var 4 rfl)) ⟨s7, s8, .no, .no, rfl⟩ ?_ ?_ ?_
  · rintro i z ρi hz ⟨s7, s8, s9, s10, rfl⟩
    exact ⟨_, eg_name 7 sc38.nd⟩
  · rintro i z ρi hz ⟨s7, s8, s9, s10, rfl⟩
    obtain ⟨l, hl', rfl⟩ := Option.map_eq_some_iff.mp (by rw [← List.getElem?_map]; exact hz)
    have hmem : l ∈ lns ds := List.mem_of_getElem? hl'
    have hnum := mem_lns.mp hmem
    have hil : i < (lns ds).length := (List.getElem?_eq_some_iff.mp hl').1
    refine sts_set 9 (s := .mk []) es_newK ?_ sc38.nd
    refine sts_for (ds := (lns ds).map lineD) (fun j ρ => ∃ kvs s10, Many (cU t ds l ((lns ds).take j)) kvs ∧ ρ = [.i (.d d), .i (.ob (deedsD ds)), .i (.dn (birthsN ds)), .i (.d (nmsD (strms ds))), .i (.d (.list ((lns ds).map lineD))), .mn (knownL t ds (lns ds)), .ml (((lns ds).take i).map (rowD t ds)), .i (.d (lineD l)), s8, .mk kvs, s10])
      (fun z ρ => ρ.set 10 (.i (.d z))) (ei_list (ev_var 4 rfl)) ⟨[], s10, many_nil, rfl⟩ ?_ ?_ ?_
    · rintro j z ρi hz ⟨kvs, s10, hm, rfl⟩
      exact ⟨_, eg_name 10 sc38.nd⟩
    · rintro j z ρi hz ⟨kvs, s10, hm, rfl⟩
      obtain ⟨o, ho, rfl⟩ := Option.map_eq_some_iff.mp (by rw [← List.getElem?_map]; exact hz)
      have homem : o ∈ lns ds := List.mem_of_getElem? ho
      have honum := mem_lns.mp homem
      refine sts_if (k := hit t ds l o) (EvW.t (ew_and (et_ne (d := nmD o.1) (e := nmD l.1) hr ((enc_nm (n := 0)).ok _).shp ((enc_nm (n := 0)).ok _).shp (by rw [(enc_nm (n := 0)).eqv, ← decide_not]) (ev_at0 (ev_var 10 rfl)) (ev_at0 (ev_var 7 rfl)))
        fun hk => ew_and1 (et_val (ev_call G4 (hr.mono (by decide)) (ea_cons (ev_ixM 5 (k := knK o l.1) rfl hr (knK_ok o l.1) (known_get homem (mem_strms.mpr (List.mem_of_getElem? (birth_at hnum))) (fun z => of_decide_eq_true hk z.symm)) (by rw [knK_data]; exact ev_pair (ev_var 10 rfl) (ev_at0 (ev_var 7 rfl)))) (ea_cons (ev_ixN hr (keyOk_line l) (birth_get hnum) (ev_var 2 rfl) (ev_key (ev_var 7 rfl))) ea_nil)) ⟨_, _, rfl, rfl⟩)))) (fun hk => ?_) (fun hk => ?_)
      · refine sts_putK 9 (k := o.1.1) (d := .int ((cU t ds l ((lns ds).take j) o.1 + 1 : Nat) : Nat)) rfl hr ?_ (ev_add (i := (cU t ds l ((lns ds).take j) o.1 : Nat)) (j := 1) (ev_getM 9 (k := o.1.1) rfl hr (hm.get o.1) (ev_at0 (ev_var 10 rfl)) ev_int) ev_int) (ev_at0 (ev_var 10 rfl)) ?_
        · obtain ⟨ns, h1, rfl, h3⟩ := hm.ex
          rw [List.length_map]
          have hsub : ns.length ≤ (strms ds).length := len_le_of h1 fun s hs => cU_strm (t := t) (l := l) (Nat.lt_of_lt_of_le ((h3 s).mp hs) (by
            unfold cU
            exact (List.Sublist.filter _ (List.take_sublist _ _)).length_le))
          exact Nat.lt_of_lt_of_le (by omega) (sizeLine_big (n := 1000) (by decide))
        · refine sts_nil (sts_nil ⟨_, .i (.d (lineD o)), ?_, rfl⟩)
          have hput := hm.put o.1 (v := cU t ds l ((lns ds).take j) o.1 + 1) (Nat.succ_pos _)
          have e : cU t ds l ((lns ds).take (j + 1)) = fun x => if x = o.1 then cU t ds l ((lns ds).take j) o.1 + 1 else cU t ds l ((lns ds).take j) x := by
            funext x
            rw [take_snoc ho, cU_snoc]
            by_cases z : x = o.1
            · rw [if_pos z, z, if_pos ⟨rfl, hk⟩]
            · rw [if_neg z, if_neg fun q => z q.1.symm]
              rfl
          rw [e]
          exact hput
      · refine sts_nil (sts_nil ⟨_, .i (.d (lineD o)), ?_, rfl⟩)
        have e : cU t ds l ((lns ds).take (j + 1)) = cU t ds l ((lns ds).take j) := by
          funext x
          rw [take_snoc ho, cU_snoc, if_neg fun q => by rw [hk] at q; cases q.2]
          rfl
        rw [e]
        exact hm
    · rintro ρn ⟨kvs, s10, hm, rfl⟩
      rw [List.length_map, List.take_length] at hm
      obtain ⟨hrow, ls, hls, els⟩ := many_row hm
      refine sts_lock 9 rfl (sts_app 6 (d := rowD t ds l) rfl ?_ (ev_pair (ev_var 7 rfl) (ev_tuple_list (EvF.d (ef_eq (ef_sortedItems hm.keys (by rw [els]; exact okays_lines (by omega)) (ev_var 9 rfl) M.sorted hr) hrow)) M.tuple)) ?_)
      · rw [List.length_map, List.length_take]
        exact Nat.lt_of_lt_of_le (by omega) (sizeLine_big (n := 1000) (by decide))
      · refine sts_nil ⟨.i (.d (lineD l)), s8, .i (.dk kvs), s10, ?_⟩
        rw [take_snoc hl', List.map_append]
        rfl
  · rintro ρn ⟨s7, s8, s9, s10, rfl⟩
    rw [List.length_map, List.take_length]
    exact sts_fix 6 rfl (sts_ret (ev_tuple_list (ev_var 6 rfl) M.tuple) .rt)
end
end DL
set_option maxRecDepth 100000
set_option maxHeartbeats 4000000
/-! walks, 15: alike_in, is_output_in -/
namespace DL
open PySem PySem.Spec PyProof.Rows L2 SlX
/-! ### models -/
def rowE (p : Line × List Line) : D := .tuple [lineD p.1, linesD p.2]
theorem enc_row {n : Nat} : Enc (n + 3) rowE where
  ok := fun a => pair_ok (enc_line.ok a.1) (enc_lines.ok a.2)
  cl := fun a => pair_clean (enc_line (n := 0) |>.cl a.1) (enc_lines (n := 0) |>.cl a.2)
  inj := fun a b e => by
    injection e with e
    injection e with e1 e2
    injection e2 with e2 _
    exact Prod.ext ((enc_line (n := 0)).inj _ _ e1) ((enc_lines (n := 0)).inj _ _ e2)
noncomputable def tableM (t : Tree) (ds : List Deed) : List (Line × List Line) := (lns ds).map fun l => (l, rowM t ds l)
theorem tableD_eq (t : Tree) (ds : List Deed) : tableD t ds = .tuple ((tableM t ds).map rowE) := by
  unfold tableD tableM
  rw [List.map_map]
  rfl
noncomputable def rowSD (t : Tree) (ds : List Deed) (l : Line) : SD := (rowM t ds l).map fun p => (p.1.1, .int (p.2 : Nat))
noncomputable def knownT (t : Tree) (ds : List Deed) : List (NestedKey × SD) := (lns ds).map fun l => (lineK l, rowSD t ds l)
def keyOf (d : D) : NestedKey := .tup [.text (strOf (dAt d 0)), .num (intOf (dAt d 1))]
def sdOf : D → SD
  | .tuple xs => xs.map fun x => (strOf (dAt x 0), dAt x 1)
  | _ => []
theorem rowSD_pairs (t : Tree) (ds : List Deed) (l : Line) : linesD (rowM t ds l) = .tuple ((rowSD t ds l).map pairD) := by
  unfold rowSD linesD
  rw [List.map_map]
  rfl
theorem knownT_eq (t : Tree) (ds : List Deed) : ((lns ds).map (rowD t ds)).map (fun d => (keyOf (dAt d 0), sdOf (dAt d 1))) = knownT t ds := by
  unfold knownT
  rw [List.map_map]
  apply List.map_congr_left
  intro l _
  show (lineK l, ((rowM t ds l).map lineD).map fun x => (strOf (dAt x 0), dAt x 1)) = _
  unfold rowSD
  rw [List.map_map]
  rfl
theorem known_row {t : Tree} {ds : List Deed} {l : Line} (h : l ∈ numb ds) : kfind (knownT t ds) (lineK l) = some (rowSD t ds l) := by
  refine kfind_yes ⟨_, List.mem_map.mpr ⟨l, mem_lns.mpr h, rfl⟩, rfl⟩ fun x hx e => ?_
  obtain ⟨l', _, rfl⟩ := List.mem_map.mp hx
  rw [lineK_inj _ _ e]
theorem mem_rowM {t : Tree} {ds : List Deed} {l p : Line} : p ∈ rowM t ds l ↔ 0 < p.2 ∧ p.2 = cU t ds l (lns ds) p.1 := by
  unfold rowM
  rw [List.mem_mergeSort, List.mem_map]
  constructor
  · rintro ⟨s, hs, rfl⟩
    rw [List.mem_filter, decide_eq_true_eq] at hs
    exact ⟨hs.2, rfl⟩
  · rintro ⟨h1, h2⟩
    rw [h2] at h1
    exact ⟨p.1, List.mem_filter.mpr ⟨cU_strm h1, decide_eq_true h1⟩, Prod.ext rfl h2.symm⟩
theorem rowM_keys (t : Tree) (ds : List Deed) (l : Line) : ((rowM t ds l).map (·.1)).Nodup := by
  unfold rowM
  rw [((List.mergeSort_perm _ _).map (fun x : Line => x.1)).nodup_iff, List.map_map]
  have : ((strms ds).filter fun s => decide (0 < cU t ds l (lns ds) s)).map ((fun x : Line => x.1) ∘ fun s => (s, cU t ds l (lns ds) s)) = (strms ds).filter fun s => decide (0 < cU t ds l (lns ds) s) := List.map_id' _
  rw [this]
  exact nodup_filter _ (strms_nodup ds)
theorem rowSD_keys (t : Tree) (ds : List Deed) (l : Line) : ((rowSD t ds l).map (·.1)).Nodup := by
  unfold rowSD
  rw [List.map_map]
  have : (rowM t ds l).map ((fun x : Str × D => x.1) ∘ fun p => (p.1.1, PyData.int (p.2 : Nat))) = ((rowM t ds l).map (·.1)).map (·.1) := by rw [List.map_map]; rfl
  rw [this]
  exact nodup_map_inj (fun a _ b _ e => Subtype.ext e) (rowM_keys t ds l)
theorem rowM_len (t : Tree) (ds : List Deed) (l : Line) : (rowM t ds l).length ≤ ds.length := by
  unfold rowM
  rw [List.length_mergeSort, List.length_map]
  exact Nat.le_trans (List.length_filter_le _ _) (strms_len ds)
theorem rowSD_find {t : Tree} {ds : List Deed} {l p : Line} (h : p ∈ rowM t ds l) : sfind (rowSD t ds l) p.1.1 = some (.int (p.2 : Nat)) := by
  unfold sfind
  cases e : (rowSD t ds l).find? fun x => decide (x.1 = p.1.1) with
  | none =>
    have := List.find?_eq_none.mp e (p.1.1, .int (p.2 : Nat)) (List.mem_map.mpr ⟨p, h, rfl⟩)
    simp at this
  | some x =>
    have h1 := List.find?_some e
    have h2 := List.mem_of_find?_eq_some e
    obtain ⟨q, hq, rfl⟩ := List.mem_map.mp h2
    have e3 : q.1 = p.1 := Subtype.ext (of_decide_eq_true h1)
    have e4 : q.2 = p.2 := by rw [(mem_rowM.mp hq).2, (mem_rowM.mp h).2, e3]
    rw [Option.map_some, e4]
/-- how many of s there are -/
def cS (ls : List Line) (s : Nm) : Nat := (ls.filter fun o => decide (o.1 = s)).length
theorem cS_snoc (ls : List Line) (o : Line) (s : Nm) : cS (ls ++ [o]) s = cS ls s + if o.1 = s then 1 else 0 := by
  unfold cS
  rw [List.filter_append, List.length_append]
  congr 1
  by_cases h : o.1 = s
  · rw [if_pos h]
    simp [h]
  · rw [if_neg h]
    simp [h]
/-- a line that may come next -/
def Next (t : Tree) (ds : List Deed) (ls : List Line) (l : Line) : Prop := l.2 = cS ls l.1 + 1 ∧ ∀ s, cU t ds l (lns ds) s ≤ cS ls s
def OutL (t : Tree) (ds : List Deed) (ls : List Line) : Prop := ls.Perm (numb ds) ∧ ∀ i l, ls[i]? = some l → Next t ds (ls.take i) l
def outP (t : Tree) (ds : List Deed) (th : D) : Prop := ∃ ls, th = linesD ls ∧ (∀ l ∈ ls, 0 < l.2) ∧ OutL t ds ls
theorem isLine_iff {d : D} : isLine d = true ↔ ∃ l : Line, d = lineD l ∧ 0 < l.2 := by
  constructor
  · intro h
    unfold isLine at h
    split at h
    · rename_i a i
      rw [Bool.and_eq_true, decide_eq_true_eq] at h
      cases a with
      | str s =>
        refine ⟨(⟨s, h.1⟩, i.toNat), ?_, ?_⟩
        · show PyData.tuple [.str s, .int i] = .tuple [.str s, .int (i.toNat : Nat)]
          rw [Int.toNat_of_nonneg (Int.le_of_lt h.2)]
        · show 0 < i.toNat
          omega
      | _ => cases h.1
    · cases h
  · rintro ⟨l, rfl, h⟩
    show (nameB l.1.1 && decide ((0 : Int) < (l.2 : Nat))) = true
    rw [l.1.2, Bool.true_and, decide_eq_true_eq]
    omega
theorem lines_of : ∀ {xs : List D}, (∀ x ∈ xs, isLine x = true) → ∃ ls : List Line, xs = ls.map lineD ∧ ∀ l ∈ ls, 0 < l.2
  | [], _ => ⟨[], rfl, fun _ h => (by cases h)⟩
  | x :: xs, h => by
    obtain ⟨l, rfl, h1⟩ := isLine_iff.mp (h x List.mem_cons_self)
    obtain ⟨ls, rfl, h2⟩ := lines_of fun y hy => h y (List.mem_cons_of_mem _ hy)
    exact ⟨l :: ls, rfl, fun y hy => by
      rcases List.mem_cons.mp hy with rfl | hy
      · exact h1
      · exact h2 y hy⟩
section
variable {P : Program} {w : World} {K : PySem.W.Frag} {mg : Str → Option Value} {base : Heap} {C : Addr} {f : Addr} {fd : FuncData}
/-! ### alike_in -/
theorem sc39 : FnScope ["tree", "one", "other"] ["tree", "one", "other"] (defScope (top 39)) := ⟨rfl, rfl, rfl, by decide +kernel, rfl, by decide +kernel, by decide +kernel⟩
def rAlike : List DV → DV → Prop := fun xs y => ∃ d t a b k, xs = [.d d, .ob (deedsD a), .ob (deedsD b)] ∧ TreeD d t ∧ Fits t a ∧ Fits t b ∧ (k = true ↔ tableM t a = tableM t b) ∧ y = .d (.bool k)
theorem ok_alike (F : Fun K "alike_in" "alike_in" (top 39) f fd) (M : Mg mg) (G1 : Gf P w K mg base "table_in" 15 (spD ⟨P, w, K, C⟩ rTable)) : FnOk P w K mg base CX0 16 f fd ["tree", "one", "other"] (spD ⟨P, w, K, C⟩ rAlike) := by
  refine fn_D F sc39 (fun xs y h => by obtain ⟨d, t, a, b, k, rfl, _⟩ := h; rfl) (fun cdv A outer s H E xs y hr h => ?_)
  obtain ⟨d, t, a, b, k, rfl, ht, ha, hb, hk, rfl⟩ := h
  have E1 := (enc_row (n := 0)).tup
  have hk2 : PyData.eqv (.tuple ((tableM t a).map rowE)) (.tuple ((tableM t b).map rowE)) = k := by
    rw [E1.eqv]
    rw [Bool.eq_iff_iff, decide_eq_true_eq, hk]
  refine sts_ret (ev_eq (d := .tuple ((tableM t a).map rowE)) (e := .tuple ((tableM t b).map rowE)) hr (E1.ok _).shp (E1.ok _).shp hk2 ?_ ?_) .rt
  · exact ev_call G1 hr (ea_cons (ev_var 0 rfl) (ea_cons (ev_var 1 rfl) ea_nil)) ⟨d, t, a, rfl, ht, ha, by rw [tableD_eq]⟩
  · exact ev_call G1 hr (ea_cons (ev_var 0 rfl) (ea_cons (ev_var 2 rfl) ea_nil)) ⟨d, t, b, rfl, ht, hb, by rw [tableD_eq]⟩
end
end DL
set_option maxRecDepth 100000
set_option maxHeartbeats 4000000
/-! walks, 16: is_output_in -/
namespace DL
open PySem PySem.Spec PyProof.Rows L2 SlX
theorem sorted_iff {a b : List Line} : a.mergeSort lineLe = b.mergeSort lineLe ↔ a.Perm b := by
  constructor
  · intro h
    exact (List.mergeSort_perm a lineLe).symm.trans (h ▸ List.mergeSort_perm b lineLe)
  · intro h
    have h1 := sort_enc (enc_line (n := 0)) a b (alike_lines _) h
    have h2 := sort_enc (enc_line (n := 0)) a a (alike_lines _) (List.Perm.refl _)
    exact List.map_inj_right (fun x y q => (enc_line (n := 0)).inj x y q) |>.mp (h2.symm.trans h1)
theorem many_len {c : Nm → Nat} {kvs : SD} {ls : List Line} (h : Many c kvs) (hc : ∀ s, 0 < c s → s ∈ ls.map (·.1)) : kvs.length ≤ ls.length := by
  obtain ⟨ns, h1, rfl, h3⟩ := h.ex
  rw [List.length_map]
  have := len_le_of h1 (m := ls.map (·.1)) fun s hs => hc s ((h3 s).mp hs)
  rwa [List.length_map] at this
theorem cS_mem {ls : List Line} {s : Nm} (h : 0 < cS ls s) : s ∈ ls.map (·.1) := by
  unfold cS at h
  obtain ⟨o, ho⟩ := List.exists_mem_of_length_pos h
  rw [List.mem_filter, decide_eq_true_eq] at ho
  exact List.mem_map.mpr ⟨o, ho.1, ho.2⟩
theorem linesD_inj {a b : List Line} (h : linesD a = linesD b) : a = b := (enc_lines (n := 0)).inj a b h
theorem not_out {t : Tree} {ds : List Deed} {ls : List Line} (h : ¬ OutL t ds ls) : ¬ outP t ds (linesD ls) := fun ⟨ls', e, _, h2⟩ => by
  rw [← linesD_inj e] at h2
  exact h h2
section
variable {P : Program} {w : World} {K : PySem.W.Frag} {mg : Str → Option Value} {base : Heap} {C : Addr} {f : Addr} {fd : FuncData}
theorem sc40 : FnScope ["tree", "program", "thing", "line", "ahead", "known", "own", "met", "stream", "number", "far"] ["tree", "program", "thing"] (defScope (top 40)) := ⟨rfl, rfl, rfl, by decide +kernel, rfl, by decide +kernel, by decide +kernel⟩
/-- what is_output_in can be asked -/
structure AskOut (th : D) : Prop where
  ok : OkD 20 th
  it : ∀ xs, th = .tuple xs → xs.length ≤ 1000 ∧ ∀ x ∈ xs, AskLine x
def rOut : List DV → DV → Prop := fun xs y => ∃ d t ds th k, xs = [.d d, .ob (deedsD ds), .d th] ∧ TreeD d t ∧ Fits t ds ∧ AskOut th ∧ (k = true ↔ outP t ds th) ∧ y = .d (.bool k)
def bF (kvs row : SD) (d : D) : Bool := decide (intOf ((sfind kvs (strOf d)).getD (.int 0)) < intOf ((sfind row (strOf d)).getD .none))
theorem ok_out (F : Fun K "is_output_in" "is_output_in" (top 40) f fd) (M : Mg mg) (hc : PCls K C) (G1 : Gf P w K mg base "table_in" 15 (spD ⟨P, w, K, C⟩ rTable)) (G2 : Gf P w K mg base "is_line" 2 (spD ⟨P, w, K, C⟩ rIsLine)) (G3 : GLines P w K mg base C) :
    FnOk P w K mg base CX0 16 f fd ["tree", "program", "thing"] (spD ⟨P, w, K, C⟩ rOut) := by
  refine fn_D F sc40 (fun xs y h => by obtain ⟨d, t, ds, th, k, rfl, _⟩ := h; rfl) (fun cdv A outer s H E xs y hr h => ?_)
  obtain ⟨d, t, ds, th, kk, rfl, ht, hf, ⟨hok, hit⟩, hk, rfl⟩ := h
  have hl : ds.length ≤ 1000 := Nat.le_trans hf.len (by decide)
  have hfalse : ¬ outP t ds th → kk = false := fun h => by
    cases kk with
    | false => rfl
    | true => exact absurd (hk.mp rfl) h
  refine sts_dcN 5 (own := [("line", 3), ("ahead", 4)]) (ds := (lns ds).map (rowD t ds)) (js := [3, 4]) (kf := fun d => keyOf (dAt d 0)) (vf := fun d => sdOf (dAt d 1))
      (ρ' := fun z => [.i (.d d), .i (.ob (deedsD ds)), .i (.d th), .i (.d (dAt z 0)), .i (.d (dAt z 1)), .no, .no, .no, .no, .no, .no]) hr rfl sc40.nd (blkOk_by (by rfl)) (by decide)
      (ei_tup (ev_call G1 hr (ea_cons (ev_var 0 rfl) (ea_cons (ev_var 1 rfl) ea_nil)) ⟨d, t, ds, rfl, ht, hf, rfl⟩)) (fun z hz => ?_) ?_ (fun _ _ _ _ _ z hz => ?_) (fun _ _ _ _ _ z hz => ?_) (fun _ _ _ _ _ z hz => ?_) (knownT_eq t ds) ?_
  · obtain ⟨l, _, rfl⟩ := List.mem_map.mp hz
    exact keyOk_line l
  · rw [List.map_map]
    exact nodup_map_inj (fun a _ b _ e => lineK_inj a b e) (lns_nodup ds)
  · obtain ⟨l, _, rfl⟩ := List.mem_map.mp hz
    exact eg_tup rfl (egs_cons (eg_name 3 sc40.nd) (egs_cons (eg_name 4 sc40.nd) egs_nil))
  · obtain ⟨l, _, rfl⟩ := List.mem_map.mp hz
    exact ev_key (l := l) (ev_var 3 rfl)
  · obtain ⟨l, _, rfl⟩ := List.mem_map.mp hz
    have e : sdOf (dAt (rowD t ds l) 1) = rowSD t ds l := by
      show ((rowM t ds l).map lineD).map (fun x => (strOf (dAt x 0), dAt x 1)) = _
      unfold rowSD
      rw [List.map_map]
      rfl
    rw [e]
    exact ev_dictT (rowSD_keys t ds l) (by rw [← rowSD_pairs]; exact ev_var 4 rfl) M.dict
  cases hT : isTup th with
  | false =>
    have hno : ¬ outP t ds th := fun ⟨ls, e, _⟩ => by
      rw [e] at hT
      cases hT
    rw [hfalse hno]
    exact sts_if (k := true) (EvW.t (ew_or (k := true) (m := true) (et_not (k := false) (et_val (ev_isi (T := "tuple") (ev_var 2 rfl) M.isi M.tuple rfl (by rw [← hT]; exact kit_tup hok)))) (fun z => nomatch z))) (fun _ => sts_ret ev_bool .rt) (fun z => nomatch z)
  | true =>
    obtain ⟨xs, rfl⟩ : ∃ xs, th = .tuple xs := by
      cases th with
      | tuple xs => exact ⟨xs, rfl⟩
      | _ => cases hT
    obtain ⟨hxl, hxa⟩ := hit xs rfl
    refine sts_if (k := !(xs.map isLine).all id) (EvW.t (ew_or (k := false) (et_not (k := true) (et_val (ev_isi (T := "tuple") (ev_var 2 rfl) M.isi M.tuple rfl (by rw [← hT]; exact kit_tup hok)))) (fun _ => ew_or1 (et_not (et_val (ev_all (bs := xs.map isLine) (EvF.d (ef_eq
      (ef_lcm (own := [("own", 6)]) (ds := xs) (js := [6]) (f := fun d => .bool (isLine d)) rfl sc40.nd (blkOk_by (by rfl)) (by decide) (ei_tup (ev_var 2 rfl)) (fun _ _ _ _ _ d hd => eg_name 6 sc40.nd) (fun _ _ _ _ _ d hd => ev_call G2 (hr.mono (by decide)) (ea_cons (ev_var 6 rfl) ea_nil) ⟨d, rfl, hxa d hd, rfl⟩)) (by rw [List.map_map]; rfl))) M.all)))))) (fun hkk => ?_) (fun hkk => ?_)
    · have hno : ¬ outP t ds (.tuple xs) := fun ⟨ls, e, h1, _⟩ => by
        injection e with e
        subst e
        have : ((ls.map lineD).map isLine).all id = true := by
          rw [List.all_eq_true]
          intro b hb
          obtain ⟨z, hz, rfl⟩ := List.mem_map.mp hb
          obtain ⟨l, hl, rfl⟩ := List.mem_map.mp hz
          exact isLine_iff.mpr ⟨l, rfl, h1 l hl⟩
        rw [this] at hkk
        cases hkk
      rw [hfalse hno]
      exact sts_ret ev_bool .rt
    · have hall : ∀ x ∈ xs, isLine x = true := fun x hx => by
        have : (xs.map isLine).all id = true := by simpa using hkk
        exact List.all_eq_true.mp this _ (List.mem_map.mpr ⟨x, hx, rfl⟩)
      obtain ⟨ls, rfl, hpos⟩ := lines_of hall
      rw [List.length_map] at hxl
      refine sts_nil ?_
      have hs1 : sortD (ls.map lineD) = (ls.mergeSort lineLe).map lineD := sort_enc (enc_line (n := 0)) _ _ (alike_lines _) (List.Perm.refl _)
      have hs2 : sortD ((numb ds).map lineD) = ((numb ds).mergeSort lineLe).map lineD := sort_enc (enc_line (n := 0)) _ _ (alike_lines _) (List.Perm.refl _)
      have EL := (enc_line (n := 0)).list
      refine sts_if (k := !decide (ls.mergeSort lineLe = (numb ds).mergeSort lineLe)) (et_ne (d := .list ((ls.mergeSort lineLe).map lineD)) (e := .list (((numb ds).mergeSort lineLe).map lineD)) hr (EL.ok _).shp (EL.ok _).shp (by rw [EL.eqv])
        (EvF.d (ef_eq (ef_sorted (SrcD.t _) (okays_lines hxl) (ev_var 2 rfl) M.sorted hr) hs1)) (EvF.d (ef_eq (ef_sorted (SrcD.t _) (okays_lines (Nat.le_trans (numb_len ds) hl)) (ev_prop hc.c G3 (hr.mono (by decide)) (ev_var 1 rfl) ⟨ds, rfl, hl, rfl⟩) M.sorted hr) hs2))) (fun hkk => ?_) (fun hkk => ?_)
      · have hne : ¬ ls.mergeSort lineLe = (numb ds).mergeSort lineLe := by simpa using hkk
        rw [hfalse (not_out fun z => hne (sorted_iff.mpr z.1))]
        exact sts_ret ev_bool .rt
      · have hp : ls.Perm (numb ds) := sorted_iff.mp (by simpa using hkk)
        refine sts_nil (sts_set 7 (s := .mk []) es_newK ?_ sc40.nd)
        refine sts_for (ds := ls.map lineD) (fun i ρ => ∃ kvs s4 s8 s9, Many (cS (ls.take i)) kvs ∧ (∀ k l, k < i → ls[k]? = some l → Next t ds (ls.take k) l) ∧
            ρ = [.i (.d d), .i (.ob (deedsD ds)), .i (.d (.tuple (ls.map lineD))), .no, s4, .i (.dnk (knownT t ds)), .no, .mk kvs, s8, s9, .no])
          (fun z ρ => (ρ.set 8 (.i (.d (dAt z 0)))).set 9 (.i (.d (dAt z 1)))) (ei_tup (ev_var 2 rfl)) ⟨[], .no, .no, .no, many_nil, fun k l h => absurd h (Nat.not_lt_zero _), rfl⟩ ?_ ?_ ?_
        · rintro i z ρi hz ⟨kvs, s4, s8, s9, hm, hpre, rfl⟩
          obtain ⟨l, hl', rfl⟩ := Option.map_eq_some_iff.mp (by rw [← List.getElem?_map]; exact hz)
          exact ⟨_, eg_tup rfl (egs_cons (eg_name 8 sc40.nd) (egs_cons (eg_name 9 sc40.nd) egs_nil))⟩
        · rintro i z ρi hz ⟨kvs, s4, s8, s9, hm, hpre, rfl⟩
          obtain ⟨l, hl', rfl⟩ := Option.map_eq_some_iff.mp (by rw [← List.getElem?_map]; exact hz)
          have hnum : l ∈ numb ds := hp.mem_iff.mp (List.mem_of_getElem? hl')
          refine sts_let (x := .dk (rowSD t ds l)) 4 (ev_ixNK hr (keyOk_line l) (known_row hnum) (ev_var 5 rfl) (by rw [lineK_data]; exact ev_pair (ev_var 8 rfl) (ev_var 9 rfl))) ?_ sc40.nd
          have hrl := rowM_len t ds l
          refine sts_if (k := (!decide ((l.2 : Int) = (cS (ls.take i) l.1 : Int) + 1)) || ((rowM t ds l).map fun p => decide (cS (ls.take i) p.1 < p.2)).any id)
            (EvW.t (ew_or (et_ne (d := .int (l.2 : Nat)) (e := .int ((cS (ls.take i) l.1 : Int) + 1)) hr (okD_int (n := 0) _).shp (okD_int (n := 0) _).shp rfl (ev_var 9 rfl) (ev_add (i := (cS (ls.take i) l.1 : Nat)) (j := 1) (ev_getM 7 (k := l.1.1) rfl hr (hm.get l.1) (ev_var 8 rfl) ev_int) ev_int)) (fun _ => ew_or1 (et_val
              (ev_any (bs := (rowM t ds l).map fun p => decide (cS (ls.take i) p.1 < p.2)) (EvF.d (ef_eq (ef_lcm (own := [("far", 10)]) (ds := (rowSD t ds l).map fun x => .str x.1) (js := [10]) (f := fun d => .bool (bF kvs (rowSD t ds l) d)) rfl sc40.nd (blkOk_by (by rfl)) (by decide)
                (ei_keysK (ev_var 4 rfl) (sizeLine_big (by unfold rowSD; rw [List.length_map]; omega))) (fun _ _ _ _ _ d hd => eg_name 10 sc40.nd) (fun _ _ _ _ _ d hd => ?_)) ?_)) M.any))))) (fun hkk => ?_) (fun hkk => ?_)
          · obtain ⟨x, hx, rfl⟩ := List.mem_map.mp hd
            obtain ⟨p, hp2, rfl⟩ := List.mem_map.mp hx
            have e : bF kvs (rowSD t ds l) (.str p.1.1) = decide ((cS (ls.take i) p.1 : Int) < (p.2 : Int)) := by
              show decide (intOf ((sfind kvs p.1.1).getD (.int 0)) < intOf ((sfind (rowSD t ds l) p.1.1).getD .none)) = _
              rw [hm.get, rowSD_find hp2]
              rfl
            show Ev _ _ _ _ (.d (.bool (bF kvs (rowSD t ds l) (.str p.1.1))))
            rw [e]
            exact ev_lt (ev_getM 7 (k := p.1.1) rfl hr (hm.get p.1) (ev_var 10 rfl) ev_int) (ev_ixK (kv := .none) hr (rowSD_find hp2) (ev_var 4 rfl) (ev_var 10 rfl))
          · rw [show (rowSD t ds l).map (fun x => PyData.str x.1) = (rowM t ds l).map (fun p => .str p.1.1) from by unfold rowSD; rw [List.map_map]; rfl, List.map_map, List.map_map]
            apply List.map_congr_left
            intro p hp2
            have e : bF kvs (rowSD t ds l) (.str p.1.1) = decide (cS (ls.take i) p.1 < p.2) := by
              show decide (intOf ((sfind kvs p.1.1).getD (.int 0)) < intOf ((sfind (rowSD t ds l) p.1.1).getD .none)) = _
              rw [hm.get, rowSD_find hp2]
              exact decide_eq_decide.mpr Int.ofNat_lt
            show PyData.bool (bF kvs (rowSD t ds l) (.str p.1.1)) = .bool (decide (cS (ls.take i) p.1 < p.2))
            rw [e]
          · rw [hfalse (not_out fun z => ?_)]
            · exact sts_ret ev_bool .rt
            · obtain ⟨n1, n2⟩ := z.2 i l hl'
              rw [Bool.or_eq_true] at hkk
              rcases hkk with q | q
              · have : ¬ ((l.2 : Int) = (cS (ls.take i) l.1 : Int) + 1) := by simpa using q
                omega
              · rw [List.any_map, List.any_eq_true] at q
                obtain ⟨p, hp2, q⟩ := q
                have q : cS (ls.take i) p.1 < p.2 := of_decide_eq_true q
                have := n2 p.1
                rw [(mem_rowM.mp hp2).2] at q
                omega
          · rw [Bool.or_eq_false_iff] at hkk
            have n1 : l.2 = cS (ls.take i) l.1 + 1 := by
              have : (l.2 : Int) = (cS (ls.take i) l.1 : Int) + 1 := by simpa using hkk.1
              omega
            have n2 : ∀ s, cU t ds l (lns ds) s ≤ cS (ls.take i) s := fun s => by
              refine Nat.not_lt.mp fun z => ?_
              have : ((rowM t ds l).map fun p => decide (cS (ls.take i) p.1 < p.2)).any id = true := by
                rw [List.any_map, List.any_eq_true]
                exact ⟨(s, cU t ds l (lns ds) s), mem_rowM.mpr ⟨Nat.lt_of_le_of_lt (Nat.zero_le _) z, rfl⟩, decide_eq_true z⟩
              rw [this] at hkk
              cases hkk.2
            refine sts_nil (sts_putK 7 (k := l.1.1) (d := .int (l.2 : Nat)) rfl hr ?_ (ev_var 9 rfl) (ev_var 8 rfl) (sts_nil ⟨_, _, _, _, ?_, ?_, rfl⟩))
            · have := many_len hm fun s h => cS_mem h
              rw [List.length_take] at this
              exact Nat.lt_of_lt_of_le (by omega) (sizeLine_big (n := 1001) (by decide))
            · have hput := hm.put l.1 (v := l.2) (by omega)
              have e : cS (ls.take (i + 1)) = fun x => if x = l.1 then l.2 else cS (ls.take i) x := by
                funext x
                rw [take_snoc hl', cS_snoc]
                by_cases z : x = l.1
                · rw [if_pos z, z, if_pos rfl, n1]
                · rw [if_neg z, if_neg fun q => z q.symm]
                  rfl
              rw [e]
              exact hput
            · intro k l2 hk2 hl2
              rcases Nat.lt_succ_iff_lt_or_eq.mp hk2 with q | q
              · exact hpre k l2 q hl2
              · subst q
                rw [hl'] at hl2
                cases hl2
                exact ⟨n1, n2⟩
        · rintro ρn ⟨kvs, s4, s8, s9, hm, hpre, rfl⟩
          have : kk = true := hk.mpr ⟨ls, rfl, hpos, hp, fun i l h => hpre i l (by rw [List.length_map]; exact (List.getElem?_eq_some_iff.mp h).1) h⟩
          rw [this]
          exact sts_ret ev_bool .rt
end
end DL
set_option maxRecDepth 100000
set_option maxHeartbeats 4000000
/-! walks, 17: _law_cross, _law_lines, _law_up -/
namespace DL
open PySem PySem.Spec PyProof.Rows L2 SlX
section
variable {P : Program} {w : World} {K : PySem.W.Frag} {mg : Str → Option Value} {base : Heap} {C : Addr} {f : Addr} {fd : FuncData}
theorem ev_cntT {X : Cx} {ρ : List Sl} {o e : Expr} {apos pos : Pos} {n : Nat} {ds : List D} {d : D} (hr : Room n X.A) (ho : Ev C X o ρ (.d (.tuple ds))) (he : Ev C X e ρ (.d d)) (p1 : PyData.plainAll ds = true) (p2 : d.plain = true) (p3 : d.depth ≤ 60)
    (hbase : attributeBase o "count" X.env (eval o X.env) = eval o X.env := by rfl)
    (hfew : ((backTo pos (starEach [e] X.env)).all (fun x => !x.1) && (backToKw pos (keywordEach [] X.env)).all (fun x => x.1.isSome) && decide (([e] : List Expr).length + ([] : List Keyword).length + (if ([] : List Keyword).isEmpty then 0 else 1) < 30)) = true := by rfl)
    (hline : (apos.endLine == pos.line) = true := by rfl) (hs : starEach [e] X.env = (false, eval e X.env) :: starEach [] X.env := by rfl) (hplain : (backTo pos (starEach [] X.env)).any (·.1) = false := by rfl) :
    Ev C X (.Call (.Attribute o "count" apos) [e] [] pos) ρ (.d (.int (countD d ds : Nat))) :=
  ev_countT hr ho he p1 p2 p3 (pe_tm F.slot_tuple_count F.type_tuple_count (mt_countT hr) ho (pa_cons he pa_nil hs) hbase hfew hline hs hplain)
theorem ev_cast {X : Cx} {ρ : List Sl} {e : Expr} {a b : D} (h : Ev C X e ρ (.d a)) (q : a = b) : Ev C X e ρ (.d b) := q ▸ h
theorem plainAll_iff : ∀ {xs : List D}, (∀ x ∈ xs, x.plain = true) → PyData.plainAll xs = true
  | [], _ => by simp [PyData.plainAll]
  | x :: xs, h => by
    rw [PyData.plainAll, h x List.mem_cons_self, Bool.true_and]
    exact plainAll_iff fun y hy => h y (List.mem_cons_of_mem _ hy)
theorem countD_eq (ds : List Deed) (d : Deed) : countD (deedD d) (ds.map deedD) = cnt ds d := by
  unfold countD cnt
  rw [List.countP_eq_length_filter, List.filter_map, List.length_map]
  congr 1
  apply List.filter_congr
  intro x _
  exact enc_deed (n := 0) |>.eqv x d
/-! ### _law_cross -/
theorem sc50 : FnScope ["_law_some_so", "_law_more_so", "_law_found", "_law_own", "_law_bit"] ["_law_some_so", "_law_more_so"] (defScope (top 50)) := ⟨rfl, rfl, rfl, by decide +kernel, rfl, by decide +kernel, by decide +kernel⟩
def crossD (xs ys : List D) : List D := xs.flatMap fun x => ys.map fun y => .tuple [x, y]
def rCross : List DV → DV → Prop := fun xs y => ∃ as bs, xs = [.d (.list as), .d (.list bs)] ∧ as.length * bs.length ≤ 1000 ∧ y = .d (.list (crossD as bs))
theorem crossD_len (xs ys : List D) : (crossD xs ys).length = xs.length * ys.length := by
  unfold crossD
  induction xs with
  | nil => simp
  | cons x xs ih => rw [List.flatMap_cons, List.length_append, ih, List.length_map, List.length_cons, Nat.succ_mul, Nat.add_comm]
theorem crossD_snoc (xs ys : List D) (x : D) : crossD (xs ++ [x]) ys = crossD xs ys ++ ys.map fun y => .tuple [x, y] := by
  unfold crossD
  rw [List.flatMap_append]
  simp
theorem ok_cross (F : Fun K "_law_cross" "_law_cross" (top 50) f fd) (M : Mg mg) : FnOk P w K mg base CX0 1 f fd ["_law_some_so", "_law_more_so"] (spD ⟨P, w, K, C⟩ rCross) := by
  refine fn_D F sc50 (fun xs y h => by obtain ⟨as, bs, rfl, _⟩ := h; rfl) (fun cdv A outer s H E xs y hr h => ?_)
  obtain ⟨as, bs, rfl, hz, rfl⟩ := h
  refine sts_let (x := .d (.list [])) 2 (EvF.d (ef_list (xs := []) ea_nil rfl)) ?_ sc50.nd
  refine sts_for (ds := as) (fun i ρ => ∃ s3, ρ = [.i (.d (.list as)), .i (.d (.list bs)), .i (.d (.list (crossD (as.take i) bs))), s3, .no]) (fun z ρ => ρ.set 3 (.i (.d z))) (ei_list (ev_var 0 rfl)) ⟨.no, rfl⟩ ?_ ?_ ?_
  · rintro i z ρi hz ⟨s3, rfl⟩
    exact ⟨_, eg_name 3 sc50.nd⟩
  · rintro i z ρi hzi ⟨s3, rfl⟩
    have hi := (List.getElem?_eq_some_iff.mp hzi).1
    have hlen : (crossD (as.take i) bs).length + bs.length ≤ 1000 := by
      rw [crossD_len, List.length_take, Nat.min_eq_left (Nat.le_of_lt hi)]
      have : (i + 1) * bs.length ≤ as.length * bs.length := Nat.mul_le_mul_right _ hi
      rw [Nat.succ_mul] at this
      omega
    refine sts_let (x := .d (.list (crossD (as.take (i + 1)) bs))) 2 ?_ (sts_nil ⟨.i (.d z), rfl⟩) sc50.nd
    rw [take_snoc hzi, crossD_snoc]
    exact EvF.d (ef_cat (Nat.le_trans (by rw [List.length_map]; exact hlen) (sizeLine_big (n := 1000) (by decide))) (ev_var 2 rfl) (EvF.d (ef_lcm (own := [("_law_bit", 4)]) (ds := bs) (js := [4]) (f := fun y => .tuple [z, y]) rfl sc50.nd (blkOk_by (by rfl)) (by decide)
      (ei_list (ev_var 1 rfl)) (fun _ _ _ _ _ d hd => eg_name 4 sc50.nd) (fun _ _ _ _ _ d hd => ev_pair (ev_var 3 rfl) (ev_var 4 rfl)))))
  · rintro ρn ⟨s3, rfl⟩
    rw [List.take_length]
    exact sts_ret (ev_var 2 rfl) .rt
/-! ### _law_lines -/
theorem sc51 : FnScope ["_law_row_so", "_law_k", "_law_own"] ["_law_row_so"] (defScope (top 51)) := ⟨rfl, rfl, rfl, by decide +kernel, rfl, by decide +kernel, by decide +kernel⟩
def rLawLines : List DV → DV → Prop := fun xs y => ∃ ds, xs = [.d (deedsD ds)] ∧ ds.length ≤ 1000 ∧ y = .d (.list ((numb ds).map lineD))
def lnE (ds : List Deed) (d : D) : D := match dAt d 0 with
  | .int i => lineD (lnAt ds i.toNat)
  | _ => .none
theorem numb_enum (ds : List Deed) : ((enumD (ds.map deedD)).filter enW).map (lnE ds) = (numb ds).map lineD := by
  rw [enumD_range, List.filter_map, List.map_map]
  unfold numb wr
  have e : (List.range ds.length).filter (enW ∘ fun i => .tuple [.int (i : Nat), (ds[i]?.map deedD).getD .none]) = (List.range ds.length).filter (isW ds) := by
    apply List.filter_congr
    intro i hi
    have hl := List.mem_range.mp hi
    show PyData.eqv (dAt ((ds[i]?.map deedD).getD .none) 0) (.str "write") = isW ds i
    unfold isW
    rw [List.getElem?_eq_getElem hl]
    exact word_eq _
  rw [e, List.map_map]
  rfl
theorem ok_lawLines (F : Fun K "_law_lines" "_law_lines" (top 51) f fd) (M : Mg mg) : FnOk P w K mg base CX0 1 f fd ["_law_row_so"] (spD ⟨P, w, K, C⟩ rLawLines) := by
  refine fn_D F sc51 (fun xs y h => by obtain ⟨as, rfl, _⟩ := h; rfl) (fun cdv A outer s H E xs y hr h => ?_)
  obtain ⟨ds, rfl, hz, rfl⟩ := h
  refine sts_retF (ef_eq (ef_lc (own := [("_law_k", 1), ("_law_own", 2)]) (ds := enumD (ds.map deedD)) (js := [1, 2]) (p := enW) (f := lnE ds)
    (ρ' := fun d => [.i (.d (deedsD ds)), .i (.d (dAt d 0)), .i (.d (dAt d 1))]) rfl sc51.nd (blkOk_by (by rfl)) (by decide) (ei_enumT M.enum (ev_var 0 rfl)) (fun _ _ _ _ _ d hd => ?_) (fun _ _ _ _ _ d hd => ?_) (fun _ _ _ _ _ d hd hp => ?_)) (numb_enum ds)) .rt
  · obtain ⟨i, x, hx, rfl⟩ := mem_enumD hd
    exact eg_tup rfl (egs_cons (eg_name 1 sc51.nd) (egs_cons (eg_name 2 sc51.nd) egs_nil))
  · obtain ⟨i, x, hx, rfl⟩ := mem_enumD hd
    obtain ⟨y, hy, rfl⟩ := Option.map_eq_some_iff.mp (by rw [← List.getElem?_map]; exact hx)
    exact ets_one (et_eq hr (okD_str (n := 0) (wordS_ok _)).shp (okD_str (n := 0) strOk_write).shp rfl (ev_ix_tup (ds := [.str (wordS y.1), .str y.2.1]) (i := 0) rfl (ev_var 2 rfl) ev_int) ev_str)
  · obtain ⟨i, x, hx, rfl⟩ := mem_enumD hd
    obtain ⟨⟨b, s⟩, hy, rfl⟩ := Option.map_eq_some_iff.mp (by rw [← List.getElem?_map]; exact hx)
    have hb : b = true := by
      have q : PyData.eqv (.str (wordS b)) (.str "write") = true := hp
      rwa [word_eq] at q
    subst hb
    have e : lnE ds (.tuple [.int (i : Nat), deedD (true, s)]) = .tuple [.str s.1, .int (countD (deedD (true, s)) ((ds.take (i + 1)).map deedD) : Nat)] := by
      show lineD (lnAt ds i) = _
      rw [lnAt_eq hy, countD_eq]
      rfl
    rw [e]
    refine ev_pair (ev_ix_tup (ds := [.str (wordS true), .str s.1]) (i := 1) rfl (ev_var 2 rfl) ev_int) (ev_cntT hr (ev_cast (ev_sl_tup (ev_var (x := .d (deedsD ds)) 0 rfl) eo_none (eo_some (ev_add (i := (i : Nat)) (j := 1) (ev_var 1 rfl) ev_int))) (by
      have : cutD (ds.map deedD) none (some ((i : Int) + 1)) = (ds.take (i + 1)).map deedD := by
        rw [List.map_take]
        exact cut_to _ (i + 1)
      rw [this])) (ev_var 2 rfl) (plainAll_iff fun x hx => ?_) ((enc_deed (n := 0)).ok _).plain (Nat.le_trans ((enc_deed (n := 0)).ok _).dp (by decide)))
    obtain ⟨y, _, rfl⟩ := List.mem_map.mp hx
    exact ((enc_deed (n := 0)).ok y).plain
end
end DL
set_option maxRecDepth 100000
set_option maxHeartbeats 4000000
/-! walks, 18: _law_up, _law_orders -/
namespace DL
open PySem PySem.Spec PyProof.Rows L2 SlX
/-- the buffers, as data -/
def qsD (qs : List (List Line)) : D := .tuple (qs.map linesD)
/-- m lines of buffer k go to buffer far -/
def upQ (far k m : Nat) (qs : List (List Line)) : List (List Line) := (List.range qs.length).map fun j => if j = k then (qs.getD j []).drop m else if j = far then qs.getD j [] ++ (qs.getD k []).take m else qs.getD j []
theorem eqv_nat (i k : Nat) : PyData.eqv (.int (i : Nat)) (.int (k : Nat)) = decide (i = k) := by
  show ((i : Int) == (k : Int)) = decide (i = k)
  rw [Bool.eq_iff_iff, beq_iff_eq, decide_eq_true_eq]
  omega
theorem linesD_cut (q : List Line) (k : Nat) : PyData.tuple (cutD (q.map lineD) none (some (k : Int))) = linesD (q.take k) := by
  rw [cut_to, ← List.map_take]
  rfl
theorem linesD_rest (q : List Line) (k : Nat) : PyData.tuple (cutD (q.map lineD) (some (k : Int)) none) = linesD (q.drop k) := by
  rw [cut_from, ← List.map_drop]
  rfl
section
variable {P : Program} {w : World} {K : PySem.W.Frag} {mg : Str → Option Value} {base : Heap} {C : Addr} {f : Addr} {fd : FuncData}
theorem sc54 : FnScope ["_law_spots_so", "_law_here", "_law_k", "_law_many_so", "_law_far", "_law_found", "_law_j", "_law_bit"] ["_law_spots_so", "_law_here", "_law_k", "_law_many_so"] (defScope (top 54)) := ⟨rfl, rfl, rfl, by decide +kernel, rfl, by decide +kernel, by decide +kernel⟩
def rUp : List DV → DV → Prop := fun xs y => ∃ sps qs k m far, xs = [.d (.list (intsD sps)), .d (qsD qs), .d (.int (k : Nat)), .d (.int (m : Nat))] ∧ sps[k]? = some far ∧ k < qs.length ∧ qs.length ≤ 1000 ∧ (∀ q ∈ qs, q.length ≤ 1000) ∧ y = .d (qsD (upQ far k m qs))
theorem ok_up (F : Fun K "_law_up" "_law_up" (top 54) f fd) (M : Mg mg) : FnOk P w K mg base CX0 1 f fd ["_law_spots_so", "_law_here", "_law_k", "_law_many_so"] (spD ⟨P, w, K, C⟩ rUp) := by
  refine fn_D F sc54 (fun xs y h => by obtain ⟨sps, qs, k, m, far, rfl, _⟩ := h; rfl) (fun cdv A outer s H E xs y hr h => ?_)
  obtain ⟨sps, qs, k, m, far, rfl, hfar, hk, hq, hqs, rfl⟩ := h
  have hsp : (intsD sps)[k]? = some (.int (far : Nat)) := by
    unfold intsD
    rw [List.getElem?_map, hfar]
    rfl
  have hqk : (qs.map linesD)[k]? = some (linesD (qs.getD k [])) := by
    rw [List.getElem?_map, List.getD_eq_getElem?_getD, List.getElem?_eq_getElem hk]
    rfl
  refine sts_let (x := .d (.int (far : Nat))) 4 (ev_ix_list (atI_nat hsp) (ev_var 0 rfl) (ev_var 2 rfl)) ?_ sc54.nd
  refine sts_set 5 (s := .ml []) (ef_list (xs := []) ea_nil rfl).s ?_ sc54.nd
  refine sts_for (ds := enumD (qs.map linesD)) (fun i ρ => ∃ s6 s7, ρ = [.i (.d (.list (intsD sps))), .i (.d (qsD qs)), .i (.d (.int (k : Nat))), .i (.d (.int (m : Nat))), .i (.d (.int (far : Nat))), .ml (((upQ far k m qs).take i).map linesD), s6, s7])
    (fun z ρ => (ρ.set 6 (.i (.d (dAt z 0)))).set 7 (.i (.d (dAt z 1)))) (ei_enumT M.enum (ev_var 1 rfl)) ⟨.no, .no, rfl⟩ ?_ ?_ ?_
  · rintro i z ρi hz ⟨s6, s7, rfl⟩
    obtain ⟨j, x, hx, rfl⟩ := mem_enumD (List.mem_of_getElem? hz)
    exact ⟨_, eg_tup rfl (egs_cons (eg_name 6 sc54.nd) (egs_cons (eg_name 7 sc54.nd) egs_nil))⟩
  · rintro i z ρi hz ⟨s6, s7, rfl⟩
    have hi : i < qs.length := by
      have := (List.getElem?_eq_some_iff.mp hz).1
      rwa [enumD_len, List.length_map] at this
    have hz2 : z = .tuple [.int (i : Nat), linesD (qs.getD i [])] := by
      have h2 := enumD_get (ds := qs.map linesD) (i := i) (d := linesD (qs.getD i [])) (by rw [List.getElem?_map, List.getD_eq_getElem?_getD, List.getElem?_eq_getElem hi]; rfl)
      rw [h2] at hz
      exact (Option.some.inj hz).symm
    subst hz2
    have hsz : ∀ j, (qs.getD j []).length ≤ 1000 := fun j => by
      rw [List.getD_eq_getElem?_getD]
      cases e : qs[j]? with
      | none => exact Nat.zero_le _
      | some q => exact hqs q (List.mem_of_getElem? e)
    have hup : (upQ far k m qs)[i]? = some (if i = k then (qs.getD i []).drop m else if i = far then qs.getD i [] ++ (qs.getD k []).take m else qs.getD i []) := by
      unfold upQ
      rw [List.getElem?_map, List.getElem?_range hi]
      rfl
    have hlen : (upQ far k m qs).length = qs.length := by
      unfold upQ
      rw [List.length_map, List.length_range]
    refine sts_app 5 (d := linesD (if i = k then (qs.getD i []).drop m else if i = far then qs.getD i [] ++ (qs.getD k []).take m else qs.getD i [])) rfl ?_ ?_ (sts_nil ⟨.i (.d (.int (i : Nat))), .i (.d (linesD (qs.getD i []))), ?_⟩)
    · rw [List.length_map, List.length_take, hlen]
      exact Nat.lt_of_lt_of_le (by omega) (sizeLine_big (n := 1001) (by decide))
    · refine ev_if (k := decide (i = k)) (et_eq (d := .int (i : Nat)) (e := .int (k : Nat)) hr (okD_int (n := 0) _).shp (okD_int (n := 0) _).shp (eqv_nat i k) (ev_var 6 rfl) (ev_var 2 rfl)) (fun z => ?_) (fun z => ?_)
      · rw [if_pos (of_decide_eq_true z)]
        exact ev_cast (ev_sl_tup (ds := (qs.getD i []).map lineD) (ev_var 7 rfl) (eo_some (ev_var 3 rfl)) eo_none) (linesD_rest _ _)
      · rw [if_neg (of_decide_eq_false z)]
        refine ev_if (k := decide (i = far)) (et_eq (d := .int (i : Nat)) (e := .int (far : Nat)) hr (okD_int (n := 0) _).shp (okD_int (n := 0) _).shp (eqv_nat i far) (ev_var 6 rfl) (ev_var 4 rfl)) (fun z => ?_) (fun z => ?_)
        · rw [if_pos (of_decide_eq_true z)]
          refine ev_cast (ev_cat_tup (ds := (qs.getD i []).map lineD) (es := ((qs.getD k []).take m).map lineD) ?_ (ev_var 7 rfl) (ev_cast (ev_sl_tup (ds := (qs.getD k []).map lineD) (ev_ix_tup (atI_nat hqk) (ev_var 1 rfl) (ev_var 2 rfl)) eo_none (eo_some (ev_var 3 rfl))) (linesD_cut _ _))) (by rw [← List.map_append]; rfl)
          have h1 := hsz i
          have h2 := hsz k
          rw [List.length_map, List.length_map, List.length_take]
          exact Nat.le_trans (by omega) (sizeLine_big (n := 2000) (by decide))
        · rw [if_neg (of_decide_eq_false z)]
          exact ev_var 7 rfl
    · rw [take_snoc hup, List.map_append]
      rfl
  · rintro ρn ⟨s6, s7, rfl⟩
    have hlen : (upQ far k m qs).length = qs.length := by
      unfold upQ
      rw [List.length_map, List.length_range]
    rw [enumD_len, List.length_map, ← hlen, List.take_length]
    exact sts_fix 5 rfl (sts_ret (ev_tuple_list (ev_var 5 rfl) M.tuple) .rt)
end
end DL
set_option maxRecDepth 100000
set_option maxHeartbeats 4000000
/-! walks, 19: _law_orders -/
namespace DL
open PySem PySem.Spec PyProof.Rows L2 SlX
def ext (every : List Line) (h : List Line) : List (List Line) := (every.filter fun o => decide (o ∉ h)).map fun o => h ++ [o]
def ordStep (every : List Line) (found : List (List Line)) : List (List Line) := found.flatMap (ext every)
def ordN (every : List Line) : Nat → List (List Line)
  | 0 => [[]]
  | n + 1 => ordStep every (ordN every n)
def orders (every : List Line) : List (List Line) := ordN every every.length
theorem ext_len (every h : List Line) : (ext every h).length ≤ every.length := by
  unfold ext
  rw [List.length_map]
  exact List.length_filter_le _ _
theorem ordStep_len (every : List Line) : ∀ found : List (List Line), (ordStep every found).length ≤ found.length * every.length
  | [] => Nat.zero_le _
  | h :: found => by
    have : ordStep every (h :: found) = ext every h ++ ordStep every found := rfl
    rw [this, List.length_append, List.length_cons, Nat.succ_mul]
    have := ext_len every h
    have := ordStep_len every found
    omega
theorem ordStep_snoc (every : List Line) (found : List (List Line)) (h : List Line) : ordStep every (found ++ [h]) = ordStep every found ++ ext every h := by
  unfold ordStep
  rw [List.flatMap_append]
  simp
theorem ordN_each {every : List Line} : ∀ {n : Nat} {h : List Line}, h ∈ ordN every n → h.length = n
  | 0, h, hh => by
    rw [List.mem_singleton.mp hh]
    rfl
  | n + 1, h, hh => by
    obtain ⟨g, hg, h2⟩ := List.mem_flatMap.mp (show h ∈ (ordN every n).flatMap (ext every) from hh)
    obtain ⟨o, _, rfl⟩ := List.mem_map.mp h2
    rw [List.length_append, ordN_each hg]
    rfl
theorem ordN_len {every : List Line} (h : every.length ≤ 4) : ∀ n, (ordN every n).length ≤ 4 ^ n
  | 0 => Nat.le_refl _
  | n + 1 => by
    have h1 := ordStep_len every (ordN every n)
    have h2 := ordN_len h n
    have : (ordN every n).length * every.length ≤ 4 ^ n * 4 := Nat.mul_le_mul h2 h
    rw [Nat.pow_succ]
    exact Nat.le_trans h1 this
def lssD (ls : List (List Line)) : List D := ls.map linesD
section
variable {P : Program} {w : World} {K : PySem.W.Frag} {mg : Str → Option Value} {base : Heap} {C : Addr} {f : Addr} {fd : FuncData}
theorem sc57 : FnScope ["_law_every", "_law_found", "_law_turn", "_law_longer_so", "_law_here", "_law_own"] ["_law_every"] (defScope (top 57)) := ⟨rfl, rfl, rfl, by decide +kernel, rfl, by decide +kernel, by decide +kernel⟩
def rOrders : List DV → DV → Prop := fun xs y => ∃ ev, xs = [.d (.list (ev.map lineD))] ∧ ev.length ≤ 4 ∧ y = .d (.list (lssD (orders ev)))
theorem ok_orders (F : Fun K "_law_orders" "_law_orders" (top 57) f fd) (M : Mg mg) : FnOk P w K mg base CX0 1 f fd ["_law_every"] (spD ⟨P, w, K, C⟩ rOrders) := by
  refine fn_D F sc57 (fun xs y h => by obtain ⟨ev, rfl, _⟩ := h; rfl) (fun cdv A outer s H E xs y hr h => ?_)
  obtain ⟨ev, rfl, hz, rfl⟩ := h
  have hpow : ∀ i, i ≤ 4 → 4 ^ i ≤ 256 := fun i hi => Nat.pow_le_pow_right (n := 4) (by decide) hi
  refine sts_let (x := .d (.list [.tuple []])) 1 (EvF.d (ef_list (xs := [.d (.tuple [])]) (ea_cons ev_unit ea_nil) rfl)) ?_ sc57.nd
  refine sts_for (ds := ev.map lineD) (fun i ρ => ∃ s2 s3 s4, ρ = [.i (.d (.list (ev.map lineD))), .i (.d (.list (lssD (ordN ev i)))), s2, s3, s4, .no]) (fun z ρ => ρ.set 2 (.i (.d z))) (ei_list (ev_var 0 rfl)) ⟨.no, .no, .no, rfl⟩ ?_ ?_ ?_
  · rintro i z ρi hz ⟨s2, s3, s4, rfl⟩
    exact ⟨_, eg_name 2 sc57.nd⟩
  · rintro i z ρi hzi ⟨s2, s3, s4, rfl⟩
    have hi : i < ev.length := by
      have := (List.getElem?_eq_some_iff.mp hzi).1
      rwa [List.length_map] at this
    have hN := ordN_len hz i
    have hp := hpow i (by omega)
    refine sts_let (x := .d (.list [])) 3 (EvF.d (ef_list (xs := []) ea_nil rfl)) ?_ sc57.nd
    refine sts_for (ds := lssD (ordN ev i)) (fun j ρ => ∃ s4, ρ = [.i (.d (.list (ev.map lineD))), .i (.d (.list (lssD (ordN ev i)))), .i (.d z), .i (.d (.list (lssD (ordStep ev ((ordN ev i).take j))))), s4, .no]) (fun z ρ => ρ.set 4 (.i (.d z))) (ei_list (ev_var 1 rfl)) ⟨s4, rfl⟩ ?_ ?_ ?_
    · rintro j h ρj hh ⟨s4, rfl⟩
      exact ⟨_, eg_name 4 sc57.nd⟩
    · rintro j hd ρj hh ⟨s4, rfl⟩
      obtain ⟨h, hh', rfl⟩ := Option.map_eq_some_iff.mp (by rw [← List.getElem?_map]; exact hh)
      have hhl : h.length = i := ordN_each (List.mem_of_getElem? hh')
      refine sts_let (x := .d (.list (lssD (ordStep ev ((ordN ev i).take (j + 1)))))) 3 ?_ (sts_nil ⟨.i (.d (linesD h)), rfl⟩) sc57.nd
      have e : lssD (ordStep ev ((ordN ev i).take (j + 1))) = lssD (ordStep ev ((ordN ev i).take j)) ++ lssD (ext ev h) := by
        rw [take_snoc hh', ordStep_snoc]
        exact List.map_append
      rw [e]
      refine EvF.d (ef_cat ?_ (ev_var 3 rfl) (EvF.d (ef_eq (ef_lc (own := [("_law_own", 5)]) (ds := ev.map lineD) (js := [5]) (p := fun d => !inD d (h.map lineD)) (f := fun d => .tuple (h.map lineD ++ [d])) rfl sc57.nd (blkOk_by (by rfl)) (by decide)
        (ei_list (ev_var 0 rfl)) (fun _ _ _ _ _ d hd => eg_name 5 sc57.nd) (fun _ _ _ _ _ d hd => ?_) (fun _ _ _ _ _ d hd _ => ev_cat_tup (ds := h.map lineD) (es := [d]) ?_ (ev_var 4 rfl) (ev_single (ev_var 5 rfl)))) ?_)))
      · unfold lssD
        rw [List.length_map, List.length_map]
        have h1 := ordStep_len ev ((ordN ev i).take j)
        have h2 : ((ordN ev i).take j).length * ev.length ≤ 256 * 4 := Nat.mul_le_mul (by rw [List.length_take]; omega) hz
        have h3 := ext_len ev h
        exact Nat.le_trans (by omega) (sizeLine_big (n := 10000) (by decide))
      · obtain ⟨o, _, rfl⟩ := List.mem_map.mp hd
        exact ets_one (et_niT (d := lineD o) (ds := h.map lineD) hr ((enc_line (n := 0)).ok _).shp ((enc_line (n := 0)).okTup _).shp rfl (ev_var 5 rfl) (ev_var 4 rfl))
      · rw [List.length_map, hhl]
        exact Nat.le_trans (by show i + 1 ≤ 100; omega) (sizeLine_big (n := 100) (by decide))
      · unfold ext lssD
        rw [List.filter_map, List.map_map, List.map_map]
        have : ev.filter ((fun d => !inD d (h.map lineD)) ∘ lineD) = ev.filter fun o => decide (o ∉ h) := by
          apply List.filter_congr
          intro o _
          show (!inD (lineD o) (h.map lineD)) = _
          rw [(enc_line (n := 0)).inD2, decide_not]
        rw [this]
        apply List.map_congr_left
        intro o _
        show PyData.tuple (h.map lineD ++ [lineD o]) = linesD (h ++ [o])
        unfold linesD
        rw [List.map_append]
        rfl
    · rintro ρn ⟨s4, rfl⟩
      unfold lssD
      rw [List.length_map, List.take_length]
      exact sts_let (x := .d (.list (lssD (ordN ev (i + 1))))) 1 (ev_var 3 rfl) (sts_nil ⟨_, _, s4, rfl⟩) sc57.nd
  · rintro ρn ⟨s2, s3, s4, rfl⟩
    rw [List.length_map]
    exact sts_ret (ev_var 1 rfl) .rt
end
end DL
set_option maxRecDepth 100000
set_option maxHeartbeats 4000000
/-! walks, 20: _law_flow -/
namespace DL
open PySem PySem.Spec PyProof.Rows L2 SlX
abbrev State := List (List Line)
/-- the front line of buffer k goes up -/
def mv (sps : List Nat) (q : State) (k : Nat) : State := upQ (sps.getD k 0) k 1 q
def mvs (sps : List Nat) (q : State) : List State := ((List.range sps.length).filter fun k => decide (q.getD k [] ≠ [])).map (mv sps q)
theorem enc_qs {n : Nat} : Enc (n + 3) qsD := enc_lines.tup
def stK (q : State) : NestedKey := .tup (q.map fun l => .tup (l.map lineK))
theorem datas_map {α : Type} (f : α → NestedKey) (g : α → D) (h : ∀ a, (f a).data = g a) : ∀ l : List α, NestedKey.datas (l.map f) = l.map g
  | [] => by simp [NestedKey.datas]
  | a :: l => by rw [List.map_cons, List.map_cons, NestedKey.datas, h a, datas_map f g h l]
theorem depthAll_map {α : Type} (f : α → NestedKey) (n : Nat) (h : ∀ a, (f a).depth ≤ n) : ∀ l : List α, NestedKey.depthAll (l.map f) ≤ n
  | [] => by simp [NestedKey.depthAll]
  | a :: l => by
    rw [List.map_cons, NestedKey.depthAll]
    exact Nat.max_le.mpr ⟨h a, depthAll_map f n h l⟩
theorem stK_data (q : State) : (stK q).data = qsD q := by
  unfold stK qsD
  rw [NestedKey.data, datas_map _ linesD fun l => by rw [NestedKey.data, datas_map _ lineD lineK_data]; rfl]
theorem stK_inj (a b : State) (h : stK a = stK b) : a = b := (enc_qs (n := 0)).inj a b (by rw [← stK_data, ← stK_data, h])
theorem stK_ok (q : State) : KeyOk (stK q) := by
  refine ⟨⟨_, rfl⟩, ?_⟩
  unfold stK
  rw [NestedKey.depth]
  have := depthAll_map (fun l : List Line => NestedKey.tup (l.map lineK)) 7 (fun l => by
    rw [NestedKey.depth]
    have := depthAll_map lineK 6 (fun a => by simp [lineK, NestedKey.depth, NestedKey.depthAll]) l
    omega) q
  omega
theorem alikeL : ∀ a b : List Line, PySem.W.alikeAll (a.map lineD) (b.map lineD) = true
  | [], _ => by simp [PySem.W.alikeAll]
  | _ :: _, [] => by simp [PySem.W.alikeAll]
  | x :: a, y :: b => by
    rw [List.map_cons, List.map_cons, PySem.W.alikeAll, alikeL a b]
    rfl
theorem alikeQ : ∀ a b : State, PySem.W.alikeAll (a.map linesD) (b.map linesD) = true
  | [], _ => by simp [PySem.W.alikeAll]
  | _ :: _, [] => by simp [PySem.W.alikeAll]
  | x :: a, y :: b => by
    rw [List.map_cons, List.map_cons, PySem.W.alikeAll, alikeQ a b, Bool.and_true]
    show PySem.W.alike (.tuple (x.map lineD)) (.tuple (y.map lineD)) = true
    rw [PySem.W.alike]
    exact alikeL x y
theorem alike_qs (l : List State) : PySem.W.AllAlike (l.map qsD) := PySem.W.AllAlike.of (enc := qsD) (bs := l) fun a b => by
  show PySem.W.alike (.tuple (a.map linesD)) (.tuple (b.map linesD)) = true
  rw [PySem.W.alike]
  exact alikeQ a b
/-- fs: all that can be come to from some, in order -/
structure Flow (sps : List Nat) (some fs : List State) : Prop where
  sub : ∀ q ∈ some, q ∈ fs
  cl : ∀ q ∈ fs, ∀ r ∈ mvs sps q, r ∈ fs
  nd : fs.Nodup
  so : (fs.map qsD).Pairwise fun a b => PySem.W.dataLe false id a b = true
  le : ∀ S : List State, (∀ q ∈ some, q ∈ S) → (∀ q ∈ S, ∀ r ∈ mvs sps q, r ∈ S) → ∀ q ∈ fs, q ∈ S
  wd : ∀ q ∈ fs, q.length = sps.length + 1 ∧ ∀ l ∈ q, l.length ≤ 1000
  sz : fs.length * (sps.length + 1) + some.length ≤ 1000000
  sp : sps.length ≤ 100
section
variable {P : Program} {w : World} {K : PySem.W.Frag} {mg : Str → Option Value} {base : Heap} {C : Addr} {f : Addr} {fd : FuncData}
theorem sc55 : FnScope ["_law_spots_so", "_law_some", "_law_known", "_law_edge", "_law_here", "_law_k"] ["_law_spots_so", "_law_some"] (defScope (top 55)) := ⟨rfl, rfl, rfl, by decide +kernel, rfl, by decide +kernel, by decide +kernel⟩
def rFlow : List DV → DV → Prop := fun xs y => ∃ sps some fs, xs = [.d (.list (intsD sps)), .d (.list (some.map qsD))] ∧ Flow sps some fs ∧ y = .d (.list (fs.map qsD))
def knD (known : List State) : List (NestedKey × D) := known.map fun q => (stK q, .bool true)
structure FlowInv (sps : List Nat) (some fs known edge : List State) : Prop where
  nd : known.Nodup
  k1 : ∀ q ∈ known, q ∈ fs
  e1 : ∀ q ∈ edge, q ∈ fs
  s1 : ∀ q ∈ some, q ∈ known ∨ q ∈ edge
  c1 : ∀ q ∈ known, ∀ r ∈ mvs sps q, r ∈ known ∨ r ∈ edge
def hereE (ρ : List Sl) : List D := match ρ[3]? with
  | Option.some (Sl.ml xs) => xs
  | _ => []
theorem mvs_eq (sps : List Nat) (q : State) : ((natsD sps.length).filter fun d => !PyData.eqv (linesD (q.getD (intOf d).toNat [])) (.tuple [])).map (fun d => qsD (mv sps q (intOf d).toNat)) = (mvs sps q).map qsD := by
  unfold natsD mvs
  rw [List.filter_map, List.map_map, List.map_map]
  have e : (List.range sps.length).filter ((fun d => !PyData.eqv (linesD (q.getD (intOf d).toNat [])) (.tuple [])) ∘ fun i : Nat => PyData.int (i : Nat)) = (List.range sps.length).filter fun k => decide (q.getD k [] ≠ []) := by
    apply List.filter_congr
    intro k _
    show (!PyData.eqv (linesD (q.getD k [])) (linesD [])) = _
    rw [(enc_lines (n := 0)).eqv, decide_not]
  rw [e]
  rfl
theorem mvs_len (sps : List Nat) (q : State) : (mvs sps q).length ≤ sps.length := by
  unfold mvs
  rw [List.length_map]
  exact Nat.le_trans (List.length_filter_le _ _) (by rw [List.length_range]; exact Nat.le_refl _)
theorem kn_some {known : List State} {q : State} : (kfind (knD known) (stK q)).isSome = decide (q ∈ known) := by
  unfold kfind knD
  rw [Option.isSome_map, Bool.eq_iff_iff, decide_eq_true_eq, List.find?_isSome]
  constructor
  · rintro ⟨x, hx, e⟩
    obtain ⟨p, hp, rfl⟩ := List.mem_map.mp hx
    rwa [← stK_inj _ _ (of_decide_eq_true e)]
  · intro h
    exact ⟨_, List.mem_map.mpr ⟨q, h, rfl⟩, decide_eq_true rfl⟩
theorem ok_flow (F : Fun K "_law_flow" "_law_flow" (top 55) f fd) (M : Mg mg) (G : Gf P w K mg base "_law_up" 1 (spD ⟨P, w, K, C⟩ rUp)) : FnOk P w K mg base CX0 2 f fd ["_law_spots_so", "_law_some"] (spD ⟨P, w, K, C⟩ rFlow) := by
  refine fn_D F sc55 (fun xs y h => by obtain ⟨sps, so, fs, rfl, _⟩ := h; rfl) (fun cdv A outer s H E xs y hr h => ?_)
  obtain ⟨sps, so, fs, rfl, hF, rfl⟩ := h
  refine sts_par 2 3 (s := .mn []) (t := .ml (so.map qsD)) es_newN (ef_list_of false (ev_var 1 rfl) M.list).s ?_ sc55.nd
  refine sts_while (fun m ρ => ∃ known edge s4, FlowInv sps so fs known edge ∧ m = (fs.length - known.length) * (sps.length + 1) + edge.length ∧ m ≤ 1000000 ∧
      ρ = [.i (.d (.list (intsD sps))), .i (.d (.list (so.map qsD))), .mn (knD known), .ml (edge.map qsD), s4, .no])
    (m0 := fs.length * (sps.length + 1) + so.length) ⟨[], so, .no, ⟨List.nodup_nil, fun _ h => (by cases h), hF.sub, fun q h => .inr h, fun _ h => (by cases h)⟩, rfl, hF.sz, rfl⟩ (fun ρ => !PyData.eqv (.list (hereE ρ)) (.list [])) ?_ ?_ ?_
  · rintro m ρi ⟨known, edge, s4, hI, rfl, hm, rfl⟩
    exact et_frz 3 rfl (et_ne (d := .list (edge.map qsD)) (e := .list []) hr ((enc_qs (n := 0)).okList edge).shp ((enc_qs (n := 0)).okList []).shp rfl (ev_var 3 rfl) (EvF.d (ef_list (xs := []) ea_nil rfl)))
  · rintro m ρi ⟨known, edge, s4, hI, rfl, hm, rfl⟩ hk
    have hne : edge ≠ [] := by
      rintro rfl
      have h2 : (!PyData.eqv (.list (([] : List State).map qsD)) (.list (([] : List State).map qsD))) = true := hk
      rw [((enc_qs (n := 0)).list).eqv] at h2
      simp at h2
    obtain ⟨init, q, rfl⟩ : ∃ init q, edge = init ++ [q] := ⟨edge.dropLast, edge.getLast hne, (List.dropLast_concat_getLast hne).symm⟩
    have hq : q ∈ fs := hI.e1 q (List.mem_append_right _ (List.mem_singleton.mpr rfl))
    obtain ⟨hql, hqs⟩ := hF.wd q hq
    have hsp := hF.sp
    refine sts_pop 4 3 (xs := init.map qsD) (d := qsD q) (by rw [List.map_append]; rfl) (by decide) ?_ sc55.nd pe_popM
    refine sts_if (k := !decide (q ∈ known)) (et_niM 2 (k := stK q) rfl hr (stK_ok q) (by rw [kn_some]) (by rw [stK_data]; exact ev_var 4 rfl)) (fun hkk => ?_) (fun hkk => ?_)
    · have hnk : q ∉ known := by simpa using hkk
      have hnd : (known ++ [q]).Nodup := by
        rw [List.nodup_append]
        exact ⟨hI.nd, List.nodup_cons.mpr ⟨(fun z => by cases z), List.nodup_nil⟩, fun a ha b hb => by
          rw [List.mem_singleton.mp hb]
          rintro rfl
          exact hnk ha⟩
      have hsub : ∀ x ∈ known ++ [q], x ∈ fs := fun x hx => (List.mem_append.mp hx).elim (hI.k1 x) fun z => List.mem_singleton.mp z ▸ hq
      have hlt := len_le_of hnd hsub
      rw [List.length_append, List.length_singleton] at hlt
      have hml := mvs_len sps q
      have hmeas : (fs.length - (known ++ [q]).length) * (sps.length + 1) + (init ++ mvs sps q).length < (fs.length - known.length) * (sps.length + 1) + (init ++ [q]).length := by
        rw [List.length_append, List.length_append, List.length_append, List.length_singleton]
        have e : fs.length - known.length = (fs.length - (known.length + 1)) + 1 := by omega
        rw [e, Nat.succ_mul]
        omega
      have hfl : fs.length * 1 ≤ fs.length * (sps.length + 1) := Nat.mul_le_mul_left _ (by omega)
      have hsz := hF.sz
      refine sts_putN 2 (k := stK q) (u := .bool true) rfl hr (stK_ok q) ?_ ?_ ev_bool (by rw [stK_data]; exact ev_var 4 rfl) ?_
      · have := kn_some (known := known) (q := q)
        rw [decide_eq_false hnk] at this
        cases e : kfind (knD known) (stK q) with
        | none => rfl
        | some _ =>
          rw [e] at this
          cases this
      · unfold knD
        rw [List.length_map]
        exact Nat.lt_of_lt_of_le (by omega) (sizeLine_big (n := 1000000) (Nat.le_refl _))
      refine sts_set 3 (s := .ml ((init ++ mvs sps q).map qsD)) (EvF.s (ef_eq (ef_catM 3 rfl (ds := init.map qsD) (xs := (mvs sps q).map qsD) ?_ (EvF.d (ef_eq (ef_lc (own := [("_law_k", 5)]) (ds := natsD sps.length) (js := [5]) (p := fun d => !PyData.eqv (linesD (q.getD (intOf d).toNat [])) (.tuple [])) (f := fun d => qsD (mv sps q (intOf d).toNat)) rfl sc55.nd (blkOk_by (by rfl)) (by decide)
        (ei_range M.range (sizeLine_big (by omega)) (ev_cast (ev_len_list (ev_var 0 rfl) M.len) (by unfold intsD; rw [List.length_map]))) (fun _ _ _ _ _ d hd => eg_name 5 sc55.nd) (fun _ _ _ _ _ d hd => ?_) (fun _ _ _ _ _ d hd _ => ?_)) (mvs_eq sps q)))) (by rw [List.map_append]))) (sts_nil (sts_nil ⟨_, hmeas, known ++ [q], init ++ mvs sps q, .i (.d (qsD q)), ⟨hnd, hsub, ?_, ?_, ?_⟩, rfl, Nat.le_trans (Nat.le_of_lt hmeas) hm, ?_⟩)) sc55.nd
      · rw [List.length_map, List.length_map]
        have h9 := Nat.le_trans (Nat.le_of_lt hmeas) hm
        rw [List.length_append (as := init)] at h9
        exact Nat.le_trans (by omega) (sizeLine_big (n := 1000000) (Nat.le_refl _))
      · obtain ⟨k, hk2, rfl⟩ := List.mem_map.mp hd
        have hk3 := List.mem_range.mp hk2
        have hqk : (q.map linesD)[k]? = some (linesD (q.getD k [])) := by
          rw [List.getElem?_map, List.getD_eq_getElem?_getD, List.getElem?_eq_getElem (by omega)]
          rfl
        exact ets_one (et_ne (d := linesD (q.getD k [])) (e := .tuple []) hr ((enc_lines (n := 0)).ok _).shp ((enc_lines (n := 0)).ok []).shp rfl (ev_ix_tup (atI_nat hqk) (ev_var 4 rfl) (ev_var 5 rfl)) ev_unit)
      · obtain ⟨k, hk2, rfl⟩ := List.mem_map.mp hd
        have hk3 := List.mem_range.mp hk2
        exact ev_call G hr (ea_cons (ev_var 0 rfl) (ea_cons (ev_var 4 rfl) (ea_cons (ev_var 5 rfl) (ea_cons ev_int ea_nil)))) ⟨sps, q, k, 1, sps.getD k 0, rfl, by rw [List.getD_eq_getElem?_getD, List.getElem?_eq_getElem hk3]; rfl, by omega, by omega, hqs, rfl⟩
      · exact fun x hx => (List.mem_append.mp hx).elim (fun z => hI.e1 x (List.mem_append_left _ z)) fun z => hF.cl q hq x z
      · intro x hx
        rcases hI.s1 x hx with z | z
        · exact .inl (List.mem_append_left _ z)
        · rcases List.mem_append.mp z with z | z
          · exact .inr (List.mem_append_left _ z)
          · exact .inl (List.mem_append_right _ z)
      · intro x hx r hr2
        rcases List.mem_append.mp hx with z | z
        · rcases hI.c1 x z r hr2 with y | y
          · exact .inl (List.mem_append_left _ y)
          · rcases List.mem_append.mp y with y | y
            · exact .inr (List.mem_append_left _ y)
            · exact .inl (List.mem_append_right _ y)
        · rw [List.mem_singleton.mp z] at hr2
          exact .inr (List.mem_append_right _ hr2)
      · have e : knD (known ++ [q]) = knD known ++ [(stK q, .bool true)] := by
          unfold knD
          rw [List.map_append]
          rfl
        rw [e]
        rfl
    · have hik : q ∈ known := by simpa using hkk
      rw [List.length_append, List.length_singleton] at hm ⊢
      refine sts_nil (sts_nil ⟨_, ?_, known, init, .i (.d (qsD q)), ⟨hI.nd, hI.k1, fun x hx => hI.e1 x (List.mem_append_left _ hx), ?_, ?_⟩, rfl, ?_, rfl⟩)
      · omega
      · intro x hx
        rcases hI.s1 x hx with z | z
        · exact .inl z
        · rcases List.mem_append.mp z with z | z
          · exact .inr z
          · rw [List.mem_singleton.mp z]
            exact .inl hik
      · intro x hx r hr2
        rcases hI.c1 x hx r hr2 with y | y
        · exact .inl y
        · rcases List.mem_append.mp y with y | y
          · exact .inr y
          · rw [List.mem_singleton.mp y]
            exact .inl hik
      · omega
  · rintro m ρi ⟨known, edge, s4, hI, rfl, hm, rfl⟩ hk
    have he : edge = [] := by
      have h2 : (!PyData.eqv (.list (edge.map qsD)) (.list (([] : List State).map qsD))) = false := hk
      rw [((enc_qs (n := 0)).list).eqv] at h2
      simpa using h2
    subst he
    have hp : known.Perm fs := (List.perm_ext_iff_of_nodup hI.nd hF.nd).mpr fun q => ⟨hI.k1 q, hF.le known (fun q h => (hI.s1 q h).elim id fun z => by cases z) (fun q h r hr => (hI.c1 q h r hr).elim id fun z => by cases z) q⟩
    have hkeys : ((knD known).map fun z => z.1.data) = known.map qsD := by
      unfold knD
      rw [List.map_map]
      exact List.map_congr_left fun q _ => stK_data q
    have hlen : known.length ≤ 1000000 := by
      rw [hp.length_eq]
      have := hF.sz
      have : fs.length * 1 ≤ fs.length * (sps.length + 1) := Nat.mul_le_mul_left _ (by omega)
      omega
    refine sts_fixN 2 rfl (sts_retF (ef_eq (ef_sorted (SrcD.n (knD known)) ?_ (ev_var 2 rfl) M.sorted hr) ?_) .rt)
    · rw [hkeys]
      refine ⟨alike_qs known, .inl fun d hd => ?_, sizeLine_big (by rw [List.length_map]; exact hlen), fun d hd => ?_⟩
      · obtain ⟨q, hq, rfl⟩ := List.mem_map.mp hd
        have := (hF.wd q (hI.k1 q hq)).1
        cases q with
        | nil => simp at this
        | cons a q => exact ⟨_, _, rfl⟩
      · obtain ⟨q, hq, rfl⟩ := List.mem_map.mp hd
        exact Nat.le_trans ((enc_qs (n := 0)).ok q).dp (by decide)
    · rw [hkeys]
      exact sort_uniq (keyInj_enc (enc_qs (n := 0)) (alike_qs known)) (hp.map qsD) hF.so
end
end DL
set_option maxRecDepth 100000
set_option maxHeartbeats 4000000
/-! walks, 21: deed_in -/
namespace DL
open PySem PySem.Spec PyProof.Rows L2 SlX
def deedS (x : Deed) : Str := if x.1 = true then x.2.1 else "!" ++ x.2.1
theorem str_ext {a b : Str} (h : a.cps.toList = b.cps.toList) : a = b := PySem.W.str_of_cps h
theorem cps_app (a b : Str) : (a ++ b).cps.toList = a.cps.toList ++ b.cps.toList := by
  show (a.cps ++ b.cps).toList = _
  exact Array.toList_append
theorem cut_first (s : Nm) : cutS ("!" ++ s.1) none (some 1) = "!" := by
  apply str_ext
  show (cutD ("!" ++ s.1 : Str).cps.toList none (some ((1 : Nat) : Int))) = _
  rw [cut_to, cps_app]
  rfl
theorem cut_tail (s : Nm) : cutS ("!" ++ s.1) (some 1) none = s.1 := by
  apply str_ext
  show (cutD ("!" ++ s.1 : Str).cps.toList (some ((1 : Nat) : Int)) none) = _
  rw [cut_from, cps_app]
  rfl
theorem nm_first (s : Nm) : cutS s.1 none (some 1) ≠ "!" := by
  intro e
  have h : (cutD s.1.cps.toList none (some ((1 : Nat) : Int))) = ("!" : Str).cps.toList := congrArg (fun z : Str => z.cps.toList) e
  rw [cut_to] at h
  have hs := s.2
  unfold nameB at hs
  simp only [Bool.and_eq_true, List.all_eq_true] at hs
  have hm : 33 ∈ s.1.cps.toList := by
    have : (33 : Nat) ∈ s.1.cps.toList.take 1 := by
      rw [h]
      exact List.mem_singleton.mpr rfl
    exact List.mem_of_mem_take this
  have := hs.2 33 hm
  revert this
  decide
theorem cut_ok (s : Nm) : PyData.strOk (cutS s.1 none (some 1)) = true := by
  have h := name_ok s.2
  unfold PyData.strOk at h ⊢
  rw [← Array.all_toList, List.all_eq_true] at h ⊢
  intro c hc
  have hc2 : c ∈ cutD s.1.cps.toList none (some ((1 : Nat) : Int)) := hc
  rw [cut_to] at hc2
  exact h c (List.mem_of_mem_take hc2)
section
variable {P : Program} {w : World} {K : PySem.W.Frag} {mg : Str → Option Value} {base : Heap} {C : Addr} {f : Addr} {fd : FuncData}
theorem sc23 : FnScope ["word", "flushes", "name"] ["word"] (defScope (top 23)) := ⟨rfl, rfl, rfl, by decide +kernel, rfl, by decide +kernel, by decide +kernel⟩
def rDeedIn : List DV → DV → Prop := fun xs y => ∃ x : Deed, xs = [.d (.str (deedS x))] ∧ y = .d (deedD x)
theorem deedS_len (x : Deed) : (deedS x).length ≤ 9 := by
  have := (name_len x.2.2).2
  unfold deedS
  split
  · omega
  · have e : ("!" ++ x.2.1 : Str).length = 1 + x.2.1.length := by
      show (("!" ++ x.2.1 : Str).cps).size = 1 + x.2.1.cps.size
      rw [← Array.length_toList, cps_app, List.length_append, Array.length_toList, Array.length_toList]
      rfl
    omega
theorem ok_deedIn (F : Fun K "deed_in" "deed_in" (top 23) f fd) (M : Mg mg) (G : Gf P w K mg base "is_name" 1 (spD ⟨P, w, K, C⟩ rIsName)) : FnOk P w K mg base CX0 2 f fd ["word"] (spD ⟨P, w, K, C⟩ rDeedIn) := by
  refine fn_D F sc23 (fun xs y h => by obtain ⟨x, rfl, _⟩ := h; rfl) (fun cdv A outer s H E xs y hr h => ?_)
  obtain ⟨⟨b, n⟩, rfl, rfl⟩ := h
  obtain ⟨tW, hW⟩ := M.WRITE
  obtain ⟨tF, hF⟩ := M.FLUSH
  obtain ⟨tS, hS⟩ := M.SIGN
  have hz : (deedS (b, n)).length ≤ sizeLine := Nat.le_trans (deedS_len _) (sizeLine_big (n := 9) (by decide))
  have hn : isName (nmD n) = true := n.2
  refine sts_let (x := .d (.bool (!b))) 1 ?_ ?_ sc23.nd
  · cases b with
    | true => exact ev_eq (d := .str (cutS n.1 none (some 1))) (e := .str "!") hr (okD_str (n := 0) (cut_ok n)).shp (okD_str (n := 0) (by decide +kernel)).shp (by
        show (cutS n.1 none (some 1) == "!") = false
        exact beq_eq_false_iff_ne.mpr (nm_first n)) (ev_sl_str hz (ev_var 0 rfl) eo_none (eo_some ev_int)) (ev_gstr hS)
    | false => exact ev_eq (d := .str (cutS ("!" ++ n.1) none (some 1))) (e := .str "!") hr (by rw [cut_first]; exact (okD_str (n := 0) (by decide +kernel)).shp) (okD_str (n := 0) (by decide +kernel)).shp (by
        show (cutS ("!" ++ n.1) none (some 1) == "!") = true
        exact beq_iff_eq.mpr (cut_first n)) (ev_sl_str hz (ev_var 0 rfl) eo_none (eo_some ev_int)) (ev_gstr hS)
  refine sts_let (x := .d (nmD n)) 2 (ev_if (k := !b) (et_val (ev_var 1 rfl)) (fun q => ?_) (fun q => ?_)) ?_ sc23.nd
  · have hb : b = false := by simpa using q
    subst hb
    exact ev_cast (ev_sl_str (z := "!" ++ n.1) hz (ev_var 0 rfl) (eo_some ev_int) eo_none) (by rw [cut_tail]; rfl)
  · have hb : b = true := by simpa using q
    subst hb
    exact ev_var 0 rfl
  refine sts_ifF (et_not (k := true) (et_val (ev_call G (hr.mono (by decide)) (ea_cons (ev_var 2 rfl) ea_nil) ⟨nmD n, rfl, (enc_nm (n := 64)).ok n, fun s e => ?_, by rw [hn]⟩))) ?_
  · injection e with e
    rw [← e]
    exact Nat.le_trans (name_len n.2).2 (by decide)
  · refine sts_ret (ev_pair (x := .str (wordS b)) (y := nmD n) (ev_if (k := !b) (et_val (ev_var 1 rfl)) (fun q => ?_) (fun q => ?_)) (ev_var 2 rfl)) .rt
    · have hb : b = false := by simpa using q
      subst hb
      exact ev_gstr hF
    · have hb : b = true := by simpa using q
      subst hb
      exact ev_gstr hW
end
end DL
set_option maxRecDepth 100000
set_option maxHeartbeats 4000000
/-! walks, 22: _law_same of two alike -/
namespace DL
open PySem PySem.Spec PyProof.Rows L2 SlX
theorem eqv_bools (b : Bool) : PyData.eqv (.bool b) (.bool b) = true := by cases b <;> rfl
section
variable {P : Program} {w : World} {K : PySem.W.Frag} {mg : Str → Option Value} {base : Heap} {C : Addr} {f : Addr} {fd : FuncData}
theorem sc46 : FnScope ["_law_got", "_law_goal", "_law_mine_so", "_law_own"] ["_law_got", "_law_goal"] (defScope (top 46)) := ⟨rfl, rfl, rfl, by decide +kernel, rfl, by decide +kernel, by decide +kernel⟩
def rSame (n : Nat) : List DV → DV → Prop := fun xs y => ∃ d, xs = [.d d, .d d] ∧ OkD n d ∧ y = .d (.bool true)
theorem ok_same (F : Fun K "_law_same" "_law_same" (top 46) f fd) (M : Mg mg) (n : Nat) (hn : n ≤ 60) (G : ∀ m, m + 1 = n → Gf P w K mg base "_law_same" (m + 1) (spD ⟨P, w, K, C⟩ (rSame m))) : FnOk P w K mg base CX0 (n + 1) f fd ["_law_got", "_law_goal"] (spD ⟨P, w, K, C⟩ (rSame n)) := by
  refine fn_D F sc46 (fun xs y h => by obtain ⟨d, rfl, _⟩ := h; rfl) (fun cdv A outer s H E xs y hr h => ?_)
  obtain ⟨d, rfl, hd, rfl⟩ := h
  have hsh : SeqAt.shaped d = true := hd.shp (Nat.le_trans hn (by decide))
  have bs : ∀ b, SeqAt.shaped (.bool b) = true := fun b => (okD_bool (n := 0) b).shp
  refine sts_if (et_val (ev_isi2 (p5 := ⟨0, 0, 0, 0⟩) (T := "list") (U := "tuple") (ev_var 1 rfl) M.isi M.list rfl M.tuple rfl (kit_seq hd))) (fun hk => ?_) (fun hk => ?_)
  · have key : ∃ (t : Bool) (xs : List D), d = seqD t xs := by
      cases d with
      | list xs => exact ⟨false, xs, rfl⟩
      | tuple xs => exact ⟨true, xs, rfl⟩
      | _ => cases hk
    obtain ⟨t, xs, rfl⟩ := key
    obtain ⟨m, rfl⟩ : ∃ m, n = m + 1 := by
      cases n with
      | zero =>
        have := hd.dp
        cases t <;> simp [seqD, PyData.depth] at this
      | succ m => exact ⟨m, rfl⟩
    have hall : ∀ x ∈ xs, OkD m x := by
      cases t with
      | true => exact okD_tup.mp hd
      | false => exact okD_list.mp hd
    refine sts_ifF (EvW.t (ew_or (k := false) (m := false) (et_ne (d := .bool (isLst (seqD t xs))) (e := .bool (isLst (seqD t xs))) hr (bs _) (bs _) (by rw [eqv_bools]; rfl) (ev_isi (T := "list") (ev_var 0 rfl) M.isi M.list rfl (kit_lst hd)) (ev_isi (T := "list") (ev_var 1 rfl) M.isi M.list rfl (kit_lst hd)))
      (fun _ => ew_or1 (et_ne (d := .bool (isTup (seqD t xs))) (e := .bool (isTup (seqD t xs))) hr (bs _) (bs _) (by rw [eqv_bools]; rfl) (ev_isi (T := "tuple") (ev_var 0 rfl) M.isi M.tuple rfl (kit_tup hd)) (ev_isi (T := "tuple") (ev_var 1 rfl) M.isi M.tuple rfl (kit_tup hd)))))) ?_
    have hlen : ∀ {X : Cx} {ρ : List Sl} {e : Expr} {p pos : Pos}, Ev C X e ρ (.d (seqD t xs)) → X.mg "len" = none → Gl X "len" → (starEach [e] X.env = (false, eval e X.env) :: starEach [] X.env) → ((backTo pos (starEach [] X.env)).any (·.1) = false) → Ev C X (.Call (.Name "len" p) [e] [] pos) ρ (.d (.int (xs.length : Nat))) := fun h1 h2 h3 h4 h5 => by
      cases t with
      | true => exact ev_len_tup h1 h2 h3 h4 h5
      | false => exact ev_len_list h1 h2 h3 h4 h5
    have hrep : (zipD xs xs).map (fun _ => PyData.bool true) = (xs.map fun _ => true).map PyData.bool := by
      rw [List.map_const', List.map_const', List.map_replicate, zipD_len, Nat.min_self]
    have hone : (xs.map fun _ => true).all id = true := by
      rw [List.all_eq_true]
      intro b hb
      obtain ⟨_, _, rfl⟩ := List.mem_map.mp hb
      rfl
    refine sts_ret (x := .d (.bool (true && (xs.map fun _ => true).all id))) (ev_and (k := true) (ev_eq (d := .int (xs.length : Nat)) (e := .int (xs.length : Nat)) hr (okD_int (n := 0) _).shp (okD_int (n := 0) _).shp (by rw [eqv_nat]; exact decide_eq_true rfl) (hlen (ev_var 0 rfl) M.len rfl rfl rfl) (hlen (ev_var 1 rfl) M.len rfl rfl rfl))
      (fun _ => ev_one (ev_all (bs := xs.map fun _ => true) (EvF.d (ef_eq (ef_lcm (own := [("_law_mine_so", 2), ("_law_own", 3)]) (ds := zipD xs xs) (js := [2, 3]) (f := fun _ => .bool true)
        (ρ' := fun z => [.i (.d (seqD t xs)), .i (.d (seqD t xs)), .i (.d (dAt z 0)), .i (.d (dAt z 1))]) rfl sc46.nd (blkOk_by (by rfl)) (by decide) (ei_zip t t M.zip (ev_var 0 rfl) (ev_var 1 rfl)) (fun _ _ _ _ _ z hz => ?_) (fun _ _ _ _ _ z hz => ?_)) hrep)) M.all))) (by rw [hone]; exact .rt)
    · obtain ⟨i, hi⟩ := List.getElem?_of_mem hz
      have hl : i < xs.length := by
        have := (List.getElem?_eq_some_iff.mp hi).1
        rw [zipD_len] at this
        omega
      have h2 := zipD_get (List.getElem?_eq_getElem hl) (List.getElem?_eq_getElem hl)
      rw [hi] at h2
      cases h2
      exact eg_tup rfl (egs_cons (eg_name 2 sc46.nd) (egs_cons (eg_name 3 sc46.nd) egs_nil))
    · obtain ⟨i, hi⟩ := List.getElem?_of_mem hz
      have hl : i < xs.length := by
        have := (List.getElem?_eq_some_iff.mp hi).1
        rw [zipD_len] at this
        omega
      have h2 := zipD_get (List.getElem?_eq_getElem hl) (List.getElem?_eq_getElem hl)
      rw [hi] at h2
      cases h2
      exact ev_call (G m rfl) hr (ea_cons (ev_var 2 rfl) (ea_cons (ev_var 3 rfl) ea_nil)) ⟨xs[i], rfl, hall _ (List.getElem_mem hl), rfl⟩
  · refine sts_nil ?_
    have heq : PyData.eqv d d = true := by
      cases d with
      | list xs => cases hk
      | tuple xs => cases hk
      | dict _ => have := hd.lay; simp [PyData.canLay0] at this
      | _ => simp [PyData.eqv]
    obtain ⟨ki, kb, e1, e2, e3⟩ := kit_int hd
    have eS := kit_str hd
    have hb : ∀ b : Bool, PyData.eqv (.bool b) (.bool b) = true := eqv_bools
    refine sts_if (k := isNone d || (kb || isStr d)) (EvW.t (ew_or (et_isN (ev_var 1 rfl) ev_none) (fun _ => ew_or1 (et_val (ev_isi2 (p5 := ⟨0, 0, 0, 0⟩) (T := "bool") (U := "str") (ev_var 1 rfl) M.isi M.bool rfl M.str rfl ⟨kb, isStr d, e2, eS, rfl⟩))))) (fun _ => ?_) (fun hk2 => ?_)
    · exact sts_ret (ev_and (k := true) (m := true) (ev_eq hr hsh hsh heq (ev_var 0 rfl) (ev_var 1 rfl)) (fun _ => ev_and (k := true) (m := true) (ev_eq (d := .bool kb) (e := .bool kb) hr (bs _) (bs _) (hb _) (ev_isi (T := "bool") (ev_var 0 rfl) M.isi M.bool rfl e2) (ev_isi (T := "bool") (ev_var 1 rfl) M.isi M.bool rfl e2))
        (fun _ => ev_one (ev_eq (d := .bool (isNone d)) (e := .bool (isNone d)) hr (bs _) (bs _) (hb _) (ev_isN (ev_var 0 rfl) ev_none) (ev_isN (ev_var 1 rfl) ev_none))))) .rt
    · have hki : ki = true := by
        cases d with
        | int i =>
          cases ki with
          | true => rfl
          | false => cases e1
        | none => cases hk2
        | str s => simp [isStr] at hk2
        | bool b =>
          cases kb with
          | true => simp at hk2
          | false => cases e2
        | list xs => cases hk
        | tuple xs => cases hk
        | dict _ => have := hd.lay; simp [PyData.canLay0] at this
      have hkb : kb = false := by
        cases kb with
        | false => rfl
        | true => simp at hk2
      subst hki hkb
      exact sts_nil (sts_ret (ev_and (k := true) (m := true) (ev_isi (T := "int") (ev_var 0 rfl) M.isi M.int rfl e1) (fun _ => ev_and (k := true) (m := true) (ev_not (k := false) (ev_isi (T := "bool") (ev_var 0 rfl) M.isi M.bool rfl e2)) (fun _ => ev_one (ev_eq hr hsh hsh heq (ev_var 0 rfl) (ev_var 1 rfl))))) .rt)
end
end DL
set_option maxRecDepth 100000
set_option maxHeartbeats 4000000
/-! walks, 23: _law_deep_outs -/
namespace DL
open PySem PySem.Spec PyProof.Rows L2 SlX
/-! ### models -/
/-- the number of a buffer -/
def bno (t : Tree) (a : Nm) : Nat := (tnames t).idxOf a
/-- what each buffer goes on to -/
def spots (t : Tree) : List Nat := t.map fun p => match p.2 with
  | none => t.length
  | some b => bno t b
/-- a line is written into buffer k -/
def wrS (q : State) (k : Nat) (l : Line) : State := q.take k ++ (q.getD k [] ++ [l]) :: q.drop (k + 1)
/-- buffer k is flushed -/
def flS (sps : List Nat) (q : State) (k : Nat) : State := upQ (sps.getD k 0) k (q.getD k []).length q
def stepS (t : Tree) (ds : List Deed) (i : Nat) (q : State) : State := match ds[i]? with
  | some (true, s) => wrS q (bno t s) (lnAt ds i)
  | some (false, s) => flS (spots t) q (bno t s)
  | none => q
/-- all that can be, deed by deed -/
structure Deep (t : Tree) (ds : List Deed) (Ss Fs : Nat → List State) : Prop where
  z : Ss 0 = [List.replicate (t.length + 1) []]
  fl : ∀ i, i ≤ ds.length → Flow (spots t) (Ss i) (Fs i)
  st : ∀ i, i < ds.length → Ss (i + 1) = (Fs i).map (stepS t ds i)
def lastQ (q : State) : List Line := q.getLast?.getD []
def outsF (ds : List Deed) (F : List State) : List (List Line) := (F.filter fun q => decide ((lastQ q).length = (numb ds).length)).map lastQ
end DL
set_option maxRecDepth 100000
set_option maxHeartbeats 4000000
/-! walks, 24: _law_deep_outs, the walk -/
namespace DL
open PySem PySem.Spec PyProof.Rows L2 SlX
theorem idx_nm (ns : List Nm) (a : Nm) : (ns.map nmD).findIdx (fun z => PyData.eqv z (nmD a)) = ns.idxOf a := by
  induction ns with
  | nil => rfl
  | cons x ns ih =>
    rw [List.map_cons, List.findIdx_cons, List.idxOf_cons, ih, (enc_nm (n := 0)).eqv]
    by_cases e : x = a
    · simp [e]
    · have e2 : (x == a) = false := beq_eq_false_iff_ne.mpr e
      rw [e2, decide_eq_false e]
theorem firstAt_nm {ns : List Nm} {a : Nm} (h : a ∈ ns) : FirstAt (nmD a) (ns.map nmD) (ns.idxOf a) := by
  have hl := List.idxOf_lt_length_iff.mpr h
  refine ⟨⟨nmD a, ?_, ((enc_nm (n := 0)).eqv a a).trans (decide_eq_true rfl)⟩, fun m z hm hz => ?_⟩
  · rw [List.getElem?_map, List.getElem?_eq_getElem hl, List.getElem_idxOf hl]
    rfl
  · obtain ⟨b, hb, rfl⟩ := Option.map_eq_some_iff.mp (by rw [← List.getElem?_map]; exact hz)
    rw [(enc_nm (n := 0)).eqv]
    refine decide_eq_false fun e => ?_
    subst e
    obtain ⟨h1, h2⟩ := List.getElem?_eq_some_iff.mp hb
    have := List.not_of_lt_findIdx (p := (· == b)) (xs := ns) (i := m) hm
    rw [h2] at this
    simp at this
/-- what is asked of the row -/
structure DeepOk (t : Tree) (ds : List Deed) (Ss Fs : Nat → List State) (os : List (List Line)) : Prop where
  tr : TreeOk t
  ft : ∀ d ∈ ds, d.2 ∈ tnames t
  two : 1 ≤ t.length
  len : ds.length ≤ 100
  dp : Deep t ds Ss Fs
  pm : (outsF ds (Fs ds.length)).Perm os
  so : (os.map linesD).Pairwise fun a b => PySem.W.dataLe false id a b = true
  ln : ∀ i q, i ≤ ds.length → q ∈ Fs i → ∀ l ∈ q, l.length ≤ 100
  z1 : numb ds = [] → os.length ≤ 1
end DL
set_option maxRecDepth 100000
set_option maxHeartbeats 4000000
/-! walks, 25: _law_deep_outs, the walk -/
namespace DL
open PySem PySem.Spec PyProof.Rows L2 SlX
/-- the number a row of the wood goes on to -/
def spE (t : Tree) (d : D) : D := if PyData.eqv (dAt d 1) (.str "") = true then .int (t.length : Nat) else .int ((((tnames t).map nmD).findIdx fun z => PyData.eqv z (dAt d 1) : Nat))
theorem spots_eq (t : Tree) : (t.map edgeD).map (spE t) = intsD (spots t) := by
  unfold intsD spots
  rw [List.map_map, List.map_map]
  apply List.map_congr_left
  rintro ⟨a, b⟩ _
  cases b with
  | none =>
    rfl
  | some b =>
    have h : PyData.eqv (.str (upS (some b))) (.str (upS none)) = false := ((enc_up (n := 0)).eqv _ _).trans (decide_eq_false fun z => nomatch z)
    have e : spE t (edgeD (a, some b)) = PyData.int (((tnames t).map nmD).findIdx (fun z => PyData.eqv z (nmD b)) : Nat) := if_neg (by
      show ¬ PyData.eqv (.str (upS (some b))) (.str (upS none)) = true
      rw [h]
      exact Bool.false_ne_true)
    show spE t (edgeD (a, some b)) = _
    rw [e, idx_nm]
    rfl
theorem names_eq (t : Tree) : (t.map edgeD).map (fun d => dAt d 0) = (tnames t).map nmD := by
  unfold tnames
  rw [List.map_map, List.map_map]
  rfl
def itemsOf : D → List D
  | .tuple xs => xs
  | .list xs => xs
  | _ => []
def lastD (d : D) : D := (itemsOf d).getLast?.getD .none
open Classical in
/-- what g does, on data -/
noncomputable def liftQ (g : State → State) (d : D) : D := if h : ∃ q, d = qsD q then qsD (g h.choose) else .none
theorem liftQ_eq (g : State → State) (q : State) : liftQ g (qsD q) = qsD (g q) := by
  have h : ∃ q', qsD q = qsD q' := ⟨q, rfl⟩
  unfold liftQ
  rw [dif_pos h, (enc_qs (n := 0)).inj _ _ h.choose_spec.symm]
theorem liftQ_map (g : State → State) (l : List State) : (l.map qsD).map (liftQ g) = (l.map g).map qsD := by
  rw [List.map_map, List.map_map]
  exact List.map_congr_left fun q _ => liftQ_eq g q
theorem lastD_eq {q : State} (h : q ≠ []) : lastD (qsD q) = linesD (lastQ q) := by
  show ((q.map linesD).getLast?).getD .none = _
  unfold lastQ
  rw [List.getLast?_map, List.getLast?_eq_some_getLast h]
  rfl
theorem atI_lastQ {q : State} (h : q ≠ []) : atI (q.map linesD) (-1) = some (linesD (lastQ q)) := by
  have e1 : lastQ q = q.getLast h := by
    unfold lastQ
    rw [List.getLast?_eq_some_getLast h]
    rfl
  have e2 : q.map linesD = q.dropLast.map linesD ++ [linesD (lastQ q)] := by
    conv => lhs; rw [← List.dropLast_concat_getLast h]
    rw [List.map_append, e1]
    rfl
  rw [e2]
  exact L2.atI_last ..
section
variable {P : Program} {w : World} {K : PySem.W.Frag} {mg : Str → Option Value} {base : Heap} {C : Addr} {f : Addr} {fd : FuncData}
theorem sc56 : FnScope ["_law_wood_so", "_law_row_so", "_law_own", "_law_bit", "_law_names_so", "_law_spots_so", "_law_some", "_law_at_so", "_law_k", "_law_line_so", "_law_here", "_law_many_so"] ["_law_wood_so", "_law_row_so"] (defScope (top 56)) := ⟨rfl, rfl, rfl, by decide +kernel, rfl, by decide +kernel, by decide +kernel⟩
def rDeep : List DV → DV → Prop := fun xs y => ∃ t ds Ss Fs os, xs = [.d (treeD t), .d (deedsD ds)] ∧ DeepOk t ds Ss Fs os ∧ y = .d (.list (os.map linesD))
theorem ok_deep (F : Fun K "_law_deep_outs" "_law_deep_outs" (top 56) f fd) (M : Mg mg) (G1 : Gf P w K mg base "_law_flow" 2 (spD ⟨P, w, K, C⟩ rFlow)) (G2 : Gf P w K mg base "_law_up" 1 (spD ⟨P, w, K, C⟩ rUp)) (G3 : Gf P w K mg base "_law_lines" 1 (spD ⟨P, w, K, C⟩ rLawLines)) : FnOk P w K mg base CX0 3 f fd ["_law_wood_so", "_law_row_so"] (spD ⟨P, w, K, C⟩ rDeep) := by
  refine fn_D F sc56 (fun xs y h => by obtain ⟨t, ds, Ss, Fs, os, rfl, _⟩ := h; rfl) (fun cdv A outer s H E xs y hr h => ?_)
  obtain ⟨t, ds, Ss, Fs, os, rfl, hD, rfl⟩ := h
  have hNl : ((tnames t).map nmD).length = t.length := by
    unfold tnames
    rw [List.length_map, List.length_map]
  refine sts_let (x := .d (.list ((tnames t).map nmD))) 4 (EvF.d (ef_eq (ef_lcm (own := [("_law_own", 2), ("_law_bit", 3)]) (ds := t.map edgeD) (js := [2, 3]) (f := fun d => dAt d 0)
    (ρ' := fun z => [.i (.d (treeD t)), .i (.d (deedsD ds)), .i (.d (dAt z 0)), .i (.d (dAt z 1)), .no, .no, .no, .no, .no, .no, .no, .no]) rfl sc56.nd (blkOk_by (by rfl)) (by decide) (ei_tup (ev_var 0 rfl)) (fun _ _ _ _ _ z hz => ?_) (fun _ _ _ _ _ z hz => ev_var 2 rfl)) (names_eq t))) ?_ sc56.nd
  · obtain ⟨p, _, rfl⟩ := List.mem_map.mp hz
    exact eg_tup rfl (egs_cons (eg_name 2 sc56.nd) (egs_cons (eg_name 3 sc56.nd) egs_nil))
  refine sts_let (x := .d (.list (intsD (spots t)))) 5 (EvF.d (ef_eq (ef_lcm (own := [("_law_own", 2), ("_law_bit", 3)]) (ds := t.map edgeD) (js := [2, 3]) (f := spE t)
    (ρ' := fun z => [.i (.d (treeD t)), .i (.d (deedsD ds)), .i (.d (dAt z 0)), .i (.d (dAt z 1)), .i (.d (.list ((tnames t).map nmD))), .no, .no, .no, .no, .no, .no, .no]) rfl sc56.nd (blkOk_by (by rfl)) (by decide) (ei_tup (ev_var 0 rfl)) (fun _ _ _ _ _ z hz => ?_) (fun _ _ _ _ _ z hz => ?_)) (spots_eq t))) ?_ sc56.nd
  · obtain ⟨p, _, rfl⟩ := List.mem_map.mp hz
    exact eg_tup rfl (egs_cons (eg_name 2 sc56.nd) (egs_cons (eg_name 3 sc56.nd) egs_nil))
  · obtain ⟨⟨a, b⟩, hp, rfl⟩ := List.mem_map.mp hz
    cases b with
    | none => exact ev_if (k := false) (et_ne (d := .str "") (e := .str "") hr ((enc_up (n := 0)).ok none).shp ((enc_up (n := 0)).ok none).shp (by decide +kernel) (ev_var 3 rfl) ev_str) (fun z => nomatch z) fun _ => ev_cast (ev_len_list (ev_var 4 rfl) M.len) (by rw [hNl]; rfl)
    | some b =>
      have h : PyData.eqv (.str (upS (some b))) (.str (upS none)) = false := ((enc_up (n := 0)).eqv _ _).trans (decide_eq_false fun z => nomatch z)
      have hb : b ∈ tnames t := hD.tr.up _ hp b rfl
      have e : spE t (edgeD (a, some b)) = PyData.int ((tnames t).idxOf b : Nat) := by
        have e : spE t (edgeD (a, some b)) = PyData.int (((tnames t).map nmD).findIdx (fun z => PyData.eqv z (nmD b)) : Nat) := if_neg (by
          show ¬ PyData.eqv (.str (upS (some b))) (.str (upS none)) = true
          rw [h]
          exact Bool.false_ne_true)
        rw [e, idx_nm]
      rw [e]
      exact ev_if (k := true) (et_ne (d := .str (upS (some b))) (e := .str "") hr ((enc_up (n := 0)).ok _).shp ((enc_up (n := 0)).ok none).shp (by show (!PyData.eqv (.str (upS (some b))) (.str (upS none))) = true; rw [h]; rfl) (ev_var 3 rfl) ev_str)
        (fun _ => ev_indexL hr (firstAt_nm hb) ((enc_nm (n := 0)).okList _).shp ((enc_nm (n := 0)).ok b).shp (ev_var 4 rfl) (ev_var 3 rfl)) (fun z => nomatch z)
  have hlt : t.length ≤ 100 := hD.tr.len
  refine sts_let (x := .d (.list ((Ss 0).map qsD))) 6 ?_ ?_ sc56.nd
  · rw [hD.dp.z]
    have h1 := hD.two
    refine EvF.d (ef_list (xs := [.d (qsD (List.replicate (t.length + 1) []))]) (ea_cons (ev_cast (ev_rep_tup (ds := [.tuple []]) (n := (t.length : Nat) + 1) (by simp) (by omega) (by omega) (by decide) (ev_single ev_unit) (ev_add (ev_cast (ev_len_list (ev_var 4 rfl) M.len) (by rw [hNl])) ev_int)) ?_) ea_nil) rfl (by show 1 ≤ sizeLine; decide))
    have e : ((t.length : Nat) + 1 : Int).toNat = t.length + 1 := by omega
    rw [e]
    unfold qsD
    rw [List.map_replicate]
    have : ∀ n : Nat, (List.replicate n [PyData.tuple []]).flatten = List.replicate n (linesD []) := fun n => by
      induction n with
      | zero => rfl
      | succ n ih => rw [List.replicate_succ, List.replicate_succ, List.flatten_cons, ih]; rfl
    rw [this]
  refine sts_for (ds := enumD (ds.map deedD)) (fun i ρ => ∃ s2 s7 s8 s9, ρ = [.i (.d (treeD t)), .i (.d (deedsD ds)), s2, .no, .i (.d (.list ((tnames t).map nmD))), .i (.d (.list (intsD (spots t)))), .i (.d (.list ((Ss i).map qsD))), s7, s8, s9, .no, .no])
    (fun z ρ => (ρ.set 7 (.i (.d (dAt z 0)))).set 2 (.i (.d (dAt z 1)))) (ei_enumT M.enum (ev_var 1 rfl)) ⟨.no, .no, .no, .no, rfl⟩ ?_ ?_ ?_
  · rintro i z ρi hz ⟨s2, s7, s8, s9, rfl⟩
    obtain ⟨i', x, hx, rfl⟩ := mem_enumD (List.mem_of_getElem? hz)
    exact ⟨_, eg_tup rfl (egs_cons (eg_name 7 sc56.nd) (egs_cons (eg_name 2 sc56.nd) egs_nil))⟩
  · rintro i z ρi hz ⟨s2, s7, s8, s9, rfl⟩
    have hi : i < ds.length := by
      have := (List.getElem?_eq_some_iff.mp hz).1
      rw [enumD_len, List.length_map] at this
      exact this
    have hd : ds[i]? = some ds[i] := List.getElem?_eq_getElem hi
    have hz2 : (ds.map deedD)[i]? = some (deedD ds[i]) := by rw [List.getElem?_map, hd]; rfl
    rw [enumD_get hz2] at hz
    cases hz
    have hmem : ds[i] ∈ ds := List.getElem_mem hi
    have hs := hD.ft _ hmem
    have hst := hD.dp.st i hi
    have fl := hD.dp.fl i (Nat.le_of_lt hi)
    have hln := hD.ln i
    generalize ds[i] = d at hd hz2 hmem hs
    obtain ⟨b, s⟩ := d
    have hk : (tnames t).idxOf s < (tnames t).length := List.idxOf_lt_length_iff.mpr hs
    rw [show (tnames t).length = t.length from by unfold tnames; rw [List.length_map]] at hk
    refine sts_asg (d := .tuple [.list ((Fs i).map qsD), .int (bno t s : Nat)]) (ρ1 := [.i (.d (treeD t)), .i (.d (deedsD ds)), .i (.d (deedD (b, s))), .no, .i (.d (.list ((tnames t).map nmD))), .i (.d (.list (intsD (spots t)))), .i (.d (.list ((Fs i).map qsD))), .i (.d (.int (i : Nat))), .i (.d (.int (bno t s : Nat))), s9, .no, .no]) (ev_pair (ev_call G1 hr (ea_cons (ev_var 5 rfl) (ea_cons (ev_var 6 rfl) ea_nil)) ⟨spots t, Ss i, Fs i, rfl, fl, rfl⟩)
      (ev_indexL hr (firstAt_nm hs) ((enc_nm (n := 0)).okList _).shp ((enc_nm (n := 0)).ok s).shp (ev_var 4 rfl) (ev_ix_tup (ds := [.str (wordS b), .str s.1]) (i := 1) rfl (ev_var 2 rfl) ev_int))) (eg_tup rfl (egs_cons (eg_name 6 sc56.nd) (egs_cons (eg_name 8 sc56.nd) egs_nil))) ?_
    have hw : ∀ q ∈ Fs i, q.length = t.length + 1 := fun q hq => by
      have := (fl.wd q hq).1
      unfold spots at this
      rw [List.length_map] at this
      exact this
    have hgoal : ((Fs i).map qsD).map (liftQ (stepS t ds i)) = (Ss (i + 1)).map qsD := by rw [liftQ_map, hst]
    refine sts_if (k := b) (et_eq hr (okD_str (n := 0) (wordS_ok _)).shp (okD_str (n := 0) strOk_write).shp (word_eq b) (ev_ix_tup (ds := [.str (wordS b), .str s.1]) (i := 0) rfl (ev_var 2 rfl) ev_int) ev_str) (fun hb => ?_) (fun hb => ?_)
    · subst hb
      refine sts_let (x := .d (lineD (lnAt ds i))) 9 ?_ ?_ sc56.nd
      · have e : lineD (lnAt ds i) = .tuple [.str s.1, .int (countD (deedD (true, s)) ((ds.take (i + 1)).map deedD) : Nat)] := by
          rw [lnAt_eq hd, countD_eq]
          rfl
        rw [e]
        refine ev_pair (ev_ix_tup (ds := [.str (wordS true), .str s.1]) (i := 1) rfl (ev_var 2 rfl) ev_int) (ev_cntT hr (ev_cast (ev_sl_tup (ev_var (x := .d (deedsD ds)) 1 rfl) eo_none (eo_some (ev_add (i := (i : Nat)) (j := 1) (ev_var 7 rfl) ev_int))) (by
          have : cutD (ds.map deedD) none (some ((i : Int) + 1)) = (ds.take (i + 1)).map deedD := by
            rw [List.map_take]
            exact cut_to _ (i + 1)
          rw [this])) (ev_var 2 rfl) (plainAll_iff fun x hx => ?_) ((enc_deed (n := 0)).ok _).plain (Nat.le_trans ((enc_deed (n := 0)).ok _).dp (by decide)))
        obtain ⟨y, _, rfl⟩ := List.mem_map.mp hx
        exact ((enc_deed (n := 0)).ok y).plain
      · refine sts_lc 6 (es := (Ss (i + 1)).map qsD) (own := [("_law_here", 10)]) (ds := (Fs i).map qsD) (js := [10]) (p := fun _ => true) (f := liftQ (stepS t ds i)) (ρ' := fun z => [.i (.d (treeD t)), .i (.d (deedsD ds)), .i (.d (deedD (true, s))), .no, .i (.d (.list ((tnames t).map nmD))), .i (.d (.list (intsD (spots t)))), .i (.d (.list ((Fs i).map qsD))), .i (.d (.int (i : Nat))), .i (.d (.int (bno t s : Nat))), .i (.d (lineD (lnAt ds i))), .i (.d z), .no]) rfl sc56.nd (blkOk_by (by rfl)) (by decide)
          (ei_list (ev_var 6 rfl)) (fun _ _ _ _ _ z hz => eg_name 10 sc56.nd) (fun _ _ _ _ _ z hz => ets_nil) (fun _ _ _ _ _ z hz _ => ?_) (by rw [List.filter_eq_self.mpr fun _ _ => rfl]; exact hgoal) (sts_nil (sts_nil ⟨_, _, _, _, rfl⟩))
        obtain ⟨q, hq, rfl⟩ := List.mem_map.mp hz
        have hql := hw q hq
        have hk1 : bno t s < q.length := by
          show (tnames t).idxOf s < _
          omega
        have hqk : (q.map linesD)[bno t s]? = some (linesD (q.getD (bno t s) [])) := by
          rw [List.getElem?_map, List.getD_eq_getElem?_getD, List.getElem?_eq_getElem hk1]
          rfl
        have hlt2 : (q.getD (bno t s) []).length ≤ 100 := by
          rw [List.getD_eq_getElem?_getD, List.getElem?_eq_getElem hk1]
          exact hln q (Nat.le_of_lt hi) hq _ (List.getElem_mem hk1)
        rw [liftQ_eq]
        have e : qsD (stepS t ds i q) = .tuple ((cutD (q.map linesD) none (some (bno t s : Nat)) ++ [.tuple ((q.getD (bno t s) []).map lineD ++ [lineD (lnAt ds i)])]) ++ cutD (q.map linesD) (some ((bno t s : Nat) + 1)) none) := by
          have e1 : stepS t ds i q = wrS q (bno t s) (lnAt ds i) := by
            unfold stepS
            rw [hd]
          rw [e1, cut_to, show ((bno t s : Nat) : Int) + 1 = ((bno t s + 1 : Nat) : Int) from rfl, cut_from]
          unfold wrS qsD linesD
          rw [List.map_append, List.map_cons, List.map_take, List.map_drop, List.map_append, List.append_assoc]
          rfl
        rw [e]
        have c1 : (cutD (q.map linesD) none (some (bno t s : Nat))).length ≤ 101 := by
          rw [cut_to, List.length_take, List.length_map]
          omega
        have c2 : (cutD (q.map linesD) (some ((bno t s : Nat) + 1)) none).length ≤ 101 := by
          rw [show ((bno t s : Nat) : Int) + 1 = ((bno t s + 1 : Nat) : Int) from rfl, cut_from, List.length_drop, List.length_map]
          omega
        refine ev_cat_tup ?_ (ev_cat_tup ?_ (ev_sl_tup (ev_var (x := .d (qsD q)) 10 rfl) eo_none (eo_some (ev_var 8 rfl))) (ev_single (ev_cat_tup (ds := (q.getD (bno t s) []).map lineD) ?_ (ev_ix_tup (atI_nat hqk) (ev_var 10 rfl) (ev_var 8 rfl)) (ev_single (ev_var 9 rfl))))) (ev_sl_tup (ev_var (x := .d (qsD q)) 10 rfl) (eo_some (ev_add (i := (bno t s : Nat)) (j := 1) (ev_var 8 rfl) ev_int)) eo_none)
        · rw [List.length_append, List.length_singleton]
          exact Nat.le_trans (by omega) (sizeLine_big (n := 1000) (by decide))
        · rw [List.length_singleton]
          exact Nat.le_trans (by omega) (sizeLine_big (n := 1000) (by decide))
        · rw [List.length_map, List.length_singleton]
          exact Nat.le_trans (by omega) (sizeLine_big (n := 1000) (by decide))
    · subst hb
      refine sts_lc 6 (es := (Ss (i + 1)).map qsD) (own := [("_law_here", 10)]) (ds := (Fs i).map qsD) (js := [10]) (p := fun _ => true) (f := liftQ (stepS t ds i)) (ρ' := fun z => [.i (.d (treeD t)), .i (.d (deedsD ds)), .i (.d (deedD (false, s))), .no, .i (.d (.list ((tnames t).map nmD))), .i (.d (.list (intsD (spots t)))), .i (.d (.list ((Fs i).map qsD))), .i (.d (.int (i : Nat))), .i (.d (.int (bno t s : Nat))), s9, .i (.d z), .no]) rfl sc56.nd (blkOk_by (by rfl)) (by decide)
        (ei_list (ev_var 6 rfl)) (fun _ _ _ _ _ z hz => eg_name 10 sc56.nd) (fun _ _ _ _ _ z hz => ets_nil) (fun _ _ _ _ _ z hz _ => ?_) (by rw [List.filter_eq_self.mpr fun _ _ => rfl]; exact hgoal) (sts_nil (sts_nil ⟨_, _, _, _, rfl⟩))
      obtain ⟨q, hq, rfl⟩ := List.mem_map.mp hz
      have hql := hw q hq
      have hk1 : bno t s < q.length := by
        show (tnames t).idxOf s < _
        omega
      have hqk : (q.map linesD)[bno t s]? = some (linesD (q.getD (bno t s) [])) := by
        rw [List.getElem?_map, List.getD_eq_getElem?_getD, List.getElem?_eq_getElem hk1]
        rfl
      rw [liftQ_eq]
      have e1 : stepS t ds i q = flS (spots t) q (bno t s) := by
        unfold stepS
        rw [hd]
      have hsp : (spots t)[bno t s]? = some ((spots t).getD (bno t s) 0) := by
        have : bno t s < (spots t).length := by
          unfold spots
          rw [List.length_map]
          exact hk
        rw [List.getD_eq_getElem?_getD, List.getElem?_eq_getElem this]
        rfl
      rw [e1]
      refine ev_call G2 (hr.mono (by decide)) (ea_cons (ev_var 5 rfl) (ea_cons (ev_var 10 rfl) (ea_cons (ev_var 8 rfl) (ea_cons (ev_len_tup (ds := (q.getD (bno t s) []).map lineD) (ev_ix_tup (atI_nat hqk) (ev_var 10 rfl) (ev_var 8 rfl)) M.len) ea_nil)))) ⟨spots t, q, bno t s, (q.getD (bno t s) []).length, (spots t).getD (bno t s) 0, ?_, hsp, hk1, by omega, fun l hl => Nat.le_trans (hln q (Nat.le_of_lt hi) hq l hl) (by decide), rfl⟩
      rw [List.length_map]
  · rintro ρn ⟨s2, s7, s8, s9, rfl⟩
    rw [enumD_len, List.length_map]
    have fl := hD.dp.fl ds.length (Nat.le_refl _)
    have hlen : ds.length ≤ 1000 := Nat.le_trans hD.len (by decide)
    refine sts_let (x := .d (.int ((numb ds).length : Nat))) 11 (ev_cast (ev_len_list (ds := (numb ds).map lineD) (ev_call G3 (hr.mono (by decide)) (ea_cons (ev_var 1 rfl) ea_nil) ⟨ds, rfl, hlen, rfl⟩) M.len) (by rw [List.length_map])) ?_ sc56.nd
    have hne : ∀ q ∈ Fs ds.length, q ≠ [] := fun q hq e => by
      have := (fl.wd q hq).1
      rw [e] at this
      cases this
    have hres : (((Fs ds.length).map qsD).filter fun d => decide ((itemsOf (lastD d)).length = (numb ds).length)).map lastD = (outsF ds (Fs ds.length)).map linesD := by
      unfold outsF
      rw [List.filter_map, List.map_map, List.map_map]
      have : (Fs ds.length).filter ((fun d => decide ((itemsOf (lastD d)).length = (numb ds).length)) ∘ qsD) = (Fs ds.length).filter fun q => decide ((lastQ q).length = (numb ds).length) := by
        apply List.filter_congr
        intro q hq
        show decide ((itemsOf (lastD (qsD q))).length = _) = _
        rw [lastD_eq (hne q hq)]
        show decide (((lastQ q).map lineD).length = _) = _
        rw [List.length_map]
      rw [this]
      apply List.map_congr_left
      intro q hq
      exact lastD_eq (hne q (List.mem_filter.mp hq).1)
    have hlo : (outsF ds (Fs ds.length)).length ≤ 1000000 := by
      unfold outsF
      rw [List.length_map]
      have h1 := List.length_filter_le (fun q => decide ((lastQ q).length = (numb ds).length)) (Fs ds.length)
      have h2 := fl.sz
      have h3 : (Fs ds.length).length * 1 ≤ (Fs ds.length).length * ((spots t).length + 1) := Nat.mul_le_mul_left _ (by omega)
      omega
    have hso : sortD ((outsF ds (Fs ds.length)).map linesD) = os.map linesD := sort_uniq (keyInj_enc (enc_lines (n := 0)) (PySem.W.AllAlike.of (enc := linesD) (bs := outsF ds (Fs ds.length)) fun a b => by
      show PySem.W.alike (.tuple (a.map lineD)) (.tuple (b.map lineD)) = true
      rw [PySem.W.alike]
      exact alikeL a b)) (hD.pm.map linesD) hD.so
    by_cases hz : numb ds = []
    · have hos : os.length ≤ 1 := hD.z1 hz
      have e : outsF ds (Fs ds.length) = os := perm_one hos hD.pm
      refine sts_retF (ef_eq (ef_sorted1 (ds := (outsF ds (Fs ds.length)).map linesD) (by rw [e, List.length_map]; exact hos) (EvF.d (ef_eq (ef_lc (own := [("_law_here", 10)]) (ds := (Fs ds.length).map qsD) (js := [10]) (p := fun d => decide ((itemsOf (lastD d)).length = (numb ds).length)) (f := lastD) (ρ' := fun z => [.i (.d (treeD t)), .i (.d (deedsD ds)), s2, .no, .i (.d (.list ((tnames t).map nmD))), .i (.d (.list (intsD (spots t)))), .i (.d (.list ((Ss ds.length).map qsD))), s7, s8, s9, .i (.d z), .i (.d (.int ((numb ds).length : Nat)))]) rfl sc56.nd (blkOk_by (by rfl)) (by decide)
        (ei_list (ev_call G1 hr (ea_cons (ev_var 5 rfl) (ea_cons (ev_var 6 rfl) ea_nil)) ⟨spots t, Ss ds.length, Fs ds.length, rfl, fl, rfl⟩)) (fun _ _ _ _ _ z hz => eg_name 10 sc56.nd) (fun _ _ _ _ _ z hz => ?_) (fun _ _ _ _ _ z hz _ => ?_)) hres)) M.sorted) (by rw [e])) .rt
      · obtain ⟨q, hq, rfl⟩ := List.mem_map.mp hz
        rw [lastD_eq (hne q hq)]
        exact ets_one (et_eq (d := .int (((lastQ q).map lineD).length : Nat)) (e := .int ((numb ds).length : Nat)) hr (okD_int (n := 0) _).shp (okD_int (n := 0) _).shp (eqv_nat _ _) (ev_len_tup (ev_ix_tup (ds := q.map linesD) (d := linesD (lastQ q)) (atI_lastQ (hne q hq)) (ev_var 10 rfl) (ev_neg ev_int)) M.len) (ev_var 11 rfl))
      · obtain ⟨q, hq, rfl⟩ := List.mem_map.mp hz
        rw [lastD_eq (hne q hq)]
        exact ev_ix_tup (ds := q.map linesD) (d := linesD (lastQ q)) (atI_lastQ (hne q hq)) (ev_var 10 rfl) (ev_neg ev_int)
    · refine sts_retF (ef_eq (ef_sorted (SrcD.l ((outsF ds (Fs ds.length)).map linesD)) ?_ (EvF.d (ef_eq (ef_lc (own := [("_law_here", 10)]) (ds := (Fs ds.length).map qsD) (js := [10]) (p := fun d => decide ((itemsOf (lastD d)).length = (numb ds).length)) (f := lastD) (ρ' := fun z => [.i (.d (treeD t)), .i (.d (deedsD ds)), s2, .no, .i (.d (.list ((tnames t).map nmD))), .i (.d (.list (intsD (spots t)))), .i (.d (.list ((Ss ds.length).map qsD))), s7, s8, s9, .i (.d z), .i (.d (.int ((numb ds).length : Nat)))]) rfl sc56.nd (blkOk_by (by rfl)) (by decide)
        (ei_list (ev_call G1 hr (ea_cons (ev_var 5 rfl) (ea_cons (ev_var 6 rfl) ea_nil)) ⟨spots t, Ss ds.length, Fs ds.length, rfl, fl, rfl⟩)) (fun _ _ _ _ _ z hz => eg_name 10 sc56.nd) (fun _ _ _ _ _ z hz => ?_) (fun _ _ _ _ _ z hz _ => ?_)) hres)) M.sorted hr) hso) .rt
      · refine ⟨?_, .inl fun d hd => ?_, sizeLine_big (by rw [List.length_map]; exact hlo), fun d hd => ?_⟩
        · exact PySem.W.AllAlike.of (enc := linesD) (bs := outsF ds (Fs ds.length)) fun a b => by
            show PySem.W.alike (.tuple (a.map lineD)) (.tuple (b.map lineD)) = true
            rw [PySem.W.alike]
            exact alikeL a b
        · obtain ⟨q, hq, rfl⟩ := List.mem_map.mp hd
          obtain ⟨st, hst, rfl⟩ := List.mem_map.mp hq
          have h2 := of_decide_eq_true (List.mem_filter.mp hst).2
          cases e : lastQ st with
          | nil =>
            rw [e] at h2
            exact absurd (List.eq_nil_of_length_eq_zero h2.symm) hz
          | cons a r => exact ⟨_, _, rfl⟩
        · obtain ⟨q, hq, rfl⟩ := List.mem_map.mp hd
          exact Nat.le_trans ((enc_lines (n := 0)).ok q).dp (by decide)
      · obtain ⟨q, hq, rfl⟩ := List.mem_map.mp hz
        rw [lastD_eq (hne q hq)]
        exact ets_one (et_eq (d := .int (((lastQ q).map lineD).length : Nat)) (e := .int ((numb ds).length : Nat)) hr (okD_int (n := 0) _).shp (okD_int (n := 0) _).shp (eqv_nat _ _) (ev_len_tup (ev_ix_tup (ds := q.map linesD) (d := linesD (lastQ q)) (atI_lastQ (hne q hq)) (ev_var 10 rfl) (ev_neg ev_int)) M.len) (ev_var 11 rfl))
      · obtain ⟨q, hq, rfl⟩ := List.mem_map.mp hz
        rw [lastD_eq (hne q hq)]
        exact ev_ix_tup (ds := q.map linesD) (d := linesD (lastQ q)) (atI_lastQ (hne q hq)) (ev_var 10 rfl) (ev_neg ev_int)
end
end DL
set_option maxRecDepth 100000
set_option maxHeartbeats 4000000
/-! walks, 26: Program.of -/
namespace DL
open PySem PySem.Spec PyProof.Rows L2 SlX
theorem tupD_deed (d : Deed) : tupD (deedD d) = deedD d := by simp [deedD, tupD, tupDs]
theorem tupDs_map {α : Type} (f : α → D) (h : ∀ a, tupD (f a) = f a) (l : List α) : tupDs (l.map f) = l.map f := by
  rw [tupDs_eq, List.map_map]
  exact List.map_congr_left fun a _ => h a
theorem tupD_deeds (ds : List Deed) : tupD (deedsD ds) = deedsD ds := by
  unfold deedsD
  rw [tupD, tupDs_map _ tupD_deed]
theorem tupD_deedsL (ds : List Deed) : tupD (.list (ds.map deedD)) = deedsD ds := by
  unfold deedsD
  rw [tupD, tupDs_map _ tupD_deed]
theorem tupD_edge (p : Nm × Option Nm) : tupD (edgeD p) = edgeD p := by simp [edgeD, pairD, tupD, tupDs]
theorem tupD_tree (t : Tree) : tupD (treeD t) = treeD t := by
  unfold treeD
  rw [tupD, tupDs_map _ tupD_edge]
theorem treeD_is {t : Tree} (ok : TreeOk t) : TreeD (treeD t) t := ⟨((enc_tree (n := 0)).ok t).mono, tupD_tree t, ok⟩
/-- a word as a deed's data -/
def ofWord : D → D
  | .str s => if cutS s none (some 1) = "!" then .tuple [.str "flush", .str (cutS s (some 1) none)] else .tuple [.str "write", .str s]
  | _ => .none
theorem ofWord_eq (x : Deed) : ofWord (.str (deedS x)) = deedD x := by
  obtain ⟨b, s⟩ := x
  cases b with
  | true =>
    show (if cutS s.1 none (some 1) = "!" then _ else _) = _
    rw [if_neg (nm_first s)]
    rfl
  | false =>
    show (if cutS ("!" ++ s.1) none (some 1) = "!" then PyData.tuple [.str "flush", .str (cutS ("!" ++ s.1) (some 1) none)] else _) = _
    rw [if_pos (cut_first s), cut_tail]
    rfl
theorem none_notin (ds : List Deed) : inD .none (ds.map deedD) = false := by
  unfold inD
  rw [List.any_eq_false]
  intro x hx
  obtain ⟨d, _, rfl⟩ := List.mem_map.mp hx
  simp [deedD, PyData.eqv]
section
variable {P : Program} {w : World} {K : PySem.W.Frag} {mg : Str → Option Value} {base : Heap} {C : Addr} {f : Addr} {fd : FuncData}
theorem scS2 : FnScope ["text", "words", "word", "deeds"] ["text"] (defScope (sub 24 2)) := ⟨rfl, rfl, rfl, by decide +kernel, rfl, by decide +kernel, by decide +kernel⟩
def rOf : List DV → DV → Prop := fun xs y => ∃ (z : Str) (ds : List Deed), xs = [.d (.str z)] ∧ PyData.strOk z = true ∧ z ≠ "-" ∧ z.length ≤ 1000 ∧ Txt.split z " " = ds.map deedS ∧ y = .ob (deedsD ds)
theorem ok_of (F : Fun K "of" "Program.of" (sub 24 2) f fd) (M : Mg mg) (G : Gf P w K mg base "deed_in" 2 (spD ⟨P, w, K, C⟩ rDeedIn)) (Gc : Gm P w K mg base C 12 (rInit K)) : FnOk P w K mg base CX0 14 f fd ["text"] (spD ⟨P, w, K, C⟩ rOf) := by
  refine fn_D F scS2 (fun xs y h => by obtain ⟨z, ds, rfl, _⟩ := h; rfl) (fun cdv A outer s H E xs y hr h => ?_)
  obtain ⟨z, ds, rfl, hok, hne, hz, hsp, rfl⟩ := h
  obtain ⟨t1, hN⟩ := M.NOTHING
  obtain ⟨t2, hB⟩ := M.BLANK
  have e1 : PyData.eqv (.str z) (.str "-") = false := by
    show decide (z = "-") = false
    exact decide_eq_false hne
  refine sts_let (x := .d (.list ((ds.map deedS).map .str))) 1 (EvF.d (ef_if (k := false) (et_eq (d := .str z) (e := .str "-") hr (okD_str (n := 0) hok).shp (okD_str (n := 0) (by decide +kernel)).shp e1 (ev_var 0 rfl) (ev_gstr hN)) (fun q => nomatch q) fun _ => ef_eq (ef_split (by decide +kernel) (by exact Nat.le_trans (by omega) (sizeLine_big (n := 2000) (by decide))) (ev_var 0 rfl) (ev_gstr hB)) (by rw [hsp]))) ?_ scS2.nd
  refine sts_lc 3 (own := [("word", 2)]) (ds := (ds.map deedS).map .str) (js := [2]) (p := fun _ => true) (f := ofWord) (es := ds.map deedD) (ρ' := fun x => [.i (.d (.str z)), .i (.d (.list ((ds.map deedS).map .str))), .i (.d x), .no]) rfl scS2.nd (blkOk_by (by rfl)) (by decide)
    (ei_list (ev_var 1 rfl)) (fun _ _ _ _ _ x hx => eg_name 2 scS2.nd) (fun _ _ _ _ _ x hx => ets_nil) (fun _ _ _ _ _ x hx _ => ?_) ?_ ?_
  · obtain ⟨y, hy, rfl⟩ := List.mem_map.mp hx
    obtain ⟨d, hd, rfl⟩ := List.mem_map.mp hy
    rw [ofWord_eq]
    exact ev_call G (hr.mono (by decide)) (ea_cons (ev_var 2 rfl) ea_nil) ⟨d, rfl, rfl⟩
  · rw [List.filter_eq_self.mpr fun _ _ => rfl, List.map_map, List.map_map]
    exact List.map_congr_left fun d _ => ofWord_eq d
  · refine sts_ifF (et_inL (d := .none) (ds := ds.map deedD) hr (okD_none (n := 0)).shp ((enc_deed (n := 0)).okList _).shp (none_notin ds) ev_none (ev_var 3 rfl)) ?_
    exact sts_ret (ev_new Gc hr (ev_var 3 rfl) (.inl ⟨.list (ds.map deedD), rfl, ((enc_deed (n := 0)).okList ds).mono, (tupD_deedsL ds).symm⟩)) .rt
end
end DL
set_option maxRecDepth 100000
set_option maxHeartbeats 4000000
/-! the plain law, 1: queues that stand above one another, n at the end -/
namespace DL
inductive Up (n : Nat) (par : Nat → Nat) : Nat → Nat → Prop
  | refl (a : Nat) : Up n par a a
  | step {a b : Nat} : a < n → Up n par (par a) b → Up n par a b
structure Forest (n : Nat) (par : Nat → Nat) : Prop where
  le : ∀ a, a < n → par a ≤ n
  rk : ∃ r : Nat → Nat, ∀ a, a < n → r (par a) < r a
section
variable {n : Nat} {par : Nat → Nat} {a b c p q : Nat}
theorem Up.trans (h : Up n par a b) (k : Up n par b c) : Up n par a c := by
  induction h with
  | refl => exact k
  | step h1 _ ih => exact .step h1 (ih k)
theorem Up.lin (h : Up n par a p) : Up n par a q → Up n par p q ∨ Up n par q p := by
  induction h with
  | refl => exact Or.inl
  | step h1 h2 ih =>
    intro k
    cases k with
    | refl => exact Or.inr (.step h1 h2)
    | step _ k => exact ih k
theorem Up.rank {r : Nat → Nat} (hr : ∀ a, a < n → r (par a) < r a) (h : Up n par a b) : a = b ∨ r b < r a := by
  induction h with
  | refl => exact Or.inl rfl
  | step h1 h2 ih =>
    have := hr _ h1
    rcases ih with ih | ih
    · subst ih
      exact Or.inr this
    · exact Or.inr (by omega)
theorem Up.anti (F : Forest n par) (h : Up n par a b) (k : Up n par b a) : a = b := by
  obtain ⟨r, hr⟩ := F.rk
  rcases h.rank hr with h1 | h1
  · exact h1
  · rcases k.rank hr with h2 | h2
    · exact h2.symm
    · omega
theorem Up.next (h : Up n par a b) (ne : a ≠ b) : a < n ∧ Up n par (par a) b := by
  cases h with
  | refl => exact absurd rfl ne
  | step h1 h2 => exact ⟨h1, h2⟩
theorem Up.one (h : a < n) : Up n par a (par a) := .step h (.refl _)
theorem Forest.ne (F : Forest n par) (h : a < n) : par a ≠ a := fun e => by
  obtain ⟨r, hr⟩ := F.rk
  have := hr a h
  rw [e] at this
  omega
theorem Forest.not_down (F : Forest n par) (h : a < n) : ¬ Up n par (par a) a := fun k => F.ne h (k.anti F (.one h))
theorem Up.of_top (h : Up n par n b) : b = n := by
  cases h with
  | refl => rfl
  | step h1 _ => omega
theorem Up.le (F : Forest n par) (h : Up n par a b) (ha : a ≤ n) : b ≤ n := by
  induction h with
  | refl => exact ha
  | step h1 _ ih => exact ih (F.le _ h1)
theorem Up.top (F : Forest n par) (ha : a ≤ n) : Up n par a n := by
  obtain ⟨r, hr⟩ := F.rk
  have : ∀ m a, r a ≤ m → a ≤ n → Up n par a n := fun m => by
    induction m with
    | zero =>
      intro a h1 h2
      by_cases e : a = n
      · subst e
        exact .refl _
      · have := hr a (by omega)
        omega
    | succ m ih =>
      intro a h1 h2
      by_cases e : a = n
      · subst e
        exact .refl _
      · have h3 : a < n := by omega
        have := hr a h3
        exact .step h3 (ih _ (by omega) (F.le a h3))
  exact this _ a (Nat.le_refl _) ha
end
/-- m things of queue k go on to queue far -/
def upA {α : Type} (far k m : Nat) (qs : List (List α)) : List (List α) := (List.range qs.length).map fun j => if j = k then (qs.getD j []).drop m else if j = far then qs.getD j [] ++ (qs.getD k []).take m else qs.getD j []
/-- x comes into queue k -/
def wrA {α : Type} (k : Nat) (x : α) (qs : List (List α)) : List (List α) := qs.take k ++ (qs.getD k [] ++ [x]) :: qs.drop (k + 1)
section
variable {α : Type}
theorem upA_len (far k m : Nat) (qs : List (List α)) : (upA far k m qs).length = qs.length := by simp [upA]
theorem upA_get (far k m : Nat) (qs : List (List α)) {j : Nat} (h : j < qs.length) : (upA far k m qs).getD j [] = if j = k then (qs.getD j []).drop m else if j = far then qs.getD j [] ++ (qs.getD k []).take m else qs.getD j [] := by
  unfold upA
  rw [List.getD_eq_getElem?_getD, List.getElem?_map, List.getElem?_range h]
  rfl
theorem wrA_len {k : Nat} {x : α} {qs : List (List α)} (h : k < qs.length) : (wrA k x qs).length = qs.length := by
  simp [wrA]
  omega
theorem wrA_get {k : Nat} {x : α} {qs : List (List α)} (h : k < qs.length) (j : Nat) : (wrA k x qs).getD j [] = if j = k then qs.getD k [] ++ [x] else qs.getD j [] := by
  unfold wrA
  rw [List.getD_eq_getElem?_getD, List.getElem?_append]
  have e : (qs.take k).length = k := by simp; omega
  rw [e]
  by_cases h1 : j < k
  · rw [if_pos h1, if_neg (by omega), List.getElem?_take_of_lt h1, ← List.getD_eq_getElem?_getD]
  · rw [if_neg h1]
    by_cases h2 : j = k
    · subst h2
      rw [if_pos rfl, Nat.sub_self]
      rfl
    · rw [if_neg h2]
      obtain ⟨i, rfl⟩ : ∃ i, j = k + 1 + i := ⟨j - k - 1, by omega⟩
      have : k + 1 + i - k = i + 1 := by omega
      rw [this, List.getElem?_cons_succ, List.getElem?_drop, ← List.getD_eq_getElem?_getD]
theorem ext_getD {a b : List (List α)} (hl : a.length = b.length) (h : ∀ j, j < a.length → a.getD j [] = b.getD j []) : a = b := by
  apply List.ext_getElem hl
  intro j h1 h2
  have := h j h1
  rw [List.getD_eq_getElem?_getD, List.getD_eq_getElem?_getD, List.getElem?_eq_getElem h1, List.getElem?_eq_getElem h2] at this
  exact this
/-! ### queues by places -/
def Qs (n : Nat) (L : List α) (pos : α → Nat) : List (List α) := (List.range (n + 1)).map fun p => L.filter fun x => decide (pos x = p)
theorem Qs_len (n : Nat) (L : List α) (pos : α → Nat) : (Qs n L pos).length = n + 1 := by simp [Qs]
theorem Qs_get {n : Nat} {L : List α} {pos : α → Nat} {j : Nat} (h : j ≤ n) : (Qs n L pos).getD j [] = L.filter fun x => decide (pos x = j) := by
  unfold Qs
  rw [List.getD_eq_getElem?_getD, List.getElem?_map, List.getElem?_range (by omega)]
  rfl
theorem Qs_congr {n : Nat} {L : List α} {pos pos' : α → Nat} (h : ∀ x ∈ L, pos x = pos' x) : Qs n L pos = Qs n L pos' := by
  unfold Qs
  apply List.map_congr_left
  intro p _
  apply List.filter_congr
  intro x hx
  rw [h x hx]
theorem filter_none {L : List α} {p : α → Bool} (h : ∀ x ∈ L, p x = false) : L.filter p = [] := List.filter_eq_nil_iff.mpr fun x hx => by rw [h x hx]; exact Bool.false_ne_true
/-- the first of queue pos x goes on -/
theorem move {n : Nat} {par : Nat → Nat} (F : Forest n par) {A B : List α} {x : α} {pos pos2 : α → Nat} (hA : ∀ a ∈ A, pos2 a = pos a) (hB : ∀ b ∈ B, pos2 b = pos b) (hx : pos x < n) (hx2 : pos2 x = par (pos x))
    (c1 : ∀ a ∈ A, pos a ≠ pos x) (c2 : ∀ b ∈ B, pos b ≠ par (pos x)) : upA (par (pos x)) (pos x) 1 (Qs n (A ++ x :: B) pos) = Qs n (A ++ x :: B) pos2 := by
  have ne := F.ne hx
  have fA : ∀ j, A.filter (fun x => decide (pos2 x = j)) = A.filter fun x => decide (pos x = j) := fun j => List.filter_congr fun a ha => by rw [hA a ha]
  have fB : ∀ j, B.filter (fun x => decide (pos2 x = j)) = B.filter fun x => decide (pos x = j) := fun j => List.filter_congr fun a ha => by rw [hB a ha]
  have eA : A.filter (fun z => decide (pos z = pos x)) = [] := filter_none fun a ha => decide_eq_false (c1 a ha)
  have eB : B.filter (fun z => decide (pos z = par (pos x))) = [] := filter_none fun a ha => decide_eq_false (c2 a ha)
  apply ext_getD
  · rw [upA_len, Qs_len, Qs_len]
  · intro j hj
    rw [upA_len, Qs_len] at hj
    rw [upA_get _ _ _ _ (by rw [Qs_len]; exact hj), Qs_get (by omega), Qs_get (by omega), Qs_get (by omega), List.filter_append, List.filter_append, List.filter_append, fA, List.filter_cons, List.filter_cons, List.filter_cons, fB, hx2]
    by_cases h1 : j = pos x
    · subst h1
      rw [if_pos rfl, eA, if_pos (decide_eq_true rfl), if_neg (by simpa using ne)]
      rfl
    · rw [if_neg h1, eA, if_pos (c := decide (pos x = pos x) = true) (decide_eq_true rfl)]
      by_cases h2 : j = par (pos x)
      · subst h2
        rw [if_pos rfl, eB, if_neg (by simpa using fun e => ne e.symm), if_pos (decide_eq_true rfl)]
        simp
      · rw [if_neg h2, if_neg (by simpa using fun e => h1 e.symm), if_neg (by simpa using fun e => h2 e.symm)]
/-! ### climbing -/
/-- nothing stands above a thing that comes ahead of it -/
def Cons (n : Nat) (par : Nat → Nat) (ord : α → Nat) (L : List α) (pos : α → Nat) : Prop := ∀ u ∈ L, ∀ v ∈ L, ord u < ord v → Up n par (pos u) (pos v) → pos u = pos v
theorem first_ne [DecidableEq α] (pos pos' : α → Nat) : ∀ L : List α, (∀ x ∈ L, pos x = pos' x) ∨ ∃ A x B, L = A ++ x :: B ∧ (∀ a ∈ A, pos a = pos' a) ∧ pos x ≠ pos' x
  | [] => Or.inl fun _ h => nomatch h
  | y :: L => by
    by_cases h : pos y = pos' y
    · rcases first_ne pos pos' L with h1 | ⟨A, x, B, e, h1, h2⟩
      · refine Or.inl fun x hx => ?_
        rcases List.mem_cons.mp hx with rfl | hx
        · exact h
        · exact h1 x hx
      · refine Or.inr ⟨y :: A, x, B, by rw [e]; rfl, fun a ha => ?_, h2⟩
        rcases List.mem_cons.mp ha with rfl | ha
        · exact h
        · exact h1 a ha
    · exact Or.inr ⟨[], y, L, rfl, fun _ h => (nomatch h), h⟩
theorem climb [DecidableEq α] {n : Nat} {par : Nat → Nat} (F : Forest n par) {ord : α → Nat} {L : List α} (hL : L.Pairwise fun u v => ord u < ord v) {S : List (List α) → Prop}
    (hS : ∀ q k, S q → k < n → q.getD k [] ≠ [] → S (upA (par k) k 1 q)) {pos' : α → Nat} (hc' : Cons n par ord L pos') {r : Nat → Nat} (hr : ∀ a, a < n → r (par a) < r a) :
    ∀ (N : Nat) (pos : α → Nat), (L.map fun x => r (pos x)).sum ≤ N → (∀ x ∈ L, pos x ≤ n) → (∀ x ∈ L, Up n par (pos x) (pos' x)) → Cons n par ord L pos → S (Qs n L pos) → S (Qs n L pos') := by
  intro N
  induction N with
  | zero =>
    intro pos hN hle hup hc hs
    rcases first_ne pos pos' L with h | ⟨A, x, B, e, hA, hx⟩
    · rw [← Qs_congr h]
      exact hs
    · exfalso
      have hm : x ∈ L := by rw [e]; simp
      have h1 := ((hup x hm).next hx).1
      have h2 := hr _ h1
      rw [e, List.map_append, List.sum_append, List.map_cons, List.sum_cons] at hN
      omega
  | succ N ih =>
    intro pos hN hle hup hc hs
    rcases first_ne pos pos' L with h | ⟨A, x, B, e, hA, hx⟩
    · rw [← Qs_congr h]
      exact hs
    · have hm : x ∈ L := by rw [e]; simp
      obtain ⟨hlt, hup1⟩ := (hup x hm).next hx
      have hp := hL
      rw [e, List.pairwise_append, List.pairwise_cons] at hp
      have oA : ∀ a ∈ A, ord a < ord x := fun a ha => hp.2.2 a ha x (List.mem_cons_self ..)
      have oB : ∀ b ∈ B, ord x < ord b := fun b hb => hp.2.1.1 b hb
      have mA : ∀ a ∈ A, a ∈ L := fun a ha => by rw [e]; exact List.mem_append_left _ ha
      have mB : ∀ a ∈ B, a ∈ L := fun a ha => by rw [e]; exact List.mem_append_right _ (List.mem_cons_of_mem _ ha)
      have inA : ∀ u ∈ L, ord u < ord x → u ∈ A := fun u hu ho => by
        rw [e, List.mem_append, List.mem_cons] at hu
        rcases hu with hu | rfl | hu
        · exact hu
        · omega
        · have := oB u hu
          omega
      let pos2 : α → Nat := fun z => if z = x then par (pos x) else pos z
      have p2x : pos2 x = par (pos x) := if_pos rfl
      have p2n : ∀ z, z ≠ x → pos2 z = pos z := fun z hz => if_neg hz
      have nA : ∀ a ∈ A, a ≠ x := fun a ha q => by
        have := oA a ha
        rw [q] at this
        omega
      have nB : ∀ a ∈ B, a ≠ x := fun a ha q => by
        have := oB a ha
        rw [q] at this
        omega
      have hmv : upA (par (pos x)) (pos x) 1 (Qs n L pos) = Qs n L pos2 := by
        rw [e]
        refine move F (fun a ha => p2n a (nA a ha)) (fun b hb => p2n b (nB b hb)) hlt p2x (fun a ha q => ?_) (fun b hb q => ?_)
        · have h1 := hc' a (mA a ha) x hm (oA a ha) (by rw [← hA a ha, q]; exact hup x hm)
          rw [← hA a ha, q] at h1
          exact hx h1
        · have h1 := hc x hm b (mB b hb) (oB b hb) (by rw [q]; exact .one hlt)
          rw [q] at h1
          exact F.ne hlt h1.symm
      refine ih pos2 ?_ (fun z hz => ?_) (fun z hz => ?_) (fun u hu v hv ho hU => ?_) ?_
      · have h2 := hr _ hlt
        have sA : A.map (fun x => r (pos2 x)) = A.map fun x => r (pos x) := List.map_congr_left fun a ha => by rw [p2n a (nA a ha)]
        have sB : B.map (fun x => r (pos2 x)) = B.map fun x => r (pos x) := List.map_congr_left fun a ha => by rw [p2n a (nB a ha)]
        rw [e, List.map_append, List.sum_append, List.map_cons, List.sum_cons] at hN ⊢
        rw [sA, sB, p2x]
        omega
      · by_cases q : z = x
        · rw [q, p2x]
          exact F.le _ hlt
        · rw [p2n z q]
          exact hle z hz
      · by_cases q : z = x
        · rw [q, p2x]
          exact hup1
        · rw [p2n z q]
          exact hup z hz
      · by_cases qu : u = x
        · by_cases qv : v = x
          · rw [qu, qv] at ho
            omega
          · rw [qu, p2x, p2n v qv] at hU ⊢
            rw [qu] at ho
            have h1 := hc x hm v hv ho (.step hlt hU)
            rw [← h1] at hU
            exact absurd hU (F.not_down hlt)
        · by_cases qv : v = x
          · rw [qv, p2x, p2n u qu] at hU ⊢
            rw [qv] at ho
            have ha := inA u hu ho
            have h1 : pos' u = pos' x := hc' u hu x hm ho (by rw [← hA u ha]; exact hU.trans hup1)
            rw [hA u ha, h1] at hU ⊢
            exact hU.anti F hup1
          · rw [p2n u qu, p2n v qv] at hU ⊢
            exact hc u hu v hv ho hU
      · rw [← hmv]
        refine hS _ _ hs hlt fun q => ?_
        rw [Qs_get (by omega)] at q
        have : x ∈ L.filter fun z => decide (pos z = pos x) := List.mem_filter.mpr ⟨hm, decide_eq_true rfl⟩
        rw [q] at this
        cases this
/-! ### as low as the order allows -/
structure Canon (n : Nat) (par : Nat → Nat) (ord lf fp : α → Nat) (L : List α) (pos : α → Nat) : Prop where
  a : ∀ x ∈ L, Up n par (lf x) (pos x)
  b : ∀ x ∈ L, ∃ y ∈ L, ord x ≤ ord y ∧ fp y = pos x
  c : ∀ x ∈ L, ∀ y ∈ L, ord x ≤ ord y → Up n par (lf x) (fp y) → Up n par (fp y) (pos x)
theorem Canon.cons {n : Nat} {par : Nat → Nat} {ord lf fp : α → Nat} {L : List α} {pos : α → Nat} (F : Forest n par) (h : Canon n par ord lf fp L pos) : Cons n par ord L pos := fun u hu v hv ho hU => by
  obtain ⟨z, hz, o2, e⟩ := h.b v hv
  have := h.c u hu z hz (by omega) (by rw [e]; exact (h.a u hu).trans hU)
  rw [e] at this
  exact hU.anti F this
theorem chain_max {n : Nat} {par : Nat → Nat} {a : Nat} : ∀ l : List Nat, l ≠ [] → (∀ c ∈ l, Up n par a c) → ∃ m ∈ l, ∀ c ∈ l, Up n par c m
  | [], h, _ => absurd rfl h
  | [x], _, h => ⟨x, List.mem_cons_self .., fun c hc => by rw [List.mem_singleton.mp hc]; exact .refl _⟩
  | x :: y :: l, _, h => by
    obtain ⟨m, hm, k⟩ := chain_max (y :: l) (fun q => nomatch q) fun c hc => h c (List.mem_cons_of_mem _ hc)
    rcases (h x (List.mem_cons_self ..)).lin (h m (List.mem_cons_of_mem _ hm)) with q | q
    · refine ⟨m, List.mem_cons_of_mem _ hm, fun c hc => ?_⟩
      rcases List.mem_cons.mp hc with rfl | hc
      · exact q
      · exact k c hc
    · refine ⟨x, List.mem_cons_self .., fun c hc => ?_⟩
      rcases List.mem_cons.mp hc with rfl | hc
      · exact .refl _
      · exact (k c hc).trans q
open Classical in
theorem Canon.ex {n : Nat} {par : Nat → Nat} {ord lf fp : α → Nat} {L : List α} (h : ∀ x ∈ L, Up n par (lf x) (fp x)) : ∃ pos, Canon n par ord lf fp L pos := by
  have : ∀ x, ∃ m, x ∈ L → (∃ y ∈ L, ord x ≤ ord y ∧ fp y = m ∧ Up n par (lf x) m) ∧ ∀ y ∈ L, ord x ≤ ord y → Up n par (lf x) (fp y) → Up n par (fp y) m := fun x => by
    by_cases hx : x ∈ L
    · obtain ⟨m, hm, k⟩ := chain_max (n := n) (par := par) (a := lf x) ((L.filter fun y => decide (ord x ≤ ord y ∧ Up n par (lf x) (fp y))).map fp) (fun q => by
          rw [List.map_eq_nil_iff] at q
          have : x ∈ L.filter fun y => decide (ord x ≤ ord y ∧ Up n par (lf x) (fp y)) := List.mem_filter.mpr ⟨hx, decide_eq_true ⟨Nat.le_refl _, h x hx⟩⟩
          rw [q] at this
          cases this) (fun c hc => by
          obtain ⟨y, hy, rfl⟩ := List.mem_map.mp hc
          exact (of_decide_eq_true (List.mem_filter.mp hy).2).2)
      obtain ⟨y, hy, rfl⟩ := List.mem_map.mp hm
      have h1 := List.mem_filter.mp hy
      have h2 := of_decide_eq_true h1.2
      exact ⟨fp y, fun _ => ⟨⟨y, h1.1, h2.1, rfl, h2.2⟩, fun z hz o u => k _ (List.mem_map.mpr ⟨z, List.mem_filter.mpr ⟨hz, decide_eq_true ⟨o, u⟩⟩, rfl⟩)⟩⟩
    · exact ⟨0, fun q => absurd q hx⟩
  refine ⟨fun x => (this x).choose, fun x hx => ?_, fun x hx => ?_, fun x hx => ((this x).choose_spec hx).2⟩
  · obtain ⟨y, _, _, _, u⟩ := ((this x).choose_spec hx).1
    exact u
  · obtain ⟨y, hy, o, e, _⟩ := ((this x).choose_spec hx).1
    exact ⟨y, hy, o, e⟩
theorem Canon.mono {n : Nat} {par : Nat → Nat} {ord lf fp fp' : α → Nat} {L : List α} {pos pos' : α → Nat} (h : Canon n par ord lf fp L pos) (h' : Canon n par ord lf fp' L pos') (k : ∀ x ∈ L, Up n par (fp x) (fp' x)) : ∀ x ∈ L, Up n par (pos x) (pos' x) := fun x hx => by
  obtain ⟨y, hy, o, e⟩ := h.b x hx
  have h1 : Up n par (lf x) (fp y) := by rw [e]; exact h.a x hx
  rw [← e]
  exact (k y hy).trans (h'.c x hx y hy o (h1.trans (k y hy)))
/-- a line is written into the leaf s -/
theorem Canon.write [DecidableEq α] {n : Nat} {par : Nat → Nat} (F : Forest n par) {ord lf fp fp' : α → Nat} {A B : List α} {l : α} {pos : α → Nat} {s : Nat} (hL : (A ++ l :: B).Pairwise fun u v => ord u < ord v) (h : Canon n par ord lf fp (A ++ B) pos) (hs : s < n) (hleaf : ∀ a, Up n par a s → a = s)
    (hfp : ∀ x ∈ A ++ B, fp' x = fp x) (hl1 : lf l = s) (hl2 : fp' l = s) (hsure : ∀ y ∈ B, ¬ Up n par s (fp y)) :
    Canon n par ord lf fp' (A ++ l :: B) (fun z => if z = l then s else pos z) ∧ wrA s l (Qs n (A ++ B) pos) = Qs n (A ++ l :: B) (fun z => if z = l then s else pos z) := by
  have hp := hL
  rw [List.pairwise_append, List.pairwise_cons] at hp
  have oA : ∀ a ∈ A, ord a < ord l := fun a ha => hp.2.2 a ha l (List.mem_cons_self ..)
  have oB : ∀ b ∈ B, ord l < ord b := fun b hb => hp.2.1.1 b hb
  have nA : ∀ a ∈ A, a ≠ l := fun a ha q => by have := oA a ha; rw [q] at this; omega
  have nB : ∀ a ∈ B, a ≠ l := fun a ha q => by have := oB a ha; rw [q] at this; omega
  have nAB : ∀ a ∈ A ++ B, a ≠ l := fun a ha => by
    rcases List.mem_append.mp ha with q | q
    · exact nA a q
    · exact nB a q
  have split : ∀ x, x ∈ A ++ l :: B → x = l ∨ x ∈ A ++ B := fun x hx => by
    rw [List.mem_append, List.mem_cons] at hx
    rw [List.mem_append]
    rcases hx with q | q | q
    · exact Or.inr (Or.inl q)
    · exact Or.inl q
    · exact Or.inr (Or.inr q)
  have join : ∀ x, x ∈ A ++ B → x ∈ A ++ l :: B := fun x hx => by
    rw [List.mem_append] at hx
    rw [List.mem_append, List.mem_cons]
    rcases hx with q | q
    · exact Or.inl q
    · exact Or.inr (Or.inr q)
  have inB : ∀ x ∈ A ++ B, ord l ≤ ord x → x ∈ B := fun x hx o => by
    rcases List.mem_append.mp hx with q | q
    · have := oA x q
      omega
    · exact q
  refine ⟨⟨fun x hx => ?_, fun x hx => ?_, fun x hx y hy o u => ?_⟩, ?_⟩
  · rcases split x hx with rfl | hx
    · rw [if_pos rfl, hl1]
      exact .refl _
    · rw [if_neg (nAB x hx)]
      exact h.a x hx
  · rcases split x hx with rfl | hx
    · exact ⟨x, List.mem_append_right _ (List.mem_cons_self ..), Nat.le_refl _, by rw [if_pos rfl, hl2]⟩
    · obtain ⟨y, hy, o, e⟩ := h.b x hx
      exact ⟨y, join y hy, o, by rw [if_neg (nAB x hx), hfp y hy, e]⟩
  · rcases split x hx with ex | hx2
    · subst ex
      rcases split y hy with ey | hy2
      · subst ey
        rw [if_pos rfl, hl2]
        exact .refl _
      · rw [hfp y hy2, hl1] at u
        exact absurd u (hsure y (inB y hy2 o))
    · have e1 : (if x = l then s else pos x) = pos x := if_neg (nAB x hx2)
      rcases split y hy with ey | hy2
      · rw [ey, hl2] at u ⊢
        rw [e1]
        have h2 := h.a x hx2
        rw [hleaf _ u] at h2
        exact h2
      · rw [e1]
        rw [hfp y hy2] at u ⊢
        exact h.c x hx2 y hy2 o u
  · apply ext_getD
    · rw [wrA_len (by rw [Qs_len]; omega), Qs_len, Qs_len]
    · intro j hj
      rw [wrA_len (by rw [Qs_len]; omega), Qs_len] at hj
      rw [wrA_get (by rw [Qs_len]; omega), Qs_get (by omega), Qs_get (by omega), Qs_get (by omega), List.filter_append, List.filter_append, List.filter_append, List.filter_cons, if_pos (c := l = l) rfl]
      have fA : ∀ j, A.filter (fun x => decide ((if x = l then s else pos x) = j)) = A.filter fun x => decide (pos x = j) := fun j => List.filter_congr fun a ha => by rw [if_neg (nA a ha)]
      have fB : ∀ j, B.filter (fun x => decide ((if x = l then s else pos x) = j)) = B.filter fun x => decide (pos x = j) := fun j => List.filter_congr fun a ha => by rw [if_neg (nB a ha)]
      rw [fA, fB]
      have eB : B.filter (fun z => decide (pos z = s)) = [] := filter_none fun b hb => decide_eq_false fun q => by
        have hb' : b ∈ A ++ B := List.mem_append_right _ hb
        have h1 := h.a b hb'
        rw [q] at h1
        have h2 := hleaf _ h1
        obtain ⟨y, hy, o, e⟩ := h.b b hb'
        rw [q] at e
        refine hsure y (inB y hy (by have := oB b hb; omega)) ?_
        rw [e]
        exact .refl _
      by_cases hj2 : j = s
      · subst hj2
        rw [if_pos rfl, eB, if_pos (decide_eq_true rfl)]
        simp
      · rw [if_neg hj2, if_neg (by simpa using fun e => hj2 e.symm)]
end
end DL
set_option maxRecDepth 100000
set_option maxHeartbeats 4000000
/-! the plain law, 2: what queues keep -/
namespace DL
/-- from a up to n -/
inductive Pth (n : Nat) (par : Nat → Nat) : Nat → List Nat → Prop
  | top : Pth n par n [n]
  | step {a : Nat} {l : List Nat} : a < n → Pth n par (par a) l → Pth n par a (a :: l)
section
variable {n : Nat} {par : Nat → Nat}
theorem Pth.ex1 {a b : Nat} (h : Up n par a b) (e : b = n) : ∃ l, Pth n par a l := by
  induction h with
  | refl a =>
    subst e
    exact ⟨_, .top⟩
  | step h1 _ ih =>
    obtain ⟨l, hl⟩ := ih e
    exact ⟨_, .step h1 hl⟩
theorem Pth.ex (F : Forest n par) {a : Nat} (h : a ≤ n) : ∃ l, Pth n par a l := Pth.ex1 (Up.top F h) rfl
theorem Pth.mem {a : Nat} {l : List Nat} (h : Pth n par a l) {b : Nat} : b ∈ l ↔ Up n par a b := by
  induction h with
  | top =>
    rw [List.mem_singleton]
    constructor
    · rintro rfl
      exact .refl _
    · exact Up.of_top
  | @step a l h1 h2 ih =>
    rw [List.mem_cons, ih]
    constructor
    · rintro (rfl | h)
      · exact .refl _
      · exact .step h1 h
    · intro h
      by_cases e : b = a
      · exact Or.inl e
      · exact Or.inr (h.next fun q => e q.symm).2
theorem Pth.cons {a : Nat} {l : List Nat} (h : Pth n par a l) : ∃ l', l = a :: l' := by
  cases h with
  | top => exact ⟨_, rfl⟩
  | step _ _ => exact ⟨_, rfl⟩
end
section
variable {α : Type}
def catL : List Nat → List (List α) → List α
  | [], _ => []
  | a :: l, q => catL l q ++ q.getD a []
theorem mem_catL {x : α} {q : List (List α)} : ∀ {l : List Nat}, x ∈ catL l q ↔ ∃ p ∈ l, x ∈ q.getD p []
  | [] => by simp [catL]
  | a :: l => by
    rw [catL, List.mem_append, mem_catL]
    constructor
    · rintro (⟨p, hp, hx⟩ | hx)
      · exact ⟨p, List.mem_cons_of_mem _ hp, hx⟩
      · exact ⟨a, List.mem_cons_self .., hx⟩
    · rintro ⟨p, hp, hx⟩
      rcases List.mem_cons.mp hp with rfl | hp
      · exact Or.inr hx
      · exact Or.inl ⟨p, hp, hx⟩
theorem catL_mono {q q' : List (List α)} : ∀ {l : List Nat}, (∀ p ∈ l, (q.getD p []).Sublist (q'.getD p [])) → (catL l q).Sublist (catL l q')
  | [], _ => List.Sublist.refl _
  | a :: l, h => by
    rw [catL, catL]
    exact (catL_mono fun p hp => h p (List.mem_cons_of_mem _ hp)).append (h a (List.mem_cons_self ..))
variable {n : Nat} {par : Nat → Nat}
theorem upA_keep {k m : Nat} {q : List (List α)} {j : Nat} (hj : j < q.length) (hk : j ≠ k) : (q.getD j []).Sublist ((upA (par k) k m q).getD j []) := by
  rw [upA_get _ _ _ _ hj, if_neg hk]
  by_cases h : j = par k
  · rw [if_pos h]
    exact List.sublist_append_left ..
  · rw [if_neg h]
    exact List.Sublist.refl _
theorem upA_cat (F : Forest n par) {k m : Nat} {q : List (List α)} (hq : q.length = n + 1) (hk : k < n) {a : Nat} {l : List Nat} (h : Pth n par a l) (ha : a ≤ n) : (catL l q).Sublist (catL l (upA (par k) k m q)) := by
  have leq : ∀ a l, Pth n par a l → a ≤ n → ∀ p ∈ l, p ≤ n := fun a l h ha p hp => (h.mem.mp hp).le F ha
  induction h with
  | top => exact catL_mono fun p hp => upA_keep (by have := leq n [n] .top (Nat.le_refl _) p hp; omega) (by rw [List.mem_singleton.mp hp]; omega)
  | @step a l h1 h2 ih =>
    have ihl := ih (F.le a h1)
    by_cases e : k = a
    · subst e
      obtain ⟨l', rfl⟩ := h2.cons
      have hpk := F.le k h1
      rw [catL, catL, catL, catL, upA_get _ _ _ _ (show par k < q.length by omega), upA_get _ _ _ _ (show k < q.length by omega), if_pos rfl, if_neg (F.ne h1), if_pos rfl]
      have h3 : k ∉ par k :: l' := fun q => F.not_down h1 (h2.mem.mp q)
      have h4 : (catL l' q).Sublist (catL l' (upA (par k) k m q)) := catL_mono fun p hp => upA_keep (by
        have := leq (par k) _ h2 (F.le k h1) p (List.mem_cons_of_mem _ hp)
        omega) fun z => h3 (by rw [← z]; exact List.mem_cons_of_mem _ hp)
      have e2 : catL l' q ++ q.getD (par k) [] ++ q.getD k [] = catL l' q ++ (q.getD (par k) [] ++ (q.getD k []).take m) ++ (q.getD k []).drop m := by
        simp [List.append_assoc]
      rw [e2]
      exact (h4.append (List.Sublist.refl _)).append (List.Sublist.refl _)
    · rw [catL, catL]
      exact ihl.append (upA_keep (by omega) fun z => e z.symm)
theorem wrA_cat {s : Nat} {x : α} {q : List (List α)} (hs : s < q.length) (l : List Nat) : (catL l q).Sublist (catL l (wrA s x q)) := catL_mono fun p _ => by
  rw [wrA_get hs]
  by_cases h : p = s
  · rw [if_pos h, h]
    exact List.sublist_append_left ..
  · rw [if_neg h]
    exact List.Sublist.refl _
/-- what is written comes last -/
theorem wrA_last (F : Forest n par) {s : Nat} {x : α} {q : List (List α)} (hs : s < n) (hq : q.length = n + 1) {l : List Nat} (h : Pth n par s l) : catL l (wrA s x q) = catL l q ++ [x] := by
  cases h with
  | top => omega
  | @step _ l h1 h2 =>
    rw [catL, catL, wrA_get (by omega), if_pos rfl]
    have : ∀ (l : List Nat), s ∉ l → catL l (wrA s x q) = catL l q := fun l => by
      induction l with
      | nil => intro _; rfl
      | cons a l ih =>
        intro h
        rw [List.mem_cons] at h
        rw [catL, catL, ih (fun z => h (Or.inr z)), wrA_get (by omega), if_neg fun z => h (Or.inl z.symm)]
    rw [this l fun z => F.not_down h1 (h2.mem.mp z), List.append_assoc]
/-! ### where things are -/
def Low (n : Nat) (par : Nat → Nat) (fp : α → Nat) (q : List (List α)) : Prop := ∀ p, p ≤ n → ∀ x ∈ q.getD p [], Up n par (fp x) p
theorem Low.up {fp : α → Nat} {q : List (List α)} {k m : Nat} (hq : q.length = n + 1) (hk : k < n) (h : Low n par fp q) : Low n par fp (upA (par k) k m q) := fun p hp x hx => by
  rw [upA_get _ _ _ _ (by omega)] at hx
  by_cases h1 : p = k
  · rw [if_pos h1] at hx
    exact h p hp x (List.mem_of_mem_drop hx)
  · rw [if_neg h1] at hx
    by_cases h2 : p = par k
    · rw [if_pos h2, List.mem_append] at hx
      rcases hx with hx | hx
      · exact h p hp x hx
      · rw [h2]
        exact (h k (by omega) x (List.mem_of_mem_take hx)).trans (.one hk)
    · rw [if_neg h2] at hx
      exact h p hp x hx
theorem Low.flush {fp fp' : α → Nat} {q : List (List α)} {k : Nat} (hq : q.length = n + 1) (hk : k < n) (hf : ∀ p, p ≤ n → ∀ x ∈ q.getD p [], fp' x = if fp x = k then par k else fp x) (h : Low n par fp q) : Low n par fp' (upA (par k) k (q.getD k []).length q) := fun p hp x hx => by
  rw [upA_get _ _ _ _ (by omega)] at hx
  by_cases h1 : p = k
  · rw [if_pos h1, h1, List.drop_length] at hx
    cases hx
  · rw [if_neg h1] at hx
    have old : x ∈ q.getD p [] → Up n par (fp' x) p := fun hx => by
      have h3 := h p hp x hx
      rw [hf p hp x hx]
      by_cases e : fp x = k
      · rw [if_pos e]
        rw [e] at h3
        exact (h3.next fun z => h1 z.symm).2
      · rw [if_neg e]
        exact h3
    by_cases h2 : p = par k
    · rw [if_pos h2, List.mem_append] at hx
      rcases hx with hx | hx
      · exact old hx
      · rw [List.take_length] at hx
        have h3 := h k (by omega) x hx
        rw [hf k (by omega) x hx, h2]
        by_cases e : fp x = k
        · rw [if_pos e]
          exact .refl _
        · rw [if_neg e]
          exact h3.trans (.one hk)
    · rw [if_neg h2] at hx
      exact old hx
theorem Low.write {fp fp' : α → Nat} {q : List (List α)} {s : Nat} {l : α} (hq : q.length = n + 1) (hs : s < n) (hl : fp' l = s) (hf : ∀ p, p ≤ n → ∀ x ∈ q.getD p [], fp' x = fp x) (h : Low n par fp q) : Low n par fp' (wrA s l q) := fun p hp x hx => by
  rw [wrA_get (by omega)] at hx
  by_cases h1 : p = s
  · rw [if_pos h1, List.mem_append, List.mem_singleton] at hx
    rw [h1]
    rcases hx with hx | rfl
    · rw [hf s (by omega) x hx]
      exact h s (by omega) x hx
    · rw [hl]
      exact .refl _
  · rw [if_neg h1] at hx
    rw [hf p hp x hx]
    exact h p hp x hx
/-! ### nothing is lost -/
theorem count_set [DecidableEq α] {x : α} {v : List α} : ∀ {q : List (List α)} {k : Nat}, k < q.length → (q.set k v).flatten.count x + (q.getD k []).count x = q.flatten.count x + v.count x
  | [], _, h => nomatch h
  | a :: q, 0, _ => by
    show (v :: q).flatten.count x + a.count x = (a :: q).flatten.count x + v.count x
    rw [List.flatten_cons, List.flatten_cons, List.count_append, List.count_append]
    omega
  | a :: q, k + 1, h => by
    have ih := count_set (x := x) (v := v) (q := q) (k := k) (Nat.lt_of_succ_lt_succ h)
    show (a :: q.set k v).flatten.count x + (q.getD k []).count x = (a :: q).flatten.count x + v.count x
    rw [List.flatten_cons, List.flatten_cons, List.count_append, List.count_append]
    omega
theorem getD_set {q : List (List α)} {k j : Nat} {v : List α} (h : k < q.length) : (q.set k v).getD j [] = if j = k then v else q.getD j [] := by
  rw [List.getD_eq_getElem?_getD, List.getElem?_set]
  by_cases e : k = j
  · rw [if_pos e, if_pos h, if_pos e.symm]
    rfl
  · rw [if_neg e, if_neg fun z => e z.symm, List.getD_eq_getElem?_getD]
theorem upA_set {far k m : Nat} {q : List (List α)} (hk : k < q.length) (hf : far < q.length) (ne : far ≠ k) : upA far k m q = (q.set k ((q.getD k []).drop m)).set far (q.getD far [] ++ (q.getD k []).take m) := by
  apply ext_getD
  · rw [upA_len, List.length_set, List.length_set]
  · intro j hj
    rw [upA_len] at hj
    rw [upA_get _ _ _ _ hj, getD_set (by rw [List.length_set]; exact hf), getD_set hk]
    by_cases h1 : j = k
    · rw [if_pos h1, if_neg fun z => ne (z.symm.trans h1), if_pos h1, h1]
    · rw [if_neg h1, if_neg h1]
      by_cases h2 : j = far
      · rw [if_pos h2, if_pos h2, h2]
      · rw [if_neg h2, if_neg h2]
theorem upA_perm [DecidableEq α] {far k m : Nat} {q : List (List α)} (hk : k < q.length) (hf : far < q.length) (ne : far ≠ k) : (upA far k m q).flatten.Perm q.flatten := by
  rw [List.perm_iff_count]
  intro x
  rw [upA_set hk hf ne]
  have h1 := count_set (x := x) (v := q.getD far [] ++ (q.getD k []).take m) (q := q.set k ((q.getD k []).drop m)) (k := far) (by rw [List.length_set]; exact hf)
  have h2 := count_set (x := x) (v := (q.getD k []).drop m) hk
  rw [getD_set hk, if_neg ne, List.count_append] at h1
  have h3 : (q.getD k []).count x = ((q.getD k []).take m).count x + ((q.getD k []).drop m).count x := by rw [← List.count_append, List.take_append_drop]
  omega
theorem wrA_set {k : Nat} {x : α} {q : List (List α)} (h : k < q.length) : wrA k x q = q.set k (q.getD k [] ++ [x]) := by
  apply ext_getD
  · rw [wrA_len h, List.length_set]
  · intro j _
    rw [wrA_get h, getD_set h]
theorem wrA_perm [DecidableEq α] {k : Nat} {x : α} {q : List (List α)} (h : k < q.length) : (wrA k x q).flatten.Perm (x :: q.flatten) := by
  rw [List.perm_iff_count]
  intro y
  rw [wrA_set h]
  have h1 := count_set (x := y) (v := q.getD k [] ++ [x]) h
  rw [List.count_append] at h1
  have h2 : (x :: q.flatten).count y = [x].count y + q.flatten.count y := by rw [← List.count_append]; rfl
  omega
/-! ### how many states there can be -/
/-- l comes anywhere -/
def putIn (n b : Nat) (l : α) (q : List (List α)) : List (List (List α)) := (List.range (n + 1)).flatMap fun p => (List.range (b + 1)).map fun j => q.set p ((q.getD p []).take j ++ l :: (q.getD p []).drop j)
def allQ (n b : Nat) : List α → List (List (List α))
  | [] => [List.replicate (n + 1) []]
  | l :: ls => (allQ n b ls).flatMap (putIn n b l)
theorem putIn_len (n b : Nat) (l : α) (q : List (List α)) : (putIn n b l q).length = (n + 1) * (b + 1) := by
  unfold putIn
  rw [List.length_flatMap]
  have : (List.range (n + 1)).map (fun p => ((List.range (b + 1)).map fun j => q.set p ((q.getD p []).take j ++ l :: (q.getD p []).drop j)).length) = List.replicate (n + 1) (b + 1) := by
    apply List.eq_replicate_iff.mpr
    constructor
    · simp
    · intro c hc
      obtain ⟨_, _, rfl⟩ := List.mem_map.mp hc
      simp
  rw [this, List.sum_replicate_nat]
theorem allQ_len (n b : Nat) : ∀ ls : List α, (allQ n b ls).length = ((n + 1) * (b + 1)) ^ ls.length
  | [] => rfl
  | l :: ls => by
    rw [allQ, List.length_flatMap]
    have : (allQ n b ls).map (fun q => (putIn n b l q).length) = List.replicate (allQ n b ls).length ((n + 1) * (b + 1)) := by
      apply List.eq_replicate_iff.mpr
      constructor
      · rw [List.length_map]
      · intro c hc
        obtain ⟨_, _, rfl⟩ := List.mem_map.mp hc
        exact putIn_len ..
    rw [this, List.sum_replicate_nat, allQ_len n b ls, List.length_cons, Nat.pow_succ]
theorem flat_nil {q : List (List α)} (h : q.flatten = []) : q = List.replicate q.length [] := by
  rw [List.eq_replicate_iff]
  exact ⟨rfl, fun a ha => List.flatten_eq_nil_iff.mp h a ha⟩
theorem mem_allQ [DecidableEq α] {n b : Nat} : ∀ {ls : List α} {q : List (List α)}, q.length = n + 1 → ls.length ≤ b + 1 → q.flatten.Perm ls → q ∈ allQ n b ls
  | [], q, hq, _, h => by
    have := flat_nil (List.perm_nil.mp h)
    rw [hq] at this
    rw [this]
    exact List.mem_singleton.mpr rfl
  | l :: ls, q, hq, hb, h => by
    have hl : l ∈ q.flatten := h.mem_iff.mpr (List.mem_cons_self ..)
    obtain ⟨v, hv, hlv⟩ := List.mem_flatten.mp hl
    obtain ⟨p, hp, e⟩ := List.getElem_of_mem hv
    have hg : q.getD p [] = v := by rw [List.getD_eq_getElem?_getD, List.getElem?_eq_getElem hp, e]; rfl
    obtain ⟨A, B, rfl⟩ := List.append_of_mem hlv
    have hp2 : (q.set p (A ++ B)).flatten.Perm ls := by
      rw [List.perm_iff_count]
      intro x
      have h1 := count_set (x := x) (v := A ++ B) hp
      have h2 := List.perm_iff_count.mp h x
      rw [hg] at h1
      rw [List.count_append, List.count_append] at h1
      have h3 : (l :: ls).count x = [l].count x + ls.count x := by rw [← List.count_append]; rfl
      have h4 : (l :: B).count x = [l].count x + B.count x := by rw [← List.count_append]; rfl
      omega
    have hA : A.length ≤ b := by
      have h1 := h.length_eq
      have h2 : (A ++ l :: B).length ≤ q.flatten.length := by
        have := List.sublist_flatten_of_mem hv
        exact this.length_le
      rw [List.length_append, List.length_cons] at h2
      rw [List.length_cons] at h1 hb
      omega
    rw [allQ, List.mem_flatMap]
    refine ⟨q.set p (A ++ B), mem_allQ (by rw [List.length_set]; exact hq) (by rw [List.length_cons] at hb; omega) hp2, ?_⟩
    unfold putIn
    rw [List.mem_flatMap]
    refine ⟨p, List.mem_range.mpr (by omega), List.mem_map.mpr ⟨A.length, List.mem_range.mpr (by omega), ?_⟩⟩
    rw [getD_set hp, if_pos rfl, List.set_set, List.take_left, List.drop_left]
    rw [← e]
    exact List.set_getElem_self hp
end
end DL
set_option maxRecDepth 100000
set_option maxHeartbeats 4000000
/-! the plain law, 3: the tree's buffers, what is forced -/
namespace DL
open PySem PySem.Spec PyProof.Rows L2 SlX
theorem upQ_eq (far k m : Nat) (qs : State) : upQ far k m qs = upA far k m qs := rfl
theorem wrS_eq (q : State) (k : Nat) (l : Line) : wrS q k l = wrA k l q := rfl
def pidx (t : Tree) : Option Nm → Nat
  | none => t.length
  | some a => bno t a
def parT (t : Tree) (k : Nat) : Nat := (spots t).getD k 0
theorem tnames_len (t : Tree) : (tnames t).length = t.length := by
  unfold tnames
  rw [List.length_map]
theorem bno_lt {t : Tree} {a : Nm} (h : a ∈ tnames t) : bno t a < t.length := by
  rw [← tnames_len]
  exact List.idxOf_lt_length_iff.mpr h
theorem parT_at {t : Tree} {k : Nat} (h : k < t.length) : parT t k = pidx t (t[k]).2 := by
  unfold parT spots
  rw [List.getD_eq_getElem?_getD, List.getElem?_map, List.getElem?_eq_getElem h]
  show (match (t[k]).2 with
    | none => t.length
    | some b => bno t b) = _
  cases (t[k]).2 <;> rfl
theorem bno_at {t : Tree} (ok : TreeOk t) {k : Nat} (h : k < t.length) : bno t (t[k]).1 = k := by
  have h2 : k < (tnames t).length := by rw [tnames_len]; exact h
  have e : (tnames t)[k] = (t[k]).1 := List.getElem_map (fun p : Nm × Option Nm => p.1)
  unfold bno
  rw [← e]
  exact ok.nd.idxOf_getElem k h2
theorem at_bno {t : Tree} {a : Nm} (h : a ∈ tnames t) : ∃ hl : bno t a < t.length, (t[bno t a]'hl).1 = a := by
  refine ⟨bno_lt h, ?_⟩
  have h2 := List.idxOf_lt_length_iff.mpr h
  have e : (tnames t)[bno t a]'h2 = a := List.getElem_idxOf h2
  have e2 : (tnames t)[bno t a]'h2 = (t[bno t a]'(bno_lt h)).1 := List.getElem_map (fun p : Nm × Option Nm => p.1)
  exact e2.symm.trans e
theorem bno_inj {t : Tree} {a b : Nm} (ha : a ∈ tnames t) (hb : b ∈ tnames t) (e : bno t a = bno t b) : a = b := by
  obtain ⟨h1, e1⟩ := at_bno ha
  obtain ⟨h2, e2⟩ := at_bno hb
  have : ∀ i j (hi : i < t.length) (hj : j < t.length), i = j → (t[i]).1 = (t[j]).1 := fun i j hi hj q => by subst q; rfl
  rw [← e1, ← e2]
  exact this _ _ h1 h2 e
theorem par_bno {t : Tree} (ok : TreeOk t) {a : Nm} (h : a ∈ tnames t) : parT t (bno t a) = pidx t (up t a) := by
  obtain ⟨p, hp, e1, _, e2⟩ := up_find h
  obtain ⟨hl, e3⟩ := at_bno h
  rw [parT_at hl, e2]
  obtain ⟨j, hj, e4⟩ := List.getElem_of_mem hp
  have h5 : bno t a = j := by rw [← e1, ← e4]; exact bno_at ok hj
  have : ∀ i j (hi : i < t.length) (hj : j < t.length), i = j → (t[i]).2 = (t[j]).2 := fun i j hi hj q => by subst q; rfl
  rw [this _ _ hl hj h5, e4]
theorem pidx_le {t : Tree} {o : Option Nm} (h : ∀ a, o = some a → a ∈ tnames t) : pidx t o ≤ t.length := by
  cases o with
  | none => exact Nat.le_refl _
  | some a => exact Nat.le_of_lt (bno_lt (h a rfl))
theorem pidx_inj {t : Tree} {a b : Option Nm} (ha : ∀ x, a = some x → x ∈ tnames t) (hb : ∀ x, b = some x → x ∈ tnames t) (e : pidx t a = pidx t b) : a = b := by
  cases a with
  | none =>
    cases b with
    | none => rfl
    | some b =>
      have := bno_lt (hb b rfl)
      simp only [pidx] at e
      omega
  | some a =>
    cases b with
    | none =>
      have := bno_lt (ha a rfl)
      simp only [pidx] at e
      omega
    | some b => rw [bno_inj (ha a rfl) (hb b rfl) e]
theorem forest {t : Tree} (ok : TreeOk t) : Forest t.length (parT t) := by
  refine ⟨fun k hk => ?_, ?_⟩
  · rw [parT_at hk]
    exact pidx_le fun a e => ok.up _ (List.getElem_mem hk) a e
  · obtain ⟨r, hr⟩ := ok.rank
    let rr : Nat → Nat := fun k => if h : k < t.length then r (t[k]).1 + 1 else 0
    have r1 : ∀ k (h : k < t.length), rr k = r (t[k]).1 + 1 := fun k h => dif_pos h
    have r0 : rr t.length = 0 := dif_neg (Nat.lt_irrefl _)
    refine ⟨rr, fun k hk => ?_⟩
    rw [r1 k hk, parT_at hk]
    cases e : (t[k]).2 with
    | none =>
      show rr t.length < _
      rw [r0]
      omega
    | some b =>
      have hb := ok.up _ (List.getElem_mem hk) b e
      obtain ⟨hl, e1⟩ := at_bno hb
      have h2 := hr _ (List.getElem_mem hk) b e
      show rr (bno t b) < _
      rw [r1 _ hl, e1]
      omega
theorem Up.last {n : Nat} {par : Nat → Nat} {a b : Nat} (h : Up n par a b) (ne : a ≠ b) : ∃ c, c < n ∧ par c = b := by
  induction h with
  | refl => exact absurd rfl ne
  | @step a b h1 h2 ih =>
    by_cases e : par a = b
    · exact ⟨a, h1, e⟩
    · exact ih e
theorem leaf_up {t : Tree} (ok : TreeOk t) {s : Nm} (h : s ∈ leavesM t) : s ∈ tnames t ∧ ∀ a, Up t.length (parT t) a (bno t s) → a = bno t s := by
  unfold leavesM at h
  rw [List.mem_filter, decide_eq_true_eq] at h
  have hs : s ∈ tnames t := (List.mergeSort_perm _ _).mem_iff.mp h.1
  refine ⟨hs, fun a u => ?_⟩
  by_cases e : a = bno t s
  · exact e
  · obtain ⟨c, hc, e2⟩ := u.last e
    rw [parT_at hc] at e2
    have h3 : (t[c]).2 = some s := pidx_inj (fun x hx => ok.up _ (List.getElem_mem hc) x hx) (fun x hx => by cases hx; exact hs) e2
    exact absurd (List.mem_map.mpr ⟨_, List.getElem_mem hc, h3⟩) h.2
/-! ### forced -/
def fpStep (t : Tree) (p : Nat) (d : Deed) : Nat := if d.1 = false ∧ p = bno t d.2 then parT t p else p
def fpFrom (t : Tree) (ds : List Deed) (p q i : Nat) : Nat := ((ds.take i).drop (q + 1)).foldl (fpStep t) p
def fpL (t : Tree) (ds : List Deed) (i : Nat) (x : Line) : Nat := fpFrom t ds (bno t x.1) (birthOf ds x) i
theorem fpFrom_low {t : Tree} {ds : List Deed} {p q i : Nat} (h : i ≤ q + 1) : fpFrom t ds p q i = p := by
  unfold fpFrom
  rw [List.drop_eq_nil_of_le (by rw [List.length_take]; omega)]
  rfl
theorem fpFrom_succ {t : Tree} {ds : List Deed} {p q i : Nat} {d : Deed} (h : q < i) (hd : ds[i]? = some d) : fpFrom t ds p q (i + 1) = fpStep t (fpFrom t ds p q i) d := by
  unfold fpFrom
  have hl := (List.getElem?_eq_some_iff.mp hd).1
  rw [take_snoc hd, List.drop_append_of_le_length (by rw [List.length_take]; omega), List.foldl_append]
  rfl
theorem fpStep_up {t : Tree} (ds : List Deed) (hds : ∀ d ∈ ds, d.2 ∈ tnames t) {p : Nat} {d : Deed} (hd : d ∈ ds) : Up t.length (parT t) p (fpStep t p d) := by
  unfold fpStep
  by_cases e : d.1 = false ∧ p = bno t d.2
  · rw [if_pos e]
    refine .one ?_
    rw [e.2]
    exact bno_lt (hds d hd)
  · rw [if_neg e]
    exact .refl _
theorem foldl_up {t : Tree} : ∀ (ds : List Deed), (∀ d ∈ ds, d.2 ∈ tnames t) → ∀ p, Up t.length (parT t) p (ds.foldl (fpStep t) p)
  | [], _, p => .refl _
  | d :: ds, h, p => (fpStep_up (d :: ds) h (List.mem_cons_self ..)).trans (foldl_up ds (fun x hx => h x (List.mem_cons_of_mem _ hx)) _)
theorem fpFrom_up {t : Tree} {ds : List Deed} (hds : ∀ d ∈ ds, d.2 ∈ tnames t) (p q i : Nat) : Up t.length (parT t) p (fpFrom t ds p q i) := foldl_up _ (fun d hd => hds d (List.mem_of_mem_take (List.mem_of_mem_drop hd))) p
theorem fpStep_mono {t : Tree} (ok : TreeOk t) {p p' : Nat} {d : Deed} (hd : d.2 ∈ tnames t) (h : Up t.length (parT t) p p') : Up t.length (parT t) (fpStep t p d) (fpStep t p' d) := by
  unfold fpStep
  have hl := bno_lt hd
  by_cases e : d.1 = false ∧ p = bno t d.2
  · rw [if_pos e]
    by_cases e2 : d.1 = false ∧ p' = bno t d.2
    · rw [if_pos e2, e.2, e2.2]
      exact .refl _
    · rw [if_neg e2]
      exact (h.next fun q => e2 ⟨e.1, q ▸ e.2⟩).2
  · rw [if_neg e]
    by_cases e2 : d.1 = false ∧ p' = bno t d.2
    · rw [if_pos e2]
      exact h.trans (.one (by rw [e2.2]; exact hl))
    · rw [if_neg e2]
      exact h
/-- x is surely ahead of y -/
def sureP (t : Tree) (ds : List Deed) (x y : Line) : Prop := birthOf ds x < birthOf ds y ∧ Up t.length (parT t) (bno t y.1) (fpL t ds (birthOf ds y) x)
theorem sureP_trans {t : Tree} (ok : TreeOk t) {ds : List Deed} (hds : ∀ d ∈ ds, d.2 ∈ tnames t) {x y z : Line} (hy : y ∈ numb ds) (h1 : sureP t ds x y) (h2 : sureP t ds y z) : sureP t ds x z := by
  have hyb := birth_at hy
  refine ⟨Nat.lt_trans h1.1 h2.1, h2.2.trans ?_⟩
  have key : ∀ k, birthOf ds y + 1 + k ≤ ds.length → Up t.length (parT t) (fpL t ds (birthOf ds y + 1 + k) y) (fpL t ds (birthOf ds y + 1 + k) x) := fun k => by
    induction k with
    | zero =>
      intro _
      have e1 : fpL t ds (birthOf ds y + 1 + 0) y = bno t y.1 := fpFrom_low (by omega)
      have e2 : fpL t ds (birthOf ds y + 1 + 0) x = fpL t ds (birthOf ds y) x := by
        show fpFrom t ds _ _ (birthOf ds y + 1) = fpFrom t ds _ _ (birthOf ds y)
        rw [fpFrom_succ h1.1 hyb]
        unfold fpStep
        rw [if_neg fun q => nomatch q.1]
      rw [e1, e2]
      exact h1.2
    | succ k ih =>
      intro hk
      have hlt : birthOf ds y + 1 + k < ds.length := by omega
      have hd := List.getElem?_eq_getElem hlt
      have := h1.1
      have e1 : fpL t ds (birthOf ds y + 1 + (k + 1)) y = fpStep t (fpL t ds (birthOf ds y + 1 + k) y) ds[birthOf ds y + 1 + k] := fpFrom_succ (i := birthOf ds y + 1 + k) (by omega) hd
      have e2 : fpL t ds (birthOf ds y + 1 + (k + 1)) x = fpStep t (fpL t ds (birthOf ds y + 1 + k) x) ds[birthOf ds y + 1 + k] := fpFrom_succ (i := birthOf ds y + 1 + k) (by omega) hd
      rw [e1, e2]
      exact fpStep_mono ok (hds _ (List.getElem_mem hlt)) (ih (by omega))
  have hz := h2.1
  by_cases hb : birthOf ds z ≤ ds.length
  · have := key (birthOf ds z - (birthOf ds y + 1)) (by omega)
    have e : birthOf ds y + 1 + (birthOf ds z - (birthOf ds y + 1)) = birthOf ds z := by omega
    rw [e] at this
    exact this
  · have h3 : ∀ w, fpL t ds (birthOf ds z) w = fpL t ds ds.length w := fun w => by
      unfold fpL fpFrom
      rw [List.take_of_length_le (by omega), List.take_of_length_le (by omega)]
    rw [h3, h3]
    have hy2 : birthOf ds y < ds.length := (List.getElem?_eq_some_iff.mp hyb).1
    have := key (ds.length - (birthOf ds y + 1)) (by omega)
    have e : birthOf ds y + 1 + (ds.length - (birthOf ds y + 1)) = ds.length := by omega
    rw [e] at this
    exact this
theorem sureP_same {t : Tree} {ds : List Deed} (hds : ∀ d ∈ ds, d.2 ∈ tnames t) {x y : Line} (hx : x ∈ numb ds) (hy : y ∈ numb ds) (e : x.1 = y.1) : sureP t ds x y ↔ x.2 < y.2 := by
  have hb : birthOf ds x < birthOf ds y ↔ x.2 < y.2 := by
    obtain ⟨hx1, hx2, _⟩ := birthOf_is hx
    obtain ⟨hy1, hy2, _⟩ := birthOf_is hy
    have gx := birth_at hx
    have gy := birth_at hy
    rw [← e] at gy
    constructor
    · intro h
      have := lnAt_lt gx gy h
      rw [hx2, hy2] at this
      exact this
    · intro h
      rcases Nat.lt_trichotomy (birthOf ds x) (birthOf ds y) with h1 | h1 | h1
      · exact h1
      · rw [h1, hy2] at hx2
        rw [hx2] at h
        omega
      · have := lnAt_lt gy gx h1
        rw [hx2, hy2] at this
        omega
  constructor
  · intro h
    exact hb.mp h.1
  · intro h
    refine ⟨hb.mpr h, ?_⟩
    rw [← e]
    exact fpFrom_up hds _ _ _
end DL
set_option maxRecDepth 100000
set_option maxHeartbeats 4000000
/-! the plain law, 4: the outputs are the orders that respect what is sure -/
namespace DL
open PySem PySem.Spec PyProof.Rows L2 SlX
theorem mem_getD {α : Type} {q : List (List α)} {p : Nat} {x : α} (h : x ∈ q.getD p []) : x ∈ q.flatten := by
  by_cases hp : p < q.length
  · rw [List.getD_eq_getElem?_getD, List.getElem?_eq_getElem hp] at h
    exact List.mem_flatten.mpr ⟨_, List.getElem_mem hp, h⟩
  · rw [List.getD_eq_getElem?_getD, List.getElem?_eq_none (by omega)] at h
    cases h
theorem getD_mem {α : Type} {q : List (List α)} {x : α} (h : x ∈ q.flatten) : ∃ p, p < q.length ∧ x ∈ q.getD p [] := by
  obtain ⟨v, hv, hx⟩ := List.mem_flatten.mp h
  obtain ⟨p, hp, e⟩ := List.getElem_of_mem hv
  exact ⟨p, hp, by rw [List.getD_eq_getElem?_getD, List.getElem?_eq_getElem hp, e]; exact hx⟩
theorem upA_zero {α : Type} (far k : Nat) (q : List (List α)) : upA far k 0 q = q := by
  apply ext_getD (upA_len ..)
  intro j hj
  rw [upA_len] at hj
  rw [upA_get _ _ _ _ hj, List.drop_zero, List.take_zero, List.append_nil]
  by_cases h : j = k
  · rw [if_pos h]
  · rw [if_neg h]
    by_cases h2 : j = far
    · rw [if_pos h2]
    · rw [if_neg h2]
/-- the lines that are written by then -/
def bornL (ds : List Deed) (o : List Line) (i : Nat) : List Line := o.filter fun x => decide (birthOf ds x < i)
theorem mem_born {ds : List Deed} {o : List Line} {i : Nat} {x : Line} : x ∈ bornL ds o i ↔ x ∈ o ∧ birthOf ds x < i := by
  unfold bornL
  rw [List.mem_filter, decide_eq_true_eq]
theorem born_lt {ds : List Deed} {x : Line} (h : x ∈ numb ds) : birthOf ds x < ds.length := (List.getElem?_eq_some_iff.mp (birth_at h)).1
theorem born_all {ds : List Deed} {o : List Line} (h : ∀ x ∈ o, x ∈ numb ds) : bornL ds o ds.length = o := List.filter_eq_self.mpr fun x hx => decide_eq_true (born_lt (h x hx))
theorem born_flush {ds : List Deed} {o : List Line} {i : Nat} {s : Nm} (h : ∀ x ∈ o, x ∈ numb ds) (hd : ds[i]? = some (false, s)) : bornL ds o (i + 1) = bornL ds o i := List.filter_congr fun x hx => by
  have hb := birth_at (h x hx)
  have : birthOf ds x ≠ i := fun e => by
    rw [e, hd] at hb
    cases hb
  have : birthOf ds x < i + 1 ↔ birthOf ds x < i := by omega
  rw [decide_eq_decide]
  exact this
theorem wr_of {ds : List Deed} {i : Nat} {s : Nm} (hd : ds[i]? = some (true, s)) : i ∈ wr ds ∧ lnAt ds i ∈ numb ds ∧ birthOf ds (lnAt ds i) = i ∧ (lnAt ds i).1 = s := by
  have h1 : i ∈ wr ds := mem_wr.mpr ⟨s, hd⟩
  exact ⟨h1, List.mem_map.mpr ⟨i, h1, rfl⟩, birthOf_eq h1, by rw [lnAt_eq hd]⟩
theorem birth_inj {ds : List Deed} {x y : Line} (hx : x ∈ numb ds) (hy : y ∈ numb ds) (e : birthOf ds x = birthOf ds y) : x = y := by
  rw [← (birthOf_is hx).2.1, ← (birthOf_is hy).2.1, e]
theorem born_write {ds : List Deed} {i : Nat} {s : Nm} (hd : ds[i]? = some (true, s)) : (bornL ds (numb ds) (i + 1)).Perm (lnAt ds i :: bornL ds (numb ds) i) := by
  obtain ⟨_, h2, h3, _⟩ := wr_of hd
  have nd : ∀ j, (bornL ds (numb ds) j).Nodup := fun j => nodup_filter _ (numb_nodup ds)
  rw [List.perm_ext_iff_of_nodup (nd _) (List.nodup_cons.mpr ⟨fun h => by have := (mem_born.mp h).2; omega, nd _⟩)]
  intro x
  rw [List.mem_cons, mem_born]
  constructor
  · rintro ⟨hx, hb⟩
    by_cases e : birthOf ds x = i
    · exact Or.inl (birth_inj hx h2 (by rw [e, h3]))
    · exact Or.inr (mem_born.mpr ⟨hx, by omega⟩)
  · rintro (rfl | h)
    · exact ⟨h2, by omega⟩
    · have := mem_born.mp h
      exact ⟨this.1, by omega⟩
section
variable {t : Tree} {ds : List Deed}
theorem fpL_flush {i : Nat} {s : Nm} {x : Line} (hd : ds[i]? = some (false, s)) (hx : birthOf ds x < i) : fpL t ds (i + 1) x = if fpL t ds i x = bno t s then parT t (bno t s) else fpL t ds i x := by
  have : fpL t ds (i + 1) x = fpStep t (fpL t ds i x) (false, s) := fpFrom_succ hx hd
  rw [this]
  unfold fpStep
  by_cases e : fpL t ds i x = bno t s
  · rw [if_pos e, if_pos ⟨rfl, e⟩, e]
  · rw [if_neg e, if_neg fun q => e q.2]
theorem fpL_write {i : Nat} {s : Nm} {x : Line} (hd : ds[i]? = some (true, s)) (hx : birthOf ds x < i) : fpL t ds (i + 1) x = fpL t ds i x := by
  have : fpL t ds (i + 1) x = fpStep t (fpL t ds i x) (true, s) := fpFrom_succ hx hd
  rw [this]
  unfold fpStep
  rw [if_neg fun q => nomatch q.1]
theorem fpL_new {i : Nat} {s : Nm} (hd : ds[i]? = some (true, s)) : fpL t ds (i + 1) (lnAt ds i) = bno t s := by
  obtain ⟨_, _, h3, h4⟩ := wr_of hd
  have : fpL t ds (i + 1) (lnAt ds i) = bno t (lnAt ds i).1 := fpFrom_low (by omega)
  rw [this, h4]
/-! ### what every state keeps -/
structure Inv4 (t : Tree) (ds : List Deed) (i : Nat) (q : State) : Prop where
  len : q.length = t.length + 1
  low : Low t.length (parT t) (fpL t ds i) q
  perm : q.flatten.Perm (bornL ds (numb ds) i)
  sr : ∀ x ∈ numb ds, ∀ y ∈ numb ds, birthOf ds y < i → sureP t ds x y → ∀ l, Pth t.length (parT t) (bno t y.1) l → [x, y].Sublist (catL l q)
theorem inv4_zero : Inv4 t ds 0 (List.replicate (t.length + 1) []) := by
  have e : ∀ p, (List.replicate (t.length + 1) ([] : List Line)).getD p [] = [] := fun p => by
    rw [List.getD_eq_getElem?_getD, List.getElem?_replicate]
    by_cases h : p < t.length + 1
    · rw [if_pos h]
      rfl
    · rw [if_neg h]
      rfl
  refine ⟨List.length_replicate, fun p _ x hx => ?_, ?_, fun x _ y _ h => absurd h (Nat.not_lt_zero _)⟩
  · rw [e] at hx
    cases hx
  · have h1 : bornL ds (numb ds) 0 = [] := List.filter_eq_nil_iff.mpr fun x _ => by simp
    rw [h1, List.flatten_eq_nil_iff.mpr fun l hl => (List.mem_replicate.mp hl).2]
theorem inv4_up (ok : TreeOk t) (hF : Fits t ds) {i k m : Nat} {q : State} (hk : k < t.length) (h : Inv4 t ds i q) : Inv4 t ds i (upA (parT t k) k m q) := by
  have F := forest ok
  have hl := h.len
  refine ⟨by rw [upA_len]; exact hl, h.low.up hl hk, (upA_perm (by omega) (by have := F.le k hk; omega) (F.ne hk)).trans h.perm, fun x hx y hy hb hs l hp => ?_⟩
  exact (h.sr x hx y hy hb hs l hp).trans (upA_cat F hl hk hp (Nat.le_of_lt (bno_lt (hF.line hy))))
theorem inv4_in {i : Nat} {q : State} (h : Inv4 t ds i q) {p : Nat} {x : Line} (hx : x ∈ q.getD p []) : x ∈ numb ds ∧ birthOf ds x < i := mem_born.mp (h.perm.mem_iff.mp (mem_getD hx))
theorem inv4_step (ok : TreeOk t) (hF : Fits t ds) {i : Nat} {q : State} (hi : i < ds.length) (h : Inv4 t ds i q) : Inv4 t ds (i + 1) (stepS t ds i q) := by
  have F := forest ok
  have hl := h.len
  cases hd : ds[i]? with
  | none =>
    rw [List.getElem?_eq_getElem hi] at hd
    cases hd
  | some d =>
    obtain ⟨b, s⟩ := d
    have hm : (b, s) ∈ ds := List.mem_of_getElem? hd
    have hs : s ∈ tnames t := hF.nm _ hm
    have hk := bno_lt hs
    cases b with
    | false =>
      have e : stepS t ds i q = upA (parT t (bno t s)) (bno t s) (q.getD (bno t s) []).length q := by
        unfold stepS
        rw [hd]
        rfl
      rw [e]
      have h2 := inv4_up (m := (q.getD (bno t s) []).length) ok hF hk h
      refine ⟨h2.len, h.low.flush hl hk (fun p _ x hx => fpL_flush hd (inv4_in h hx).2), ?_, fun x hx y hy hb hS l hp => ?_⟩
      · rw [born_flush (fun x hx => hx) hd]
        exact h2.perm
      · refine h2.sr x hx y hy ?_ hS l hp
        have : birthOf ds y ≠ i := fun e => by
          have := birth_at hy
          rw [e, hd] at this
          cases this
        omega
    | true =>
      have e : stepS t ds i q = wrA (bno t s) (lnAt ds i) q := by
        unfold stepS
        rw [hd]
        rfl
      obtain ⟨_, w2, w3, w4⟩ := wr_of hd
      rw [e]
      refine ⟨by rw [wrA_len (by omega)]; exact hl, h.low.write hl hk (fpL_new hd) (fun p _ x hx => fpL_write hd (inv4_in h hx).2), ?_, fun x hx y hy hb hS l hp => ?_⟩
      · exact ((wrA_perm (by omega)).trans (h.perm.cons _)).trans (born_write hd).symm
      · by_cases hb2 : birthOf ds y < i
        · exact (h.sr x hx y hy hb2 hS l hp).trans (wrA_cat (by omega) l)
        · have hyi : birthOf ds y = i := by omega
          have hye : y = lnAt ds i := birth_inj hy w2 (by rw [hyi, w3])
          have hxi : birthOf ds x < i := by
            have := hS.1
            omega
          have hys : y.1 = s := by rw [hye]; exact w4
          rw [hys] at hp
          rw [← hye, wrA_last F hk hl hp]
          obtain ⟨p, hpl, hxp⟩ := getD_mem (h.perm.mem_iff.mpr (mem_born.mpr ⟨hx, hxi⟩))
          have h3 := h.low p (by omega) x hxp
          have h4 := hS.2
          rw [hyi, hys] at h4
          have h5 : x ∈ catL l q := mem_catL.mpr ⟨p, hp.mem.mpr (h4.trans h3), hxp⟩
          exact (List.singleton_sublist.mpr h5).append (List.Sublist.refl [y])
theorem spots_len (t : Tree) : (spots t).length = t.length := by
  unfold spots
  rw [List.length_map]
theorem mem_mvs {t : Tree} {q r : State} : r ∈ mvs (spots t) q ↔ ∃ k, k < t.length ∧ q.getD k [] ≠ [] ∧ r = upA (parT t k) k 1 q := by
  unfold mvs
  rw [List.mem_map]
  constructor
  · rintro ⟨k, hk, rfl⟩
    rw [List.mem_filter, List.mem_range, spots_len, decide_eq_true_eq] at hk
    exact ⟨k, hk.1, hk.2, rfl⟩
  · rintro ⟨k, h1, h2, rfl⟩
    exact ⟨k, List.mem_filter.mpr ⟨List.mem_range.mpr (by rw [spots_len]; exact h1), decide_eq_true h2⟩, rfl⟩
open Classical in
theorem flow_ind {sps : List Nat} {S fs : List State} (h : Flow sps S fs) {I : State → Prop} (h0 : ∀ q ∈ S, I q) (h1 : ∀ q, I q → ∀ r ∈ mvs sps q, I r) : ∀ q ∈ fs, I q := fun q hq => by
  have := h.le (fs.filter fun q => decide (I q)) (fun q hq => List.mem_filter.mpr ⟨h.sub q hq, decide_eq_true (h0 q hq)⟩) (fun q hq r hr => by
    rw [List.mem_filter, decide_eq_true_eq] at hq
    exact List.mem_filter.mpr ⟨h.cl q hq.1 r hr, decide_eq_true (h1 q hq.2 r hr)⟩) q hq
  exact of_decide_eq_true (List.mem_filter.mp this).2
theorem deep_inv (ok : TreeOk t) (hF : Fits t ds) {Ss Fs : Nat → List State} (hD : Deep t ds Ss Fs) : ∀ i, i ≤ ds.length → (∀ q ∈ Ss i, Inv4 t ds i q) ∧ ∀ q ∈ Fs i, Inv4 t ds i q := fun i => by
  have fl : ∀ i, i ≤ ds.length → (∀ q ∈ Ss i, Inv4 t ds i q) → ∀ q ∈ Fs i, Inv4 t ds i q := fun i hi h => flow_ind (hD.fl i hi) h fun q hq r hr => by
    obtain ⟨k, hk, _, rfl⟩ := mem_mvs.mp hr
    exact inv4_up ok hF hk hq
  induction i with
  | zero =>
    intro h
    have h0 : ∀ q ∈ Ss 0, Inv4 t ds 0 q := fun q hq => by
      rw [hD.z, List.mem_singleton] at hq
      rw [hq]
      exact inv4_zero
    exact ⟨h0, fl 0 h h0⟩
  | succ i ih =>
    intro h
    have h0 : ∀ q ∈ Ss (i + 1), Inv4 t ds (i + 1) q := fun q hq => by
      rw [hD.st i (by omega)] at hq
      obtain ⟨r, hr, rfl⟩ := List.mem_map.mp hq
      exact inv4_step ok hF (by omega) ((ih (by omega)).2 r hr)
    exact ⟨h0, fl _ h h0⟩
theorem lastQ_eq {q : State} {n : Nat} (h : q.length = n + 1) : lastQ q = q.getD n [] := by
  unfold lastQ
  rw [List.getLast?_eq_getElem?, h, List.getD_eq_getElem?_getD]
  rfl
/-- a state with all lines on the screen -/
theorem all_last {q : State} {n m : Nat} (h : q.length = n + 1) (hm : q.flatten.length = m) (hl : (lastQ q).length = m) : q.flatten = lastQ q ∧ ∀ p, p < n → q.getD p [] = [] := by
  have hne : q ≠ [] := fun e => by rw [e] at h; cases h
  have e1 : q = q.dropLast ++ [lastQ q] := by
    have e2 : lastQ q = q.getLast hne := by
      unfold lastQ
      rw [List.getLast?_eq_some_getLast hne]
      rfl
    rw [e2]
    exact (List.dropLast_concat_getLast hne).symm
  have e3 : q.flatten = q.dropLast.flatten ++ lastQ q := by
    conv => lhs; rw [e1]
    rw [List.flatten_append]
    simp
  have e4 : q.dropLast.flatten = [] := by
    apply List.eq_nil_of_length_eq_zero
    rw [e3, List.length_append] at hm
    omega
  refine ⟨by rw [e3, e4]; rfl, fun p hp => ?_⟩
  have hd : p < q.dropLast.length := by rw [List.length_dropLast]; omega
  have h5 : q.getD p [] = q.dropLast.getD p [] := by
    conv => lhs; rw [e1]
    rw [List.getD_eq_getElem?_getD, List.getElem?_append_left hd, List.getD_eq_getElem?_getD]
  rw [h5, List.getD_eq_getElem?_getD, List.getElem?_eq_getElem hd]
  exact List.flatten_eq_nil_iff.mp e4 _ (List.getElem_mem hd)
theorem catL_last {n : Nat} {par : Nat → Nat} {q : State} (h : ∀ p, p < n → q.getD p [] = []) {a : Nat} {l : List Nat} (hp : Pth n par a l) : catL l q = q.getD n [] := by
  induction hp with
  | top => rfl
  | step h1 _ ih => rw [catL, ih, h _ h1, List.append_nil]
/-- an order of the lines that respects what is sure -/
structure Resp (t : Tree) (ds : List Deed) (ls : List Line) : Prop where
  perm : ls.Perm (numb ds)
  sr : ∀ x ∈ numb ds, ∀ y ∈ numb ds, sureP t ds x y → [x, y].Sublist ls
theorem outs_resp (ok : TreeOk t) (hF : Fits t ds) {Ss Fs : Nat → List State} (hD : Deep t ds Ss Fs) {ls : List Line} (h : ls ∈ outsF ds (Fs ds.length)) : Resp t ds ls := by
  unfold outsF at h
  obtain ⟨q, hq, rfl⟩ := List.mem_map.mp h
  rw [List.mem_filter, decide_eq_true_eq] at hq
  have I := (deep_inv ok hF hD ds.length (Nat.le_refl _)).2 q hq.1
  have hp := I.perm
  rw [born_all fun x hx => hx] at hp
  obtain ⟨e1, e2⟩ := all_last I.len hp.length_eq hq.2
  refine ⟨by rw [← e1]; exact hp, fun x hx y hy hs => ?_⟩
  obtain ⟨l, hl⟩ := Pth.ex (forest ok) (Nat.le_of_lt (bno_lt (hF.line hy)))
  have := I.sr x hx y hy (born_lt hy) hs l hl
  rw [catL_last e2 hl, ← lastQ_eq I.len] at this
  exact this
/-! ### every such order comes out -/
theorem ord_pair {o : List Line} (h : o.Nodup) : o.Pairwise fun u v => o.idxOf u < o.idxOf v := by
  rw [List.pairwise_iff_getElem]
  intro i j hi hj hij
  rw [h.idxOf_getElem i hi, h.idxOf_getElem j hj]
  exact hij
theorem sub_ord {o : List Line} (h : o.Nodup) {x y : Line} (hs : [x, y].Sublist o) : o.idxOf x < o.idxOf y := by
  have := (ord_pair h).sublist hs
  exact (List.pairwise_cons.mp this).1 y (List.mem_cons_self ..)
theorem ord_sub {o : List Line} {x y : Line} (hx : x ∈ o) (hy : y ∈ o) (h : o.idxOf x < o.idxOf y) : [x, y].Sublist o := by
  have hx2 := List.idxOf_lt_length_iff.mpr hx
  have hy2 := List.idxOf_lt_length_iff.mpr hy
  have e1 : o = o.take (o.idxOf y) ++ o.drop (o.idxOf y) := (List.take_append_drop ..).symm
  have h1 : x ∈ o.take (o.idxOf y) := by
    have : (o.take (o.idxOf y))[o.idxOf x]? = some x := by
      rw [List.getElem?_take_of_lt h, List.getElem?_eq_getElem hx2, List.getElem_idxOf]
    exact List.mem_of_getElem? this
  have h2 : y ∈ o.drop (o.idxOf y) := by
    have : (o.drop (o.idxOf y))[0]? = some y := by
      rw [List.getElem?_drop, Nat.add_zero, List.getElem?_eq_getElem hy2, List.getElem_idxOf]
    exact List.mem_of_getElem? this
  rw [e1]
  exact (List.singleton_sublist.mpr h1).append (List.singleton_sublist.mpr h2)
theorem resp_stage (ok : TreeOk t) (hF : Fits t ds) {Ss Fs : Nat → List State} (hD : Deep t ds Ss Fs) {o : List Line} (hR : Resp t ds o) : ∀ i, i ≤ ds.length → ∃ pos, Canon t.length (parT t) o.idxOf (fun x => bno t x.1) (fpL t ds i) (bornL ds o i) pos ∧ Qs t.length (bornL ds o i) pos ∈ Ss i := fun i => by
  have F := forest ok
  have hn : o.Nodup := hR.perm.nodup_iff.mpr (numb_nodup ds)
  have hm : ∀ x ∈ o, x ∈ numb ds := fun x hx => hR.perm.mem_iff.mp hx
  have hso : ∀ i, (bornL ds o i).Pairwise fun u v => o.idxOf u < o.idxOf v := fun i => (ord_pair hn).sublist List.filter_sublist
  have lfle : ∀ x ∈ o, bno t x.1 ≤ t.length := fun x hx => Nat.le_of_lt (bno_lt (hF.line (hm x hx)))
  have fpu : ∀ i x, Up t.length (parT t) (bno t x.1) (fpL t ds i x) := fun i x => fpFrom_up hF.nm _ _ _
  induction i with
  | zero =>
    intro _
    have e : bornL ds o 0 = [] := List.filter_eq_nil_iff.mpr fun x _ => by simp
    rw [e]
    refine ⟨fun _ => 0, ⟨fun _ h => (nomatch h), fun _ h => (nomatch h), fun _ h => (nomatch h)⟩, ?_⟩
    rw [hD.z, List.mem_singleton]
    apply ext_getD
    · rw [Qs_len, List.length_replicate]
    · intro j hj
      rw [Qs_len] at hj
      rw [Qs_get (by omega), List.getD_eq_getElem?_getD, List.getElem?_replicate, if_pos hj]
      rfl
  | succ i ih =>
    intro hi
    obtain ⟨pos, hc, hq⟩ := ih (by omega)
    have hd : ds[i]? = some ds[i] := List.getElem?_eq_getElem (by omega)
    generalize ds[i] = d at hd
    obtain ⟨b, s⟩ := d
    have hmem : (b, s) ∈ ds := List.mem_of_getElem? hd
    have hs : s ∈ tnames t := hF.nm _ hmem
    have hk := bno_lt hs
    have fl := hD.fl i (by omega)
    have hposle : ∀ x ∈ bornL ds o i, pos x ≤ t.length := fun x hx => (hc.a x hx).le F (lfle x (mem_born.mp hx).1)
    cases b with
    | false =>
      have eb : bornL ds o (i + 1) = bornL ds o i := born_flush hm hd
      rw [eb]
      obtain ⟨pos', hc'⟩ := Canon.ex (n := t.length) (par := parT t) (ord := o.idxOf) (lf := fun x : Line => bno t x.1) (fp := fpL t ds (i + 1)) (L := bornL ds o i) fun x _ => fpu _ x
      have hmono := hc.mono hc' fun x hx => by
        rw [fpL_flush hd (mem_born.mp hx).2]
        by_cases e : fpL t ds i x = bno t s
        · rw [if_pos e, e]
          exact .one hk
        · rw [if_neg e]
          exact .refl _
      obtain ⟨r, hr⟩ := F.rk
      have hFs : Qs t.length (bornL ds o i) pos' ∈ Fs i := climb F (hso i) (S := fun q => q ∈ Fs i) (fun q k hq hk hne => fl.cl q hq _ (mem_mvs.mpr ⟨k, hk, hne, rfl⟩)) (hc'.cons F) hr _ pos (Nat.le_refl _) hposle hmono (hc.cons F) (fl.sub _ hq)
      refine ⟨pos', hc', ?_⟩
      rw [hD.st i (by omega)]
      refine List.mem_map.mpr ⟨_, hFs, ?_⟩
      have e : stepS t ds i (Qs t.length (bornL ds o i) pos') = upA (parT t (bno t s)) (bno t s) ((Qs t.length (bornL ds o i) pos').getD (bno t s) []).length (Qs t.length (bornL ds o i) pos') := by
        unfold stepS
        rw [hd]
        rfl
      have e2 : (bornL ds o i).filter (fun x => decide (pos' x = bno t s)) = [] := filter_none fun x hx => decide_eq_false fun q => by
        obtain ⟨y, hy, _, e3⟩ := hc'.b x hx
        rw [q, fpL_flush hd (mem_born.mp hy).2] at e3
        by_cases e4 : fpL t ds i y = bno t s
        · rw [if_pos e4] at e3
          exact F.ne hk e3
        · rw [if_neg e4] at e3
          exact e4 e3
      rw [e, Qs_get (by omega), e2]
      exact upA_zero ..
    | true =>
      obtain ⟨_, w2, w3, w4⟩ := wr_of hd
      have hlo : lnAt ds i ∈ o := hR.perm.mem_iff.mpr w2
      obtain ⟨O1, O2, eo⟩ := List.append_of_mem hlo
      have hn2 := hn
      rw [eo, List.nodup_append, List.nodup_cons] at hn2
      have n1 : ∀ x ∈ O1, x ≠ lnAt ds i := fun x hx e => hn2.2.2 x hx _ (List.mem_cons_self ..) e
      have n2 : ∀ x ∈ O2, x ≠ lnAt ds i := fun x hx e => hn2.2.1.1 (e ▸ hx)
      have m1 : ∀ x ∈ O1, x ∈ numb ds := fun x hx => hm x (by rw [eo]; exact List.mem_append_left _ hx)
      have m2 : ∀ x ∈ O2, x ∈ numb ds := fun x hx => hm x (by rw [eo]; exact List.mem_append_right _ (List.mem_cons_of_mem _ hx))
      have fsame : ∀ O : List Line, (∀ x ∈ O, x ∈ numb ds) → (∀ x ∈ O, x ≠ lnAt ds i) → bornL ds O (i + 1) = bornL ds O i := fun O h1 h2 => List.filter_congr fun x hx => by
        have : birthOf ds x ≠ i := fun e => h2 x hx (birth_inj (h1 x hx) w2 (by rw [e, w3]))
        have : birthOf ds x < i + 1 ↔ birthOf ds x < i := by omega
        rw [decide_eq_decide]
        exact this
      have eL : bornL ds o (i + 1) = bornL ds O1 i ++ lnAt ds i :: bornL ds O2 i := by
        rw [← fsame O1 m1 n1, ← fsame O2 m2 n2]
        conv => lhs; rw [eo]
        unfold bornL
        rw [List.filter_append, List.filter_cons, if_pos (decide_eq_true (by omega))]
      have eL0 : bornL ds o i = bornL ds O1 i ++ bornL ds O2 i := by
        conv => lhs; rw [eo]
        unfold bornL
        rw [List.filter_append, List.filter_cons, if_neg (by simp [w3])]
      have hso2 := hso (i + 1)
      rw [eL] at hso2
      rw [eL0] at hc hq
      have hp := hso2
      rw [List.pairwise_append, List.pairwise_cons] at hp
      obtain ⟨c1, c2⟩ := Canon.write F hso2 hc hk (leaf_up ok (hF.lf _ hmem rfl)).2 (fp' := fpL t ds (i + 1)) (fun x hx => fpL_write hd (by
        rcases List.mem_append.mp hx with q | q
        · exact (mem_born.mp q).2
        · exact (mem_born.mp q).2)) (by show bno t (lnAt ds i).1 = _; rw [w4]) (fpL_new hd) (fun y hy u => by
          have hyb := mem_born.mp hy
          have hs2 : sureP t ds y (lnAt ds i) := ⟨by rw [w3]; exact hyb.2, by rw [w3, w4]; exact u⟩
          have h3 := sub_ord hn (hR.sr y (m2 y hyb.1) _ w2 hs2)
          have h4 := hp.2.1.1 y hy
          omega)
      rw [eL]
      refine ⟨_, c1, ?_⟩
      rw [hD.st i (by omega)]
      refine List.mem_map.mpr ⟨_, fl.sub _ hq, ?_⟩
      rw [← c2]
      unfold stepS
      rw [hd]
      rfl
theorem resp_outs (ok : TreeOk t) (hF : Fits t ds) {Ss Fs : Nat → List State} (hD : Deep t ds Ss Fs) {o : List Line} (hR : Resp t ds o) : o ∈ outsF ds (Fs ds.length) := by
  have F := forest ok
  have hn : o.Nodup := hR.perm.nodup_iff.mpr (numb_nodup ds)
  have hm : ∀ x ∈ o, x ∈ numb ds := fun x hx => hR.perm.mem_iff.mp hx
  obtain ⟨pos, hc, hq⟩ := resp_stage ok hF hD hR ds.length (Nat.le_refl _)
  rw [born_all hm] at hc hq
  have fl := hD.fl ds.length (Nat.le_refl _)
  obtain ⟨r, hr⟩ := F.rk
  have hle : ∀ x ∈ o, pos x ≤ t.length := fun x hx => (hc.a x hx).le F (Nat.le_of_lt (bno_lt (hF.line (hm x hx))))
  have hFs : Qs t.length o (fun _ => t.length) ∈ Fs ds.length := climb F (ord_pair hn) (S := fun q => q ∈ Fs ds.length) (fun q k hq hk hne => fl.cl q hq _ (mem_mvs.mpr ⟨k, hk, hne, rfl⟩)) (fun _ _ _ _ _ _ => rfl) hr _ pos (Nat.le_refl _) hle (fun x hx => Up.top F (hle x hx)) (hc.cons F) (fl.sub _ hq)
  have e : lastQ (Qs t.length o fun _ => t.length) = o := by
    rw [lastQ_eq (Qs_len ..), Qs_get (Nat.le_refl _)]
    exact List.filter_eq_self.mpr fun x _ => decide_eq_true rfl
  unfold outsF
  refine List.mem_map.mpr ⟨_, List.mem_filter.mpr ⟨hFs, decide_eq_true ?_⟩, e⟩
  rw [e]
  exact hR.perm.length_eq
theorem mem_outs (ok : TreeOk t) (hF : Fits t ds) {Ss Fs : Nat → List State} (hD : Deep t ds Ss Fs) {o : List Line} : o ∈ outsF ds (Fs ds.length) ↔ Resp t ds o := ⟨outs_resp ok hF hD, resp_outs ok hF hD⟩
/-- no order twice -/
theorem outs_nodup (ok : TreeOk t) (hF : Fits t ds) {Ss Fs : Nat → List State} (hD : Deep t ds Ss Fs) : (outsF ds (Fs ds.length)).Nodup := by
  unfold outsF
  refine nodup_map_inj (fun a ha b hb e => ?_) (nodup_filter _ (hD.fl ds.length (Nat.le_refl _)).nd)
  rw [List.mem_filter, decide_eq_true_eq] at ha hb
  have key : ∀ q ∈ Fs ds.length, (lastQ q).length = (numb ds).length → q.length = t.length + 1 ∧ ∀ p, p < t.length → q.getD p [] = [] := fun q hq hl => by
    have I := (deep_inv ok hF hD ds.length (Nat.le_refl _)).2 q hq
    have hp := I.perm
    rw [born_all fun x hx => hx] at hp
    exact ⟨I.len, (all_last I.len hp.length_eq hl).2⟩
  obtain ⟨la, ka⟩ := key a ha.1 ha.2
  obtain ⟨lb, kb⟩ := key b hb.1 hb.2
  apply ext_getD (by rw [la, lb])
  intro j hj
  by_cases h : j < t.length
  · rw [ka j h, kb j h]
  · have hj2 : j = t.length := by omega
    rw [lastQ_eq la, lastQ_eq lb] at e
    rw [hj2]
    exact e
end
end DL
set_option maxRecDepth 100000
set_option maxHeartbeats 4000000
/-! the plain law, 5: what the program calls sure -/
namespace DL
open PySem PySem.Spec PyProof.Rows L2 SlX
theorem upsL_pth {t : Tree} (ok : TreeOk t) : ∀ {l : List (Option Nm)} {h : Option Nm}, UpsL t l h → Pth t.length (parT t) (pidx t h) ((h :: l).map (pidx t))
  | [], h, e => by
    have e : h = none := e
    subst e
    exact .top
  | b :: l, h, e => by
    obtain ⟨x, rfl, hx, rfl, k⟩ := e
    have ih := upsL_pth ok k
    refine .step (bno_lt hx) ?_
    show Pth _ _ (parT t (bno t x)) _
    rw [par_bno ok hx]
    exact ih
theorem upsL_mem {t : Tree} (ok : TreeOk t) : ∀ {l : List (Option Nm)} {h : Option Nm}, UpsL t l h → ∀ a, some a ∈ h :: l → a ∈ tnames t
  | [], h, e, a, q => by
    have e : h = none := e
    subst e
    simp at q
  | b :: l, h, e, a, q => by
    obtain ⟨x, rfl, hx, rfl, k⟩ := e
    rcases List.mem_cons.mp q with q | q
    · cases q
      exact hx
    · exact upsL_mem ok k a q
theorem Pth.pw {n : Nat} {par : Nat → Nat} {a : Nat} {l : List Nat} (h : Pth n par a l) : l.Pairwise (Up n par) := by
  induction h with
  | top => exact List.pairwise_singleton ..
  | @step a l h1 h2 ih => exact List.pairwise_cons.mpr ⟨fun b hb => .step h1 (h2.mem.mp hb), ih⟩
theorem fold_stay {t : Tree} {s : Nm} : ∀ {l : List Deed}, (∀ d ∈ l, d.2 ∈ tnames t) → s ∈ tnames t → (false, s) ∉ l → l.foldl (fpStep t) (bno t s) = bno t s
  | [], _, _, _ => rfl
  | d :: l, h, hs, hn => by
    rw [List.foldl_cons]
    have e : fpStep t (bno t s) d = bno t s := by
      unfold fpStep
      rw [if_neg]
      rintro ⟨e1, e2⟩
      have := bno_inj hs (h d (List.mem_cons_self ..)) e2
      apply hn
      rw [List.mem_cons]
      left
      obtain ⟨d1, d2⟩ := d
      cases e1
      cases this
      rfl
    rw [e]
    exact fold_stay (fun x hx => h x (List.mem_cons_of_mem _ hx)) hs fun q => hn (List.mem_cons_of_mem _ q)
theorem ff_none {ds : List Deed} {s : Nm} {q : Nat} (h : ff ds s q = none) : ∀ i, q < i → ds[i]? ≠ some (false, s) := fun i hi e => by
  unfold ff at h
  rw [List.head?_eq_none_iff] at h
  have : i ∈ fls ds s q := by
    unfold fls
    rw [List.mem_filter, List.mem_range, Bool.and_eq_true, decide_eq_true_eq, decide_eq_true_eq]
    exact ⟨(List.getElem?_eq_some_iff.mp e).1, hi, e⟩
  rw [h] at this
  cases this
theorem ff_first {ds : List Deed} {s : Nm} {q j : Nat} (h : ff ds s q = some j) : ∀ i, q < i → i < j → ds[i]? ≠ some (false, s) := fun i hi hj e => by
  unfold ff at h
  have hm : i ∈ fls ds s q := by
    unfold fls
    rw [List.mem_filter, List.mem_range, Bool.and_eq_true, decide_eq_true_eq, decide_eq_true_eq]
    exact ⟨(List.getElem?_eq_some_iff.mp e).1, hi, e⟩
  have hp : (fls ds s q).Pairwise (· < ·) := List.pairwise_lt_range.sublist List.filter_sublist
  cases e2 : fls ds s q with
  | nil =>
    rw [e2] at hm
    cases hm
  | cons a r =>
    rw [e2] at h hm hp
    cases h
    rcases List.mem_cons.mp hm with e3 | e3
    · omega
    · have := (List.pairwise_cons.mp hp).1 i e3
      omega
theorem mem_seg {ds : List Deed} {q i : Nat} {d : Deed} : d ∈ (ds.take i).drop (q + 1) ↔ ∃ k, q < k ∧ k < i ∧ ds[k]? = some d := by
  constructor
  · intro h
    obtain ⟨k, hk⟩ := List.getElem?_of_mem h
    rw [List.getElem?_drop] at hk
    have h1 := (List.getElem?_eq_some_iff.mp hk).1
    rw [List.length_take] at h1
    rw [List.getElem?_take_of_lt (by omega)] at hk
    exact ⟨q + 1 + k, by omega, by omega, hk⟩
  · rintro ⟨k, h1, h2, e⟩
    refine List.mem_of_getElem? (i := k - (q + 1)) ?_
    have e2 : q + 1 + (k - (q + 1)) = k := by omega
    rw [List.getElem?_drop, e2, List.getElem?_take_of_lt h2]
    exact e
section
variable {t : Tree} {ds : List Deed}
theorem fpFrom_stay (hds : ∀ d ∈ ds, d.2 ∈ tnames t) {s : Nm} (hs : s ∈ tnames t) {q i : Nat} (h : ∀ k, q < k → k < i → ds[k]? ≠ some (false, s)) : fpFrom t ds (bno t s) q i = bno t s := fold_stay (fun d hd => hds d (List.mem_of_mem_take (List.mem_of_mem_drop hd))) hs fun hm => by
  obtain ⟨k, h1, h2, e⟩ := mem_seg.mp hm
  exact h k h1 h2 e
theorem fpFrom_join (p q j : Nat) (hq : q < j) : ∀ i, j ≤ i → i ≤ ds.length → fpFrom t ds p q i = fpFrom t ds (fpFrom t ds p q j) (j - 1) i ∨ j = 0 := fun i => by
  induction i with
  | zero =>
    intro h _
    exact Or.inr (by omega)
  | succ i ih =>
    intro h hi
    by_cases e : j = i + 1
    · left
      rw [fpFrom_low (q := j - 1) (by omega), e]
    · rcases ih (by omega) (by omega) with e2 | e2
      · left
        have hd : ds[i]? = some ds[i] := List.getElem?_eq_getElem (by omega)
        rw [fpFrom_succ (by omega) hd, fpFrom_succ (by omega) hd, e2]
      · exact Or.inr e2
theorem fpFrom_past {i p q : Nat} (h : ds.length ≤ i) : fpFrom t ds p q i = fpFrom t ds p q ds.length := by
  unfold fpFrom
  rw [List.take_of_length_le h, List.take_of_length_le (Nat.le_refl _)]
theorem fpFrom_join2 {p q j : Nat} (hq : q < j) (hj : j < ds.length) {i : Nat} (hi : j < i) : fpFrom t ds p q i = fpFrom t ds (fpFrom t ds p q (j + 1)) j i := by
  by_cases h : i ≤ ds.length
  · rcases fpFrom_join (t := t) (ds := ds) p q (j + 1) (by omega) i (by omega) h with e | e
    · exact e
    · omega
  · rw [fpFrom_past (by omega), fpFrom_past (i := i) (by omega)]
    rcases fpFrom_join (t := t) (ds := ds) p q (j + 1) (by omega) ds.length (by omega) (Nat.le_refl _) with e | e
    · exact e
    · omega
theorem rch_ahead (ok : TreeOk t) (hds : ∀ d ∈ ds, d.2 ∈ tnames t) (m : Option Nm) : ∀ {l : List (Option Nm)} {h : Option Nm}, UpsL t l h → m ∈ h :: l → ∀ q i, aheadM (rch ds m l h (some q)) i = true ↔ q < i ∧ Up t.length (parT t) (pidx t m) (fpFrom t ds (pidx t h) q i)
  | l, h, hu, hm, q, i => by
    have F := forest ok
    by_cases e : h = m
    · subst e
      rw [rch_at]
      show decide (q < i) = true ↔ _
      rw [decide_eq_true_eq]
      exact ⟨fun h1 => ⟨h1, fpFrom_up hds _ _ _⟩, fun h1 => h1.1⟩
    · cases l with
      | nil =>
        have e2 : h = none := hu
        rcases List.mem_cons.mp hm with q | q
        · exact absurd q.symm e
        · cases q
      | cons b l =>
        have hp := upsL_pth ok hu
        have hu2 := hu
        obtain ⟨s, rfl, hs, hb, k⟩ := hu
        have hml : m ∈ b :: l := by
          rcases List.mem_cons.mp hm with q | q
          · exact absurd q.symm e
          · exact q
        have hmn : ∀ a, m = some a → a ∈ tnames t := fun a ea => upsL_mem ok hu2 a (ea ▸ hm)
        have hnot : ¬ Up t.length (parT t) (pidx t m) (bno t s) := fun u => by
          have u2 : Up t.length (parT t) (pidx t (some s)) (pidx t m) := hp.mem.mp (List.mem_map.mpr ⟨m, hm, rfl⟩)
          exact e (pidx_inj (fun a ea => by cases ea; exact hs) hmn (u2.anti F u))
        rw [rch_go e]
        cases ef : ff ds s q with
        | none =>
          rw [rch_none]
          show (false = true) ↔ _
          constructor
          · intro h1
            cases h1
          · rintro ⟨_, h2⟩
            have : fpFrom t ds (pidx t (some s)) q i = bno t s := fpFrom_stay hds hs fun k h1 _ => ff_none ef k h1
            rw [this] at h2
            exact absurd h2 hnot
        | some j =>
          obtain ⟨hj1, hj2⟩ := ff_some ef
          have hjl := (List.getElem?_eq_some_iff.mp hj2).1
          rw [rch_ahead ok hds m k hml j i]
          by_cases hij : j < i
          · have e1 : fpFrom t ds (pidx t (some s)) q j = bno t s := fpFrom_stay hds hs fun k h1 h2 => ff_first ef k h1 h2
            have e2 : fpFrom t ds (pidx t (some s)) q (j + 1) = pidx t b := by
              rw [fpFrom_succ hj1 hj2, e1]
              unfold fpStep
              rw [if_pos ⟨rfl, rfl⟩, par_bno ok hs, hb]
            rw [fpFrom_join2 (q := q) hj1 hjl hij, e2]
            constructor
            · rintro ⟨h1, h2⟩
              exact ⟨by omega, h2⟩
            · rintro ⟨h1, h2⟩
              exact ⟨hij, h2⟩
          · constructor
            · rintro ⟨h1, _⟩
              exact absurd h1 hij
            · rintro ⟨_, h2⟩
              have : fpFrom t ds (pidx t (some s)) q i = bno t s := fpFrom_stay hds hs fun k h1 h3 => ff_first ef k h1 (by omega)
              rw [this] at h2
              exact absurd h2 hnot
theorem met_ahead (ok : TreeOk t) (hF : Fits t ds) {x y : Line} (hx : x ∈ numb ds) (hy : y ∈ numb ds) (ne : x.1 ≠ y.1) : aheadM (metM t ds x.1 (birthOf ds x) y.1) (birthOf ds y) = true ↔ sureP t ds x y := by
  have F := forest ok
  have hxt := hF.line hx
  have hyt := hF.line hy
  have hxl := leaf_up ok (hF.lf _ (List.mem_of_getElem? (birth_at hx)) rfl)
  have hyl := leaf_up ok (hF.lf _ (List.mem_of_getElem? (birth_at hy)) rfl)
  have ux := way_is ok hxt
  have uy := way_is ok hyt
  have px := upsL_pth ok ux
  have py := upsL_pth ok uy
  obtain ⟨r, hr⟩ := meet_is ok hxt hyt
  have hmx := meet_mem ok hxt hyt
  have hmy : meet t x.1 y.1 ∈ way t y.1 := by
    have : meet t x.1 y.1 ∈ meets (way t x.1) (way t y.1) := by rw [hr]; exact List.mem_cons_self ..
    exact of_decide_eq_true (List.mem_filter.mp this).2
  unfold metM
  rw [rch_ahead ok hF.nm _ ux (List.mem_cons_of_mem _ hmx)]
  constructor
  · rintro ⟨h1, h2⟩
    exact ⟨h1, (py.mem.mp (List.mem_map.mpr ⟨_, List.mem_cons_of_mem _ hmy, rfl⟩)).trans h2⟩
  · rintro ⟨h1, h2⟩
    refine ⟨h1, ?_⟩
    have h3 : Up t.length (parT t) (pidx t (some x.1)) (fpFrom t ds (pidx t (some x.1)) (birthOf ds x) (birthOf ds y)) := fpFrom_up hF.nm _ _ _
    have h2' : Up t.length (parT t) (pidx t (some y.1)) (fpFrom t ds (pidx t (some x.1)) (birthOf ds x) (birthOf ds y)) := h2
    generalize fpFrom t ds (pidx t (some x.1)) (birthOf ds x) (birthOf ds y) = p at h3 h2' ⊢
    obtain ⟨c, hc, rfl⟩ := List.mem_map.mp (px.mem.mpr h3)
    obtain ⟨c2, hc2, e2⟩ := List.mem_map.mp (py.mem.mpr h2')
    have e3 : c2 = c := pidx_inj (fun a ea => upsL_mem ok uy a (ea ▸ hc2)) (fun a ea => upsL_mem ok ux a (ea ▸ hc)) e2
    subst e3
    have n1 : c2 ≠ some x.1 := fun e => by
      rw [e] at h2'
      have := hxl.2 _ h2'
      exact ne (bno_inj hxt hyt this.symm)
    have n2 : c2 ≠ some y.1 := fun e => by
      rw [e] at h3
      have := hyl.2 _ h3
      exact ne (bno_inj hxt hyt this)
    have m1 : c2 ∈ way t x.1 := by
      rcases List.mem_cons.mp hc with q | q
      · exact absurd q n1
      · exact q
    have m2 : c2 ∈ way t y.1 := by
      rcases List.mem_cons.mp hc2 with q | q
      · exact absurd q n2
      · exact q
    have m3 : c2 ∈ meets (way t x.1) (way t y.1) := List.mem_filter.mpr ⟨m1, decide_eq_true m2⟩
    have pw : ((meets (way t x.1) (way t y.1)).map (pidx t)).Pairwise (Up t.length (parT t)) := by
      refine px.pw.sublist ?_
      exact (List.filter_sublist.map _).trans (List.sublist_cons_self ..)
    rw [hr] at m3 pw
    rcases List.mem_cons.mp m3 with e | e
    · rw [e]
      exact .refl _
    · rw [List.map_cons, List.pairwise_cons] at pw
      exact pw.1 _ (List.mem_map.mpr ⟨_, e, rfl⟩)
theorem sureM_iff (ok : TreeOk t) (hF : Fits t ds) {x y : Line} (hx : x ∈ numb ds) (hy : y ∈ numb ds) : sureM t ds x y = true ↔ sureP t ds x y := by
  unfold sureM
  by_cases e : x.1 = y.1
  · rw [if_pos e, decide_eq_true_eq, sureP_same hF.nm hx hy e]
  · rw [if_neg e, met_ahead ok hF hx hy e]
theorem hit_iff (ok : TreeOk t) (hF : Fits t ds) {l o : Line} (hl : l ∈ numb ds) (ho : o ∈ numb ds) : hit t ds l o = true ↔ o.1 ≠ l.1 ∧ sureP t ds o l := by
  unfold hit
  rw [Bool.and_eq_true, decide_eq_true_eq]
  constructor
  · rintro ⟨h1, h2⟩
    exact ⟨h1, (met_ahead ok hF ho hl h1).mp h2⟩
  · rintro ⟨h1, h2⟩
    exact ⟨h1, (met_ahead ok hF ho hl h1).mpr h2⟩
end
end DL
set_option maxRecDepth 100000
set_option maxHeartbeats 4000000
/-! the plain law, 6: tables, orders; all that can be is a finite list -/
namespace DL
open PySem PySem.Spec PyProof.Rows L2 SlX
theorem cnt_reach {ds : List Deed} {s : Nm} : ∀ m k, 1 ≤ k → k ≤ cnt (ds.take m) (true, s) → ∃ j, j < m ∧ ds[j]? = some (true, s) ∧ cnt (ds.take (j + 1)) (true, s) = k
  | 0, k, h1, h2 => by
    rw [List.take_zero] at h2
    have : cnt [] (true, s) = 0 := rfl
    omega
  | m + 1, k, h1, h2 => by
    by_cases h : k ≤ cnt (ds.take m) (true, s)
    · obtain ⟨j, h3, h4, h5⟩ := cnt_reach m k h1 h
      exact ⟨j, by omega, h4, h5⟩
    · by_cases hm : m < ds.length
      · have hd : ds[m]? = some ds[m] := List.getElem?_eq_getElem hm
        by_cases e : ds[m] = (true, s)
        · rw [e] at hd
          have := cnt_take_succ hd
          exact ⟨m, by omega, hd, by omega⟩
        · exfalso
          have h3 : cnt (ds.take (m + 1)) (true, s) = cnt (ds.take m) (true, s) := by
            rw [take_snoc hd]
            unfold cnt
            rw [List.filter_append, List.filter_cons, if_neg (by simpa using e)]
            simp
          omega
      · rw [List.take_of_length_le (by omega)] at h2 h
        exact absurd h2 h
theorem numb_seg {ds : List Deed} {s : Nm} {i j : Nat} (h : (s, j) ∈ numb ds) (h1 : 1 ≤ i) (h2 : i ≤ j) : (s, i) ∈ numb ds := by
  obtain ⟨p, hp, e⟩ := mem_numb.mp h
  rw [lnAt_eq hp] at e
  have e2 : cnt (ds.take (p + 1)) (true, s) = j := congrArg Prod.snd e
  obtain ⟨q, _, hq, e3⟩ := cnt_reach (ds := ds) (s := s) (p + 1) i h1 (by omega)
  refine mem_numb.mpr ⟨q, hq, ?_⟩
  rw [lnAt_eq hq, e3]
theorem numb_pos {ds : List Deed} {x : Line} (h : x ∈ numb ds) : 1 ≤ x.2 := by
  obtain ⟨p, hp, e⟩ := mem_numb.mp h
  rw [lnAt_eq hp] at e
  have := cnt_take_succ hp
  rw [← e]
  show 1 ≤ cnt (ds.take (p + 1)) (true, x.1)
  omega
section
variable {t : Tree} {ds : List Deed}
theorem out_lines {ls : List Line} (h : ∀ i l, ls[i]? = some l → l.2 = cS (ls.take i) l.1 + 1) : ∀ i, i ≤ ls.length → ∀ s k, (s, k) ∈ ls.take i ↔ 1 ≤ k ∧ k ≤ cS (ls.take i) s
  | 0, _, s, k => by
    rw [List.take_zero]
    have : cS [] s = 0 := rfl
    constructor
    · intro q
      cases q
    · rintro ⟨h1, h2⟩
      omega
  | i + 1, hi, s, k => by
    have hl : ls[i]? = some ls[i] := List.getElem?_eq_getElem (by omega)
    have hn := h i _ hl
    rw [take_snoc hl, List.mem_append, List.mem_singleton, cS_snoc, out_lines h i (by omega) s k]
    generalize ls[i] = l at hl hn
    obtain ⟨a, m⟩ := l
    simp only at hn ⊢
    by_cases e : a = s
    · subst e
      rw [if_pos rfl]
      constructor
      · rintro (⟨h1, h2⟩ | q)
        · exact ⟨h1, by omega⟩
        · cases q
          exact ⟨by omega, by omega⟩
      · rintro ⟨h1, h2⟩
        by_cases h3 : k ≤ cS (ls.take i) a
        · exact Or.inl ⟨h1, h3⟩
        · right
          have : k = m := by omega
          rw [this]
    · rw [if_neg e]
      constructor
      · rintro (q | q)
        · exact ⟨q.1, by omega⟩
        · cases q
          exact absurd rfl e
      · rintro ⟨h1, h2⟩
        exact Or.inl ⟨h1, by omega⟩
theorem idx_take {ls : List Line} {x : Line} (hx : x ∈ ls) {i : Nat} : ls.idxOf x < i ↔ x ∈ ls.take i := by
  have hl := List.idxOf_lt_length_iff.mpr hx
  constructor
  · intro h
    have : (ls.take i)[ls.idxOf x]? = some x := by rw [List.getElem?_take_of_lt h, List.getElem?_eq_getElem hl, List.getElem_idxOf]
    exact List.mem_of_getElem? this
  · intro h
    have h2 := List.idxOf_lt_length_iff.mpr h
    have e : ls = ls.take i ++ ls.drop i := (List.take_append_drop ..).symm
    have e2 : ls.idxOf x = (ls.take i).idxOf x := by
      conv => lhs; rw [e]
      rw [List.idxOf_append, if_pos h]
    rw [List.length_take] at h2
    omega
theorem idx_at {ls : List Line} (hn : ls.Nodup) {i : Nat} {l : Line} (h : ls[i]? = some l) : ls.idxOf l = i := by
  obtain ⟨h1, h2⟩ := List.getElem?_eq_some_iff.mp h
  rw [← h2]
  exact hn.idxOf_getElem i h1
theorem cU_mem (ok : TreeOk t) (hF : Fits t ds) {l : Line} (hl : l ∈ numb ds) {s : Nm} (hs : s ≠ l.1) {k : Nat} (hk : (s, k) ∈ numb ds) : sureP t ds (s, k) l ↔ k ≤ cU t ds l (lns ds) s := by
  have hhit : ∀ o, o ∈ (lns ds).filter (fun o => decide (o.1 = s) && hit t ds l o) ↔ o ∈ numb ds ∧ o.1 = s ∧ sureP t ds o l := fun o => by
    rw [List.mem_filter, mem_lns, Bool.and_eq_true, decide_eq_true_eq]
    constructor
    · rintro ⟨h1, h2, h3⟩
      exact ⟨h1, h2, ((hit_iff ok hF hl h1).mp h3).2⟩
    · rintro ⟨h1, h2, h3⟩
      exact ⟨h1, h2, (hit_iff ok hF hl h1).mpr ⟨by rw [h2]; exact hs, h3⟩⟩
  have down : ∀ i j, 1 ≤ i → i ≤ j → (s, j) ∈ numb ds → sureP t ds (s, j) l → sureP t ds (s, i) l := fun i j h1 h2 h3 h4 => by
    by_cases e : i = j
    · rw [e]
      exact h4
    · exact sureP_trans ok hF.nm h3 ((sureP_same hF.nm (numb_seg h3 h1 h2) h3 rfl).mpr (by show i < j; omega)) h4
  have hnd : ((lns ds).filter (fun o => decide (o.1 = s) && hit t ds l o)).Nodup := nodup_filter _ (lns_nodup ds)
  constructor
  · intro h
    unfold cU
    have hle := len_le_of (l := (List.range k).map fun i => ((s, i + 1) : Line)) (m := (lns ds).filter (fun o => decide (o.1 = s) && hit t ds l o)) (nodup_map_inj (fun a _ b _ e => by
      have := congrArg Prod.snd e
      simp at this
      exact this) List.nodup_range) fun x hx => by
        obtain ⟨i, hi, rfl⟩ := List.mem_map.mp hx
        rw [List.mem_range] at hi
        exact (hhit _).mpr ⟨numb_seg hk (by omega) (by omega), rfl, down (i + 1) k (by omega) (by omega) hk h⟩
    rw [List.length_map, List.length_range] at hle
    exact hle
  · intro h
    refine Classical.byContradiction fun hn => ?_
    have hle := len_le_of (l := (lns ds).filter (fun o => decide (o.1 = s) && hit t ds l o)) (m := (List.range (k - 1)).map fun i => ((s, i + 1) : Line)) hnd fun x hx => by
      obtain ⟨h1, h2, h3⟩ := (hhit x).mp hx
      obtain ⟨a, m⟩ := x
      simp only at h2
      subst h2
      have hp := numb_pos h1
      have : m < k := by
        refine Classical.byContradiction fun q => ?_
        exact hn (down k m (numb_pos hk) (by omega) h1 h3)
      simp only at hp
      exact List.mem_map.mpr ⟨m - 1, List.mem_range.mpr (by omega), by rw [Nat.sub_add_cancel hp]⟩
    rw [List.length_map, List.length_range] at hle
    unfold cU at h
    have := numb_pos hk
    simp only at this
    omega
theorem cU_self (l : Line) : cU t ds l (lns ds) l.1 = 0 := by
  unfold cU
  rw [List.length_eq_zero_iff, List.filter_eq_nil_iff]
  intro o _
  unfold hit
  by_cases e : o.1 = l.1
  · simp [e]
  · simp [e]
theorem out_resp (ok : TreeOk t) (hF : Fits t ds) {ls : List Line} : OutL t ds ls ↔ Resp t ds ls := by
  constructor
  · rintro ⟨hp, hN⟩
    have hlines := out_lines fun i l h => (hN i l h).1
    have hn : ls.Nodup := hp.nodup_iff.mpr (numb_nodup ds)
    refine ⟨hp, fun x hx y hy hs => ?_⟩
    have hxl := hp.mem_iff.mpr hx
    have hyl := hp.mem_iff.mpr hy
    obtain ⟨i, hi⟩ := List.getElem?_of_mem hyl
    obtain ⟨n1, n2⟩ := hN i y hi
    have hil := (List.getElem?_eq_some_iff.mp hi).1
    refine ord_sub hxl hyl ?_
    rw [idx_at hn hi, idx_take hxl]
    obtain ⟨a, k⟩ := x
    rw [hlines i (by omega) a k]
    have hk := numb_pos hx
    simp only at hk
    refine ⟨hk, ?_⟩
    by_cases e : a = y.1
    · have h1 := (sureP_same hF.nm hx hy e).mp hs
      simp only at h1
      rw [e]
      omega
    · have h1 := (cU_mem ok hF hy e hx).mp hs
      have := n2 a
      omega
  · rintro ⟨hp, hsr⟩
    have hn : ls.Nodup := hp.nodup_iff.mpr (numb_nodup ds)
    refine ⟨hp, fun i l hi => ?_⟩
    have hl : l ∈ numb ds := hp.mem_iff.mp (List.mem_of_getElem? hi)
    have hbef : ∀ o, o ∈ numb ds → sureP t ds o l → o ∈ ls.take i := fun o ho h => by
      have h1 := sub_ord hn (hsr o ho l hl h)
      rw [idx_at hn hi] at h1
      exact (idx_take (hp.mem_iff.mpr ho)).mp h1
    have htk : (ls.take i).Nodup := hn.sublist (List.take_sublist ..)
    have htm : ∀ o ∈ ls.take i, o ∈ numb ds := fun o ho => hp.mem_iff.mp (List.mem_of_mem_take ho)
    refine ⟨?_, fun s => ?_⟩
    · have hpm : ((ls.take i).filter fun o => decide (o.1 = l.1)).Perm ((List.range (l.2 - 1)).map fun i => ((l.1, i + 1) : Line)) := by
        rw [List.perm_ext_iff_of_nodup (nodup_filter _ htk) (nodup_map_inj (fun a _ b _ e => by
          have := congrArg Prod.snd e
          simp at this
          exact this) List.nodup_range)]
        intro o
        rw [List.mem_filter, decide_eq_true_eq, List.mem_map]
        constructor
        · rintro ⟨h1, h2⟩
          have ho := htm o h1
          have hop := numb_pos ho
          have hlt : o.2 < l.2 := by
            rcases Nat.lt_trichotomy o.2 l.2 with q | q | q
            · exact q
            · exfalso
              have : o = l := Prod.ext h2 q
              rw [this] at h1
              have := (idx_take (List.mem_of_getElem? hi)).mpr h1
              rw [idx_at hn hi] at this
              omega
            · exfalso
              have h3 := sub_ord hn (hsr l hl o ho ((sureP_same hF.nm hl ho h2.symm).mpr q))
              rw [idx_at hn hi] at h3
              have := (idx_take (List.mem_of_mem_take h1)).mpr h1
              omega
          refine ⟨o.2 - 1, List.mem_range.mpr (by omega), ?_⟩
          rw [Nat.sub_add_cancel hop, ← h2]
        · rintro ⟨j, hj, rfl⟩
          rw [List.mem_range] at hj
          have hm : ((l.1, j + 1) : Line) ∈ numb ds := numb_seg (j := l.2) hl (by omega) (by omega)
          exact ⟨hbef _ hm ((sureP_same hF.nm hm hl rfl).mpr (by show j + 1 < l.2; omega)), rfl⟩
      have hle := hpm.length_eq
      rw [List.length_map, List.length_range] at hle
      have := numb_pos hl
      unfold cS
      omega
    · by_cases e : s = l.1
      · rw [e, cU_self]
        omega
      · unfold cU cS
        refine len_le_of (nodup_filter _ (lns_nodup ds)) fun o ho => ?_
        rw [List.mem_filter, Bool.and_eq_true, decide_eq_true_eq, mem_lns] at ho
        exact List.mem_filter.mpr ⟨hbef o ho.1 ((hit_iff ok hF hl ho.1).mp ho.2.2).2, decide_eq_true ho.2.1⟩
/-! ### orders -/
theorem numb_ord {x y : Line} (hx : x ∈ numb ds) (hy : y ∈ numb ds) (h : birthOf ds x < birthOf ds y) : [x, y].Sublist (numb ds) := by
  have hp : (numb ds).Pairwise fun u v => birthOf ds u < birthOf ds v := by
    unfold numb
    rw [List.pairwise_map]
    have h1 : (wr ds).Pairwise (· < ·) := List.pairwise_lt_range.sublist List.filter_sublist
    refine h1.imp_of_mem fun ha hb hab => ?_
    rw [birthOf_eq ha, birthOf_eq hb]
    exact hab
  refine ord_sub hx hy ?_
  rcases Nat.lt_trichotomy ((numb ds).idxOf x) ((numb ds).idxOf y) with q | q | q
  · exact q
  · exfalso
    have h1 := List.getElem_idxOf (List.idxOf_lt_length_iff.mpr hx)
    have h2 := List.getElem_idxOf (List.idxOf_lt_length_iff.mpr hy)
    have : x = y := by
      rw [← h1, ← h2]
      simp only [q]
    rw [this] at h
    omega
  · exfalso
    have h1 := hp.sublist (ord_sub hy hx q)
    have := (List.pairwise_cons.mp h1).1 x (List.mem_cons_self ..)
    omega
theorem resp_numb : Resp t ds (numb ds) := ⟨.refl _, fun x hx y hy h => numb_ord hx hy h.1⟩
open Classical in
/-- what is not sure can be otherwise -/
theorem lin_ex (ok : TreeOk t) (hF : Fits t ds) {x y : Line} (hx : x ∈ numb ds) (hy : y ∈ numb ds) (ne : x ≠ y) (hn : ¬ sureP t ds x y) : ∃ o, Resp t ds o ∧ [y, x].Sublist o := by
  let D : Line → Bool := fun z => decide (z = y ∨ sureP t ds z y)
  have dy : D y = true := decide_eq_true (Or.inl rfl)
  have dx : D x = false := decide_eq_false fun q => q.elim ne hn
  refine ⟨(numb ds).filter D ++ (numb ds).filter (fun z => !D z), ⟨List.filter_append_perm _ _, fun u hu v hv h => ?_⟩, ?_⟩
  · have h1 := numb_ord hu hv h.1
    by_cases du : D u = true
    · by_cases dv : D v = true
      · have h2 := h1.filter D
        rw [List.filter_cons, if_pos du, List.filter_cons, if_pos dv] at h2
        exact h2.trans (List.sublist_append_left ..)
      · have h2 : u ∈ (numb ds).filter D := List.mem_filter.mpr ⟨hu, du⟩
        have h3 : v ∈ (numb ds).filter (fun z => !D z) := List.mem_filter.mpr ⟨hv, by simpa using dv⟩
        exact (List.singleton_sublist.mpr h2).append (List.singleton_sublist.mpr h3)
    · by_cases dv : D v = true
      · exfalso
        refine du (decide_eq_true (Or.inr ?_))
        rcases of_decide_eq_true dv with e | e
        · rw [← e]
          exact h
        · exact sureP_trans ok hF.nm hv h e
      · have h2 := h1.filter (fun z => !D z)
        have d1 : (!D u) = true := by simpa using du
        have d2 : (!D v) = true := by simpa using dv
        rw [List.filter_cons, if_pos d1, List.filter_cons, if_pos d2] at h2
        exact h2.trans (List.sublist_append_right ..)
  · have h2 : y ∈ (numb ds).filter D := List.mem_filter.mpr ⟨hy, dy⟩
    have h3 : x ∈ (numb ds).filter (fun z => !D z) := List.mem_filter.mpr ⟨hx, by rw [dx]; rfl⟩
    exact (List.singleton_sublist.mpr h2).append (List.singleton_sublist.mpr h3)
theorem sure_all (ok : TreeOk t) (hF : Fits t ds) {x y : Line} (hx : x ∈ numb ds) (hy : y ∈ numb ds) : sureM t ds x y = true ↔ x ≠ y ∧ ∀ o, Resp t ds o → ¬ o.idxOf y < o.idxOf x := by
  rw [sureM_iff ok hF hx hy]
  constructor
  · intro h
    refine ⟨fun e => ?_, fun o ho q => ?_⟩
    · have := h.1
      rw [e] at this
      omega
    · have := sub_ord (ho.perm.nodup_iff.mpr (numb_nodup ds)) (ho.sr x hx y hy h)
      omega
  · rintro ⟨ne, h⟩
    refine Classical.byContradiction fun hn => ?_
    obtain ⟨o, ho, hs⟩ := lin_ex ok hF hx hy ne hn
    exact h o ho (sub_ord (ho.perm.nodup_iff.mpr (numb_nodup ds)) hs)
end
/-! ### tables -/
theorem table_iff {t : Tree} {a b : List Deed} : tableM t a = tableM t b ↔ lns a = lns b ∧ ∀ l ∈ lns a, ∀ s, cU t a l (lns a) s = cU t b l (lns b) s := by
  constructor
  · intro h
    have h1 : lns a = lns b := by
      have := congrArg (List.map Prod.fst) h
      unfold tableM at this
      rw [List.map_map, List.map_map] at this
      have e : ∀ (d : List Deed), (lns d).map (Prod.fst ∘ fun l => (l, rowM t d l)) = lns d := fun d => List.map_id' _
      rw [e, e] at this
      exact this
    refine ⟨h1, fun l hl s => ?_⟩
    have hr : rowM t a l = rowM t b l := by
      unfold tableM at h
      rw [← h1] at h
      have := List.map_inj_left.mp h l hl
      exact congrArg Prod.snd this
    have key : ∀ c d : List Deed, rowM t c l = rowM t d l → 0 < cU t c l (lns c) s → cU t c l (lns c) s = cU t d l (lns d) s := fun c d e hp => by
      have : (s, cU t c l (lns c) s) ∈ rowM t c l := mem_rowM.mpr ⟨hp, rfl⟩
      rw [e] at this
      exact (mem_rowM.mp this).2
    by_cases h2 : 0 < cU t a l (lns a) s
    · exact key a b hr h2
    · by_cases h3 : 0 < cU t b l (lns b) s
      · exact (key b a hr.symm h3).symm
      · omega
  · rintro ⟨h1, h2⟩
    unfold tableM
    rw [← h1]
    apply List.map_congr_left
    intro l hl
    have : rowM t a l = rowM t b l := by
      have hnd : ∀ c : List Deed, (((strms c).filter fun s => decide (0 < cU t c l (lns c) s)).map fun s => ((s, cU t c l (lns c) s) : Line)).Nodup := fun c => nodup_map_inj (fun x _ y _ e => congrArg Prod.fst e) (nodup_filter _ (strms_nodup c))
      have hmm : ∀ (c : List Deed) p, p ∈ (((strms c).filter fun s => decide (0 < cU t c l (lns c) s)).map fun s => ((s, cU t c l (lns c) s) : Line)) ↔ p ∈ rowM t c l := fun c p => (List.mergeSort_perm _ _).mem_iff.symm
      unfold rowM
      rw [sorted_iff, List.perm_ext_iff_of_nodup (hnd a) (hnd b)]
      intro p
      rw [hmm a, hmm b, mem_rowM, mem_rowM, h2 l hl]
    rw [this]
theorem alike_iff {t : Tree} (ok : TreeOk t) {a b : List Deed} (ha : Fits t a) (hb : Fits t b) : tableM t a = tableM t b ↔ ∀ o, Resp t a o ↔ Resp t b o := by
  rw [table_iff]
  constructor
  · rintro ⟨h1, h2⟩ o
    have hp : (numb a).Perm (numb b) := ((List.mergeSort_perm (numb a) lineLe).symm.trans (by
      have : (numb a).mergeSort lineLe = (numb b).mergeSort lineLe := h1
      rw [this])).trans (List.mergeSort_perm (numb b) lineLe)
    rw [← out_resp ok ha, ← out_resp ok hb]
    have hl : ∀ l, l ∈ o → o.Perm (numb a) → ∀ s, cU t a l (lns a) s = cU t b l (lns b) s := fun l hl hpo => h2 l (mem_lns.mpr (hpo.mem_iff.mp hl))
    constructor
    · rintro ⟨q1, q2⟩
      exact ⟨q1.trans hp, fun i l hi => ⟨(q2 i l hi).1, fun s => by rw [← hl l (List.mem_of_getElem? hi) q1]; exact (q2 i l hi).2 s⟩⟩
    · rintro ⟨q1, q2⟩
      exact ⟨q1.trans hp.symm, fun i l hi => ⟨(q2 i l hi).1, fun s => by rw [hl l (List.mem_of_getElem? hi) (q1.trans hp.symm)]; exact (q2 i l hi).2 s⟩⟩
  · intro h
    have hp : (numb a).Perm (numb b) := ((h _).mp resp_numb).perm
    have h1 : lns a = lns b := sorted_iff.mpr hp
    refine ⟨h1, fun l hl s => ?_⟩
    unfold cU
    rw [← h1]
    congr 1
    apply List.filter_congr
    intro o ho
    have hl2 := mem_lns.mp hl
    have ho2 := mem_lns.mp ho
    have hl3 := hp.mem_iff.mp hl2
    have ho3 := hp.mem_iff.mp ho2
    have key : hit t a l o = hit t b l o := by
      rw [Bool.eq_iff_iff, hit_iff ok ha hl2 ho2, hit_iff ok hb hl3 ho3, ← sureM_iff ok ha ho2 hl2, ← sureM_iff ok hb ho3 hl3, sure_all ok ha ho2 hl2, sure_all ok hb ho3 hl3]
      constructor
      · rintro ⟨q1, q2, q3⟩
        exact ⟨q1, q2, fun o ho => q3 o ((h o).mpr ho)⟩
      · rintro ⟨q1, q2, q3⟩
        exact ⟨q1, q2, fun o ho => q3 o ((h o).mp ho)⟩
    rw [key]
end DL
set_option maxRecDepth 100000
set_option maxHeartbeats 4000000
/-! the plain law, 7: all that can be is a finite list -/
namespace DL
open PySem PySem.Spec PyProof.Rows L2 SlX
inductive Rch (sps : List Nat) (S : List State) : State → Prop
  | base {q : State} : q ∈ S → Rch sps S q
  | step {q r : State} : Rch sps S q → r ∈ mvs sps q → Rch sps S r
theorem sort_pw {α : Type} (f : α → D) (l : List α) : ((l.mergeSort (PySem.W.dataLe false f)).map f).Pairwise fun a b => PySem.W.dataLe false id a b = true := by
  rw [List.pairwise_map]
  exact List.pairwise_mergeSort (le := PySem.W.dataLe false f) (fun a b c h1 h2 => le_trans (f a) (f b) (f c) h1 h2) (fun a b => le_tot (f a) (f b)) l
section
variable {t : Tree} {ds : List Deed}
open Classical in
theorem flow_ex (ok : TreeOk t) (ht : t.length ≤ 4) {ls : List Line} (hl : ls.length ≤ 4) {S : List State} (hS : ∀ q ∈ S, q.length = t.length + 1 ∧ q.flatten.Perm ls) (hSl : S.length ≤ 160000) : ∃ fs, Flow (spots t) S fs ∧ fs.length ≤ 160000 := by
  have F := forest ok
  have inv : ∀ q, Rch (spots t) S q → q.length = t.length + 1 ∧ q.flatten.Perm ls := fun q h => by
    induction h with
    | base h => exact hS _ h
    | step _ hr ih =>
      obtain ⟨k, hk, _, rfl⟩ := mem_mvs.mp hr
      exact ⟨by rw [upA_len]; exact ih.1, (upA_perm (by omega) (by have := F.le k hk; omega) (F.ne hk)).trans ih.2⟩
  have hall : ∀ q, Rch (spots t) S q → q ∈ allQ t.length 3 ls := fun q h => mem_allQ (inv q h).1 (by omega) (inv q h).2
  have hsize : (allQ t.length 3 ls).length ≤ 160000 := by
    rw [allQ_len]
    have h1 : ((t.length + 1) * (3 + 1)) ^ ls.length ≤ 20 ^ ls.length := Nat.pow_le_pow_left (by omega) _
    have h2 : 20 ^ ls.length ≤ 20 ^ 4 := Nat.pow_le_pow_right (by omega) hl
    omega
  let fs0 := (ddp (allQ t.length 3 ls)).filter fun q => decide (Rch (spots t) S q)
  let fs := fs0.mergeSort (PySem.W.dataLe false qsD)
  have hp : fs.Perm fs0 := List.mergeSort_perm ..
  have hm : ∀ q, q ∈ fs ↔ Rch (spots t) S q := fun q => by
    rw [hp.mem_iff, List.mem_filter, mem_ddp, decide_eq_true_eq]
    exact ⟨fun h => h.2, fun h => ⟨hall q h, h⟩⟩
  have hn : fs.Nodup := hp.nodup_iff.mpr (nodup_filter _ (ddp_nodup _))
  have hlen : fs.length ≤ 160000 := Nat.le_trans (len_le_of hn fun q hq => hall q ((hm q).mp hq)) hsize
  refine ⟨fs, ⟨fun q hq => (hm q).mpr (.base hq), fun q hq r hr => (hm r).mpr (.step ((hm q).mp hq) hr), hn, sort_pw qsD fs0, fun S2 h1 h2 q hq => ?_, fun q hq => ?_, ?_, by rw [spots_len]; omega⟩, hlen⟩
  · have h := (hm q).mp hq
    induction h with
    | base h => exact h1 _ h
    | step h hr ih => exact h2 _ (ih ((hm _).mpr h)) _ hr
  · obtain ⟨i1, i2⟩ := inv q ((hm q).mp hq)
    rw [spots_len]
    refine ⟨i1, fun l hl2 => ?_⟩
    have h1 := (List.sublist_flatten_of_mem hl2).length_le
    have h2 := i2.length_eq
    omega
  · rw [spots_len]
    have : fs.length * (t.length + 1) ≤ 160000 * 5 := Nat.mul_le_mul hlen (by omega)
    omega
open Classical in
noncomputable def flowOf (sps : List Nat) (S : List State) : List State := if h : ∃ fs, Flow sps S fs ∧ fs.length ≤ 160000 then h.choose else []
noncomputable def SsOf (t : Tree) (ds : List Deed) : Nat → List State
  | 0 => [List.replicate (t.length + 1) []]
  | i + 1 => (flowOf (spots t) (SsOf t ds i)).map (stepS t ds i)
noncomputable def FsOf (t : Tree) (ds : List Deed) (i : Nat) : List State := flowOf (spots t) (SsOf t ds i)
theorem born_len (o : List Line) (i : Nat) : (bornL ds o i).length ≤ o.length := List.length_filter_le ..
theorem stage_ex (ok : TreeOk t) (ht : t.length ≤ 4) (hF : Fits t ds) (hn : (numb ds).length ≤ 4) : ∀ i, i ≤ ds.length → ((∀ q ∈ SsOf t ds i, Inv4 t ds i q) ∧ (SsOf t ds i).length ≤ 160000) ∧ Flow (spots t) (SsOf t ds i) (FsOf t ds i) ∧ (FsOf t ds i).length ≤ 160000 := fun i => by
  have fl : ∀ i, ((∀ q ∈ SsOf t ds i, Inv4 t ds i q) ∧ (SsOf t ds i).length ≤ 160000) → Flow (spots t) (SsOf t ds i) (FsOf t ds i) ∧ (FsOf t ds i).length ≤ 160000 := fun i h => by
    have hb := born_len (ds := ds) (numb ds) i
    have hex := flow_ex ok ht (ls := bornL ds (numb ds) i) (S := SsOf t ds i) (by omega) (fun q hq => ⟨(h.1 q hq).len, (h.1 q hq).perm⟩) h.2
    unfold FsOf flowOf
    rw [dif_pos hex]
    exact hex.choose_spec
  induction i with
  | zero =>
    intro _
    have h0 : (∀ q ∈ SsOf t ds 0, Inv4 t ds 0 q) ∧ (SsOf t ds 0).length ≤ 160000 := ⟨fun q hq => by
      rw [List.mem_singleton.mp hq]
      exact inv4_zero, by show 1 ≤ 160000; omega⟩
    exact ⟨h0, fl 0 h0⟩
  | succ i ih =>
    intro hi
    obtain ⟨⟨i1, i2⟩, f1, f2⟩ := ih (by omega)
    have hFI : ∀ q ∈ FsOf t ds i, Inv4 t ds i q := flow_ind f1 i1 fun q hq r hr => by
      obtain ⟨k, hk, _, rfl⟩ := mem_mvs.mp hr
      exact inv4_up ok hF hk hq
    have h0 : (∀ q ∈ SsOf t ds (i + 1), Inv4 t ds (i + 1) q) ∧ (SsOf t ds (i + 1)).length ≤ 160000 := ⟨fun q hq => by
      obtain ⟨r, hr, rfl⟩ := List.mem_map.mp hq
      exact inv4_step ok hF (by omega) (hFI r hr), by
      show ((FsOf t ds i).map (stepS t ds i)).length ≤ 160000
      rw [List.length_map]
      exact f2⟩
    exact ⟨h0, fl _ h0⟩
theorem deep_ex (ok : TreeOk t) (ht : t.length ≤ 4) (hF : Fits t ds) (hn : (numb ds).length ≤ 4) : Deep t ds (SsOf t ds) (FsOf t ds) := ⟨rfl, fun i hi => (stage_ex ok ht hF hn i hi).2.1, fun _ _ => rfl⟩
/-- os are the outputs, sorted -/
structure IsOuts (t : Tree) (ds : List Deed) (os : List (List Line)) : Prop where
  nd : os.Nodup
  mem : ∀ o, o ∈ os ↔ Resp t ds o
  so : (os.map linesD).Pairwise fun a b => PySem.W.dataLe false id a b = true
theorem outs_ex (ok : TreeOk t) (ht : t.length ≤ 4) (h1 : 1 ≤ t.length) (hF : Fits t ds) (hn : (numb ds).length ≤ 4) : ∃ Ss Fs os, DeepOk t ds Ss Fs os ∧ IsOuts t ds os := by
  have hD := deep_ex ok ht hF hn
  let os := (outsF ds (FsOf t ds ds.length)).mergeSort (PySem.W.dataLe false linesD)
  have hp : os.Perm (outsF ds (FsOf t ds ds.length)) := List.mergeSort_perm ..
  have hnd : os.Nodup := hp.nodup_iff.mpr (outs_nodup ok hF hD)
  have hm : ∀ o, o ∈ os ↔ Resp t ds o := fun o => by rw [hp.mem_iff, mem_outs ok hF hD]
  have hso := sort_pw linesD (outsF ds (FsOf t ds ds.length))
  refine ⟨SsOf t ds, FsOf t ds, os, ⟨ok, hF.nm, h1, hF.len, hD, hp.symm, hso, fun i q hi hq l hl => ?_, fun h0 => ?_⟩, ⟨hnd, hm, hso⟩⟩
  · have I := (deep_inv ok hF hD i hi).2 q hq
    have h2 := (List.sublist_flatten_of_mem hl).length_le
    have h3 := I.perm.length_eq
    have h4 := born_len (ds := ds) (numb ds) i
    omega
  · have h2 : ∀ o ∈ os, o = [] := fun o ho => by
      have := ((hm o).mp ho).perm
      rw [h0] at this
      exact List.perm_nil.mp this
    have := len_le_of (m := [[]]) hnd fun o ho => by rw [h2 o ho]; exact List.mem_singleton.mpr rfl
    exact this
theorem alike_lls (l : List (List Line)) : PySem.W.AllAlike (l.map linesD) := PySem.W.AllAlike.of (enc := linesD) (bs := l) fun a b => by
  show PySem.W.alike (.tuple (a.map lineD)) (.tuple (b.map lineD)) = true
  rw [PySem.W.alike]
  exact alikeL a b
theorem outs_eq {a b : List Deed} {os os' : List (List Line)} (h : IsOuts t a os) (h' : IsOuts t b os') : os = os' ↔ ∀ o, Resp t a o ↔ Resp t b o := by
  constructor
  · intro e o
    rw [← h.mem, ← h'.mem, e]
  · intro k
    have hp : os.Perm os' := (List.perm_ext_iff_of_nodup h.nd h'.nd).mpr fun o => by rw [h.mem, h'.mem, k]
    have e : os.map linesD = os'.map linesD := by
      have ki := keyInj_enc (enc_lines (n := 0)) (alike_lls os)
      have := sort_uniq ki (hp.map linesD) h'.so
      have h2 := sort_uniq ki (.refl _) h.so
      rw [← h2, this]
    exact List.map_inj_right (fun x y q => (enc_lines (n := 0)).inj x y q) |>.mp e
theorem outs_ne {os : List (List Line)} (h : IsOuts t ds os) : os ≠ [] := fun e => by
  have := (h.mem _).mpr (resp_numb (t := t) (ds := ds))
  rw [e] at this
  cases this
end
end DL
set_option maxRecDepth 100000
set_option maxHeartbeats 4000000
/-! walks, 27: _law_case_right -/
namespace DL
open PySem PySem.Spec PyProof.Rows L2 SlX
theorem ew_andF {C : Addr} {X : Cx} {a b : Expr} {rest : List Expr} {ρ : List Sl} {pos : Pos} {k : Bool} (ha : EvT C X a ρ k) (hb : k = true → EvW C X (.BoolOp .And (b :: rest) pos) ρ false) : EvW C X (.BoolOp .And (a :: b :: rest) pos) ρ false := by
  have h := ew_and (m := false) ha hb
  rw [Bool.and_false] at h
  exact h
theorem askLine_of {d : D} (h : OkD 64 d) (k : ∀ xs, d = .tuple xs → ∀ x ∈ xs, ∀ s, x = .str s → s.length ≤ 100) : AskLine d := ⟨h, k⟩
theorem askLine_line (l : Line) : AskLine (lineD l) := askLine_of ((enc_line (n := 0)).ok l).mono fun xs e x hx s es => by
  cases e
  subst es
  rcases List.mem_cons.mp hx with q | q
  · cases q
    have := name_len l.1.2
    omega
  · simp at q
theorem askOut_tup {xs : List D} (h : ∀ x ∈ xs, OkD 19 x) (hl : xs.length ≤ 1000) (k : ∀ x ∈ xs, AskLine x) : AskOut (.tuple xs) := ⟨okD_tup.mpr h, fun ys e => by cases e; exact ⟨hl, k⟩⟩
theorem askOut_lines {ls : List Line} (hl : ls.length ≤ 1000) : AskOut (linesD ls) := askOut_tup (fun x hx => by
  obtain ⟨l, _, rfl⟩ := List.mem_map.mp hx
  exact ((enc_line (n := 0)).ok l).mono) (by rw [List.length_map]; exact hl) fun x hx => by
  obtain ⟨l, _, rfl⟩ := List.mem_map.mp hx
  exact askLine_line l
theorem askOut_else {d : D} (h : OkD 20 d) (k : ∀ xs, d ≠ .tuple xs) : AskOut d := ⟨h, fun xs e => absurd e (k xs)⟩
theorem firstAt_line {ls : List Line} {a : Line} (h : a ∈ ls) : FirstAt (lineD a) (ls.map lineD) (ls.idxOf a) := by
  have hl := List.idxOf_lt_length_iff.mpr h
  refine ⟨⟨lineD a, ?_, ((enc_line (n := 0)).eqv a a).trans (decide_eq_true rfl)⟩, fun m z hm hz => ?_⟩
  · rw [List.getElem?_map, List.getElem?_eq_getElem hl, List.getElem_idxOf hl]
    rfl
  · obtain ⟨b, hb, rfl⟩ := Option.map_eq_some_iff.mp (by rw [← List.getElem?_map]; exact hz)
    rw [(enc_line (n := 0)).eqv]
    refine decide_eq_false fun e => ?_
    subst e
    obtain ⟨h1, h2⟩ := List.getElem?_eq_some_iff.mp hb
    have := List.not_of_lt_findIdx (p := (· == b)) (xs := ls) (i := m) hm
    rw [h2] at this
    simp at this
open Classical in
/-- a test of lines, on data -/
noncomputable def liftL (p : List Line → Bool) (d : D) : Bool := if h : ∃ ls, d = linesD ls then p h.choose else false
theorem liftL_eq (p : List Line → Bool) (ls : List Line) : liftL p (linesD ls) = p ls := by
  have h : ∃ l', linesD ls = linesD l' := ⟨ls, rfl⟩
  unfold liftL
  rw [dif_pos h, (enc_lines (n := 0)).inj _ _ h.choose_spec.symm]
theorem liftL_filter (p : List Line → Bool) (os : List (List Line)) : (os.map linesD).filter (liftL p) = (os.filter p).map linesD := by
  rw [List.filter_map]
  congr 1
  exact List.filter_congr fun o _ => liftL_eq p o
/-- a case of the law -/
structure CaseOk (t : Tree) (ds : List Deed) : Prop where
  tr : TreeOk t
  t4 : t.length ≤ 4
  t1 : 1 ≤ t.length
  ft : Fits t ds
  n4 : (numb ds).length ≤ 4
def zzN : Nm := ⟨"zz", by decide +kernel⟩
def zzL : Line := (zzN, 1)
def bentF (d : D) : D := if PyData.eqv (dAt d 1) (.int 1) = true then .tuple [dAt d 0, .bool true] else d
def oddsA (o : List Line) : List D := [.list (o.map lineD), .tuple (o.map lineD ++ [lineD zzL]), .tuple (cutD (o.map lineD) none (some (-1)) ++ [lineD zzL]), .tuple (o.map lineD ++ cutD (o.map lineD) (some (-1)) none),
  .none, .int 5, .bool true, .str "a", .tuple [linesD o]]
def oddsB (o : List Line) : List D := [.tuple ((o.map lineD).map fun d => .list (itemsOf d)), .tuple (cutD (o.map lineD) none (some (-1)) ++ [.none]), .tuple (cutD (o.map lineD) (some 1) none), .tuple (cutD (o.map lineD) none (some (-1)) ++ cutD (o.map lineD) none (some 1))]
section
variable {t : Tree} {ds : List Deed}
theorem outP_iff (h : CaseOk t ds) (ls : List Line) : outP t ds (linesD ls) ↔ Resp t ds ls := by
  rw [← out_resp h.tr h.ft]
  constructor
  · rintro ⟨l2, e, _, k⟩
    rw [linesD_inj e]
    exact k
  · intro k
    exact ⟨ls, rfl, fun l hl => numb_pos (k.1.mem_iff.mp hl), k⟩
theorem cut_last {α : Type} (xs : List α) : cutD xs (some (-1)) none = xs.drop (xs.length - 1) := by
  unfold cutD
  have e1 : HT.sIx xs.length 0 (some (-1)) = xs.length - 1 := by
    unfold HT.sIx
    simp
    omega
  have e2 : HT.sIx xs.length xs.length none = xs.length := rfl
  rw [e1, e2, List.take_of_length_le (by rw [List.length_drop]; omega)]
theorem lines_cut_init (o : List Line) : cutD (o.map lineD) none (some (-1)) = (o.take (o.length - 1)).map lineD := by
  rw [cut_init, List.length_map, List.map_take]
theorem lines_cut_last (o : List Line) : cutD (o.map lineD) (some (-1)) none = (o.drop (o.length - 1)).map lineD := by
  rw [cut_last, List.length_map, List.map_drop]
theorem lines_cut_1 (o : List Line) : cutD (o.map lineD) (some 1) none = (o.drop 1).map lineD := by
  rw [show (1 : Int) = ((1 : Nat) : Int) from rfl, cut_from, List.map_drop]
theorem lines_cut_f (o : List Line) : cutD (o.map lineD) none (some 1) = (o.take 1).map lineD := by
  rw [show (1 : Int) = ((1 : Nat) : Int) from rfl, cut_to, List.map_take]
theorem odds_no (h : CaseOk t ds) {o : List Line} (hR : Resp t ds o) {z : D} (hz : z ∈ oddsA o ++ oddsB o) (ne : z ≠ linesD o) : ¬ outP t ds z := by
  have lns : ∀ ls : List Line, (z = linesD ls → outP t ds z → ls.Perm o) := fun ls e k => by
    rw [e, outP_iff h] at k
    exact k.perm.trans hR.perm.symm
  have hsplit : o ≠ [] → ∃ x, o = o.take (o.length - 1) ++ [x] := fun hne => by
    refine ⟨o.getLast hne, ?_⟩
    rw [← List.dropLast_eq_take]
    exact (List.dropLast_concat_getLast hne).symm
  unfold oddsA oddsB at hz
  simp only [List.cons_append, List.nil_append, List.mem_cons, List.not_mem_nil, or_false] at hz
  rw [lines_cut_init, lines_cut_last, lines_cut_1, lines_cut_f] at hz
  rcases hz with e | e | e | e | e | e | e | e | e | e | e | e | e
  · subst e
    rintro ⟨ls, e, _⟩
    cases e
  · have e2 : z = linesD (o ++ [zzL]) := by rw [e]; unfold linesD; rw [List.map_append]; rfl
    intro k
    have := (lns _ e2 k).length_eq
    rw [List.length_append, List.length_singleton] at this
    omega
  · have e2 : z = linesD (o.take (o.length - 1) ++ [zzL]) := by rw [e]; unfold linesD; rw [List.map_append]; rfl
    intro k
    have hp := lns _ e2 k
    by_cases ho : o = []
    · rw [ho] at hp
      have := hp.length_eq
      simp at this
    · obtain ⟨x, hx⟩ := hsplit ho
      rw [hx] at hp
      have hl : (o.take (o.length - 1)).length = o.length - 1 := by rw [List.length_take]; omega
      have ht : (o.take (o.length - 1) ++ [x]).take ((o.take (o.length - 1) ++ [x]).length - 1) = o.take (o.length - 1) := by
        rw [List.length_append, List.length_singleton, Nat.add_sub_cancel, List.take_left]
      rw [ht, List.perm_append_left_iff] at hp
      have : zzL = x := List.mem_singleton.mp (hp.mem_iff.mp (List.mem_singleton.mpr rfl))
      rw [this, ← hx] at e2
      exact ne e2
  · have e2 : z = linesD (o ++ o.drop (o.length - 1)) := by rw [e]; unfold linesD; rw [List.map_append]
    intro k
    by_cases ho : o = []
    · rw [ho] at e2
      exact ne (by rw [e2, ho]; rfl)
    · have := (lns _ e2 k).length_eq
      have hpos : 0 < o.length := List.length_pos_iff.mpr ho
      rw [List.length_append, List.length_drop] at this
      omega
  · subst e
    rintro ⟨ls, e, _⟩
    cases e
  · subst e
    rintro ⟨ls, e, _⟩
    cases e
  · subst e
    rintro ⟨ls, e, _⟩
    cases e
  · subst e
    rintro ⟨ls, e, _⟩
    cases e
  · subst e
    rintro ⟨ls, e, _⟩
    have e2 : [linesD o] = ls.map lineD := by
      unfold linesD at e
      injection e
    have : linesD o ∈ ls.map lineD := by rw [← e2]; exact List.mem_singleton.mpr rfl
    obtain ⟨l, _, e3⟩ := List.mem_map.mp this
    unfold linesD lineD at e3
    injection e3 with e3
    have : PyData.str l.1.1 ∈ o.map lineD := by
      have e4 : o.map lineD = [PyData.str l.1.1, .int (l.2 : Nat)] := e3.symm
      rw [e4]
      exact List.mem_cons_self ..
    obtain ⟨x, _, ex⟩ := List.mem_map.mp this
    cases ex
  · by_cases ho : o = []
    · exact absurd (by rw [e, ho]; rfl) ne
    · obtain ⟨x, r, rfl⟩ := List.exists_cons_of_ne_nil ho
      subst e
      rintro ⟨ls, e, _⟩
      unfold linesD at e
      injection e with e
      have : PyData.list (itemsOf (lineD x)) ∈ ls.map lineD := by
        have e4 : ls.map lineD = ((x :: r).map lineD).map fun d => PyData.list (itemsOf d) := e.symm
        rw [e4]
        exact List.mem_cons_self ..
      obtain ⟨l, _, e5⟩ := List.mem_map.mp this
      cases e5
  · subst e
    rintro ⟨ls, e, _⟩
    unfold linesD at e
    injection e with e
    have : PyData.none ∈ ls.map lineD := by
      have e4 : ls.map lineD = (o.take (o.length - 1)).map lineD ++ [PyData.none] := e.symm
      rw [e4]
      exact List.mem_append_right _ (List.mem_singleton.mpr rfl)
    obtain ⟨l, _, e5⟩ := List.mem_map.mp this
    cases e5
  · have e2 : z = linesD (o.drop 1) := e
    intro k
    by_cases ho : o = []
    · rw [ho] at e2
      exact ne (by rw [e2, ho]; rfl)
    · have := (lns _ e2 k).length_eq
      have hpos : 0 < o.length := List.length_pos_iff.mpr ho
      rw [List.length_drop] at this
      omega
  · have e2 : z = linesD (o.take (o.length - 1) ++ o.take 1) := by rw [e]; unfold linesD; rw [List.map_append]
    intro k
    by_cases ho : o = []
    · rw [ho] at e2
      exact ne (by rw [e2, ho]; rfl)
    · have hp := lns _ e2 k
      obtain ⟨x, hx⟩ := hsplit ho
      have hpos : 0 < o.length := List.length_pos_iff.mpr ho
      have h1 : ∃ y, o.take 1 = [y] := by
        cases o with
        | nil => exact absurd rfl ho
        | cons y r => exact ⟨y, rfl⟩
      obtain ⟨y, hy⟩ := h1
      rw [hy] at hp e2
      have hp2 : (o.take (o.length - 1) ++ [y]).Perm (o.take (o.length - 1) ++ [x]) := by
        rw [← hx]
        exact hp
      rw [List.perm_append_left_iff] at hp2
      have : y = x := List.mem_singleton.mp (hp2.mem_iff.mp (List.mem_singleton.mpr rfl))
      rw [this, ← hx] at e2
      exact ne e2
theorem okD_of_ask {d : D} (h : AskOut d) : SeqAt.shaped d = true := h.ok.shp
theorem odds_ask {o : List Line} (ho : o.length ≤ 4) {z : D} (hz : z ∈ oddsA o ++ oddsB o) : AskOut z := by
  unfold oddsA oddsB at hz
  simp only [List.cons_append, List.nil_append, List.mem_cons, List.not_mem_nil, or_false] at hz
  rw [lines_cut_init, lines_cut_last, lines_cut_1, lines_cut_f] at hz
  have two : ∀ a b : List Line, a.length ≤ 4 → b.length ≤ 4 → AskOut (.tuple (a.map lineD ++ b.map lineD)) := fun a b ha hb => by
    rw [← List.map_append]
    exact askOut_lines (by rw [List.length_append]; omega)
  have lt : ∀ k, (o.take k).length ≤ 4 := fun k => by rw [List.length_take]; omega
  have ld : ∀ k, (o.drop k).length ≤ 4 := fun k => by rw [List.length_drop]; omega
  have strA : OkD 20 (.str "a") := okD_str (by decide +kernel)
  rcases hz with e | e | e | e | e | e | e | e | e | e | e | e | e
  · subst e
    exact askOut_else ((enc_line (n := 0)).okList o).mono fun xs q => nomatch q
  · subst e
    exact two o [zzL] ho (by decide)
  · subst e
    exact two _ [zzL] (lt _) (by decide)
  · subst e
    exact two _ _ ho (ld _)
  · subst e
    exact askOut_else okD_none fun xs q => nomatch q
  · subst e
    exact askOut_else (okD_int _) fun xs q => nomatch q
  · subst e
    exact askOut_else (okD_bool _) fun xs q => nomatch q
  · subst e
    exact askOut_else strA fun xs q => nomatch q
  · subst e
    refine askOut_tup (fun x hx => ?_) (by show 1 ≤ 1000; omega) fun x hx => ?_
    · rw [List.mem_singleton.mp hx]
      exact ((enc_lines (n := 0)).ok o).mono
    · rw [List.mem_singleton.mp hx]
      refine askLine_of ((enc_lines (n := 0)).ok o).mono fun xs q y hy s es => ?_
      unfold linesD at q
      injection q with q
      subst es
      rw [← q] at hy
      obtain ⟨l, _, e5⟩ := List.mem_map.mp hy
      cases e5
  · subst e
    refine askOut_tup (fun x hx => ?_) (by rw [List.length_map, List.length_map]; omega) fun x hx => ?_
    · obtain ⟨y, hy, rfl⟩ := List.mem_map.mp hx
      obtain ⟨l, _, rfl⟩ := List.mem_map.mp hy
      exact okD_list.mpr fun w hw => (okD_tup.mp ((enc_line (n := 0)).ok l) w hw).mono
    · obtain ⟨y, hy, rfl⟩ := List.mem_map.mp hx
      obtain ⟨l, _, rfl⟩ := List.mem_map.mp hy
      exact askLine_of (okD_list.mpr fun w hw => (okD_tup.mp ((enc_line (n := 0)).ok l) w hw).mono) fun xs q => nomatch q
  · subst e
    refine askOut_tup (fun x hx => ?_) (by rw [List.length_append, List.length_map, List.length_singleton]; have := lt (o.length - 1); omega) fun x hx => ?_
    · rcases List.mem_append.mp hx with q | q
      · obtain ⟨l, _, rfl⟩ := List.mem_map.mp q
        exact ((enc_line (n := 0)).ok l).mono
      · rw [List.mem_singleton.mp q]
        exact okD_none
    · rcases List.mem_append.mp hx with q | q
      · obtain ⟨l, _, rfl⟩ := List.mem_map.mp q
        exact askLine_line l
      · rw [List.mem_singleton.mp q]
        exact askLine_of okD_none fun xs q => nomatch q
  · subst e
    exact askOut_lines (Nat.le_trans (ld 1) (by decide))
  · subst e
    exact two _ _ (lt _) (lt _)
/-- a truth value for a number -/
theorem bent_no (h : CaseOk t ds) {o : List Line} (hR : Resp t ds o) (hne : o ≠ []) : ¬ outP t ds (.tuple ((o.map lineD).map bentF)) := by
  obtain ⟨x, r, rfl⟩ := List.exists_cons_of_ne_nil hne
  have hx : x ∈ numb ds := hR.perm.mem_iff.mp (List.mem_cons_self ..)
  have h1 : ((x.1, 1) : Line) ∈ numb ds := numb_seg (j := x.2) hx (Nat.le_refl _) (numb_pos hx)
  have h2 := hR.perm.mem_iff.mpr h1
  rintro ⟨ls, e, _⟩
  unfold linesD at e
  injection e with e
  have e3 : bentF (lineD (x.1, 1)) = .tuple [.str x.1.1, .bool true] := by
    unfold bentF
    exact if_pos (show PyData.eqv (.int ((1 : Nat) : Int)) (.int ((1 : Nat) : Int)) = true by rw [eqv_nat]; rfl)
  have : bentF (lineD (x.1, 1)) ∈ ls.map lineD := by
    rw [← e]
    exact List.mem_map.mpr ⟨_, List.mem_map.mpr ⟨_, h2, rfl⟩, rfl⟩
  rw [e3] at this
  obtain ⟨l, _, e5⟩ := List.mem_map.mp this
  unfold lineD at e5
  injection e5 with e5
  cases (List.cons.inj (List.cons.inj e5).2).1
theorem bent_ask {o : List Line} (ho : o.length ≤ 4) : AskOut (.tuple ((o.map lineD).map bentF)) := by
  have key : ∀ l : Line, (bentF (lineD l) = lineD l) ∨ bentF (lineD l) = .tuple [.str l.1.1, .bool true] := fun l => by
    unfold bentF
    by_cases e : PyData.eqv (dAt (lineD l) 1) (.int 1) = true
    · rw [if_pos e]
      exact Or.inr rfl
    · rw [if_neg e]
      exact Or.inl rfl
  refine askOut_tup (fun x hx => ?_) (by rw [List.length_map, List.length_map]; omega) fun x hx => ?_
  · obtain ⟨y, hy, rfl⟩ := List.mem_map.mp hx
    obtain ⟨l, _, rfl⟩ := List.mem_map.mp hy
    rcases key l with e | e
    · rw [e]
      exact ((enc_line (n := 0)).ok l).mono
    · rw [e]
      exact pair_ok (okD_str (name_ok l.1.2)) (okD_bool _)
  · obtain ⟨y, hy, rfl⟩ := List.mem_map.mp hx
    obtain ⟨l, _, rfl⟩ := List.mem_map.mp hy
    rcases key l with e | e
    · rw [e]
      exact askLine_line l
    · rw [e]
      refine askLine_of (pair_ok (okD_str (name_ok l.1.2)) (okD_bool _)) fun xs q y hy s es => ?_
      cases q
      subst es
      rcases List.mem_cons.mp hy with z | z
      · cases z
        have := name_len l.1.2
        omega
      · simp at z
end
section
variable {P : Program} {w : World} {K : PySem.W.Frag} {mg : Str → Option Value} {base : Heap} {C : Addr} {f : Addr} {fd : FuncData}
theorem sc58 : FnScope ["_law_wood_so", "_law_row_so", "_law_host", "_law_every", "_law_outs_so", "_law_here", "_law_own", "_law_bit", "_law_odd", "_law_sure", "_law_bent_so"] ["_law_wood_so", "_law_row_so"] (defScope (top 58)) := ⟨rfl, rfl, rfl, by decide +kernel, rfl, by decide +kernel, by decide +kernel⟩
def rCase : List DV → DV → Prop := fun xs y => ∃ t ds, xs = [.d (treeD t), .d (deedsD ds)] ∧ CaseOk t ds ∧ y = .d (.bool true)
theorem ok_case (F : Fun K "_law_case_right" "_law_case_right" (top 58) f fd) (M : Mg mg) (Gc : Gm P w K mg base C 12 (rInit K)) (G1 : Gf P w K mg base "_law_lines" 1 (spD ⟨P, w, K, C⟩ rLawLines)) (G2 : Gf P w K mg base "_law_deep_outs" 3 (spD ⟨P, w, K, C⟩ rDeep)) (G3 : Gf P w K mg base "_law_orders" 1 (spD ⟨P, w, K, C⟩ rOrders))
    (G4 : Gf P w K mg base "_law_same" 1 (spD ⟨P, w, K, C⟩ (rSame 0))) (G5 : Gf P w K mg base "is_output_in" 16 (spD ⟨P, w, K, C⟩ rOut)) (G6 : Gf P w K mg base "_law_cross" 1 (spD ⟨P, w, K, C⟩ rCross)) (G7 : Gf P w K mg base "is_sure_in" 15 (spD ⟨P, w, K, C⟩ rSure)) :
    FnOk P w K mg base CX0 17 f fd ["_law_wood_so", "_law_row_so"] (spD ⟨P, w, K, C⟩ rCase) := by
  refine fn_D F sc58 (fun xs y h => by obtain ⟨t, ds, rfl, _⟩ := h; rfl) (fun cdv A outer s H E xs y hr h => ?_)
  obtain ⟨t, ds, rfl, hC, rfl⟩ := h
  have hT := treeD_is hC.tr
  have hlen : ds.length ≤ 1000 := Nat.le_trans hC.ft.len (by decide)
  obtain ⟨Ss, Fs, os, hD, hO⟩ := outs_ex hC.tr hC.t4 hC.t1 hC.ft hC.n4
  have EL := (enc_line (n := 0))
  have ELS := (enc_lines (n := 0))
  refine sts_tupx (xs := [.ob (deedsD ds), .d (.list ((numb ds).map lineD)), .d (.list (os.map linesD))]) (ρ1 := [.i (.d (treeD t)), .i (.d (deedsD ds)), .i (.ob (deedsD ds)), .i (.d (.list ((numb ds).map lineD))), .i (.d (.list (os.map linesD))), .no, .no, .no, .no, .no, .no])
    (ea_cons (ev_new Gc (hr.mono (by decide)) (ev_var 1 rfl) (.inl ⟨deedsD ds, rfl, ((enc_deeds (n := 0)).ok ds).mono, (tupD_deeds ds).symm⟩)) (ea_cons (ev_call G1 (hr.mono (by decide)) (ea_cons (ev_var 1 rfl) ea_nil) ⟨ds, rfl, hlen, rfl⟩) (ea_cons (ev_call G2 (hr.mono (by decide)) (ea_cons (ev_var 0 rfl) (ea_cons (ev_var 1 rfl) ea_nil)) ⟨t, ds, Ss, Fs, os, rfl, hD, rfl⟩) ea_nil)))
    (exs_cons 2 (exs_cons 3 (exs_cons 4 exs_nil sc58.nd) sc58.nd) sc58.nd) ?_ (by show 3 ≤ sizeLine; decide)
  refine sts_for (ds := lssD (orders (numb ds))) (fun i ρ => ∃ s5, ρ = [.i (.d (treeD t)), .i (.d (deedsD ds)), .i (.ob (deedsD ds)), .i (.d (.list ((numb ds).map lineD))), .i (.d (.list (os.map linesD))), s5, .no, .no, .no, .no, .no]) (fun z ρ => ρ.set 5 (.i (.d z)))
    (ei_list (ev_call G3 (hr.mono (by decide)) (ea_cons (ev_var 3 rfl) ea_nil) ⟨numb ds, rfl, hC.n4, rfl⟩)) ⟨.no, rfl⟩ ?_ ?_ ?_
  · rintro i z ρi hz ⟨s5, rfl⟩
    exact ⟨_, eg_name 5 sc58.nd⟩
  · rintro i z ρi hz ⟨s5, rfl⟩
    obtain ⟨ls, hls, rfl⟩ := Option.map_eq_some_iff.mp (by rw [← List.getElem?_map]; exact hz)
    have hll : ls.length ≤ 4 := by
      have : ls.length = (numb ds).length := ordN_each (List.mem_of_getElem? hls)
      have := hC.n4
      omega
    refine sts_ifF (et_not (k := true) (et_val (ev_call G4 (hr.mono (by decide)) (ea_cons (ev_call G5 hr (ea_cons (ev_var 0 rfl) (ea_cons (ev_var 2 rfl) (ea_cons (ev_var 5 rfl) ea_nil))) ⟨treeD t, t, ds, linesD ls, decide (ls ∈ os), rfl, hT, hC.ft, askOut_lines (by omega), ?_, rfl⟩) (ea_cons (ev_inL (k := decide (ls ∈ os)) hr (ELS.ok ls).shp (ELS.okList os).shp (ELS.inD2 ls os) (ev_var 5 rfl) (ev_var 4 rfl)) ea_nil)) ⟨.bool (decide (ls ∈ os)), rfl, okD_bool _, rfl⟩))) (sts_nil ⟨_, rfl⟩)
    rw [decide_eq_true_eq, hO.mem, outP_iff hC]
  · rintro ρn ⟨s5, rfl⟩
    refine sts_for (ds := crossD ((numb ds).map lineD) ((numb ds).map lineD)) (fun i ρ => ∃ s6 s7 s8 s9, ρ = [.i (.d (treeD t)), .i (.d (deedsD ds)), .i (.ob (deedsD ds)), .i (.d (.list ((numb ds).map lineD))), .i (.d (.list (os.map linesD))), s5, s6, s7, s8, s9, .no]) (fun z ρ => (ρ.set 6 (.i (.d (dAt z 0)))).set 7 (.i (.d (dAt z 1))))
      (ei_list (ev_call G6 (hr.mono (by decide)) (ea_cons (ev_var 3 rfl) (ea_cons (ev_var 3 rfl) ea_nil)) ⟨(numb ds).map lineD, (numb ds).map lineD, rfl, ?_, rfl⟩)) ⟨.no, .no, .no, .no, rfl⟩ ?_ ?_ ?_
    · rw [List.length_map]
      have : (numb ds).length * (numb ds).length ≤ 4 * 4 := Nat.mul_le_mul hC.n4 hC.n4
      omega
    · rintro i z ρi hz ⟨s6, s7, s8, s9, rfl⟩
      have hz2 := List.mem_of_getElem? hz
      unfold crossD at hz2
      obtain ⟨a, ha, hz3⟩ := List.mem_flatMap.mp hz2
      obtain ⟨b, hb, rfl⟩ := List.mem_map.mp hz3
      exact ⟨_, eg_tup rfl (egs_cons (eg_name 6 sc58.nd) (egs_cons (eg_name 7 sc58.nd) egs_nil))⟩
    · rintro i z ρi hz ⟨s6, s7, s8, s9, rfl⟩
      have hz2 := List.mem_of_getElem? hz
      unfold crossD at hz2
      obtain ⟨a', ha', hz3⟩ := List.mem_flatMap.mp hz2
      obtain ⟨b', hb', rfl⟩ := List.mem_map.mp hz3
      obtain ⟨a, ha, rfl⟩ := List.mem_map.mp ha'
      obtain ⟨b, hb, rfl⟩ := List.mem_map.mp hb'
      have inO : ∀ o ∈ os, a ∈ o ∧ b ∈ o := fun o ho => by
        have := ((hO.mem o).mp ho).perm
        exact ⟨this.mem_iff.mpr ha, this.mem_iff.mpr hb⟩
      refine sts_lc 8 (own := [("_law_here", 5)]) (ds := os.map linesD) (js := [5]) (p := liftL fun o => decide (o.idxOf b < o.idxOf a)) (f := fun d => d) (es := (os.filter fun o => decide (o.idxOf b < o.idxOf a)).map linesD)
        (ρ' := fun x => [.i (.d (treeD t)), .i (.d (deedsD ds)), .i (.ob (deedsD ds)), .i (.d (.list ((numb ds).map lineD))), .i (.d (.list (os.map linesD))), .i (.d x), .i (.d (lineD a)), .i (.d (lineD b)), s8, s9, .no]) rfl sc58.nd (blkOk_by (by rfl)) (by decide)
        (ei_list (ev_var 4 rfl)) (fun _ _ _ _ _ x hx => eg_name 5 sc58.nd) (fun _ _ _ _ _ x hx => ?_) (fun _ _ _ _ _ x hx _ => ev_var 5 rfl) (by rw [List.map_id', liftL_filter]) ?_
      · obtain ⟨o, ho, rfl⟩ := List.mem_map.mp hx
        rw [liftL_eq]
        have e : decide (((o.idxOf b : Nat) : Int) < (o.idxOf a : Nat)) = decide (o.idxOf b < o.idxOf a) := decide_eq_decide.mpr Int.ofNat_lt
        rw [← e]
        exact ets_one (et_gt (ev_indexT hr (firstAt_line (inO o ho).1) (ELS.ok o).shp (EL.ok a).shp (ev_var (x := .d (linesD o)) 5 rfl) (ev_var 6 rfl)) (ev_indexT hr (firstAt_line (inO o ho).2) (ELS.ok o).shp (EL.ok b).shp (ev_var (x := .d (linesD o)) 5 rfl) (ev_var 7 rfl)))
      · have hsure : sureM t ds a b = (!decide (a = b) && decide ((os.filter fun o => decide (o.idxOf b < o.idxOf a)) = [])) := by
          rw [Bool.eq_iff_iff, sure_all hC.tr hC.ft ha hb, Bool.and_eq_true, Bool.not_eq_true', decide_eq_false_iff_not, decide_eq_true_eq, List.filter_eq_nil_iff]
          constructor
          · rintro ⟨h1, h2⟩
            exact ⟨h1, fun o ho q => h2 o ((hO.mem o).mp ho) (of_decide_eq_true q)⟩
          · rintro ⟨h1, h2⟩
            exact ⟨h1, fun o ho q => h2 o ((hO.mem o).mpr ho) (decide_eq_true q)⟩
        refine sts_let (x := .d (.bool (sureM t ds a b))) 9 ?_ ?_ sc58.nd
        · rw [hsure]
          exact ev_and (ev_ne (d := lineD a) (e := lineD b) hr (EL.ok a).shp (EL.ok b).shp (by rw [EL.eqv]) (ev_var 6 rfl) (ev_var 7 rfl)) (fun _ => ev_one (ev_eq (d := .list ((os.filter fun o => decide (o.idxOf b < o.idxOf a)).map linesD)) (e := .list (([] : List (List Line)).map linesD)) hr (ELS.list.ok _).shp (ELS.list.ok []).shp (ELS.list.eqv _ []) (ev_var 8 rfl) (EvF.d (ef_list (xs := []) ea_nil rfl))))
        · exact sts_ifF (et_not (k := true) (et_val (ev_call G4 (hr.mono (by decide)) (ea_cons (ev_call G7 (hr.mono (by decide)) (ea_cons (ev_var 0 rfl) (ea_cons (ev_var 2 rfl) (ea_cons (ev_var 6 rfl) (ea_cons (ev_var 7 rfl) ea_nil)))) ⟨treeD t, t, ds, a, b, rfl, hT, hC.ft, ha, hb, rfl⟩) (ea_cons (ev_var 9 rfl) ea_nil)) ⟨.bool (sureM t ds a b), rfl, okD_bool _, rfl⟩))) (sts_nil ⟨_, _, _, _, rfl⟩)
    · rintro ρn ⟨s6, s7, s8, s9, rfl⟩
      obtain ⟨o, os', eos⟩ := List.exists_cons_of_ne_nil (outs_ne hO)
      have hR : Resp t ds o := (hO.mem o).mp (by rw [eos]; exact List.mem_cons_self ..)
      have hol : o.length ≤ 4 := by
        have := hR.perm.length_eq
        have := hC.n4
        omega
      refine sts_let (x := .d (linesD o)) 5 (ev_ix_list (ds := os.map linesD) (i := 0) (L2.atI_nat (j := 0) (by rw [eos]; rfl)) (ev_var 4 rfl) ev_int) ?_ sc58.nd
      refine sts_let (x := .d (.tuple ((o.map lineD).map bentF))) 10 (ev_tuple_list (EvF.d (ef_lcm (own := [("_law_own", 6)]) (ds := o.map lineD) (js := [6]) (f := bentF) (ρ' := fun x => [.i (.d (treeD t)), .i (.d (deedsD ds)), .i (.ob (deedsD ds)), .i (.d (.list ((numb ds).map lineD))), .i (.d (.list (os.map linesD))), .i (.d (linesD o)), .i (.d x), s7, s8, s9, .no]) rfl sc58.nd (blkOk_by (by rfl)) (by decide)
        (ei_tup (ev_var (x := .d (linesD o)) 5 rfl)) (fun _ _ _ _ _ x hx => eg_name 6 sc58.nd) (fun _ _ _ _ _ x hx => ?_))) M.tuple) ?_ sc58.nd
      · obtain ⟨l, _, rfl⟩ := List.mem_map.mp hx
        unfold bentF
        refine ev_if (k := PyData.eqv (dAt (lineD l) 1) (.int 1)) (et_eq (d := .int (l.2 : Nat)) (e := .int 1) hr (okD_int (n := 0) _).shp (okD_int (n := 0) _).shp rfl (ev_at1 (ev_var 6 rfl)) ev_int) (fun hk => ?_) (fun hk => ?_)
        · rw [if_pos hk]
          exact ev_pair (ev_at0 (ev_var 6 rfl)) ev_bool
        · rw [if_neg (by rw [hk]; exact Bool.false_ne_true)]
          exact ev_var 6 rfl
      · refine sts_ifF (EvW.t (ew_andF (k := !decide (o = [])) (et_ne (d := linesD o) (e := linesD []) hr (ELS.ok o).shp (ELS.ok []).shp (by rw [ELS.eqv]) (ev_var 5 rfl) ev_unit) (fun hk => ew_and1 (et_val (ev_call G5 hr (ea_cons (ev_var 0 rfl) (ea_cons (ev_var 2 rfl) (ea_cons (ev_var 10 rfl) ea_nil))) ⟨treeD t, t, ds, .tuple ((o.map lineD).map bentF), false, rfl, hT, hC.ft, bent_ask hol, ⟨fun z => (nomatch z), fun z => absurd z (bent_no hC hR (by simpa using hk))⟩, rfl⟩))))) ?_
        have hcl : (cutD (o.map lineD) none (some (-1))).length ≤ 4 := by rw [lines_cut_init, List.length_map, List.length_take]; omega
        have hcr : (cutD (o.map lineD) (some (-1)) none).length ≤ 4 := by rw [lines_cut_last, List.length_map, List.length_drop]; omega
        have hcf : (cutD (o.map lineD) none (some 1)).length ≤ 4 := by rw [lines_cut_f, List.length_map, List.length_take]; omega
        have hol2 : (o.map lineD).length ≤ 4 := by rw [List.length_map]; exact hol
        have hs100 : (100 : Nat) ≤ sizeLine := by decide
        refine sts_let (x := .d (.list (oddsA o))) 8 (EvF.d (ef_list (xs := (oddsA o).map .d) (ea_cons (EvF.d (ef_list_of true (ds := o.map lineD) (ev_var 5 rfl) M.list)) (ea_cons (ev_cat_tup (ds := o.map lineD) (es := [lineD zzL]) (by show (o.map lineD).length + 1 ≤ sizeLine; omega) (ev_var 5 rfl) (ev_single (ev_pair ev_str ev_int)))
          (ea_cons (ev_cat_tup (es := [lineD zzL]) (by show (cutD (o.map lineD) none (some (-1))).length + 1 ≤ sizeLine; omega) (ev_sl_tup (ev_var (x := .d (linesD o)) 5 rfl) eo_none (eo_some (ev_neg ev_int))) (ev_single (ev_pair ev_str ev_int))) (ea_cons (ev_cat_tup (ds := o.map lineD) (by omega) (ev_var 5 rfl) (ev_sl_tup (ev_var (x := .d (linesD o)) 5 rfl) (eo_some (ev_neg ev_int)) eo_none))
          (ea_cons ev_none (ea_cons ev_int (ea_cons ev_bool (ea_cons ev_str (ea_cons (ev_single (ev_var 5 rfl)) ea_nil))))))))) rfl (by show 9 ≤ sizeLine; decide))) ?_ sc58.nd
        refine sts_let (x := .d (.list (oddsA o ++ oddsB o))) 8 (EvF.d (ef_cat (ds := oddsA o) (es := oddsB o) (by show 13 ≤ sizeLine; decide) (ev_var 8 rfl) (EvF.d (ef_list (xs := (oddsB o).map .d) (ea_cons (ev_tuple_list (EvF.d (ef_lcm (own := [("_law_own", 6)]) (ds := o.map lineD) (js := [6]) (f := fun d => .list (itemsOf d)) (ρ' := fun x => [.i (.d (treeD t)), .i (.d (deedsD ds)), .i (.ob (deedsD ds)), .i (.d (.list ((numb ds).map lineD))), .i (.d (.list (os.map linesD))), .i (.d (linesD o)), .i (.d x), s7, .i (.d (.list (oddsA o))), s9, .i (.d (.tuple ((o.map lineD).map bentF)))]) rfl sc58.nd (blkOk_by (by rfl)) (by decide)
            (ei_tup (ev_var (x := .d (linesD o)) 5 rfl)) (fun _ _ _ _ _ x hx => eg_name 6 sc58.nd) (fun _ _ _ _ _ x hx => ?_))) M.tuple)
          (ea_cons (ev_cat_tup (es := [.none]) (by show (cutD (o.map lineD) none (some (-1))).length + 1 ≤ sizeLine; omega) (ev_sl_tup (ev_var (x := .d (linesD o)) 5 rfl) eo_none (eo_some (ev_neg ev_int))) (ev_single ev_none)) (ea_cons (ev_sl_tup (ev_var (x := .d (linesD o)) 5 rfl) (eo_some ev_int) eo_none)
          (ea_cons (ev_cat_tup (by omega) (ev_sl_tup (ev_var (x := .d (linesD o)) 5 rfl) eo_none (eo_some (ev_neg ev_int))) (ev_sl_tup (ev_var (x := .d (linesD o)) 5 rfl) eo_none (eo_some ev_int))) ea_nil)))) rfl (by show 4 ≤ sizeLine; decide))))) ?_ sc58.nd
        · obtain ⟨l, _, rfl⟩ := List.mem_map.mp hx
          exact EvF.d (ef_list_of true (ds := [.str l.1.1, .int (l.2 : Nat)]) (ev_var 6 rfl) M.list)
        · refine sts_ret (ev_eq (d := .list []) (e := .list []) (k := true) hr (ELS.list.ok []).shp (ELS.list.ok []).shp ((ELS.list.eqv [] []).trans (decide_eq_true rfl)) (EvF.d (ef_eq (ef_lc (own := [("_law_own", 6)]) (ds := oddsA o ++ oddsB o) (js := [6]) (p := fun _ => false) (f := fun d => d) (ρ' := fun x => [.i (.d (treeD t)), .i (.d (deedsD ds)), .i (.ob (deedsD ds)), .i (.d (.list ((numb ds).map lineD))), .i (.d (.list (os.map linesD))), .i (.d (linesD o)), .i (.d x), s7, .i (.d (.list (oddsA o ++ oddsB o))), s9, .i (.d (.tuple ((o.map lineD).map bentF)))]) rfl sc58.nd (blkOk_by (by rfl)) (by decide)
            (ei_list (ev_var 8 rfl)) (fun _ _ _ _ _ x hx => eg_name 6 sc58.nd) (fun _ _ _ _ _ x hx => ?_) (fun _ _ _ _ _ x hx hf => nomatch hf)) (by rw [filter_none fun _ _ => rfl]; rfl))) (EvF.d (ef_list (xs := []) ea_nil rfl))) .rt
          have hask := odds_ask hol hx
          refine ets_one (EvW.t (ew_andF (k := !PyData.eqv x (linesD o)) (et_ne (d := x) (e := linesD o) hr hask.ok.shp (ELS.ok o).shp rfl (ev_var 6 rfl) (ev_var 5 rfl)) (fun hk => ew_and1 (et_val (ev_call G5 hr (ea_cons (ev_var 0 rfl) (ea_cons (ev_var 2 rfl) (ea_cons (ev_var 6 rfl) ea_nil))) ⟨treeD t, t, ds, x, false, rfl, hT, hC.ft, hask, ⟨fun z => (nomatch z), fun z => absurd z (odds_no hC hR hx fun q => ?_)⟩, rfl⟩)))))
          rw [q, ELS.eqv] at hk
          simp at hk
end
end DL
set_option maxRecDepth 100000
set_option maxHeartbeats 4000000
/-! walks, 28: the case by hand, plain -/
namespace DL
open PySem PySem.Spec PyProof.Rows L2 SlX
theorem mem_ordN {every : List Line} : ∀ (n : Nat) (ls : List Line), ls.length = n → ls.Nodup → (∀ x ∈ ls, x ∈ every) → ls ∈ ordN every n
  | 0, ls, h, _, _ => by
    rw [List.eq_nil_of_length_eq_zero h]
    exact List.mem_singleton.mpr rfl
  | n + 1, ls, h, hn, hm => by
    have hne : ls ≠ [] := fun e => by rw [e] at h; cases h
    have e := (List.dropLast_concat_getLast hne).symm
    generalize ls.dropLast = a at e
    generalize ls.getLast hne = x at e
    subst e
    rw [List.length_append, List.length_singleton] at h
    have hn2 := List.nodup_append.mp hn
    have ih := mem_ordN n a (by omega) hn2.1 fun y hy => hm y (List.mem_append_left _ hy)
    unfold ordN ordStep
    refine List.mem_flatMap.mpr ⟨a, ih, ?_⟩
    unfold ext
    exact List.mem_map.mpr ⟨x, List.mem_filter.mpr ⟨hm x (List.mem_append_right _ (List.mem_singleton.mpr rfl)), decide_eq_true fun q => hn2.2.2 x q x (List.mem_singleton.mpr rfl) rfl⟩, rfl⟩
theorem mem_orders {every ls : List Line} (hn : every.Nodup) (hp : ls.Perm every) : ls ∈ orders every := by
  unfold orders
  exact mem_ordN _ _ hp.length_eq (hp.nodup_iff.mpr hn) fun x hx => hp.mem_iff.mp hx
def pathT (t : Tree) : Nat → Nat → List Nat
  | 0, a => [a]
  | f + 1, a => if a < t.length then a :: pathT t f (parT t a) else [a]
def sureB (t : Tree) (ds : List Deed) (x y : Line) : Bool := decide (birthOf ds x < birthOf ds y) && (pathT t 10 (bno t y.1)).contains (fpL t ds (birthOf ds y) x)
def respB (t : Tree) (ds : List Deed) (o : List Line) : Bool := (numb ds).all fun x => (numb ds).all fun y => !sureB t ds x y || decide (o.idxOf x < o.idxOf y)
theorem resp_B {t : Tree} {ds : List Deed} (hP : ∀ a, a ≤ t.length → Pth t.length (parT t) a (pathT t 10 a)) (hF : Fits t ds) {o : List Line} (hp : o.Perm (numb ds)) : Resp t ds o ↔ respB t ds o = true := by
  have hs : ∀ x ∈ numb ds, ∀ y ∈ numb ds, sureB t ds x y = true ↔ sureP t ds x y := fun x hx y hy => by
    unfold sureB sureP
    rw [Bool.and_eq_true, decide_eq_true_eq, List.contains_iff_mem, (hP _ (Nat.le_of_lt (bno_lt (hF.line hy)))).mem]
  have hn : o.Nodup := hp.nodup_iff.mpr (numb_nodup ds)
  unfold respB
  rw [List.all_eq_true]
  constructor
  · rintro ⟨_, h⟩ x hx
    rw [List.all_eq_true]
    intro y hy
    rw [Bool.or_eq_true, Bool.not_eq_true', decide_eq_true_eq]
    cases e : sureB t ds x y with
    | false => exact Or.inl rfl
    | true => exact Or.inr (sub_ord hn (h x hx y hy ((hs x hx y hy).mp e)))
  · intro h
    refine ⟨hp, fun x hx y hy k => ?_⟩
    have h1 := h x hx
    rw [List.all_eq_true] at h1
    have h2 := h1 y hy
    rw [(hs x hx y hy).mpr k] at h2
    exact ord_sub (hp.mem_iff.mpr hx) (hp.mem_iff.mpr hy) (of_decide_eq_true (by simpa using h2))
theorem mem_leaves {t : Tree} {s : Nm} : s ∈ leavesM t ↔ s ∈ tnames t ∧ some s ∉ t.map (·.2) := by
  unfold leavesM
  rw [List.mem_filter, decide_eq_true_eq, (List.mergeSort_perm _ _).mem_iff]
/-! ### the tree and the deeds -/
def hB : Nm := ⟨"bytes", by decide +kernel⟩
def hE : Nm := ⟨"err", by decide +kernel⟩
def hT : Nm := ⟨"text", by decide +kernel⟩
def hU : Nm := ⟨"utf", by decide +kernel⟩
def tH : Tree := [(hB, none), (hE, none), (hT, some hB), (hU, some hB)]
def zH1 : Str := "text utf !text utf !bytes err"
def zH2 : Str := "text !bytes !text err"
def zH3 : Str := "text !text !bytes err"
def dH1 : List Deed := [(true, hT), (true, hU), (false, hT), (true, hU), (false, hB), (true, hE)]
def dH2 : List Deed := [(true, hT), (false, hB), (false, hT), (true, hE)]
def dH3 : List Deed := [(true, hT), (false, hT), (false, hB), (true, hE)]
def lT : Line := (hT, 1)
def lU : Line := (hU, 1)
def lV : Line := (hU, 2)
def lE : Line := (hE, 1)
def oH1 : List (List Line) := [[lT, lE, lU, lV], [lT, lU, lE, lV], [lT, lU, lV, lE], [lU, lT, lE, lV], [lU, lT, lV, lE]]
def oH2 : List (List Line) := [[lE, lT], [lT, lE]]
def oH3 : List (List Line) := [[lT, lE]]
theorem tree_H : TreeOk tH := by
  refine ⟨by decide +kernel, ?_, ⟨fun a => if a = hB then 0 else 1, ?_⟩, by decide +kernel⟩
  · intro p hp b hb
    have : ∀ p ∈ tH, ∀ b ∈ tnames tH, p.2 = some b → b ∈ tnames tH := fun _ _ b hb _ => hb
    have h2 : ∀ p ∈ tH, p.2 = none ∨ p.2 = some hB := by decide +kernel
    rcases h2 p hp with e | e
    · rw [e] at hb
      cases hb
    · rw [e] at hb
      cases hb
      decide +kernel
  · intro p hp b hb
    have h2 : ∀ p ∈ tH, p.2 = none ∨ (p.2 = some hB ∧ p.1 ≠ hB) := by decide +kernel
    rcases h2 p hp with e | ⟨e, e2⟩
    · rw [e] at hb
      cases hb
    · rw [e] at hb
      cases hb
      show (if hB = hB then 0 else 1) < (if p.1 = hB then 0 else 1)
      rw [if_pos rfl, if_neg e2]
      omega
theorem path_H : ∀ a, a ≤ tH.length → Pth tH.length (parT tH) a (pathT tH 10 a) := by
  intro a ha
  have h4 : a ≤ 4 := ha
  have e4 : Pth 4 (parT tH) 4 [4] := .top
  have e0 : Pth 4 (parT tH) 0 [0, 4] := .step (by decide) e4
  have e1 : Pth 4 (parT tH) 1 [1, 4] := .step (by decide) e4
  have e2 : Pth 4 (parT tH) 2 [2, 0, 4] := .step (by decide) (show Pth 4 (parT tH) (parT tH 2) [0, 4] from (show parT tH 2 = 0 by decide +kernel) ▸ e0)
  have e3 : Pth 4 (parT tH) 3 [3, 0, 4] := .step (by decide) (show Pth 4 (parT tH) (parT tH 3) [0, 4] from (show parT tH 3 = 0 by decide +kernel) ▸ e0)
  match a, h4 with
  | 0, _ => exact e0
  | 1, _ => exact e1
  | 2, _ => exact (show pathT tH 10 2 = [2, 0, 4] by decide +kernel) ▸ e2
  | 3, _ => exact (show pathT tH 10 3 = [3, 0, 4] by decide +kernel) ▸ e3
  | 4, _ => exact e4
theorem fits_of {t : Tree} {ds : List Deed} (h : (ds.all fun d => decide (d.2 ∈ tnames t) && (!d.1 || decide (some d.2 ∉ t.map (·.2)))) = true) (hl : ds.length ≤ 100) : Fits t ds := by
  rw [List.all_eq_true] at h
  refine ⟨fun d hd => ?_, fun d hd e => ?_, hl⟩
  · have := h d hd
    rw [Bool.and_eq_true] at this
    exact of_decide_eq_true this.1
  · have := h d hd
    rw [Bool.and_eq_true, e] at this
    exact mem_leaves.mpr ⟨of_decide_eq_true this.1, of_decide_eq_true (by simpa using this.2)⟩
theorem fits_H1 : Fits tH dH1 := fits_of (by decide +kernel) (by decide)
theorem fits_H2 : Fits tH dH2 := fits_of (by decide +kernel) (by decide)
theorem fits_H3 : Fits tH dH3 := fits_of (by decide +kernel) (by decide)
theorem outs_of {ds : List Deed} {os : List (List Line)} (hF : Fits tH ds) (hn : os.Nodup) (hs : (os.map linesD).Pairwise fun a b => PySem.W.dataLe false id a b = true)
    (h1 : ∀ o ∈ orders (numb ds), respB tH ds o = true → o ∈ os) (h2 : ∀ o ∈ os, o.Perm (numb ds) ∧ respB tH ds o = true) : IsOuts tH ds os := ⟨hn, fun o => ⟨fun ho => (resp_B path_H hF (h2 o ho).1).mpr (h2 o ho).2, fun hR => h1 o (mem_orders (numb_nodup ds) hR.perm) ((resp_B path_H hF hR.perm).mp hR)⟩, hs⟩
theorem outs_H1 : IsOuts tH dH1 oH1 := outs_of fits_H1 (by decide +kernel) (by decide +kernel) (by decide +kernel) (by decide +kernel)
theorem outs_H2 : IsOuts tH dH2 oH2 := outs_of fits_H2 (by decide +kernel) (by decide +kernel) (by decide +kernel) (by decide +kernel)
theorem outs_H3 : IsOuts tH dH3 oH3 := outs_of fits_H3 (by decide +kernel) (by decide +kernel) (by decide +kernel) (by decide +kernel)
theorem case_H {ds : List Deed} (hF : Fits tH ds) (hn : (numb ds).length ≤ 4) : CaseOk tH ds := ⟨tree_H, by decide, by decide, hF, hn⟩
theorem case_H1 : CaseOk tH dH1 := case_H fits_H1 (by decide +kernel)
theorem case_H2 : CaseOk tH dH2 := case_H fits_H2 (by decide +kernel)
theorem case_H3 : CaseOk tH dH3 := case_H fits_H3 (by decide +kernel)
theorem split_H1 : Txt.split zH1 " " = dH1.map deedS := by decide +kernel
theorem split_H2 : Txt.split zH2 " " = dH2.map deedS := by decide +kernel
theorem split_H3 : Txt.split zH3 " " = dH3.map deedS := by decide +kernel
end DL
set_option maxRecDepth 100000
set_option maxHeartbeats 4000000
/-! walks, 29: _law_by_hand_right -/
namespace DL
open PySem PySem.Spec PyProof.Rows L2 SlX
theorem outP_resp {t : Tree} {ds : List Deed} (ok : TreeOk t) (hF : Fits t ds) (ls : List Line) : outP t ds (linesD ls) ↔ Resp t ds ls := by
  rw [← out_resp ok hF]
  constructor
  · rintro ⟨l2, e, _, k⟩
    rw [linesD_inj e]
    exact k
  · intro k
    exact ⟨ls, rfl, fun l hl => numb_pos (k.1.mem_iff.mp hl), k⟩
theorem tree_0 : TreeOk [] := ⟨List.nodup_nil, fun _ h => (nomatch h), ⟨fun _ => 0, fun _ h => (nomatch h)⟩, by decide⟩
theorem fits_0 (t : Tree) : Fits t [] := ⟨fun _ h => (nomatch h), fun _ h => (nomatch h), by decide⟩
theorem resp_00 : Resp [] [] [] := ⟨.refl _, fun _ h => (nomatch h)⟩
theorem tree_lisH : TreeD (lisD (treeD tH)) tH := by
  refine ⟨?_, by simp [tH, treeD, edgeD, pairD, lisD, lisDs, tupD, tupDs], tree_H⟩
  have e : lisD (treeD tH) = .list (tH.map fun p => .list [.str p.1.1, .str (upS p.2)]) := by simp [tH, treeD, edgeD, pairD, lisD, lisDs]
  rw [e]
  refine okD_list.mpr fun x hx => ?_
  obtain ⟨p, _, rfl⟩ := List.mem_map.mp hx
  refine okD_list.mpr fun y hy => ?_
  rcases List.mem_cons.mp hy with q | q
  · rw [q]
    exact okD_str (name_ok p.1.2)
  · rw [List.mem_singleton.mp q]
    exact okD_str (upS_ok p.2)
/-- the texts' programs -/
def ofFlat (d : D) : D := if PyData.eqv d (.str zH1) = true then deedsD dH1 else if PyData.eqv d (.str zH2) = true then deedsD dH2 else deedsD dH3
theorem ofFlat1 : ofFlat (.str zH1) = deedsD dH1 := if_pos (by decide +kernel)
theorem ofFlat2 : ofFlat (.str zH2) = deedsD dH2 := (if_neg (by decide +kernel)).trans (if_pos (by decide +kernel))
theorem ofFlat3 : ofFlat (.str zH3) = deedsD dH3 := (if_neg (by decide +kernel)).trans (if_neg (by decide +kernel))
def flatsD : List D := [.str zH1, .str zH2, .str zH3]
def someD : List D := [deedsD dH1, deedsD dH2, deedsD dH3]
section
variable {P : Program} {w : World} {K : PySem.W.Frag} {mg : Str → Option Value} {base : Heap} {C : Addr} {f : Addr} {fd : FuncData}
theorem sc59 : FnScope ["_law_wood_so", "_law_flats", "_law_flat", "_law_some", "_law_t", "_law_u", "_law_v", "_law_e", "_law_goal", "_law_got", "_law_own", "_law_host"] [] (defScope (top 59)) := ⟨rfl, rfl, rfl, by decide +kernel, rfl, by decide +kernel, by decide +kernel⟩
def rHand : List DV → DV → Prop := fun xs y => xs = [] ∧ y = .d (.bool true)
theorem deep_H {ds : List Deed} {os : List (List Line)} (h : CaseOk tH ds) (hO : IsOuts tH ds os) : rDeep [.d (treeD tH), .d (deedsD ds)] (.d (.list (os.map linesD))) := by
  obtain ⟨Ss, Fs, os', hD, hO'⟩ := outs_ex h.tr h.t4 h.t1 h.ft h.n4
  have : os' = os := (outs_eq hO' hO).mpr fun _ => Iff.rfl
  subst this
  exact ⟨tH, ds, Ss, Fs, os', rfl, hD, rfl⟩
theorem ok_hand (F : Fun K "_law_by_hand_right" "_law_by_hand_right" (top 59) f fd) (M : Mg mg) (hc : PCls K C) (Gc : Gm P w K mg base C 12 (rInit K)) (Go : Gs P w K mg base C "of" 14 (spD ⟨P, w, K, C⟩ rOf)) (Gd : GDeeds P w K mg base C) (G2 : Gf P w K mg base "_law_deep_outs" 3 (spD ⟨P, w, K, C⟩ rDeep))
    (G4 : ∀ n, n ≤ 10 → Gf P w K mg base "_law_same" (n + 1) (spD ⟨P, w, K, C⟩ (rSame n))) (G5 : Gf P w K mg base "is_output_in" 16 (spD ⟨P, w, K, C⟩ rOut)) (G6 : Gk P w K mg base "is_output_in" ["thing", "program", "tree"] 16 (spD ⟨P, w, K, C⟩ rOut)) (G7 : Gf P w K mg base "_law_case_right" 17 (spD ⟨P, w, K, C⟩ rCase))
    (G8 : ∀ n, n ≤ 10 → Gf P w K mg base "_law_lists" (n + 1) (spD ⟨P, w, K, C⟩ (rLists n))) : FnOk P w K mg base CX0 18 f fd [] (spD ⟨P, w, K, C⟩ rHand) := by
  refine fn_D F sc59 (fun xs y h => by obtain ⟨rfl, _⟩ := h; rfl) (fun cdv A outer s H E xs y hr h => ?_)
  obtain ⟨rfl, rfl⟩ := h
  have hT := treeD_is tree_H
  have ELS := (enc_lines (n := 0))
  refine sts_let (x := .d (treeD tH)) 0 (ev_tup (xs := (tH.map edgeD).map .d) (ds := tH.map edgeD) (ea_cons (ev_pair ev_str ev_str) (ea_cons (ev_pair ev_str ev_str) (ea_cons (ev_pair ev_str ev_str) (ea_cons (ev_pair ev_str ev_str) ea_nil)))) rfl (by show 4 ≤ sizeLine; decide)) ?_ sc59.nd
  refine sts_let (x := .d (.list flatsD)) 1 (EvF.d (ef_list (xs := flatsD.map .d) (ea_cons ev_str (ea_cons ev_str (ea_cons ev_str ea_nil))) rfl (by show 3 ≤ sizeLine; decide))) ?_ sc59.nd
  refine sts_lc 3 (own := [("_law_flat", 2)]) (ds := flatsD) (js := [2]) (p := fun _ => true) (f := ofFlat) (es := someD) (ρ' := fun x => [.i (.d (treeD tH)), .i (.d (.list flatsD)), .i (.d x), .no, .no, .no, .no, .no, .no, .no, .no, .no]) rfl sc59.nd (blkOk_by (by rfl)) (by decide)
    (ei_list (ev_var 1 rfl)) (fun _ _ _ _ _ x hx => eg_name 2 sc59.nd) (fun _ _ _ _ _ x hx => ets_nil) (fun _ _ _ _ _ x hx _ => ?_) ?_ ?_
  · unfold flatsD at hx
    simp only [List.mem_cons, List.not_mem_nil, or_false] at hx
    rcases hx with e | e | e
    · subst e
      rw [ofFlat1]
      exact ev_prop hc.c Gd (hr.mono (by decide)) (ev_static Go (hr.mono (by decide)) (ea_cons (ev_var 2 rfl) ea_nil) ⟨zH1, dH1, rfl, by decide +kernel, by decide +kernel, by decide +kernel, split_H1, rfl⟩) ⟨_, rfl, rfl⟩
    · subst e
      rw [ofFlat2]
      exact ev_prop hc.c Gd (hr.mono (by decide)) (ev_static Go (hr.mono (by decide)) (ea_cons (ev_var 2 rfl) ea_nil) ⟨zH2, dH2, rfl, by decide +kernel, by decide +kernel, by decide +kernel, split_H2, rfl⟩) ⟨_, rfl, rfl⟩
    · subst e
      rw [ofFlat3]
      exact ev_prop hc.c Gd (hr.mono (by decide)) (ev_static Go (hr.mono (by decide)) (ea_cons (ev_var 2 rfl) ea_nil) ⟨zH3, dH3, rfl, by decide +kernel, by decide +kernel, by decide +kernel, split_H3, rfl⟩) ⟨_, rfl, rfl⟩
  · rw [List.filter_eq_self.mpr fun _ _ => rfl]
    show [ofFlat (.str zH1), ofFlat (.str zH2), ofFlat (.str zH3)] = someD
    rw [ofFlat1, ofFlat2, ofFlat3]
    rfl
  · refine sts_tupx (xs := [.d (lineD lT), .d (lineD lU), .d (lineD lV), .d (lineD lE)]) (ρ1 := [.i (.d (treeD tH)), .i (.d (.list flatsD)), .no, .i (.d (.list someD)), .i (.d (lineD lT)), .i (.d (lineD lU)), .i (.d (lineD lV)), .i (.d (lineD lE)), .no, .no, .no, .no])
      (ea_cons (ev_pair ev_str ev_int) (ea_cons (ev_pair ev_str ev_int) (ea_cons (ev_pair ev_str ev_int) (ea_cons (ev_pair ev_str ev_int) ea_nil)))) (exs_cons 4 (exs_cons 5 (exs_cons 6 (exs_cons 7 exs_nil sc59.nd) sc59.nd) sc59.nd) sc59.nd) ?_ (by show 4 ≤ sizeLine; decide)
    have l4 : (4 : Nat) ≤ sizeLine := by decide
    refine sts_let (x := .d (.list (oH1.map linesD))) 8 (EvF.d (ef_list (xs := (oH1.map linesD).map .d) (ea_cons (ev_tup (xs := ([lT, lE, lU, lV].map lineD).map .d) (ds := [lT, lE, lU, lV].map lineD) (ea_cons (ev_var 4 rfl) (ea_cons (ev_var 7 rfl) (ea_cons (ev_var 5 rfl) (ea_cons (ev_var 6 rfl) ea_nil)))) rfl l4)
      (ea_cons (ev_tup (xs := ([lT, lU, lE, lV].map lineD).map .d) (ds := [lT, lU, lE, lV].map lineD) (ea_cons (ev_var 4 rfl) (ea_cons (ev_var 5 rfl) (ea_cons (ev_var 7 rfl) (ea_cons (ev_var 6 rfl) ea_nil)))) rfl l4)
      (ea_cons (ev_tup (xs := ([lT, lU, lV, lE].map lineD).map .d) (ds := [lT, lU, lV, lE].map lineD) (ea_cons (ev_var 4 rfl) (ea_cons (ev_var 5 rfl) (ea_cons (ev_var 6 rfl) (ea_cons (ev_var 7 rfl) ea_nil)))) rfl l4)
      (ea_cons (ev_tup (xs := ([lU, lT, lE, lV].map lineD).map .d) (ds := [lU, lT, lE, lV].map lineD) (ea_cons (ev_var 5 rfl) (ea_cons (ev_var 4 rfl) (ea_cons (ev_var 7 rfl) (ea_cons (ev_var 6 rfl) ea_nil)))) rfl l4)
      (ea_cons (ev_tup (xs := ([lU, lT, lV, lE].map lineD).map .d) (ds := [lU, lT, lV, lE].map lineD) (ea_cons (ev_var 5 rfl) (ea_cons (ev_var 4 rfl) (ea_cons (ev_var 6 rfl) (ea_cons (ev_var 7 rfl) ea_nil)))) rfl l4) ea_nil))))) rfl (by show 5 ≤ sizeLine; decide))) ?_ sc59.nd
    let gotD : List D := [.list (oH1.map linesD), .list (oH2.map linesD), .list (oH3.map linesD)]
    have r2 := hr.mono (show 3 ≤ 17 by decide)
    refine sts_let (x := .d (.list gotD)) 9 (EvF.d (ef_list (xs := gotD.map .d) (ea_cons (ev_call G2 r2 (ea_cons (ev_var 0 rfl) (ea_cons (ev_ix_list (ds := someD) (i := 0) (d := deedsD dH1) rfl (ev_var 3 rfl) ev_int) ea_nil)) (deep_H case_H1 outs_H1)) (ea_cons (ev_call G2 r2 (ea_cons (ev_var 0 rfl) (ea_cons (ev_ix_list (ds := someD) (i := 1) (d := deedsD dH2) rfl (ev_var 3 rfl) ev_int) ea_nil)) (deep_H case_H2 outs_H2))
      (ea_cons (ev_call G2 r2 (ea_cons (ev_var 0 rfl) (ea_cons (ev_ix_list (ds := someD) (i := 2) (d := deedsD dH3) rfl (ev_var 3 rfl) ev_int) ea_nil)) (deep_H case_H3 outs_H3)) ea_nil))) rfl (by show 3 ≤ sizeLine; decide))) ?_ sc59.nd
    have hgot : OkD 4 (.list gotD) := ELS.list.list.ok [oH1, oH2, oH3]
    refine sts_ifF (et_not (k := true) (et_val (ev_call (G4 4 (by decide)) (hr.mono (by decide)) (ea_cons (ev_var 9 rfl) (ea_cons (EvF.d (ef_list (xs := gotD.map .d) (ea_cons (ev_var 8 rfl) (ea_cons (EvF.d (ef_list (xs := (oH2.map linesD).map .d) (ea_cons (ev_pair (x := lineD lE) (y := lineD lT) (ev_var 7 rfl) (ev_var 4 rfl)) (ea_cons (ev_pair (x := lineD lT) (y := lineD lE) (ev_var 4 rfl) (ev_var 7 rfl)) ea_nil)) rfl (by show 2 ≤ sizeLine; decide)))
      (ea_cons (EvF.d (ef_list (xs := (oH3.map linesD).map .d) (ea_cons (ev_pair (x := lineD lT) (y := lineD lE) (ev_var 4 rfl) (ev_var 7 rfl)) ea_nil) rfl (by show 1 ≤ sizeLine; decide))) ea_nil))) rfl (by show 3 ≤ sizeLine; decide))) ea_nil)) ⟨.list gotD, rfl, hgot, rfl⟩))) ?_
    refine sts_ifF (et_not (k := true) (et_val (ev_all (bs := [true, true, true]) (EvF.d (ef_lcm (own := [("_law_own", 10)]) (ds := someD) (js := [10]) (f := fun _ => .bool true) (ρ' := fun x => [.i (.d (treeD tH)), .i (.d (.list flatsD)), .no, .i (.d (.list someD)), .i (.d (lineD lT)), .i (.d (lineD lU)), .i (.d (lineD lV)), .i (.d (lineD lE)), .i (.d (.list (oH1.map linesD))), .i (.d (.list gotD)), .i (.d x), .no]) rfl sc59.nd (blkOk_by (by rfl)) (by decide)
      (ei_list (ev_var 3 rfl)) (fun _ _ _ _ _ x hx => eg_name 10 sc59.nd) (fun _ _ _ _ _ x hx => ?_))) M.all))) ?_
    · unfold someD at hx
      simp only [List.mem_cons, List.not_mem_nil, or_false] at hx
      rcases hx with e | e | e
      · subst e
        exact ev_call G7 hr (ea_cons (ev_var 0 rfl) (ea_cons (ev_var 10 rfl) ea_nil)) ⟨tH, dH1, rfl, case_H1, rfl⟩
      · subst e
        exact ev_call G7 hr (ea_cons (ev_var 0 rfl) (ea_cons (ev_var 10 rfl) ea_nil)) ⟨tH, dH2, rfl, case_H2, rfl⟩
      · subst e
        exact ev_call G7 hr (ea_cons (ev_var 0 rfl) (ea_cons (ev_var 10 rfl) ea_nil)) ⟨tH, dH3, rfl, case_H3, rfl⟩
    · refine sts_let (x := .ob (deedsD dH1)) 11 (ev_new Gc (hr.mono (by decide)) (ev_ix_list (ds := someD) (i := 0) (d := deedsD dH1) rfl (ev_var 3 rfl) ev_int) (.inl ⟨deedsD dH1, rfl, ((enc_deeds (n := 0)).ok dH1).mono, (tupD_deeds dH1).symm⟩)) ?_ sc59.nd
      have r16 := hr.mono (show 16 ≤ 17 by decide)
      have b1 : ∀ n, ([PyData.bool true] ++ [PyData.bool false]).length + n ≤ 10 → 10 ≤ sizeLine := fun _ _ => by decide
      refine sts_let (x := .d (.list [.bool true])) 9 (EvF.d (ef_list (xs := [.d (.bool true)]) (ea_cons (ev_call G5 r16 (ea_cons (ev_var 0 rfl) (ea_cons (ev_var 11 rfl) (ea_cons (ev_tup (xs := ([lU, lT, lE, lV].map lineD).map .d) (ds := [lU, lT, lE, lV].map lineD) (ea_cons (ev_var 5 rfl) (ea_cons (ev_var 4 rfl) (ea_cons (ev_var 7 rfl) (ea_cons (ev_var 6 rfl) ea_nil)))) rfl l4) ea_nil))) ⟨treeD tH, tH, dH1, linesD [lU, lT, lE, lV], true, rfl, hT, fits_H1, askOut_lines (by decide), ?_, rfl⟩) ea_nil) rfl (by show 1 ≤ sizeLine; decide))) ?_ sc59.nd
      · rw [outP_resp tree_H fits_H1, ← outs_H1.mem]
        exact ⟨fun _ => by decide +kernel, fun _ => rfl⟩
      · refine sts_let (x := .d (.list [.bool true, .bool false])) 9 (EvF.d (ef_cat (ds := [.bool true]) (es := [.bool false]) (by show 2 ≤ sizeLine; decide) (ev_var 9 rfl) (EvF.d (ef_list (xs := [.d (.bool false)]) (ea_cons (ev_kw3 G6 r16 (ev_tup (xs := ([lE, lT, lU, lV].map lineD).map .d) (ds := [lE, lT, lU, lV].map lineD) (ea_cons (ev_var 7 rfl) (ea_cons (ev_var 4 rfl) (ea_cons (ev_var 5 rfl) (ea_cons (ev_var 6 rfl) ea_nil)))) rfl l4) (ev_var 11 rfl)
          (ev_call (G8 2 (by decide)) (hr.mono (by decide)) (ea_cons (ev_var 0 rfl) ea_nil) ⟨treeD tH, rfl, (enc_tree (n := 0)).ok tH, rfl⟩) ⟨lisD (treeD tH), tH, dH1, linesD [lE, lT, lU, lV], false, rfl, tree_lisH, fits_H1, askOut_lines (by decide), ?_, rfl⟩) ea_nil) rfl (by show 1 ≤ sizeLine; decide))))) ?_ sc59.nd
        · rw [outP_resp tree_H fits_H1, ← outs_H1.mem]
          exact ⟨fun h => (nomatch h), fun h => absurd h (by decide +kernel)⟩
        · refine sts_let (x := .d (.list [.bool true, .bool false, .bool true, .bool false])) 9 (EvF.d (ef_cat (ds := [.bool true, .bool false]) (es := [.bool true, .bool false]) (by show 4 ≤ sizeLine; decide) (ev_var 9 rfl) (EvF.d (ef_list (xs := [.d (.bool true), .d (.bool false)]) (ea_cons (ev_call G5 r16 (ea_cons ev_unit (ea_cons (ev_new0 Gc (hr.mono (by decide))) (ea_cons ev_unit ea_nil))) ⟨treeD [], [], [], linesD [], true, rfl, treeD_is tree_0, fits_0 [], askOut_lines (by decide), ?_, rfl⟩)
            (ea_cons (ev_call G5 r16 (ea_cons (ev_var 0 rfl) (ea_cons (ev_new0 Gc (hr.mono (by decide))) (ea_cons (ev_single (ev_var 4 rfl)) ea_nil))) ⟨treeD tH, tH, [], linesD [lT], false, rfl, hT, fits_0 tH, askOut_lines (by decide), ?_, rfl⟩) ea_nil)) rfl (by show 2 ≤ sizeLine; decide))))) ?_ sc59.nd
          · rw [outP_resp tree_0 (fits_0 [])]
            exact ⟨fun _ => resp_00, fun _ => rfl⟩
          · rw [outP_resp tree_H (fits_0 tH)]
            exact ⟨fun h => (nomatch h), fun h => by have := h.perm.length_eq; cases this⟩
          · refine sts_let (x := .d (.list [.bool true, .bool false, .bool true, .bool false, .bool false])) 9 (EvF.d (ef_cat (ds := [.bool true, .bool false, .bool true, .bool false]) (es := [.bool false]) (by show 5 ≤ sizeLine; decide) (ev_var 9 rfl) (EvF.d (ef_list (xs := [.d (.bool false)]) (ea_cons (ev_call G5 r16 (ea_cons ev_unit (ea_cons (ev_new0 Gc (hr.mono (by decide))) (ea_cons (EvF.d (ef_list (xs := []) ea_nil rfl)) ea_nil))) ⟨treeD [], [], [], .list [], false, rfl, treeD_is tree_0, fits_0 [], askOut_else (okD_list.mpr fun _ h => (nomatch h)) fun xs q => (nomatch q), ?_, rfl⟩) ea_nil) rfl (by show 1 ≤ sizeLine; decide))))) ?_ sc59.nd
            · refine ⟨fun h => (nomatch h), fun h => ?_⟩
              obtain ⟨ls, e, _⟩ := h
              cases e
            · refine sts_ret (ev_call (G4 1 (by decide)) (hr.mono (by decide)) (ea_cons (ev_var 9 rfl) (ea_cons (EvF.d (ef_list (xs := [.d (.bool true), .d (.bool false), .d (.bool true), .d (.bool false), .d (.bool false)]) (ea_cons ev_bool (ea_cons ev_bool (ea_cons ev_bool (ea_cons ev_bool (ea_cons ev_bool ea_nil))))) rfl (by show 5 ≤ sizeLine; decide))) ea_nil)) ⟨_, rfl, okD_list.mpr fun x hx => ?_, rfl⟩) .rt
              simp only [List.mem_cons, List.not_mem_nil, or_false] at hx
              rcases hx with e | e | e | e | e <;> (subst e; exact okD_bool _)
end
end DL
set_option maxRecDepth 100000
set_option maxHeartbeats 4000000
/-! the urn layer, 3: whole numbers; _law_take -/
namespace DL
open PySem PySem.Spec PyProof.Rows L2 SlX
/-- a whole number of which S holds -/
def IP (S : Int → Prop) : DV → Prop := fun y => ∃ z : Int, y = .d (.int z) ∧ S z
section
variable {C u : Addr} {X : Cx} {e a b : Expr} {es : List Expr} {ss : List Stmt} {ρ : List Sl} {n n1 n2 : Nat} {pos p p2 : Pos} {S T U : Int → Prop} {R : DV → Prop} {Φ : OutN → Nat → Prop}
theorem evn_op2 {op : Operator} {r : Int → Int → V} {Cc : Int → Int → Prop} (ho : OpR X (binaryOp op) (rI Cc r)) (hr : ∀ x y, S x → T y → Cc x y ∧ ∃ z, r x y = .int z ∧ U z) (ha : EvN C X u a ρ n n1 (IP S)) (hb : EvN C X u b ρ n1 n2 (IP T)) : EvN C X u (.BinOp a op b pos) ρ n n2 (IP U) :=
  pe_weak (pe_op ho ha hb) fun σ H Q ⟨H0, B, N, k⟩ => ⟨H0, B, N, fun y v B1 H1 hy s1 r1 => ⟨H0, B1, N.step s1, fun w v2 B2 H2 hw s2 r2 => by
    obtain ⟨i, rfl, hi⟩ := hy
    obtain ⟨j, rfl, hj⟩ := hw
    cases r1
    cases r2
    obtain ⟨h1, z, h2, h3⟩ := hr i j hi hj
    exact ⟨i, j, rfl, rfl, h1, by rw [h2]; exact k (.d (.int z)) _ B2 H2 ⟨z, rfl, h3⟩ (s1.trans N.hb s2) (Dt.int z)⟩⟩⟩
theorem evn_op20 {op : Operator} {r : Int → Int → V} (ho : OpR X (binaryOp op) (rI0 r)) (hr : ∀ x y, S x → T y → ∃ z, r x y = .int z ∧ U z) (ha : EvN C X u a ρ n n1 (IP S)) (hb : EvN C X u b ρ n1 n2 (IP T)) : EvN C X u (.BinOp a op b pos) ρ n n2 (IP U) :=
  pe_weak (pe_op ho ha hb) fun σ H Q ⟨H0, B, N, k⟩ => ⟨H0, B, N, fun y v B1 H1 hy s1 r1 => ⟨H0, B1, N.step s1, fun w v2 B2 H2 hw s2 r2 => by
    obtain ⟨i, rfl, hi⟩ := hy
    obtain ⟨j, rfl, hj⟩ := hw
    cases r1
    cases r2
    obtain ⟨z, h2, h3⟩ := hr i j hi hj
    exact ⟨i, j, rfl, rfl, by rw [h2]; exact k (.d (.int z)) _ B2 H2 ⟨z, rfl, h3⟩ (s1.trans N.hb s2) (Dt.int z)⟩⟩⟩
theorem evn_add (h : ∀ x y, S x → T y → U (x + y)) (ha : EvN C X u a ρ n n1 (IP S)) (hb : EvN C X u b ρ n1 n2 (IP T)) : EvN C X u (.BinOp a .Add b pos) ρ n n2 (IP U) := evn_op20 op_add (fun x y hx hy => ⟨_, rfl, h x y hx hy⟩) ha hb
theorem evn_mul (h : ∀ x y, S x → T y → CMul x y ∧ U (x * y)) (ha : EvN C X u a ρ n n1 (IP S)) (hb : EvN C X u b ρ n1 n2 (IP T)) : EvN C X u (.BinOp a .Mult b pos) ρ n n2 (IP U) := evn_op2 op_mul (fun x y hx hy => ⟨(h x y hx hy).1, _, rfl, (h x y hx hy).2⟩) ha hb
theorem evn_mod (h : ∀ x y, S x → T y → 0 < y ∧ U (x % y)) (ha : EvN C X u a ρ n n1 (IP S)) (hb : EvN C X u b ρ n1 n2 (IP T)) : EvN C X u (.BinOp a .Mod b pos) ρ n n2 (IP U) := evn_op2 op_mod (fun x y hx hy => ⟨(h x y hx hy).1, _, rfl, (h x y hx hy).2⟩) ha hb
theorem evn_div (h : ∀ x y, S x → T y → (0 < y ∧ y < 1073741824) ∧ U (x / y)) (ha : EvN C X u a ρ n n1 (IP S)) (hb : EvN C X u b ρ n1 n2 (IP T)) : EvN C X u (.BinOp a .FloorDiv b pos) ρ n n2 (IP U) := evn_op2 op_fdiv (fun x y hx hy => ⟨(h x y hx hy).1, _, rfl, (h x y hx hy).2⟩) ha hb
theorem evn_num {i : Int} {j : Nat} : EvN C X u (.Constant (.int i) j pos) ρ n n (IP fun z => z = i) := evn_mono (evn_of ev_int) (fun y hy => ⟨i, hy, rfl⟩) (Nat.le_refl _)
theorem evn_int {z : Int} (h : Ev C X e ρ (.d (.int z))) : EvN C X u e ρ n n (IP fun w => w = z) := evn_mono (evn_of h) (fun y hy => ⟨z, hy, rfl⟩) (Nat.le_refl _)
theorem evn_toint (hm : X.mg "int" = none) (he : EvN C X u e ρ n n1 (IP S)) (hg : Gl X "int" := by rfl) (h1 : starEach [e] X.env = (false, eval e X.env) :: starEach [] X.env := by rfl) (hpl : (backTo pos (starEach [] X.env)).any (·.1) = false := by rfl) : EvN C X u (.Call (.Name "int" p) [e] [] pos) ρ n n1 (IP S) :=
  pe_weak (pe_callTy call_int1 hg hm boot_int (pa_cons he pa_nil h1) (by decide) (by decide) h1 hpl) fun σ H Q ⟨H0, B, N, k⟩ => ⟨H0, B, N, fun y v B1 H1 hy s1 r1 => by
    obtain ⟨z, rfl, hz⟩ := hy
    cases r1
    exact .inl ⟨z, rfl, k (.d (.int z)) _ B1 H1 ⟨z, rfl, hz⟩ s1 (Dt.int z)⟩⟩
/-- a number of the urn -/
def UrnR (n : Nat) (j : Nat) (z : Int) : Prop := 0 ≤ z ∧ (j = 1 → z < 4611686018427387904) ∧ (j = 2 → z ≤ n)
theorem urn_at {a b c : Int} {n : Nat} (k : UOk a b c n) {j : Nat} (hj : j < 3) : ∃ z, [V.int a, .int b, .int c][j]? = some (.int z) ∧ UrnR n j z := by
  have h3 : j = 0 ∨ j = 1 ∨ j = 2 := by omega
  rcases h3 with h | h | h
  · subst h
    exact ⟨a, rfl, k.a0, fun z => absurd z (by decide), fun z => absurd z (by decide)⟩
  · subst h
    exact ⟨b, rfl, k.b0, fun _ => k.b1, fun z => absurd z (by decide)⟩
  · subst h
    exact ⟨c, rfl, k.c0, fun z => absurd z (by decide), fun _ => k.c1⟩
theorem urn_put {a b c z : Int} {n m : Nat} (k : UOk a b c n) (hn : n ≤ m) {j : Nat} (hj : j < 3) (hz : UrnR m j z) : ixN [V.int a, .int b, .int c].length (j : Nat) = some j ∧ UrnO (.lst ([V.int a, .int b, .int c].set j (.int z))) m := by
  have c1 := k.c1
  have h3 : j = 0 ∨ j = 1 ∨ j = 2 := by omega
  rcases h3 with h | h | h
  · subst h
    exact ⟨rfl, z, b, c, rfl, hz.1, k.b0, k.b1, k.c0, by omega⟩
  · subst h
    exact ⟨rfl, a, z, c, rfl, k.a0, hz.1, hz.2.1 rfl, k.c0, by omega⟩
  · subst h
    exact ⟨rfl, a, b, z, rfl, k.a0, k.b0, k.b1, hz.1, hz.2.2 rfl⟩
theorem evn_rd {x : Str} (j : Nat) {q : Nat} (hj : j < 3) (h0 : ρ[0]? = some (.i (.at u))) (hN : X.N[0]? = some x := by rfl) (hv : Vis X.env.scope x := by first | exact Or.inl rfl | exact Or.inr (Or.inl rfl) | exact Or.inr (Or.inr rfl)) (hd : (x == ("__debug__" : Str)) = false := by decide) (hcd : (x == ("__classdict__" : Str)) = false := by decide) :
    EvN C X u (.Subscript (.Name x p) (.Constant (.int (j : Nat)) q p2) pos) ρ n n (IP (UrnR n j)) :=
  pe_weak (pe_ix ix_list (ev_var (C := C) 0 h0 hN hv hd hcd) (ev_int (C := C) (ρ := ρ)) (fun _ _ => rfl)) fun σ H Q ⟨H0, B, N, k⟩ => ⟨H0, B, N.ex, N.en, fun v B1 H1 s1 r1 => by
    have t1 := StepN.of N.ur s1
    have N1 := N.step t1
    refine ⟨H0, B1, N1.ex, N1.en, fun w B2 H2 s2 r2 => ?_⟩
    have t2 := t1.trans N.hb (.of N1.ur s2)
    have N2 := N.step t2
    cases r1
    cases r2
    obtain ⟨o, ho, a, b, c, rfl, k0⟩ := N2.ur
    have hsq : SqL X.K H2 u [V.int a, .int b, .int c] := sl_of ho
    obtain ⟨z, hz, hR⟩ := urn_at k0 hj
    exact ⟨u, _, _, _, rfl, rfl, hsq, atI_nat hz, k (.d (.int z)) _ B2 H2 ⟨z, rfl, hR⟩ t2 (Dt.int z)⟩⟩
/-- urn[j] = e -/
theorem stsn_store {x : Str} (j : Nat) {q : Nat} {m : Nat} (hj : j < 3) (h0 : ρ[0]? = some (.i (.at u))) (hm : n1 ≤ m) (he : EvN C X u e ρ n n1 (IP (UrnR m j))) (k : StsN C X u ss ρ m Φ) (hN : X.N[0]? = some x := by rfl) (hv : Vis X.env.scope x := by first | exact Or.inl rfl | exact Or.inr (Or.inl rfl) | exact Or.inr (Or.inr rfl)) (hd : (x == ("__debug__" : Str)) = false := by decide) (hcd : (x == ("__classdict__" : Str)) = false := by decide)
    (ha : ∀ v, assign (.Subscript (.Name x p) (.Constant (.int (j : Nat)) q p2) pos) X.env v = (do
      let ov ← holding [v] (eval (.Name x p) X.env)
      let iv ← holding [v, ov] (eval (.Constant (.int (j : Nat)) q p2) X.env)
      standAt pos
      holding [v, ov, iv] (setItem ov iv v)
      release [v, ov, iv] []) := by intro _; rfl) {ps : Pos}
    (hs : swapsWithSole [.Subscript (.Name x p) (.Constant (.int (j : Nat)) q p2) pos] e ps.line X.env = pure false := by rfl) (hw : swappedStores [.Subscript (.Name x p) (.Constant (.int (j : Nat)) q p2) pos] e X.env = pure none := by rfl)
    (h1 : (assignEach [.Subscript (.Name x p) (.Constant (.int (j : Nat)) q p2) pos] X.env).map (·.2) = [assign (.Subscript (.Name x p) (.Constant (.int (j : Nat)) q p2) pos) X.env] := by rfl) :
    StsN C X u (.Assign [.Subscript (.Name x p) (.Constant (.int (j : Nat)) q p2) pos] e ps :: ss) ρ n Φ :=
  stsn_cons (ps_weak (ps_asg he (pg_sub (ev_var (C := C) 0 h0 hN hv hd hcd) (ev_int (C := C) (ρ := ρ)) set_list ha) hs hw h1) fun D σ H ⟨B0, H0, B, bd, k1, _⟩ => ⟨H0, B, bd.N, fun y v B1 H1 hy s1 r1 => by
    obtain ⟨z, rfl, hz⟩ := hy
    cases r1
    have b1 := bd.to s1 (bd.en.stepN bd.h0 s1)
    refine ⟨H0, B1, b1.N.ex, b1.en, fun v2 B2 H2 s2 r2 => ?_⟩
    have t2 := StepN.of b1.N.ur s2
    have b2 := b1.to t2 (b1.en.stepN b1.h0 t2)
    refine ⟨H0, B2, b2.N.ex, b2.en, fun w B3 H3 s3 r3 => ?_⟩
    have t3 := StepN.of b2.N.ur s3
    have b3 := b2.to t3 (b2.en.stepN b2.h0 t3)
    cases r2
    cases r3
    obtain ⟨o, ho, a, b, c, rfl, k0⟩ := b3.N.ur
    have key : ∀ (xs : List V) (j' : Nat), UrnO (.lst xs) m → StepN u m B3 H3 B3 (upd H3 u (.lst xs)) := fun xs _ ho => ⟨.lst xs, ho, Step.refl (fun a w q => by
      rw [upd_ne (fun z => by rw [z, b3.N.hb] at q; cases q)]
      exact b3.N.ex a w q)⟩
    have done : ∀ xs, UrnO (.lst xs) m → D.nx σ (upd H3 u (.lst xs)) := fun xs ho => by
      have t := key xs 0 ho
      exact k1 _ B3 _ _ m (b3.to t (b3.en.stepN b3.h0 t)) (s1.b.trans (s2.b.trans s3.b)) k
    obtain ⟨g1, g2⟩ := urn_put k0 hm hj hz
    exact ⟨u, _, _, j, rfl, rfl, ho, g1, done _ g2⟩⟩)
end
section
variable {P : Program} {w : World} {K : PySem.W.Frag} {mg : Str → Option Value} {base : Heap} {C : Addr} {f : Addr} {fd : FuncData}
/-! ### _law_take -/
theorem sc43 : FnScope ["_law_urn", "_law_low_so", "_law_drawn", "_law_once", "_law_far", "_law_twice"] ["_law_urn", "_law_low_so"] (defScope (top 43)) := ⟨rfl, rfl, rfl, by decide +kernel, rfl, by decide +kernel, by decide +kernel⟩
def preTake (xs : List DV) : Prop := ∃ low : Nat, xs = [.d (.int (low : Nat))] ∧ 1 ≤ low ∧ low ≤ 1000
def postTake (xs : List DV) (y : DV) : Prop := ∃ low r : Nat, xs = [.d (.int (low : Nat))] ∧ r < low ∧ y = .d (.int (r : Nat))
theorem ok_take (F : Fun K "_law_take" "_law_take" (top 43) f fd) (M : Mg mg) : FnOk P w K mg base CX0 1 f fd ["_law_urn", "_law_low_so"] (spN ⟨P, w, K, C⟩ 1 preTake postTake) := by
  refine fn_N F sc43 (fun xs h => by obtain ⟨low, rfl, _⟩ := h; rfl) (fun cdv A outer s H E u n xs hr hn h => ?_)
  obtain ⟨low, rfl, hl1, hl2⟩ := h
  refine stsn_if (T := fun _ => True) (evtn_cmp (y := .d (.int 0)) op_gt (fun z hz => ?_) (evn_rd 0 (by decide) rfl) ev_int) (fun _ => ?_) (fun _ => ?_)
  · obtain ⟨i, rfl, _⟩ := hz
    exact ⟨_, trivial, r2_I0 fun H => Dt.bl _⟩
  · refine stsn_let 2 (evn_mod (S := UrnR n 0) (T := fun z => z = (low : Nat)) (U := fun z => 0 ≤ z ∧ z < (low : Nat)) (fun x y hx hy => ?_) (evn_toint M.int (evn_rd 0 (by decide) rfl)) (evn_int (ev_var 1 rfl))) (fun y hy => ?_) sc43.nd
    · subst hy
      exact ⟨by omega, Int.emod_nonneg _ (by omega), Int.emod_lt_of_pos _ (by omega)⟩
    · obtain ⟨z, rfl, hz0, hz1⟩ := hy
      refine stsn_store 0 (m := n) (by decide) rfl (Nat.le_refl _) (evn_div (S := UrnR n 0) (T := fun z => z = (low : Nat)) (fun x y hx hy => ?_) (evn_rd 0 (by decide) rfl) (evn_int (ev_var 1 rfl))) ?_
      · subst hy
        exact ⟨⟨by omega, by omega⟩, Int.ediv_nonneg hx.1 (by omega), fun z => (nomatch z), fun z => (nomatch z)⟩
      · refine stsn_ret (evn_of (ev_var 2 rfl)) fun y hy => ⟨y, rfl, ⟨low, z.toNat, rfl, by omega, ?_⟩, by omega⟩
        rw [hy, Int.toNat_of_nonneg hz0]
  · refine stsn_nil (stsn_store 2 (m := n + 1) (by decide) rfl (by omega) (evn_add (S := UrnR n 2) (T := fun z => z = 1) (fun x y hx hy => ?_) (evn_rd 2 (by decide) rfl) evn_num) ?_)
    · subst hy
      have h1 := hx.1
      have h2 := hx.2.2 rfl
      exact ⟨by omega, fun z => by omega, fun _ => by omega⟩
    · refine stsn_let 3 (evn_mod (S := fun _ => True) (T := fun z => z = 2147483647) (U := fun z => 0 ≤ z ∧ z < 2147483647) (fun x y hx hy => ?_) (evn_toint M.int (evn_mul (S := fun _ => True) (T := fun z => 0 ≤ z ∧ z ≤ 100000) (U := fun _ => True) (fun x y hx hy => ?_) (evn_add (S := UrnR (n + 1) 1) (T := fun _ => True) (fun _ _ _ _ => trivial) (evn_rd 1 (by decide) rfl) (evn_mul (S := fun z => z = 48271) (T := UrnR (n + 1) 2) (U := fun _ => True) (fun x y hx hy => ?_) evn_num (evn_rd 2 (by decide) rfl)))
          (evn_add (S := fun z => z = 39373) (T := UrnR (n + 1) 2) (fun x y hx hy => ?_) evn_num (evn_rd 2 (by decide) rfl)))) evn_num) (fun y hy => ?_) sc43.nd
      · subst hy
        exact ⟨by decide, Int.emod_nonneg _ (by decide), Int.emod_lt_of_pos _ (by decide)⟩
      · exact ⟨.inr ⟨by omega, by omega⟩, trivial⟩
      · subst hx
        exact ⟨.inl ⟨by decide, by decide⟩, trivial⟩
      · subst hx
        have h1 := hy.1
        have h2 := hy.2.2 rfl
        exact ⟨by omega, by omega⟩
      · obtain ⟨z3, rfl, h30, h31⟩ := hy
        refine stsn_let 4 (evn_add (S := fun z => 0 ≤ z ∧ z < 40009) (T := fun z => z = 7) (U := fun z => 0 ≤ z ∧ z < 50000) (fun x y hx hy => by omega) (evn_mod (S := fun _ => True) (T := fun z => z = 40009) (fun x y hx hy => ?_) (evn_toint M.int (evn_mono (evn_int (ev_var 3 rfl)) (fun y ⟨z, hz, _⟩ => ⟨z, hz, trivial⟩) (Nat.le_refl _))) evn_num) evn_num) (fun y hy => ?_) sc43.nd
        · subst hy
          exact ⟨by decide, Int.emod_nonneg _ (by decide), Int.emod_lt_of_pos _ (by decide)⟩
        · obtain ⟨z4, rfl, h40, h41⟩ := hy
          refine stsn_let 5 (evn_mod (S := fun _ => True) (T := fun z => z = 2147483629) (U := fun z => 0 ≤ z ∧ z < 2147483629) (fun x y hx hy => ?_) (evn_toint M.int (evn_mul (S := fun _ => True) (T := fun z => z = z4) (U := fun _ => True) (fun x y hx hy => ?_) (evn_add (S := fun _ => True) (T := fun _ => True) (fun _ _ _ _ => trivial) (evn_add (S := fun z => z = z3) (T := UrnR (n + 1) 2) (fun _ _ _ _ => trivial) (evn_int (ev_var 3 rfl)) (evn_rd 2 (by decide) rfl))
              (evn_div (S := UrnR (n + 1) 1) (T := fun z => z = 1000003) (U := fun _ => True) (fun x y hx hy => ?_) (evn_rd 1 (by decide) rfl) evn_num)) (evn_int (ev_var 4 rfl)))) evn_num) (fun y hy => ?_) sc43.nd
          · subst hy
            exact ⟨by decide, Int.emod_nonneg _ (by decide), Int.emod_lt_of_pos _ (by decide)⟩
          · subst hy
            exact ⟨.inr ⟨by omega, by omega⟩, trivial⟩
          · subst hy
            exact ⟨⟨by decide, by decide⟩, trivial⟩
          · obtain ⟨z5, rfl, h50, h51⟩ := hy
            refine stsn_ret (evn_mod (S := fun _ => True) (T := fun z => z = (low : Nat)) (U := fun z => 0 ≤ z ∧ z < (low : Nat)) (fun x y hx hy => ?_) (evn_toint M.int (evn_div (S := fun _ => True) (T := fun z => z = 64) (U := fun _ => True) (fun x y hx hy => ?_) (evn_mod (S := fun _ => True) (T := fun z => z = 2147483587) (U := fun _ => True) (fun x y hx hy => ?_) (evn_toint M.int (evn_add (S := fun _ => True) (T := fun z => z = z3) (fun _ _ _ _ => trivial) (evn_mul (S := fun z => z = z5) (T := fun z => z = 48271) (U := fun _ => True) (fun x y hx hy => ?_) (evn_int (ev_var 5 rfl)) evn_num) (evn_int (ev_var 3 rfl)))) evn_num) evn_num)) (evn_int (ev_var 1 rfl))) (fun y hy => ?_)
            · subst hy
              exact ⟨by omega, Int.emod_nonneg _ (by omega), Int.emod_lt_of_pos _ (by omega)⟩
            · subst hy
              exact ⟨⟨by decide, by decide⟩, trivial⟩
            · subst hy
              exact ⟨by decide, trivial⟩
            · subst hy
              exact ⟨.inr ⟨by decide, by decide⟩, trivial⟩
            · obtain ⟨z, rfl, hz0, hz1⟩ := hy
              refine ⟨_, rfl, ⟨low, z.toNat, rfl, by omega, ?_⟩, Nat.le_refl _⟩
              rw [Int.toNat_of_nonneg hz0]
end
end DL
set_option maxRecDepth 100000
set_option maxHeartbeats 4000000
/-! the urn layer, 4: _law_of, _law_mixed -/
namespace DL
open PySem PySem.Spec PyProof.Rows L2 SlX
theorem r2_ixL {c : Ct} {ds : List D} {d : D} {i : Int} (h : atI ds i = some d) : R2D c (rIxL c.K) (.d (.list ds)) (.d (.int i)) (.d d) := fun B H v w Q ex r1 r2 k => by
  cases r1 with
  | @lst p xs _ h1 a1 =>
    cases r2
    obtain ⟨j, hj, hd, _⟩ := atI_get h
    unfold atI at h
    obtain ⟨j, hj, hd⟩ := Option.bind_eq_some_iff.mp h
    obtain ⟨u, hu, ru⟩ := dtall_at a1 hd
    have hl := dtall_len a1
    exact ⟨p, xs, i, u, rfl, rfl, sl_of (ex _ _ h1), by unfold atI; rw [hl, hj]; exact hu, k u B H (Step.refl ex) ru⟩
section
variable {C u : Addr} {X : Cx} {e a b : Expr} {es : List Expr} {ss : List Stmt} {ρ : List Sl} {n n1 n2 : Nat} {pos p p2 : Pos} {Φ : OutN → Nat → Prop}
abbrev GTake (P : Program) (w : World) (K : PySem.W.Frag) (mg : Str → Option Value) (base : Heap) (C : Addr) : Prop := Gf P w K mg base "_law_take" 1 (spN ⟨P, w, K, C⟩ 1 preTake postTake)
/-- take(urn, e) -/
theorem evn_take {k low : Nat} {x : Str} (G : GTake X.prog X.w X.K X.mg X.base C) (hr : Room k X.A) (hk : 1 ≤ k) (h0 : ρ[0]? = some (.i (.at u))) (he : Ev C X e ρ (.d (.int (low : Nat)))) (h1 : 1 ≤ low) (h2 : low ≤ 1000) (hn : n + 1 ≤ 1000)
    (hN : X.N[0]? = some x := by rfl) (hv : Vis X.env.scope x := by first | exact Or.inl rfl | exact Or.inr (Or.inl rfl) | exact Or.inr (Or.inr rfl)) (hd : (x == ("__debug__" : Str)) = false := by decide) (hcd : (x == ("__classdict__" : Str)) = false := by decide)
    (hg : Gl X "_law_take" := by rfl) (he1 : starEach [.Name x p2, e] X.env = (false, eval (.Name x p2) X.env) :: starEach [e] X.env := by rfl) (he2 : starEach [e] X.env = (false, eval e X.env) :: starEach [] X.env := by rfl) (hpl : (backTo pos (starEach [e] X.env)).any (·.1) = false := by rfl) :
    EvN C X u (.Call (.Name "_law_take" p) [.Name x p2, e] [] pos) ρ n (n + 1) (fun y => ∃ r : Nat, r < low ∧ y = .d (.int (r : Nat))) :=
  evn_call G (hr.mono hk) (ean_cons (evn_of (ev_var 0 h0 hN hv hd hcd)) (ean_cons (evn_of he) ean_nil he2) he1) hn (fun xs hx => by
    obtain ⟨y, r, rfl, rfl, z, r', rfl, rfl, rfl⟩ := hx
    refine ⟨_, rfl, ⟨low, rfl, h1, h2⟩, fun y hy => ?_⟩
    obtain ⟨low', r, e1, hr2, rfl⟩ := hy
    have e2 : ((low : Nat) : Int) = (low' : Nat) := by
      have := (List.cons.inj e1).1
      injection this with this
      injection this
    exact ⟨r, by omega, rfl⟩) hg (by decide) he1 hpl
end
section
variable {P : Program} {w : World} {K : PySem.W.Frag} {mg : Str → Option Value} {base : Heap} {C : Addr} {f : Addr} {fd : FuncData}
/-! ### _law_of -/
theorem sc45 : FnScope ["_law_urn", "_law_some_so"] ["_law_urn", "_law_some_so"] (defScope (top 45)) := ⟨rfl, rfl, rfl, by decide +kernel, rfl, by decide +kernel, by decide +kernel⟩
def preOf (xs : List DV) : Prop := ∃ ds : List D, xs = [.d (.list ds)] ∧ 1 ≤ ds.length ∧ ds.length ≤ 1000
def postOf (xs : List DV) (y : DV) : Prop := ∃ (ds : List D) (d : D), xs = [.d (.list ds)] ∧ d ∈ ds ∧ y = .d d
theorem ok_lof (F : Fun K "_law_of" "_law_of" (top 45) f fd) (M : Mg mg) (G : GTake P w K mg base C) : FnOk P w K mg base CX0 2 f fd ["_law_urn", "_law_some_so"] (spN ⟨P, w, K, C⟩ 1 preOf postOf) := by
  refine fn_N F sc45 (fun xs h => by obtain ⟨low, rfl, _⟩ := h; rfl) (fun cdv A outer s H E u n xs hr hn h => ?_)
  obtain ⟨ds, rfl, hl1, hl2⟩ := h
  refine stsn_ret (R := fun y => ∃ d, d ∈ ds ∧ y = .d d) (evn_ix ix_list (fun z hz => ?_) (ev_var 1 rfl) (evn_take G hr (by decide) rfl (ev_len_list (ev_var 1 rfl) M.len) hl1 hl2 hn)) fun y hy => ?_
  · obtain ⟨r, hr2, rfl⟩ := hz
    exact ⟨.d ds[r], ⟨_, List.getElem_mem hr2, rfl⟩, r2_ixL (atI_nat (List.getElem?_eq_getElem hr2))⟩
  · obtain ⟨d, hd, rfl⟩ := hy
    exact ⟨_, rfl, ⟨ds, d, rfl, hd, rfl⟩, Nat.le_refl _⟩
end
section
variable {C u : Addr} {X : Cx} {e a b : Expr} {es : List Expr} {ss : List Stmt} {ρ : List Sl} {n n1 n2 : Nat} {pos p p2 : Pos} {Φ : OutN → Nat → Prop}
abbrev GOf (P : Program) (w : World) (K : PySem.W.Frag) (mg : Str → Option Value) (base : Heap) (C : Addr) : Prop := Gf P w K mg base "_law_of" 2 (spN ⟨P, w, K, C⟩ 1 preOf postOf)
theorem evn_lof {k : Nat} {x : Str} {ds : List D} (G : GOf X.prog X.w X.K X.mg X.base C) (hr : Room k X.A) (hk : 2 ≤ k) (h0 : ρ[0]? = some (.i (.at u))) (he : Ev C X e ρ (.d (.list ds))) (h1 : 1 ≤ ds.length) (h2 : ds.length ≤ 1000) (hn : n + 1 ≤ 1000)
    (hN : X.N[0]? = some x := by rfl) (hv : Vis X.env.scope x := by first | exact Or.inl rfl | exact Or.inr (Or.inl rfl) | exact Or.inr (Or.inr rfl)) (hd : (x == ("__debug__" : Str)) = false := by decide) (hcd : (x == ("__classdict__" : Str)) = false := by decide)
    (hg : Gl X "_law_of" := by rfl) (he1 : starEach [.Name x p2, e] X.env = (false, eval (.Name x p2) X.env) :: starEach [e] X.env := by rfl) (he2 : starEach [e] X.env = (false, eval e X.env) :: starEach [] X.env := by rfl) (hpl : (backTo pos (starEach [e] X.env)).any (·.1) = false := by rfl) :
    EvN C X u (.Call (.Name "_law_of" p) [.Name x p2, e] [] pos) ρ n (n + 1) (fun y => ∃ d, d ∈ ds ∧ y = .d d) :=
  evn_call G (hr.mono hk) (ean_cons (evn_of (ev_var 0 h0 hN hv hd hcd)) (ean_cons (evn_of he) ean_nil he2) he1) hn (fun xs hx => by
    obtain ⟨y, r, rfl, rfl, z, r', rfl, rfl, rfl⟩ := hx
    refine ⟨_, rfl, ⟨ds, rfl, h1, h2⟩, fun y hy => ?_⟩
    obtain ⟨ds', d, e1, hd2, rfl⟩ := hy
    have e2 : ds = ds' := by
      have := (List.cons.inj e1).1
      injection this with this
      injection this
    exact ⟨d, by rw [e2]; exact hd2, rfl⟩) hg (by decide) he1 hpl
/-- name.append(other.pop(e)) -/
theorem stsn_apop (i j : Nat) {nm om : Str} {xs ys : List D} {p1 p2 p3 p4 p5 p6 : Pos} (hij : i ≠ j) (h : ρ[i]? = some (.ml xs)) (h' : ρ[j]? = some (.ml ys)) (hz : xs.length < sizeLine) (hy : ys.length ≤ 1000000) (he : EvN C X u e ρ n n1 (fun y => ∃ r : Nat, r < ys.length ∧ y = .d (.int (r : Nat)))) (k : ∀ (r : Nat) (d : D), ys[r]? = some d → StsN C X u ss ((ρ.set j (.ml (ys.eraseIdx r))).set i (.ml (xs ++ [d]))) n1 Φ)
    (hp : PS X (.Expr (.Call (.Attribute (.Name nm p1) "append" p2) [.Call (.Attribute (.Name om p4) "pop" p5) [e] [] p6] [] p3) pos) (tDrop (tBM X.K "list" rAppend (tVar i) (tCons (tBM X.K "list" rPopAt (tVar j) (tCons (tN (ct X C) u ρ n n1 (fun y => ∃ r : Nat, r < ys.length ∧ y = .d (.int (r : Nat)))) tNil)) tNil)))) :
    StsN C X u (.Expr (.Call (.Attribute (.Name nm p1) "append" p2) [.Call (.Attribute (.Name om p4) "pop" p5) [e] [] p6] [] p3) pos :: ss) ρ n Φ :=
  stsn_cons (ps_weak hp fun D σ H ⟨B0, H0, B, b, k1, _⟩ => by
    obtain ⟨a, vs, ea, g1, g2, g3, g4⟩ := b.en.at_ i _ h
    obtain ⟨a2, vs2, ea2, q1, q2, q3, q4⟩ := b.en.at_ j _ h'
    have ev : σ[i]? = some (some (.ref a)) := EnvOk.val (c := ct X C) (H0 := H0) (B := B) (H := H) ea
    have ev2 : σ[j]? = some (some (.ref a2)) := EnvOk.val (c := ct X C) (H0 := H0) (B := B) (H := H) ea2
    refine ⟨.ref a, ev, .inl ⟨rfl, _, .inl (.inl g3)⟩, .ref a2, ev2, .inl ⟨rfl, _, .inl (.inl q3)⟩, H0, B, b.N, fun y v B' H' hyv s1 r1 => ?_⟩
    obtain ⟨r, hr, rfl⟩ := hyv
    cases r1
    have b1 := b.to s1 (b.en.stepN b.h0 s1)
    obtain ⟨a', vs', ea', m1, m2, m3, m4⟩ := b1.en.at_ i _ h
    rw [ea] at ea'
    cases ea'
    obtain ⟨a2', ws, ea2', w1, w2, w3, w4⟩ := b1.en.at_ j _ h'
    rw [ea2] at ea2'
    cases ea2'
    have hwl := dtall_len w4
    have hat : atI ys (r : Int) = some ys[r] := atI_nat (List.getElem?_eq_getElem hr)
    obtain ⟨v, hv, rv⟩ := dtall_at w4 (List.getElem?_eq_getElem hr)
    have hsi : seqIndex? (r : Int) ws.length = some r := by
      have := PySem.seqIndex_of (k := (r : Int)) (n := ws.length) (by omega) (by rw [hwl]; omega)
      rw [this]
      rfl
    refine ⟨a2, ws, (r : Int), r, v, rfl, rfl, w3, by omega, by omega, hsi, hv, ?_⟩
    have ne : a ≠ a2 := fun z => b1.en.dis i j _ _ a hij h h' rfl rfl ea (by rw [ea2, z])
    refine ⟨a, vs', v, rfl, rfl, by rw [upd_ne ne]; exact m3, by rw [dtall_len m4]; exact hz, ?_⟩
    have e1 := b1.en.mutate (s' := .ml (ys.eraseIdx r)) h' rfl ea2 ⟨a2, _, rfl, w1, w2, upd_same, dtall_eraseIdx r w4⟩ rfl
    have hi' : (ρ.set j (.ml (ys.eraseIdx r)))[i]? = some (.ml xs) := by rw [List.getElem?_set_ne (Ne.symm hij)]; exact h
    have e2 := e1.mutate (u := .lst (vs' ++ [v])) (s' := .ml (xs ++ [ys[r]])) hi' rfl ea ⟨a, _, rfl, m1, m2, upd_same, dtall_append m4 (dtall_one rv)⟩ rfl
    obtain ⟨o, ho, st⟩ := b1.st
    have au : a ≠ u := fun z => b.h0 (z ▸ m2)
    have au2 : a2 ≠ u := fun z => b.h0 (z ▸ w2)
    have sm := st.mut (o := .lst (ws.eraseIdx r)) w1 (by rw [upd_ne au2]; exact w2)
    have sm2 := sm.mut (o := .lst (vs' ++ [v])) m1 (by rw [upd_ne au]; exact m2)
    exact k1 σ B' _ _ n1 ⟨b.ex, b.hb0, b.h0, ⟨o, ho, sm2⟩, e2⟩ s1.b (k r _ (List.getElem?_eq_getElem hr)))
end
section
variable {P : Program} {w : World} {K : PySem.W.Frag} {mg : Str → Option Value} {base : Heap} {C : Addr} {f : Addr} {fd : FuncData}
/-! ### _law_mixed -/
theorem sc48 : FnScope ["_law_urn", "_law_pool", "_law_rest_so", "_law_found", "_law_turn"] ["_law_urn", "_law_pool"] (defScope (top 48)) := ⟨rfl, rfl, rfl, by decide +kernel, rfl, by decide +kernel, by decide +kernel⟩
def preMix (xs : List DV) : Prop := ∃ ds : List D, xs = [.d (.list ds)] ∧ ds.length ≤ 10
def postMix (xs : List DV) (y : DV) : Prop := ∃ ds ds' : List D, xs = [.d (.list ds)] ∧ ds'.Perm ds ∧ y = .d (.list ds')
theorem erase_perm {α : Type} {b ys : List α} {r : Nat} {d : α} (h : ys[r]? = some d) : ((b ++ [d]) ++ ys.eraseIdx r).Perm (b ++ ys) := by
  obtain ⟨hr, e⟩ := List.getElem?_eq_some_iff.mp h
  have h1 : ys = ys.take r ++ d :: ys.drop (r + 1) := by
    rw [← e, ← List.drop_eq_getElem_cons hr, List.take_append_drop]
  have h2 : ys.eraseIdx r = ys.take r ++ ys.drop (r + 1) := List.eraseIdx_eq_take_drop_succ ..
  rw [List.append_assoc, h2]
  conv => rhs; rw [h1]
  exact List.Perm.append_left b (List.perm_middle (a := d) (l₁ := ys.take r) (l₂ := ys.drop (r + 1))).symm
theorem ok_mixed (F : Fun K "_law_mixed" "_law_mixed" (top 48) f fd) (M : Mg mg) (G : GTake P w K mg base C) : FnOk P w K mg base CX0 2 f fd ["_law_urn", "_law_pool"] (spN ⟨P, w, K, C⟩ 10 preMix postMix) := by
  refine fn_N F sc48 (fun xs h => by obtain ⟨ds, rfl, _⟩ := h; rfl) (fun cdv A outer s H E u n xs hr hn h => ?_)
  obtain ⟨ds, rfl, hl⟩ := h
  refine stsn_step (ρ' := [.i (.at u), .i (.d (.list ds)), .ml ds, .ml [], .no]) (sts_par 2 3 (s := .ml ds) (t := .ml []) (ef_list_of false (ev_var 1 rfl) M.list).s (EvF.s (ef_list (xs := []) ea_nil rfl)) (sts_nil rfl) sc48.nd) ?_
  refine stsn_for (fun _ i ρ m => ∃ a b s4, (b ++ a).Perm ds ∧ b.length = i ∧ m = n + i ∧ ρ = [.i (.at u), .i (.d (.list ds)), .ml a, .ml b, s4]) (fun z ρ => ρ.set 4 (.i (.d z))) (ein_of (ei_range (n := ds.length) M.range (sizeLine_big (by omega)) (ev_len_list (ev_var 1 rfl) M.len))) ?_ ?_ ?_ ?_
  · rintro _ rfl
    exact ⟨ds, [], .no, .refl _, rfl, rfl, rfl⟩
  · rintro _ i z ρi m rfl hz ⟨a, b, s4, hp, hb, rfl, rfl⟩
    exact ⟨_, eg_name 4 sc48.nd⟩
  · rintro _ i z ρi m rfl hz ⟨a, b, s4, hp, hb, rfl, rfl⟩
    have hi : i < ds.length := by
      have := (List.getElem?_eq_some_iff.mp hz).1
      rw [natsD_len] at this
      exact this
    have hpl := hp.length_eq
    rw [List.length_append, hb] at hpl
    refine stsn_apop 3 2 (xs := b) (ys := a) (by decide) rfl rfl (Nat.lt_of_lt_of_le (by omega) (sizeLine_big (n := 1000) (by decide))) (by omega) (evn_take (low := a.length) G hr (by decide) rfl (ev_frz 2 (xs := a) rfl (ev_len_list (ev_var 2 rfl) M.len)) (by omega) (by omega) (by omega)) (fun r d hd => stsn_nil ⟨a.eraseIdx r, b ++ [d], .i (.d z), (erase_perm hd).trans hp, by rw [List.length_append, hb]; rfl, by omega, rfl⟩)
      (ps_expr (pe_bm PySem.F.plainAttrs_list PySem.F.slot_list_append PySem.F.type_list_append mt_append (pe_var rfl (Or.inl rfl) (by decide) (by decide)) (pa_cons (pe_bm PySem.F.plainAttrs_list PySem.F.slot_list_pop PySem.F.type_list_pop mt_popAt (pe_var rfl (Or.inl rfl) (by decide) (by decide)) (pa_cons (evn_take (low := a.length) G hr (by decide) rfl (ev_frz 2 (xs := a) rfl (ev_len_list (ev_var 2 rfl) M.len)) (by omega) (by omega) (by omega)) pa_nil)) pa_nil)))
  · rintro _ ρn m rfl ⟨a, b, s4, hp, hb, rfl, rfl⟩
    rw [natsD_len] at hb
    have hpl := hp.length_eq
    rw [List.length_append, hb] at hpl
    have ha : a = [] := List.eq_nil_of_length_eq_zero (by omega)
    rw [ha, List.append_nil] at hp
    refine stsn_pure (Ξ := fun o => o = .rt (.d (.list b))) (sts_fix 3 rfl (sts_ret (ev_var 3 rfl) rfl)) fun o ho => .inr ⟨_, ho, _, rfl, ⟨ds, b, rfl, hp, rfl⟩, ?_⟩
    rw [natsD_len]
    omega
end
end DL
set_option maxRecDepth 100000
set_option maxHeartbeats 4000000
/-! the urn layer, 5: comprehensions, join, whole numbers -/
namespace DL
open PySem PySem.Spec PyProof.Rows L2 SlX
section
variable {C u : Addr} {X : Cx} {elt tg iter e a b : Expr} {ρ : List Sl} {n n1 n2 : Nat} {own : List (Str × Nat)} {scope : Scope} {pos p : Pos}
theorem StepN.stays {B H B' H' : Hp} {D : Addr} {w : HO} (s : StepN u n B H B' H') (hne : D ≠ u) (hb : B D = none) (hh : H D = some w) : B' D = none ∧ H' D = some w := by
  obtain ⟨o, _, s⟩ := s
  exact s.f D w hb (by rw [upd_ne hne]; exact hh)
theorem StepN.mut {B0 H0 B H : Hp} {p : Addr} {o : HO} (s : StepN u n B0 H0 B H) (hne : p ≠ u) (hb : B p = none) (h0 : H0 p = none) : StepN u n B0 H0 B (upd H p o) := by
  obtain ⟨o', k, s⟩ := s
  exact ⟨o', k, s.mut hb (by rw [upd_ne hne]; exact h0)⟩
theorem StepN.fresh {B H B' H' : Hp} {D : Addr} (s : StepN u n B H B' H') (hb : B u = none) (ex : Ex B H) (hd : H' D = none) : H D = none := by
  obtain ⟨o, ho, s⟩ := s
  have ex2 : Ex B (upd H u o) := fun a w q => by
    rw [upd_ne (fun z => by rw [z, hb] at q; cases q)]
    exact ex a w q
  have := (Step.ex ex2 s).free hd
  by_cases z : D = u
  · rw [z, upd_same] at this
    cases this
  · rw [upd_ne z] at this
    exact this
theorem efn_lc {T : List D → Prop} {Pd : D → Prop} {L : Nat} {ρ' : D → List Sl} {js : List Nat} (hc : X.calm = true) (hN : X.N.Nodup) (ok : BlkOk X.N X.env.scope scope own) (hjs : ∀ j ∈ js, j ∈ own.map (·.2)) (hi : EvIN C X u tg iter ρ n n1 T) (hT : ∀ ds, T ds → ds.length ≤ L)
    (hg : ∀ (s : Shared) (H : Hp) (Cc : Addr) (cl : List (Str × Addr)) (fp : List Addr), ∀ d, EvG C (X.blk s H scope (compEnvC scope cl Cc X.env) fp) tg (forgets ρ (own.map (·.2))) d (ρ' d) js)
    (he : ∀ (s : Shared) (H : Hp) (Cc : Addr) (cl : List (Str × Addr)) (fp : List Addr), ∀ d m, m < n1 + L → EvN C (X.blk s H scope (compEnvC scope cl Cc X.env) fp) u elt (ρ' d) m (m + 1) (fun y => ∃ z, Pd z ∧ y = .d z))
    (hs : ∀ x, foldedSetIterable iter X.env x = pure x := by intro _; rfl) : EvFN C X u (.ListComp elt [⟨tg, iter, [], 0⟩] scope pos) ρ n (n1 + L) (fun xs => xs.length ≤ L ∧ ∀ x ∈ xs, Pd x) := by
  have gg : ∀ (s : Shared) (H : Hp) (Cc : Addr) (cl : List (Str × Addr)) (fp : List Addr), PG (X.blk s H scope (compEnvC scope cl Cc X.env) fp) tg (fun v σ H Q => ∃ d, tDG (ct X C) (forgets ρ (own.map (·.2))) (ρ' d) d js v σ H Q) := fun s H Cc cl fp => ⟨fun pins s' σ H' v w Q I r ⟨d, q⟩ => (hg s H Cc cl fp d).run pins s' σ H' v w Q I r q⟩
  have ee : ∀ (s : Shared) (H : Hp) (Cc : Addr) (cl : List (Str × Addr)) (fp : List Addr), PE (X.blk s H scope (compEnvC scope cl Cc X.env) fp) elt (fun σ H Q => ∃ d m, m < n1 + L ∧ tN (ct X C) u (ρ' d) m (m + 1) (fun y => ∃ z, Pd z ∧ y = .d z) σ H Q) := fun s H Cc cl fp => ⟨fun pins s' σ H' Q I ⟨d, m, hm, q⟩ => (he s H Cc cl fp d m hm).run pins s' σ H' Q I q⟩
  refine pe_weak (pe_lc hc hN hi ok gg (fun _ _ _ _ _ => pts_nil) ee hs) fun σ H Q ⟨H0, B, N, k⟩ => ?_
  refine ⟨H0, B, N, fun ds J B1 H1 hds s1 wd D hD => ?_⟩
  have N1 := N.step s1
  have hdu : D ≠ u := fun z => by
    obtain ⟨o, ho, _⟩ := N1.ur
    rw [← z, hD] at ho
    cases ho
  have ex1 : Ex B1 H1 := N1.ex
  have hBD : B1 D = none := ex1.free hD
  have hL := hT ds hds
  refine lc_it (g := fun v σ H Q => ∃ d, tDG (ct X C) (forgets ρ (own.map (·.2))) (ρ' d) d js v σ H Q) (tt := tYes) (te := fun σ H Q => ∃ d m, m < n1 + L ∧ tN (ct X C) u (ρ' d) m (m + 1) (fun y => ∃ z, Pd z ∧ y = .d z) σ H Q) (vs := own.map (·.2)) (σ := σ) (H1 := H1) (D := D) (Qd := fun H => Q (.ref D) H) (n := ds.length) (G := fun H2 => Ex B1 H2) (Y := fun i H2 x H' => ∃ d, ds[i]? = some d ∧ ((H' = H2 ∧ Dt B1 x d) ∨ ∃ T o xs es, x = .ref T ∧ H2 T = none ∧ o.dict = none ∧ H' = upd H2 T (.frz o (.tup xs)) ∧ d = .tuple es ∧ DtAll B1 xs es))
    ⟨fun i H2 hi g => wd.go i H2 hi g, fun H2 g => wd.stop H2 g, fun i H2 x H' hi g y => wd.yld i H2 x H' hi g y⟩
    (fun i H2 => ∃ B2 vs' zs, StepN u (n1 + i) B1 H1 B2 H2 ∧ B2 D = none ∧ H2 D = some (.lst vs') ∧ vs'.length ≤ i ∧ DtAll B2 vs' zs ∧ ∀ z ∈ zs, Pd z) ?_ ?_ ?_ ?_
  · exact ⟨B1, [], [], N1.aside hD, hBD, upd_same, Nat.le_refl _, .nil, fun _ h => (nomatch h)⟩
  · rintro i H2 hi ⟨B2, vs', zs, st, _⟩
    exact st.b.trans st.t
  · rintro i x H2 H' hi ⟨B2, acc, zs, st, hB2, hD2, hal, hacc, hz⟩ ⟨d, hdi, hy⟩
    have hlt : acc.length < sizeLine := Nat.lt_of_le_of_lt hal (Nat.lt_of_lt_of_le hi wd.size)
    have N2 := N1.step st
    obtain ⟨B3, st3, hx⟩ : ∃ B3, Step B2 H2 B3 H' ∧ Dt B3 x d := by
      rcases hy with ⟨rfl, hx⟩ | ⟨T, o, xs, es, rfl, hT, ho, rfl, rfl, hes⟩
      · exact ⟨B2, Step.refl st.t, dt_mono st.b _ _ hx⟩
      · have s3 := Step.new (o := .frz o (.tup xs)) st.t hT
        exact ⟨_, s3, .tup ⟨o, upd_same, ho⟩ (dtall_mono (st.b.trans s3.b) _ _ hes)⟩
    have t3 := StepN.of N2.ur st3
    have N3 := N2.step t3
    have st13 := st.trans N1.hb t3
    obtain ⟨hB3, hD3⟩ := st3.f D _ hB2 hD2
    have en3 := N3.en.wipe (own.map (·.2))
    refine ⟨d, H0, B3, N3.ex, en3, hx, fun σ2 en4 hl hn => ⟨wipe_same hl hn hjs, ?_⟩⟩
    unfold tYes
    dsimp only
    rw [if_pos rfl]
    have N4 : NSt (ct X C) u (ρ' d) (n1 + i) σ2 H' H0 B3 := ⟨N3.ex, en4, N3.hb, N3.h0, N3.ur⟩
    refine ⟨d, n1 + i, by omega, H0, B3, N4, fun y v B5 H5 hy5 st5 r5 => ?_⟩
    obtain ⟨z, hz5, rfl⟩ := hy5
    obtain ⟨hB5, hD5⟩ := st5.stays hdu hB3 hD3
    refine ⟨acc, hD5, hlt, B5, acc ++ [v], zs ++ [z], ?_, hB5, upd_same, by rw [List.length_append]; exact Nat.succ_le_succ hal, ?_, ?_⟩
    · exact (st13.trans N1.hb st5).mut hdu hB5 hD
    · exact dtall_append (dtall_mono (st3.b.trans st5.b) _ _ hacc) (dtall_one r5)
    · intro z' hz'
      rcases List.mem_append.mp hz' with q | q
      · exact hz z' q
      · rw [List.mem_singleton.mp q]
        exact hz5
  · rintro H2 ⟨B2, acc, zs, st, hB2, hD2, hal, hacc, hz⟩
    refine k zs D acc B2 H2 ⟨by rw [← dtall_len hacc]; omega, hz⟩ ((s1.trans N.hb st).mono (by omega)) (s1.fresh N.hb N.ex hD) hB2 hD2 hacc
theorem evn_join {o : Expr} {apos : Pos} {x : Str} {R : List D → Prop} (hR : ∀ xs, R xs → ∃ ys : List Str, xs = ys.map .str ∧ (ys.map (·.length)).sum + ys.length * x.length ≤ 16777216) (ho : Ev C X o ρ (.d (.str x))) (he : EvFN C X u e ρ n n1 R)
    (hs : starEach [e] X.env = [(false, eval e X.env)] := by rfl) (hbase : attributeBase o "join" X.env (eval o X.env) = eval o X.env := by rfl) (hline : (apos.endLine == pos.line) = true := by rfl) :
    EvN C X u (.Call (.Attribute o "join" apos) [e] [] pos) ρ n n1 (fun y => ∃ ys : List Str, R (ys.map .str) ∧ y = .d (.str (Txt.join x ys))) :=
  pe_weak (pe_join ho he hs hbase hline) fun σ H Q ⟨H0, B, N, k⟩ => ⟨H0, B, N.ex, N.en, fun v B1 H1 s1 r1 => by
    have t1 := StepN.of N.ur s1
    have N1 := N.step t1
    cases r1
    refine ⟨⟨x, rfl⟩, H0, B1, N1, fun xs q vs B2 H2 hxs s2 hq hb hh hd => ?_⟩
    obtain ⟨ys, rfl, hz⟩ := hR xs hxs
    obtain rfl := strs_of hd
    exact ⟨x, q, ys, rfl, rfl, .inl (sl_of hh), hz, k (.d (.str (Txt.join x ys))) _ B2 H2 ⟨ys, hxs, rfl⟩ (t1.trans N.hb s2) (Dt.str _)⟩⟩
/-! ### plain whole numbers -/
theorem ev_mulI {i j : Int} (h : CMul i j) (ha : Ev C X a ρ (.d (.int i))) (hb : Ev C X b ρ (.d (.int j))) : Ev C X (.BinOp a .Mult b pos) ρ (.d (.int (i * j))) := ev_op op_mul (r2_I h fun H => Dt.int _) ha hb
theorem ev_modI {i j : Int} (h : 0 < j) (ha : Ev C X a ρ (.d (.int i))) (hb : Ev C X b ρ (.d (.int j))) : Ev C X (.BinOp a .Mod b pos) ρ (.d (.int (i % j))) := ev_op op_mod (r2_I h fun H => Dt.int _) ha hb
theorem ev_toI {i : Int} (hm : X.mg "int" = none) (he : Ev C X e ρ (.d (.int i))) (hg : Gl X "int" := by rfl) (h1 : starEach [e] X.env = (false, eval e X.env) :: starEach [] X.env := by rfl) (hpl : (backTo pos (starEach [] X.env)).any (·.1) = false := by rfl) : Ev C X (.Call (.Name "int" p) [e] [] pos) ρ (.d (.int i)) :=
  pe_weak (pe_callTy call_int1 hg hm boot_int (pa_cons he pa_nil h1) (by decide) (by decide) h1 hpl) fun σ H Q ⟨H0, B, ex, en, k⟩ => ⟨H0, B, ex, en, fun v B1 H1 s1 r1 => by
    cases r1
    exact .inl ⟨i, rfl, k _ B1 H1 s1 (Dt.int i)⟩⟩
theorem ev_toB {k : Bool} (hm : X.mg "int" = none) (he : Ev C X e ρ (.d (.bool k))) (hg : Gl X "int" := by rfl) (h1 : starEach [e] X.env = (false, eval e X.env) :: starEach [] X.env := by rfl) (hpl : (backTo pos (starEach [] X.env)).any (·.1) = false := by rfl) : Ev C X (.Call (.Name "int" p) [e] [] pos) ρ (.d (.int (if k then 1 else 0))) :=
  pe_weak (pe_callTy call_int1 hg hm boot_int (pa_cons he pa_nil h1) (by decide) (by decide) h1 hpl) fun σ H Q ⟨H0, B, ex, en, q⟩ => ⟨H0, B, ex, en, fun v B1 H1 s1 r1 => by
    cases r1
    exact .inr ⟨k, rfl, q _ B1 H1 s1 (Dt.int _)⟩⟩
theorem ev_maxI {i j : Int} (hm : X.mg "max" = none) (ha : Ev C X a ρ (.d (.int i))) (hb : Ev C X b ρ (.d (.int j))) (hc : X.calm = true := by rfl) (hg : Gl X "max" := by rfl) (h1 : starEach [a, b] X.env = (false, eval a X.env) :: starEach [b] X.env := by rfl) (h2 : starEach [b] X.env = (false, eval b X.env) :: starEach [] X.env := by rfl) (hpl : (backTo pos (starEach [b] X.env)).any (·.1) = false := by rfl) :
    Ev C X (.Call (.Name "max" p) [a, b] [] pos) ρ (.d (.int (if j > i then j else i))) :=
  pe_weak (pe_callB (call_max2 hc) hg hm (by decide +kernel) (pa_cons ha (pa_cons hb pa_nil h2) h1) (by decide) (by decide) h1 hpl) fun σ H Q ⟨H0, B, ex, en, k⟩ => ⟨H0, B, ex, en, fun v B1 H1 s1 r1 => ⟨H0, B1, s1.t, en.step s1, fun w B2 H2 s2 r2 => by
    cases r1
    cases r2
    exact ⟨i, j, rfl, k _ B2 H2 (s1.trans s2) (Dt.int _)⟩⟩⟩
theorem ev_absI {i : Int} (hm : X.mg "abs" = none) (he : Ev C X e ρ (.d (.int i))) (hg : Gl X "abs" := by rfl) (h1 : starEach [e] X.env = (false, eval e X.env) :: starEach [] X.env := by rfl) (hpl : (backTo pos (starEach [] X.env)).any (·.1) = false := by rfl) : Ev C X (.Call (.Name "abs" p) [e] [] pos) ρ (.d (.int (if i < 0 then -i else i))) :=
  pe_weak (pe_callB call_abs hg hm boot_abs (pa_cons he pa_nil h1) (by decide) (by decide) h1 hpl) fun σ H Q ⟨H0, B, ex, en, k⟩ => ⟨H0, B, ex, en, fun v B1 H1 s1 r1 => by
    cases r1
    exact ⟨i, rfl, k _ B1 H1 s1 (Dt.int _)⟩⟩
end
end DL
set_option maxRecDepth 100000
set_option maxHeartbeats 4000000
/-! the urn layer, 6: _law_tags -/
namespace DL
open PySem PySem.Spec PyProof.Rows L2 SlX
def mkS (l : List Nat) : Str := ⟨l.toArray⟩
theorem mkS_cps (l : List Nat) : (mkS l).cps.toList = l := rfl
theorem mkS_len (l : List Nat) : (mkS l).length = l.length := rfl
theorem mkS_inj {a b : List Nat} (h : mkS a = mkS b) : a = b := by
  rw [← mkS_cps a, ← mkS_cps b, h]
theorem mkS_app (a b : List Nat) : mkS a ++ mkS b = mkS (a ++ b) := by
  apply str_ext
  rw [cps_app, mkS_cps, mkS_cps, mkS_cps]
theorem cut_mkS (l : List Nat) (o h : Option Int) : cutS (mkS l) o h = mkS (cutD l o h) := rfl
theorem glue_fold : ∀ (l : List Nat) (acc : Array Nat), ((l.map fun c => mkS [c]).foldl (fun acc p => acc ++ ("" : Str).cps ++ p.cps) acc).toList = acc.toList ++ l
  | [], acc => by simp
  | c :: l, acc => by
    rw [List.map_cons, List.foldl_cons, glue_fold l]
    have : (acc ++ ("" : Str).cps ++ (mkS [c]).cps).toList = acc.toList ++ [c] := by
      rw [Array.toList_append, Array.toList_append]
      show acc.toList ++ [] ++ [c] = _
      rw [List.append_nil]
    rw [this, List.append_assoc]
    rfl
theorem join_mk (l : List Nat) : Txt.join "" (l.map fun c => mkS [c]) = mkS l := by
  apply str_ext
  rw [mkS_cps]
  cases l with
  | nil => rfl
  | cons c l =>
    show (((l.map fun c => mkS [c]).foldl (fun acc p => acc ++ ("" : Str).cps ++ p.cps) (mkS [c]).cps)).toList = c :: l
    rw [glue_fold]
    rfl
/-- texts of one letter -/
def OneL (x : D) : Prop := ∃ c : Nat, 97 ≤ c ∧ c < 123 ∧ x = .str (mkS [c])
theorem ones_ex : ∀ {xs : List D}, (∀ x ∈ xs, OneL x) → ∃ cs : List Nat, xs = (cs.map fun c => mkS [c]).map .str ∧ ∀ c ∈ cs, 97 ≤ c ∧ c < 123
  | [], _ => ⟨[], rfl, fun _ h => (nomatch h)⟩
  | x :: xs, h => by
    obtain ⟨c, h1, h2, rfl⟩ := h x (List.mem_cons_self ..)
    obtain ⟨cs, rfl, h3⟩ := ones_ex (xs := xs) fun y hy => h y (List.mem_cons_of_mem _ hy)
    refine ⟨c :: cs, rfl, fun d hd => ?_⟩
    rcases List.mem_cons.mp hd with rfl | hd
    · exact ⟨h1, h2⟩
    · exact h3 d hd
theorem ones_sum (cs : List Nat) : ((cs.map fun c => mkS [c]).map (·.length)).sum = cs.length := by
  induction cs with
  | nil => rfl
  | cons c cs ih =>
    rw [List.map_cons, List.map_cons, List.sum_cons, ih, List.length_cons]
    show 1 + cs.length = _
    omega
theorem strs_inj : ∀ {a b : List Str}, a.map PyData.str = b.map .str → a = b
  | [], [], _ => rfl
  | x :: a, y :: b, h => by
    rw [List.map_cons, List.map_cons] at h
    injection h with h1 h2
    injection h1 with h1
    rw [h1, strs_inj h2]
theorem nameB_mk {l : List Nat} (h1 : 1 ≤ l.length) (h8 : l.length ≤ 8) (ha : ∀ c ∈ l, 97 ≤ c ∧ c < 123) : nameB (mkS l) = true := by
  unfold nameB
  rw [mkS_len, mkS_cps, decide_eq_true h1, decide_eq_true h8]
  rw [Bool.true_and, Bool.true_and, List.all_eq_true]
  intro c hc
  rw [List.contains_iff_mem]
  unfold letters
  rw [List.mem_range'_1]
  have := ha c hc
  omega
/-- names from lists of letters -/
theorem names_ex (g : Nat → List Nat) (many : Nat) (hm : many ≤ 10) (hg : ∀ k, k < many → nameB (mkS (g k)) = true) (hi : ∀ k j, k < many → j < many → g k = g j → k = j) :
    ∃ ns : List Nm, ns.length = many ∧ ns.Nodup ∧ Okays ((List.range many).map fun k => PyData.str (mkS (g k))) ∧ sortD ((List.range many).map fun k => PyData.str (mkS (g k))) = ns.map nmD := by
  let nm : Nat → Nm := fun k => if h : nameB (mkS (g k)) = true then ⟨mkS (g k), h⟩ else default
  have hnm : ∀ k, k < many → (nm k).1 = mkS (g k) := fun k hk => by
    show (dite _ _ _ : Nm).1 = _
    rw [dif_pos (hg k hk)]
  have e : (List.range many).map (fun k => PyData.str (mkS (g k))) = ((List.range many).map nm).map nmD := by
    rw [List.map_map]
    apply List.map_congr_left
    intro k hk
    show _ = PyData.str (nm k).1
    rw [hnm k (List.mem_range.mp hk)]
  have hnd : ((List.range many).map nm).Nodup := nodup_map_inj (fun a ha b hb q => by
    have ha := List.mem_range.mp ha
    have hb := List.mem_range.mp hb
    have := congrArg Subtype.val q
    rw [hnm a ha, hnm b hb] at this
    exact hi a b ha hb (mkS_inj this)) List.nodup_range
  refine ⟨((List.range many).map nm).mergeSort nmLe, ?_, ?_, ?_, ?_⟩
  · rw [List.length_mergeSort, List.length_map, List.length_range]
  · exact (List.mergeSort_perm _ _).nodup_iff.mpr hnd
  · rw [e]
    exact okays_nms (by rw [List.length_map, List.length_range]; omega)
  · rw [e]
    exact sort_names _ _ (.refl _)
/-- the k-th letter of the row -/
def rowC (f b k : Nat) : Nat := 97 + (f + b * k) % 26
def bys : List Nat := [1, 3, 7, 11, 25]
theorem rowC_inj : ∀ f, f < 26 → ∀ b ∈ bys, ∀ k, k < 4 → ∀ j, j < 4 → rowC f b k = rowC f b j → k = j := by decide +kernel
theorem rowC_ok (f b k : Nat) : 97 ≤ rowC f b k ∧ rowC f b k < 123 := by
  unfold rowC
  have := Nat.mod_lt (f + b * k) (show 0 < 26 by decide)
  omega
def gPre (f b k : Nat) : List Nat := (List.range (k + 1)).map (rowC f b)
def gSub (st : List Nat) (at_ f b k : Nat) : List Nat := (st.take at_ ++ [rowC f b k]) ++ st.drop at_
theorem gPre_ok {f b k : Nat} (hk : k < 8) : nameB (mkS (gPre f b k)) = true := by
  refine nameB_mk ?_ ?_ ?_
  · unfold gPre
    rw [List.length_map, List.length_range]
    omega
  · unfold gPre
    rw [List.length_map, List.length_range]
    omega
  · intro c hc
    obtain ⟨j, _, rfl⟩ := List.mem_map.mp hc
    exact rowC_ok f b j
theorem gPre_inj {f b k j : Nat} (h : gPre f b k = gPre f b j) : k = j := by
  have := congrArg List.length h
  unfold gPre at this
  rw [List.length_map, List.length_map, List.length_range, List.length_range] at this
  omega
theorem gSub_ok {st : List Nat} {at_ f b k : Nat} (hl : st.length ≤ 7) (hs : ∀ c ∈ st, 97 ≤ c ∧ c < 123) : nameB (mkS (gSub st at_ f b k)) = true := by
  have e : (gSub st at_ f b k).length = st.length + 1 := by
    unfold gSub
    rw [List.length_append, List.length_append, List.length_singleton, List.length_take, List.length_drop]
    omega
  refine nameB_mk (by omega) (by omega) fun c hc => ?_
  unfold gSub at hc
  rcases List.mem_append.mp hc with q | q
  · rcases List.mem_append.mp q with q | q
    · exact hs c (List.mem_of_mem_take q)
    · rw [List.mem_singleton.mp q]
      exact rowC_ok f b k
  · exact hs c (List.mem_of_mem_drop q)
theorem gSub_inj {st : List Nat} {at_ f b k j : Nat} (hf : f < 26) (hb : b ∈ bys) (hk : k < 4) (hj : j < 4) (h : gSub st at_ f b k = gSub st at_ f b j) : k = j := by
  unfold gSub at h
  have h1 := List.append_cancel_right h
  have h2 := List.append_cancel_left h1
  exact rowC_inj f hf b hb k hk j hj (List.cons.inj h2).1
def SIGNS : Str := "abcdefghijklmnopqrstuvwxyz"
theorem signs_at : ∀ i, i < 26 → SIGNS.cps.toList[i]? = some (97 + i) := by decide +kernel
def rowL (f b : Nat) : List D := (List.range 8).map fun k => .str (mkS [rowC f b k])
theorem rowL_get {f b k : Nat} (h : k < 8) : (rowL f b)[k]? = some (.str (mkS [rowC f b k])) := by
  unfold rowL
  rw [List.getElem?_map, List.getElem?_range h]
  rfl
theorem rowL_take {f b k : Nat} (h : k < 8) : (rowL f b).take (k + 1) = ((gPre f b k).map fun c => mkS [c]).map .str := by
  unfold rowL gPre
  rw [← List.map_take, List.take_range, Nat.min_eq_left (by omega), List.map_map, List.map_map]
  rfl
section
variable {P : Program} {w : World} {K : PySem.W.Frag} {mg : Str → Option Value} {base : Heap} {C : Addr} {f : Addr} {fd : FuncData}
theorem sc49 : FnScope ["_law_urn", "_law_many_so", "_law_signs", "_law_first_so", "_law_by_so", "_law_k", "_law_row_so", "_law_turn", "_law_stem", "_law_at_so"] ["_law_urn", "_law_many_so"] (defScope (top 49)) := ⟨rfl, rfl, rfl, by decide +kernel, rfl, by decide +kernel, by decide +kernel⟩
def preTags (xs : List DV) : Prop := ∃ many : Nat, xs = [.d (.int (many : Nat))] ∧ 2 ≤ many ∧ many ≤ 4
def postTags (xs : List DV) (y : DV) : Prop := ∃ (many : Nat) (ns : List Nm), xs = [.d (.int (many : Nat))] ∧ ns.length = many ∧ ns.Nodup ∧ y = .d (.list (ns.map nmD))
theorem ok_tags (F : Fun K "_law_tags" "_law_tags" (top 49) f fd) (M : Mg mg) (G : GTake P w K mg base C) (G2 : GOf P w K mg base C) : FnOk P w K mg base CX0 3 f fd ["_law_urn", "_law_many_so"] (spN ⟨P, w, K, C⟩ 20 preTags postTags) := by
  refine fn_N F sc49 (fun xs h => by obtain ⟨ds, rfl, _⟩ := h; rfl) (fun cdv A outer s H E u n xs hr hn h => ?_)
  obtain ⟨many, rfl, hm2, hm4⟩ := h
  refine stsn_step (ρ' := [.i (.at u), .i (.d (.int (many : Nat))), .i (.d (.str SIGNS)), .no, .no, .no, .no, .no, .no, .no]) (sts_let 2 ev_str (sts_nil rfl) sc49.nd) ?_
  refine stsn_tupx (m := 2) (n1 := n + 1 + 1) (Rs := fun xs => ∃ f b : Nat, f < 26 ∧ b ∈ bys ∧ xs = [.d (.int (f : Nat)), .d (.int (b : Nat))]) (ρ1 := fun xs => [.i (.at u), .i (.d (.int (many : Nat))), .i (.d (.str SIGNS)), .i (xs.getD 0 (.d .none)), .i (xs.getD 1 (.d .none)), .no, .no, .no, .no, .no])
    (pa_weak (ean_cons (evn_take (low := 26) G hr (by decide) rfl ev_int (by decide) (by decide) (by omega)) (ean_cons (evn_lof (ds := bys.map fun (b : Nat) => .int (b : Nat)) G2 hr (by decide) rfl (EvF.d (ef_list (xs := [.d (.int 1), .d (.int 3), .d (.int 7), .d (.int 11), .d (.int 25)]) (ea_cons ev_int (ea_cons ev_int (ea_cons ev_int (ea_cons ev_int (ea_cons ev_int ea_nil))))) rfl (by show 5 ≤ sizeLine; decide))) (by decide) (by decide) (by omega)) ean_nil)) fun σ H Q ⟨H0, B, N, k⟩ => ⟨H0, B, N, fun xs vs B' H' hx st r => k xs vs B' H' ?_ st r⟩)
    (fun xs hx => ?_) (fun xs hx => ?_) (fun xs hx => ?_) (by show 2 ≤ sizeLine; decide)
  · obtain ⟨y, r, rfl, ⟨f, hf, rfl⟩, z, r', rfl, ⟨d, hd, rfl⟩, rfl⟩ := hx
    obtain ⟨b, hb, rfl⟩ := List.mem_map.mp hd
    exact ⟨f, b, hf, hb, rfl⟩
  · obtain ⟨f, b, hf, hb, rfl⟩ := hx
    exact exs_cons 3 (exs_cons 4 exs_nil sc49.nd) sc49.nd
  · obtain ⟨f, b, hf, hb, rfl⟩ := hx
    have hb25 : b ≤ 25 := by
      have : ∀ b ∈ bys, b ≤ 25 := by decide
      exact this b hb
    refine stsn_step (ρ' := [.i (.at u), .i (.d (.int (many : Nat))), .i (.d (.str SIGNS)), .i (.d (.int (f : Nat))), .i (.d (.int (b : Nat))), .no, .i (.d (.list (rowL f b))), .no, .no, .no]) (sts_let (x := .d (.list (rowL f b))) 6 (EvF.d (ef_eq (ef_lcm (own := [("_law_k", 5)]) (ds := natsD 8) (js := [5]) (f := fun d => .str (mkS [rowC f b (intOf d).toNat])) (ρ' := fun z => [.i (.at u), .i (.d (.int (many : Nat))), .i (.d (.str SIGNS)), .i (.d (.int (f : Nat))), .i (.d (.int (b : Nat))), .i (.d z), .no, .no, .no, .no]) rfl sc49.nd (blkOk_by (by rfl)) (by decide)
      (ei_range (n := 8) M.range (by decide) (ev_cast (ev_maxI (i := 8) (j := (many : Nat)) M.max ev_int (ev_var 1 rfl)) (by rw [if_neg (by omega)]; rfl))) (fun _ _ _ _ _ z hz => eg_name 5 sc49.nd) (fun _ _ _ _ _ z hz => ?_)) (by unfold natsD rowL; rw [List.map_map]; rfl))) (sts_nil rfl) sc49.nd) ?_
    · obtain ⟨k, hk, rfl⟩ := List.mem_map.mp hz
      have hk8 := List.mem_range.mp hk
      have hlt := Nat.mod_lt (f + b * k) (show 0 < 26 by decide)
      have e1 : ((f : Int) + (b : Int) * (k : Int)) % 26 = (((f + b * k) % 26 : Nat) : Int) := by omega
      have hbk : b * k ≤ 25 * 8 := Nat.mul_le_mul hb25 (by omega)
      have e2 : (((f + b * k : Nat) : Int)) = (f : Int) + (b : Int) * (k : Int) := by
        rw [Int.natCast_add, Int.natCast_mul]
      refine ev_cast (ev_ix_str (s := SIGNS) (n := rowC f b k) (i := (((f + b * k) % 26 : Nat) : Int)) (by decide) (atI_nat (signs_at _ hlt)) (ev_var 2 rfl) (ev_cast (ev_modI (i := (f : Int) + (b : Int) * (k : Int)) (j := 26) (by decide) (ev_toI M.int (ev_add (i := (f : Int)) (j := (b : Int) * (k : Int)) (ev_var 3 rfl) (ev_mulI (i := (b : Int)) (j := (k : Int)) (.inl ⟨by omega, by omega⟩) (ev_var 4 rfl) (ev_var 5 rfl)))) ev_int) (by rw [← e2]; rfl))) rfl
    · refine stsn_if (T := fun _ => True) (n1 := n + 1 + 1 + 1) (pt_weak (EvWN.t (evwn_and (k := decide ((many : Int) < 9)) (T := fun _ => True) (et_lt (ev_var 1 rfl) ev_int) (fun _ => evtn_cmp (y := .d (.int 0)) (op_eqD (room64 hr)) (fun z hz => ?_) (evn_take (low := 4) G hr (by decide) rfl ev_int (by decide) (by decide) (by omega)) ev_int) (by omega))) fun σ H Q ⟨H0, B, N, q⟩ => ⟨H0, B, N, fun b B' H' _ st => q b B' H' trivial st⟩) (fun _ => ?_) (fun _ => ?_)
      · obtain ⟨r, _, rfl⟩ := hz
        exact ⟨_, trivial, r2_eq (okD_int (n := 0) _).shp (okD_int (n := 0) _).shp⟩
      · obtain ⟨ns, e1, e2, e3, e4⟩ := names_ex (gPre f b) many (by omega) (fun k hk => gPre_ok (by omega)) (fun k j _ _ q => gPre_inj q)
        refine stsn_pure (Ξ := fun o => o = .rt (.d (.list (ns.map nmD)))) (sts_retF (ef_eq (ef_sorted (SrcD.l _) e3 (EvF.d (ef_eq (ef_lcm (own := [("_law_k", 5)]) (ds := natsD many) (js := [5]) (f := fun d => .str (mkS (gPre f b (intOf d).toNat))) (ρ' := fun z => [.i (.at u), .i (.d (.int (many : Nat))), .i (.d (.str SIGNS)), .i (.d (.int (f : Nat))), .i (.d (.int (b : Nat))), .i (.d z), .i (.d (.list (rowL f b))), .no, .no, .no]) rfl sc49.nd (blkOk_by (by rfl)) (by decide)
          (ei_range (n := many) M.range (sizeLine_big (by omega)) (ev_var 1 rfl)) (fun _ _ _ _ _ z hz => eg_name 5 sc49.nd) (fun _ _ _ _ _ z hz => ?_)) (by unfold natsD; rw [List.map_map]; rfl))) M.sorted hr) e4) rfl) fun o ho => .inr ⟨_, ho, _, rfl, ⟨many, ns, rfl, e1, e2, rfl⟩, by omega⟩
        · obtain ⟨k, hk, rfl⟩ := List.mem_map.mp hz
          have hk8 := List.mem_range.mp hk
          refine ev_cast (ev_join (x := "") (ys := (gPre f b k).map fun c => mkS [c]) (by rw [ones_sum]; unfold gPre; simp; show _ + _ * 0 ≤ _; omega) ev_str (ev_cast (EvF.d (ef_sl_list (ev_var (x := .d (.list (rowL f b))) 6 rfl) eo_none (eo_some (ev_add (i := (k : Nat)) (j := 1) (ev_var 5 rfl) ev_int)))) ?_)) (by rw [join_mk]; rfl)
          rw [show ((k : Nat) : Int) + 1 = ((k + 1 : Nat) : Int) from rfl, cut_to, rowL_take (by omega)]
      · refine stsn_nil (stsn_let 8 (n1 := n + 11) (R := fun y => ∃ cs : List Nat, cs.length ≤ 7 ∧ (∀ c ∈ cs, 97 ≤ c ∧ c < 123) ∧ y = .d (.str (mkS cs))) (evn_mono (evn_join (x := "") (R := fun xs => xs.length ≤ 7 ∧ ∀ x ∈ xs, OneL x) (fun xs hx => ?_) ev_str (efn_lc (own := [("_law_turn", 7)]) (T := fun ds => ∃ m, m ≤ 7 ∧ ds = natsD m) (Pd := OneL) (L := 7) (js := [7]) (n1 := n + 1 + 1 + 1 + 1) (ρ' := fun z => [.i (.at u), .i (.d (.int (many : Nat))), .i (.d (.str SIGNS)), .i (.d (.int (f : Nat))), .i (.d (.int (b : Nat))), .no, .i (.d (.list (rowL f b))), .i (.d z), .no, .no]) rfl sc49.nd (blkOk_by (by rfl)) (by decide)
            (ein_range (T := fun m => m ≤ 7) M.range (fun m hm => sizeLine_big (by omega)) (evn_mono (evn_lof (ds := [.int 0, .int 0, .int 1, .int 5, .int 7]) G2 hr (by decide) rfl (EvF.d (ef_list (xs := [.d (.int 0), .d (.int 0), .d (.int 1), .d (.int 5), .d (.int 7)]) (ea_cons ev_int (ea_cons ev_int (ea_cons ev_int (ea_cons ev_int (ea_cons ev_int ea_nil))))) rfl (by show 5 ≤ sizeLine; decide))) (by show 1 ≤ 5; decide) (by show 5 ≤ 1000; decide) (by omega)) (fun y hy => ?_) (Nat.le_refl _)))
            (fun ds hds => ?_) (fun _ _ _ _ _ z => eg_name 7 sc49.nd) (fun _ _ _ _ _ z m hm => ?_))) (fun y hy => ?_) (Nat.le_refl _)) (fun y hy => ?_) sc49.nd)
        · obtain ⟨h7, hone⟩ := hx
          obtain ⟨cs, rfl, hcs⟩ := ones_ex hone
          rw [List.length_map, List.length_map] at h7
          refine ⟨_, rfl, ?_⟩
          rw [ones_sum]
          show _ + _ * 0 ≤ _
          omega
        · obtain ⟨d, hd, rfl⟩ := hy
          simp only [List.mem_cons, List.not_mem_nil, or_false] at hd
          rcases hd with e | e | e | e | e
          · exact ⟨0, by omega, by rw [e]; rfl⟩
          · exact ⟨0, by omega, by rw [e]; rfl⟩
          · exact ⟨1, by omega, by rw [e]; rfl⟩
          · exact ⟨5, by omega, by rw [e]; rfl⟩
          · exact ⟨7, by omega, by rw [e]; rfl⟩
        · obtain ⟨m, hm, rfl⟩ := hds
          rw [natsD_len]
          exact hm
        · refine evn_ix ix_str (fun y hy => ?_) (ev_var 2 rfl) (evn_take (low := 26) G hr (by decide) rfl ev_int (by decide) (by decide) (by omega))
          obtain ⟨r, hr2, rfl⟩ := hy
          refine ⟨.d (.str ⟨#[97 + r]⟩), ⟨_, ⟨97 + r, by omega, by omega, rfl⟩, rfl⟩, fun B H v w Q ex r1 r2 k => ?_⟩
          cases r1
          cases r2
          exact ⟨SIGNS, _, _, rfl, rfl, by decide, atI_nat (signs_at r hr2), k _ B H (Step.refl ex) (Dt.str _)⟩
        · obtain ⟨ys, ⟨h7, hone⟩, rfl⟩ := hy
          obtain ⟨cs, e, hcs⟩ := ones_ex hone
          have e2 := strs_inj e
          subst e2
          rw [List.length_map, List.length_map] at h7
          exact ⟨cs, h7, hcs, by rw [join_mk]⟩
        · obtain ⟨st, h7, hst, rfl⟩ := hy
          refine stsn_let 9 (evn_take (low := st.length + 1) G hr (by decide) rfl (ev_cast (ev_add (i := (st.length : Nat)) (j := 1) (ev_len_str (z := mkS st) (sizeLine_big (by rw [mkS_len]; omega)) (ev_var 8 rfl) M.len) ev_int) rfl) (by omega) (by omega) (by omega)) (fun y hy => ?_) sc49.nd
          obtain ⟨at_, hat, rfl⟩ := hy
          obtain ⟨ns, e1, e2, e3, e4⟩ := names_ex (gSub st at_ f b) many (by omega) (fun k hk => gSub_ok h7 hst) (fun k j hk hj q => gSub_inj hf hb (by omega) (by omega) q)
          refine stsn_pure (Ξ := fun o => o = .rt (.d (.list (ns.map nmD)))) (sts_retF (ef_eq (ef_sorted (SrcD.l _) e3 (EvF.d (ef_eq (ef_lcm (own := [("_law_k", 5)]) (ds := natsD many) (js := [5]) (f := fun d => .str (mkS (gSub st at_ f b (intOf d).toNat))) (ρ' := fun z => [.i (.at u), .i (.d (.int (many : Nat))), .i (.d (.str SIGNS)), .i (.d (.int (f : Nat))), .i (.d (.int (b : Nat))), .i (.d z), .i (.d (.list (rowL f b))), .no, .i (.d (.str (mkS st))), .i (.d (.int (at_ : Nat)))]) rfl sc49.nd (blkOk_by (by rfl)) (by decide)
            (ei_range (n := many) M.range (sizeLine_big (by omega)) (ev_var 1 rfl)) (fun _ _ _ _ _ z hz => eg_name 5 sc49.nd) (fun _ _ _ _ _ z hz => ?_)) (by unfold natsD; rw [List.map_map]; rfl))) M.sorted hr) e4) rfl) fun o ho => .inr ⟨_, ho, _, rfl, ⟨many, ns, rfl, e1, e2, rfl⟩, by omega⟩
          · obtain ⟨k, hk, rfl⟩ := List.mem_map.mp hz
            have hk8 := List.mem_range.mp hk
            have hz1 : (mkS st).length ≤ sizeLine := sizeLine_big (by rw [mkS_len]; omega)
            have c1 : cutS (mkS st) none (some (at_ : Int)) = mkS (st.take at_) := by rw [cut_mkS, cut_to]
            have c2 : cutS (mkS st) (some (at_ : Int)) none = mkS (st.drop at_) := by rw [cut_mkS, cut_from]
            have l1 : (mkS (st.take at_)).length ≤ 7 := by rw [mkS_len, List.length_take]; omega
            have l2 : (mkS (st.drop at_)).length ≤ 7 := by rw [mkS_len, List.length_drop]; omega
            have hs100 : (100 : Nat) ≤ sizeLine := by decide
            refine ev_cast (ev_cat_str (s := mkS (st.take at_) ++ mkS [rowC f b k]) (t := mkS (st.drop at_)) ?_ (ev_cat_str (s := mkS (st.take at_)) (t := mkS [rowC f b k]) ?_ (ev_cast (ev_sl_str (z := mkS st) hz1 (ev_var 8 rfl) eo_none (eo_some (ev_var 9 rfl))) (by rw [c1])) (ev_ix_list (ds := rowL f b) (i := (k : Nat)) (atI_nat (rowL_get (by omega))) (ev_var 6 rfl) (ev_var 5 rfl))) (ev_cast (ev_sl_str (z := mkS st) hz1 (ev_var 8 rfl) (eo_some (ev_var 9 rfl)) eo_none) (by rw [c2]))) (by rw [mkS_app, mkS_app]; rfl)
            · rw [mkS_app, mkS_len, List.length_append]
              rw [mkS_len] at l1
              show _ + 1 + _ ≤ _
              omega
            · show _ + 1 ≤ _
              omega
  · obtain ⟨f, b, hf, hb, rfl⟩ := hx
    rfl
end
end DL
set_option maxRecDepth 100000
set_option maxHeartbeats 4000000
/-! the urn layer, 7: _law_wood -/
namespace DL
open PySem PySem.Spec PyProof.Rows L2 SlX
theorem perm_map_ex {α β : Type} {f : α → β} {m l' : List β} (h : l'.Perm m) : ∀ {l : List α}, m = l.map f → ∃ k : List α, k.Perm l ∧ l' = k.map f := by
  induction h with
  | nil =>
    intro l e
    have : l = [] := by
      cases l with
      | nil => rfl
      | cons _ _ => cases e
    exact ⟨[], by rw [this], rfl⟩
  | cons x _ ih =>
    intro l e
    cases l with
    | nil => cases e
    | cons a l =>
      rw [List.map_cons] at e
      injection e with e1 e2
      obtain ⟨k, hk, rfl⟩ := ih e2
      exact ⟨a :: k, hk.cons a, by rw [List.map_cons, e1]⟩
  | swap x y l0 =>
    intro l e
    match l, e with
    | a :: b :: l, e =>
      rw [List.map_cons, List.map_cons] at e
      injection e with e1 e2
      injection e2 with e2 e3
      exact ⟨b :: a :: l, .swap a b l, by rw [List.map_cons, List.map_cons, e1, e2, e3]⟩
  | trans _ _ ih1 ih2 =>
    intro l e
    obtain ⟨k, hk, e2⟩ := ih2 e
    obtain ⟨k2, hk2, e3⟩ := ih1 e2
    exact ⟨k2, hk2.trans hk, e3⟩
theorem idx_takeN {ls : List Nm} {x : Nm} {i : Nat} (h : x ∈ ls.take i) : ls.idxOf x < i := by
  have h2 := List.idxOf_lt_length_iff.mpr h
  have e : ls = ls.take i ++ ls.drop i := (List.take_append_drop ..).symm
  have e2 : ls.idxOf x = (ls.take i).idxOf x := by
    conv => lhs; rw [e]
    rw [List.idxOf_append, if_pos h]
  rw [List.length_take] at h2
  omega
/-- edges that go back -/
structure Edges (ns : List Nm) (es : Tree) : Prop where
  nm : es.map (·.1) = ns.take es.length
  le : es.length ≤ ns.length
  bk : ∀ (j : Nat) (p : Nm × Option Nm), es[j]? = some p → ∀ b, p.2 = some b → b ∈ ns.take j
theorem Edges.tree {ns : List Nm} {es t : Tree} (h : Edges ns es) (hl : es.length = ns.length) (hn : ns.Nodup) (hc : ns.length ≤ 100) (hp : t.Perm es) : TreeOk t := by
  have hnm : es.map (·.1) = ns := by
    rw [h.nm, hl, List.take_length]
  have hm : ∀ p ∈ t, ∃ j : Nat, es[j]? = some p := fun p hp2 => List.getElem?_of_mem (hp.mem_iff.mp hp2)
  have hat : ∀ (j : Nat) (p : Nm × Option Nm), es[j]? = some p → ns[j]? = some p.1 := fun j p e => by
    rw [← hnm, List.getElem?_map, e]
    rfl
  refine ⟨?_, fun p hp2 b hb => ?_, ⟨fun a => ns.idxOf a, fun p hp2 b hb => ?_⟩, ?_⟩
  · have : (tnames t).Perm ns := by
      rw [← hnm]
      exact hp.map _
    exact this.nodup_iff.mpr hn
  · obtain ⟨j, hj⟩ := hm p hp2
    have := h.bk j p hj b hb
    have h2 : b ∈ es.map (·.1) := by
      rw [hnm]
      exact List.mem_of_mem_take this
    have h3 : (tnames t).Perm (es.map (·.1)) := hp.map _
    exact h3.mem_iff.mpr h2
  · obtain ⟨j, hj⟩ := hm p hp2
    have h1 := idx_takeN (h.bk j p hj b hb)
    obtain ⟨h2, h3⟩ := List.getElem?_eq_some_iff.mp (hat j p hj)
    have : ns.idxOf p.1 = j := by
      rw [← h3]
      exact hn.idxOf_getElem j h2
    show ns.idxOf b < ns.idxOf p.1
    omega
  · have := hp.length_eq
    omega
theorem alike_edges (l : Tree) : PySem.W.AllAlike (l.map edgeD) := PySem.W.AllAlike.of (enc := edgeD) (bs := l) fun a b => by
  show PySem.W.alike (.tuple [.str a.1.1, .str (upS a.2)]) (.tuple [.str b.1.1, .str (upS b.2)]) = true
  rw [PySem.W.alike]
  simp [PySem.W.alikeAll, PySem.W.alike]
theorem okays_edges {l : Tree} (h : l.length ≤ 1000) : Okays (l.map edgeD) := ⟨alike_edges l, .inl fun d hd => by
  obtain ⟨q, _, rfl⟩ := List.mem_map.mp hd
  exact ⟨_, _, rfl⟩, sizeLine_big (by rw [List.length_map]; omega), fun d hd => by
  obtain ⟨q, _, rfl⟩ := List.mem_map.mp hd
  exact Nat.le_trans ((enc_edge (n := 0)).ok q).dp (by decide)⟩
section
variable {C u : Addr} {X : Cx} {e a b : Expr} {es : List Expr} {ρ : List Sl} {n n1 n2 : Nat} {pos p p2 : Pos}
/-- name.append(e) -/
theorem stsn_app2 {ss : List Stmt} {Φ : OutN → Nat → Prop} (i : Nat) {nm : Str} {xs : List D} {p1 p2 p3 : Pos} {T : D → Prop} (h : ρ[i]? = some (.ml xs)) (hz : xs.length < sizeLine) (he : EvN C X u e ρ n n1 (fun y => ∃ d, T d ∧ y = .d d)) (k : ∀ d, T d → StsN C X u ss (ρ.set i (.ml (xs ++ [d]))) n1 Φ)
    (hN : X.N[i]? = some nm := by rfl) (hv : Vis X.env.scope nm := by first | exact Or.inl rfl | exact Or.inr (Or.inl rfl) | exact Or.inr (Or.inr rfl)) (hd : (nm == ("__debug__" : Str)) = false := by decide) (hcd : (nm == ("__classdict__" : Str)) = false := by decide)
    (hbase : attributeBase (.Name nm p1) "append" X.env (eval (.Name nm p1) X.env) = eval (.Name nm p1) X.env := by rfl)
    (hfew : ((backTo p3 (starEach [e] X.env)).all (fun x => !x.1) && (backToKw p3 (keywordEach [] X.env)).all (fun x => x.1.isSome) && decide (([e] : List Expr).length + ([] : List Keyword).length + (if ([] : List Keyword).isEmpty then 0 else 1) < 30)) = true := by rfl)
    (hline : (p2.endLine == p3.line) = true := by rfl) (hs : starEach [e] X.env = (false, eval e X.env) :: starEach [] X.env := by rfl) (hplain : (backTo p3 (starEach [] X.env)).any (·.1) = false := by rfl)
    (hsw : swapsWith (.Call (.Attribute (.Name nm p1) "append" p2) [e] [] p3) none pos.line X.env = pure false := by rfl) : StsN C X u (.Expr (.Call (.Attribute (.Name nm p1) "append" p2) [e] [] p3) pos :: ss) ρ n Φ :=
  stsn_app i h hz he k (ps_expr (pe_bm PySem.F.plainAttrs_list PySem.F.slot_list_append PySem.F.type_list_append mt_append (pe_var hN hv hd hcd) (pa_cons he pa_nil hs) hbase hfew hline hs hplain) hsw)
theorem evn_tup {k : Nat} {Rs : List DV → Prop} {T : List D → Prop} (ha : EvAN C X u es ρ n n1 Rs) (h : ∀ xs, Rs xs → ∃ ds, xs = ds.map .d ∧ T ds ∧ ds.length ≤ sizeLine) : EvN C X u (.Tuple es k pos) ρ n n1 (fun y => ∃ ds, T ds ∧ y = .d (.tuple ds)) :=
  pe_weak (pe_tupF ha) fun σ H Q ⟨H0, B, N, q⟩ => ⟨H0, B, N, fun xs vs B1 H1 hx s1 r1 => by
    obtain ⟨ds, rfl, hT, hz⟩ := h xs hx
    have hd := dts_of r1
    have N1 := N.step s1
    exact ⟨by rw [dtall_len hd]; exact hz, fun p o hp ho => Step.tup N1.ex hp ho hd fun v B' H' st r => q (.d (.tuple ds)) v B' H' ⟨ds, hT, rfl⟩ (s1.trans N.hb (.of N1.ur st)) r⟩⟩
end
section
variable {P : Program} {w : World} {K : PySem.W.Frag} {mg : Str → Option Value} {base : Heap} {C : Addr} {f : Addr} {fd : FuncData}
theorem sc52 : FnScope ["_law_urn", "_law_many_so", "_law_names_so", "_law_found", "_law_k", "_law_own"] ["_law_urn", "_law_many_so"] (defScope (top 52)) := ⟨rfl, rfl, rfl, by decide +kernel, rfl, by decide +kernel, by decide +kernel⟩
def postWood (xs : List DV) (y : DV) : Prop := ∃ (many : Nat) (t : Tree), xs = [.d (.int (many : Nat))] ∧ TreeOk t ∧ t.length = many ∧ y = .d (treeD t)
theorem ok_wood (F : Fun K "_law_wood" "_law_wood" (top 52) f fd) (M : Mg mg) (G : Gf P w K mg base "_law_tags" 3 (spN ⟨P, w, K, C⟩ 20 preTags postTags)) (G2 : Gf P w K mg base "_law_mixed" 2 (spN ⟨P, w, K, C⟩ 10 preMix postMix)) (G3 : GOf P w K mg base C) : FnOk P w K mg base CX0 4 f fd ["_law_urn", "_law_many_so"] (spN ⟨P, w, K, C⟩ 34 preTags postWood) := by
  refine fn_N F sc52 (fun xs h => by obtain ⟨ds, rfl, _⟩ := h; rfl) (fun cdv A outer s H E u n xs hr hn h => ?_)
  obtain ⟨many, rfl, hm2, hm4⟩ := h
  refine stsn_par 2 3 (n1 := n + 20 + 10) (n2 := n + 20 + 10) (S := fun t => ∃ y, t = .i y ∧ ∃ ns : List Nm, ns.length = many ∧ ns.Nodup ∧ y = .d (.list (ns.map nmD))) (T := fun t => t = .ml []) (esn_n (evn_call G2 (hr.mono (by decide)) (ean_cons (evn_of (ev_var 0 rfl)) (ean_cons (R := fun y => ∃ ns : List Nm, ns.length = many ∧ ns.Nodup ∧ y = .d (.list (ns.map nmD))) (evn_call (n1 := n) G hr (ean_cons (evn_of (ev_var 0 rfl)) (ean_cons (evn_of (ev_var 1 rfl)) ean_nil)) (by omega) (fun xs hx => ?_)) ean_nil)) (by omega) (fun xs hx => ?_)))
    (esn_of (EvF.s (ef_list (xs := []) ea_nil rfl))) (fun s t hs ht => ?_) sc52.nd
  · obtain ⟨y, r, rfl, rfl, z, r', rfl, rfl, rfl⟩ := hx
    refine ⟨_, rfl, ⟨many, rfl, hm2, hm4⟩, fun y hy => ?_⟩
    obtain ⟨many', ns, e1, e2, e3, rfl⟩ := hy
    have : ((many : Nat) : Int) = (many' : Nat) := by
      have := (List.cons.inj e1).1
      injection this with this
      injection this
    exact ⟨ns, by omega, e3, rfl⟩
  · obtain ⟨y, r, rfl, rfl, z, r', rfl, ⟨ns, e1, e2, rfl⟩, rfl⟩ := hx
    refine ⟨_, rfl, ⟨ns.map nmD, rfl, by rw [List.length_map]; omega⟩, fun y hy => ?_⟩
    obtain ⟨ds, ds', q1, q2, rfl⟩ := hy
    have q3 : ns.map nmD = ds := by
      have := (List.cons.inj q1).1
      injection this with this
      injection this
    obtain ⟨ks, hk, rfl⟩ := perm_map_ex q2 q3.symm
    exact ⟨ks, by rw [hk.length_eq]; exact e1, hk.nodup_iff.mpr e2, rfl⟩
  · obtain ⟨_, rfl, ns, hl, hnd, rfl⟩ := hs
    subst ht
    refine stsn_for (fun _ i ρ m => ∃ es s4 s5, Edges ns es ∧ es.length = i ∧ m = n + 30 + i ∧ ρ = [.i (.at u), .i (.d (.int (many : Nat))), .i (.d (.list (ns.map nmD))), .ml (es.map edgeD), s4, s5]) (fun z ρ => (ρ.set 4 (.i (.d (dAt z 0)))).set 5 (.i (.d (dAt z 1)))) (ein_of (ei_enumL M.enum (ev_var (x := .d (.list (ns.map nmD))) 2 rfl))) ?_ ?_ ?_ ?_
    · rintro _ rfl
      exact ⟨[], .no, .no, ⟨rfl, Nat.zero_le _, fun j p e => by simp at e⟩, rfl, rfl, rfl⟩
    · rintro _ i z ρi m rfl hz ⟨es, s4, s5, hE, hi, rfl, rfl⟩
      obtain ⟨i', x, hx, rfl⟩ := mem_enumD (List.mem_of_getElem? hz)
      exact ⟨_, eg_tup rfl (egs_cons (eg_name 4 sc52.nd) (egs_cons (eg_name 5 sc52.nd) egs_nil))⟩
    · rintro _ i z ρi m rfl hz ⟨es, s4, s5, hE, hi, rfl, rfl⟩
      have hil : i < ns.length := by
        have := (List.getElem?_eq_some_iff.mp hz).1
        rw [enumD_len, List.length_map] at this
        exact this
      have hni : ns[i]? = some ns[i] := List.getElem?_eq_getElem hil
      have hz2 : (ns.map nmD)[i]? = some (nmD ns[i]) := by rw [List.getElem?_map, hni]; rfl
      rw [enumD_get hz2] at hz
      cases hz
      have htk : (ns.take i).length = i := by rw [List.length_take]; omega
      refine stsn_app2 3 (xs := es.map edgeD) (n1 := n + 30 + i + 1) (T := fun d => ∃ o : Option Nm, (∀ b, o = some b → b ∈ ns.take i) ∧ d = edgeD (ns[i], o)) rfl (Nat.lt_of_lt_of_le (by rw [List.length_map]; omega) (sizeLine_big (n := 1000) (by decide)))
        (evn_mono (evn_tup (T := fun ds => ∃ o : Option Nm, (∀ b, o = some b → b ∈ ns.take i) ∧ ds = [nmD ns[i], .str (upS o)]) (ean_cons (evn_of (ev_var 5 rfl)) (ean_cons (evn_lof (ds := PyData.str (upS none) :: (ns.take i).map nmD) G3 hr (by decide) rfl (EvF.d (ef_cat (ds := [.str (upS none)]) (es := (ns.take i).map nmD) ?_ (EvF.d (ef_list (xs := [.d (.str (upS none))]) (ea_cons ev_str ea_nil) rfl (by show 1 ≤ sizeLine; decide))) (ev_cast (EvF.d (ef_sl_list (ev_var (x := .d (.list (ns.map nmD))) 2 rfl) eo_none (eo_some (ev_var 4 rfl)))) ?_))) ?_ ?_ (by omega)) ean_nil)) (fun xs hx => ?_)) (fun y hy => ?_) (Nat.le_refl _)) (fun d hd => ?_)
      · rw [List.length_map, htk]
        exact Nat.le_trans (by show 1 + i ≤ 1000; omega) (sizeLine_big (n := 1000) (by decide))
      · rw [cut_to, List.map_take]
      · rw [List.length_cons]
        omega
      · rw [List.length_cons, List.length_map, htk]
        omega
      · obtain ⟨y, r, rfl, rfl, z, r', rfl, ⟨d, hd, rfl⟩, rfl⟩ := hx
        rcases List.mem_cons.mp hd with q | q
        · exact ⟨[nmD ns[i], d], rfl, ⟨none, fun b hb => (nomatch hb), by rw [q]⟩, by show 2 ≤ sizeLine; decide⟩
        · obtain ⟨b, hb, rfl⟩ := List.mem_map.mp q
          exact ⟨[nmD ns[i], nmD b], rfl, ⟨some b, fun b' hb' => by cases hb'; exact hb, rfl⟩, by show 2 ≤ sizeLine; decide⟩
      · obtain ⟨ds, ⟨o, ho, rfl⟩, rfl⟩ := hy
        exact ⟨_, ⟨o, ho, rfl⟩, rfl⟩
      · obtain ⟨o, ho, rfl⟩ := hd
        refine stsn_nil ⟨es ++ [(ns[i], o)], _, _, ⟨?_, ?_, ?_⟩, by rw [List.length_append, hi]; rfl, by omega, by rw [List.map_append]; rfl⟩
        · rw [List.map_append, hE.nm, List.length_append, List.length_singleton, hi, take_snoc hni]
          rfl
        · rw [List.length_append, List.length_singleton]
          omega
        · intro j p hj b hb
          rw [List.getElem?_append] at hj
          by_cases q : j < es.length
          · rw [if_pos q] at hj
            exact hE.bk j p hj b hb
          · rw [if_neg q] at hj
            have hj0 : j - es.length = 0 := by
              have := (List.getElem?_eq_some_iff.mp hj).1
              rw [List.length_singleton] at this
              omega
            rw [hj0] at hj
            cases hj
            have : j = i := by omega
            rw [this]
            exact ho b hb
    · rintro _ ρn m rfl ⟨es, s4, s5, hE, hi, rfl, rfl⟩
      rw [enumD_len, List.length_map] at hi
      refine stsn_pure (Ξ := fun o => o = .rt (.d (treeD (es.mergeSort (PySem.W.dataLe false edgeD))))) (sts_fix 3 rfl (sts_ret (ev_tuple_list (EvF.d (ef_eq (ef_sorted (SrcD.l (es.map edgeD)) (okays_edges (by omega)) (ev_var 3 rfl) M.sorted hr) (sort_enc (enc_edge (n := 0)) es es (alike_edges es) (.refl _)))) M.tuple) rfl)) fun o ho => .inr ⟨_, ho, _, rfl, ⟨many, _, rfl, hE.tree hi hnd (by omega) (List.mergeSort_perm _ _), by rw [List.length_mergeSort]; omega, rfl⟩, ?_⟩
      rw [enumD_len, List.length_map]
      omega
end
end DL
set_option maxRecDepth 100000
set_option maxHeartbeats 4000000
/-! the urn layer, 8: _law_run -/
namespace DL
open PySem PySem.Spec PyProof.Rows L2 SlX
theorem max_ex {α : Type} (r : α → Nat) : ∀ l : List α, l ≠ [] → ∃ m ∈ l, ∀ x ∈ l, r x ≤ r m
  | [], h => absurd rfl h
  | [x], _ => ⟨x, List.mem_cons_self .., fun y hy => by rw [List.mem_singleton.mp hy]; exact Nat.le_refl _⟩
  | x :: y :: l, _ => by
    obtain ⟨m, hm, k⟩ := max_ex r (y :: l) (fun q => nomatch q)
    by_cases h : r m ≤ r x
    · refine ⟨x, List.mem_cons_self .., fun z hz => ?_⟩
      rcases List.mem_cons.mp hz with rfl | hz
      · exact Nat.le_refl _
      · exact Nat.le_trans (k z hz) h
    · refine ⟨m, List.mem_cons_of_mem _ hm, fun z hz => ?_⟩
      rcases List.mem_cons.mp hz with rfl | hz
      · omega
      · exact k z hz
/-- the streams that are not above another one -/
def endsL (t : Tree) : List Nm := (tnames t).filter fun a => decide (some a ∉ t.map (·.2))
theorem ends_ne {t : Tree} (ok : TreeOk t) (h : 1 ≤ t.length) : 1 ≤ (endsL t).length := by
  obtain ⟨r, hr⟩ := ok.rank
  obtain ⟨p, hp, k⟩ := max_ex (fun p : Nm × Option Nm => r p.1) t (fun e => by rw [e] at h; exact absurd h (by decide))
  have : p.1 ∈ endsL t := by
    refine List.mem_filter.mpr ⟨List.mem_map.mpr ⟨p, hp, rfl⟩, decide_eq_true fun q => ?_⟩
    obtain ⟨q, hq, e⟩ := List.mem_map.mp q
    have h1 := hr q hq p.1 e
    have h2 : r q.1 ≤ r p.1 := k q hq
    omega
  exact List.length_pos_of_mem this
theorem mem_ends {t : Tree} {a : Nm} : a ∈ endsL t ↔ a ∈ leavesM t := by
  rw [mem_leaves]
  unfold endsL
  rw [List.mem_filter, decide_eq_true_eq]
/-- a name's data back -/
theorem ends_eq (t : Tree) : ((tnames t).map nmD).filter (fun d => !inD d ((t.map edgeD).map fun d => dAt d 1)) = (endsL t).map nmD := by
  unfold endsL
  rw [List.filter_map]
  congr 1
  apply List.filter_congr
  intro a _
  have e : (t.map edgeD).map (fun d => dAt d 1) = (t.map (·.2)).map fun b : Option Nm => PyData.str (upS b) := by
    rw [List.map_map, List.map_map]
    rfl
  show (!inD (nmD a) _) = _
  rw [e]
  have := (enc_up (n := 0)).inD2 (some a) (t.map (·.2))
  rw [decide_not]
  exact congrArg (! ·) this
section
variable {P : Program} {w : World} {K : PySem.W.Frag} {mg : Str → Option Value} {base : Heap} {C : Addr} {f : Addr} {fd : FuncData}
theorem sc53 : FnScope ["_law_urn", "_law_wood_so", "_law_top", "_law_own", "_law_bit", "_law_names_so", "_law_found", "_law_name_so", "_law_ends_so", "_law_turn"] ["_law_urn", "_law_wood_so", "_law_top"] (defScope (top 53)) := ⟨rfl, rfl, rfl, by decide +kernel, rfl, by decide +kernel, by decide +kernel⟩
def preRun (xs : List DV) : Prop := ∃ t, xs = [.d (treeD t), .d (.int 8)] ∧ TreeOk t ∧ 1 ≤ t.length ∧ t.length ≤ 4
def postRun (xs : List DV) (y : DV) : Prop := ∃ t ds, xs = [.d (treeD t), .d (.int 8)] ∧ Fits t ds ∧ ds.length ≤ 8 ∧ y = .d (deedsD ds)
theorem ok_run (F : Fun K "_law_run" "_law_run" (top 53) f fd) (M : Mg mg) (G : GTake P w K mg base C) (G2 : GOf P w K mg base C) : FnOk P w K mg base CX0 3 f fd ["_law_urn", "_law_wood_so", "_law_top"] (spN ⟨P, w, K, C⟩ 20 preRun postRun) := by
  refine fn_N F sc53 (fun xs h => by obtain ⟨ds, rfl, _⟩ := h; rfl) (fun cdv A outer s H E u n xs hr hn h => ?_)
  obtain ⟨t, rfl, hT, ht1, ht4⟩ := h
  refine stsn_step (ρ' := [.i (.at u), .i (.d (treeD t)), .i (.d (.int 8)), .no, .no, .i (.d (.list ((tnames t).map nmD))), .ml [], .no, .no, .no]) (sts_par 5 6 (s := .i (.d (.list ((tnames t).map nmD)))) (t := .ml []) (Ev.s (EvF.d (ef_eq (ef_lcm (own := [("_law_own", 3), ("_law_bit", 4)]) (ds := t.map edgeD) (js := [3, 4]) (f := fun d => dAt d 0)
    (ρ' := fun z => [.i (.at u), .i (.d (treeD t)), .i (.d (.int 8)), .i (.d (dAt z 0)), .i (.d (dAt z 1)), .no, .no, .no, .no, .no]) rfl sc53.nd (blkOk_by (by rfl)) (by decide) (ei_tup (ev_var 1 rfl)) (fun _ _ _ _ _ z hz => ?_) (fun _ _ _ _ _ z hz => ev_var 3 rfl)) (names_eq t)))) (EvF.s (ef_list (xs := []) ea_nil rfl)) (sts_nil rfl) sc53.nd) ?_
  · obtain ⟨p, _, rfl⟩ := List.mem_map.mp hz
    exact eg_tup rfl (egs_cons (eg_name 3 sc53.nd) (egs_cons (eg_name 4 sc53.nd) egs_nil))
  refine stsn_step (ρ' := [.i (.at u), .i (.d (treeD t)), .i (.d (.int 8)), .no, .no, .i (.d (.list ((tnames t).map nmD))), .ml [], .no, .i (.d (.list ((endsL t).map nmD))), .no]) (sts_lc 8 (own := [("_law_own", 3)]) (ds := (tnames t).map nmD) (js := [3]) (p := fun d => !inD d ((t.map edgeD).map fun d => dAt d 1)) (f := fun d => d) (es := (endsL t).map nmD)
    (ρ' := fun z => [.i (.at u), .i (.d (treeD t)), .i (.d (.int 8)), .i (.d z), .no, .i (.d (.list ((tnames t).map nmD))), .ml [], .no, .no, .no]) rfl sc53.nd (blkOk_by (by rfl)) (by decide) (ei_list (ev_var 5 rfl)) (fun _ _ _ _ _ z hz => eg_name 3 sc53.nd) (fun _ _ _ _ _ z hz => ?_) (fun _ _ _ _ _ z hz _ => ev_var 3 rfl) (by rw [List.map_id', ends_eq]) (sts_nil rfl)) ?_
  · obtain ⟨a, _, rfl⟩ := List.mem_map.mp hz
    refine ets_one (et_niL (d := nmD a) (ds := (t.map edgeD).map fun d => dAt d 1) hr ((enc_nm (n := 0)).ok a).shp ?_ rfl (ev_var 3 rfl) (EvF.d (ef_lcm (own := [("_law_name_so", 7), ("_law_bit", 4)]) (ds := t.map edgeD) (js := [7, 4]) (f := fun d => dAt d 1)
      (ρ' := fun z => [.i (.at u), .i (.d (treeD t)), .i (.d (.int 8)), .i (.d (nmD a)), .i (.d (dAt z 1)), .i (.d (.list ((tnames t).map nmD))), .ml [], .i (.d (dAt z 0)), .no, .no]) rfl sc53.nd (blkOk_by (by rfl)) (by decide) (ei_tup (ev_var (x := .d (treeD t)) 1 rfl)) (fun _ _ _ _ _ z hz => ?_) (fun _ _ _ _ _ z hz => ev_var 4 rfl))))
    · have e : (t.map edgeD).map (fun d => dAt d 1) = (t.map (·.2)).map fun b : Option Nm => PyData.str (upS b) := by
        rw [List.map_map, List.map_map]
        rfl
      rw [e]
      exact ((enc_up (n := 0)).okList _).shp
    · obtain ⟨p, _, rfl⟩ := List.mem_map.mp hz
      exact eg_tup rfl (egs_cons (eg_name 7 sc53.nd) (egs_cons (eg_name 4 sc53.nd) egs_nil))
  have hnl : ((tnames t).map nmD).length = t.length := by
    unfold tnames
    rw [List.length_map, List.length_map]
  have hel : (endsL t).length ≤ t.length := by
    unfold endsL
    have := List.length_filter_le (fun a => decide (some a ∉ t.map (·.2))) (tnames t)
    rw [tnames_len] at this
    exact this
  have he1 := ends_ne hT ht1
  refine stsn_for (n1 := n + 1) (T := fun ds => ∃ m, m ≤ 8 ∧ ds = natsD m) (fun _ i ρ m => ∃ (ds : List Deed) (s9 : Sl), (∀ d ∈ ds, d.2 ∈ tnames t ∧ (d.1 = true → d.2 ∈ leavesM t)) ∧ ds.length = i ∧ m = n + 1 + 2 * i ∧ ρ = [.i (.at u), .i (.d (treeD t)), .i (.d (.int 8)), .no, .no, .i (.d (.list ((tnames t).map nmD))), .ml (ds.map deedD), .no, .i (.d (.list ((endsL t).map nmD))), s9]) (fun z ρ => ρ.set 9 (.i (.d z)))
    (ein_range (T := fun m => m ≤ 8) M.range (fun m hm => sizeLine_big (by omega)) (evn_mono (evn_take (low := 9) G hr (by decide) rfl (ev_cast (ev_add (i := 8) (j := 1) (ev_var 2 rfl) ev_int) rfl) (by decide) (by decide) (by omega)) (fun y hy => ?_) (Nat.le_refl _))) ?_ ?_ ?_ ?_
  · obtain ⟨r, hr2, rfl⟩ := hy
    exact ⟨r, by omega, rfl⟩
  · rintro _ ⟨m, hm, rfl⟩
    exact ⟨[], .no, fun _ h => (nomatch h), rfl, rfl, rfl⟩
  · rintro _ i z ρi m ⟨m8, hm, rfl⟩ hz ⟨ds, s9, hd, hi, rfl, rfl⟩
    exact ⟨_, eg_name 9 sc53.nd⟩
  · rintro _ i z ρi m ⟨m8, hm, rfl⟩ hz ⟨ds, s9, hd, hi, rfl, rfl⟩
    have hil : i < m8 := by
      have := (List.getElem?_eq_some_iff.mp hz).1
      rw [natsD_len] at this
      exact this
    have hsz : (ds.map deedD).length < sizeLine := Nat.lt_of_lt_of_le (by rw [List.length_map]; omega) (sizeLine_big (n := 1000) (by decide))
    refine stsn_if (T := fun _ => True) (n1 := n + 1 + 2 * i + 1) (evtn_cmp (y := .d (.int 0)) (op_eqD (room64 hr)) (fun z hz => ?_) (evn_take (low := 2) G hr (by decide) rfl ev_int (by decide) (by decide) (by omega)) ev_int) (fun _ => ?_) (fun _ => ?_)
    · obtain ⟨r, _, rfl⟩ := hz
      exact ⟨_, trivial, r2_eq (okD_int (n := 0) _).shp (okD_int (n := 0) _).shp⟩
    · refine stsn_app2 6 (xs := ds.map deedD) (n1 := n + 1 + 2 * i + 1 + 1) (T := fun d => ∃ a : Nm, a ∈ endsL t ∧ d = deedD (true, a)) rfl hsz (evn_mono (evn_tup (T := fun ds => ∃ a : Nm, a ∈ endsL t ∧ ds = [.str "write", nmD a]) (ean_cons (evn_of ev_str) (ean_cons (evn_lof (ds := (endsL t).map nmD) G2 hr (by decide) rfl (ev_var 8 rfl) (by rw [List.length_map]; exact he1) (by rw [List.length_map]; omega) (by omega)) ean_nil)) (fun xs hx => ?_)) (fun y hy => ?_) (Nat.le_refl _)) (fun d hd2 => ?_)
      · obtain ⟨y, r, rfl, rfl, z, r', rfl, ⟨d, hd, rfl⟩, rfl⟩ := hx
        obtain ⟨a, ha, rfl⟩ := List.mem_map.mp hd
        exact ⟨[.str "write", nmD a], rfl, ⟨a, ha, rfl⟩, by show 2 ≤ sizeLine; decide⟩
      · obtain ⟨_, ⟨a, ha, rfl⟩, rfl⟩ := hy
        exact ⟨_, ⟨a, ha, rfl⟩, rfl⟩
      · obtain ⟨a, ha, rfl⟩ := hd2
        refine stsn_nil (stsn_nil ⟨ds ++ [(true, a)], .i (.d z), fun d hd3 => ?_, by rw [List.length_append, hi]; rfl, by omega, by rw [List.map_append]; rfl⟩)
        rcases List.mem_append.mp hd3 with q | q
        · exact hd d q
        · rw [List.mem_singleton.mp q]
          exact ⟨(List.mem_filter.mp ha).1, fun _ => mem_ends.mp ha⟩
    · refine stsn_app2 6 (xs := ds.map deedD) (n1 := n + 1 + 2 * i + 1 + 1) (T := fun d => ∃ a : Nm, a ∈ tnames t ∧ d = deedD (false, a)) rfl hsz (evn_mono (evn_tup (T := fun ds => ∃ a : Nm, a ∈ tnames t ∧ ds = [.str "flush", nmD a]) (ean_cons (evn_of ev_str) (ean_cons (evn_lof (ds := (tnames t).map nmD) G2 hr (by decide) rfl (ev_var 5 rfl) (by rw [hnl]; exact ht1) (by rw [hnl]; omega) (by omega)) ean_nil)) (fun xs hx => ?_)) (fun y hy => ?_) (Nat.le_refl _)) (fun d hd2 => ?_)
      · obtain ⟨y, r, rfl, rfl, z, r', rfl, ⟨d, hd, rfl⟩, rfl⟩ := hx
        obtain ⟨a, ha, rfl⟩ := List.mem_map.mp hd
        exact ⟨[.str "flush", nmD a], rfl, ⟨a, ha, rfl⟩, by show 2 ≤ sizeLine; decide⟩
      · obtain ⟨_, ⟨a, ha, rfl⟩, rfl⟩ := hy
        exact ⟨_, ⟨a, ha, rfl⟩, rfl⟩
      · obtain ⟨a, ha, rfl⟩ := hd2
        refine stsn_nil (stsn_nil ⟨ds ++ [(false, a)], .i (.d z), fun d hd3 => ?_, by rw [List.length_append, hi]; rfl, by omega, by rw [List.map_append]; rfl⟩)
        rcases List.mem_append.mp hd3 with q | q
        · exact hd d q
        · rw [List.mem_singleton.mp q]
          exact ⟨ha, fun z => nomatch z⟩
  · rintro _ ρn m ⟨m8, hm, rfl⟩ ⟨ds, s9, hd, hi, rfl, rfl⟩
    rw [natsD_len] at hi ⊢
    refine stsn_pure (Ξ := fun o => o = .rt (.d (deedsD ds))) (sts_fix 6 rfl (sts_ret (ev_tuple_list (ev_var 6 rfl) M.tuple) rfl)) fun o ho => .inr ⟨_, ho, _, rfl, ⟨t, ds, rfl, ⟨fun d hd2 => (hd d hd2).1, fun d hd2 => (hd d hd2).2, by omega⟩, by omega, rfl⟩, ?_⟩
    omega
end
end DL
set_option maxRecDepth 100000
set_option maxHeartbeats 4000000
/-! the urn layer, 9: _law_right -/
namespace DL
open PySem PySem.Spec PyProof.Rows L2 SlX
/-- how many writes there are -/
def wn (ds : List Deed) : Nat := (ds.filter (·.1)).length
theorem wr_len : ∀ n (ds : List Deed), n ≤ ds.length → ((List.range n).filter (isW ds)).length = wn (ds.take n)
  | 0, ds, _ => by simp [wn]
  | n + 1, ds, h => by
    have hd : ds[n]? = some ds[n] := List.getElem?_eq_getElem (by omega)
    have ih := wr_len n ds (by omega)
    rw [List.range_succ, List.filter_append, List.length_append, ih, take_snoc hd]
    unfold wn
    rw [List.filter_append, List.length_append]
    congr 1
    rw [List.filter_cons, List.filter_cons]
    have : isW ds n = ds[n].1 := by
      unfold isW
      rw [hd]
    rw [this]
    cases ds[n].1 <;> rfl
theorem numb_wn (ds : List Deed) : (numb ds).length = wn ds := by
  unfold numb wr
  rw [List.length_map, wr_len _ _ (Nat.le_refl _), List.take_length]
/-- which deeds are kept -/
def keepQ (ds : List Deed) (i : Nat) : Bool := !(ds.getD i default).1 || decide ((numb (ds.take i)).length < 4)
def rowK4 (ds : List Deed) : List Deed := ((List.range ds.length).filter (keepQ ds)).map fun i => ds.getD i default
theorem getD_deed {ds : List Deed} {i : Nat} (h : i < ds.length) : ds.getD i default = ds[i] := by
  rw [List.getD_eq_getElem?_getD, List.getElem?_eq_getElem h]
  rfl
theorem rowK4_mem {ds : List Deed} {d : Deed} (h : d ∈ rowK4 ds) : d ∈ ds := by
  obtain ⟨i, hi, rfl⟩ := List.mem_map.mp h
  have := List.mem_range.mp (List.mem_filter.mp hi).1
  rw [getD_deed this]
  exact List.getElem_mem this
theorem rowK4_len (ds : List Deed) : (rowK4 ds).length ≤ ds.length := by
  unfold rowK4
  rw [List.length_map]
  have := List.length_filter_le (keepQ ds) (List.range ds.length)
  rw [List.length_range] at this
  exact this
theorem keep_count (ds : List Deed) : ∀ n, n ≤ ds.length → (((List.range n).filter (keepQ ds)).filter fun i => (ds.getD i default).1).length ≤ 4 ∧ (((List.range n).filter (keepQ ds)).filter fun i => (ds.getD i default).1).length ≤ wn (ds.take n) := fun n => by
  induction n with
  | zero => intro _; exact ⟨by simp, by simp⟩
  | succ n ih =>
    intro h
    obtain ⟨i1, i2⟩ := ih (by omega)
    have hd : ds[n]? = some ds[n] := List.getElem?_eq_getElem (by omega)
    have hg : ds.getD n default = ds[n] := getD_deed (by omega)
    have hw : wn (ds.take (n + 1)) = wn (ds.take n) + (if ds[n].1 = true then 1 else 0) := by
      rw [take_snoc hd]
      unfold wn
      rw [List.filter_append, List.length_append, List.filter_cons]
      cases ds[n].1 <;> rfl
    rw [List.range_succ, List.filter_append, List.filter_append, List.length_append, hw, List.filter_cons]
    by_cases hk : keepQ ds n = true
    · rw [if_pos hk, List.filter_cons, List.filter_nil, List.filter_nil, hg]
      by_cases hb : ds[n].1 = true
      · rw [if_pos hb, if_pos hb]
        unfold keepQ at hk
        rw [hg, hb, numb_wn] at hk
        have : wn (ds.take n) < 4 := of_decide_eq_true (by simpa using hk)
        exact ⟨by show _ + 1 ≤ 4; omega, by show _ + 1 ≤ _; omega⟩
      · rw [if_neg hb, if_neg hb]
        exact ⟨by show _ + 0 ≤ 4; omega, by show _ + 0 ≤ _; omega⟩
    · rw [if_neg hk, List.filter_nil, List.filter_nil]
      exact ⟨by show _ + 0 ≤ 4; omega, by show _ + 0 ≤ _; omega⟩
theorem rowK4_wn (ds : List Deed) : wn (rowK4 ds) ≤ 4 := by
  unfold wn rowK4
  rw [List.filter_map, List.length_map]
  exact (keep_count ds ds.length (Nat.le_refl _)).1
/-- two that stand side by side change places -/
def moreL (ds : List Deed) (k : Nat) : List Deed := (ds.take k ++ ((ds.drop k).take 2).reverse) ++ ds.drop (k + 2)
theorem moreL_perm (ds : List Deed) (k : Nat) : (moreL ds k).Perm ds := by
  unfold moreL
  have e : ds = ds.take k ++ ((ds.drop k).take 2 ++ ds.drop (k + 2)) := by
    have h1 : ds.drop (k + 2) = (ds.drop k).drop 2 := by rw [List.drop_drop]
    rw [h1, List.take_append_drop, List.take_append_drop]
  conv => rhs; rw [e]
  rw [List.append_assoc]
  exact List.Perm.append_left _ (List.Perm.append_right _ (List.reverse_perm _))
theorem wn_perm {a b : List Deed} (h : a.Perm b) : wn a = wn b := (h.filter _).length_eq
theorem fits_sub {t : Tree} {a b : List Deed} (h : Fits t a) (hs : ∀ d ∈ b, d ∈ a) (hl : b.length ≤ 100) : Fits t b := ⟨fun d hd => h.nm d (hs d hd), fun d hd => h.lf d (hs d hd), hl⟩
def keepD (ds : List Deed) (d : D) : Bool := PyData.eqv (dAt (dAt d 1) 0) (.str "flush") || decide ((numb (ds.take (intOf (dAt d 0)).toNat)).length < 4)
theorem word_flush (b : Bool) : PyData.eqv (.str (wordS b)) (.str "flush") = !b := by
  cases b <;> decide +kernel
theorem keep_eq (ds : List Deed) : ((enumD (ds.map deedD)).filter (keepD ds)).map (fun d => dAt d 1) = (rowK4 ds).map deedD := by
  unfold rowK4
  rw [enumD_range, List.filter_map, List.map_map, List.map_map]
  have e : (List.range ds.length).filter (keepD ds ∘ fun i => PyData.tuple [.int (i : Nat), (ds[i]?.map deedD).getD .none]) = (List.range ds.length).filter (keepQ ds) := by
    apply List.filter_congr
    intro i hi
    have hl := List.mem_range.mp hi
    show (PyData.eqv (dAt ((ds[i]?.map deedD).getD .none) 0) (.str "flush") || decide ((numb (ds.take i)).length < 4)) = keepQ ds i
    unfold keepQ
    rw [List.getElem?_eq_getElem hl, getD_deed hl]
    exact congrArg (· || _) (word_flush _)
  rw [e]
  apply List.map_congr_left
  intro i hi
  have hl := List.mem_range.mp (List.mem_filter.mp hi).1
  show (ds[i]?.map deedD).getD .none = deedD (ds.getD i default)
  rw [List.getElem?_eq_getElem hl, getD_deed hl]
  rfl
section
variable {P : Program} {w : World} {K : PySem.W.Frag} {mg : Str → Option Value} {base : Heap} {C : Addr} {f : Addr} {fd : FuncData}
theorem sc60 : FnScope ["_law_urn", "_law_turn", "_law_wood_so", "_law_row_so", "_law_k", "_law_own", "_law_more", "_law_goal"] ["_law_urn"] (defScope (top 60)) := ⟨rfl, rfl, rfl, by decide +kernel, rfl, by decide +kernel, by decide +kernel⟩
def preRight (xs : List DV) : Prop := xs = []
def postRight (xs : List DV) (y : DV) : Prop := y = .d (.bool true)
theorem ok_right (F : Fun K "_law_right" "_law_right" (top 60) f fd) (M : Mg mg) (Gc : Gm P w K mg base C 12 (rInit K)) (G : GTake P w K mg base C) (G1 : Gf P w K mg base "_law_wood" 4 (spN ⟨P, w, K, C⟩ 34 preTags postWood)) (G2 : Gf P w K mg base "_law_run" 3 (spN ⟨P, w, K, C⟩ 20 preRun postRun)) (G3 : Gf P w K mg base "_law_lines" 1 (spD ⟨P, w, K, C⟩ rLawLines))
    (G4 : Gf P w K mg base "_law_case_right" 17 (spD ⟨P, w, K, C⟩ rCase)) (G5 : Gf P w K mg base "_law_deep_outs" 3 (spD ⟨P, w, K, C⟩ rDeep)) (G6 : Gf P w K mg base "_law_same" 1 (spD ⟨P, w, K, C⟩ (rSame 0))) (G7 : Gf P w K mg base "alike_in" 16 (spD ⟨P, w, K, C⟩ rAlike)) :
    FnOk P w K mg base CX0 18 f fd ["_law_urn"] (spN ⟨P, w, K, C⟩ 120 preRight postRight) := by
  refine fn_N F sc60 (fun xs h => by rw [show xs = [] from h]; rfl) (fun cdv A outer s H E u n xs hr hn h => ?_)
  have h : xs = [] := h
  subst h
  refine stsn_for (fun _ i ρ m => ∃ s1 s2 s3 s4 s6 s7, m = n + 56 * i ∧ ρ = [.i (.at u), s1, s2, s3, s4, .no, s6, s7]) (fun z ρ => ρ.set 1 (.i (.d z))) (ein_of (ei_range (n := 2) M.range (by decide) ev_int)) ?_ ?_ ?_ ?_
  · rintro _ rfl
    exact ⟨.no, .no, .no, .no, .no, .no, rfl, rfl⟩
  · rintro _ i z ρi m rfl hz ⟨s1, s2, s3, s4, s6, s7, rfl, rfl⟩
    exact ⟨_, eg_name 1 sc60.nd⟩
  · rintro _ i z ρi m rfl hz ⟨s1, s2, s3, s4, s6, s7, rfl, rfl⟩
    have hi : i < 2 := by
      have := (List.getElem?_eq_some_iff.mp hz).1
      rw [natsD_len] at this
      exact this
    refine stsn_let 2 (n1 := n + 56 * i + 1 + 34) (R := fun y => ∃ t : Tree, TreeOk t ∧ 2 ≤ t.length ∧ t.length ≤ 4 ∧ y = .d (treeD t)) (evn_call G1 (hr.mono (by decide)) (ean_cons (evn_of (ev_var 0 rfl)) (ean_cons (evn_add (S := fun z => z = 2) (T := fun z => 0 ≤ z ∧ z < 3) (U := fun z => 2 ≤ z ∧ z < 5) (fun x y hx hy => by omega) evn_num (evn_mono (evn_take (low := 3) G hr (by decide) rfl ev_int (by decide) (by decide) (by omega)) (fun y hy => ?_) (Nat.le_refl _))) ean_nil)) (by omega) (fun xs hx => ?_)) (fun y hy => ?_) sc60.nd
    · obtain ⟨r, hr2, rfl⟩ := hy
      exact ⟨(r : Int), rfl, by omega, by omega⟩
    · obtain ⟨y, r, rfl, rfl, z', r', rfl, ⟨zz, rfl, h2, h5⟩, rfl⟩ := hx
      refine ⟨_, rfl, ⟨zz.toNat, by rw [Int.toNat_of_nonneg (by omega)], by omega, by omega⟩, fun y hy => ?_⟩
      obtain ⟨many, t, e1, ht, hl, rfl⟩ := hy
      have : zz = (many : Nat) := by
        have := (List.cons.inj e1).1
        injection this with this
        injection this
      exact ⟨t, ht, by omega, by omega, rfl⟩
    · obtain ⟨t, hT, ht2, ht4, rfl⟩ := hy
      have hTD := treeD_is hT
      refine stsn_let 3 (n1 := n + 56 * i + 1 + 34 + 20) (R := fun y => ∃ ds, Fits t ds ∧ ds.length ≤ 8 ∧ y = .d (deedsD ds)) (evn_call G2 (hr.mono (by decide)) (ean_cons (evn_of (ev_var 0 rfl)) (ean_cons (evn_of (ev_var 2 rfl)) (ean_cons (evn_of ev_int) ean_nil))) (by omega) (fun xs hx => ?_)) (fun y hy => ?_) sc60.nd
      · obtain ⟨y, r, rfl, rfl, z', r', rfl, rfl, z2, r2, rfl, rfl, rfl⟩ := hx
        refine ⟨_, rfl, ⟨t, rfl, hT, by omega, ht4⟩, fun y hy => ?_⟩
        obtain ⟨t', ds, e1, hF, hl, rfl⟩ := hy
        have : t = t' := by
          have := (List.cons.inj e1).1
          injection this with this
          exact (enc_tree (n := 0)).inj _ _ this
        subst this
        exact ⟨ds, hF, hl, rfl⟩
      · obtain ⟨ds, hF, hl8, rfl⟩ := hy
        refine stsn_step (ρ' := [.i (.at u), .i (.d z), .i (.d (treeD t)), .i (.d (deedsD (rowK4 ds))), s4, .no, s6, s7]) (sts_let (x := .d (deedsD (rowK4 ds))) 3 (ev_tuple_list (EvF.d (ef_eq (ef_lc (own := [("_law_k", 4), ("_law_own", 5)]) (ds := enumD (ds.map deedD)) (js := [4, 5]) (p := keepD ds) (f := fun d => dAt d 1) (ρ' := fun z' => [.i (.at u), .i (.d z), .i (.d (treeD t)), .i (.d (deedsD ds)), .i (.d (dAt z' 0)), .i (.d (dAt z' 1)), s6, s7]) rfl sc60.nd (blkOk_by (by rfl)) (by decide)
          (ei_enumT M.enum (ev_var 3 rfl)) (fun _ _ _ _ _ d hd => ?_) (fun _ _ _ _ _ d hd => ?_) (fun _ _ _ _ _ d hd _ => ev_var 5 rfl)) (keep_eq ds))) M.tuple) (sts_nil rfl) sc60.nd) ?_
        · obtain ⟨j, x, hx, rfl⟩ := mem_enumD hd
          exact eg_tup rfl (egs_cons (eg_name 4 sc60.nd) (egs_cons (eg_name 5 sc60.nd) egs_nil))
        · obtain ⟨j, x, hx, rfl⟩ := mem_enumD hd
          obtain ⟨dd, hdd, rfl⟩ := Option.map_eq_some_iff.mp (by rw [← List.getElem?_map]; exact hx)
          have e : decide (((numb (ds.take j)).length : Int) < 4) = decide ((numb (ds.take j)).length < 4) := by
            rw [decide_eq_decide]
            omega
          refine ets_one (EvW.t (ew_or (k := PyData.eqv (.str (wordS dd.1)) (.str "flush")) (m := decide ((numb (ds.take j)).length < 4)) (et_eq hr (okD_str (n := 0) (wordS_ok _)).shp (okD_str (n := 0) strOk_flush).shp rfl (ev_ix_tup (ds := [.str (wordS dd.1), .str dd.2.1]) (i := 0) rfl (ev_var 5 rfl) ev_int) ev_str) (fun _ => ew_or1 ?_)))
          rw [← e]
          exact et_lt (ev_cast (ev_len_list (ds := (numb (ds.take j)).map lineD) (ev_call G3 (hr.mono (by decide)) (ea_cons (ev_cast (ev_sl_tup (ev_var (x := .d (deedsD ds)) 3 rfl) eo_none (eo_some (ev_var 4 rfl))) (by rw [cut_to, ← List.map_take]; rfl)) ea_nil) ⟨ds.take j, rfl, by rw [List.length_take]; omega, rfl⟩) M.len) (by rw [List.length_map])) ev_int
        · have hkl := rowK4_len ds
          have hF1 : Fits t (rowK4 ds) := fits_sub hF (fun d hd => rowK4_mem hd) (by omega)
          have hn1 : (numb (rowK4 ds)).length ≤ 4 := by rw [numb_wn]; exact rowK4_wn ds
          generalize rowK4 ds = row at hkl hF1 hn1
          refine stsn_let 4 (n1 := n + 56 * i + 1 + 34 + 20 + 1) (evn_take (low := row.length + 1) G hr (by decide) rfl (ev_cast (ev_add (i := (row.length : Nat)) (j := 1) (ev_cast (ev_len_tup (ds := row.map deedD) (ev_var 3 rfl) M.len) (by rw [List.length_map])) ev_int) rfl) (by omega) (by omega) (by omega)) (fun y hy => ?_) sc60.nd
          obtain ⟨k, hk, rfl⟩ := hy
          have hp := moreL_perm row k
          have hF2 : Fits t (moreL row k) := fits_sub hF1 (fun d hd => hp.mem_iff.mp hd) (by rw [hp.length_eq]; omega)
          have hn2 : (numb (moreL row k)).length ≤ 4 := by rw [numb_wn, wn_perm hp, ← numb_wn]; exact hn1
          have hs100 : (100 : Nat) ≤ sizeLine := by decide
          refine stsn_step (ρ' := [.i (.at u), .i (.d z), .i (.d (treeD t)), .i (.d (deedsD row)), .i (.d (.int (k : Nat))), .no, .i (.d (deedsD (moreL row k))), s7]) (sts_let (x := .d (deedsD (moreL row k))) 6 (ev_cast (ev_cat_tup ?_ (ev_cat_tup ?_ (ev_sl_tup (ev_var (x := .d (deedsD row)) 3 rfl) eo_none (eo_some (ev_var 4 rfl))) (ev_rev_tup (ev_sl_tup (ev_var (x := .d (deedsD row)) 3 rfl) (eo_some (ev_var 4 rfl)) (eo_some (ev_add (i := (k : Nat)) (j := 2) (ev_var 4 rfl) ev_int))))) (ev_sl_tup (ev_var (x := .d (deedsD row)) 3 rfl) (eo_some (ev_add (i := (k : Nat)) (j := 2) (ev_var 4 rfl) ev_int)) eo_none)) ?_) (sts_nil rfl) sc60.nd) ?_
          · rw [List.length_append, List.length_reverse, show ((k : Nat) : Int) + 2 = ((k + 2 : Nat) : Int) from rfl, cut_to, cut_mid, cut_from, List.length_take, List.length_take, List.length_drop, List.length_drop, List.length_map]
            omega
          · rw [List.length_reverse, show ((k : Nat) : Int) + 2 = ((k + 2 : Nat) : Int) from rfl, cut_to, cut_mid, List.length_take, List.length_take, List.length_drop, List.length_map]
            omega
          · rw [show ((k : Nat) : Int) + 2 = ((k + 2 : Nat) : Int) from rfl, cut_to, cut_mid, cut_from, Nat.add_sub_cancel_left]
            unfold deedsD moreL
            rw [List.map_append, List.map_append, List.map_reverse, List.map_take, List.map_take, List.map_drop, List.map_drop]
          · have hc1 : CaseOk t row := ⟨hT, ht4, by omega, hF1, hn1⟩
            obtain ⟨Ss, Fs, os, hD, hO⟩ := outs_ex hT ht4 (by omega) hF1 hn1
            obtain ⟨Ss2, Fs2, os2, hD2, hO2⟩ := outs_ex hT ht4 (by omega) hF2 hn2
            have EL := (enc_lines (n := 0)).list
            refine stsn_step (ρ' := [.i (.at u), .i (.d z), .i (.d (treeD t)), .i (.d (deedsD row)), .i (.d (.int (k : Nat))), .no, .i (.d (deedsD (moreL row k))), s7]) (sts_ifF (et_not (k := true) (et_val (ev_call G4 hr (ea_cons (ev_var 2 rfl) (ea_cons (ev_var 3 rfl) ea_nil)) ⟨t, row, rfl, hc1, rfl⟩))) (sts_nil rfl)) ?_
            refine stsn_step (ρ' := [.i (.at u), .i (.d z), .i (.d (treeD t)), .i (.d (deedsD row)), .i (.d (.int (k : Nat))), .no, .i (.d (deedsD (moreL row k))), .i (.d (.bool (decide (os = os2))))]) (sts_let (x := .d (.bool (decide (os = os2)))) 7 (ev_eq (d := .list (os.map linesD)) (e := .list (os2.map linesD)) hr (EL.ok os).shp (EL.ok os2).shp (EL.eqv os os2) (ev_call G5 (hr.mono (by decide)) (ea_cons (ev_var 2 rfl) (ea_cons (ev_var 3 rfl) ea_nil)) ⟨t, row, Ss, Fs, os, rfl, hD, rfl⟩) (ev_call G5 (hr.mono (by decide)) (ea_cons (ev_var 2 rfl) (ea_cons (ev_var 6 rfl) ea_nil)) ⟨t, moreL row k, Ss2, Fs2, os2, rfl, hD2, rfl⟩)) (sts_nil rfl) sc60.nd) ?_
            refine stsn_step (ρ' := [.i (.at u), .i (.d z), .i (.d (treeD t)), .i (.d (deedsD row)), .i (.d (.int (k : Nat))), .no, .i (.d (deedsD (moreL row k))), .i (.d (.bool (decide (os = os2))))]) (sts_ifF (et_not (k := true) (et_val (ev_call G6 (hr.mono (by decide)) (ea_cons (ev_call G7 (hr.mono (by decide)) (ea_cons (ev_var 2 rfl) (ea_cons (ev_new Gc (hr.mono (by decide)) (ev_var 3 rfl) (.inl ⟨deedsD row, rfl, ((enc_deeds (n := 0)).ok row).mono, (tupD_deeds row).symm⟩)) (ea_cons (ev_new Gc (hr.mono (by decide)) (ev_var 6 rfl) (.inl ⟨deedsD (moreL row k), rfl, ((enc_deeds (n := 0)).ok (moreL row k)).mono, (tupD_deeds (moreL row k)).symm⟩)) ea_nil))) ⟨treeD t, t, row, moreL row k, decide (os = os2), rfl, hTD, hF1, hF2, ?_, rfl⟩) (ea_cons (ev_var 7 rfl) ea_nil)) ⟨.bool (decide (os = os2)), rfl, okD_bool _, rfl⟩))) (sts_nil rfl)) (stsn_nil ⟨_, _, _, _, _, _, by omega, rfl⟩)
            rw [decide_eq_true_eq, outs_eq hO hO2, alike_iff hT hF1 hF2]
  · rintro _ ρn m rfl ⟨s1, s2, s3, s4, s6, s7, rfl, rfl⟩
    rw [natsD_len]
    exact stsn_ret (evn_of ev_bool) fun y hy => ⟨_, rfl, hy, by omega⟩
end
end DL
set_option maxRecDepth 100000
set_option maxHeartbeats 4000000
/-! the urn layer, 10: _law_box, _law_cells, law -/
namespace DL
open PySem PySem.Spec PyProof.Rows L2 SlX
section
variable {C : Addr} {X : Cx} {e a b : Expr} {es : List Expr} {ss : List Stmt} {ρ : List Sl} {pos p p2 : Pos} {Φ : Out → Prop} {lo hi : Option Expr} {o u : Option Int}
theorem ints_dt {B : Hp} : ∀ ns : List Int, DtAll B (ns.map V.int) (ns.map PyData.int)
  | [] => .nil
  | n :: ns => .cons (Dt.int n) (ints_dt ns)
/-- script[lo:hi] -/
theorem ef_sl_scr {ns : List Int} (he : Ev C X e ρ (.scr ns)) (hl : EvO C X lo ρ o) (hh : EvO C X hi ρ u) : EvF C X (.Subscript e (.Slice lo hi none p2) pos) ρ (cutD (ns.map .int) o u) :=
  pe_weak (pe_slice sl_list he hl hh) fun σ H Q ⟨H0, B, ex, en, q⟩ => ⟨H0, B, ex, en, fun v B1 H1 s1 r1 => ⟨H0, B1, s1.t, en.step s1, fun B2 H2 s2 => ⟨H0, B2, s2.t, (en.step s1).step s2, fun B3 H3 s3 => by
    have s13 := (s1.trans s2).trans s3
    obtain ⟨a, rfl, hs⟩ := r1
    refine ⟨a, _, rfl, ((s2.b.trans s3.b).trans s3.t).l hs, fun l hl => ?_⟩
    have st := Step.aside (o := .lst (cutV (ns.map V.int) o u)) s3.t hl
    exact q l _ B3 _ (s13.trans st) ((Step.ex ex s13).free hl) (s3.t.free hl) upd_same (dtall_cut (ints_dt ns))⟩⟩⟩
/-- xs or ys, lists of one's own -/
theorem ef_orL {xs ys : List D} (ha : EvF C X a ρ xs) (hb : EvF C X b ρ ys) : EvF C X (.BoolOp .Or [a, b] pos) ρ (if xs = [] then ys else xs) :=
  pe_weak (pe_orT ha (pe_one hb)) fun σ H Q ⟨H0, B, ex, en, q⟩ => ⟨H0, B, ex, en, fun p vs B1 H1 s1 hp hbp hh hd => by
    have hl := dtall_len hd
    refine ⟨!vs.isEmpty, .inl ⟨vs, sl_of hh, rfl⟩, ?_⟩
    cases vs with
    | nil =>
      have hx : xs = [] := List.eq_nil_of_length_eq_zero hl.symm
      subst hx
      refine iteF ⟨H0, B1, s1.t, en.step s1, fun p2 vs2 B2 H2 s2 hp2 hb2 hh2 hd2 => ?_⟩
      exact q p2 vs2 B2 H2 (s1.trans s2) ((Step.ex ex s1).free hp2) hb2 hh2 (by rw [if_pos rfl]; exact hd2)
    | cons v vs =>
      have hx : xs ≠ [] := fun z => by rw [z] at hl; cases hl
      exact iteT (q p (v :: vs) B1 H1 s1 hp hbp hh (by rw [if_neg hx]; exact hd))⟩
/-- name[j] = e, name a list of one's own -/
theorem sts_storeM (i : Nat) {x : Str} {xs : List D} {d : D} {j : Nat} {ix : Expr} {ps : Pos} (h : ρ[i]? = some (.ml xs)) (hj : j < xs.length) (hix : Ev C X ix ρ (.d (.int (j : Nat)))) (he : Ev C X e ρ (.d d)) (k : Sts C X ss (ρ.set i (.ml (xs.set j d))) Φ)
    (hN : X.N[i]? = some x := by rfl) (hv : Vis X.env.scope x := by first | exact Or.inl rfl | exact Or.inr (Or.inl rfl) | exact Or.inr (Or.inr rfl)) (hd : (x == ("__debug__" : Str)) = false := by decide) (hcd : (x == ("__classdict__" : Str)) = false := by decide)
    (ha : ∀ v, assign (.Subscript (.Name x p) ix pos) X.env v = (do
      let ov ← holding [v] (eval (.Name x p) X.env)
      let iv ← holding [v, ov] (eval ix X.env)
      standAt pos
      holding [v, ov, iv] (setItem ov iv v)
      release [v, ov, iv] []) := by intro _; rfl)
    (hs : swapsWithSole [.Subscript (.Name x p) ix pos] e ps.line X.env = pure false := by rfl) (hw : swappedStores [.Subscript (.Name x p) ix pos] e X.env = pure none := by rfl)
    (h1 : (assignEach [.Subscript (.Name x p) ix pos] X.env).map (·.2) = [assign (.Subscript (.Name x p) ix pos) X.env] := by rfl) : Sts C X (.Assign [.Subscript (.Name x p) ix pos] e ps :: ss) ρ Φ :=
  sts_cons (ps_weak (ps_asg he (pg_sub (pe_var (X := X) hN hv hd hcd) hix set_list ha) hs hw h1) fun D σ H ⟨B0, H0, B, ex, s0, en, k1, _⟩ => ⟨H0, B, s0.t, en, fun v B1 H1 s1 r1 => by
    have e1 := en.step s1
    obtain ⟨a, vs, ea, g1, g2, g3, g4⟩ := e1.at_ i _ h
    refine ⟨.ref a, EnvOk.val (c := ct X C) (H0 := H0) (B := B1) (H := H1) ea, H0, B1, s1.t, e1, fun w B2 H2 s2 r2 => ?_⟩
    cases r2
    have e2 := e1.step s2
    obtain ⟨a', vs', ea', m1, m2, m3, m4⟩ := e2.at_ i _ h
    rw [ea] at ea'
    cases ea'
    have hl := dtall_len m4
    have hjx : ixN vs'.length (j : Nat) = some j := by
      unfold ixN
      rw [if_pos (by omega), if_pos (by omega), Int.toNat_natCast]
    refine ⟨a, vs', _, j, rfl, rfl, m3, hjx, ?_⟩
    exact k1 σ B2 _ _ (((s0.trans s1).trans s2).mut m1 m2) (s1.b.trans s2.b) (e2.mutate (s' := .ml (xs.set j d)) h rfl ea ⟨a, _, rfl, m1, m2, upd_same, dtall_set j m4 (rp_mono (x := .d d) s2.b r1)⟩ rfl) k⟩)
theorem ev_geI {i j : Int} (ha : Ev C X a ρ (.d (.int i))) (hb : Ev C X b ρ (.d (.int j))) : Ev C X (.Compare a [.GtE] [b] pos) ρ (.d (.bool (decide (j ≤ i)))) := ev_cmp op_ge (r2_I0 fun H => Dt.bl _) ha hb
theorem ev_powI {i j : Int} (h : CPow i j) (ha : Ev C X a ρ (.d (.int i))) (hb : Ev C X b ρ (.d (.int j))) : Ev C X (.BinOp a .Pow b pos) ρ (.d (.int (i ^ j.toNat))) := ev_op op_pow (r2_I h fun H => Dt.int _) ha hb
end
/-! ### a new list that is given away -/
def spF (c : Ct) (R : List DV → List D → Prop) : Sp := fun vs H Q _ => ∃ B xs ys, Ex B H ∧ Paired (Rp c B) vs xs ∧ R xs ys ∧ ∀ p ws B' H', Step B H B' H' → H p = none → B' p = none → H' p = some (.lst ws) → DtAll B' ws ys → Q (.ref p) H'
section
variable {C : Addr} {X : Cx} {e : Expr} {es : List Expr} {ρ : List Sl} {pos p p2 p3 : Pos} {k : Nat} {nm : Str}
theorem ef_callF {R : List DV → List D → Prop} {xs : List DV} {ys : List D} (G : Gf X.prog X.w X.K X.mg X.base nm k (spF (ct X C) R)) (hr : Room k X.A) (ha : EvA C X (e :: es) ρ xs) (h : R xs ys) (hg : Gl X nm := by rfl) (hdb : (nm == ("__debug__" : Str)) = false := by decide) (he : starEach (e :: es) X.env = (false, eval e X.env) :: starEach es X.env := by rfl) (hpl : (backTo pos (starEach es X.env)).any (·.1) = false := by rfl) :
    EvF C X (.Call (.Name nm p) (e :: es) [] pos) ρ ys := by
  obtain ⟨f, fd, ps, hm, hk, hb, F⟩ := G.ex
  refine pe_weak (pe_call F hr hg hm hk hb .nil (pass0 (X := X)) ha hdb he hpl) fun σ H Q ⟨H0, B, ex, en, q⟩ => ⟨H0, B, ex, en, fun vs B1 H1 s1 r1 => ?_⟩
  show spF (ct X C) R (vs ++ []) H1 Q E0
  rw [List.append_nil]
  exact ⟨B1, xs, ys, s1.t, r1, h, fun q1 ws B2 H2 s2 h1 h2 h3 h4 => q q1 ws B2 H2 (s1.trans s2) ((Step.ex ex s1).free h1) h2 h3 h4⟩
/-- a def called with an urn of its own -/
theorem ev_withUrn {ys : List D} {m : Nat} {Pre : List DV → Prop} {Post : List DV → DV → Prop} {x : DV} (G : Gf X.prog X.w X.K X.mg X.base nm k (spN (ct X C) m Pre Post)) (hr : Room k X.A) (hm1 : m ≤ 1000) (ha : EvF C X e ρ ys) (hu : ∃ a b c : Int, ys = [.int a, .int b, .int c] ∧ UOk a b c 0) (hpre : Pre []) (hpost : ∀ y, Post [] y → y = x)
    (hg : Gl X nm := by rfl) (hdb : (nm == ("__debug__" : Str)) = false := by decide) (he : starEach [e] X.env = (false, eval e X.env) :: starEach [] X.env := by rfl) (hpl : (backTo pos (starEach [] X.env)).any (·.1) = false := by rfl) :
    Ev C X (.Call (.Name nm p) [e] [] pos) ρ x := by
  obtain ⟨f, fd, ps, hm, hk, hb, F⟩ := G.ex
  refine pe_weak (pe_call F hr hg hm hk hb .nil (pass0 (X := X)) (pa_cons ha pa_nil he) hdb he hpl) fun σ H Q ⟨H0, B, ex, en, q⟩ => ⟨H0, B, ex, en, fun p1 ws B1 H1 s1 h1 h2 h3 h4 => ?_⟩
  show spN (ct X C) m Pre Post ([V.ref p1] ++ []) H1 Q E0
  obtain ⟨a, b, c, rfl, ku⟩ := hu
  have hws : ws = [V.int a, .int b, .int c] := by
    cases h4 with
    | cons r1 h4 =>
      cases h4 with
      | cons r2 h4 =>
        cases h4 with
        | cons r3 h4 =>
          cases h4
          cases r1
          cases r2
          cases r3
          rfl
  subst hws
  refine ⟨B1, p1, 0, [], s1.t, .cons rfl .nil, h2, ⟨_, h3, a, b, c, rfl, ku⟩, by omega, hpre, fun y v B2 H2 hy s2 r2 => ?_⟩
  rw [hpost y hy] at r2
  obtain ⟨w, _, s2⟩ := s2
  refine q v B2 H2 ⟨s1.b.trans s2.b, s2.t, fun a' w' hb' hw' => ?_⟩ r2
  obtain ⟨g1, g2⟩ := s1.f a' w' hb' hw'
  have ne : a' ≠ p1 := fun z => by rw [z, h1] at hw'; cases hw'
  exact s2.f a' w' g1 (by rw [upd_ne ne]; exact g2)
end
section
variable {P : Program} {w : World} {K : PySem.W.Frag} {mg : Str → Option Value} {base : Heap} {C : Addr} {f : Addr} {fd : FuncData}
/-! ### _law_box -/
theorem sc42 : FnScope ["_law_script", "_law_k", "_law_cell"] ["_law_script", "_law_k"] (defScope (top 42)) := ⟨rfl, rfl, rfl, by decide +kernel, rfl, by decide +kernel, by decide +kernel⟩
def boxA (c : Int) : Int := (if c < 0 then -c else c) * (if decide ((10 : Int) ^ 18 ≤ if c < 0 then -c else c) = true then 1 else 0)
def boxB (c : Int) (k : Nat) : Int := c % 2305843009213693951 + 39373 * (k : Int) + 824115
theorem box_ok (c : Int) {k : Nat} (hk : k < 2) : UOk (boxA c) (boxB c k) 0 0 := by
  have h1 := Int.emod_nonneg c (show (2305843009213693951 : Int) ≠ 0 by decide)
  have h2 := Int.emod_lt_of_pos c (show (0 : Int) < 2305843009213693951 by decide)
  refine ⟨?_, ?_, ?_, by omega, by omega⟩
  · unfold boxA
    refine Int.mul_nonneg ?_ ?_
    · split <;> omega
    · split <;> omega
  · unfold boxB
    omega
  · unfold boxB
    omega
def rBox : List DV → List D → Prop := fun xs ys => ∃ (cs : List Int) (k : Nat), xs = [.d (.list (cs.map .int)), .d (.int (k : Nat))] ∧ k < cs.length ∧ k < 2 ∧ ∃ c, cs[k]? = some c ∧ ys = [.int (boxA c), .int (boxB c k), .int 0]
theorem ok_box (F : Fun K "_law_box" "_law_box" (top 42) f fd) (M : Mg mg) : FnOk P w K mg base CX0 1 f fd ["_law_script", "_law_k"] (spF ⟨P, w, K, C⟩ rBox) := by
  refine F.ok sc42 (fun vs H Q E h => ?_) (fun cdv A outer s H vs Q E hr h => ?_)
  · obtain ⟨B, xs, ys, _, hp, ⟨cs, k, rfl, _⟩, _⟩ := h
    rw [paired_len hp]
    rfl
  · obtain ⟨B, xs, ys, ex, hp, ⟨cs, k, rfl, hk, hk2, c, hc, rfl⟩, q⟩ := h
    have he : ∀ {X : Cx} {e : Expr}, True := trivial
    refine ⟨_, pss_cons (ps_set (i := 2) sc42.nd rfl (Or.inl rfl) (show Ev C _ _ [.i (.d (.list (cs.map .int))), .i (.d (.int (k : Nat))), .no] (.d (.int c)) from ?_) rfl (Or.inl rfl)) (pss_one (ps_ret (show EvF C _ _ [.i (.d (.list (cs.map .int))), .i (.d (.int (k : Nat))), .i (.d (.int c))] [.int (boxA c), .int (boxB c k), .int 0] from ?_))), ?_⟩
    · refine ev_if (k := decide ((k : Int) < (cs.length : Int))) (et_lt (ev_var 1 rfl) (ev_cast (ev_len_list (ds := cs.map .int) (ev_var 0 rfl) M.len) (by rw [List.length_map]))) (fun _ => ev_ix_list (atI_nat (by rw [List.getElem?_map, hc]; rfl)) (ev_var 0 rfl) (ev_var 1 rfl)) (fun z => ?_)
      have : ¬ ((k : Int) < (cs.length : Int)) := of_decide_eq_false z
      omega
    · refine ef_list (xs := [.d (.int (boxA c)), .d (.int (boxB c k)), .d (.int 0)]) (ea_cons (ev_mulI (i := if c < 0 then -c else c) (.inr ?_) (ev_absI M.abs (ev_var 2 rfl)) (ev_toB M.int (ev_geI (ev_absI M.abs (ev_var 2 rfl)) (ev_cast (ev_powI (i := 10) (j := 18) ⟨by decide, by decide, by decide⟩ ev_int ev_int) rfl)))) (ea_cons (ev_add (i := c % 2305843009213693951 + 39373 * (k : Int)) (j := 824115) (ev_add (i := c % 2305843009213693951) (j := 39373 * (k : Int)) (ev_modI (by decide) (ev_toI M.int (ev_var 2 rfl)) ev_int) (ev_mulI (.inl ⟨by decide, by decide⟩) ev_int (ev_var 1 rfl))) ev_int) (ea_cons ev_int ea_nil))) rfl (by show 3 ≤ sizeLine; decide)
      split <;> omega
    · have en : EnvOk ⟨P, w, K, C⟩ H B H (L2.start ["_law_script", "_law_k", "_law_cell"] vs) [.i (.d (.list (cs.map .int))), .i (.d (.int (k : Nat))), .no] := env_start (c := ⟨P, w, K, C⟩) (N := ["_law_script", "_law_k", "_law_cell"]) hp
      exact ⟨H, B, ex, en, fun v B1 H1 s1 r1 => ⟨H, B1, s1.t, (en.step s1).set (x := .d (.int c)) 2 r1, fun p1 ws B2 H2 s2 h1 h2 h3 h4 => q p1 ws B2 H2 (s1.trans s2) ((Step.ex ex s1).free h1) h2 h3 h4⟩⟩
/-! ### _law_cells -/
theorem sc44 : FnScope ["_law_script", "_law_top", "_law_cells_here", "_law_k", "_law_cell", "_law_at_so"] ["_law_script", "_law_top"] (defScope (top 44)) := ⟨rfl, rfl, rfl, by decide +kernel, rfl, by decide +kernel, by decide +kernel⟩
def restC (ns : List Int) : List Int := (ns.drop 2).take 61
def cells0 (ns : List Int) : List Int := if ns.take 2 = [] then [0] else ns.take 2
def cellsUp (ns : List Int) : Nat → List Int
  | 0 => cells0 ns
  | i + 1 => (cellsUp ns i).set (i % 2) ((cellsUp ns i).getD (i % 2) 0 + (restC ns).getD i 0 * ((i : Int) + 2))
def cellsM (ns : List Int) : List Int := cellsUp ns (restC ns).length
theorem cellsUp_len (ns : List Int) : ∀ i, (cellsUp ns i).length = (cells0 ns).length
  | 0 => rfl
  | i + 1 => by
    rw [cellsUp, List.length_set, cellsUp_len ns i]
theorem cells0_len (ns : List Int) : 1 ≤ (cells0 ns).length ∧ (cells0 ns).length ≤ 2 := by
  unfold cells0
  by_cases h : ns.take 2 = []
  · rw [if_pos h]
    exact ⟨by decide, by decide⟩
  · rw [if_neg h]
    have := List.length_pos_iff.mpr h
    rw [List.length_take] at this ⊢
    omega
theorem cells0_two {ns : List Int} {i : Nat} (h : i < (restC ns).length) : (cells0 ns).length = 2 := by
  unfold restC at h
  rw [List.length_take, List.length_drop] at h
  unfold cells0
  have : ns.take 2 ≠ [] := fun e => by
    have h0 : (ns.take 2).length = 0 := by rw [e]; rfl
    rw [List.length_take] at h0
    omega
  rw [if_neg this, List.length_take]
  omega
def rCells : List DV → DV → Prop := fun xs y => ∃ ns : List Int, xs = [.scr ns, .d (.int 2)] ∧ ns.length ≤ 63 ∧ y = .d (.list ((cellsM ns).map .int))
theorem ok_cells (F : Fun K "_law_cells" "_law_cells" (top 44) f fd) (M : Mg mg) : FnOk P w K mg base CX0 1 f fd ["_law_script", "_law_top"] (spD ⟨P, w, K, C⟩ rCells) := by
  refine fn_D F sc44 (fun xs y h => by obtain ⟨ns, rfl, _⟩ := h; rfl) (fun cdv A outer s H E xs y hr h => ?_)
  obtain ⟨ns, rfl, hl, rfl⟩ := h
  have hsl : (100 : Nat) ≤ sizeLine := by decide
  refine sts_set 2 (s := .ml ((cells0 ns).map .int)) (EvF.s (ef_eq (ef_orL (ef_list_of false (ds := (ns.take 2).map .int) (EvF.d (ef_eq (ef_sl_scr (ev_var 0 rfl) eo_none (eo_some (ev_var 1 rfl))) ?_)) M.list) (ef_list (xs := [.d (.int 0)]) (ds := [.int 0]) (ea_cons ev_int ea_nil) rfl (by show 1 ≤ sizeLine; decide))) ?_)) ?_ sc44.nd
  · rw [show (2 : Int) = ((2 : Nat) : Int) from rfl, cut_to, List.map_take]
  · unfold cells0
    by_cases h : ns.take 2 = []
    · rw [if_pos h, h]
      rfl
    · rw [if_neg h, if_neg fun e => h (List.map_eq_nil_iff.mp e)]
  · refine sts_for (ds := enumD ((restC ns).map .int)) (fun i ρ => ∃ s3 s4 s5, ρ = [.i (.scr ns), .i (.d (.int 2)), .ml ((cellsUp ns i).map .int), s3, s4, s5]) (fun z ρ => (ρ.set 3 (.i (.d (dAt z 0)))).set 4 (.i (.d (dAt z 1)))) (ei_enumL M.enum (EvF.d (ef_eq (ef_sl_scr (ev_var 0 rfl) (eo_some (ev_var 1 rfl)) (eo_some ev_int)) ?_))) ⟨.no, .no, .no, rfl⟩ ?_ ?_ ?_
    · rw [show (2 : Int) = ((2 : Nat) : Int) from rfl, show (63 : Int) = ((63 : Nat) : Int) from rfl, cut_mid, ← List.map_drop, ← List.map_take]
      rfl
    · rintro i z ρi hz ⟨s3, s4, s5, rfl⟩
      obtain ⟨i', x, hx, rfl⟩ := mem_enumD (List.mem_of_getElem? hz)
      exact ⟨_, eg_tup rfl (egs_cons (eg_name 3 sc44.nd) (egs_cons (eg_name 4 sc44.nd) egs_nil))⟩
    · rintro i z ρi hz ⟨s3, s4, s5, rfl⟩
      have hi : i < (restC ns).length := by
        have := (List.getElem?_eq_some_iff.mp hz).1
        rw [enumD_len, List.length_map] at this
        exact this
      have hri : (restC ns)[i]? = some (restC ns)[i] := List.getElem?_eq_getElem hi
      have hz2 : ((restC ns).map PyData.int)[i]? = some (.int (restC ns)[i]) := by rw [List.getElem?_map, hri]; rfl
      rw [enumD_get hz2] at hz
      cases hz
      have hc2 : (cellsUp ns i).length = 2 := by rw [cellsUp_len, cells0_two hi]
      have hm2 : i % 2 < 2 := Nat.mod_lt _ (by decide)
      have hi63 : i < 61 := by
        unfold restC at hi
        rw [List.length_take] at hi
        omega
      have hgc : (cellsUp ns i)[i % 2]? = some ((cellsUp ns i).getD (i % 2) 0) := by
        rw [List.getD_eq_getElem?_getD, List.getElem?_eq_getElem (by omega)]
        rfl
      have hgr : (restC ns).getD i 0 = (restC ns)[i] := by
        rw [List.getD_eq_getElem?_getD, hri]
        rfl
      refine sts_let (x := .d (.int ((i % 2 : Nat) : Int))) 5 (ev_cast (ev_modI (i := (i : Int)) (j := 2) (by decide) (ev_toI M.int (ev_var 3 rfl)) (ev_var 1 rfl)) rfl) ?_ sc44.nd
      refine sts_storeM 2 (xs := (cellsUp ns i).map .int) (j := i % 2) (d := .int ((cellsUp ns i).getD (i % 2) 0 + (restC ns).getD i 0 * ((i : Int) + 2))) rfl (by rw [List.length_map, hc2]; exact hm2) (ev_var 5 rfl) (ev_frz 2 rfl (ev_add (i := (cellsUp ns i).getD (i % 2) 0) (ev_ix_list (ds := (cellsUp ns i).map .int) (i := ((i % 2 : Nat) : Int)) (atI_nat (by rw [List.getElem?_map, hgc]; rfl)) (ev_var 2 rfl) (ev_var 5 rfl)) (ev_mulI (i := (restC ns).getD i 0) (j := (i : Int) + 2) (.inr ⟨by omega, by omega⟩) (ev_cast (ev_var 4 rfl) ?_) (ev_add (i := (i : Int)) (j := 2) (ev_var 3 rfl) ev_int)))) (sts_nil ⟨.i (.d (.int (i : Nat))), .i (.d (.int (restC ns)[i])), .i (.d (.int ((i % 2 : Nat) : Int))), ?_⟩)
      · rw [hgr]
        rfl
      · rw [cellsUp, List.map_set]
        rfl
    · rintro ρn ⟨s3, s4, s5, rfl⟩
      rw [enumD_len, List.length_map]
      exact sts_fix 2 rfl (sts_ret (ev_var 2 rfl) .rt)
/-! ### law -/
theorem sc61 : FnScope ["_law_script", "_law_cells_here", "_law_k"] ["_law_script"] (defScope (top 61)) := ⟨rfl, rfl, rfl, by decide +kernel, rfl, by decide +kernel, by decide +kernel⟩
def rLaw : List DV → DV → Prop := fun xs y => ∃ ns : List Int, xs = [.scr ns] ∧ ns.length ≤ 63 ∧ y = .d (.bool true)
theorem ok_law (F : Fun K "law" "law" (top 61) f fd) (M : Mg mg) (G1 : Gf P w K mg base "_law_cells" 1 (spD ⟨P, w, K, C⟩ rCells)) (G2 : Gf P w K mg base "_law_by_hand_right" 18 (spD ⟨P, w, K, C⟩ rHand)) (G3 : Gf P w K mg base "_law_right" 18 (spN ⟨P, w, K, C⟩ 120 preRight postRight)) (G4 : Gf P w K mg base "_law_box" 1 (spF ⟨P, w, K, C⟩ rBox)) :
    FnOk P w K mg base CX0 19 f fd ["_law_script"] (spD ⟨P, w, K, C⟩ rLaw) := by
  refine fn_D F sc61 (fun xs y h => by obtain ⟨ns, rfl, _⟩ := h; rfl) (fun cdv A outer s H E xs y hr h => ?_)
  obtain ⟨ns, rfl, hl, rfl⟩ := h
  have hcl : (cellsM ns).length = (cells0 ns).length := cellsUp_len ns _
  have hc2 := cells0_len ns
  refine sts_let (x := .d (.list ((cellsM ns).map .int))) 1 (ev_call G1 (hr.mono (by decide)) (ea_cons (ev_var 0 rfl) (ea_cons ev_int ea_nil)) ⟨ns, rfl, hl, rfl⟩) ?_ sc61.nd
  have hall : (((List.range (cellsM ns).length).map fun _ => true).all id) = true := by
    rw [List.all_eq_true]
    intro b hb
    obtain ⟨_, _, rfl⟩ := List.mem_map.mp hb
    rfl
  refine sts_ret (x := .d (.bool (true && ((List.range (cellsM ns).length).map fun _ => true).all id))) (ev_and (k := true) (ev_call0 G2 hr ⟨rfl, rfl⟩) (fun _ => ev_one (ev_all (bs := (List.range (cellsM ns).length).map fun _ => true) (EvF.d (ef_eq (ef_lcm (own := [("_law_k", 2)]) (ds := natsD (cellsM ns).length) (js := [2]) (f := fun _ => .bool true) (ρ' := fun z => [.i (.scr ns), .i (.d (.list ((cellsM ns).map .int))), .i (.d z)]) rfl sc61.nd (blkOk_by (by rfl)) (by decide)
    (ei_range (n := (cellsM ns).length) M.range (sizeLine_big (by omega)) (ev_cast (ev_len_list (ds := (cellsM ns).map .int) (ev_var 1 rfl) M.len) (by rw [List.length_map]))) (fun _ _ _ _ _ z hz => eg_name 2 sc61.nd) (fun _ _ _ _ _ z hz => ?_)) (by unfold natsD; rw [List.map_map, List.map_map]; rfl))) M.all))) (by rw [hall]; exact .rt)
  obtain ⟨k, hk, rfl⟩ := List.mem_map.mp hz
  have hk2 := List.mem_range.mp hk
  refine ev_withUrn G3 hr (by decide) (ef_callF G4 (hr.mono (by decide)) (ea_cons (ev_var 1 rfl) (ea_cons (ev_var 2 rfl) ea_nil)) ⟨cellsM ns, k, rfl, hk2, by omega, (cellsM ns)[k], List.getElem?_eq_getElem hk2, rfl⟩) ⟨_, _, _, rfl, box_ok _ (by omega)⟩ rfl fun y hy => hy
end
end DL
set_option maxRecDepth 100000
set_option maxHeartbeats 4000000
/-! what the top has written, joined -/
namespace DL
open PySem PySem.Spec PyProof.Rows L2 SlX
theorem revB {K : PySem.W.Frag} {fd : FuncData} {ps : List Str} {n1 n2 n3 : Str} (h : ∀ (s : Shared) (a b c : Value), BindsTo s fd ⟨[], [(n1, a), (n2, b), (n3, c)]⟩ (ps.zip [c, b, a])) : KBn K fd ps 0 [n1, n2, n3] (fun _ ws => ws.reverse) (fun _ zs => zs.reverse) := by
  refine ⟨fun s us ws _ l1 l2 => ?_, fun _ r => r.reverse⟩
  have : us = [] := List.eq_nil_of_length_eq_zero l1
  subst this
  match ws, l2 with
  | [a, b, c], _ => exact h s a b c
def spLaw (K : PySem.W.Frag) : Sp := fun vs H Q _ => ∃ (a : Addr) (ns : List Int), vs = [.ref a] ∧ SqL K H a (ns.map V.int) ∧ ns.length ≤ 63 ∧ ∀ H', Q (.bl true) H'

section
variable {l : PySem.W.OpenLaw} {w : World} {K : PySem.W.Frag} {h : Heap} {mg : Str → Option Value}
theorem all_mk (X : K.In h) (G : h.Ns mainGlobals mg) {fa C T TT fI pD f7 f8 f18 f19 f20 f21 f22 f23 f25 f28 f29 f30 f31 f32 f33 f34 f35 f36 f37 f38 f39 f40 f42 f43 f44 f45 f46 f47 f48 f49 f50 f51 f52 f53 f54 f55 f56 f57 f58 f59 f60 f61 qm2 fm2 qm3 fm3 qm4 fm4 qm5 fm5 qm6 fm6 : Addr} (hfa : mg "law" = some (.ref fa))
    {od7 an7 od8 an8 od18 an18 od19 an19 od20 an20 od21 an21 od22 an22 od23 an23 od25 an25 od28 an28 od29 an29 od30 an30 od31 an31 od32 an32 od33 an33 od34 an34 od35 an35 od36 an36 od37 an37 od38 an38 od39 an39 od40 an40 od42 an42 od43 an43 od44 an44 od45 an45 od46 an46 od47 an47 od48 an48 od49 an49 od50 an50 od51 an51 od52 an52 od53 an53 od54 an54 od55 an55 od56 an56 od57 an57 od58 an58 od59 an59 od60 an60 od61 an61 odI anI odTT odT odm2 anm2 odm3 anm3 odm4 anm4 odm5 anm5 odm6 anm6 : Option Addr} {sl7 sl8 sl18 sl19 sl20 sl21 sl22 sl23 sl25 sl28 sl29 sl30 sl31 sl32 sl33 sl34 sl35 sl36 sl37 sl38 sl39 sl40 sl42 sl43 sl44 sl45 sl46 sl47 sl48 sl49 sl50 sl51 sl52 sl53 sl54 sl55 sl56 sl57 sl58 sl59 sl60 sl61 slI slTT slT slm2 slm3 slm4 slm5 slm6 : Array (Option Value)} {oc7 kV7 dc7 pm7 cd7 ct7 oc8 kV8 dc8 pm8 cd8 ct8 oc18 kV18 dc18 pm18 cd18 ct18 oc19 kV19 dc19 pm19 cd19 ct19 oc20 kV20 dc20 pm20 cd20 ct20 oc21 kV21 dc21 pm21 cd21 ct21 oc22 kV22 dc22 pm22 cd22 ct22 oc23 kV23 dc23 pm23 cd23 ct23 oc25 kV25 dc25 pm25 cd25 ct25 oc28 kV28 dc28 pm28 cd28 ct28 oc29 kV29 dc29 pm29 cd29 ct29 oc30 kV30 dc30 pm30 cd30 ct30 oc31 kV31 dc31 pm31 cd31 ct31 oc32 kV32 dc32 pm32 cd32 ct32 oc33 kV33 dc33 pm33 cd33 ct33 oc34 kV34 dc34 pm34 cd34 ct34 oc35 kV35 dc35 pm35 cd35 ct35 oc36 kV36 dc36 pm36 cd36 ct36 oc37 kV37 dc37 pm37 cd37 ct37 oc38 kV38 dc38 pm38 cd38 ct38 oc39 kV39 dc39 pm39 cd39 ct39 oc40 kV40 dc40 pm40 cd40 ct40 oc42 kV42 dc42 pm42 cd42 ct42 oc43 kV43 dc43 pm43 cd43 ct43 oc44 kV44 dc44 pm44 cd44 ct44 oc45 kV45 dc45 pm45 cd45 ct45 oc46 kV46 dc46 pm46 cd46 ct46 oc47 kV47 dc47 pm47 cd47 ct47 oc48 kV48 dc48 pm48 cd48 ct48 oc49 kV49 dc49 pm49 cd49 ct49 oc50 kV50 dc50 pm50 cd50 ct50 oc51 kV51 dc51 pm51 cd51 ct51 oc52 kV52 dc52 pm52 cd52 ct52 oc53 kV53 dc53 pm53 cd53 ct53 oc54 kV54 dc54 pm54 cd54 ct54 oc55 kV55 dc55 pm55 cd55 ct55 oc56 kV56 dc56 pm56 cd56 ct56 oc57 kV57 dc57 pm57 cd57 ct57 oc58 kV58 dc58 pm58 cd58 ct58 oc59 kV59 dc59 pm59 cd59 ct59 oc60 kV60 dc60 pm60 cd60 ct60 oc61 kV61 dc61 pm61 cd61 ct61 ocI kVI dcI pmI cdI ctI ocTT ocm2 kVm2 dcm2 pmm2 cdm2 ctm2 ocm3 kVm3 dcm3 pmm3 cdm3 ctm3 ocm4 kVm4 dcm4 pmm4 cdm4 ctm4 ocm5 kVm5 dcm5 pmm5 cdm5 ctm5 ocm6 kVm6 dcm6 pmm6 cdm6 ctm6 : Value} {nTT nT : Nat} {restm2 restm3 restm4 restm5 restm6 : List Value} {t_WRITE t_FLUSH t_SIGN t_NOTHING t_BLANK t_LETTERS t_LONGEST t_PAIR t_SCREEN : Tok}
    (aC : PySem.W.nsIn K mainGlobals "Program" = some (some (.ref C)))
    (a7 : PySem.W.nsIn K mainGlobals "is_number" = some (some (.ref f7)))
    (l7 : K.lookup f7 = some ⟨oc7, od7, .func (PySem.W.fnOf "is_number" "is_number" (defArgs (top 7)) (defBody (top 7)) (defScope (top 7)) .none kV7 dc7 pm7 an7 cd7 ct7), sl7⟩)
    (c7 : PySem.W.codeIn K cd7 "is_number" = true)
    (k7 : PySem.W.keepIn K (.ref f7) = true)
    (a8 : PySem.W.nsIn K mainGlobals "tupled" = some (some (.ref f8)))
    (l8 : K.lookup f8 = some ⟨oc8, od8, .func (PySem.W.fnOf "tupled" "tupled" (defArgs (top 8)) (defBody (top 8)) (defScope (top 8)) .none kV8 dc8 pm8 an8 cd8 ct8), sl8⟩)
    (c8 : PySem.W.codeIn K cd8 "tupled" = true)
    (k8 : PySem.W.keepIn K (.ref f8) = true)
    (a18 : PySem.W.nsIn K mainGlobals "is_name" = some (some (.ref f18)))
    (l18 : K.lookup f18 = some ⟨oc18, od18, .func (PySem.W.fnOf "is_name" "is_name" (defArgs (top 18)) (defBody (top 18)) (defScope (top 18)) .none kV18 dc18 pm18 an18 cd18 ct18), sl18⟩)
    (c18 : PySem.W.codeIn K cd18 "is_name" = true)
    (k18 : PySem.W.keepIn K (.ref f18) = true)
    (a19 : PySem.W.nsIn K mainGlobals "is_pair" = some (some (.ref f19)))
    (l19 : K.lookup f19 = some ⟨oc19, od19, .func (PySem.W.fnOf "is_pair" "is_pair" (defArgs (top 19)) (defBody (top 19)) (defScope (top 19)) .none kV19 dc19 pm19 an19 cd19 ct19), sl19⟩)
    (c19 : PySem.W.codeIn K cd19 "is_pair" = true)
    (k19 : PySem.W.keepIn K (.ref f19) = true)
    (a20 : PySem.W.nsIn K mainGlobals "is_line" = some (some (.ref f20)))
    (l20 : K.lookup f20 = some ⟨oc20, od20, .func (PySem.W.fnOf "is_line" "is_line" (defArgs (top 20)) (defBody (top 20)) (defScope (top 20)) .none kV20 dc20 pm20 an20 cd20 ct20), sl20⟩)
    (c20 : PySem.W.codeIn K cd20 "is_line" = true)
    (k20 : PySem.W.keepIn K (.ref f20) = true)
    (a21 : PySem.W.nsIn K mainGlobals "times_of" = some (some (.ref f21)))
    (l21 : K.lookup f21 = some ⟨oc21, od21, .func (PySem.W.fnOf "times_of" "times_of" (defArgs (top 21)) (defBody (top 21)) (defScope (top 21)) .none kV21 dc21 pm21 an21 cd21 ct21), sl21⟩)
    (c21 : PySem.W.codeIn K cd21 "times_of" = true)
    (k21 : PySem.W.keepIn K (.ref f21) = true)
    (a22 : PySem.W.nsIn K mainGlobals "numbered" = some (some (.ref f22)))
    (l22 : K.lookup f22 = some ⟨oc22, od22, .func (PySem.W.fnOf "numbered" "numbered" (defArgs (top 22)) (defBody (top 22)) (defScope (top 22)) .none kV22 dc22 pm22 an22 cd22 ct22), sl22⟩)
    (c22 : PySem.W.codeIn K cd22 "numbered" = true)
    (k22 : PySem.W.keepIn K (.ref f22) = true)
    (a23 : PySem.W.nsIn K mainGlobals "deed_in" = some (some (.ref f23)))
    (l23 : K.lookup f23 = some ⟨oc23, od23, .func (PySem.W.fnOf "deed_in" "deed_in" (defArgs (top 23)) (defBody (top 23)) (defScope (top 23)) .none kV23 dc23 pm23 an23 cd23 ct23), sl23⟩)
    (c23 : PySem.W.codeIn K cd23 "deed_in" = true)
    (k23 : PySem.W.keepIn K (.ref f23) = true)
    (a25 : PySem.W.nsIn K mainGlobals "first_flush" = some (some (.ref f25)))
    (l25 : K.lookup f25 = some ⟨oc25, od25, .func (PySem.W.fnOf "first_flush" "first_flush" (defArgs (top 25)) (defBody (top 25)) (defScope (top 25)) .none kV25 dc25 pm25 an25 cd25 ct25), sl25⟩)
    (c25 : PySem.W.codeIn K cd25 "first_flush" = true)
    (k25 : PySem.W.keepIn K (.ref f25) = true)
    (a28 : PySem.W.nsIn K mainGlobals "uppers" = some (some (.ref f28)))
    (l28 : K.lookup f28 = some ⟨oc28, od28, .func (PySem.W.fnOf "uppers" "uppers" (defArgs (top 28)) (defBody (top 28)) (defScope (top 28)) .none kV28 dc28 pm28 an28 cd28 ct28), sl28⟩)
    (c28 : PySem.W.codeIn K cd28 "uppers" = true)
    (k28 : PySem.W.keepIn K (.ref f28) = true)
    (a29 : PySem.W.nsIn K mainGlobals "check_stream" = some (some (.ref f29)))
    (l29 : K.lookup f29 = some ⟨oc29, od29, .func (PySem.W.fnOf "check_stream" "check_stream" (defArgs (top 29)) (defBody (top 29)) (defScope (top 29)) .none kV29 dc29 pm29 an29 cd29 ct29), sl29⟩)
    (c29 : PySem.W.codeIn K cd29 "check_stream" = true)
    (k29 : PySem.W.keepIn K (.ref f29) = true)
    (a30 : PySem.W.nsIn K mainGlobals "leaves" = some (some (.ref f30)))
    (l30 : K.lookup f30 = some ⟨oc30, od30, .func (PySem.W.fnOf "leaves" "leaves" (defArgs (top 30)) (defBody (top 30)) (defScope (top 30)) .none kV30 dc30 pm30 an30 cd30 ct30), sl30⟩)
    (c30 : PySem.W.codeIn K cd30 "leaves" = true)
    (k30 : PySem.W.keepIn K (.ref f30) = true)
    (a31 : PySem.W.nsIn K mainGlobals "meeting" = some (some (.ref f31)))
    (l31 : K.lookup f31 = some ⟨oc31, od31, .func (PySem.W.fnOf "meeting" "meeting" (defArgs (top 31)) (defBody (top 31)) (defScope (top 31)) .none kV31 dc31 pm31 an31 cd31 ct31), sl31⟩)
    (c31 : PySem.W.codeIn K cd31 "meeting" = true)
    (k31 : PySem.W.keepIn K (.ref f31) = true)
    (a32 : PySem.W.nsIn K mainGlobals "check_program" = some (some (.ref f32)))
    (l32 : K.lookup f32 = some ⟨oc32, od32, .func (PySem.W.fnOf "check_program" "check_program" (defArgs (top 32)) (defBody (top 32)) (defScope (top 32)) .none kV32 dc32 pm32 an32 cd32 ct32), sl32⟩)
    (c32 : PySem.W.codeIn K cd32 "check_program" = true)
    (k32 : PySem.W.keepIn K (.ref f32) = true)
    (a33 : PySem.W.nsIn K mainGlobals "births_of" = some (some (.ref f33)))
    (l33 : K.lookup f33 = some ⟨oc33, od33, .func (PySem.W.fnOf "births_of" "births_of" (defArgs (top 33)) (defBody (top 33)) (defScope (top 33)) .none kV33 dc33 pm33 an33 cd33 ct33), sl33⟩)
    (c33 : PySem.W.codeIn K cd33 "births_of" = true)
    (k33 : PySem.W.keepIn K (.ref f33) = true)
    (a34 : PySem.W.nsIn K mainGlobals "reached" = some (some (.ref f34)))
    (l34 : K.lookup f34 = some ⟨oc34, od34, .func (PySem.W.fnOf "reached" "reached" (defArgs (top 34)) (defBody (top 34)) (defScope (top 34)) .none kV34 dc34 pm34 an34 cd34 ct34), sl34⟩)
    (c34 : PySem.W.codeIn K cd34 "reached" = true)
    (k34 : PySem.W.keepIn K (.ref f34) = true)
    (a35 : PySem.W.nsIn K mainGlobals "met_at" = some (some (.ref f35)))
    (l35 : K.lookup f35 = some ⟨oc35, od35, .func (PySem.W.fnOf "met_at" "met_at" (defArgs (top 35)) (defBody (top 35)) (defScope (top 35)) .none kV35 dc35 pm35 an35 cd35 ct35), sl35⟩)
    (c35 : PySem.W.codeIn K cd35 "met_at" = true)
    (k35 : PySem.W.keepIn K (.ref f35) = true)
    (a36 : PySem.W.nsIn K mainGlobals "is_ahead" = some (some (.ref f36)))
    (l36 : K.lookup f36 = some ⟨oc36, od36, .func (PySem.W.fnOf "is_ahead" "is_ahead" (defArgs (top 36)) (defBody (top 36)) (defScope (top 36)) .none kV36 dc36 pm36 an36 cd36 ct36), sl36⟩)
    (c36 : PySem.W.codeIn K cd36 "is_ahead" = true)
    (k36 : PySem.W.keepIn K (.ref f36) = true)
    (a37 : PySem.W.nsIn K mainGlobals "is_sure_in" = some (some (.ref f37)))
    (l37 : K.lookup f37 = some ⟨oc37, od37, .func (PySem.W.fnOf "is_sure_in" "is_sure_in" (defArgs (top 37)) (defBody (top 37)) (defScope (top 37)) .none kV37 dc37 pm37 an37 cd37 ct37), sl37⟩)
    (c37 : PySem.W.codeIn K cd37 "is_sure_in" = true)
    (k37 : PySem.W.keepIn K (.ref f37) = true)
    (a38 : PySem.W.nsIn K mainGlobals "table_in" = some (some (.ref f38)))
    (l38 : K.lookup f38 = some ⟨oc38, od38, .func (PySem.W.fnOf "table_in" "table_in" (defArgs (top 38)) (defBody (top 38)) (defScope (top 38)) .none kV38 dc38 pm38 an38 cd38 ct38), sl38⟩)
    (c38 : PySem.W.codeIn K cd38 "table_in" = true)
    (k38 : PySem.W.keepIn K (.ref f38) = true)
    (a39 : PySem.W.nsIn K mainGlobals "alike_in" = some (some (.ref f39)))
    (l39 : K.lookup f39 = some ⟨oc39, od39, .func (PySem.W.fnOf "alike_in" "alike_in" (defArgs (top 39)) (defBody (top 39)) (defScope (top 39)) .none kV39 dc39 pm39 an39 cd39 ct39), sl39⟩)
    (c39 : PySem.W.codeIn K cd39 "alike_in" = true)
    (k39 : PySem.W.keepIn K (.ref f39) = true)
    (a40 : PySem.W.nsIn K mainGlobals "is_output_in" = some (some (.ref f40)))
    (l40 : K.lookup f40 = some ⟨oc40, od40, .func (PySem.W.fnOf "is_output_in" "is_output_in" (defArgs (top 40)) (defBody (top 40)) (defScope (top 40)) .none kV40 dc40 pm40 an40 cd40 ct40), sl40⟩)
    (c40 : PySem.W.codeIn K cd40 "is_output_in" = true)
    (k40 : PySem.W.keepIn K (.ref f40) = true)
    (a42 : PySem.W.nsIn K mainGlobals "_law_box" = some (some (.ref f42)))
    (l42 : K.lookup f42 = some ⟨oc42, od42, .func (PySem.W.fnOf "_law_box" "_law_box" (defArgs (top 42)) (defBody (top 42)) (defScope (top 42)) .none kV42 dc42 pm42 an42 cd42 ct42), sl42⟩)
    (c42 : PySem.W.codeIn K cd42 "_law_box" = true)
    (k42 : PySem.W.keepIn K (.ref f42) = true)
    (a43 : PySem.W.nsIn K mainGlobals "_law_take" = some (some (.ref f43)))
    (l43 : K.lookup f43 = some ⟨oc43, od43, .func (PySem.W.fnOf "_law_take" "_law_take" (defArgs (top 43)) (defBody (top 43)) (defScope (top 43)) .none kV43 dc43 pm43 an43 cd43 ct43), sl43⟩)
    (c43 : PySem.W.codeIn K cd43 "_law_take" = true)
    (k43 : PySem.W.keepIn K (.ref f43) = true)
    (a44 : PySem.W.nsIn K mainGlobals "_law_cells" = some (some (.ref f44)))
    (l44 : K.lookup f44 = some ⟨oc44, od44, .func (PySem.W.fnOf "_law_cells" "_law_cells" (defArgs (top 44)) (defBody (top 44)) (defScope (top 44)) .none kV44 dc44 pm44 an44 cd44 ct44), sl44⟩)
    (c44 : PySem.W.codeIn K cd44 "_law_cells" = true)
    (k44 : PySem.W.keepIn K (.ref f44) = true)
    (a45 : PySem.W.nsIn K mainGlobals "_law_of" = some (some (.ref f45)))
    (l45 : K.lookup f45 = some ⟨oc45, od45, .func (PySem.W.fnOf "_law_of" "_law_of" (defArgs (top 45)) (defBody (top 45)) (defScope (top 45)) .none kV45 dc45 pm45 an45 cd45 ct45), sl45⟩)
    (c45 : PySem.W.codeIn K cd45 "_law_of" = true)
    (k45 : PySem.W.keepIn K (.ref f45) = true)
    (a46 : PySem.W.nsIn K mainGlobals "_law_same" = some (some (.ref f46)))
    (l46 : K.lookup f46 = some ⟨oc46, od46, .func (PySem.W.fnOf "_law_same" "_law_same" (defArgs (top 46)) (defBody (top 46)) (defScope (top 46)) .none kV46 dc46 pm46 an46 cd46 ct46), sl46⟩)
    (c46 : PySem.W.codeIn K cd46 "_law_same" = true)
    (k46 : PySem.W.keepIn K (.ref f46) = true)
    (a47 : PySem.W.nsIn K mainGlobals "_law_lists" = some (some (.ref f47)))
    (l47 : K.lookup f47 = some ⟨oc47, od47, .func (PySem.W.fnOf "_law_lists" "_law_lists" (defArgs (top 47)) (defBody (top 47)) (defScope (top 47)) .none kV47 dc47 pm47 an47 cd47 ct47), sl47⟩)
    (c47 : PySem.W.codeIn K cd47 "_law_lists" = true)
    (k47 : PySem.W.keepIn K (.ref f47) = true)
    (a48 : PySem.W.nsIn K mainGlobals "_law_mixed" = some (some (.ref f48)))
    (l48 : K.lookup f48 = some ⟨oc48, od48, .func (PySem.W.fnOf "_law_mixed" "_law_mixed" (defArgs (top 48)) (defBody (top 48)) (defScope (top 48)) .none kV48 dc48 pm48 an48 cd48 ct48), sl48⟩)
    (c48 : PySem.W.codeIn K cd48 "_law_mixed" = true)
    (k48 : PySem.W.keepIn K (.ref f48) = true)
    (a49 : PySem.W.nsIn K mainGlobals "_law_tags" = some (some (.ref f49)))
    (l49 : K.lookup f49 = some ⟨oc49, od49, .func (PySem.W.fnOf "_law_tags" "_law_tags" (defArgs (top 49)) (defBody (top 49)) (defScope (top 49)) .none kV49 dc49 pm49 an49 cd49 ct49), sl49⟩)
    (c49 : PySem.W.codeIn K cd49 "_law_tags" = true)
    (k49 : PySem.W.keepIn K (.ref f49) = true)
    (a50 : PySem.W.nsIn K mainGlobals "_law_cross" = some (some (.ref f50)))
    (l50 : K.lookup f50 = some ⟨oc50, od50, .func (PySem.W.fnOf "_law_cross" "_law_cross" (defArgs (top 50)) (defBody (top 50)) (defScope (top 50)) .none kV50 dc50 pm50 an50 cd50 ct50), sl50⟩)
    (c50 : PySem.W.codeIn K cd50 "_law_cross" = true)
    (k50 : PySem.W.keepIn K (.ref f50) = true)
    (a51 : PySem.W.nsIn K mainGlobals "_law_lines" = some (some (.ref f51)))
    (l51 : K.lookup f51 = some ⟨oc51, od51, .func (PySem.W.fnOf "_law_lines" "_law_lines" (defArgs (top 51)) (defBody (top 51)) (defScope (top 51)) .none kV51 dc51 pm51 an51 cd51 ct51), sl51⟩)
    (c51 : PySem.W.codeIn K cd51 "_law_lines" = true)
    (k51 : PySem.W.keepIn K (.ref f51) = true)
    (a52 : PySem.W.nsIn K mainGlobals "_law_wood" = some (some (.ref f52)))
    (l52 : K.lookup f52 = some ⟨oc52, od52, .func (PySem.W.fnOf "_law_wood" "_law_wood" (defArgs (top 52)) (defBody (top 52)) (defScope (top 52)) .none kV52 dc52 pm52 an52 cd52 ct52), sl52⟩)
    (c52 : PySem.W.codeIn K cd52 "_law_wood" = true)
    (k52 : PySem.W.keepIn K (.ref f52) = true)
    (a53 : PySem.W.nsIn K mainGlobals "_law_run" = some (some (.ref f53)))
    (l53 : K.lookup f53 = some ⟨oc53, od53, .func (PySem.W.fnOf "_law_run" "_law_run" (defArgs (top 53)) (defBody (top 53)) (defScope (top 53)) .none kV53 dc53 pm53 an53 cd53 ct53), sl53⟩)
    (c53 : PySem.W.codeIn K cd53 "_law_run" = true)
    (k53 : PySem.W.keepIn K (.ref f53) = true)
    (a54 : PySem.W.nsIn K mainGlobals "_law_up" = some (some (.ref f54)))
    (l54 : K.lookup f54 = some ⟨oc54, od54, .func (PySem.W.fnOf "_law_up" "_law_up" (defArgs (top 54)) (defBody (top 54)) (defScope (top 54)) .none kV54 dc54 pm54 an54 cd54 ct54), sl54⟩)
    (c54 : PySem.W.codeIn K cd54 "_law_up" = true)
    (k54 : PySem.W.keepIn K (.ref f54) = true)
    (a55 : PySem.W.nsIn K mainGlobals "_law_flow" = some (some (.ref f55)))
    (l55 : K.lookup f55 = some ⟨oc55, od55, .func (PySem.W.fnOf "_law_flow" "_law_flow" (defArgs (top 55)) (defBody (top 55)) (defScope (top 55)) .none kV55 dc55 pm55 an55 cd55 ct55), sl55⟩)
    (c55 : PySem.W.codeIn K cd55 "_law_flow" = true)
    (k55 : PySem.W.keepIn K (.ref f55) = true)
    (a56 : PySem.W.nsIn K mainGlobals "_law_deep_outs" = some (some (.ref f56)))
    (l56 : K.lookup f56 = some ⟨oc56, od56, .func (PySem.W.fnOf "_law_deep_outs" "_law_deep_outs" (defArgs (top 56)) (defBody (top 56)) (defScope (top 56)) .none kV56 dc56 pm56 an56 cd56 ct56), sl56⟩)
    (c56 : PySem.W.codeIn K cd56 "_law_deep_outs" = true)
    (k56 : PySem.W.keepIn K (.ref f56) = true)
    (a57 : PySem.W.nsIn K mainGlobals "_law_orders" = some (some (.ref f57)))
    (l57 : K.lookup f57 = some ⟨oc57, od57, .func (PySem.W.fnOf "_law_orders" "_law_orders" (defArgs (top 57)) (defBody (top 57)) (defScope (top 57)) .none kV57 dc57 pm57 an57 cd57 ct57), sl57⟩)
    (c57 : PySem.W.codeIn K cd57 "_law_orders" = true)
    (k57 : PySem.W.keepIn K (.ref f57) = true)
    (a58 : PySem.W.nsIn K mainGlobals "_law_case_right" = some (some (.ref f58)))
    (l58 : K.lookup f58 = some ⟨oc58, od58, .func (PySem.W.fnOf "_law_case_right" "_law_case_right" (defArgs (top 58)) (defBody (top 58)) (defScope (top 58)) .none kV58 dc58 pm58 an58 cd58 ct58), sl58⟩)
    (c58 : PySem.W.codeIn K cd58 "_law_case_right" = true)
    (k58 : PySem.W.keepIn K (.ref f58) = true)
    (a59 : PySem.W.nsIn K mainGlobals "_law_by_hand_right" = some (some (.ref f59)))
    (l59 : K.lookup f59 = some ⟨oc59, od59, .func (PySem.W.fnOf "_law_by_hand_right" "_law_by_hand_right" (defArgs (top 59)) (defBody (top 59)) (defScope (top 59)) .none kV59 dc59 pm59 an59 cd59 ct59), sl59⟩)
    (c59 : PySem.W.codeIn K cd59 "_law_by_hand_right" = true)
    (k59 : PySem.W.keepIn K (.ref f59) = true)
    (a60 : PySem.W.nsIn K mainGlobals "_law_right" = some (some (.ref f60)))
    (l60 : K.lookup f60 = some ⟨oc60, od60, .func (PySem.W.fnOf "_law_right" "_law_right" (defArgs (top 60)) (defBody (top 60)) (defScope (top 60)) .none kV60 dc60 pm60 an60 cd60 ct60), sl60⟩)
    (c60 : PySem.W.codeIn K cd60 "_law_right" = true)
    (k60 : PySem.W.keepIn K (.ref f60) = true)
    (a61 : PySem.W.nsIn K mainGlobals "law" = some (some (.ref f61)))
    (l61 : K.lookup f61 = some ⟨oc61, od61, .func (PySem.W.fnOf "law" "law" (defArgs (top 61)) (defBody (top 61)) (defScope (top 61)) .none kV61 dc61 pm61 an61 cd61 ct61), sl61⟩)
    (c61 : PySem.W.codeIn K cd61 "law" = true)
    (k61 : PySem.W.keepIn K (.ref f61) = true)
    (aI : PySem.W.findIn K (.ref C) "__init__" = some (some (.ref fI)))
    (iI : PySem.W.isFn K (.ref fI) = true)
    (lI : K.lookup fI = some ⟨ocI, odI, .func (PySem.W.fnOf "__init__" "Program.__init__" (defArgs (sub 24 1)) (defBody (sub 24 1)) (defScope (sub 24 1)) (.ref TT) kVI dcI pmI anI cdI ctI), slI⟩)
    (cI : PySem.W.codeIn K cdI "Program.__init__" = true)
    (kI : PySem.W.keepIn K (.ref fI) = true)
    (lTT : K.lookup TT = some ⟨ocTT, odTT, .seq #[.ref T] nTT, slTT⟩)
    (lT : K.lookup T = some ⟨.type "tuple", odT, .seq #[] nT, slT⟩)
    (am2 : PySem.W.findCls K (.ref C) (.type "type") "of" = some (.get (.builtin "staticmethod.__get__") (.ref qm2) .none (.ref C)))
    (rm2 : PySem.W.recIn K qm2 "staticmethod" = some (.ref fm2 :: restm2))
    (lm2 : K.lookup fm2 = some ⟨ocm2, odm2, .func (PySem.W.fnOf "of" "Program.of" (defArgs (sub 24 2)) (defBody (sub 24 2)) (defScope (sub 24 2)) .none kVm2 dcm2 pmm2 anm2 cdm2 ctm2), slm2⟩)
    (cm2 : PySem.W.codeIn K cdm2 "Program.of" = true)
    (km2 : PySem.W.keepIn K (.ref fm2) = true)
    (am3 : PySem.W.findIn K (.ref C) "deeds" = some (some (.ref qm3)))
    (gm3 : PySem.W.specialIn K (.ref qm3) "__get__" = some (some (.builtin "property.__get__")))
    (tm3 : PySem.W.takesIn K (.ref qm3) = some true)
    (rm3 : PySem.W.recIn K qm3 "property" = some (.ref fm3 :: restm3))
    (lm3 : K.lookup fm3 = some ⟨ocm3, odm3, .func (PySem.W.fnOf "deeds" "Program.deeds" (defArgs (sub 24 3)) (defBody (sub 24 3)) (defScope (sub 24 3)) .none kVm3 dcm3 pmm3 anm3 cdm3 ctm3), slm3⟩)
    (cm3 : PySem.W.codeIn K cdm3 "Program.deeds" = true)
    (km3 : PySem.W.keepIn K (.ref fm3) = true)
    (am4 : PySem.W.findIn K (.ref C) "lines" = some (some (.ref qm4)))
    (gm4 : PySem.W.specialIn K (.ref qm4) "__get__" = some (some (.builtin "property.__get__")))
    (tm4 : PySem.W.takesIn K (.ref qm4) = some true)
    (rm4 : PySem.W.recIn K qm4 "property" = some (.ref fm4 :: restm4))
    (lm4 : K.lookup fm4 = some ⟨ocm4, odm4, .func (PySem.W.fnOf "lines" "Program.lines" (defArgs (sub 24 4)) (defBody (sub 24 4)) (defScope (sub 24 4)) .none kVm4 dcm4 pmm4 anm4 cdm4 ctm4), slm4⟩)
    (cm4 : PySem.W.codeIn K cdm4 "Program.lines" = true)
    (km4 : PySem.W.keepIn K (.ref fm4) = true)
    (am5 : PySem.W.findIn K (.ref C) "writes" = some (some (.ref qm5)))
    (gm5 : PySem.W.specialIn K (.ref qm5) "__get__" = some (some (.builtin "property.__get__")))
    (tm5 : PySem.W.takesIn K (.ref qm5) = some true)
    (rm5 : PySem.W.recIn K qm5 "property" = some (.ref fm5 :: restm5))
    (lm5 : K.lookup fm5 = some ⟨ocm5, odm5, .func (PySem.W.fnOf "writes" "Program.writes" (defArgs (sub 24 5)) (defBody (sub 24 5)) (defScope (sub 24 5)) .none kVm5 dcm5 pmm5 anm5 cdm5 ctm5), slm5⟩)
    (cm5 : PySem.W.codeIn K cdm5 "Program.writes" = true)
    (km5 : PySem.W.keepIn K (.ref fm5) = true)
    (am6 : PySem.W.findIn K (.ref C) "streams" = some (some (.ref qm6)))
    (gm6 : PySem.W.specialIn K (.ref qm6) "__get__" = some (some (.builtin "property.__get__")))
    (tm6 : PySem.W.takesIn K (.ref qm6) = some true)
    (rm6 : PySem.W.recIn K qm6 "property" = some (.ref fm6 :: restm6))
    (lm6 : K.lookup fm6 = some ⟨ocm6, odm6, .func (PySem.W.fnOf "streams" "Program.streams" (defArgs (sub 24 6)) (defBody (sub 24 6)) (defScope (sub 24 6)) .none kVm6 dcm6 pmm6 anm6 cdm6 ctm6), slm6⟩)
    (cm6 : PySem.W.codeIn K cdm6 "Program.streams" = true)
    (km6 : PySem.W.keepIn K (.ref fm6) = true)
    (rd : PySem.W.readsIn K C (.type "type") = true)
    (ga : PySem.W.specialIn K (.ref C) "__getattribute__" = some (some (.builtin "type.__getattribute__")))
    (mk : PySem.W.makesIn K C = true)
    (kC : PySem.W.keepIn K (.ref C) = true)
    (pg : PySem.W.plainGet K C Str.empty = true)
    (ic : PySem.W.isClsIn K C = true)
    (po : PySem.W.plainOver K C = true)
    (sa : PySem.W.findIn K (.ref C) "__setattr__" = some (some (.builtin "object.__setattr__")))
    (d1 : PySem.W.findIn K (.ref C) "own_deeds" = some (some (.ref pD)))
    (d2 : PySem.W.specialIn K (.ref pD) "__get__" = some (some (.builtin "member_descriptor.__get__")))
    (d3 : PySem.W.takesIn K (.ref pD) = some true)
    (d4 : PySem.W.typeIn K (.ref pD) = some (.type "member_descriptor"))
    (d5 : PySem.W.slotIn K pD C = some 0)
    (z_len : PySem.W.nsIn K mainGlobals "len" = some none)
    (z_isinstance : PySem.W.nsIn K mainGlobals "isinstance" = some none)
    (z_int : PySem.W.nsIn K mainGlobals "int" = some none)
    (z_bool : PySem.W.nsIn K mainGlobals "bool" = some none)
    (z_tuple : PySem.W.nsIn K mainGlobals "tuple" = some none)
    (z_list : PySem.W.nsIn K mainGlobals "list" = some none)
    (z_str : PySem.W.nsIn K mainGlobals "str" = some none)
    (z_all : PySem.W.nsIn K mainGlobals "all" = some none)
    (z_any : PySem.W.nsIn K mainGlobals "any" = some none)
    (z_enumerate : PySem.W.nsIn K mainGlobals "enumerate" = some none)
    (z_range : PySem.W.nsIn K mainGlobals "range" = some none)
    (z_sorted : PySem.W.nsIn K mainGlobals "sorted" = some none)
    (z_dict : PySem.W.nsIn K mainGlobals "dict" = some none)
    (z_zip : PySem.W.nsIn K mainGlobals "zip" = some none)
    (z_set : PySem.W.nsIn K mainGlobals "set" = some none)
    (z_abs : PySem.W.nsIn K mainGlobals "abs" = some none)
    (z_max : PySem.W.nsIn K mainGlobals "max" = some none)
    (y_WRITE : PySem.W.nsIn K mainGlobals "WRITE" = some (some (.str "write" t_WRITE)))
    (y_FLUSH : PySem.W.nsIn K mainGlobals "FLUSH" = some (some (.str "flush" t_FLUSH)))
    (y_SIGN : PySem.W.nsIn K mainGlobals "SIGN" = some (some (.str "!" t_SIGN)))
    (y_NOTHING : PySem.W.nsIn K mainGlobals "NOTHING" = some (some (.str "-" t_NOTHING)))
    (y_BLANK : PySem.W.nsIn K mainGlobals "BLANK" = some (some (.str " " t_BLANK)))
    (y_LETTERS : PySem.W.nsIn K mainGlobals "LETTERS" = some (some (.str "abcdefghijklmnopqrstuvwxyz" t_LETTERS)))
    (y_LONGEST : PySem.W.nsIn K mainGlobals "LONGEST" = some (some (.int 8 t_LONGEST)))
    (y_PAIR : PySem.W.nsIn K mainGlobals "PAIR" = some (some (.int 2 t_PAIR)))
    (y_SCREEN : PySem.W.nsIn K mainGlobals "SCREEN" = some (some (.str "" t_SCREEN)))
    : ∃ fd : FuncData, (∀ (s : Shared) (v : Value), BindsTo s fd ⟨[v], []⟩ [("_law_script", v)]) ∧ ∀ base : Heap, K.In base → base.Ns mainGlobals mg → FnOk l.prog w K mg base CX0 100 fa fd ["_law_script"] (spLaw K) := by
  have e := hfa.symm.trans (PySem.W.mg_of X G a61)
  cases e
  have M : Mg mg := ⟨PySem.W.mg_none_of X G z_len, PySem.W.mg_none_of X G z_isinstance, PySem.W.mg_none_of X G z_int, PySem.W.mg_none_of X G z_bool, PySem.W.mg_none_of X G z_tuple, PySem.W.mg_none_of X G z_list, PySem.W.mg_none_of X G z_str, PySem.W.mg_none_of X G z_all, PySem.W.mg_none_of X G z_any, PySem.W.mg_none_of X G z_enumerate, PySem.W.mg_none_of X G z_range, PySem.W.mg_none_of X G z_sorted, PySem.W.mg_none_of X G z_dict, PySem.W.mg_none_of X G z_zip, PySem.W.mg_none_of X G z_set, PySem.W.mg_none_of X G z_abs, PySem.W.mg_none_of X G z_max, ⟨t_WRITE, PySem.W.mg_of X G y_WRITE⟩, ⟨t_FLUSH, PySem.W.mg_of X G y_FLUSH⟩, ⟨t_SIGN, PySem.W.mg_of X G y_SIGN⟩, ⟨t_NOTHING, PySem.W.mg_of X G y_NOTHING⟩, ⟨t_BLANK, PySem.W.mg_of X G y_BLANK⟩, ⟨t_LETTERS, PySem.W.mg_of X G y_LETTERS⟩, ⟨t_LONGEST, PySem.W.mg_of X G y_LONGEST⟩, ⟨t_PAIR, PySem.W.mg_of X G y_PAIR⟩, ⟨t_SCREEN, PySem.W.mg_of X G y_SCREEN⟩⟩
  have hc : PCls K C := ⟨⟨pg, ic, po, sa⟩, pD, d1, d2, d3, d4, d5, by decide⟩
  have F7 := fun_mk (st := top 7) l7 c7 k7
  have b7 := F7.binds (ps := ["value"]) fun _ _ _ _ _ _ us hl => match us, hl with | [_], _ => rfl
  have F8 := fun_mk (st := top 8) l8 c8 k8
  have b8 := F8.binds (ps := ["value"]) fun _ _ _ _ _ _ us hl => match us, hl with | [_], _ => rfl
  have F18 := fun_mk (st := top 18) l18 c18 k18
  have b18 := F18.binds (ps := ["thing"]) fun _ _ _ _ _ _ us hl => match us, hl with | [_], _ => rfl
  have F19 := fun_mk (st := top 19) l19 c19 k19
  have b19 := F19.binds (ps := ["thing"]) fun _ _ _ _ _ _ us hl => match us, hl with | [_], _ => rfl
  have F20 := fun_mk (st := top 20) l20 c20 k20
  have b20 := F20.binds (ps := ["thing"]) fun _ _ _ _ _ _ us hl => match us, hl with | [_], _ => rfl
  have F21 := fun_mk (st := top 21) l21 c21 k21
  have b21 := F21.binds (ps := ["deeds", "deed"]) fun _ _ _ _ _ _ us hl => match us, hl with | [_, _], _ => rfl
  have F22 := fun_mk (st := top 22) l22 c22 k22
  have b22 := F22.binds (ps := ["deeds"]) fun _ _ _ _ _ _ us hl => match us, hl with | [_], _ => rfl
  have F23 := fun_mk (st := top 23) l23 c23 k23
  have b23 := F23.binds (ps := ["word"]) fun _ _ _ _ _ _ us hl => match us, hl with | [_], _ => rfl
  have F25 := fun_mk (st := top 25) l25 c25 k25
  have b25 := F25.binds (ps := ["program", "stream", "place"]) fun _ _ _ _ _ _ us hl => match us, hl with | [_, _, _], _ => rfl
  have F28 := fun_mk (st := top 28) l28 c28 k28
  have b28 := F28.binds (ps := ["tree", "name"]) fun _ _ _ _ _ _ us hl => match us, hl with | [_, _], _ => rfl
  have F29 := fun_mk (st := top 29) l29 c29 k29
  have b29 := F29.binds (ps := ["tree", "name"]) fun _ _ _ _ _ _ us hl => match us, hl with | [_, _], _ => rfl
  have F30 := fun_mk (st := top 30) l30 c30 k30
  have b30 := F30.binds (ps := ["tree"]) fun _ _ _ _ _ _ us hl => match us, hl with | [_], _ => rfl
  have F31 := fun_mk (st := top 31) l31 c31 k31
  have b31 := F31.binds (ps := ["tree", "one", "other"]) fun _ _ _ _ _ _ us hl => match us, hl with | [_, _, _], _ => rfl
  have F32 := fun_mk (st := top 32) l32 c32 k32
  have b32 := F32.binds (ps := ["tree", "program"]) fun _ _ _ _ _ _ us hl => match us, hl with | [_, _], _ => rfl
  have F33 := fun_mk (st := top 33) l33 c33 k33
  have b33 := F33.binds (ps := ["program"]) fun _ _ _ _ _ _ us hl => match us, hl with | [_], _ => rfl
  have F34 := fun_mk (st := top 34) l34 c34 k34
  have b34 := F34.binds (ps := ["tree", "program", "line", "birth", "name"]) fun _ _ _ _ _ _ us hl => match us, hl with | [_, _, _, _, _], _ => rfl
  have F35 := fun_mk (st := top 35) l35 c35 k35
  have b35 := F35.binds (ps := ["tree", "program", "line", "birth", "stream"]) fun _ _ _ _ _ _ us hl => match us, hl with | [_, _, _, _, _], _ => rfl
  have F36 := fun_mk (st := top 36) l36 c36 k36
  have b36 := F36.binds (ps := ["place", "birth"]) fun _ _ _ _ _ _ us hl => match us, hl with | [_, _], _ => rfl
  have F37 := fun_mk (st := top 37) l37 c37 k37
  have b37 := F37.binds (ps := ["tree", "program", "one", "other"]) fun _ _ _ _ _ _ us hl => match us, hl with | [_, _, _, _], _ => rfl
  have F38 := fun_mk (st := top 38) l38 c38 k38
  have b38 := F38.binds (ps := ["tree", "program"]) fun _ _ _ _ _ _ us hl => match us, hl with | [_, _], _ => rfl
  have F39 := fun_mk (st := top 39) l39 c39 k39
  have b39 := F39.binds (ps := ["tree", "one", "other"]) fun _ _ _ _ _ _ us hl => match us, hl with | [_, _, _], _ => rfl
  have F40 := fun_mk (st := top 40) l40 c40 k40
  have b40 := F40.binds (ps := ["tree", "program", "thing"]) fun _ _ _ _ _ _ us hl => match us, hl with | [_, _, _], _ => rfl
  have F42 := fun_mk (st := top 42) l42 c42 k42
  have b42 := F42.binds (ps := ["_law_script", "_law_k"]) fun _ _ _ _ _ _ us hl => match us, hl with | [_, _], _ => rfl
  have F43 := fun_mk (st := top 43) l43 c43 k43
  have b43 := F43.binds (ps := ["_law_urn", "_law_low_so"]) fun _ _ _ _ _ _ us hl => match us, hl with | [_, _], _ => rfl
  have F44 := fun_mk (st := top 44) l44 c44 k44
  have b44 := F44.binds (ps := ["_law_script", "_law_top"]) fun _ _ _ _ _ _ us hl => match us, hl with | [_, _], _ => rfl
  have F45 := fun_mk (st := top 45) l45 c45 k45
  have b45 := F45.binds (ps := ["_law_urn", "_law_some_so"]) fun _ _ _ _ _ _ us hl => match us, hl with | [_, _], _ => rfl
  have F46 := fun_mk (st := top 46) l46 c46 k46
  have b46 := F46.binds (ps := ["_law_got", "_law_goal"]) fun _ _ _ _ _ _ us hl => match us, hl with | [_, _], _ => rfl
  have F47 := fun_mk (st := top 47) l47 c47 k47
  have b47 := F47.binds (ps := ["_law_thing_so"]) fun _ _ _ _ _ _ us hl => match us, hl with | [_], _ => rfl
  have F48 := fun_mk (st := top 48) l48 c48 k48
  have b48 := F48.binds (ps := ["_law_urn", "_law_pool"]) fun _ _ _ _ _ _ us hl => match us, hl with | [_, _], _ => rfl
  have F49 := fun_mk (st := top 49) l49 c49 k49
  have b49 := F49.binds (ps := ["_law_urn", "_law_many_so"]) fun _ _ _ _ _ _ us hl => match us, hl with | [_, _], _ => rfl
  have F50 := fun_mk (st := top 50) l50 c50 k50
  have b50 := F50.binds (ps := ["_law_some_so", "_law_more_so"]) fun _ _ _ _ _ _ us hl => match us, hl with | [_, _], _ => rfl
  have F51 := fun_mk (st := top 51) l51 c51 k51
  have b51 := F51.binds (ps := ["_law_row_so"]) fun _ _ _ _ _ _ us hl => match us, hl with | [_], _ => rfl
  have F52 := fun_mk (st := top 52) l52 c52 k52
  have b52 := F52.binds (ps := ["_law_urn", "_law_many_so"]) fun _ _ _ _ _ _ us hl => match us, hl with | [_, _], _ => rfl
  have F53 := fun_mk (st := top 53) l53 c53 k53
  have b53 := F53.binds (ps := ["_law_urn", "_law_wood_so", "_law_top"]) fun _ _ _ _ _ _ us hl => match us, hl with | [_, _, _], _ => rfl
  have F54 := fun_mk (st := top 54) l54 c54 k54
  have b54 := F54.binds (ps := ["_law_spots_so", "_law_here", "_law_k", "_law_many_so"]) fun _ _ _ _ _ _ us hl => match us, hl with | [_, _, _, _], _ => rfl
  have F55 := fun_mk (st := top 55) l55 c55 k55
  have b55 := F55.binds (ps := ["_law_spots_so", "_law_some"]) fun _ _ _ _ _ _ us hl => match us, hl with | [_, _], _ => rfl
  have F56 := fun_mk (st := top 56) l56 c56 k56
  have b56 := F56.binds (ps := ["_law_wood_so", "_law_row_so"]) fun _ _ _ _ _ _ us hl => match us, hl with | [_, _], _ => rfl
  have F57 := fun_mk (st := top 57) l57 c57 k57
  have b57 := F57.binds (ps := ["_law_every"]) fun _ _ _ _ _ _ us hl => match us, hl with | [_], _ => rfl
  have F58 := fun_mk (st := top 58) l58 c58 k58
  have b58 := F58.binds (ps := ["_law_wood_so", "_law_row_so"]) fun _ _ _ _ _ _ us hl => match us, hl with | [_, _], _ => rfl
  have F59 := fun_mk (st := top 59) l59 c59 k59
  have b59 := F59.binds (ps := []) fun _ _ _ _ _ _ us hl => match us, hl with | [], _ => rfl
  have F60 := fun_mk (st := top 60) l60 c60 k60
  have b60 := F60.binds (ps := ["_law_urn"]) fun _ _ _ _ _ _ us hl => match us, hl with | [_], _ => rfl
  have F61 := fun_mk (st := top 61) l61 c61 k61
  have b61 := F61.binds (ps := ["_law_script"]) fun _ _ _ _ _ _ us hl => match us, hl with | [_], _ => rfl
  have Fm2 := fun_mk (st := sub 24 2) lm2 cm2 km2
  have bm2 := Fm2.binds (ps := ["text"]) fun _ _ _ _ _ _ us hl => match us, hl with | [_], _ => rfl
  have Fm3 := fun_mk (st := sub 24 3) lm3 cm3 km3
  have bm3 := Fm3.binds (ps := ["self"]) fun _ _ _ _ _ _ us hl => match us, hl with | [_], _ => rfl
  have Fm4 := fun_mk (st := sub 24 4) lm4 cm4 km4
  have bm4 := Fm4.binds (ps := ["self"]) fun _ _ _ _ _ _ us hl => match us, hl with | [_], _ => rfl
  have Fm5 := fun_mk (st := sub 24 5) lm5 cm5 km5
  have bm5 := Fm5.binds (ps := ["self"]) fun _ _ _ _ _ _ us hl => match us, hl with | [_], _ => rfl
  have Fm6 := fun_mk (st := sub 24 6) lm6 cm6 km6
  have bm6 := Fm6.binds (ps := ["self"]) fun _ _ _ _ _ _ us hl => match us, hl with | [_], _ => rfl
  have hT : Emp K T := ⟨_, nT, lT, rfl, rfl⟩
  have FI : FunD K "__init__" "Program.__init__" (defArgs (sub 24 1)) (defBody (sub 24 1)) (defScope (sub 24 1)) [.ref T] [] fI _ := ⟨⟨_, _, _, _, _, _, _, _, _, _, rfl, lI, cI, .inr ⟨fun z => (nomatch z), TT, _, [.ref T], nTT, rfl, lTT, rfl, .cons rfl .nil⟩, .inl rfl⟩, kI⟩
  obtain ⟨dsI, vI, bI1⟩ := FI.binds1 (ps := ["self", "deeds"]) 1 0 (fun z => (nomatch z)) rfl (fun Ta kV doc pm an cdv ct us its h1 h2 => match us, h1, its, h2 with | [_], _, [_], _ => ⟨_, rfl, rfl⟩)
  obtain ⟨dsI0, vI0, bI0⟩ := FI.binds1 (ps := ["self", "deeds"]) 2 1 (fun z => (nomatch z)) rfl (fun Ta kV doc pm an cdv ct us its h1 h2 => match us, h1, its, h2 with | [_, _], _, [_], _ => ⟨_, rfl, rfl⟩)
  have eI0 : dsI0 = [] := by cases vI0; rfl
  subst eI0
  refine ⟨PySem.W.fnOf "law" "law" (defArgs (top 61)) (defBody (top 61)) (defScope (top 61)) .none kV61 dc61 pm61 an61 cd61 ct61, fun s v => .of_eq rfl, fun base _ _ => ?_⟩
  have G7 : Gf l.prog w K mg base "is_number" 1 (spD ⟨l.prog, w, K, C⟩ rIsNumber) := ⟨_, _, _, PySem.W.mg_of X G a7, F7.kp, b7, ok_isNumber F7 M⟩
  have G8 : ∀ n, n ≤ 10 → Gf l.prog w K mg base "tupled" (n + 1) (spD ⟨l.prog, w, K, C⟩ (rTupled n)) := fun n => by
    induction n with
    | zero => exact fun _ => ⟨_, _, _, PySem.W.mg_of X G a8, F8.kp, b8, ok_tupled F8 M 0 (by decide) fun m q => nomatch q⟩
    | succ n ih => exact fun hn => ⟨_, _, _, PySem.W.mg_of X G a8, F8.kp, b8, ok_tupled F8 M (n + 1) (by omega) fun m q => by
        have : m = n := by omega
        subst this
        exact ih (by omega)⟩
  have GT : GTup l.prog w K mg base C := G8 10 (by decide)
  have G80 : Gf l.prog w K mg base "tupled" 1 (spD ⟨l.prog, w, K, C⟩ (rTupled0 K)) := ⟨_, _, _, PySem.W.mg_of X G a8, F8.kp, b8, ok_tupled0 F8 M⟩
  have G18 : Gf l.prog w K mg base "is_name" 1 (spD ⟨l.prog, w, K, C⟩ rIsName) := ⟨_, _, _, PySem.W.mg_of X G a18, F18.kp, b18, ok_isName F18 M⟩
  have G19 : Gf l.prog w K mg base "is_pair" 1 (spD ⟨l.prog, w, K, C⟩ rIsPair) := ⟨_, _, _, PySem.W.mg_of X G a19, F19.kp, b19, ok_isPair F19 M⟩
  have G20 : Gf l.prog w K mg base "is_line" 2 (spD ⟨l.prog, w, K, C⟩ rIsLine) := ⟨_, _, _, PySem.W.mg_of X G a20, F20.kp, b20, ok_isLine F20 M G19 G18 G7⟩
  have G21 : Gf l.prog w K mg base "times_of" 2 (spD ⟨l.prog, w, K, C⟩ rTimesOf) := ⟨_, _, _, PySem.W.mg_of X G a21, F21.kp, b21, ok_timesOf F21 M⟩
  have G22 : Gf l.prog w K mg base "numbered" 3 (spD ⟨l.prog, w, K, C⟩ rNumbered) := ⟨_, _, _, PySem.W.mg_of X G a22, F22.kp, b22, ok_numbered F22 M G21⟩
  have G23 : Gf l.prog w K mg base "deed_in" 2 (spD ⟨l.prog, w, K, C⟩ rDeedIn) := ⟨_, _, _, PySem.W.mg_of X G a23, F23.kp, b23, ok_deedIn F23 M G18⟩
  have Gc : Gm l.prog w K mg base C 12 (rInit K) := ⟨fI, _, ["self", "deeds"], T, dsI, PySem.W.mg_of X G aC, ⟨mk, aI, iI, kC⟩, ok_init FI M hc GT G80, bI0, bI1, vI, hT, .inr ⟨T, rfl, hT, rfl⟩⟩
  have Gm3 : Gp l.prog w K mg base C "deeds" 1 (spD ⟨l.prog, w, K, C⟩ rDeeds) := ⟨_, _, _, _, _, am3, gm3, tm3, rm3, ok_deeds Fm3 hc, bm3⟩
  have Gm4 : Gp l.prog w K mg base C "lines" 4 (spD ⟨l.prog, w, K, C⟩ rLines) := ⟨_, _, _, _, _, am4, gm4, tm4, rm4, ok_lines Fm4 hc G22, bm4⟩
  have Gm5 : Gp l.prog w K mg base C "writes" 1 (spD ⟨l.prog, w, K, C⟩ rWrites) := ⟨_, _, _, _, _, am5, gm5, tm5, rm5, ok_writes Fm5 M hc, bm5⟩
  have Gm6 : Gp l.prog w K mg base C "streams" 3 (spD ⟨l.prog, w, K, C⟩ rStreams) := ⟨_, _, _, _, _, am6, gm6, tm6, rm6, ok_streams Fm6 M hc Gm5, bm6⟩
  have Gof : Gs l.prog w K mg base C "of" 14 (spD ⟨l.prog, w, K, C⟩ rOf) := ⟨_, _, _, _, _, _, PySem.W.mg_of X G aC, ⟨rd, ga⟩, am2, rm2, Fm2.kp, bm2, ok_of Fm2 M G23 Gc⟩
  have G25 : Gf l.prog w K mg base "first_flush" 3 (spD ⟨l.prog, w, K, C⟩ rFF) := ⟨_, _, _, PySem.W.mg_of X G a25, F25.kp, b25, ok_ff F25 M hc Gm3⟩
  have G28 : Gf l.prog w K mg base "uppers" 12 (spD ⟨l.prog, w, K, C⟩ rUppers) := ⟨_, _, _, PySem.W.mg_of X G a28, F28.kp, b28, ok_uppers F28 M GT⟩
  have G29 : Gf l.prog w K mg base "check_stream" 12 (spD ⟨l.prog, w, K, C⟩ rCheck) := ⟨_, _, _, PySem.W.mg_of X G a29, F29.kp, b29, ok_check F29 M GT⟩
  have G30 : Gf l.prog w K mg base "leaves" 12 (spD ⟨l.prog, w, K, C⟩ rLeaves) := ⟨_, _, _, PySem.W.mg_of X G a30, F30.kp, b30, ok_leaves F30 M GT⟩
  have G31 : Gf l.prog w K mg base "meeting" 13 (spD ⟨l.prog, w, K, C⟩ rMeeting) := ⟨_, _, _, PySem.W.mg_of X G a31, F31.kp, b31, ok_meeting F31 M G29 G28⟩
  have G32 : Gf l.prog w K mg base "check_program" 13 (spD ⟨l.prog, w, K, C⟩ rCheckP) := ⟨_, _, _, PySem.W.mg_of X G a32, F32.kp, b32, ok_checkP F32 M hc Gm3 G29 G30⟩
  have G33 : Gf l.prog w K mg base "births_of" 6 (spD ⟨l.prog, w, K, C⟩ rBirths) := ⟨_, _, _, PySem.W.mg_of X G a33, F33.kp, b33, ok_births F33 M hc Gm3 Gm4⟩
  have G34 : Gf l.prog w K mg base "reached" 12 (spD ⟨l.prog, w, K, C⟩ rReached) := ⟨_, _, _, PySem.W.mg_of X G a34, F34.kp, b34, ok_reached F34 M GT G25⟩
  have G35 : Gf l.prog w K mg base "met_at" 14 (spD ⟨l.prog, w, K, C⟩ rMetAt) := ⟨_, _, _, PySem.W.mg_of X G a35, F35.kp, b35, ok_metAt F35 M G34 G31⟩
  have G36 : Gf l.prog w K mg base "is_ahead" 1 (spD ⟨l.prog, w, K, C⟩ rAhead) := ⟨_, _, _, PySem.W.mg_of X G a36, F36.kp, b36, ok_ahead F36 M⟩
  have G37 : Gf l.prog w K mg base "is_sure_in" 15 (spD ⟨l.prog, w, K, C⟩ rSure) := ⟨_, _, _, PySem.W.mg_of X G a37, F37.kp, b37, ok_sure F37 M GT G32 G33 G35 G36⟩
  have G38 : Gf l.prog w K mg base "table_in" 15 (spD ⟨l.prog, w, K, C⟩ rTable) := ⟨_, _, _, PySem.W.mg_of X G a38, F38.kp, b38, ok_table F38 M hc G32 G33 G35 G36 Gm6⟩
  have G39 : Gf l.prog w K mg base "alike_in" 16 (spD ⟨l.prog, w, K, C⟩ rAlike) := ⟨_, _, _, PySem.W.mg_of X G a39, F39.kp, b39, ok_alike F39 M G38⟩
  have G40 : Gf l.prog w K mg base "is_output_in" 16 (spD ⟨l.prog, w, K, C⟩ rOut) := ⟨_, _, _, PySem.W.mg_of X G a40, F40.kp, b40, ok_out F40 M hc G38 G20 Gm4⟩
  have G40k : Gk l.prog w K mg base "is_output_in" ["thing", "program", "tree"] 16 (spD ⟨l.prog, w, K, C⟩ rOut) := ⟨_, _, _, PySem.W.mg_of X G a40, F40.kp, revB fun s a b c => .of_eq rfl, ok_out F40 M hc G38 G20 Gm4⟩
  have G46 : ∀ n, n ≤ 10 → Gf l.prog w K mg base "_law_same" (n + 1) (spD ⟨l.prog, w, K, C⟩ (rSame n)) := fun n => by
    induction n with
    | zero => exact fun _ => ⟨_, _, _, PySem.W.mg_of X G a46, F46.kp, b46, ok_same F46 M 0 (by decide) fun m q => nomatch q⟩
    | succ n ih => exact fun hn => ⟨_, _, _, PySem.W.mg_of X G a46, F46.kp, b46, ok_same F46 M (n + 1) (by omega) fun m q => by
        have : m = n := by omega
        subst this
        exact ih (by omega)⟩
  have G47 : ∀ n, n ≤ 10 → Gf l.prog w K mg base "_law_lists" (n + 1) (spD ⟨l.prog, w, K, C⟩ (rLists n)) := fun n => by
    induction n with
    | zero => exact fun _ => ⟨_, _, _, PySem.W.mg_of X G a47, F47.kp, b47, ok_lists F47 M 0 (by decide) fun m q => nomatch q⟩
    | succ n ih => exact fun hn => ⟨_, _, _, PySem.W.mg_of X G a47, F47.kp, b47, ok_lists F47 M (n + 1) (by omega) fun m q => by
        have : m = n := by omega
        subst this
        exact ih (by omega)⟩
  have G50 : Gf l.prog w K mg base "_law_cross" 1 (spD ⟨l.prog, w, K, C⟩ rCross) := ⟨_, _, _, PySem.W.mg_of X G a50, F50.kp, b50, ok_cross F50 M⟩
  have G51 : Gf l.prog w K mg base "_law_lines" 1 (spD ⟨l.prog, w, K, C⟩ rLawLines) := ⟨_, _, _, PySem.W.mg_of X G a51, F51.kp, b51, ok_lawLines F51 M⟩
  have G54 : Gf l.prog w K mg base "_law_up" 1 (spD ⟨l.prog, w, K, C⟩ rUp) := ⟨_, _, _, PySem.W.mg_of X G a54, F54.kp, b54, ok_up F54 M⟩
  have G55 : Gf l.prog w K mg base "_law_flow" 2 (spD ⟨l.prog, w, K, C⟩ rFlow) := ⟨_, _, _, PySem.W.mg_of X G a55, F55.kp, b55, ok_flow F55 M G54⟩
  have G56 : Gf l.prog w K mg base "_law_deep_outs" 3 (spD ⟨l.prog, w, K, C⟩ rDeep) := ⟨_, _, _, PySem.W.mg_of X G a56, F56.kp, b56, ok_deep F56 M G55 G54 G51⟩
  have G57 : Gf l.prog w K mg base "_law_orders" 1 (spD ⟨l.prog, w, K, C⟩ rOrders) := ⟨_, _, _, PySem.W.mg_of X G a57, F57.kp, b57, ok_orders F57 M⟩
  have G58 : Gf l.prog w K mg base "_law_case_right" 17 (spD ⟨l.prog, w, K, C⟩ rCase) := ⟨_, _, _, PySem.W.mg_of X G a58, F58.kp, b58, ok_case F58 M Gc G51 G56 G57 (G46 0 (by decide)) G40 G50 G37⟩
  have G59 : Gf l.prog w K mg base "_law_by_hand_right" 18 (spD ⟨l.prog, w, K, C⟩ rHand) := ⟨_, _, _, PySem.W.mg_of X G a59, F59.kp, b59, ok_hand F59 M hc Gc Gof Gm3 G56 G46 G40 G40k G58 G47⟩
  have G43 : Gf l.prog w K mg base "_law_take" 1 (spN ⟨l.prog, w, K, C⟩ 1 preTake postTake) := ⟨_, _, _, PySem.W.mg_of X G a43, F43.kp, b43, ok_take F43 M⟩
  have G45 : Gf l.prog w K mg base "_law_of" 2 (spN ⟨l.prog, w, K, C⟩ 1 preOf postOf) := ⟨_, _, _, PySem.W.mg_of X G a45, F45.kp, b45, ok_lof F45 M G43⟩
  have G48 : Gf l.prog w K mg base "_law_mixed" 2 (spN ⟨l.prog, w, K, C⟩ 10 preMix postMix) := ⟨_, _, _, PySem.W.mg_of X G a48, F48.kp, b48, ok_mixed F48 M G43⟩
  have G49 : Gf l.prog w K mg base "_law_tags" 3 (spN ⟨l.prog, w, K, C⟩ 20 preTags postTags) := ⟨_, _, _, PySem.W.mg_of X G a49, F49.kp, b49, ok_tags F49 M G43 G45⟩
  have G52 : Gf l.prog w K mg base "_law_wood" 4 (spN ⟨l.prog, w, K, C⟩ 34 preTags postWood) := ⟨_, _, _, PySem.W.mg_of X G a52, F52.kp, b52, ok_wood F52 M G49 G48 G45⟩
  have G53 : Gf l.prog w K mg base "_law_run" 3 (spN ⟨l.prog, w, K, C⟩ 20 preRun postRun) := ⟨_, _, _, PySem.W.mg_of X G a53, F53.kp, b53, ok_run F53 M G43 G45⟩
  have G60 : Gf l.prog w K mg base "_law_right" 18 (spN ⟨l.prog, w, K, C⟩ 120 preRight postRight) := ⟨_, _, _, PySem.W.mg_of X G a60, F60.kp, b60, ok_right F60 M Gc G43 G52 G53 G51 G58 G56 (G46 0 (by decide)) G39⟩
  have G42 : Gf l.prog w K mg base "_law_box" 1 (spF ⟨l.prog, w, K, C⟩ rBox) := ⟨_, _, _, PySem.W.mg_of X G a42, F42.kp, b42, ok_box F42 M⟩
  have G44 : Gf l.prog w K mg base "_law_cells" 1 (spD ⟨l.prog, w, K, C⟩ rCells) := ⟨_, _, _, PySem.W.mg_of X G a44, F44.kp, b44, ok_cells F44 M⟩
  have L := ok_law (C := C) (P := l.prog) (w := w) (base := base) F61 M G44 G59 G60 G42
  refine (L.mono (k := 100) (by decide)).imp fun vs H Q E hs => ?_
  obtain ⟨a, ns, rfl, hS, hl, hq⟩ := hs
  exact ⟨H, [.scr ns], .d (.bool true), Ex.refl H, .cons ⟨a, rfl, hS⟩ .nil, ⟨ns, rfl, hl, rfl⟩, fun v B H2 s r => by
    cases r
    exact hq H2⟩
end
end DL
set_option autoImplicit true
open PySem PySem.W PyProof.Rows in
set_option maxRecDepth 100000 in
set_option maxHeartbeats 0 in
theorem PySem.Challenge.cw_lateshown_k15_whole_outputs_of_trees_by_holds : PySem.Challenge.rw_lateshown_k15_whole_outputs_of_trees_by.Holds := by
  w_on; o_law; k_head; (case hw => w_witness2)
  k_fill
  refine L2.walk_of (l := PySem.Challenge.rw_lateshown_k15_whole_outputs_of_trees_by) (n := 63) (k := 100) (x := "_law_script") (CX := fun _ => L2.CX0) (sp := fun w => DL.spLaw _) rfl (by decide) rfl ⟨rfl, by decide, by decide⟩ (fun w h Y => PySem.W.kIn_of Y) ?F (fun _ _ a ns hl _ hS => ⟨a, ns, rfl, hS, hl, fun _ => rfl⟩) (fun _ _ _ _ _ z => z)
  case F =>
    intro w mg fa h KX G hmg
    refine' DL.all_mk KX G hmg ?aC ?a7 ?l7 ?c7 ?k7 ?a8 ?l8 ?c8 ?k8 ?a18 ?l18 ?c18 ?k18 ?a19 ?l19 ?c19 ?k19 ?a20 ?l20 ?c20 ?k20 ?a21 ?l21 ?c21 ?k21 ?a22 ?l22 ?c22 ?k22 ?a23 ?l23 ?c23 ?k23 ?a25 ?l25 ?c25 ?k25 ?a28 ?l28 ?c28 ?k28 ?a29 ?l29 ?c29 ?k29 ?a30 ?l30 ?c30 ?k30 ?a31 ?l31 ?c31 ?k31 ?a32 ?l32 ?c32 ?k32 ?a33 ?l33 ?c33 ?k33 ?a34 ?l34 ?c34 ?k34 ?a35 ?l35 ?c35 ?k35 ?a36 ?l36 ?c36 ?k36 ?a37 ?l37 ?c37 ?k37 ?a38 ?l38 ?c38 ?k38 ?a39 ?l39 ?c39 ?k39 ?a40 ?l40 ?c40 ?k40 ?a42 ?l42 ?c42 ?k42 ?a43 ?l43 ?c43 ?k43 ?a44 ?l44 ?c44 ?k44 ?a45 ?l45 ?c45 ?k45 ?a46 ?l46 ?c46 ?k46 ?a47 ?l47 ?c47 ?k47 ?a48 ?l48 ?c48 ?k48 ?a49 ?l49 ?c49 ?k49 ?a50 ?l50 ?c50 ?k50 ?a51 ?l51 ?c51 ?k51 ?a52 ?l52 ?c52 ?k52 ?a53 ?l53 ?c53 ?k53 ?a54 ?l54 ?c54 ?k54 ?a55 ?l55 ?c55 ?k55 ?a56 ?l56 ?c56 ?k56 ?a57 ?l57 ?c57 ?k57 ?a58 ?l58 ?c58 ?k58 ?a59 ?l59 ?c59 ?k59 ?a60 ?l60 ?c60 ?k60 ?a61 ?l61 ?c61 ?k61 ?aI ?iI ?lI ?cI ?kI ?lTT ?lT ?am2 ?rm2 ?lm2 ?cm2 ?km2 ?am3 ?gm3 ?tm3 ?rm3 ?lm3 ?cm3 ?km3 ?am4 ?gm4 ?tm4 ?rm4 ?lm4 ?cm4 ?km4 ?am5 ?gm5 ?tm5 ?rm5 ?lm5 ?cm5 ?km5 ?am6 ?gm6 ?tm6 ?rm6 ?lm6 ?cm6 ?km6 ?rd ?ga ?mk ?kC ?pg ?ic ?po ?sa ?d1 ?d2 ?d3 ?d4 ?d5 ?z_len ?z_isinstance ?z_int ?z_bool ?z_tuple ?z_list ?z_str ?z_all ?z_any ?z_enumerate ?z_range ?z_sorted ?z_dict ?z_zip ?z_set ?z_abs ?z_max ?y_WRITE ?y_FLUSH ?y_SIGN ?y_NOTHING ?y_BLANK ?y_LETTERS ?y_LONGEST ?y_PAIR ?y_SCREEN
    (case aC => k_is)
    (case a7 => k_is)
    (case l7 => k_is)
    (case c7 => k_is)
    (case k7 => k_is)
    (case a8 => k_is)
    (case l8 => k_is)
    (case c8 => k_is)
    (case k8 => k_is)
    (case a18 => k_is)
    (case l18 => k_is)
    (case c18 => k_is)
    (case k18 => k_is)
    (case a19 => k_is)
    (case l19 => k_is)
    (case c19 => k_is)
    (case k19 => k_is)
    (case a20 => k_is)
    (case l20 => k_is)
    (case c20 => k_is)
    (case k20 => k_is)
    (case a21 => k_is)
    (case l21 => k_is)
    (case c21 => k_is)
    (case k21 => k_is)
    (case a22 => k_is)
    (case l22 => k_is)
    (case c22 => k_is)
    (case k22 => k_is)
    (case a23 => k_is)
    (case l23 => k_is)
    (case c23 => k_is)
    (case k23 => k_is)
    (case a25 => k_is)
    (case l25 => k_is)
    (case c25 => k_is)
    (case k25 => k_is)
    (case a28 => k_is)
    (case l28 => k_is)
    (case c28 => k_is)
    (case k28 => k_is)
    (case a29 => k_is)
    (case l29 => k_is)
    (case c29 => k_is)
    (case k29 => k_is)
    (case a30 => k_is)
    (case l30 => k_is)
    (case c30 => k_is)
    (case k30 => k_is)
    (case a31 => k_is)
    (case l31 => k_is)
    (case c31 => k_is)
    (case k31 => k_is)
    (case a32 => k_is)
    (case l32 => k_is)
    (case c32 => k_is)
    (case k32 => k_is)
    (case a33 => k_is)
    (case l33 => k_is)
    (case c33 => k_is)
    (case k33 => k_is)
    (case a34 => k_is)
    (case l34 => k_is)
    (case c34 => k_is)
    (case k34 => k_is)
    (case a35 => k_is)
    (case l35 => k_is)
    (case c35 => k_is)
    (case k35 => k_is)
    (case a36 => k_is)
    (case l36 => k_is)
    (case c36 => k_is)
    (case k36 => k_is)
    (case a37 => k_is)
    (case l37 => k_is)
    (case c37 => k_is)
    (case k37 => k_is)
    (case a38 => k_is)
    (case l38 => k_is)
    (case c38 => k_is)
    (case k38 => k_is)
    (case a39 => k_is)
    (case l39 => k_is)
    (case c39 => k_is)
    (case k39 => k_is)
    (case a40 => k_is)
    (case l40 => k_is)
    (case c40 => k_is)
    (case k40 => k_is)
    (case a42 => k_is)
    (case l42 => k_is)
    (case c42 => k_is)
    (case k42 => k_is)
    (case a43 => k_is)
    (case l43 => k_is)
    (case c43 => k_is)
    (case k43 => k_is)
    (case a44 => k_is)
    (case l44 => k_is)
    (case c44 => k_is)
    (case k44 => k_is)
    (case a45 => k_is)
    (case l45 => k_is)
    (case c45 => k_is)
    (case k45 => k_is)
    (case a46 => k_is)
    (case l46 => k_is)
    (case c46 => k_is)
    (case k46 => k_is)
    (case a47 => k_is)
    (case l47 => k_is)
    (case c47 => k_is)
    (case k47 => k_is)
    (case a48 => k_is)
    (case l48 => k_is)
    (case c48 => k_is)
    (case k48 => k_is)
    (case a49 => k_is)
    (case l49 => k_is)
    (case c49 => k_is)
    (case k49 => k_is)
    (case a50 => k_is)
    (case l50 => k_is)
    (case c50 => k_is)
    (case k50 => k_is)
    (case a51 => k_is)
    (case l51 => k_is)
    (case c51 => k_is)
    (case k51 => k_is)
    (case a52 => k_is)
    (case l52 => k_is)
    (case c52 => k_is)
    (case k52 => k_is)
    (case a53 => k_is)
    (case l53 => k_is)
    (case c53 => k_is)
    (case k53 => k_is)
    (case a54 => k_is)
    (case l54 => k_is)
    (case c54 => k_is)
    (case k54 => k_is)
    (case a55 => k_is)
    (case l55 => k_is)
    (case c55 => k_is)
    (case k55 => k_is)
    (case a56 => k_is)
    (case l56 => k_is)
    (case c56 => k_is)
    (case k56 => k_is)
    (case a57 => k_is)
    (case l57 => k_is)
    (case c57 => k_is)
    (case k57 => k_is)
    (case a58 => k_is)
    (case l58 => k_is)
    (case c58 => k_is)
    (case k58 => k_is)
    (case a59 => k_is)
    (case l59 => k_is)
    (case c59 => k_is)
    (case k59 => k_is)
    (case a60 => k_is)
    (case l60 => k_is)
    (case c60 => k_is)
    (case k60 => k_is)
    (case a61 => k_is)
    (case l61 => k_is)
    (case c61 => k_is)
    (case k61 => k_is)
    (case aI => k_is)
    (case iI => k_is)
    (case lI => k_is)
    (case cI => k_is)
    (case kI => k_is)
    (case lTT => k_is)
    (case lT => k_is)
    (case am2 => k_is)
    (case rm2 => k_is)
    (case lm2 => k_is)
    (case cm2 => k_is)
    (case km2 => k_is)
    (case am3 => k_is)
    (case gm3 => k_is)
    (case tm3 => k_is)
    (case rm3 => k_is)
    (case lm3 => k_is)
    (case cm3 => k_is)
    (case km3 => k_is)
    (case am4 => k_is)
    (case gm4 => k_is)
    (case tm4 => k_is)
    (case rm4 => k_is)
    (case lm4 => k_is)
    (case cm4 => k_is)
    (case km4 => k_is)
    (case am5 => k_is)
    (case gm5 => k_is)
    (case tm5 => k_is)
    (case rm5 => k_is)
    (case lm5 => k_is)
    (case cm5 => k_is)
    (case km5 => k_is)
    (case am6 => k_is)
    (case gm6 => k_is)
    (case tm6 => k_is)
    (case rm6 => k_is)
    (case lm6 => k_is)
    (case cm6 => k_is)
    (case km6 => k_is)
    (case rd => k_is)
    (case ga => k_is)
    (case mk => k_is)
    (case kC => k_is)
    (case pg => k_is)
    (case ic => k_is)
    (case po => k_is)
    (case sa => k_is)
    (case d1 => k_is)
    (case d2 => k_is)
    (case d3 => k_is)
    (case d4 => k_is)
    (case d5 => k_is)
    (case z_len => k_is)
    (case z_isinstance => k_is)
    (case z_int => k_is)
    (case z_bool => k_is)
    (case z_tuple => k_is)
    (case z_list => k_is)
    (case z_str => k_is)
    (case z_all => k_is)
    (case z_any => k_is)
    (case z_enumerate => k_is)
    (case z_range => k_is)
    (case z_sorted => k_is)
    (case z_dict => k_is)
    (case z_zip => k_is)
    (case z_set => k_is)
    (case z_abs => k_is)
    (case z_max => k_is)
    (case y_WRITE => k_is)
    (case y_FLUSH => k_is)
    (case y_SIGN => k_is)
    (case y_NOTHING => k_is)
    (case y_BLANK => k_is)
    (case y_LETTERS => k_is)
    (case y_LONGEST => k_is)
    (case y_PAIR => k_is)
    (case y_SCREEN => k_is)
