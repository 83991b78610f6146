import PyProof.Rows.All
import Wide.All
import OpenK.AllK
import Wide.FinOn
import HandS.ForMost
import HandS.Flow
import HandS.Exc
import HandS.TryOnly
import HandS.TryMany
import HandS.CallSlots
import HandS.Defaults
import HandS.HeadHook2
import HandS.HeadHook4
import HandS.Head2
import HandS.HeadEnd
import HandS.TupAny
import HandS.TupLe
import HandS.Style
import HandS.Wide
import HandS.IsInst
import HandS.SortInts
import HandS.Star
import HandS.Conv
import HandS.Walk
import HandS.Iter
import HandS.ExcOwn
import HandS.WordsExc
import PySem.Challenge.RW_gluedsquares_k86_whole_straight_words_an
set_option Elab.async false
set_option linter.all false
set_option maxRecDepth 100000
set_option maxHeartbeats 4000000
/-! MiA: plain data, plain memory, and how they lie in the abstract heap -/
namespace Mi
open PySem PySem.Spec PyProof.Rows L2

/-- plain data: a tuple, a fixed list, an instance that never changes stand for themselves; what changes is told by its place in the plain memory -/
inductive D where
  | non | bl (b : Bool) | int (i : Int) | str (cs : List Nat)
  | tup (xs : List D) | fl (xs : List D) | ref (n : Nat) | gl (x : Str) | ty (n : String) | obj (c : Str) (fs : List D)
inductive Cell where
  | lst (xs : List D) | dK (kvs : List (Key × D)) | dead
abbrev Mem := List Cell
abbrev Env := List (Option D)
def Cell.live : Cell → Bool
  | .dead => false
  | _ => true
/-- an exception: its class's name, what it keeps -/
structure Xn where
  cls : Str
  pay : List (Str × D)
inductive Out (α : Type) where
  | ok (a : α) (S : Mem) | exc (x : Xn) (S : Mem) | bad
inductive Fl where
  | nx (e : Env) | rt (d : D) | bk (e : Env) | ct (e : Env)
inductive OS where
  | ok (f : Fl) (S : Mem) | exc (x : Xn) (e : Env) (S : Mem) | bad
@[reducible] def Out.bind {α β : Type} (o : Out α) (f : α → Mem → Out β) : Out β := match o with
  | .ok a S => f a S
  | .exc x S => .exc x S
  | .bad => .bad
def lift {α : Type} (o : Option (α × Mem)) : Out α := match o with
  | some (a, S) => .ok a S
  | none => .bad

/-- where the places of the plain memory lie; which instances never change again -/
structure Wo where
  ρ : List Addr
  fz : List Addr

structure Later (ω : Wo) (H : Hp) (ω' : Wo) (H' : Hp) : Prop where
  pre : ∃ m, ω'.ρ = ω.ρ ++ m
  tup : ∀ a xs, H a = some (.tup xs) → H' a = some (.tup xs)
  frz : ∀ a o u, H a = some (.frz o u) → H' a = some (.frz o u)
  fz : ∀ a, a ∈ ω.fz → a ∈ ω'.fz ∧ H' a = H a
theorem Later.refl (ω : Wo) (H : Hp) : Later ω H ω H := ⟨⟨[], by simp⟩, fun _ _ h => h, fun _ _ _ h => h, fun _ h => ⟨h, rfl⟩⟩
theorem Later.trans {ω ω1 ω2 : Wo} {H H1 H2 : Hp} (a : Later ω H ω1 H1) (b : Later ω1 H1 ω2 H2) : Later ω H ω2 H2 := by
  refine ⟨?_, fun x xs h => b.tup x xs (a.tup x xs h), fun x o u h => b.frz x o u (a.frz x o u h), fun x h => ?_⟩
  · obtain ⟨m, e⟩ := a.pre
    obtain ⟨m2, e2⟩ := b.pre
    exact ⟨m ++ m2, by rw [e2, e, List.append_assoc]⟩
  · obtain ⟨h1, e1⟩ := a.fz x h
    obtain ⟨h2, e2⟩ := b.fz x h1
    exact ⟨h2, e2.trans e1⟩
theorem Later.get {ω ω' : Wo} {H H' : Hp} (L : Later ω H ω' H') {n : Nat} {a : Addr} (h : ω.ρ[n]? = some a) : ω'.ρ[n]? = some a := by
  obtain ⟨m, e⟩ := L.pre
  have hl : n < ω.ρ.length := (List.getElem?_eq_some_iff.mp h).1
  rw [e, List.getElem?_append_left hl]
  exact h

/-- a list that nobody changes -/
def FxL (K : PySem.W.Frag) (H : Hp) (a : Addr) (xs : List V) : Prop :=
  (∃ o, H a = some (.frz o (.lst xs))) ∨
    ∃ (o : Obj) (its : Array Value) (n : Nat), K.lookup a = some o ∧ o.cls = .type "list" ∧ o.dict = none ∧ o.data = .seq its n ∧ its.size ≤ sizeLine ∧ Vals xs its.toList
theorem FxL.seq {K : PySem.W.Frag} {H : Hp} {a : Addr} {xs : List V} (h : FxL K H a xs) : SqL K H a xs := by
  rcases h with h | h
  · exact .inl (.inr h)
  · exact .inr h
/-- an instance at a with its attributes (those of a class with slots lie where SlotsOf says; given later) -/
abbrev InsR := Hp → Addr → Str → List V → Prop

mutual
inductive RelD (K : PySem.W.Frag) (ω : Wo) (H : Hp) : D → V → Prop
  | non : RelD K ω H .non .non
  | bl (b : Bool) : RelD K ω H (.bl b) (.bl b)
  | int (i : Int) : RelD K ω H (.int i) (.int i)
  | str (cs : List Nat) : RelD K ω H (.str cs) (.str ⟨cs.toArray⟩)
  | tup {a : Addr} {xs : List D} {vs : List V} : SqT K H a vs → RelDs K ω H xs vs → RelD K ω H (.tup xs) (.ref a)
  | fl {a : Addr} {xs : List D} {vs : List V} : FxL K H a vs → RelDs K ω H xs vs → RelD K ω H (.fl xs) (.ref a)
  | ref {a : Addr} {n : Nat} : ω.ρ[n]? = some a → RelD K ω H (.ref n) (.ref a)
  | gl (x : Str) : RelD K ω H (.gl x) (.ref (He.ga K x))
  | ty (n : String) : RelD K ω H (.ty n) (.ty n)
inductive RelDs (K : PySem.W.Frag) (ω : Wo) (H : Hp) : List D → List V → Prop
  | nil : RelDs K ω H [] []
  | cons {d : D} {v : V} {ds : List D} {vs : List V} : RelD K ω H d v → RelDs K ω H ds vs → RelDs K ω H (d :: ds) (v :: vs)
end
section
variable {K : PySem.W.Frag} {ω ω' : Wo} {H H' : Hp}
theorem sqt_later (L : Later ω H ω' H') {a : Addr} {vs : List V} (h : SqT K H a vs) : SqT K H' a vs := by
  rcases h with (h | ⟨o, h⟩) | h
  · exact .inl (.inl (L.tup _ _ h))
  · exact .inl (.inr ⟨o, L.frz _ _ _ h⟩)
  · exact .inr h
theorem fxl_later (L : Later ω H ω' H') {a : Addr} {vs : List V} (h : FxL K H a vs) : FxL K H' a vs := by
  rcases h with ⟨o, h⟩ | h
  · exact .inl ⟨o, L.frz _ _ _ h⟩
  · exact .inr h
mutual
theorem RelD.mono (L : Later ω H ω' H') : ∀ (d : D) (v : V), RelD K ω H d v → RelD K ω' H' d v
  | .non, _, h => by cases h; exact .non
  | .bl b, _, h => by cases h; exact .bl b
  | .int i, _, h => by cases h; exact .int i
  | .str cs, _, h => by cases h; exact .str cs
  | .tup xs, _, h => by
    cases h with
    | tup h1 h2 => exact .tup (sqt_later L h1) (RelDs.mono L xs _ h2)
  | .fl xs, _, h => by
    cases h with
    | fl h1 h2 => exact .fl (fxl_later L h1) (RelDs.mono L xs _ h2)
  | .ref n, _, h => by
    cases h with
    | ref h1 => exact .ref (L.get h1)
  | .gl x, _, h => by cases h; exact .gl x
  | .ty n, _, h => by cases h; exact .ty n
  | .obj c fs, _, h => by cases h
theorem RelDs.mono (L : Later ω H ω' H') : ∀ (ds : List D) (vs : List V), RelDs K ω H ds vs → RelDs K ω' H' ds vs
  | [], _, h => by cases h; exact .nil
  | d :: ds, _, h => by
    cases h with
    | cons h1 h2 => exact .cons (RelD.mono L d _ h1) (RelDs.mono L ds _ h2)
end
theorem RelD.later {d : D} {v : V} (h : RelD K ω H d v) (L : Later ω H ω' H') : RelD K ω' H' d v := RelD.mono L d v h
theorem RelDs.later {ds : List D} {vs : List V} (h : RelDs K ω H ds vs) (L : Later ω H ω' H') : RelDs K ω' H' ds vs := RelDs.mono L ds vs h
theorem RelDs.length : ∀ {ds : List D} {vs : List V}, RelDs K ω H ds vs → ds.length = vs.length
  | [], _, h => by cases h; rfl
  | d :: ds, _, h => by
    cases h with
    | cons h1 h2 => rw [List.length_cons, List.length_cons, RelDs.length h2]
theorem RelDs.get : ∀ {ds : List D} {vs : List V} {i : Nat} {d : D}, RelDs K ω H ds vs → ds[i]? = some d → ∃ v, vs[i]? = some v ∧ RelD K ω H d v
  | [], _, _, _, _, e => by simp at e
  | x :: ds, _, 0, d, h, e => by
    cases h with
    | cons h1 h2 =>
      have e' : x = d := by simpa using e
      subst e'
      exact ⟨_, rfl, h1⟩
  | x :: ds, _, i + 1, d, h, e => by
    cases h with
    | cons h1 h2 =>
      obtain ⟨v, h3, h4⟩ := RelDs.get (i := i) (d := d) h2 (by simpa using e)
      exact ⟨v, by simpa using h3, h4⟩
theorem RelDs.getV : ∀ {ds : List D} {vs : List V} {i : Nat} {v : V}, RelDs K ω H ds vs → vs[i]? = some v → ∃ d, ds[i]? = some d ∧ RelD K ω H d v
  | [], _, _, _, h, e => by cases h; simp at e
  | x :: ds, _, 0, v, h, e => by
    cases h with
    | cons h1 h2 =>
      rename_i u vs
      have e' : u = v := by simpa using e
      subst e'
      exact ⟨_, rfl, h1⟩
  | x :: ds, _, i + 1, v, h, e => by
    cases h with
    | cons h1 h2 =>
      obtain ⟨d, h3, h4⟩ := RelDs.getV (i := i) (v := v) h2 (by simpa using e)
      exact ⟨d, by simpa using h3, h4⟩
theorem RelDs.append : ∀ {ds es : List D} {vs us : List V}, RelDs K ω H ds vs → RelDs K ω H es us → RelDs K ω H (ds ++ es) (vs ++ us)
  | [], _, _, _, h, k => by cases h; exact k
  | d :: ds, _, _, _, h, k => by
    cases h with
    | cons h1 h2 => exact .cons h1 (RelDs.append h2 k)
theorem RelDs.set {x : D} {u : V} (r : RelD K ω H x u) : ∀ {ds : List D} {vs : List V} (i : Nat), RelDs K ω H ds vs → RelDs K ω H (ds.set i x) (vs.set i u)
  | [], _, _, h => by cases h; exact .nil
  | d :: ds, _, 0, h => by
    cases h with
    | cons h1 h2 => exact .cons r h2
  | d :: ds, _, i + 1, h => by
    cases h with
    | cons h1 h2 => exact .cons h1 (RelDs.set r i h2)
theorem RelDs.take : ∀ {ds : List D} {vs : List V} (n : Nat), RelDs K ω H ds vs → RelDs K ω H (ds.take n) (vs.take n)
  | _, _, 0, _ => by rw [List.take_zero, List.take_zero]; exact .nil
  | [], _, n + 1, h => by cases h; exact .nil
  | d :: ds, _, n + 1, h => by
    cases h with
    | cons h1 h2 => exact .cons h1 (RelDs.take n h2)
theorem RelDs.drop : ∀ {ds : List D} {vs : List V} (n : Nat), RelDs K ω H ds vs → RelDs K ω H (ds.drop n) (vs.drop n)
  | _, _, 0, h => h
  | [], _, n + 1, h => by cases h; exact .nil
  | d :: ds, _, n + 1, h => by
    cases h with
    | cons h1 h2 => exact RelDs.drop n h2
theorem RelDs.reverse {ds : List D} {vs : List V} (h : RelDs K ω H ds vs) : RelDs K ω H ds.reverse vs.reverse := by
  induction ds generalizing vs with
  | nil => cases h; exact .nil
  | cons d ds ih =>
    cases h with
    | cons h1 h2 =>
      rw [List.reverse_cons, List.reverse_cons]
      exact RelDs.append (ih h2) (.cons h1 .nil)
theorem RelDs.eraseIdx : ∀ {ds : List D} {vs : List V} (i : Nat), RelDs K ω H ds vs → RelDs K ω H (ds.eraseIdx i) (vs.eraseIdx i)
  | [], _, _, h => by cases h; exact .nil
  | d :: ds, _, 0, h => by
    cases h with
    | cons h1 h2 => exact h2
  | d :: ds, _, i + 1, h => by
    cases h with
    | cons h1 h2 => exact .cons h1 (RelDs.eraseIdx i h2)
theorem RelDs.dropLast {ds : List D} {vs : List V} (h : RelDs K ω H ds vs) : RelDs K ω H ds.dropLast vs.dropLast := by
  rw [List.dropLast_eq_take, List.dropLast_eq_take, ← h.length]
  exact h.take _
theorem RelDs.rep {ds : List D} {vs : List V} (h : RelDs K ω H ds vs) : ∀ k : Nat, RelDs K ω H (List.replicate k ds).flatten (List.replicate k vs).flatten
  | 0 => .nil
  | k + 1 => by
    rw [List.replicate_succ, List.replicate_succ, List.flatten_cons, List.flatten_cons]
    exact RelDs.append h (RelDs.rep h k)
theorem RelDs.ints : ∀ {ns : List Int} {vs : List V}, RelDs K ω H (ns.map D.int) vs → vs = ns.map V.int
  | [], _, h => by cases h; rfl
  | n :: ns, _, h => by
    cases h with
    | cons h1 h2 => cases h1; rw [RelDs.ints h2, List.map_cons]
theorem RelDs.ofInts : ∀ (ns : List Int), RelDs K ω H (ns.map D.int) (ns.map V.int)
  | [] => .nil
  | n :: ns => .cons (.int n) (RelDs.ofInts ns)
theorem RelDs.bls : ∀ {ns : List Bool} {vs : List V}, RelDs K ω H (ns.map D.bl) vs → vs = ns.map V.bl
  | [], _, h => by cases h; rfl
  | n :: ns, _, h => by
    cases h with
    | cons h1 h2 => cases h1; rw [RelDs.bls h2, List.map_cons]
theorem RelDs.strs : ∀ {ns : List (List Nat)} {vs : List V}, RelDs K ω H (ns.map D.str) vs → vs = (ns.map fun cs => (⟨cs.toArray⟩ : Str)).map V.str
  | [], _, h => by cases h; rfl
  | n :: ns, _, h => by
    cases h with
    | cons h1 h2 => cases h1; rw [RelDs.strs h2]; rfl
theorem RelDs.ofStrs : ∀ (ns : List (List Nat)), RelDs K ω H (ns.map D.str) ((ns.map fun cs => (⟨cs.toArray⟩ : Str)).map V.str)
  | [] => .nil
  | n :: ns => .cons (.str n) (RelDs.ofStrs ns)
end

/-! ### dicts' pairs -/
inductive RelKs (K : PySem.W.Frag) (ω : Wo) (H : Hp) : List (Key × D) → List (Key × V) → Prop
  | nil : RelKs K ω H [] []
  | cons {k : Key} {d : D} {v : V} {ds : List (Key × D)} {vs : List (Key × V)} : RelD K ω H d v → RelKs K ω H ds vs → RelKs K ω H ((k, d) :: ds) ((k, v) :: vs)
theorem RelKs.later {K : PySem.W.Frag} {ω ω' : Wo} {H H' : Hp} (L : Later ω H ω' H') : ∀ {ds : List (Key × D)} {vs : List (Key × V)}, RelKs K ω H ds vs → RelKs K ω' H' ds vs
  | [], _, h => by cases h; exact .nil
  | (k, d) :: ds, _, h => by
    cases h with
    | cons h1 h2 => exact .cons (h1.later L) (RelKs.later L h2)

/-! ### the plain memory in the heap -/
def CellR (K : PySem.W.Frag) (ω : Wo) (H : Hp) : Cell → Addr → Prop
  | .lst xs, a => ∃ vs, H a = some (.lst vs) ∧ RelDs K ω H xs vs
  | .dK kvs, a => ∃ kws, H a = some (.dK kws) ∧ RelKs K ω H kvs kws
  | .dead, _ => True
structure Sim (K : PySem.W.Frag) (ω : Wo) (S : Mem) (H : Hp) : Prop where
  len : ω.ρ.length = S.length
  cell : ∀ (n : Nat) (c : Cell) (a : Addr), S[n]? = some c → ω.ρ[n]? = some a → CellR K ω H c a
  inj : ∀ (n m : Nat) (c c' : Cell) (a : Addr), S[n]? = some c → S[m]? = some c' → c.live = true → c'.live = true → ω.ρ[n]? = some a → ω.ρ[m]? = some a → n = m
  fzs : ∀ a, a ∈ ω.fz → (∃ o, H a = some o) ∧ ∀ (n : Nat) (c : Cell), S[n]? = some c → c.live = true → ω.ρ[n]? ≠ some a
section
variable {K : PySem.W.Frag} {ω ω' : Wo} {H H' : Hp} {S : Mem}
theorem Sim.at_ (s : Sim K ω S H) {n : Nat} {c : Cell} (h : S[n]? = some c) : ∃ a, ω.ρ[n]? = some a ∧ CellR K ω H c a := by
  have hl : n < S.length := (List.getElem?_eq_some_iff.mp h).1
  have hl2 : n < ω.ρ.length := by rw [s.len]; exact hl
  exact ⟨ω.ρ[n], List.getElem?_eq_getElem hl2, s.cell n c _ h (List.getElem?_eq_getElem hl2)⟩
theorem CellR.there {c : Cell} {a : Addr} (h : CellR K ω H c a) (hl : c.live = true) : ∃ o, H a = some o := by
  cases c with
  | lst xs => obtain ⟨vs, e, _⟩ := h; exact ⟨_, e⟩
  | dK kvs => obtain ⟨vs, e, _⟩ := h; exact ⟨_, e⟩
  | dead => cases hl
/-- what lies at a cell's place is no tuple and not locked -/
theorem CellR.mut {c : Cell} {a : Addr} (h : CellR K ω H c a) (hl : c.live = true) : (∀ xs, H a ≠ some (HO.tup xs)) ∧ (∀ o u, H a ≠ some (HO.frz o u)) := by
  cases c with
  | lst xs => obtain ⟨vs, e, _⟩ := h; rw [e]; exact ⟨fun _ z => (by cases z), fun _ _ z => (by cases z)⟩
  | dK kvs => obtain ⟨vs, e, _⟩ := h; rw [e]; exact ⟨fun _ z => (by cases z), fun _ _ z => (by cases z)⟩
  | dead => cases hl
theorem CellR.later {c : Cell} {a : Addr} (h : CellR K ω H c a) (L : Later ω H ω' H') (e : H' a = H a) : CellR K ω' H' c a := by
  cases c with
  | lst xs => obtain ⟨vs, e1, r⟩ := h; exact ⟨vs, e.trans e1, r.later L⟩
  | dK kvs => obtain ⟨vs, e1, r⟩ := h; exact ⟨vs, e.trans e1, r.later L⟩
  | dead => trivial
/-- a new object that nobody changes -/
theorem later_new {p : Addr} {o : HO} (h : H p = none) (hf : p ∉ ω.fz) : Later ω H ω (upd H p o) :=
  ⟨⟨[], by simp⟩, fun a xs e => by rw [upd_ne (ne_of_none e h)]; exact e, fun a ob u e => by rw [upd_ne (ne_of_none e h)]; exact e, fun a ha => ⟨ha, upd_ne fun z => hf (z ▸ ha)⟩⟩
theorem Sim.nfz (s : Sim K ω S H) {p : Addr} (h : H p = none) : p ∉ ω.fz := fun z => by
  obtain ⟨⟨o, e⟩, _⟩ := s.fzs p z
  rw [h] at e; cases e
theorem Sim.nat_ (s : Sim K ω S H) {p : Addr} (h : H p = none) {n : Nat} {c : Cell} (hc : S[n]? = some c) (hl : c.live = true) : ω.ρ[n]? ≠ some p := fun z => by
  obtain ⟨o, e⟩ := (s.cell n c p hc z).there hl
  rw [h] at e; cases e
theorem Sim.new (s : Sim K ω S H) {p : Addr} {o : HO} (h : H p = none) : Sim K ω S (upd H p o) ∧ Later ω H ω (upd H p o) := by
  have L := later_new (ω := ω) (o := o) h (s.nfz h)
  refine ⟨⟨s.len, fun n c a hc ha => ?_, s.inj, fun a ha => ?_⟩, L⟩
  · cases hl : c.live with
    | true =>
      have hne : a ≠ p := fun z => s.nat_ h hc hl (by rw [ha, z])
      exact (s.cell n c a hc ha).later L (upd_ne hne)
    | false =>
      cases c with
      | dead => trivial
      | _ => cases hl
  · obtain ⟨⟨u, e⟩, h2⟩ := s.fzs a ha
    exact ⟨⟨u, by rw [upd_ne (ne_of_none e h)]; exact e⟩, h2⟩
/-- a new place -/
theorem Sim.alloc (s : Sim K ω S H) {p : Addr} {o : HO} {c : Cell} (h : H p = none) (hc : ∀ ω', Later ω H ω' (upd H p o) → CellR K ω' (upd H p o) c p) :
    Sim K ⟨ω.ρ ++ [p], ω.fz⟩ (S ++ [c]) (upd H p o) ∧ Later ω H ⟨ω.ρ ++ [p], ω.fz⟩ (upd H p o) ∧ RelD K ⟨ω.ρ ++ [p], ω.fz⟩ (upd H p o) (.ref S.length) (.ref p) := by
  obtain ⟨s1, L1⟩ := s.new (o := o) h
  have L : Later ω H ⟨ω.ρ ++ [p], ω.fz⟩ (upd H p o) := ⟨⟨[p], rfl⟩, L1.tup, L1.frz, L1.fz⟩
  have L2 : Later ω (upd H p o) ⟨ω.ρ ++ [p], ω.fz⟩ (upd H p o) := ⟨⟨[p], rfl⟩, fun _ _ e => e, fun _ _ _ e => e, fun _ e => ⟨e, rfl⟩⟩
  have get : ∀ {n : Nat} {c' : Cell}, (S ++ [c])[n]? = some c' → (n < S.length ∧ S[n]? = some c') ∨ (n = S.length ∧ c' = c) := fun {n c'} e => by
    by_cases hn : n < S.length
    · rw [List.getElem?_append_left hn] at e; exact .inl ⟨hn, e⟩
    · have hl := (List.getElem?_eq_some_iff.mp e).1
      rw [List.length_append, List.length_singleton] at hl
      have en : n = S.length := by omega
      subst en
      rw [List.getElem?_append_right (Nat.le_refl _), Nat.sub_self] at e
      exact .inr ⟨rfl, (Option.some.inj e).symm⟩
  have getA : ∀ {n : Nat} {a : Addr}, (ω.ρ ++ [p])[n]? = some a → (n < S.length → ω.ρ[n]? = some a) ∧ (n = S.length → a = p) := fun {n a} e => by
    refine ⟨fun hn => ?_, fun hn => ?_⟩
    · rw [List.getElem?_append_left (by rw [s.len]; exact hn)] at e; exact e
    · subst hn
      rw [List.getElem?_append_right (by rw [s.len]; exact Nat.le_refl _), s.len, Nat.sub_self] at e
      exact (Option.some.inj e).symm
  refine ⟨⟨by rw [List.length_append, List.length_append, s.len]; rfl, fun n c' a h1 h2 => ?_, fun n m c1 c2 a h1 h2 l1 l2 h3 h4 => ?_, fun a ha => ?_⟩, L, .ref ?_⟩
  · rcases get h1 with ⟨hn, e⟩ | ⟨hn, e⟩
    · exact (s1.cell n c' a e ((getA h2).1 hn)).later L2 rfl
    · rw [(getA h2).2 hn, e]
      exact hc _ L
  · rcases get h1 with ⟨hn, e⟩ | ⟨hn, e⟩ <;> rcases get h2 with ⟨hm, e'⟩ | ⟨hm, e'⟩
    · exact s.inj n m c1 c2 a e e' l1 l2 ((getA h3).1 hn) ((getA h4).1 hm)
    · rw [(getA h4).2 hm] at h3
      exact absurd ((getA h3).1 hn) (s.nat_ h e l1)
    · rw [(getA h3).2 hn] at h4
      exact absurd ((getA h4).1 hm) (s.nat_ h e' l2)
    · rw [hn, hm]
  · obtain ⟨h1, h2⟩ := s1.fzs a ha
    refine ⟨h1, fun n c' e l z => ?_⟩
    rcases get e with ⟨hn, e'⟩ | ⟨hn, e'⟩
    · exact h2 n c' e' l ((getA z).1 hn)
    · exact s.nfz h ((getA z).2 hn ▸ ha)
  · show (ω.ρ ++ [p])[S.length]? = some p
    rw [← s.len, List.getElem?_append_right (Nat.le_refl _), Nat.sub_self]
    rfl
/-- a place is written -/
theorem Sim.write (s : Sim K ω S H) {n : Nat} {a : Addr} {c c' : Cell} {o : HO} (hc : S[n]? = some c) (hl : c.live = true) (ha : ω.ρ[n]? = some a)
    (hn : Later ω H ω (upd H a o) → CellR K ω (upd H a o) c' a) : Sim K ω (S.set n c') (upd H a o) ∧ Later ω H ω (upd H a o) := by
  obtain ⟨m1, m2⟩ := (s.cell n c a hc ha).mut hl
  have hfz : a ∉ ω.fz := fun z => (s.fzs a z).2 n c hc hl ha
  have L : Later ω H ω (upd H a o) := ⟨⟨[], by simp⟩, fun b xs e => by rw [upd_ne (fun z => m1 xs (by rw [← z]; exact e))]; exact e, fun b ob u e => by rw [upd_ne (fun z => m2 ob u (by rw [← z]; exact e))]; exact e, fun b hb => ⟨hb, upd_ne fun z => hfz (z ▸ hb)⟩⟩
  have hlen : n < S.length := (List.getElem?_eq_some_iff.mp hc).1
  have get : ∀ {m : Nat} {d : Cell}, (S.set n c')[m]? = some d → (m = n ∧ d = c') ∨ (m ≠ n ∧ S[m]? = some d) := fun {m d} e => by
    by_cases hm : m = n
    · subst hm
      rw [List.getElem?_set_self hlen] at e
      exact .inl ⟨rfl, (Option.some.inj e).symm⟩
    · rw [List.getElem?_set_ne (Ne.symm hm)] at e
      exact .inr ⟨hm, e⟩
  refine ⟨⟨by rw [List.length_set]; exact s.len, fun m d b h1 h2 => ?_, fun m k c1 c2 b h1 h2 l1 l2 h3 h4 => ?_, fun b hb => ?_⟩, L⟩
  · rcases get h1 with ⟨e1, e2⟩ | ⟨e1, e2⟩
    · subst e1 e2
      have eb : b = a := Option.some.inj (h2.symm.trans ha)
      subst eb
      exact hn L
    · cases hd : d.live with
      | true =>
        have hne : b ≠ a := fun z => e1 (s.inj m n d c b e2 hc hd hl h2 (by rw [ha, z]))
        exact (s.cell m d b e2 h2).later L (upd_ne hne)
      | false =>
        cases d with
        | dead => trivial
        | _ => cases hd
  · rcases get h1 with ⟨e1, e2⟩ | ⟨e1, e2⟩ <;> rcases get h2 with ⟨f1, f2⟩ | ⟨f1, f2⟩
    · rw [e1, f1]
    · rw [e1] at h3 ⊢
      exact s.inj n k c c2 b hc f2 hl l2 h3 h4
    · rw [f1] at h4 ⊢
      exact s.inj m n c1 c b e2 hc l1 hl h3 h4
    · exact s.inj m k c1 c2 b e2 f2 l1 l2 h3 h4
  · obtain ⟨⟨u, e⟩, h2⟩ := s.fzs b hb
    have hba : b ≠ a := fun z => hfz (by rw [← z]; exact hb)
    refine ⟨⟨u, by rw [upd_ne hba]; exact e⟩, fun m d h1 l => ?_⟩
    rcases get h1 with ⟨e1, e2⟩ | ⟨e1, e2⟩
    · rw [e1]; exact h2 n c hc hl
    · exact h2 m d e2 l
end
end Mi

set_option Elab.async false
set_option linter.all false
set_option maxRecDepth 100000
set_option maxHeartbeats 4000000
/-! MiB: what is wanted behind a step; operators on plain data -/
namespace Mi
open PySem PySem.Spec PyProof.Rows L2

/-! ### an exception as it lies -/
inductive RelFs (K : PySem.W.Frag) (ω : Wo) (H : Hp) : List (Str × D) → List (Str × V) → Prop
  | nil : RelFs K ω H [] []
  | cons {k : Str} {d : D} {v : V} {ds : List (Str × D)} {vs : List (Str × V)} : RelD K ω H d v → RelFs K ω H ds vs → RelFs K ω H ((k, d) :: ds) ((k, v) :: vs)
theorem RelFs.later {K : PySem.W.Frag} {ω ω' : Wo} {H H' : Hp} (L : Later ω H ω' H') : ∀ {ds : List (Str × D)} {vs : List (Str × V)}, RelFs K ω H ds vs → RelFs K ω' H' ds vs
  | [], _, h => by cases h; exact .nil
  | (k, d) :: ds, _, h => by
    cases h with
    | cons h1 h2 => exact .cons (h1.later L) (RelFs.later L h2)
def RelX (K : PySem.W.Frag) (ω : Wo) (H : Hp) (x : Xn) (c : Value) (d : Option Addr) : Prop :=
  c = .ref (He.ga K x.cls) ∧ ((x.pay = [] ∧ d = none) ∨ ∃ a fs, d = some a ∧ H a = some (.xd fs) ∧ RelFs K ω H x.pay fs)

/-! ### what is wanted behind a step -/
section
variable {α β γ δ : Type}
def Post (R : Wo → Hp → α → β → Prop) (K : PySem.W.Frag) (W : XK) (ω : Wo) (H : Hp) (o : Out α) (Q : β → Hp → Prop) : Prop := match o with
  | .ok a S => ∀ ω' H' b, Later ω H ω' H' → Sim K ω' S H' → R ω' H' a b → Q b H'
  | .exc x S => ∀ ω' H' c d, Later ω H ω' H' → Sim K ω' S H' → RelX K ω' H' x c d → W c d H'
  | .bad => False
def PostO (R : Wo → Hp → α → β → Prop) (K : PySem.W.Frag) (ω : Wo) (H : Hp) (o : Option (α × Mem)) (Q : β → Hp → Prop) : Prop := match o with
  | some (a, S) => ∀ ω' H' b, Later ω H ω' H' → Sim K ω' S H' → R ω' H' a b → Q b H'
  | none => False
variable {R : Wo → Hp → α → β → Prop} {R2 : Wo → Hp → γ → δ → Prop} {K : PySem.W.Frag} {W : XK} {ω ω' : Wo} {H H' : Hp} {Q : β → Hp → Prop} {Q2 : δ → Hp → Prop}
theorem Post.later {o : Out α} (L : Later ω H ω' H') (h : Post R K W ω H o Q) : Post R K W ω' H' o Q := by
  cases o with
  | ok a S => exact fun ω2 H2 b L2 => h ω2 H2 b (L.trans L2)
  | exc x S => exact fun ω2 H2 c d L2 => h ω2 H2 c d (L.trans L2)
  | bad => exact h
theorem PostO.later {o : Option (α × Mem)} (L : Later ω H ω' H') (h : PostO R K ω H o Q) : PostO R K ω' H' o Q := by
  cases o with
  | some p => exact fun ω2 H2 b L2 => h ω2 H2 b (L.trans L2)
  | none => exact h
theorem Post.lift {o : Option (α × Mem)} (h : Post R K W ω H (lift o) Q) : PostO R K ω H o Q := by
  cases o with
  | some p => exact h
  | none => exact h
/-- a step, then what follows it -/
theorem Post.bind {o : Out α} {f : α → Mem → Out γ} (h : Post R2 K W ω H (o.bind f) Q2)
    (k : ∀ a S' ω' H' b, Later ω H ω' H' → Sim K ω' S' H' → R ω' H' a b → Post R2 K W ω' H' (f a S') Q2 → Q b H') : Post R K W ω H o Q := by
  cases o with
  | ok a S => exact fun ω2 H2 b L s r => k a S ω2 H2 b L s r (Post.later L h)
  | exc x S => exact h
  | bad => exact h
end

/-! ### the slots -/
structure EnvR (K : PySem.W.Frag) (ω : Wo) (H : Hp) (env : Env) (σ : L2.St) : Prop where
  len : env.length = σ.length
  at_ : ∀ (i : Nat) (d : D), env[i]? = some (some d) → ∃ v, σ[i]? = some (some v) ∧ RelD K ω H d v
section
variable {K : PySem.W.Frag} {ω ω' : Wo} {H H' : Hp} {env : Env} {σ : L2.St}
theorem EnvR.later (e : EnvR K ω H env σ) (L : Later ω H ω' H') : EnvR K ω' H' env σ := ⟨e.len, fun i d h => by
  obtain ⟨v, h1, h2⟩ := e.at_ i d h
  exact ⟨v, h1, h2.later L⟩⟩
theorem EnvR.set (e : EnvR K ω H env σ) (i : Nat) {d : D} {v : V} (r : RelD K ω H d v) : EnvR K ω H (env.set i (some d)) (σ.set i (some v)) := by
  refine ⟨by rw [List.length_set, List.length_set]; exact e.len, fun j d' h => ?_⟩
  by_cases hj : j = i
  · subst hj
    have hl : j < env.length := by
      have := (List.getElem?_eq_some_iff.mp h).1
      rw [List.length_set] at this; exact this
    rw [List.getElem?_set_self hl] at h
    have e1 : d = d' := Option.some.inj (Option.some.inj h)
    subst e1
    exact ⟨v, by rw [List.getElem?_set_self (by rw [← e.len]; exact hl)], r⟩
  · rw [List.getElem?_set_ne (Ne.symm hj)] at h
    obtain ⟨w, h1, h2⟩ := e.at_ j d' h
    exact ⟨w, by rw [List.getElem?_set_ne (Ne.symm hj)]; exact h1, h2⟩
theorem EnvR.drop (e : EnvR K ω H env σ) (i : Nat) : EnvR K ω H (env.set i none) (σ.set i none) := by
  refine ⟨by rw [List.length_set, List.length_set]; exact e.len, fun j d' h => ?_⟩
  by_cases hj : j = i
  · subst hj
    have hl : j < env.length := by
      have := (List.getElem?_eq_some_iff.mp h).1
      rw [List.length_set] at this; exact this
    rw [List.getElem?_set_self hl] at h
    cases h
  · rw [List.getElem?_set_ne (Ne.symm hj)] at h
    obtain ⟨w, h1, h2⟩ := e.at_ j d' h
    exact ⟨w, by rw [List.getElem?_set_ne (Ne.symm hj)]; exact h1, h2⟩
end

/-! ### operators by values -/
def rU2 (K : PySem.W.Frag) (f : D → D → Mem → Option (D × Mem)) : R2 := fun x y H Q => ∃ ω S a b, Sim K ω S H ∧ RelD K ω H a x ∧ RelD K ω H b y ∧ PostO (RelD K) K ω H (f a b S) Q
def rU1 (K : PySem.W.Frag) (f : D → Mem → Option (D × Mem)) : V → Hp → VK → Prop := fun x H Q => ∃ ω S a, Sim K ω S H ∧ RelD K ω H a x ∧ PostO (RelD K) K ω H (f a S) Q
def rUs (K : PySem.W.Frag) (f : List D → Mem → Option (D × Mem)) : List V → Hp → VK → Prop := fun xs H Q => ∃ ω S as, Sim K ω S H ∧ RelDs K ω H as xs ∧ PostO (RelD K) K ω H (f as S) Q
def rUm (K : PySem.W.Frag) (f : D → List D → Mem → Option (D × Mem)) : V → List V → Hp → VK → Prop := fun x xs H Q => ∃ ω S a as, Sim K ω S H ∧ RelD K ω H a x ∧ RelDs K ω H as xs ∧ PostO (RelD K) K ω H (f a as S) Q
section
variable {K : PySem.W.Frag} {ω : Wo} {H : Hp} {S : Mem} {Q : VK}
/-- the answer is plain -/
theorem PostO.give {d : D} {v : V} (s : Sim K ω S H) (r : RelD K ω H d v) (h : PostO (RelD K) K ω H (some (d, S)) Q) : Q v H := h ω H v (.refl ω H) s r
/-- the answer is a new tuple -/
theorem PostO.newTup {xs : List D} {vs : List V} (s : Sim K ω S H) (r : RelDs K ω H xs vs) (h : PostO (RelD K) K ω H (some (.tup xs, S)) Q) {p : Addr} (hp : H p = none) : Q (.ref p) (upd H p (.tup vs)) := by
  obtain ⟨s1, L⟩ := s.new (o := .tup vs) hp
  exact h ω _ _ L s1 (.tup (SqT.of upd_same) (r.later L))
/-- the answer is a new list -/
theorem PostO.newLst {xs : List D} {vs : List V} (s : Sim K ω S H) (r : RelDs K ω H xs vs) (h : PostO (RelD K) K ω H (some (.ref S.length, S ++ [.lst xs])) Q) {p : Addr} (hp : H p = none) : Q (.ref p) (upd H p (.lst vs)) := by
  obtain ⟨s1, L, r1⟩ := s.alloc (o := .lst vs) (c := .lst xs) hp fun ω' L => ⟨vs, upd_same, r.later L⟩
  exact h _ _ _ L s1 r1
/-- a list is written -/
theorem PostO.setLst {n : Nat} {a : Addr} {xs ys : List D} {vs : List V} {d : D} {v : V} (s : Sim K ω S H) (hn : S[n]? = some (.lst xs)) (ha : ω.ρ[n]? = some a) (r : RelDs K ω H ys vs) (rd : RelD K ω H d v)
    (h : PostO (RelD K) K ω H (some (d, S.set n (.lst ys))) Q) : Q v (upd H a (.lst vs)) := by
  obtain ⟨s1, L⟩ := s.write (c' := .lst ys) (o := .lst vs) hn rfl ha fun L => ⟨vs, upd_same, r.later L⟩
  exact h _ _ _ L s1 (rd.later L)
theorem Sim.lst (s : Sim K ω S H) {n : Nat} {a : Addr} {xs : List D} (hn : S[n]? = some (.lst xs)) (ha : ω.ρ[n]? = some a) : ∃ vs, H a = some (.lst vs) ∧ RelDs K ω H xs vs := s.cell n _ a hn ha
theorem Sim.dK (s : Sim K ω S H) {n : Nat} {a : Addr} {xs : List (Key × D)} (hn : S[n]? = some (.dK xs)) (ha : ω.ρ[n]? = some a) : ∃ vs, H a = some (.dK vs) ∧ RelKs K ω H xs vs := s.cell n _ a hn ha
end

/-- the most items of one sequence -/
abbrev line : Nat := 16777216
theorem line_eq : line = sizeLine := sizeLine_eq.symm
theorem line_le {n : Nat} (h : n ≤ line) : n ≤ sizeLine := by rw [sizeLine_eq]; exact h
theorem line_lt {n : Nat} (h : n < line) : n < sizeLine := by rw [sizeLine_eq]; exact h
/-- the list at a place -/
def lstAt (S : Mem) (n : Nat) : Option (List D) := match S[n]? with
  | some (.lst xs) => some xs
  | _ => none
theorem lstAt_eq {S : Mem} {n : Nat} {xs : List D} (h : lstAt S n = some xs) : S[n]? = some (.lst xs) := by
  unfold lstAt at h
  split at h
  · rename_i ys e
    rw [e]; cases h; rfl
  · cases h

/-! ### + - * // % ** -/
def fAdd : D → D → Mem → Option (D × Mem)
  | .int i, .int j, S => some (.int (i + j), S)
  | .str x, .str y, S => if x.length + y.length ≤ line then some (.str (x ++ y), S) else none
  | .tup xs, .tup ys, S => if xs.length + ys.length ≤ line then some (.tup (xs ++ ys), S) else none
  | .ref n, .ref m, S => match lstAt S n, lstAt S m with
    | some xs, some ys => if xs.length + ys.length ≤ line then some (.ref S.length, S ++ [.lst (xs ++ ys)]) else none
    | _, _ => none
  | _, _, _ => none
def fSub : D → D → Mem → Option (D × Mem)
  | .int i, .int j, S => some (.int (i - j), S)
  | _, _, _ => none
def mulOk (i j : Int) : Bool := decide (i.natAbs < 18446744073709551616) || decide (j.natAbs < 18446744073709551616)
def fMul : D → D → Mem → Option (D × Mem)
  | .int i, .int j, S => if mulOk i j = true then some (.int (i * j), S) else none
  | .str x, .int j, S => if 0 ≤ j ∧ j ≤ 1000000 ∧ x.length ≤ 1000000 ∧ x.length * j.toNat ≤ line then some (.str (List.replicate j.toNat x).flatten, S) else none
  | .ref n, .int j, S => match lstAt S n with
    | some xs => if 0 ≤ j ∧ j ≤ 1000000 ∧ xs.length * j.toNat ≤ line then some (.ref S.length, S ++ [.lst (List.replicate j.toNat xs).flatten]) else none
    | _ => none
  | _, _, _ => none
def fDiv : D → D → Mem → Option (D × Mem)
  | .int i, .int j, S => if 0 < j ∧ j.natAbs.log2 < 9000 then some (.int (i / j), S) else none
  | _, _, _ => none
def fMod : D → D → Mem → Option (D × Mem)
  | .int i, .int j, S => if 0 < j then some (.int (i % j), S) else none
  | _, _, _ => none
def fPow : D → D → Mem → Option (D × Mem)
  | .int i, .int j, S => if 0 ≤ j ∧ (i.natAbs.log2 + 1) * j.toNat ≤ 1000000 then some (.int (i ^ j.toNat), S) else none
  | _, _, _ => none
def fNeg : D → Mem → Option (D × Mem)
  | .int i, S => some (.int (-i), S)
  | _, _ => none
theorem strApp (x y : List Nat) : (⟨x.toArray⟩ : Str) ++ ⟨y.toArray⟩ = ⟨(x ++ y).toArray⟩ := by
  show (⟨x.toArray ++ y.toArray⟩ : Str) = _
  simp
theorem strLen (x : List Nat) : (⟨x.toArray⟩ : Str).length = x.length := by
  show x.toArray.size = x.length
  simp
section
variable {X : Cx}
theorem up_add : OpR X (binaryOp .Add) (rU2 X.K fAdd) := by
  intro pins s σ H x y v u Q I rx ry h
  obtain ⟨ω, S, a, b, hS, ra, rb, q⟩ := h
  cases a <;> cases b <;> first | exact q.elim | skip
  · cases ra
    cases rb
    exact op_add pins s σ H _ _ v u Q I rx ry ⟨_, _, rfl, rfl, q.give hS (.int _)⟩
  · rename_i c1 c2
    cases ra
    cases rb
    have q' : PostO (RelD X.K) X.K ω H (if c1.length + c2.length ≤ line then some (.str (c1 ++ c2), S) else none) Q := q
    by_cases hl : c1.length + c2.length ≤ line
    · rw [if_pos hl] at q'
      exact op_add_str pins s σ H _ _ v u Q I rx ry ⟨_, _, rfl, rfl, by rw [strLen, strLen]; exact line_le hl, by rw [strApp]; exact q'.give hS (.str _)⟩
    · rw [if_neg hl] at q'; exact q'.elim
  · rename_i c1 c2
    cases ra with
    | tup t1 d1 =>
      cases rb with
      | tup t2 d2 =>
        have q' : PostO (RelD X.K) X.K ω H (if c1.length + c2.length ≤ line then some (.tup (c1 ++ c2), S) else none) Q := q
        by_cases hl : c1.length + c2.length ≤ line
        · rw [if_pos hl] at q'
          refine op_catA pins s σ H _ _ v u Q I rx ry ⟨_, _, _, _, rfl, rfl, t1, t2, by rw [← d1.length, ← d2.length]; exact line_le hl, fun e => ?_, fun e1 e2 => ?_, fun e1 e2 p hp => ?_⟩
          · subst e
            cases c1 with
            | nil => exact q'.give hS (.tup t2 d2)
            | cons _ _ => cases d1
          · subst e2
            cases c2 with
            | nil =>
              rw [List.append_nil] at q'
              exact q'.give hS (.tup t1 d1)
            | cons _ _ => cases d2
          · exact q'.newTup hS (d1.append d2) hp
        · rw [if_neg hl] at q'; exact q'.elim
  · rename_i n m
    cases ra with
    | ref a1 =>
      cases rb with
      | ref a2 =>
        have q' : PostO (RelD X.K) X.K ω H (match lstAt S n, lstAt S m with
          | some xs, some ys => if xs.length + ys.length ≤ line then some (.ref S.length, S ++ [.lst (xs ++ ys)]) else none
          | _, _ => none) Q := q
        cases e1 : lstAt S n with
        | none => rw [e1] at q'; exact q'.elim
        | some xs =>
          cases e2 : lstAt S m with
          | none => rw [e1, e2] at q'; exact q'.elim
          | some ys =>
            rw [e1, e2] at q'
            dsimp only at q'
            by_cases hl : xs.length + ys.length ≤ line
            · rw [if_pos hl] at q'
              obtain ⟨vs, h1, r1⟩ := hS.lst (lstAt_eq e1) a1
              obtain ⟨ws, h2, r2⟩ := hS.lst (lstAt_eq e2) a2
              exact op_cat pins s σ H _ _ v u Q I rx ry ⟨_, _, _, _, rfl, rfl, h1, h2, by rw [← r1.length, ← r2.length]; exact line_le hl, fun p hp => q'.newLst hS (r1.append r2) hp⟩
            · rw [if_neg hl] at q'; exact q'.elim
theorem up_sub : OpR X (binaryOp .Sub) (rU2 X.K fSub) := by
  intro pins s σ H x y v u Q I rx ry h
  obtain ⟨ω, S, a, b, hS, ra, rb, q⟩ := h
  cases a <;> cases b <;> first | exact q.elim | skip
  cases ra
  cases rb
  exact op_sub pins s σ H _ _ v u Q I rx ry ⟨_, _, rfl, rfl, q.give hS (.int _)⟩
theorem mulOk_ok {i j : Int} (h : mulOk i j = true) : CMul i j := by
  unfold mulOk at h
  rw [Bool.or_eq_true] at h
  rcases h with h | h
  · have := of_decide_eq_true h
    exact .inl ⟨by omega, by omega⟩
  · have := of_decide_eq_true h
    exact .inr ⟨by omega, by omega⟩
theorem foldl_codes (x : List Nat) : ∀ (n : Nat) (acc : List Nat), List.foldl (fun a b => a ++ b) acc.toArray (List.replicate n x.toArray) = (acc ++ (List.replicate n x).flatten).toArray
  | 0, acc => by simp
  | n + 1, acc => by
    rw [List.replicate_succ, List.foldl_cons, show acc.toArray ++ x.toArray = (acc ++ x).toArray by simp, foldl_codes x n (acc ++ x), List.replicate_succ, List.flatten_cons, List.append_assoc]
theorem op_mul_str : OpR X (binaryOp .Mult) (fun x y H Q => ∃ (cs : List Nat) (j : Int), x = .str ⟨cs.toArray⟩ ∧ y = .int j ∧ 0 ≤ j ∧ j ≤ 1000000 ∧ cs.length ≤ 1000000 ∧ cs.length * j.toNat ≤ line ∧ Q (.str ⟨(List.replicate j.toNat cs).flatten.toArray⟩) H) := by
  intro pins s σ H x y v u Q I rx ry h
  obtain ⟨cs, j, rfl, rfl, h0, h1, hc, hz, q⟩ := h
  obtain ⟨t, rfl⟩ := rx
  obtain ⟨t', rfl⟩ := ry
  have e0 : decide (j < -(2 ^ 63 : Int)) = false := decide_eq_false (by omega)
  have e1 : decide (j ≥ 2 ^ 63) = false := decide_eq_false (by omega)
  refine PySem.P.mul_str (by rw [e0, e1]; rfl) (fun hn _ => ?_) (fun _ _ => ?_) ?_
  · rw [strLen]
    have h2 : (cs.length : Int) * j ≤ 1000000 * 1000000 := Int.mul_le_mul (by omega) h1 h0 (by decide)
    have h3 : (cs.length : Int) ≤ (2 ^ 63 - 1) / j := (Int.le_ediv_iff_mul_le (by omega)).mpr (by omega)
    omega
  · rw [strLen]
    unfold Builtin.Str.tooLong
    exact decide_eq_false (by have := line_le hz; omega)
  · by_cases hn : j < 1
    · rw [if_pos hn]
      have ej : j.toNat = 0 := by omega
      refine ⟨by decide, ?_⟩
      rw [ej] at q
      exact ⟨.str _, H, I.tok _, ⟨_, rfl⟩, q⟩
    · rw [if_neg hn]
      by_cases hk : (j == 1 || (⟨cs.toArray⟩ : Str).length == 0) = true
      · rw [if_pos hk]
        have e : (List.replicate j.toNat cs).flatten = cs := by
          rw [Bool.or_eq_true] at hk
          rcases hk with hk | hk
          · have ej : j = 1 := eq_of_beq hk
            subst ej
            simp
          · rw [strLen] at hk
            have ec : cs = [] := List.length_eq_zero_iff.mp (eq_of_beq hk)
            subst ec
            simp
        rw [e] at q
        exact ⟨.str _, H, I, ⟨t, rfl⟩, q⟩
      · rw [if_neg hk]
        have e := foldl_codes cs j.toNat []
        have e' : List.foldl (fun a b => a ++ b) #[] (List.replicate j.toNat cs.toArray) = ((List.replicate j.toNat cs).flatten).toArray := by
          rw [List.nil_append] at e
          exact e
        refine ⟨?_, ?_⟩
        · show (List.foldl (fun a b => a ++ b) #[] (List.replicate j.toNat cs.toArray)).size ≤ sizeLine
          rw [e', List.size_toArray, List.length_flatten, List.map_replicate, List.sum_replicate_nat]
          have := line_le hz
          rw [Nat.mul_comm] at this
          exact this
        · show EP X pins σ Q (.str ⟨List.foldl (fun a b => a ++ b) #[] (List.replicate j.toNat cs.toArray)⟩ s.toks) _
          rw [e']
          exact ⟨.str _, H, I.tok _, ⟨_, rfl⟩, q⟩
end
end Mi
namespace Mi
open PySem PySem.Spec PyProof.Rows L2
section
variable {X : Cx}
theorem up_mul : OpR X (binaryOp .Mult) (rU2 X.K fMul) := by
  intro pins s σ H x y v u Q I rx ry h
  obtain ⟨ω, S, a, b, hS, ra, rb, q⟩ := h
  cases a <;> cases b <;> first | exact q.elim | skip
  · rename_i i j
    cases ra
    cases rb
    have q' : PostO (RelD X.K) X.K ω H (if mulOk i j = true then some (.int (i * j), S) else none) Q := q
    by_cases hl : mulOk i j = true
    · rw [if_pos hl] at q'
      exact op_mul pins s σ H _ _ v u Q I rx ry ⟨_, _, rfl, rfl, mulOk_ok hl, q'.give hS (.int _)⟩
    · rw [if_neg hl] at q'; exact q'.elim
  · rename_i cs j
    cases ra
    cases rb
    have q' : PostO (RelD X.K) X.K ω H (if 0 ≤ j ∧ j ≤ 1000000 ∧ cs.length ≤ 1000000 ∧ cs.length * j.toNat ≤ line then some (.str (List.replicate j.toNat cs).flatten, S) else none) Q := q
    by_cases hl : 0 ≤ j ∧ j ≤ 1000000 ∧ cs.length ≤ 1000000 ∧ cs.length * j.toNat ≤ line
    · rw [if_pos hl] at q'
      exact op_mul_str pins s σ H _ _ v u Q I rx ry ⟨cs, j, rfl, rfl, hl.1, hl.2.1, hl.2.2.1, hl.2.2.2, q'.give hS (.str _)⟩
    · rw [if_neg hl] at q'; exact q'.elim
  · rename_i n j
    cases rb
    cases ra with
    | ref a1 =>
      have q' : PostO (RelD X.K) X.K ω H (match lstAt S n with
        | some xs => if 0 ≤ j ∧ j ≤ 1000000 ∧ xs.length * j.toNat ≤ line then some (.ref S.length, S ++ [.lst (List.replicate j.toNat xs).flatten]) else none
        | _ => none) Q := q
      cases e1 : lstAt S n with
      | none => rw [e1] at q'; exact q'.elim
      | some xs =>
        rw [e1] at q'
        dsimp only at q'
        by_cases hl : 0 ≤ j ∧ j ≤ 1000000 ∧ xs.length * j.toNat ≤ line
        · rw [if_pos hl] at q'
          obtain ⟨vs, h1, r1⟩ := hS.lst (lstAt_eq e1) a1
          obtain ⟨g1, g2, g3⟩ := hl
          exact op_rep pins s σ H _ _ v u Q I rx ry ⟨_, _, _, rfl, rfl, h1, by omega, by omega, by rw [← r1.length]; exact line_le g3, fun p hp => q'.newLst hS (r1.rep _) hp⟩
        · rw [if_neg hl] at q'; exact q'.elim
theorem up_div : OpR X (binaryOp .FloorDiv) (rU2 X.K fDiv) := by
  intro pins s σ H x y v u Q I rx ry h
  obtain ⟨ω, S, a, b, hS, ra, rb, q⟩ := h
  cases a <;> cases b <;> first | exact q.elim | skip
  rename_i i j
  cases ra
  cases rb
  have q' : PostO (RelD X.K) X.K ω H (if 0 < j ∧ j.natAbs.log2 < 9000 then some (.int (i / j), S) else none) Q := q
  by_cases hl : 0 < j ∧ j.natAbs.log2 < 9000
  · rw [if_pos hl] at q'
    exact op_fdivW pins s σ H _ _ v u Q I rx ry ⟨_, _, rfl, rfl, hl, q'.give hS (.int _)⟩
  · rw [if_neg hl] at q'; exact q'.elim
theorem up_mod : OpR X (binaryOp .Mod) (rU2 X.K fMod) := by
  intro pins s σ H x y v u Q I rx ry h
  obtain ⟨ω, S, a, b, hS, ra, rb, q⟩ := h
  cases a <;> cases b <;> first | exact q.elim | skip
  rename_i i j
  cases ra
  cases rb
  have q' : PostO (RelD X.K) X.K ω H (if 0 < j then some (.int (i % j), S) else none) Q := q
  by_cases hl : 0 < j
  · rw [if_pos hl] at q'
    exact op_mod pins s σ H _ _ v u Q I rx ry ⟨_, _, rfl, rfl, hl, q'.give hS (.int _)⟩
  · rw [if_neg hl] at q'; exact q'.elim
theorem op_powW : OpR X (binaryOp .Pow) (rI (fun i j => 0 ≤ j ∧ (i.natAbs.log2 + 1) * j.toNat ≤ 1000000) fun i j => .int (i ^ j.toNat)) := opI fun i j _ _ _ _ _ hc q => by
  refine pow_int hc.1 ?_ q
  have h1 : Builtin.Int.intBits i ≤ i.natAbs.log2 + 1 := by
    unfold Builtin.Int.intBits
    split <;> omega
  have h2 : Builtin.Int.intBits i * j.toNat ≤ 1000000 := Nat.le_trans (Nat.mul_le_mul_right _ h1) hc.2
  have h3 : ((Builtin.Int.intBits i * j.toNat : Nat) : Int) = (Builtin.Int.intBits i : Int) * j := by
    rw [Int.natCast_mul, Int.toNat_of_nonneg hc.1]
  have h4 : ((Builtin.Int.intBits i * j.toNat : Nat) : Int) ≤ 1000000 := by omega
  rw [← h3]
  exact Int.le_trans h4 (by decide)
theorem up_pow : OpR X (binaryOp .Pow) (rU2 X.K fPow) := by
  intro pins s σ H x y v u Q I rx ry h
  obtain ⟨ω, S, a, b, hS, ra, rb, q⟩ := h
  cases a <;> cases b <;> first | exact q.elim | skip
  rename_i i j
  cases ra
  cases rb
  have q' : PostO (RelD X.K) X.K ω H (if 0 ≤ j ∧ (i.natAbs.log2 + 1) * j.toNat ≤ 1000000 then some (.int (i ^ j.toNat), S) else none) Q := q
  by_cases hl : 0 ≤ j ∧ (i.natAbs.log2 + 1) * j.toNat ≤ 1000000
  · rw [if_pos hl] at q'
    exact op_powW pins s σ H _ _ v u Q I rx ry ⟨_, _, rfl, rfl, hl, q'.give hS (.int _)⟩
  · rw [if_neg hl] at q'; exact q'.elim
theorem up_neg : UnR X (unaryOp .USub) (rU1 X.K fNeg) := by
  intro pins s σ H x v Q I rx h
  obtain ⟨ω, S, a, hS, ra, q⟩ := h
  cases a <;> first | exact q.elim | skip
  cases ra
  exact un_neg pins s σ H _ v Q I rx ⟨_, rfl, q.give hS (.int _)⟩
end

/-! ### == != < <= > >= in is -/
def mapO {α β : Type} (f : α → Option β) : List α → Option (List β)
  | [] => some []
  | x :: xs => match f x with
    | some y => match mapO f xs with
      | some ys => some (y :: ys)
      | none => none
    | none => none
/-- plain data as data to compare -/
def toPy (S : Mem) : Nat → D → Option PyData
  | 0, _ => none
  | k + 1, d => match d with
    | .non => some .none
    | .bl b => some (.bool b)
    | .int i => some (.int i)
    | .str cs => if PyData.strOk ⟨cs.toArray⟩ = true then some (.str ⟨cs.toArray⟩) else none
    | .tup xs => match mapO (toPy S k) xs with
      | some ds => some (.tuple ds)
      | none => none
    | .fl xs => match mapO (toPy S k) xs with
      | some ds => some (.list ds)
      | none => none
    | .ref n => match lstAt S n with
      | some xs => match mapO (toPy S k) xs with
        | some ds => some (.list ds)
        | none => none
      | none => none
    | .gl _ => none
    | .ty _ => none
    | .obj _ _ => none
def eqB (S : Mem) (a b : D) : Option Bool := match a, b with
  | .int i, .int j => some (decide (i = j))
  | .str x, .str y => some (decide (x = y))
  | a, b => match toPy S 60 a, toPy S 60 b with
    | some d, some e => some (PyData.eqv d e)
    | _, _ => none
def boolO (o : Option Bool) (S : Mem) : Option (D × Mem) := match o with
  | some b => some (.bl b, S)
  | none => none
def fEq (a b : D) (S : Mem) : Option (D × Mem) := boolO (eqB S a b) S
def fNe (a b : D) (S : Mem) : Option (D × Mem) := boolO ((eqB S a b).map not) S
end Mi
namespace Mi
open PySem PySem.Spec PyProof.Rows L2
section
variable {K : PySem.W.Frag} {ω : Wo} {H : Hp} {S : Mem}
theorem toPys_ok {k : Nat} (ih : ∀ (d : D) (v : V) (p : PyData), RelD K ω H d v → toPy S k d = some p → Dp K H v p ∧ PyData.canLay0 p = true ∧ PyData.depth p ≤ k) :
    ∀ (ds : List D) (vs : List V) (ps : List PyData), RelDs K ω H ds vs → mapO (toPy S k) ds = some ps → DpAll K H vs ps ∧ PyData.canLayAll0 ps = true ∧ PyData.depthAll ps ≤ k
  | [], vs, ps, r, h => by
    cases r
    cases h
    exact ⟨.nil, rfl, Nat.zero_le _⟩
  | d :: ds, vs, ps, r, h => by
    cases r with
    | cons r1 r2 =>
      unfold mapO at h
      cases e1 : toPy S k d with
      | none => rw [e1] at h; cases h
      | some p =>
        cases e2 : mapO (toPy S k) ds with
        | none => rw [e1, e2] at h; cases h
        | some qs =>
          rw [e1, e2] at h
          cases h
          obtain ⟨h1, h2, h3⟩ := ih d _ p r1 e1
          obtain ⟨g1, g2, g3⟩ := toPys_ok ih ds _ qs r2 e2
          exact ⟨.cons h1 g1, by show (PyData.canLay0 p && PyData.canLayAll0 qs) = true; rw [h2, g2]; rfl, by show max (PyData.depth p) (PyData.depthAll qs) ≤ k; omega⟩
theorem toPy_ok (s : Sim K ω S H) : ∀ (k : Nat) (d : D) (v : V) (p : PyData), RelD K ω H d v → toPy S k d = some p → Dp K H v p ∧ PyData.canLay0 p = true ∧ PyData.depth p ≤ k
  | 0, _, _, _, _, h => by cases h
  | k + 1, d, v, p, r, h => by
    have ih := toPy_ok s k
    cases d with
    | non => cases r; cases h; exact ⟨.non, rfl, Nat.zero_le _⟩
    | bl b => cases r; cases h; exact ⟨.bl b, rfl, Nat.zero_le _⟩
    | int i => cases r; cases h; exact ⟨.int i, rfl, Nat.zero_le _⟩
    | str cs =>
      cases r
      have h' : (if PyData.strOk ⟨cs.toArray⟩ = true then some (PyData.str ⟨cs.toArray⟩) else none) = some p := h
      by_cases hc : PyData.strOk ⟨cs.toArray⟩ = true
      · rw [if_pos hc] at h'; cases h'; exact ⟨.str _, hc, Nat.zero_le _⟩
      · rw [if_neg hc] at h'; cases h'
    | tup xs =>
      cases r with
      | tup t1 r1 =>
        have h' : (match mapO (toPy S k) xs with | some ds => some (PyData.tuple ds) | none => none) = some p := h
        cases e : mapO (toPy S k) xs with
        | none => rw [e] at h'; cases h'
        | some ps =>
          rw [e] at h'; cases h'
          obtain ⟨g1, g2, g3⟩ := toPys_ok ih xs _ ps r1 e
          exact ⟨.tup t1 g1, g2, Nat.succ_le_succ g3⟩
    | fl xs =>
      cases r with
      | fl t1 r1 =>
        have h' : (match mapO (toPy S k) xs with | some ds => some (PyData.list ds) | none => none) = some p := h
        cases e : mapO (toPy S k) xs with
        | none => rw [e] at h'; cases h'
        | some ps =>
          rw [e] at h'; cases h'
          obtain ⟨g1, g2, g3⟩ := toPys_ok ih xs _ ps r1 e
          exact ⟨.lst t1.seq g1, g2, Nat.succ_le_succ g3⟩
    | ref n =>
      cases r with
      | ref ha =>
        have h' : (match lstAt S n with
          | some xs => (match mapO (toPy S k) xs with | some ds => some (PyData.list ds) | none => none)
          | none => none) = some p := h
        cases e1 : lstAt S n with
        | none => rw [e1] at h'; cases h'
        | some xs =>
          rw [e1] at h'
          dsimp only at h'
          obtain ⟨vs, hv, r1⟩ := s.lst (lstAt_eq e1) ha
          cases e : mapO (toPy S k) xs with
          | none => rw [e] at h'; cases h'
          | some ps =>
            rw [e] at h'; cases h'
            obtain ⟨g1, g2, g3⟩ := toPys_ok ih xs _ ps r1 e
            exact ⟨.lst (SqL.of hv) g1, g2, Nat.succ_le_succ g3⟩
    | gl x => cases h
    | ty x => cases h
    | obj c fs => cases h
theorem toPy_shaped (s : Sim K ω S H) {d : D} {v : V} {p : PyData} (r : RelD K ω H d v) (h : toPy S 60 d = some p) : Dp K H v p ∧ SeqAt.shaped p = true := by
  obtain ⟨h1, h2, h3⟩ := toPy_ok s 60 d v p r h
  refine ⟨h1, ?_⟩
  unfold SeqAt.shaped
  rw [h2, decide_eq_true (by omega)]
  rfl
end
section
variable {X : Cx}
/-- how eqB comes about -/
theorem eqB_cases {S : Mem} {a b : D} {r : Bool} (h : eqB S a b = some r) : (∃ i j, a = .int i ∧ b = .int j ∧ r = decide (i = j)) ∨ (∃ x y, a = .str x ∧ b = .str y ∧ r = decide (x = y)) ∨
    ∃ d e, toPy S 60 a = some d ∧ toPy S 60 b = some e ∧ r = PyData.eqv d e := by
  unfold eqB at h
  split at h
  · exact .inl ⟨_, _, rfl, rfl, (Option.some.inj h).symm⟩
  · exact .inr (.inl ⟨_, _, rfl, rfl, (Option.some.inj h).symm⟩)
  · split at h
    · rename_i d e h1 h2
      exact .inr (.inr ⟨d, e, h1, h2, (Option.some.inj h).symm⟩)
    · cases h
theorem strEq (x y : List Nat) : decide ((V.str ⟨x.toArray⟩ : V) = V.str ⟨y.toArray⟩) = decide (x = y) := by
  by_cases h : x = y
  · subst h; simp
  · rw [decide_eq_false h]
    exact decide_eq_false fun e => h (by simpa using e)
theorem intEq (i j : Int) : decide ((V.int i : V) = V.int j) = decide (i = j) := by
  by_cases h : i = j
  · subst h; simp
  · rw [decide_eq_false h]
    exact decide_eq_false fun e => h (by simpa using e)
theorem up_eq (hu : X.A.units + 64 < cLine) : OpR X (compareOp .Eq) (rU2 X.K fEq) := by
  intro pins s σ H x y v u Q I rx ry h
  obtain ⟨ω, S, a, b, hS, ra, rb, q⟩ := h
  have q' : PostO (RelD X.K) X.K ω H (boolO (eqB S a b) S) Q := q
  cases e : eqB S a b with
  | none => rw [e] at q'; exact q'.elim
  | some r =>
    rw [e] at q'
    have fin := q'.give hS (.bl r)
    rcases eqB_cases e with ⟨i, j, rfl, rfl, rfl⟩ | ⟨c1, c2, rfl, rfl, rfl⟩ | ⟨d, e', h1, h2, rfl⟩
    · cases ra
      cases rb
      exact op_eq pins s σ H _ _ v u Q I rx ry ⟨rfl, by rw [intEq]; exact fin⟩
    · cases ra
      cases rb
      exact op_eq pins s σ H _ _ v u Q I rx ry ⟨rfl, by rw [strEq]; exact fin⟩
    · obtain ⟨p1, p2⟩ := toPy_shaped hS ra h1
      obtain ⟨p3, p4⟩ := toPy_shaped hS rb h2
      exact op_eqD hu pins s σ H _ _ v u Q I rx ry ⟨d, e', p1, p3, p2, p4, fin⟩
theorem up_ne (hu : X.A.units + 64 < cLine) : OpR X (compareOp .NotEq) (rU2 X.K fNe) := by
  intro pins s σ H x y v u Q I rx ry h
  obtain ⟨ω, S, a, b, hS, ra, rb, q⟩ := h
  have q' : PostO (RelD X.K) X.K ω H (boolO ((eqB S a b).map not) S) Q := q
  cases e : eqB S a b with
  | none => rw [e] at q'; exact q'.elim
  | some r =>
    rw [e] at q'
    have fin := q'.give hS (.bl (!r))
    rcases eqB_cases e with ⟨i, j, rfl, rfl, rfl⟩ | ⟨c1, c2, rfl, rfl, rfl⟩ | ⟨d, e', h1, h2, rfl⟩
    · cases ra
      cases rb
      exact op_ne pins s σ H _ _ v u Q I rx ry ⟨rfl, by rw [intEq]; exact fin⟩
    · cases ra
      cases rb
      exact op_ne pins s σ H _ _ v u Q I rx ry ⟨rfl, by rw [strEq]; exact fin⟩
    · obtain ⟨p1, p2⟩ := toPy_shaped hS ra h1
      obtain ⟨p3, p4⟩ := toPy_shaped hS rb h2
      exact op_neD hu pins s σ H _ _ v u Q I rx ry ⟨d, e', p1, p3, p2, p4, fin⟩
end

/-- whole numbers of a list -/
def intsD : List D → Option (List Int)
  | [] => some []
  | .int i :: r => match intsD r with
    | some is => some (i :: is)
    | none => none
  | _ :: _ => none
theorem intsD_eq : ∀ {ds : List D} {is : List Int}, intsD ds = some is → ds = is.map D.int
  | [], is, h => by cases h; rfl
  | d :: r, is, h => by
    unfold intsD at h
    split at h
    · cases h; rename_i e; cases e
    · rename_i i r' e
      cases e
      split at h
      · rename_i is' e'
        cases h
        rw [intsD_eq e']; rfl
      · cases h
    · cases h
def boolsD : List D → Option (List Bool)
  | [] => some []
  | .bl i :: r => match boolsD r with
    | some is => some (i :: is)
    | none => none
  | _ :: _ => none
theorem boolsD_eq : ∀ {ds : List D} {is : List Bool}, boolsD ds = some is → ds = is.map D.bl
  | [], is, h => by cases h; rfl
  | d :: r, is, h => by
    unfold boolsD at h
    split at h
    · cases h; rename_i e; cases e
    · rename_i i r' e
      cases e
      split at h
      · rename_i is' e'
        cases h
        rw [boolsD_eq e']; rfl
      · cases h
    · cases h
def strsD : List D → Option (List (List Nat))
  | [] => some []
  | .str i :: r => match strsD r with
    | some is => some (i :: is)
    | none => none
  | _ :: _ => none
theorem strsD_eq : ∀ {ds : List D} {is : List (List Nat)}, strsD ds = some is → ds = is.map D.str
  | [], is, h => by cases h; rfl
  | d :: r, is, h => by
    unfold strsD at h
    split at h
    · cases h; rename_i e; cases e
    · rename_i i r' e
      cases e
      split at h
      · rename_i is' e'
        cases h
        rw [strsD_eq e']; rfl
      · cases h
    · cases h
def ltB (a b : D) : Option Bool := match a, b with
  | .int i, .int j => some (decide (i < j))
  | .tup xs, .tup ys => match intsD xs, intsD ys with
    | some is, some js => some (HT.lexLt is js)
    | _, _ => none
  | _, _ => none
def fLt (a b : D) (S : Mem) : Option (D × Mem) := boolO (ltB a b) S
def fLe : D → D → Mem → Option (D × Mem)
  | .int i, .int j, S => some (.bl (decide (i ≤ j)), S)
  | _, _, _ => none
def fGt : D → D → Mem → Option (D × Mem)
  | .int i, .int j, S => some (.bl (decide (j < i)), S)
  | _, _, _ => none
def fGe : D → D → Mem → Option (D × Mem)
  | .int i, .int j, S => some (.bl (decide (j ≤ i)), S)
  | _, _, _ => none
def flatD : D → Bool
  | .non => true
  | .bl _ => true
  | .int _ => true
  | .str _ => true
  | _ => false
def eqF : D → D → Bool
  | .non, .non => true
  | .bl a, .bl b => a == b
  | .bl a, .int b => (if a then 1 else 0) == b
  | .int a, .bl b => a == (if b then 1 else 0)
  | .int a, .int b => a == b
  | .str a, .str b => a == b
  | _, _ => false
/-- x in xs, flat items -/
def inF (x : D) (xs : List D) : Option Bool := if flatD x = true ∧ xs.all flatD = true then some (xs.any fun y => eqF y x) else none
/-- the items of a sequence -/
def seqOf (S : Mem) : D → Option (List D)
  | .tup xs => some xs
  | .fl xs => some xs
  | .ref n => lstAt S n
  | _ => none
def inB (S : Mem) (x y : D) : Option Bool := match y with
  | .str cs => match x with
    | .str [c] => some (decide (c ∈ cs))
    | _ => none
  | y => match seqOf S y with
    | some xs => inF x xs
    | none => none
def fIn (x y : D) (S : Mem) : Option (D × Mem) := boolO (inB S x y) S
def fNin (x y : D) (S : Mem) : Option (D × Mem) := boolO ((inB S x y).map not) S
def isNon : D → Bool
  | .non => true
  | _ => false
def isB (a b : D) : Option Bool := match a, b with
  | a, .non => some (isNon a)
  | .bl a, .bl b => some (decide (a = b))
  | _, _ => none
def fIs (a b : D) (S : Mem) : Option (D × Mem) := boolO (isB a b) S
def fIsn (a b : D) (S : Mem) : Option (D × Mem) := boolO ((isB a b).map not) S
section
variable {X : Cx} {K : PySem.W.Frag} {ω : Wo} {H : Hp} {S : Mem}
theorem seqOf_ok (s : Sim K ω S H) {d : D} {v : V} {xs : List D} (r : RelD K ω H d v) (h : seqOf S d = some xs) : ∃ a vs, v = .ref a ∧ (SqL K H a vs ∨ SqT K H a vs) ∧ RelDs K ω H xs vs := by
  cases d <;> first | (cases h; done) | skip
  · cases h
    cases r with
    | tup t r1 => exact ⟨_, _, rfl, .inr t, r1⟩
  · cases h
    cases r with
    | fl t r1 => exact ⟨_, _, rfl, .inl t.seq, r1⟩
  · cases r with
    | ref ha =>
      obtain ⟨vs, h1, r1⟩ := s.lst (lstAt_eq h) ha
      exact ⟨_, _, rfl, .inl (SqL.of h1), r1⟩
theorem flat_ok {d : D} {v : V} (r : RelD K ω H d v) (h : flatD d = true) : flatV v = true := by
  cases d <;> first | (cases h; done) | (cases r; rfl)
theorem flats_ok : ∀ {ds : List D} {vs : List V}, RelDs K ω H ds vs → ds.all flatD = true → vs.all flatV = true
  | [], _, r, _ => by cases r; rfl
  | d :: ds, _, r, h => by
    cases r with
    | cons r1 r2 =>
      rw [List.all_cons, Bool.and_eq_true] at h
      rw [List.all_cons, flat_ok r1 h.1, flats_ok r2 h.2]
      rfl
theorem str_beq (x y : List Nat) : ((⟨x.toArray⟩ : Str) == ⟨y.toArray⟩) = (x == y) := by
  rw [Bool.eq_iff_iff]
  simp
theorem eqF_ok {a b : D} {x y : V} (ra : RelD K ω H a x) (rb : RelD K ω H b y) (fa : flatD a = true) (fb : flatD b = true) : eqV x y = eqF a b := by
  cases a <;> first | (cases fa; done) | skip
  all_goals cases b <;> first | (cases fb; done) | skip
  all_goals (cases ra; cases rb; first | rfl | exact str_beq _ _)
theorem inV_ok {x : D} {v : V} (r : RelD K ω H x v) (f : flatD x = true) : ∀ {ds : List D} {vs : List V}, RelDs K ω H ds vs → ds.all flatD = true → inV v vs = ds.any fun y => eqF y x
  | [], _, rs, _ => by cases rs; rfl
  | d :: ds, _, rs, h => by
    cases rs with
    | cons r1 r2 =>
      rw [List.all_cons, Bool.and_eq_true] at h
      have ih := inV_ok r f r2 h.2
      unfold inV at ih ⊢
      rw [List.any_cons, List.any_cons, ih, eqF_ok r1 r h.1 f]
theorem up_lt (hu : X.A.units < cLine) : OpR X (compareOp .Lt) (rU2 X.K fLt) := by
  intro pins s σ H x y v u Q I rx ry h
  obtain ⟨ω, S, a, b, hS, ra, rb, q⟩ := h
  have q' : PostO (RelD X.K) X.K ω H (boolO (ltB a b) S) Q := q
  cases e : ltB a b with
  | none => rw [e] at q'; exact q'.elim
  | some r =>
    rw [e] at q'
    have fin := q'.give hS (.bl r)
    unfold ltB at e
    split at e
    · cases ra
      cases rb
      cases e
      exact op_lt pins s σ H _ _ v u Q I rx ry ⟨_, _, rfl, rfl, fin⟩
    · split at e
      · rename_i is js e1 e2
        cases e
        have f1 := intsD_eq e1
        have f2 := intsD_eq e2
        subst f1 f2
        cases ra with
        | tup t1 r1 =>
          cases rb with
          | tup t2 r2 =>
            have g1 := r1.ints
            have g2 := r2.ints
            subst g1 g2
            exact op_ltT hu pins s σ H _ _ v u Q I rx ry ⟨_, _, is, js, rfl, rfl, t1, t2, fin⟩
      · cases e
    · cases e
theorem up_le : OpR X (compareOp .LtE) (rU2 X.K fLe) := by
  intro pins s σ H x y v u Q I rx ry h
  obtain ⟨ω, S, a, b, hS, ra, rb, q⟩ := h
  cases a <;> cases b <;> first | exact q.elim | skip
  cases ra
  cases rb
  exact op_le pins s σ H _ _ v u Q I rx ry ⟨_, _, rfl, rfl, q.give hS (.bl _)⟩
theorem up_gt : OpR X (compareOp .Gt) (rU2 X.K fGt) := by
  intro pins s σ H x y v u Q I rx ry h
  obtain ⟨ω, S, a, b, hS, ra, rb, q⟩ := h
  cases a <;> cases b <;> first | exact q.elim | skip
  cases ra
  cases rb
  exact op_gt pins s σ H _ _ v u Q I rx ry ⟨_, _, rfl, rfl, q.give hS (.bl _)⟩
theorem up_ge : OpR X (compareOp .GtE) (rU2 X.K fGe) := by
  intro pins s σ H x y v u Q I rx ry h
  obtain ⟨ω, S, a, b, hS, ra, rb, q⟩ := h
  cases a <;> cases b <;> first | exact q.elim | skip
  cases ra
  cases rb
  exact op_ge pins s σ H _ _ v u Q I rx ry ⟨_, _, rfl, rfl, q.give hS (.bl _)⟩
/-- how inB comes about -/
theorem inB_cases {x y : D} {r : Bool} (h : inB S x y = some r) : (∃ c cs, x = .str [c] ∧ y = .str cs ∧ r = decide (c ∈ cs)) ∨ ∃ xs, seqOf S y = some xs ∧ flatD x = true ∧ xs.all flatD = true ∧ r = xs.any fun y => eqF y x := by
  unfold inB at h
  split at h
  · split at h
    · exact .inl ⟨_, _, rfl, rfl, (Option.some.inj h).symm⟩
    · cases h
  · split at h
    · rename_i xs e
      unfold inF at h
      split at h
      · rename_i hc
        exact .inr ⟨xs, e, hc.1, hc.2, (Option.some.inj h).symm⟩
      · cases h
    · cases h
theorem up_in : OpR X (compareOp .In) (rU2 X.K fIn) := by
  intro pins s σ H x y v u Q I rx ry h
  obtain ⟨ω, S, a, b, hS, ra, rb, q⟩ := h
  have q' : PostO (RelD X.K) X.K ω H (boolO (inB S a b) S) Q := q
  cases e : inB S a b with
  | none => rw [e] at q'; exact q'.elim
  | some r =>
    rw [e] at q'
    have fin := q'.give hS (.bl r)
    rcases inB_cases e with ⟨c, cs, rfl, rfl, rfl⟩ | ⟨xs, h1, h2, h3, rfl⟩
    · cases ra
      cases rb
      exact op_in_sign pins s σ H _ _ v u Q I rx ry ⟨c, ⟨cs.toArray⟩, rfl, rfl, by simpa using fin⟩
    · obtain ⟨p, vs, rfl, hq, rs⟩ := seqOf_ok hS rb h1
      exact op_in_seq pins s σ H _ _ v u Q I rx ry ⟨p, vs, rfl, hq, flat_ok ra h2, flats_ok rs h3, by rw [if_neg Bool.false_ne_true, inV_ok ra h2 rs h3]; exact fin⟩
theorem up_nin : OpR X (compareOp .NotIn) (rU2 X.K fNin) := by
  intro pins s σ H x y v u Q I rx ry h
  obtain ⟨ω, S, a, b, hS, ra, rb, q⟩ := h
  have q' : PostO (RelD X.K) X.K ω H (boolO ((inB S a b).map not) S) Q := q
  cases e : inB S a b with
  | none => rw [e] at q'; exact q'.elim
  | some r =>
    rw [e] at q'
    have fin := q'.give hS (.bl (!r))
    rcases inB_cases e with ⟨c, cs, rfl, rfl, rfl⟩ | ⟨xs, h1, h2, h3, rfl⟩
    · cases ra
      cases rb
      exact op_notIn_sign pins s σ H _ _ v u Q I rx ry ⟨c, ⟨cs.toArray⟩, rfl, rfl, by simpa using fin⟩
    · obtain ⟨p, vs, rfl, hq, rs⟩ := seqOf_ok hS rb h1
      exact op_notIn_seq pins s σ H _ _ v u Q I rx ry ⟨p, vs, rfl, hq, flat_ok ra h2, flats_ok rs h3, by rw [if_pos rfl, inV_ok ra h2 rs h3]; exact fin⟩
theorem isB_cases {a b : D} {r : Bool} (h : isB a b = some r) : (b = .non ∧ r = isNon a) ∨ ∃ p q, a = .bl p ∧ b = .bl q ∧ r = decide (p = q) := by
  unfold isB at h
  split at h
  · exact .inl ⟨rfl, (Option.some.inj h).symm⟩
  · exact .inr ⟨_, _, rfl, rfl, (Option.some.inj h).symm⟩
  · cases h
theorem isnon {a : D} {x : V} (r : RelD K ω H a x) : decide (x = V.non) = isNon a := by
  cases r <;> rfl
theorem up_is : OpR X (compareOp .Is) (rU2 X.K fIs) := by
  intro pins s σ H x y v u Q I rx ry h
  obtain ⟨ω, S, a, b, hS, ra, rb, q⟩ := h
  have q' : PostO (RelD X.K) X.K ω H (boolO (isB a b) S) Q := q
  cases e : isB a b with
  | none => rw [e] at q'; exact q'.elim
  | some r =>
    rw [e] at q'
    have fin := q'.give hS (.bl r)
    rcases isB_cases e with ⟨rfl, rfl⟩ | ⟨p, w, rfl, rfl, rfl⟩
    · cases rb
      exact op_isN pins s σ H _ _ v u Q I rx ry ⟨rfl, by rw [isnon ra]; exact fin⟩
    · cases ra
      cases rb
      exact op_is_bl pins s σ H _ _ v u Q I rx ry ⟨_, _, rfl, rfl, fin⟩
theorem up_isn : OpR X (compareOp .IsNot) (rU2 X.K fIsn) := by
  intro pins s σ H x y v u Q I rx ry h
  obtain ⟨ω, S, a, b, hS, ra, rb, q⟩ := h
  have q' : PostO (RelD X.K) X.K ω H (boolO ((isB a b).map not) S) Q := q
  cases e : isB a b with
  | none => rw [e] at q'; exact q'.elim
  | some r =>
    rw [e] at q'
    have fin := q'.give hS (.bl (!r))
    rcases isB_cases e with ⟨rfl, rfl⟩ | ⟨p, w, rfl, rfl, rfl⟩
    · cases rb
      exact op_notN pins s σ H _ _ v u Q I rx ry ⟨rfl, by rw [isnon ra]; exact fin⟩
    · cases ra
      cases rb
      exact op_isnot_bl pins s σ H _ _ v u Q I rx ry ⟨_, _, rfl, rfl, fin⟩
end
end Mi

set_option Elab.async false
set_option linter.all false
set_option maxRecDepth 100000
set_option maxHeartbeats 4000000
/-! MiC: subscripts, slices, built-in functions, methods on plain data -/
namespace Mi
open PySem PySem.Spec PyProof.Rows L2

/-! ### subscripts -/
def fIx : D → D → Mem → Option (D × Mem)
  | .str cs, .int i, S => if cs.length ≤ line then (match atI cs i with
    | some c => some (.str [c], S)
    | none => none) else none
  | x, .int i, S => match seqOf S x with
    | some xs => (match atI xs i with
      | some d => some (d, S)
      | none => none)
    | none => none
  | _, _, _ => none
section
variable {X : Cx} {K : PySem.W.Frag} {ω : Wo} {H : Hp} {S : Mem}
theorem RelDs.atI {xs : List D} {vs : List V} {i : Int} {d : D} (r : RelDs K ω H xs vs) (h : atI xs i = some d) : ∃ v, L2.atI vs i = some v ∧ RelD K ω H d v := by
  unfold L2.atI at h ⊢
  rw [← r.length]
  cases e : ixN xs.length i with
  | none => rw [e] at h; cases h
  | some j =>
    rw [e] at h
    exact r.get h
theorem fIx_seq {x : D} {i : Int} {p : D × Mem} (hx : ∀ cs, x ≠ .str cs) (h : fIx x (.int i) S = some p) : ∃ xs d, seqOf S x = some xs ∧ atI xs i = some d ∧ p = (d, S) := by
  have h' : (match seqOf S x with
    | some xs => (match atI xs i with
      | some d => some (d, S)
      | none => none)
    | none => none) = some p := by
    cases x <;> first | exact h | exact absurd rfl (hx _)
  cases e : seqOf S x with
  | none => rw [e] at h'; cases h'
  | some xs =>
    rw [e] at h'
    dsimp only at h'
    cases e2 : atI xs i with
    | none => rw [e2] at h'; cases h'
    | some d => rw [e2] at h'; cases h'; exact ⟨xs, d, rfl, e2, rfl⟩
theorem up_ix : IxR X (rU2 X.K fIx) := by
  intro value slice pins s σ H x y v u Q I rx ry h hs
  obtain ⟨ω, S, a, b, hS, ra, rb, q⟩ := h
  cases b <;> first | (cases a <;> exact q.elim) | skip
  rename_i i
  cases rb
  by_cases hstr : ∃ cs, a = .str cs
  · obtain ⟨cs, rfl⟩ := hstr
    cases ra
    have q' : PostO (RelD X.K) X.K ω H (if cs.length ≤ line then (match L2.atI cs i with
      | some c => some (.str [c], S)
      | none => none) else none) Q := q
    by_cases hl : cs.length ≤ line
    · rw [if_pos hl] at q'
      cases e : L2.atI cs i with
      | none => rw [e] at q'; exact q'.elim
      | some c =>
        rw [e] at q'
        exact ix_seq value slice pins s σ H _ _ v u Q I rx ry (.inr (.inr ⟨_, i, c, rfl, rfl, by rw [strLen]; exact line_le hl, by simpa using e, q'.give hS (.str [c])⟩)) hs
    · rw [if_neg hl] at q'; exact q'.elim
  · cases e : fIx a (.int i) S with
    | none => rw [e] at q; exact q.elim
    | some p =>
      rw [e] at q
      obtain ⟨xs, d, h1, h2, rfl⟩ := fIx_seq (fun cs z => hstr ⟨cs, z⟩) e
      obtain ⟨l, vs, rfl, hq, rs⟩ := seqOf_ok hS ra h1
      obtain ⟨w, h3, r3⟩ := rs.atI h2
      have fin := q.give hS r3
      rcases hq with hq | hq
      · exact ix_seq value slice pins s σ H _ _ v u Q I rx ry (.inl ⟨l, vs, i, w, rfl, rfl, hq, h3, fin⟩) hs
      · exact ix_seq value slice pins s σ H _ _ v u Q I rx ry (.inr (.inl ⟨l, vs, i, w, rfl, rfl, hq, h3, fin⟩)) hs
end

/-! ### slices -/
def cutL {α : Type} (xs : List α) (lo hi : Option Int) : List α := (xs.drop (HT.sIx xs.length 0 lo)).take (HT.sIx xs.length xs.length hi - HT.sIx xs.length 0 lo)
def fSl (x : D) (lo hi : Option Int) (S : Mem) : Option (D × Mem) := match x with
  | .str cs => if cs.length ≤ line then some (.str (cutL cs lo hi), S) else none
  | .tup xs => some (.tup (cutL xs lo hi), S)
  | x => match seqOf S x with
    | some xs => some (.ref S.length, S ++ [.lst (cutL xs lo hi)])
    | none => none
def rUsl (K : PySem.W.Frag) : V → Option Int → Option Int → Hp → VK → Prop := fun x lo hi H Q => ∃ ω S a, Sim K ω S H ∧ RelD K ω H a x ∧ PostO (RelD K) K ω H (fSl a lo hi S) Q
theorem cutL_whole {α : Type} {xs : List α} {lo hi : Option Int} (h : HT.sIx xs.length 0 lo = 0 ∧ HT.sIx xs.length xs.length hi = xs.length) : cutL xs lo hi = xs := by
  unfold cutL
  rw [h.1, h.2, List.drop_zero, Nat.sub_zero, List.take_length]
section
variable {X : Cx} {K : PySem.W.Frag} {ω : Wo} {H : Hp} {S : Mem}
theorem RelDs.cut {xs : List D} {vs : List V} (r : RelDs K ω H xs vs) (lo hi : Option Int) : RelDs K ω H (cutL xs lo hi) (cutV vs lo hi) := by
  unfold cutL cutV
  rw [r.length]
  exact (r.drop _).take _
theorem cutS_eq (cs : List Nat) (lo hi : Option Int) : cutS ⟨cs.toArray⟩ lo hi = ⟨(cutL cs lo hi).toArray⟩ := by
  unfold cutS cutL
  rw [strLen]
theorem up_sl : SlR X (rUsl X.K) := by
  intro pins s σ H x v vl vu lo hi sl Q I rx hs pl pu h
  obtain ⟨ω, S, a, hS, ra, q⟩ := h
  cases a <;> first | exact q.elim | skip
  · rename_i cs
    cases ra
    have q' : PostO (RelD X.K) X.K ω H (if cs.length ≤ line then some (.str (cutL cs lo hi), S) else none) Q := q
    by_cases hl : cs.length ≤ line
    · rw [if_pos hl] at q'
      exact sl_str pins s σ H _ v vl vu lo hi sl Q I rx hs pl pu ⟨_, rfl, by rw [strLen]; exact line_le hl, by rw [cutS_eq]; exact q'.give hS (.str _)⟩
    · rw [if_neg hl] at q'; exact q'.elim
  · rename_i xs
    cases ra with
    | tup t r1 =>
      have q' : PostO (RelD X.K) X.K ω H (some (.tup (cutL xs lo hi), S)) Q := q
      refine sl_tupA pins s σ H _ v vl vu lo hi sl Q I rx hs pl pu ⟨_, _, rfl, t, fun hw => ?_, fun hw p hp => ?_⟩
      · rw [← r1.length] at hw
        rw [cutL_whole hw] at q'
        exact q'.give hS (.tup t r1)
      · exact q'.newTup hS (r1.cut lo hi) hp
  · rename_i xs
    cases ra with
    | fl t r1 =>
      have q' : PostO (RelD X.K) X.K ω H (some (.ref S.length, S ++ [.lst (cutL xs lo hi)])) Q := q
      exact sl_list pins s σ H _ v vl vu lo hi sl Q I rx hs pl pu ⟨_, _, rfl, t.seq, fun p hp => q'.newLst hS (r1.cut lo hi) hp⟩
  · rename_i n
    cases ra with
    | ref ha =>
      have q' : PostO (RelD X.K) X.K ω H (match lstAt S n with
        | some xs => some (.ref S.length, S ++ [.lst (cutL xs lo hi)])
        | none => none) Q := q
      cases e : lstAt S n with
      | none => rw [e] at q'; exact q'.elim
      | some xs =>
        rw [e] at q'
        obtain ⟨vs, h1, r1⟩ := hS.lst (lstAt_eq e) ha
        exact sl_list pins s σ H _ v vl vu lo hi sl Q I rx hs pl pu ⟨_, _, rfl, SqL.of h1, fun p hp => q'.newLst hS (r1.cut lo hi) hp⟩
end
/-! ### o[i] = v -/
def fSet : D → D → D → Mem → Option Mem
  | .ref n, .int k, d, S => match lstAt S n with
    | some xs => (match ixN xs.length k with
      | some j => some (S.set n (.lst (xs.set j d)))
      | none => none)
    | none => none
  | _, _, _, _ => none
def rUset (K : PySem.W.Frag) : V → V → V → Hp → (Hp → Prop) → Prop := fun o i v H Q => ∃ ω S a b d, Sim K ω S H ∧ RelD K ω H a o ∧ RelD K ω H b i ∧ RelD K ω H d v ∧ match fSet a b d S with
  | some S' => ∀ ω' H', Later ω H ω' H' → Sim K ω' S' H' → Q H'
  | none => False
section
variable {X : Cx}
theorem up_set : PSet X (rUset X.K) := by
  intro pins s σ H o i v ov iv u Q I ro ri rv h
  obtain ⟨ω, S, a, b, d, hS, ra, rb, rd, q⟩ := h
  cases a <;> cases b <;> first | exact q.elim | skip
  rename_i n k
  cases rb
  cases ra with
  | ref ha =>
    have q' : match (match lstAt S n with
      | some xs => (match ixN xs.length k with
        | some j => some (S.set n (.lst (xs.set j d)))
        | none => none)
      | none => none) with
      | some S' => ∀ ω' H', Later ω H ω' H' → Sim X.K ω' S' H' → Q H'
      | none => False := q
    cases e : lstAt S n with
    | none => rw [e] at q'; exact q'.elim
    | some xs =>
      rw [e] at q'
      dsimp only at q'
      obtain ⟨vs, h1, r1⟩ := hS.lst (lstAt_eq e) ha
      cases e2 : ixN xs.length k with
      | none => rw [e2] at q'; exact q'.elim
      | some j =>
        rw [e2] at q'
        dsimp only at q'
        refine set_list pins s σ H _ _ _ ov iv u Q I ro ri rv ⟨_, vs, k, j, rfl, rfl, h1, by rw [← r1.length]; exact e2, ?_⟩
        obtain ⟨s1, L⟩ := hS.write (c' := .lst (xs.set j d)) (o := .lst (vs.set j v)) (lstAt_eq e) rfl ha fun L => ⟨_, upd_same, (r1.set rd j).later L⟩
        exact q' _ _ L s1
end
end Mi
namespace Mi
open PySem PySem.Spec PyProof.Rows L2
/-! ### built-in functions -/
def fLen : List D → Mem → Option (D × Mem)
  | [.str cs], S => if cs.length ≤ line then some (.int cs.length, S) else none
  | [x], S => match seqOf S x with
    | some xs => some (.int xs.length, S)
    | none => none
  | _, _ => none
def fAbs : List D → Mem → Option (D × Mem)
  | [.int i], S => some (.int (if i < 0 then -i else i), S)
  | _, _ => none
/-- the greatest, the least of a list of whole numbers that is not empty -/
def maxI : Int → List Int → Int
  | m, [] => m
  | m, x :: r => maxI (if m < x then x else m) r
def minI : Int → List Int → Int
  | m, [] => m
  | m, x :: r => minI (if x < m then x else m) r
def fMax : List D → Mem → Option (D × Mem)
  | [.int i, .int j], S => some (.int (if j > i then j else i), S)
  | [.ref n], S => match lstAt S n with
    | some xs => (match intsD xs with
      | some (i :: is) => some (.int (maxI i is), S)
      | _ => none)
    | none => none
  | _, _ => none
def fMin : List D → Mem → Option (D × Mem)
  | [.int i, .int j], S => some (.int (if j < i then j else i), S)
  | [.ref n], S => match lstAt S n with
    | some xs => (match intsD xs with
      | some (i :: is) => some (.int (minI i is), S)
      | _ => none)
    | none => none
  | _, _ => none
def fInt : List D → Mem → Option (D × Mem)
  | [.int i], S => some (.int i, S)
  | [.bl b], S => some (.int (if b then 1 else 0), S)
  | _, _ => none
def fList : List D → Mem → Option (D × Mem)
  | [x], S => match seqOf S x with
    | some xs => some (.ref S.length, S ++ [.lst xs])
    | none => none
  | _, _ => none
def fTuple : List D → Mem → Option (D × Mem)
  | [x], S => match seqOf S x with
    | some xs => some (.tup xs, S)
    | none => none
  | _, _ => none
def fSum : List D → Mem → Option (D × Mem)
  | [.ref n], S => match lstAt S n with
    | some xs => (match intsD xs with
      | some is => some (.int is.sum, S)
      | none => none)
    | none => none
  | _, _ => none
def fAll : List D → Mem → Option (D × Mem)
  | [.ref n], S => match lstAt S n with
    | some xs => (match boolsD xs with
      | some bs => some (.bl (bs.all id), S)
      | none => none)
    | none => none
  | _, _ => none
def fAny : List D → Mem → Option (D × Mem)
  | [.ref n], S => match lstAt S n with
    | some xs => (match boolsD xs with
      | some bs => some (.bl (bs.any id), S)
      | none => none)
    | none => none
  | _, _ => none
def insI (x : Int) : List Int → List Int
  | [] => [x]
  | y :: r => if x ≤ y then x :: y :: r else y :: insI x r
def sortI : List Int → List Int
  | [] => []
  | x :: r => insI x (sortI r)
def fSorted : List D → Mem → Option (D × Mem)
  | [x], S => match x with
    | .ref n => (match lstAt S n with
      | some xs => (match intsD xs with
        | some is => some (.ref S.length, S ++ [.lst ((sortI is).map D.int)])
        | none => none)
      | none => none)
    | _ => none
  | _, _ => none
def tyName (S : Mem) : D → Option String
  | .non => some "NoneType"
  | .bl _ => some "bool"
  | .int _ => some "int"
  | .str _ => some "str"
  | .tup _ => some "tuple"
  | .fl _ => some "list"
  | .ref n => match S[n]? with
    | some (.lst _) => some "list"
    | some (.dK _) => some "dict"
    | _ => none
  | _ => none
def tyNames : List String := ["NoneType", "bool", "int", "str", "tuple", "list", "dict"]
def isTy (a b : String) : Bool := decide (a = b) || (decide (a = "bool") && decide (b = "int"))
def fIsi : List D → Mem → Option (D × Mem)
  | [x, .ty b], S => match tyName S x with
    | some a => if b ∈ ["bool", "int", "str", "tuple", "list", "dict"] then some (.bl (isTy a b), S) else none
    | none => none
  | _, _ => none
theorem kit_tab : ∀ a ∈ tyNames, ∀ b ∈ ["bool", "int", "str", "tuple", "list", "dict"], kitB a b = some (isTy a b) := by decide +kernel
theorem tyName_in {S : Mem} {d : D} {a : String} (h : tyName S d = some a) : a ∈ tyNames := by
  cases d <;> first | (cases h; done) | skip
  all_goals first | (cases h; decide) | skip
  rename_i n
  dsimp only [tyName] at h
  split at h
  · cases h; decide
  · cases h; decide
  · cases h
section
variable {X : Cx} {K : PySem.W.Frag} {ω : Wo} {H : Hp} {S : Mem}
theorem tyX_ok (s : Sim K ω S H) {d : D} {v : V} {a : String} (r : RelD K ω H d v) (h : tyName S d = some a) : TyX K H v (.type a) := by
  cases d <;> first | (cases h; done) | skip
  · cases r; cases h; exact .base .non
  · cases r; cases h; exact .base (.bl _)
  · cases r; cases h; exact .base (.int _)
  · cases r; cases h; exact .base (.str _)
  · cases h
    cases r with
    | tup t r1 =>
      rcases t with (t | ⟨o, t⟩) | ⟨o, its, n, h1, h2, _⟩
      · exact .base (.tup t)
      · exact .fTuple t
      · exact .kTuple h1 h2
  · cases h
    cases r with
    | fl t r1 =>
      rcases t with ⟨o, t⟩ | ⟨o, its, n, h1, h2, _⟩
      · exact .base (.frz t)
      · exact .kList h1 h2
  · cases r with
    | ref ha =>
      dsimp only [tyName] at h
      split at h
      · rename_i e
        cases h
        obtain ⟨vs, h1, _⟩ := s.lst e ha
        exact .base (.lst h1)
      · rename_i e
        cases h
        obtain ⟨vs, h1, _⟩ := s.dK e ha
        exact .base (.dK h1)
      · cases h
/-- one argument -/
theorem RelDs.one {d : D} {vs : List V} (r : RelDs K ω H [d] vs) : ∃ v, vs = [v] ∧ RelD K ω H d v := by
  cases r with
  | cons h1 h2 => cases h2; exact ⟨_, rfl, h1⟩
theorem RelDs.two {d e : D} {vs : List V} (r : RelDs K ω H [d, e] vs) : ∃ v w, vs = [v, w] ∧ RelD K ω H d v ∧ RelD K ω H e w := by
  cases r with
  | cons h1 h2 =>
    cases h2 with
    | cons h3 h4 => cases h4; exact ⟨_, _, rfl, h1, h3⟩
theorem RelDs.zero {vs : List V} (r : RelDs K ω H [] vs) : vs = [] := by cases r; rfl
theorem fLen_cases {as : List D} {p : D × Mem} (h : fLen as S = some p) : (∃ cs, as = [.str cs] ∧ cs.length ≤ line ∧ p = (.int cs.length, S)) ∨ ∃ x xs, as = [x] ∧ seqOf S x = some xs ∧ p = (.int xs.length, S) := by
  unfold fLen at h
  split at h
  · split at h
    · rename_i hl
      exact .inl ⟨_, rfl, hl, (Option.some.inj h).symm⟩
    · cases h
  · split at h
    · rename_i e
      exact .inr ⟨_, _, rfl, e, (Option.some.inj h).symm⟩
    · cases h
  · cases h
theorem up_len : CallR X (.builtin "len") (rUs X.K fLen) := by
  intro pins s σ H xs us Q I r h
  obtain ⟨ω, S, as, hS, ra, q⟩ := h
  cases e : fLen as S with
  | none => rw [e] at q; exact q.elim
  | some p =>
    rw [e] at q
    rcases fLen_cases e with ⟨cs, rfl, hl, rfl⟩ | ⟨x, ys, rfl, h1, rfl⟩
    · obtain ⟨v, rfl, rv⟩ := ra.one
      cases rv
      exact call_len_str pins s σ H _ us Q I r ⟨_, rfl, by rw [strLen]; exact line_le hl, by rw [strLen]; exact q.give hS (.int _)⟩
    · obtain ⟨v, rfl, rv⟩ := ra.one
      obtain ⟨a, vs, rfl, hq, rs⟩ := seqOf_ok hS rv h1
      exact call_len_seq pins s σ H _ us Q I r ⟨a, vs, rfl, hq, by rw [← rs.length]; exact q.give hS (.int _)⟩
theorem up_abs : CallR X (.builtin "abs") (rUs X.K fAbs) := by
  intro pins s σ H xs us Q I r h
  obtain ⟨ω, S, as, hS, ra, q⟩ := h
  unfold fAbs at q
  split at q
  · obtain ⟨v, rfl, rv⟩ := ra.one
    cases rv
    exact call_abs pins s σ H _ us Q I r ⟨_, rfl, q.give hS (.int _)⟩
  · exact q.elim
theorem maxI_mem : ∀ (is : List Int) (m : Int), (maxI m is = m ∨ maxI m is ∈ is) ∧ m ≤ maxI m is ∧ ∀ x ∈ is, x ≤ maxI m is
  | [], m => ⟨.inl rfl, Int.le_refl _, fun _ h => by cases h⟩
  | y :: r, m => by
    obtain ⟨h1, h2, h3⟩ := maxI_mem r (if m < y then y else m)
    unfold maxI
    by_cases hc : m < y
    · rw [if_pos hc] at h1 h2 h3 ⊢
      refine ⟨.inr ?_, by omega, fun x hx => ?_⟩
      · rcases h1 with h1 | h1
        · rw [h1]; exact List.mem_cons_self
        · exact List.mem_cons_of_mem _ h1
      · rcases List.mem_cons.mp hx with rfl | hx
        · exact h2
        · exact h3 x hx
    · rw [if_neg hc] at h1 h2 h3 ⊢
      refine ⟨?_, h2, fun x hx => ?_⟩
      · rcases h1 with h1 | h1
        · exact .inl h1
        · exact .inr (List.mem_cons_of_mem _ h1)
      · rcases List.mem_cons.mp hx with rfl | hx
        · omega
        · exact h3 x hx
theorem minI_mem : ∀ (is : List Int) (m : Int), (minI m is = m ∨ minI m is ∈ is) ∧ minI m is ≤ m ∧ ∀ x ∈ is, minI m is ≤ x
  | [], m => ⟨.inl rfl, Int.le_refl _, fun _ h => by cases h⟩
  | y :: r, m => by
    obtain ⟨h1, h2, h3⟩ := minI_mem r (if y < m then y else m)
    unfold minI
    by_cases hc : y < m
    · rw [if_pos hc] at h1 h2 h3 ⊢
      refine ⟨.inr ?_, by omega, fun x hx => ?_⟩
      · rcases h1 with h1 | h1
        · rw [h1]; exact List.mem_cons_self
        · exact List.mem_cons_of_mem _ h1
      · rcases List.mem_cons.mp hx with rfl | hx
        · exact h2
        · exact h3 x hx
    · rw [if_neg hc] at h1 h2 h3 ⊢
      refine ⟨?_, h2, fun x hx => ?_⟩
      · rcases h1 with h1 | h1
        · exact .inl h1
        · exact .inr (List.mem_cons_of_mem _ h1)
      · rcases List.mem_cons.mp hx with rfl | hx
        · omega
        · exact h3 x hx
theorem up_max (hc : X.calm = true) : CallR X (.builtin "max") (rUs X.K fMax) := by
  intro pins s σ H xs us Q I r h
  obtain ⟨ω, S, as, hS, ra, q⟩ := h
  unfold fMax at q
  split at q
  · obtain ⟨v, w, rfl, rv, rw'⟩ := ra.two
    cases rv
    cases rw'
    exact call_max2 hc pins s σ H _ us Q I r ⟨_, _, rfl, q.give hS (.int _)⟩
  · obtain ⟨v, rfl, rv⟩ := ra.one
    cases rv with
    | ref ha =>
      split at q
      · rename_i ys e
        split at q
        · rename_i i is e2
          have e3 := intsD_eq e2
          subst e3
          obtain ⟨vs, h1, r1⟩ := hS.lst (lstAt_eq e) ha
          have e4 := r1.ints
          subst e4
          obtain ⟨g1, g2, g3⟩ := maxI_mem is i
          refine cr_max hc pins s σ H _ us Q I r ⟨_, i :: is, rfl, SqL.of h1, Nat.succ_pos _, fun m hm hle => ?_⟩
          have hm1 : m ≤ maxI i is := by
            rcases List.mem_cons.mp hm with rfl | hm
            · exact g2
            · exact g3 m hm
          have hm2 : maxI i is ≤ m := hle _ (by
            rcases g1 with g | g
            · rw [g]; exact List.mem_cons_self
            · exact List.mem_cons_of_mem _ g)
          have : m = maxI i is := by omega
          rw [this]
          exact q.give hS (.int _)
        · exact q.elim
      · exact q.elim
  · exact q.elim
theorem up_min (hc : X.calm = true) : CallR X (.builtin "min") (rUs X.K fMin) := by
  intro pins s σ H xs us Q I r h
  obtain ⟨ω, S, as, hS, ra, q⟩ := h
  unfold fMin at q
  split at q
  · obtain ⟨v, w, rfl, rv, rw'⟩ := ra.two
    cases rv
    cases rw'
    exact call_min2 hc pins s σ H _ us Q I r ⟨_, _, rfl, q.give hS (.int _)⟩
  · obtain ⟨v, rfl, rv⟩ := ra.one
    cases rv with
    | ref ha =>
      split at q
      · rename_i ys e
        split at q
        · rename_i i is e2
          have e3 := intsD_eq e2
          subst e3
          obtain ⟨vs, h1, r1⟩ := hS.lst (lstAt_eq e) ha
          have e4 := r1.ints
          subst e4
          obtain ⟨g1, g2, g3⟩ := minI_mem is i
          refine cr_min hc pins s σ H _ us Q I r ⟨_, i :: is, rfl, SqL.of h1, Nat.succ_pos _, fun m hm hle => ?_⟩
          have hm1 : minI i is ≤ m := by
            rcases List.mem_cons.mp hm with rfl | hm
            · exact g2
            · exact g3 m hm
          have hm2 : m ≤ minI i is := hle _ (by
            rcases g1 with g | g
            · rw [g]; exact List.mem_cons_self
            · exact List.mem_cons_of_mem _ g)
          have : m = minI i is := by omega
          rw [this]
          exact q.give hS (.int _)
        · exact q.elim
      · exact q.elim
  · exact q.elim
theorem up_int : CallR X (.type "int") (rUs X.K fInt) := by
  intro pins s σ H xs us Q I r h
  obtain ⟨ω, S, as, hS, ra, q⟩ := h
  unfold fInt at q
  split at q
  · obtain ⟨v, rfl, rv⟩ := ra.one
    cases rv
    exact call_int1 pins s σ H _ us Q I r (.inl ⟨_, rfl, q.give hS (.int _)⟩)
  · obtain ⟨v, rfl, rv⟩ := ra.one
    cases rv
    exact call_int1 pins s σ H _ us Q I r (.inr ⟨_, rfl, q.give hS (.int _)⟩)
  · exact q.elim
theorem up_list : CallR X (.type "list") (rUs X.K fList) := by
  intro pins s σ H xs us Q I r h
  obtain ⟨ω, S, as, hS, ra, q⟩ := h
  unfold fList at q
  split at q
  · split at q
    · rename_i ys e
      obtain ⟨v, rfl, rv⟩ := ra.one
      obtain ⟨a, vs, rfl, hq, rs⟩ := seqOf_ok hS rv e
      exact call_list_of pins s σ H _ us Q I r ⟨a, vs, rfl, hq, fun p hp => q.newLst hS rs hp⟩
    · exact q.elim
  · exact q.elim
theorem up_tuple : CallR X (.type "tuple") (rUs X.K fTuple) := by
  intro pins s σ H xs us Q I r h
  obtain ⟨ω, S, as, hS, ra, q⟩ := h
  unfold fTuple at q
  split at q
  · split at q
    · rename_i ys e
      obtain ⟨v, rfl, rv⟩ := ra.one
      obtain ⟨a, vs, rfl, hq, rs⟩ := seqOf_ok hS rv e
      rcases hq with hq | hq
      · exact call_tuple_of pins s σ H _ us Q I r ⟨a, vs, rfl, .inl ⟨hq, fun p hp => q.newTup hS rs hp⟩⟩
      · exact call_tuple_of pins s σ H _ us Q I r ⟨a, vs, rfl, .inr ⟨hq, q.give hS (.tup hq rs)⟩⟩
    · exact q.elim
  · exact q.elim
theorem up_sum (hc : X.calm = true) : CallR X (.builtin "sum") (rUs X.K fSum) := by
  intro pins s σ H xs us Q I r h
  obtain ⟨ω, S, as, hS, ra, q⟩ := h
  unfold fSum at q
  split at q
  · obtain ⟨v, rfl, rv⟩ := ra.one
    cases rv with
    | ref ha =>
      split at q
      · rename_i ys e
        split at q
        · rename_i is e2
          have e3 := intsD_eq e2
          subst e3
          obtain ⟨vs, h1, r1⟩ := hS.lst (lstAt_eq e) ha
          have e4 := r1.ints
          subst e4
          exact cr_sum hc pins s σ H _ us Q I r ⟨_, is, rfl, SqL.of h1, q.give hS (.int _)⟩
        · exact q.elim
      · exact q.elim
  · exact q.elim
theorem up_all (hc : X.calm = true) : CallR X (.builtin "all") (rUs X.K fAll) := by
  intro pins s σ H xs us Q I r h
  obtain ⟨ω, S, as, hS, ra, q⟩ := h
  unfold fAll at q
  split at q
  · obtain ⟨v, rfl, rv⟩ := ra.one
    cases rv with
    | ref ha =>
      split at q
      · rename_i ys e
        split at q
        · rename_i is e2
          have e3 := boolsD_eq e2
          subst e3
          obtain ⟨vs, h1, r1⟩ := hS.lst (lstAt_eq e) ha
          have e4 := r1.bls
          subst e4
          exact cr_all hc pins s σ H _ us Q I r ⟨_, is, rfl, SqL.of h1, q.give hS (.bl _)⟩
        · exact q.elim
      · exact q.elim
  · exact q.elim
theorem up_any (hc : X.calm = true) : CallR X (.builtin "any") (rUs X.K fAny) := by
  intro pins s σ H xs us Q I r h
  obtain ⟨ω, S, as, hS, ra, q⟩ := h
  unfold fAny at q
  split at q
  · obtain ⟨v, rfl, rv⟩ := ra.one
    cases rv with
    | ref ha =>
      split at q
      · rename_i ys e
        split at q
        · rename_i is e2
          have e3 := boolsD_eq e2
          subst e3
          obtain ⟨vs, h1, r1⟩ := hS.lst (lstAt_eq e) ha
          have e4 := r1.bls
          subst e4
          exact cr_any hc pins s σ H _ us Q I r ⟨_, is, rfl, SqL.of h1, q.give hS (.bl _)⟩
        · exact q.elim
      · exact q.elim
  · exact q.elim
theorem insI_perm (x : Int) : ∀ l : List Int, (insI x l).Perm (x :: l)
  | [] => .refl _
  | y :: r => by
    unfold insI
    split
    · exact .refl _
    · exact ((insI_perm x r).cons y).trans (.swap x y r)
theorem sortI_perm : ∀ l : List Int, (sortI l).Perm l
  | [] => .refl _
  | x :: r => (insI_perm x (sortI r)).trans ((sortI_perm r).cons x)
theorem insI_sorted (x : Int) : ∀ {l : List Int}, l.Pairwise (· ≤ ·) → (insI x l).Pairwise (· ≤ ·)
  | [], _ => List.pairwise_singleton _ _
  | y :: r, h => by
    obtain ⟨h1, h2⟩ := List.pairwise_cons.mp h
    unfold insI
    split
    · rename_i hc
      refine List.pairwise_cons.mpr ⟨fun z hz => ?_, h⟩
      rcases List.mem_cons.mp hz with rfl | hz
      · exact hc
      · exact Int.le_trans hc (h1 z hz)
    · rename_i hc
      refine List.pairwise_cons.mpr ⟨fun z hz => ?_, insI_sorted x h2⟩
      rcases List.mem_cons.mp ((insI_perm x r).mem_iff.mp hz) with rfl | hz
      · omega
      · exact h1 z hz
theorem sortI_sorted : ∀ l : List Int, (sortI l).Pairwise (· ≤ ·)
  | [] => .nil
  | x :: r => insI_sorted x (sortI_sorted r)
theorem sorted_one {l m : List Int} (p : l.Perm m) (h1 : l.Pairwise (· ≤ ·)) (h2 : m.Pairwise (· ≤ ·)) : l = m := p.eq_of_pairwise (fun a b _ _ h h' => Int.le_antisymm h h') h1 h2
theorem up_sorted : CallR X (.builtin "sorted") (rUs X.K fSorted) := by
  intro pins s σ H xs us Q I r h
  obtain ⟨ω, S, as, hS, ra, q⟩ := h
  unfold fSorted at q
  split at q
  · split at q
    · obtain ⟨v, rfl, rv⟩ := ra.one
      cases rv with
      | ref ha =>
        split at q
        · rename_i ys e
          split at q
          · rename_i is e2
            have e3 := intsD_eq e2
            subst e3
            obtain ⟨vs, h1, r1⟩ := hS.lst (lstAt_eq e) ha
            have e4 := r1.ints
            subst e4
            refine cr_sortedI pins s σ H _ us Q I r ⟨_, is, rfl, SqL.of h1, fun ns' p hp hs hn => ?_⟩
            have : ns' = sortI is := sorted_one (hp.trans (sortI_perm is).symm) hs (sortI_sorted is)
            subst this
            exact q.newLst hS (RelDs.ofInts _) hn
          · exact q.elim
        · exact q.elim
    · exact q.elim
  · exact q.elim
theorem up_isi : CallR X (.builtin "isinstance") (rUs X.K fIsi) := by
  intro pins s σ H xs us Q I r h
  obtain ⟨ω, S, as, hS, ra, q⟩ := h
  unfold fIsi at q
  split at q
  · rename_i x b
    obtain ⟨v, w, rfl, rv, rw'⟩ := ra.two
    cases rw'
    split at q
    · rename_i a e
      split at q
      · rename_i hb
        exact call_isi pins s σ H _ us Q I r ⟨v, .ty b, .type a, .type b, isTy a b, rfl, .ty b, tyX_ok hS rv e, kit_ty (kit_tab a (tyName_in e) b hb), q.give hS (.bl _)⟩
      · exact q.elim
    · exact q.elim
  · exact q.elim
end
end Mi
namespace Mi
open PySem PySem.Spec PyProof.Rows L2
/-! ### methods of lists and texts -/
def fAppend : D → List D → Mem → Option (D × Mem)
  | .ref n, [d], S => match lstAt S n with
    | some xs => if xs.length < line then some (.non, S.set n (.lst (xs ++ [d]))) else none
    | none => none
  | _, _, _ => none
def fExtend : D → List D → Mem → Option (D × Mem)
  | .ref n, [.ref m], S => match lstAt S n, lstAt S m with
    | some xs, some ys => if xs.length + ys.length ≤ line then some (.non, S.set n (.lst (xs ++ ys))) else none
    | _, _ => none
  | _, _, _ => none
def fPop : D → List D → Mem → Option (D × Mem)
  | .ref n, [], S => match lstAt S n with
    | some xs => (match xs[xs.length - 1]? with
      | some y => some (y, S.set n (.lst xs.dropLast))
      | none => none)
    | none => none
  | .ref n, [.int i], S => match lstAt S n with
    | some xs => (match ixN xs.length i with
      | some k => (match xs[k]? with
        | some y => some (y, S.set n (.lst (xs.eraseIdx k)))
        | none => none)
      | none => none)
    | none => none
  | _, _, _ => none
/-- the first place of an item, flat ones -/
def firstAt (y : D) : List D → Nat → Option Nat
  | [], _ => none
  | x :: r, j => if eqF x y = true then some j else firstAt y r (j + 1)
def fIndexL : D → List D → Mem → Option (D × Mem)
  | .ref n, [y], S => match lstAt S n with
    | some xs => if flatD y = true ∧ xs.all flatD = true then (match firstAt y xs 0 with
      | some j => some (.int j, S)
      | none => none) else none
    | none => none
  | _, _, _ => none
def fCountS : D → List D → Mem → Option (D × Mem)
  | .str cs, [.str [c]], S => some (.int (cs.count c), S)
  | _, _, _ => none
/-- texts with a text between them -/
def joinL (sep : List Nat) : List (List Nat) → List Nat
  | [] => []
  | [x] => x
  | x :: y :: r => x ++ sep ++ joinL sep (y :: r)
def fJoin : D → List D → Mem → Option (D × Mem)
  | .str sep, [x], S => match seqOf S x with
    | some xs => (match strsD xs with
      | some ts => if (ts.map (·.length)).sum + ts.length * sep.length ≤ line then some (.str (joinL sep ts), S) else none
      | none => none)
    | none => none
  | _, _, _ => none
/-- a method of a built-in type that one may call -/
structure MtOk (X : Cx) (T : String) (name : Str) (f : D → List D → Mem → Option (D × Mem)) : Prop where
  ex : ∃ id, PlainAttrs T ∧ Slot T name id ∧ typeOf (.builtin id) = pure (.type "method_descriptor") ∧ MtR X id (rUm X.K f)
section
variable {X : Cx} {K : PySem.W.Frag} {ω : Wo} {H : Hp} {S : Mem}
theorem up_append : MtR X "list.append" (rUm X.K fAppend) := by
  intro pins s σ H x xs v us Q I rx rs h
  obtain ⟨ω, S, a, as, hS, ra, rd, q⟩ := h
  unfold fAppend at q
  split at q
  · rename_i n d
    obtain ⟨w, rfl, rw'⟩ := rd.one
    cases ra with
    | ref ha =>
      split at q
      · rename_i ys e
        split at q
        · rename_i hl
          obtain ⟨vs, h1, r1⟩ := hS.lst (lstAt_eq e) ha
          exact mt_append pins s σ H _ _ v us Q I rx rs ⟨_, vs, w, rfl, rfl, h1, by rw [← r1.length]; exact line_lt hl, q.setLst hS (lstAt_eq e) ha (r1.append (.cons rw' .nil)) .non⟩
        · exact q.elim
      · exact q.elim
  · exact q.elim
theorem up_extend : MtR X "list.extend" (rUm X.K fExtend) := by
  intro pins s σ H x xs v us Q I rx rs h
  obtain ⟨ω, S, a, as, hS, ra, rd, q⟩ := h
  unfold fExtend at q
  split at q
  · rename_i n m
    obtain ⟨w, rfl, rw'⟩ := rd.one
    cases rw' with
    | ref hb =>
      cases ra with
      | ref ha =>
        split at q
        · rename_i ys zs e e2
          split at q
          · rename_i hl
            obtain ⟨vs, h1, r1⟩ := hS.lst (lstAt_eq e) ha
            obtain ⟨ws, h2, r2⟩ := hS.lst (lstAt_eq e2) hb
            exact mt_extend pins s σ H _ _ v us Q I rx rs ⟨_, _, vs, ws, rfl, rfl, h1, h2, by rw [← r1.length, ← r2.length]; exact line_le hl, q.setLst hS (lstAt_eq e) ha (r1.append r2) .non⟩
          · exact q.elim
        · exact q.elim
  · exact q.elim
theorem up_pop : MtR X "list.pop" (rUm X.K fPop) := by
  intro pins s σ H x xs v us Q I rx rs h
  obtain ⟨ω, S, a, as, hS, ra, rd, q⟩ := h
  unfold fPop at q
  split at q
  · rename_i n
    have e0 := rd.zero
    subst e0
    cases ra with
    | ref ha =>
      split at q
      · rename_i ys e
        split at q
        · rename_i y e2
          obtain ⟨vs, h1, r1⟩ := hS.lst (lstAt_eq e) ha
          obtain ⟨w, h2, r2⟩ := r1.get e2
          exact mt_pop pins s σ H _ _ v us Q I rx rs ⟨_, vs, w, rfl, rfl, h1, by rw [← r1.length]; exact h2, q.setLst hS (lstAt_eq e) ha r1.dropLast r2⟩
        · exact q.elim
      · exact q.elim
  · rename_i n i
    obtain ⟨w0, rfl, rw0⟩ := rd.one
    cases rw0
    cases ra with
    | ref ha =>
      split at q
      · rename_i ys e
        split at q
        · rename_i k e1
          split at q
          · rename_i y e2
            obtain ⟨vs, h1, r1⟩ := hS.lst (lstAt_eq e) ha
            obtain ⟨w, h2, r2⟩ := r1.get e2
            obtain ⟨g1, g2, g3, g4⟩ := ixN_seq e1
            have hz : vs.length ≤ sizeLine := (I.lstM h1).1
            have hz2 : vs.length ≤ 16777216 := by rw [sizeLine_eq] at hz; exact hz
            have hl := r1.length
            exact mt_popAt pins s σ H _ _ v us Q I rx rs ⟨_, vs, i, k, w, rfl, rfl, h1, by omega, by omega, by rw [← r1.length]; exact g1, h2, q.setLst hS (lstAt_eq e) ha (r1.eraseIdx k) r2⟩
          · exact q.elim
        · exact q.elim
      · exact q.elim
  · exact q.elim
theorem firstAt_spec (y : D) : ∀ (xs : List D) (j k : Nat), firstAt y xs j = some k → ∃ m, k = j + m ∧ (∃ z, xs[m]? = some z ∧ eqF z y = true) ∧ ∀ i z, i < m → xs[i]? = some z → eqF z y = false
  | [], _, _, h => by cases h
  | x :: r, j, k, h => by
    unfold firstAt at h
    by_cases hc : eqF x y = true
    · rw [if_pos hc] at h
      cases h
      exact ⟨0, rfl, ⟨x, rfl, hc⟩, fun i z hi => absurd hi (Nat.not_lt_zero _)⟩
    · rw [if_neg hc] at h
      obtain ⟨m, e, ⟨z, h1, h2⟩, h3⟩ := firstAt_spec y r (j + 1) k h
      refine ⟨m + 1, by omega, ⟨z, by simpa using h1, h2⟩, fun i z hi hz => ?_⟩
      cases i with
      | zero =>
        have ez : x = z := by simpa using hz
        subst ez
        exact Bool.eq_false_iff.mpr hc
      | succ i => exact h3 i z (by omega) (by simpa using hz)
theorem up_indexL : MtR X "list.index" (rUm X.K fIndexL) := by
  intro pins s σ H x xs v us Q I rx rs h
  obtain ⟨ω, S, a, as, hS, ra, rd, q⟩ := h
  unfold fIndexL at q
  split at q
  · rename_i n y
    obtain ⟨w, rfl, rw'⟩ := rd.one
    cases ra with
    | ref ha =>
      split at q
      · rename_i ys e
        split at q
        · rename_i hf
          split at q
          · rename_i j e2
            obtain ⟨vs, h1, r1⟩ := hS.lst (lstAt_eq e) ha
            obtain ⟨m, rfl, ⟨z, g1, g2⟩, g3⟩ := firstAt_spec y ys 0 _ e2
            obtain ⟨zv, k1, k2⟩ := r1.get g1
            have fz : flatD z = true := List.all_eq_true.mp hf.2 z (List.mem_of_getElem? g1)
            refine mt_index pins s σ H _ _ v us Q I rx rs ⟨_, vs, w, m, zv, rfl, rfl, SqL.of h1, flat_ok rw' hf.1, flats_ok r1 hf.2, k1, ?_, fun i z' hi hz' => ?_, ?_⟩
            · rw [eqF_ok k2 rw' fz hf.1]; exact g2
            · obtain ⟨d', k3, k4⟩ := r1.getV hz'
              rw [eqF_ok k4 rw' (List.all_eq_true.mp hf.2 d' (List.mem_of_getElem? k3)) hf.1]
              exact g3 i d' hi k3
            · have := q.give hS (.int ((0 + m : Nat) : Int))
              rw [Nat.zero_add] at this
              exact this
          · exact q.elim
        · exact q.elim
      · exact q.elim
  · exact q.elim
theorem cnt_count (c : Nat) : ∀ l : List Nat, cnt c l = (l.count c : Nat)
  | [] => rfl
  | n :: r => by
    rw [cnt_cons, cnt_count c r, List.count_cons]
    by_cases h : n = c
    · subst h; simp; omega
    · simp [h]
theorem up_countS : MtR X "str.count" (rUm X.K fCountS) := by
  intro pins s σ H x xs v us Q I rx rs h
  obtain ⟨ω, S, a, as, hS, ra, rd, q⟩ := h
  unfold fCountS at q
  split at q
  · rename_i cs c
    obtain ⟨w, rfl, rw'⟩ := rd.one
    cases ra
    cases rw'
    refine mt_count pins s σ H _ _ v us Q I rx rs ⟨_, _, rfl, rfl, ?_⟩
    rw [show (⟨[c].toArray⟩ : Str) = ⟨#[c]⟩ from rfl, count_cnt, cnt_count]
    exact q.give hS (.int _)
  · exact q.elim
theorem glued_join (sep : List Nat) : ∀ (ts : List (List Nat)), Builtin.Str.glued ⟨sep.toArray⟩ (ts.map fun cs => (⟨cs.toArray⟩ : Str)) = ⟨(joinL sep ts).toArray⟩ := by
  have fold : ∀ (ts : List (List Nat)) (x : List Nat), (ts.map fun cs => (⟨cs.toArray⟩ : Str)).foldl (fun acc p => acc ++ sep.toArray ++ p.cps) x.toArray = (joinL sep (x :: ts)).toArray := by
    intro ts
    induction ts with
    | nil => intro x; rfl
    | cons y r ih =>
      intro x
      rw [List.map_cons, List.foldl_cons]
      have e : x.toArray ++ sep.toArray ++ y.toArray = (x ++ sep ++ y).toArray := by simp
      show List.foldl _ (x.toArray ++ sep.toArray ++ y.toArray) _ = _
      rw [e, ih (x ++ sep ++ y)]
      congr 1
      cases r with
      | nil => rfl
      | cons z r' =>
        show (x ++ sep ++ y) ++ sep ++ joinL sep (z :: r') = x ++ sep ++ (y ++ sep ++ joinL sep (z :: r'))
        simp
  intro ts
  cases ts with
  | nil => rfl
  | cons x r =>
    show (⟨(r.map fun cs => (⟨cs.toArray⟩ : Str)).foldl _ x.toArray⟩ : Str) = _
    rw [fold]
theorem up_join : MtR X "str.join" (rUm X.K fJoin) := by
  intro pins s σ H x xs v us Q I rx rs h
  obtain ⟨ω, S, a, as, hS, ra, rd, q⟩ := h
  unfold fJoin at q
  split at q
  · rename_i sep y
    obtain ⟨w, rfl, rw'⟩ := rd.one
    cases ra
    split at q
    · rename_i ys e
      split at q
      · rename_i ts e2
        split at q
        · rename_i hl
          obtain ⟨p, vs, rfl, hq, r1⟩ := seqOf_ok hS rw' e
          have e3 := strsD_eq e2
          subst e3
          have e4 := r1.strs
          subst e4
          refine mt_join pins s σ H _ _ v us Q I rx rs ⟨_, p, ts.map fun cs => (⟨cs.toArray⟩ : Str), rfl, rfl, hq, ?_, ?_⟩
          · rw [List.map_map, List.length_map, strLen]
            have : ((fun x : Str => x.length) ∘ fun cs : List Nat => (⟨cs.toArray⟩ : Str)) = fun cs => cs.length := by
              funext cs; exact strLen cs
            rw [this]
            exact hl
          · show Q (.str (Builtin.Str.glued _ _)) H
            rw [glued_join]
            exact q.give hS (.str _)
        · exact q.elim
      · exact q.elim
    · exact q.elim
  · exact q.elim
theorem ok_append : MtOk X "list" "append" fAppend := ⟨_, PySem.F.plainAttrs_list, PySem.F.slot_list_append, PySem.F.type_list_append, up_append⟩
theorem ok_extend : MtOk X "list" "extend" fExtend := ⟨_, PySem.F.plainAttrs_list, PySem.F.slot_list_extend, PySem.F.type_list_extend, up_extend⟩
theorem ok_pop : MtOk X "list" "pop" fPop := ⟨_, PySem.F.plainAttrs_list, PySem.F.slot_list_pop, PySem.F.type_list_pop, up_pop⟩
theorem ok_index : MtOk X "list" "index" fIndexL := ⟨_, PySem.F.plainAttrs_list, PySem.F.slot_list_index, PySem.F.type_list_index, up_indexL⟩
theorem ok_count : MtOk X "str" "count" fCountS := ⟨_, PySem.F.plainAttrs_str, PySem.F.slot_str_count, PySem.F.type_str_count, up_countS⟩
theorem ok_join : MtOk X "str" "join" fJoin := ⟨_, PySem.F.plainAttrs_str, PySem.F.slot_str_join, PySem.F.type_str_join, up_join⟩
end
end Mi

set_option Elab.async false
set_option linter.all false
set_option maxRecDepth 100000
set_option maxHeartbeats 4000000
/-! MiD: the plain language and what it computes -/
namespace Mi
open PySem PySem.Spec PyProof.Rows L2

inductive Bop | add | sub | mul | div | mod | pow
inductive Cop | eq | ne | lt | le | gt | ge | isin | notin | same | notsame
inductive Bi | len | abs | max | min | int | list | tuple | sum | all | any | sorted | isi
inductive Mt | append | extend | pop | index | count | join
@[reducible] def Bop.f : Bop → D → D → Mem → Option (D × Mem)
  | .add => fAdd | .sub => fSub | .mul => fMul | .div => fDiv | .mod => fMod | .pow => fPow
@[reducible] def Cop.f : Cop → D → D → Mem → Option (D × Mem)
  | .eq => fEq | .ne => fNe | .lt => fLt | .le => fLe | .gt => fGt | .ge => fGe | .isin => fIn | .notin => fNin | .same => fIs | .notsame => fIsn
@[reducible] def Bi.f : Bi → List D → Mem → Option (D × Mem)
  | .len => fLen | .abs => fAbs | .max => fMax | .min => fMin | .int => fInt | .list => fList | .tuple => fTuple | .sum => fSum | .all => fAll | .any => fAny | .sorted => fSorted | .isi => fIsi
/-- a method by the receiver's type -/
inductive Im | lAppend | lExtend | lPop | lIndex | sCount | sJoin
@[reducible] def Im.f : Im → D → List D → Mem → Option (D × Mem)
  | .lAppend => fAppend | .lExtend => fExtend | .lPop => fPop | .lIndex => fIndexL | .sCount => fCountS | .sJoin => fJoin
/-- x op= y of what never changes -/
def fAug (o : Bop) (x y : D) (S : Mem) : Option (D × Mem) := match o, x, y with
  | .add, .int i, .int j => some (.int (i + j), S)
  | .sub, .int i, .int j => some (.int (i - j), S)
  | .add, .str i, .str j => if i.length + j.length ≤ line then some (.str (i ++ j), S) else none
  | _, _, _ => none
def isLst (S : Mem) : D → Bool
  | .ref n => (lstAt S n).isSome
  | _ => false
def isStr : D → Bool
  | .str _ => true
  | _ => false
def Mt.sel (m : Mt) (S : Mem) (d : D) : Option Im := match m with
  | .append => if isLst S d = true then some .lAppend else none
  | .extend => if isLst S d = true then some .lExtend else none
  | .pop => if isLst S d = true then some .lPop else none
  | .index => if isLst S d = true then some .lIndex else none
  | .count => if isStr d = true then some .sCount else none
  | .join => if isStr d = true then some .sJoin else none

mutual
inductive E
  | c (d : D) | v (i : Nat)
  | bin (o : Bop) (a b : E) | neg (a : E) | cmp (o : Cop) (a b : E) | chn (o p : Cop) (a b c : E)
  | no (a : E) | and (a b : E) | or (a b : E) | ife (c a b : E)
  | tup (es : Es) | lst (es : Es) | ix (a b : E) | sl (a : E) (lo hi : Es)
  | bi (f : Bi) (es : Es) | mt (m : Mt) (a : E) (es : Es) | call (f : Nat) (es : Es) | lrg1 (a : E) | lrg2 (a b : E)
  | lc (t : Tn) (it : It) (cs : Es) (e : E) (own : List Nat)
inductive Es
  | nil | cons (e : E) (r : Es) | star (e : E) (r : Es)
inductive It
  | rng1 (a : E) | rng2 (a b : E) | rng3 (a b c : E) | of (e : E)
/-- names, and tuples of them -/
inductive Tn
  | nm (i : Nat) | tup (ts : Tns)
inductive Tns
  | nil | cons (t : Tn) (r : Tns)
end
inductive Tg
  | n (t : Tn) | sub (o i : E)
mutual
inductive Sm
  | asg (t : Tg) (e : E) | par2 (i j : Nat) (a b : E) | par3 (i j k : Nat) (a b c : E) | aug (i : Nat) (o : Bop) (e : E) | ex (e : E) | ret (e : E) | retN
  | iff (c : E) (a b : Ss) | for_ (t : Tn) (it : It) (b : Ss) | whl (c : E) (b : Ss) | pass | brk | cont | never
  | rai (x : Str) | tri (b : Ss) (h : Hs)
inductive Ss
  | nil | cons (s : Sm) (r : Ss)
/-- what takes an exception: the classes it takes, those it lets by, the suite -/
inductive Hs
  | nil | cons (ys zs : List Str) (b : Ss) (r : Hs)
end

def truth (S : Mem) : D → Option Bool
  | .non => some false
  | .bl b => some b
  | .int i => some (i != 0)
  | .str cs => if cs.length ≤ line then some (!cs.isEmpty) else none
  | .tup xs => some (!xs.isEmpty)
  | .fl xs => some (!xs.isEmpty)
  | .ref n => match S[n]? with
    | some (.lst xs) => some (!xs.isEmpty)
    | some (.dK xs) => some (!xs.isEmpty)
    | _ => none
  | _ => none
/-- what is walked -/
inductive Src where
  | items (ds : List D) | cell (n : Nat)
def Src.at_ (s : Src) (S : Mem) (i : Nat) : Option (Option D) := match s with
  | .items ds => some ds[i]?
  | .cell n => match lstAt S n with
    | some xs => some xs[i]?
    | none => none
/-- lo, lo + 1, .., so many -/
def rangeD (lo : Int) (n : Nat) : List D := (List.range n).map fun i => D.int (lo + (i : Nat))
/-- lo, lo + c, .., so many -/
def rangeC (lo c : Int) (n : Nat) : List D := (List.range n).map fun i => D.int (lo + (i : Nat) * c)
/-- not too far (told so that nothing unfolds it by chance) -/
def okR (i : Int) : Bool := Nat.ble i.natAbs 4611686018427387903
theorem okR_iff {i : Int} : okR i = true ↔ -4611686018427387904 < i ∧ i < 4611686018427387904 := by
  unfold okR
  rw [Nat.ble_eq]
  omega
def rngSrc : List D → Option Src
  | [.int a, .int b, .int c] => if (okR a && okR b && okR c && c != 0 && decide (c.natAbs < 1073741824) && Builtin.Range.small a b c && decide (0 ≤ Builtin.Range.rangeSize a b c)) = true then some (.items (rangeC a c (Builtin.Range.rangeSize a b c).toNat)) else none
  | [.int n] => if okR n = true then some (.items (rangeD 0 n.toNat)) else none
  | [.int a, .int b] => if (okR a && okR b) = true then some (.items (rangeD a (b - a).toNat)) else none
  | _ => none
def rngLst (S : Mem) : List D → Option (D × Mem)
  | [.int n] => if 0 ≤ n ∧ n ≤ 16777216 then some (.ref S.length, S ++ [.lst (rangeD 0 n.toNat)]) else none
  | [.int a, .int b] => if 0 ≤ a ∧ a ≤ 16777216 ∧ 0 ≤ b ∧ b ≤ 16777216 then some (.ref S.length, S ++ [.lst (rangeD a (b - a).toNat)]) else none
  | _ => none
def srcOf (S : Mem) : D → Option Src
  | .tup xs => some (.items xs)
  | .fl xs => some (.items xs)
  | .str cs => some (.items (cs.map fun c => D.str [c]))
  | .ref n => match lstAt S n with
    | some _ => some (.cell n)
    | none => none
  | _ => none
mutual
/-- a value is stored by names -/
def setT : Tn → D → Env → Option Env
  | .nm i, d, e => some (e.set i (some d))
  | .tup ts, d, e => match d with
    | .tup ds => setTs ts ds e
    | _ => none
def setTs : Tns → List D → Env → Option Env
  | .nil, ds, e => match ds with
    | [] => some e
    | _ => none
  | .cons t r, ds, e => match ds with
    | d :: dr => match setT t d e with
      | some e1 => setTs r dr e1
      | none => none
    | [] => none
end
def wipeE (e : Env) : List Nat → Env
  | [] => e
  | v :: vs => (wipeE e vs).set v none
/-- the turns of a for -/
def turns (src : Src) (step : D → Env → Mem → OS) : Nat → Nat → Env → Mem → OS
  | 0, _, _, _ => .bad
  | n + 1, i, e, S => match src.at_ S i with
    | none => .bad
    | some none => .ok (.nx e) S
    | some (some d) => match step d e S with
      | .ok (.nx e1) S1 => turns src step n (i + 1) e1 S1
      | .ok (.ct e1) S1 => turns src step n (i + 1) e1 S1
      | .ok (.bk e1) S1 => .ok (.nx e1) S1
      | .ok (.rt d) S1 => .ok (.rt d) S1
      | .exc x e1 S1 => .exc x e1 S1
      | .bad => .bad
/-- the turns of a while -/
def whiles (c : Env → Mem → Out Bool) (body : Env → Mem → OS) : Nat → Env → Mem → OS
  | 0, _, _ => .bad
  | n + 1, e, S => match c e S with
    | .bad => .bad
    | .exc x S1 => .exc x e S1
    | .ok false S1 => .ok (.nx e) S1
    | .ok true S1 => match body e S1 with
      | .ok (.nx e1) S2 => whiles c body n e1 S2
      | .ok (.ct e1) S2 => whiles c body n e1 S2
      | .ok (.bk e1) S2 => .ok (.nx e1) S2
      | .ok (.rt d) S2 => .ok (.rt d) S2
      | .exc x e1 S2 => .exc x e1 S2
      | .bad => .bad
/-- the turns of a comprehension: the new list stands at D -/
def comps (src : Src) (put : D → Option Env) (test : Env → Mem → Out Bool) (elt : Env → Mem → Out D) (l : Nat) : Nat → Nat → Mem → Out Unit
  | 0, _, _ => .bad
  | n + 1, i, S => match src.at_ S i with
    | none => .bad
    | some none => .ok () S
    | some (some d) => match put d with
      | none => .bad
      | some e => match test e S with
        | .ok false S1 => comps src put test elt l n (i + 1) S1
        | .ok true S1 => (match elt e S1 with
          | .ok y S2 => (match lstAt S2 l with
            | some acc => if acc.length < line then comps src put test elt l n (i + 1) (S2.set l (.lst (acc ++ [y]))) else .bad
            | none => .bad)
          | _ => .bad)
        | _ => .bad
/-- more than any loop turns -/
abbrev fuel : Nat := 1000000000
def truO (o : Out D) : Out Bool := o.bind fun d S => match truth S d with
  | some b => .ok b S
  | none => .bad
section
variable (F : Nat → List D → Mem → Out D)
mutual
def evE : E → Env → Mem → Out D
  | .c d, _, S => .ok d S
  | .v i, e, S => match e[i]? with
    | some (some d) => .ok d S
    | _ => .bad
  | .bin o a b, e, S => (evE a e S).bind fun x S1 => (evE b e S1).bind fun y S2 => lift (o.f x y S2)
  | .neg a, e, S => (evE a e S).bind fun x S1 => lift (fNeg x S1)
  | .cmp o a b, e, S => (evE a e S).bind fun x S1 => (evE b e S1).bind fun y S2 => lift (o.f x y S2)
  | .chn o p a b c, e, S => (evE a e S).bind fun x S1 => (evE b e S1).bind fun y S2 => (lift (o.f x y S2)).bind fun z S3 => match z with
    | .bl true => (evE c e S3).bind fun w S4 => lift (p.f y w S4)
    | .bl false => .ok (.bl false) S3
    | _ => .bad
  | .no a, e, S => (truO (evE a e S)).bind fun b S1 => .ok (.bl (!b)) S1
  | .and a b, e, S => (evE a e S).bind fun x S1 => match truth S1 x with
    | some true => evE b e S1
    | some false => .ok x S1
    | none => .bad
  | .or a b, e, S => (evE a e S).bind fun x S1 => match truth S1 x with
    | some true => .ok x S1
    | some false => evE b e S1
    | none => .bad
  | .ife c a b, e, S => (truO (evE c e S)).bind fun t S1 => match t with
    | true => evE a e S1
    | false => evE b e S1
  | .tup es, e, S => (evEs es e S).bind fun xs S1 => if xs.length ≤ line then .ok (.tup xs) S1 else .bad
  | .lst es, e, S => (evEs es e S).bind fun xs S1 => if xs.length ≤ line then .ok (.ref S1.length) (S1 ++ [.lst xs]) else .bad
  | .ix a b, e, S => (evE a e S).bind fun x S1 => (evE b e S1).bind fun y S2 => lift (fIx x y S2)
  | .sl a lo hi, e, S => (evE a e S).bind fun x S1 => (evO lo e S1).bind fun l S2 => (evO hi e S2).bind fun h S3 => lift (fSl x l h S3)
  | .bi f es, e, S => (evEs es e S).bind fun xs S1 => lift (f.f xs S1)
  | .mt m a es, e, S => (evE a e S).bind fun x S1 => match m.sel S1 x with
    | some i => (evEs es e S1).bind fun xs S2 => lift (i.f x xs S2)
    | none => .bad
  | .call f es, e, S => (evEs es e S).bind fun xs S1 => F f xs S1
  | .lrg1 a, e, S => (evE a e S).bind fun x S1 => lift (rngLst S1 [x])
  | .lrg2 a b, e, S => (evE a e S).bind fun x S1 => (evE b e S1).bind fun y S2 => lift (rngLst S2 [x, y])
  | .lc t it cs elt own, e, S => (evI it e S).bind fun src S1 =>
    (comps src (fun d => setT t d (wipeE e own)) (evT cs) (evE elt) S1.length fuel 0 (S1 ++ [.lst []])).bind fun _ S2 => .ok (.ref S1.length) S2
def evEs : Es → Env → Mem → Out (List D)
  | .nil, _, S => .ok [] S
  | .cons a r, e, S => (evE a e S).bind fun x S1 => (evEs r e S1).bind fun xs S2 => .ok (x :: xs) S2
  | .star a r, e, S => (evE a e S).bind fun x S1 => match seqOf S1 x with
    | some ys => (evEs r e S1).bind fun xs S2 => .ok (ys ++ xs) S2
    | none => .bad
/-- a part of a slice -/
def evO : Es → Env → Mem → Out (Option Int)
  | .nil, _, S => .ok none S
  | .cons a _, e, S => (evE a e S).bind fun x S1 => match x with
    | .int i => .ok (some i) S1
    | _ => .bad
  | .star _ _, _, _ => .bad
/-- the tests of a comprehension: none, or one -/
def evT : Es → Env → Mem → Out Bool
  | .nil, _, S => .ok true S
  | .cons a _, e, S => truO (evE a e S)
  | .star _ _, _, _ => .bad
def evI : It → Env → Mem → Out Src
  | .rng1 a, e, S => (evE a e S).bind fun x S1 => match rngSrc [x] with
    | some s => .ok s S1
    | none => .bad
  | .rng2 a b, e, S => (evE a e S).bind fun x S1 => (evE b e S1).bind fun y S2 => match rngSrc [x, y] with
    | some s => .ok s S2
    | none => .bad
  | .rng3 a b c, e, S => (evE a e S).bind fun x S1 => (evE b e S1).bind fun y S2 => (evE c e S2).bind fun z S3 => match rngSrc [x, y, z] with
    | some s => .ok s S3
    | none => .bad
  | .of a, e, S => (evE a e S).bind fun x S1 => match srcOf S1 x with
    | some s => .ok s S1
    | none => .bad
end
def evG : Tg → D → Env → Mem → Out Env
  | .n t, d, e, S => match setT t d e with
    | some e1 => .ok e1 S
    | none => .bad
  | .sub o i, d, e, S => (evE F o e S).bind fun x S1 => (evE F i e S1).bind fun y S2 => match fSet x y d S2 with
    | some S3 => .ok e S3
    | none => .bad
def up {α : Type} (e : Env) (o : Out α) (f : α → Mem → OS) : OS := match o with
  | .ok a S => f a S
  | .exc x S => .exc x e S
  | .bad => .bad
mutual
def evS : Sm → Env → Mem → OS
  | .asg t a, e, S => up e (evE F a e S) fun d S1 => up e (evG F t d e S1) fun e1 S2 => .ok (.nx e1) S2
  | .par2 i j a b, e, S => up e (evE F a e S) fun x S1 => up e (evE F b e S1) fun y S2 => .ok (.nx ((e.set i (some x)).set j (some y))) S2
  | .par3 i j k a b c, e, S => up e (evE F a e S) fun x S1 => up e (evE F b e S1) fun y S2 => up e (evE F c e S2) fun z S3 => .ok (.nx (((e.set i (some x)).set j (some y)).set k (some z))) S3
  | .aug i o a, e, S => match e[i]? with
    | some (some x) => up e (evE F a e S) fun y S1 => up e (lift (fAug o x y S1)) fun z S2 => .ok (.nx (e.set i (some z))) S2
    | _ => .bad
  | .ex a, e, S => up e (evE F a e S) fun _ S1 => .ok (.nx e) S1
  | .ret a, e, S => up e (evE F a e S) fun d S1 => .ok (.rt d) S1
  | .retN, _, S => .ok (.rt .non) S
  | .iff c a b, e, S => up e (truO (evE F c e S)) fun t S1 => match t with
    | true => evSs a e S1
    | false => evSs b e S1
  | .for_ t it b, e, S => up e (evI F it e S) fun src S1 => turns src (fun d e1 S2 => match setT t d e1 with
    | some e2 => evSs b e2 S2
    | none => .bad) fuel 0 e S1
  | .whl c b, e, S => whiles (fun e1 S1 => truO (evE F c e1 S1)) (evSs b) fuel e S
  | .pass, e, S => .ok (.nx e) S
  | .brk, e, S => .ok (.bk e) S
  | .cont, e, S => .ok (.ct e) S
  | .never, _, _ => .bad
  | .rai x, e, S => .exc ⟨x, []⟩ e S
  | .tri b h, e, S => match evSs b e S with
    | .exc x e1 S1 => evH h x e1 S1
    | .ok f S1 => .ok f S1
    | .bad => .bad
def evH : Hs → Xn → Env → Mem → OS
  | .nil, x, e, S => .exc x e S
  | .cons ys zs b r, x, e, S => if x.cls ∈ ys then (match evSs b e S with
    | .ok f S1 => .ok f S1
    | _ => .bad) else if x.cls ∈ zs then evH r x e S else .bad
def evSs : Ss → Env → Mem → OS
  | .nil, e, S => .ok (.nx e) S
  | .cons s r, e, S => match evS s e S with
    | .ok (.nx e1) S1 => evSs r e1 S1
    | .ok (.bk e1) S1 => .ok (.bk e1) S1
    | .ok (.ct e1) S1 => .ok (.ct e1) S1
    | .ok (.rt d) S1 => .ok (.rt d) S1
    | .exc x e1 S1 => .exc x e1 S1
    | .bad => .bad
end
end
/-- a def: how many parameters, how many slots, its body -/
structure Df where
  ar : Nat
  sl : Nat
  body : Ss
def runD (F : Nat → List D → Mem → Out D) (d : Df) (as : List D) (S : Mem) : Out D := if as.length = d.ar then (match evSs F d.body (as.map some ++ List.replicate (d.sl - d.ar) none) S with
  | .ok (.rt v) S1 => .ok v S1
  | .ok (.nx _) S1 => .ok .non S1
  | .exc x _ S1 => .exc x S1
  | _ => .bad) else .bad
/-- the defs of a program, so deep -/
def run (ds : List Df) : Nat → Nat → List D → Mem → Out D
  | 0, _, _, _ => .bad
  | k + 1, f, as, S => match ds[f]? with
    | some d => runD (run ds k) d as S
    | none => .bad
end Mi

set_option Elab.async false
set_option linter.all false
set_option maxRecDepth 100000
set_option maxHeartbeats 4000000
/-! MiE: each form of the plain language does what the form of Python does -/
namespace Mi
open PySem PySem.Spec PyProof.Rows L2

theorem PEimp {X : Cx} {e : Expr} {t t' : TE} (h : PE X e t) (i : ∀ σ H Q, t' σ H Q → t σ H Q) : PE X e t' := ⟨fun pins s σ H Q I q => h.run pins s σ H Q I (i σ H Q q)⟩
theorem PTimp {X : Cx} {e : Expr} {t t' : TT} (h : PT X e t) (i : ∀ σ H Q, t' σ H Q → t σ H Q) : PT X e t' := ⟨fun pins s σ H Q I q => h.run pins s σ H Q I (i σ H Q q)⟩
theorem PWimp {X : Cx} {e : Expr} {t t' : TT} (h : PW X e t) (i : ∀ σ H Q, t' σ H Q → t σ H Q) : PW X e t' := ⟨fun w pins s σ H Q I q => h.run w pins s σ H Q I (i σ H Q q)⟩
theorem PAimp {X : Cx} {e : List Expr} {t t' : TA} (h : PA X e t) (i : ∀ σ H Q, t' σ H Q → t σ H Q) : PA X e t' := ⟨fun pos pins s σ H Q I q => h.run pos pins s σ H Q I (i σ H Q q)⟩
theorem PSimp {X : Cx} {e : Stmt} {t t' : TS} (h : PS X e t) (i : ∀ D σ H, t' D σ H → t D σ H) : PS X e t' := ⟨fun pins s σ H D I q => h.run pins s σ H D I (i D σ H q)⟩
theorem PSsimp {X : Cx} {e : List Stmt} {t t' : TS} (h : PSs X e t) (i : ∀ D σ H, t' D σ H → t D σ H) : PSs X e t' := ⟨fun pins s σ H D I q => h.run pins s σ H D I (i D σ H q)⟩
theorem PGimp {X : Cx} {e : Expr} {t t' : TG} (h : PG X e t) (i : ∀ v σ H Q, t' v σ H Q → t v σ H Q) : PG X e t' := ⟨fun pins s σ H v u Q I r q => h.run pins s σ H v u Q I r (i v σ H Q q)⟩
theorem PIimp {X : Cx} {tg e : Expr} {t t' : TI} (h : PI X tg e t) (i : ∀ σ H Q, t' σ H Q → t σ H Q) : PI X tg e t' := ⟨fun pins s σ H Q I q => h.run pins s σ H Q I (i σ H Q q)⟩
theorem POimp {X : Cx} {e : Option Expr} {t t' : TO} (h : PO X e t) (i : ∀ σ H Q, t' σ H Q → t σ H Q) : PO X e t' := ⟨fun pins s σ H Q I q => h.run pins s σ H Q I (i σ H Q q)⟩

/-! ### the readings -/
abbrev Same2 {α : Type} : Wo → Hp → α → α → Prop := fun _ _ a b => a = b
def tX {α β : Type} (R : PySem.W.Frag → Wo → Hp → α → β → Prop) (K : PySem.W.Frag) (W : WX) (m : Env → Mem → Out α) : L2.St → Hp → (β → Hp → Prop) → Prop :=
  fun σ H Q => ∃ ω S env, Sim K ω S H ∧ EnvR K ω H env σ ∧ Post (R K) K (fun c d H' => W c d σ H') ω H (m env S) Q
abbrev tM (K : PySem.W.Frag) (W : WX) (m : Env → Mem → Out D) : TE := tX RelD K W m
abbrev tMs (K : PySem.W.Frag) (W : WX) (m : Env → Mem → Out (List D)) : TA := tX RelDs K W m
abbrev tMb (K : PySem.W.Frag) (W : WX) (m : Env → Mem → Out Bool) : TT := tX (fun _ => Same2) K W m
abbrev tMo (K : PySem.W.Frag) (W : WX) (m : Env → Mem → Out (Option Int)) : TO := tX (fun _ => Same2) K W m
section
variable {α β γ δ : Type} {R : PySem.W.Frag → Wo → Hp → α → β → Prop} {R2 : PySem.W.Frag → Wo → Hp → γ → δ → Prop} {K : PySem.W.Frag} {W : WX} {σ : L2.St} {H : Hp}
/-- a step, then what follows it -/
theorem tX.bind {m : Env → Mem → Out α} {f : α → Env → Mem → Out γ} {Q : δ → Hp → Prop} (h : tX R2 K W (fun e S => (m e S).bind fun a S1 => f a e S1) σ H Q) {Q1 : β → Hp → Prop}
    (k : ∀ a b ω S env H1, Sim K ω S H1 → EnvR K ω H1 env σ → R K ω H1 a b → Post (R2 K) K (fun c d H' => W c d σ H') ω H1 (f a env S) Q → Q1 b H1) : tX R K W m σ H Q1 := by
  obtain ⟨ω, S, env, hS, hE, q⟩ := h
  exact ⟨ω, S, env, hS, hE, Post.bind q fun a S1 ω1 H1 b L s r p => k a b ω1 S1 env H1 s (hE.later L) r p⟩
theorem tX.mk {m : Env → Mem → Out α} {Q : β → Hp → Prop} {ω : Wo} {S : Mem} {env : Env} (hS : Sim K ω S H) (hE : EnvR K ω H env σ) (q : Post (R K) K (fun c d H' => W c d σ H') ω H (m env S) Q) : tX R K W m σ H Q := ⟨ω, S, env, hS, hE, q⟩
end
section
variable {X : Cx} {W : WX} {e a b c : Expr} {ma mb mc : Env → Mem → Out D}
theorem m_c {d : D} {v : V} (h : PE X e (tC v)) (r : ∀ ω H, RelD X.K ω H d v) : PE X e (tM X.K W fun _ S => .ok d S) :=
  PEimp h fun σ H Q ⟨ω, S, env, hS, hE, q⟩ => q ω H v (.refl ω H) hS (r ω H)
theorem m_v {i : Nat} (h : PE X e (tVar i)) : PE X e (tM X.K W fun e S => match e[i]? with
    | some (some d) => .ok d S
    | _ => .bad) := PEimp h fun σ H Q ⟨ω, S, env, hS, hE, q⟩ => by
  dsimp only at q
  cases hi : env[i]? with
  | none => rw [hi] at q; exact q.elim
  | some o =>
    cases o with
    | none => rw [hi] at q; exact q.elim
    | some d =>
      rw [hi] at q
      obtain ⟨v, h1, h2⟩ := hE.at_ i d hi
      exact ⟨v, h1, q ω H v (.refl ω H) hS h2⟩
/-- a two-place operation by values -/
theorem m_2 {f : D → D → Mem → Option (D × Mem)} (h : PE X e (tOp (rU2 X.K f) (tM X.K W ma) (tM X.K W mb))) : PE X e (tM X.K W fun e S => (ma e S).bind fun x S1 => (mb e S1).bind fun y S2 => lift (f x y S2)) :=
  PEimp h fun σ H Q q => tX.bind q fun x vx ω S env H1 hS hE rx p => ⟨ω, S, env, hS, hE, Post.bind p fun y S2 ω2 H2 vy L s ry p2 => ⟨ω2, S2, x, y, s, rx.later L, ry, p2.lift⟩⟩
theorem m_1 {f : D → Mem → Option (D × Mem)} (h : PE X e (tUn (rU1 X.K f) (tM X.K W ma))) : PE X e (tM X.K W fun e S => (ma e S).bind fun x S1 => lift (f x S1)) :=
  PEimp h fun σ H Q q => tX.bind q fun x vx ω S env H1 hS hE rx p => ⟨ω, S, x, hS, rx, p.lift⟩
theorem cop_ok {X : Cx} (hu : X.A.units + 64 < cLine) (o : Cop) : OpR X (compareOp (match o with
    | .eq => .Eq | .ne => .NotEq | .lt => .Lt | .le => .LtE | .gt => .Gt | .ge => .GtE | .isin => .In | .notin => .NotIn | .same => .Is | .notsame => .IsNot)) (rU2 X.K o.f) := by
  cases o with
  | eq => exact up_eq hu
  | ne => exact up_ne hu
  | lt => exact up_lt (by omega)
  | le => exact up_le
  | gt => exact up_gt
  | ge => exact up_ge
  | isin => exact up_in
  | notin => exact up_nin
  | same => exact up_is
  | notsame => exact up_isn
theorem bop_ok {X : Cx} (o : Bop) : OpR X (binaryOp (match o with
    | .add => .Add | .sub => .Sub | .mul => .Mult | .div => .FloorDiv | .mod => .Mod | .pow => .Pow)) (rU2 X.K o.f) := by
  cases o with
  | add => exact up_add
  | sub => exact up_sub
  | mul => exact up_mul
  | div => exact up_div
  | mod => exact up_mod
  | pow => exact up_pow

/-! ### truth, tests -/
theorem truth_ok {K : PySem.W.Frag} {ω : Wo} {H : Hp} {S : Mem} (s : Sim K ω S H) {d : D} {v : V} {k : Bool} (r : RelD K ω H d v) (h : truth S d = some k) : TruV K v H k := by
  have emp : ∀ {xs : List D} {vs : List V}, RelDs K ω H xs vs → (!xs.isEmpty) = !vs.isEmpty := fun {xs vs} r => by
    cases r <;> rfl
  cases d <;> first | (cases h; done) | skip
  · cases r; cases h; rfl
  · cases r; cases h; rfl
  · cases r; cases h; rfl
  · rename_i cs
    cases r
    have h' : (if cs.length ≤ line then some (!cs.isEmpty) else none) = some k := h
    split at h'
    · rename_i hl
      cases h'
      refine ⟨by rw [strLen]; exact line_le hl, ?_⟩
      rw [strLen]
      cases cs <;> simp
      omega
    · cases h'
  · cases h
    cases r with
    | tup t r1 => exact .inr (.inl ⟨_, t, emp r1⟩)
  · cases h
    cases r with
    | fl t r1 => exact .inl ⟨_, t.seq, emp r1⟩
  · cases r with
    | ref ha =>
      dsimp only [truth] at h
      split at h
      · rename_i e
        cases h
        obtain ⟨vs, h1, r1⟩ := s.lst e ha
        exact .inl ⟨_, SqL.of h1, emp r1⟩
      · rename_i e
        cases h
        obtain ⟨vs, h1, r1⟩ := s.dK e ha
        refine .inr (.inr ⟨_, h1, ?_⟩)
        cases r1 <;> rfl
      · cases h
/-- an expression's truth -/
theorem m_tru (h : PT X e (fun σ H Q => tM X.K W ma σ H fun x H' => ∃ k, TruV X.K x H' k ∧ Q k H')) : PT X e (tMb X.K W fun e S => truO (ma e S)) :=
  PTimp h fun σ H Q q => tX.bind (f := fun d _ S => match truth S d with
    | some b => .ok b S
    | none => .bad) q fun x vx ω S env H1 hS hE rx p => by
    cases e1 : truth S x with
    | none => rw [e1] at p; exact p.elim
    | some k =>
      rw [e1] at p
      exact ⟨k, truth_ok hS rx e1, p ω H1 k (.refl ω H1) hS rfl⟩
theorem tru_and (ma mb : Env → Mem → Out D) : (fun (e : Env) (S : Mem) => truO ((ma e S).bind fun x S1 => match truth S1 x with
    | some true => mb e S1
    | some false => .ok x S1
    | none => .bad)) = fun e S => (truO (ma e S)).bind fun t S1 => match t with
    | true => truO (mb e S1)
    | false => .ok false S1 := by
  funext e S
  cases ma e S with
  | bad => rfl
  | exc x S1 => rfl
  | ok x S1 =>
    show truO (match truth S1 x with | some true => mb e S1 | some false => .ok x S1 | none => .bad) = (match truth S1 x with | some b => Out.ok b S1 | none => .bad).bind _
    cases h : truth S1 x with
    | none => rfl
    | some k =>
      cases k with
      | true => rfl
      | false =>
        show (match truth S1 x with | some b => Out.ok b S1 | none => .bad) = _
        rw [h]
theorem tru_or (ma mb : Env → Mem → Out D) : (fun (e : Env) (S : Mem) => truO ((ma e S).bind fun x S1 => match truth S1 x with
    | some true => .ok x S1
    | some false => mb e S1
    | none => .bad)) = fun e S => (truO (ma e S)).bind fun t S1 => match t with
    | true => .ok true S1
    | false => truO (mb e S1) := by
  funext e S
  cases ma e S with
  | bad => rfl
  | exc x S1 => rfl
  | ok x S1 =>
    show truO (match truth S1 x with | some true => .ok x S1 | some false => mb e S1 | none => .bad) = (match truth S1 x with | some b => Out.ok b S1 | none => .bad).bind _
    cases h : truth S1 x with
    | none => rfl
    | some k =>
      cases k with
      | false => rfl
      | true =>
        show (match truth S1 x with | some b => Out.ok b S1 | none => .bad) = _
        rw [h]
theorem tru_no (ma : Env → Mem → Out D) : (fun (e : Env) (S : Mem) => truO ((truO (ma e S)).bind fun b S1 => .ok (.bl (!b)) S1)) = fun e S => (truO (ma e S)).bind fun b S1 => .ok (!b) S1 := by
  funext e S
  cases truO (ma e S) <;> rfl
variable {rest : List Expr} {pos : Pos} {na nb : Env → Mem → Out Bool}
theorem w_and (h : PW X e (tAnd (tMb X.K W na) (tMb X.K W nb))) : PW X e (tMb X.K W fun e S => (na e S).bind fun t S1 => match t with
    | true => nb e S1
    | false => .ok false S1) := PWimp h fun σ H Q q => show tMb X.K W na σ H (fun c H1 => if c = true then tMb X.K W nb σ H1 Q else Q false H1) from tX.bind (f := fun t e S1 => match t with
    | true => nb e S1
    | false => .ok false S1) q fun t b ω S env H1 hS hE rx p => by
  cases rx
  cases t with
  | true => exact iteT ⟨ω, S, env, hS, hE, p⟩
  | false => exact iteF (p ω H1 false (.refl ω H1) hS rfl)
theorem w_or (h : PW X e (tOr (tMb X.K W na) (tMb X.K W nb))) : PW X e (tMb X.K W fun e S => (na e S).bind fun t S1 => match t with
    | true => .ok true S1
    | false => nb e S1) := PWimp h fun σ H Q q => show tMb X.K W na σ H (fun c H1 => if c = true then Q true H1 else tMb X.K W nb σ H1 Q) from tX.bind (f := fun t e S1 => match t with
    | true => .ok true S1
    | false => nb e S1) q fun t b ω S env H1 hS hE rx p => by
  cases rx
  cases t with
  | false => exact iteF ⟨ω, S, env, hS, hE, p⟩
  | true => exact iteT (p ω H1 true (.refl ω H1) hS rfl)
theorem t_no (h : PT X e (tNot (tMb X.K W na))) : PT X e (tMb X.K W fun e S => (na e S).bind fun b S1 => .ok (!b) S1) := PTimp h fun σ H Q q => show tMb X.K W na σ H (fun c H1 => Q (!c) H1) from tX.bind q fun t b ω S env H1 hS hE rx p => by
  cases rx
  exact p ω H1 _ (.refl ω H1) hS rfl
/-- values by truth -/
theorem m_and (h : PE X e (tAndT X.K (tM X.K W ma) (tM X.K W mb))) : PE X e (tM X.K W fun e S => (ma e S).bind fun x S1 => match truth S1 x with
    | some true => mb e S1
    | some false => .ok x S1
    | none => .bad) := PEimp h fun σ H Q q => show tM X.K W ma σ H (fun x H1 => ∃ k, TruV X.K x H1 k ∧ if k = true then tM X.K W mb σ H1 Q else Q x H1) from tX.bind (f := fun x e S1 => match truth S1 x with
    | some true => mb e S1
    | some false => .ok x S1
    | none => .bad) q fun x vx ω S env H1 hS hE rx p => by
  cases e1 : truth S x with
  | none => rw [e1] at p; exact p.elim
  | some k =>
    rw [e1] at p
    refine ⟨k, truth_ok hS rx e1, ?_⟩
    cases k with
    | true => exact iteT ⟨ω, S, env, hS, hE, p⟩
    | false => exact iteF (p ω H1 vx (.refl ω H1) hS rx)
theorem m_or (h : PE X e (tOrT X.K (tM X.K W ma) (tM X.K W mb))) : PE X e (tM X.K W fun e S => (ma e S).bind fun x S1 => match truth S1 x with
    | some true => .ok x S1
    | some false => mb e S1
    | none => .bad) := PEimp h fun σ H Q q => show tM X.K W ma σ H (fun x H1 => ∃ k, TruV X.K x H1 k ∧ if k = true then Q x H1 else tM X.K W mb σ H1 Q) from tX.bind (f := fun x e S1 => match truth S1 x with
    | some true => .ok x S1
    | some false => mb e S1
    | none => .bad) q fun x vx ω S env H1 hS hE rx p => by
  cases e1 : truth S x with
  | none => rw [e1] at p; exact p.elim
  | some k =>
    rw [e1] at p
    refine ⟨k, truth_ok hS rx e1, ?_⟩
    cases k with
    | false => exact iteF ⟨ω, S, env, hS, hE, p⟩
    | true => exact iteT (p ω H1 vx (.refl ω H1) hS rx)
theorem m_no (h : PE X e (tNotT X.K (tM X.K W ma))) : PE X e (tM X.K W fun e S => (truO (ma e S)).bind fun b S1 => .ok (.bl (!b)) S1) := by
  have eq : (fun (e : Env) (S : Mem) => (truO (ma e S)).bind fun b S1 => Out.ok (D.bl (!b)) S1) = fun e S => (ma e S).bind fun x S1 => match truth S1 x with
    | some b => .ok (.bl (!b)) S1
    | none => .bad := by
    funext e S
    cases ma e S with
    | bad => rfl
    | exc x S1 => rfl
    | ok x S1 =>
      show (match truth S1 x with | some b => Out.ok b S1 | none => .bad).bind _ = match truth S1 x with | some b => Out.ok (D.bl (!b)) S1 | none => .bad
      cases truth S1 x <;> rfl
  rw [eq]
  exact PEimp h fun σ H Q q => show tM X.K W ma σ H (fun x H1 => ∃ k, TruV X.K x H1 k ∧ Q (.bl (!k)) H1) from tX.bind (f := fun x e S1 => match truth S1 x with
    | some b => .ok (D.bl (!b)) S1
    | none => .bad) q fun x vx ω S env H1 hS hE rx p => by
    cases e1 : truth S x with
    | none => rw [e1] at p; exact p.elim
    | some k =>
      rw [e1] at p
      exact ⟨k, truth_ok hS rx e1, p ω H1 _ (.refl ω H1) hS (RelD.bl _)⟩
theorem m_ife (h : PE X e (tIf (tMb X.K W na) (tM X.K W ma) (tM X.K W mb))) : PE X e (tM X.K W fun e S => (na e S).bind fun t S1 => match t with
    | true => ma e S1
    | false => mb e S1) := PEimp h fun σ H Q q => show tMb X.K W na σ H (fun c H1 => if c = true then tM X.K W ma σ H1 Q else tM X.K W mb σ H1 Q) from tX.bind (f := fun t e S1 => match t with
    | true => ma e S1
    | false => mb e S1) q fun t b ω S env H1 hS hE rx p => by
  cases rx
  cases t with
  | true => exact iteT ⟨ω, S, env, hS, hE, p⟩
  | false => exact iteF ⟨ω, S, env, hS, hE, p⟩
/-- a comparison as a test -/
theorem t_cmp {f : D → D → Mem → Option (D × Mem)} (hf : ∀ x y S d S', f x y S = some (d, S') → ∃ k, d = .bl k) (h : PT X e (tTest (tOp (rU2 X.K f) (tM X.K W ma) (tM X.K W mb)))) :
    PT X e (tMb X.K W fun e S => truO ((ma e S).bind fun x S1 => (mb e S1).bind fun y S2 => lift (f x y S2))) := by
  have eq : (fun (e : Env) (S : Mem) => truO ((ma e S).bind fun x S1 => (mb e S1).bind fun y S2 => lift (f x y S2))) = fun e S => (ma e S).bind fun x S1 => (mb e S1).bind fun y S2 => truO (lift (f x y S2)) := by
    funext e S
    cases ma e S with
    | bad => rfl
    | exc x S1 => rfl
    | ok x S1 =>
      show truO ((mb e S1).bind fun y S2 => lift (f x y S2)) = (mb e S1).bind fun y S2 => truO (lift (f x y S2))
      cases mb e S1 <;> rfl
  rw [eq]
  refine PTimp h fun σ H Q q => tX.bind (f := fun x e S1 => (mb e S1).bind fun y S2 => truO (lift (f x y S2))) q fun x vx ω S env H1 hS hE rx p => ⟨ω, S, env, hS, hE, Post.bind (f := fun y S2 => truO (lift (f x y S2))) p fun y S2 ω2 H2 vy L s ry p2 => ⟨ω2, S2, x, y, s, rx.later L, ry, ?_⟩⟩
  cases e1 : f x y S2 with
  | none => rw [e1] at p2; exact p2.elim
  | some z =>
    obtain ⟨d, S3⟩ := z
    obtain ⟨k, rfl⟩ := hf x y S2 d S3 e1
    rw [e1] at p2
    intro ω3 H3 v3 L3 s3 r3
    cases r3
    exact ⟨k, rfl, p2 ω3 H3 k L3 s3 rfl⟩
theorem cop_bl (o : Cop) : ∀ x y S d S', o.f x y S = some (d, S') → ∃ k, d = .bl k := by
  intro x y S d S' h
  have bo : ∀ {o : Option Bool}, boolO o S = some (d, S') → ∃ k, d = .bl k := fun {o} h => by
    cases o with
    | none => cases h
    | some k => cases h; exact ⟨k, rfl⟩
  cases o with
  | eq => exact bo h
  | ne => exact bo h
  | lt => exact bo h
  | le => cases x <;> cases y <;> first | (cases h; done) | (cases h; exact ⟨_, rfl⟩)
  | gt => cases x <;> cases y <;> first | (cases h; done) | (cases h; exact ⟨_, rfl⟩)
  | ge => cases x <;> cases y <;> first | (cases h; done) | (cases h; exact ⟨_, rfl⟩)
  | isin => exact bo h
  | notin => exact bo h
  | same => exact bo h
  | notsame => exact bo h
end
end Mi

set_option Elab.async false
set_option linter.all false
set_option maxRecDepth 100000
set_option maxHeartbeats 4000000
/-! MiE2: arguments, displays, subscripts, calls, walks, comprehensions -/
namespace Mi
open PySem PySem.Spec PyProof.Rows L2
section
variable {X : Cx} {W : WX} {e a b c : Expr} {es : List Expr} {ma mb mc : Env → Mem → Out D} {ms : Env → Mem → Out (List D)} {pos : Pos}
theorem a_nil : PA X [] (tMs X.K W fun _ S => .ok [] S) := PAimp pa_nil fun σ H Q ⟨ω, S, env, hS, hE, q⟩ => q ω H [] (.refl ω H) hS .nil
theorem a_cons (ha : PE X e (tM X.K W ma)) (hr : PA X es (tMs X.K W ms)) (hs : starEach (e :: es) X.env = (false, eval e X.env) :: starEach es X.env) :
    PA X (e :: es) (tMs X.K W fun e S => (ma e S).bind fun x S1 => (ms e S1).bind fun xs S2 => .ok (x :: xs) S2) :=
  PAimp (pa_cons ha hr hs) fun σ H Q q => show tM X.K W ma σ H (fun x H1 => tMs X.K W ms σ H1 fun xs H2 => Q (x :: xs) H2) from
    tX.bind q fun x vx ω S env H1 hS hE rx p => ⟨ω, S, env, hS, hE, Post.bind p fun xs S2 ω2 H2 vs L s rs p2 => p2 ω2 H2 (vx :: vs) (.refl ω2 H2) s (.cons (rx.later L) rs)⟩
theorem a_star {p : Pos} (ha : PE X e (tM X.K W ma)) (hr : PA X es (tMs X.K W ms)) (hs : starEach (.Starred e p :: es) X.env = (true, eval e X.env) :: starEach es X.env) :
    PA X (.Starred e p :: es) (tMs X.K W fun e S => (ma e S).bind fun x S1 => match seqOf S1 x with
      | some ys => (ms e S1).bind fun xs S2 => .ok (ys ++ xs) S2
      | none => .bad) :=
  PAimp (StX.pa_star ha hr hs) fun σ H Q q => show tM X.K W ma σ H (fun x H1 => ∃ p xs, x = V.ref p ∧ (SqT X.K H1 p xs ∨ SqL X.K H1 p xs) ∧ tMs X.K W ms σ H1 fun ys H2 => Q (xs ++ ys) H2) from
    tX.bind (f := fun x e S1 => match seqOf S1 x with
      | some ys => (ms e S1).bind fun xs S2 => Out.ok (ys ++ xs) S2
      | none => Out.bad) q fun x vx ω S env H1 hS hE rx p => by
      cases e1 : seqOf S x with
      | none => rw [e1] at p; exact p.elim
      | some ys =>
        rw [e1] at p
        obtain ⟨a, vs, h1, h2, h3⟩ := seqOf_ok hS rx e1
        exact ⟨a, vs, h1, h2.symm, ω, S, env, hS, hE, Post.bind p fun xs S2 ω2 H2 ws L s rs p2 => p2 ω2 H2 (vs ++ ws) (.refl ω2 H2) s ((h3.later L).append rs)⟩
theorem m_tup (h : PE X e (tTup (tMs X.K W ms))) : PE X e (tM X.K W fun e S => (ms e S).bind fun xs S1 => if xs.length ≤ line then .ok (.tup xs) S1 else .bad) :=
  PEimp h fun σ H Q q => show tMs X.K W ms σ H (fun xs H1 => xs.length ≤ sizeLine ∧ ∀ p, H1 p = none → Q (.ref p) (upd H1 p (.tup xs))) from
    tX.bind (f := fun xs e S1 => if xs.length ≤ line then Out.ok (D.tup xs) S1 else Out.bad) q fun xs vs ω S env H1 hS hE rx p => by
      by_cases hl : xs.length ≤ line
      · rw [if_pos hl] at p
        refine ⟨by rw [← rx.length]; exact line_le hl, fun l hp => ?_⟩
        obtain ⟨s1, L⟩ := hS.new (o := .tup vs) hp
        exact p ω _ _ L s1 (RelD.tup (SqT.of upd_same) (rx.later L))
      · rw [if_neg hl] at p; exact p.elim
theorem m_lst (h : PE X e (tLst (tMs X.K W ms))) : PE X e (tM X.K W fun e S => (ms e S).bind fun xs S1 => if xs.length ≤ line then .ok (.ref S1.length) (S1 ++ [.lst xs]) else .bad) :=
  PEimp h fun σ H Q q => show tMs X.K W ms σ H (fun xs H1 => xs.length ≤ sizeLine ∧ ∀ p, H1 p = none → Q (.ref p) (upd H1 p (.lst xs))) from
    tX.bind (f := fun xs e S1 => if xs.length ≤ line then Out.ok (D.ref S1.length) (S1 ++ [.lst xs]) else Out.bad) q fun xs vs ω S env H1 hS hE rx p => by
      by_cases hl : xs.length ≤ line
      · rw [if_pos hl] at p
        refine ⟨by rw [← rx.length]; exact line_le hl, fun l hp => ?_⟩
        obtain ⟨s1, L, r1⟩ := hS.alloc (o := .lst vs) (c := .lst xs) hp fun ω' L => ⟨vs, upd_same, rx.later L⟩
        exact p _ _ _ L s1 r1
      · rw [if_neg hl] at p; exact p.elim
theorem o_none : PO X none (tMo X.K W fun _ S => .ok none S) := POimp po_none fun σ H Q ⟨ω, S, env, hS, hE, q⟩ => q ω H none (.refl ω H) hS rfl
theorem o_some (ha : PE X e (tM X.K W ma)) : PO X (some e) (tMo X.K W fun e S => (ma e S).bind fun x S1 => match x with
    | .int i => .ok (some i) S1
    | _ => .bad) := POimp (po_some ha) fun σ H Q q => show tM X.K W ma σ H (fun x H1 => ∃ i, x = .int i ∧ Q (some i) H1) from
  tX.bind (f := fun x e S1 => match x with
    | D.int i => Out.ok (some i) S1
    | _ => Out.bad) q fun x vx ω S env H1 hS hE rx p => by
    cases x <;> first | exact p.elim | skip
    cases rx
    exact ⟨_, rfl, p ω H1 _ (.refl ω H1) hS rfl⟩
theorem m_sl {lo hi : Option Expr} {ml mh : Env → Mem → Out (Option Int)} {p2 : Pos} (ha : PE X a (tM X.K W ma)) (hl : PO X lo (tMo X.K W ml)) (hh : PO X hi (tMo X.K W mh)) :
    PE X (.Subscript a (.Slice lo hi none p2) pos) (tM X.K W fun e S => (ma e S).bind fun x S1 => (ml e S1).bind fun l S2 => (mh e S2).bind fun h S3 => lift (fSl x l h S3)) :=
  PEimp (pe_slice up_sl ha hl hh) fun σ H Q q => show tM X.K W ma σ H (fun x H1 => tMo X.K W ml σ H1 fun l H2 => tMo X.K W mh σ H2 fun u H3 => rUsl X.K x l u H3 Q) from
    tX.bind q fun x vx ω S env H1 hS hE rx p => ⟨ω, S, env, hS, hE, Post.bind p fun l S2 ω2 H2 l' L2 s2 r2 p2 => by
      cases r2
      exact ⟨ω2, S2, env, s2, hE.later L2, Post.bind p2 fun h S3 ω3 H3 h' L3 s3 r3 p3 => by
        cases r3
        exact ⟨ω3, S3, x, s3, rx.later (L2.trans L3), p3.lift⟩⟩⟩
theorem m_bi {f : List D → Mem → Option (D × Mem)} (h : PE X e (tCB (rUs X.K f) (tMs X.K W ms))) : PE X e (tM X.K W fun e S => (ms e S).bind fun xs S1 => lift (f xs S1)) :=
  PEimp h fun σ H Q q => show tMs X.K W ms σ H (fun vs H1 => rUs X.K f vs H1 Q) from tX.bind q fun xs vs ω S env H1 hS hE rx p => ⟨ω, S, xs, hS, rx, p.lift⟩

/-! ### methods of built-in types -/
theorem tyV_later {K : PySem.W.Frag} {ω : Wo} {H : Hp} {S : Mem} (s : Sim K ω S H) {d : D} {v : V} (r : RelD K ω H d v) : (isLst S d = true → tyV K "list" v H) ∧ (isStr d = true → tyV K "str" v H) := by
  refine ⟨fun h => ?_, fun h => ?_⟩
  · cases d <;> first | (cases h; done) | skip
    rename_i n
    cases r with
    | ref ha =>
      have h' : (lstAt S n).isSome = true := h
      cases e : lstAt S n with
      | none => rw [e] at h'; cases h'
      | some xs =>
        obtain ⟨vs, h1, _⟩ := s.lst (lstAt_eq e) ha
        exact .inl ⟨rfl, vs, SqL.of h1⟩
  · cases d <;> first | (cases h; done) | skip
    cases r
    rfl
/-- the type and the name of a method -/
def Im.T : Im → String
  | .lAppend | .lExtend | .lPop | .lIndex => "list"
  | .sCount | .sJoin => "str"
def Mt.nm : Mt → Str
  | .append => "append" | .extend => "extend" | .pop => "pop" | .index => "index" | .count => "count" | .join => "join"
theorem sel_ok {m : Mt} {S : Mem} {d : D} {i : Im} (h : m.sel S d = some i) : MtOk X i.T m.nm i.f ∧ ∀ {ω : Wo} {H : Hp} {v : V}, Sim X.K ω S H → RelD X.K ω H d v → tyV X.K i.T v H := by
  cases m <;> (dsimp only [Mt.sel] at h; split at h <;> first | (cases h; done) | skip; cases h)
  · rename_i hc; exact ⟨ok_append, fun s r => (tyV_later s r).1 hc⟩
  · rename_i hc; exact ⟨ok_extend, fun s r => (tyV_later s r).1 hc⟩
  · rename_i hc; exact ⟨ok_pop, fun s r => (tyV_later s r).1 hc⟩
  · rename_i hc; exact ⟨ok_index, fun s r => (tyV_later s r).1 hc⟩
  · rename_i hc; exact ⟨ok_count, fun s r => (tyV_later s r).2 hc⟩
  · rename_i hc; exact ⟨ok_join, fun s r => (tyV_later s r).2 hc⟩
variable {o : Expr} {to : TE} {t : TA} {name : Str} {apos cpos : Pos}
theorem pe_bmU0 (ho : PE X o to) (hbase : attributeBase o name X.env (eval o X.env) = eval o X.env) (hline : (apos.endLine == cpos.line) = true) :
    PE X (.Call (.Attribute o name apos) [] [] cpos) (fun σ H Q => to σ H fun x H1 => ∃ T f, MtOk X T name f ∧ tyV X.K T x H1 ∧ rUm X.K f x [] H1 Q) := by
  refine ⟨fun pins s σ H Q I h => ?_⟩
  refine wpAny_Call_method0_late hbase hline (thn (ho.run pins s σ H _ I h) fun v s1 ⟨x, H1, I1, r1, T, f, ⟨id, pa, slot, hty, hm⟩, ty, q1⟩ => ?_)
  obtain ⟨h1, h2⟩ := tyV_is I1 r1 ty
  exact ⟨T, id, pa, slot, hty, h1, h2, Calls.callWith_builtin rfl (PySem.evalArgs_none (hm pins s1 σ H1 x [] v [] Q I1 r1 .nil q1))⟩
theorem pe_bmU (ho : PE X o to) (ha : PA X (e :: es) t) (hbase : attributeBase o name X.env (eval o X.env) = eval o X.env)
    (hfew : ((backTo cpos (starEach (e :: es) X.env)).all (fun x => !x.1) && (backToKw cpos (keywordEach [] X.env)).all (fun x => x.1.isSome)
      && decide ((e :: es).length + ([] : List Keyword).length + (if ([] : List Keyword).isEmpty then 0 else 1) < 30)) = true)
    (hline : (apos.endLine == cpos.line) = true) (hs : starEach (e :: es) X.env = (false, eval e X.env) :: starEach es X.env) (hplain : (backTo cpos (starEach es X.env)).any (·.1) = false) :
    PE X (.Call (.Attribute o name apos) (e :: es) [] cpos) (fun σ H Q => to σ H fun x H1 => ∃ T f, MtOk X T name f ∧ tyV X.K T x H1 ∧ t σ H1 fun xs H2 => rUm X.K f x xs H2 Q) := by
  refine ⟨fun pins s σ H Q I h => ?_⟩
  refine wpAny_Call_method_late hbase hfew hline rfl (thn (ho.run pins s σ H _ I h) fun v s1 ⟨x, H1, I1, r1, T, f, ⟨id, pa, slot, hty, hm⟩, ty, q1⟩ => ?_)
  obtain ⟨h1, h2⟩ := tyV_is I1 r1 ty
  refine ⟨T, id, pa, slot, hty, h1, h2, ?_⟩
  have hA := ha.run cpos pins s1 σ H1 _ I1 q1
  rw [hs] at hA ⊢
  refine Calls.callWith_builtin (by show (false || (backTo cpos (starEach es X.env)).any (·.1)) = false; rw [hplain] <;> rfl) (Calls.evalArgs_plain ?_)
  exact thn hA fun us s2 ⟨vs, H2, I2, r2, q2⟩ => hm pins s2 σ H2 x vs v us Q I2 r1 r2 q2
theorem m_mt0 {m : Mt} (h : PE X e (fun σ H Q => tM X.K W ma σ H fun x H1 => ∃ T f, MtOk X T m.nm f ∧ tyV X.K T x H1 ∧ rUm X.K f x [] H1 Q)) :
    PE X e (tM X.K W fun e S => (ma e S).bind fun x S1 => match m.sel S1 x with
    | some i => (Out.ok [] S1).bind fun xs S2 => lift (i.f x xs S2)
    | none => .bad) := PEimp h fun σ H Q q => tX.bind (f := fun x e S1 => match m.sel S1 x with
    | some i => (Out.ok [] S1).bind fun xs S2 => lift (i.f x xs S2)
    | none => Out.bad) q fun x vx ω S env H1 hS hE rx p => by
  cases e1 : m.sel S x with
  | none => rw [e1] at p; exact p.elim
  | some i =>
    rw [e1] at p
    obtain ⟨g1, g2⟩ := sel_ok (X := X) e1
    exact ⟨i.T, i.f, g1, g2 hS rx, ω, S, x, [], hS, rx, .nil, p.lift⟩
theorem m_mt {m : Mt} (h : PE X e (fun σ H Q => tM X.K W ma σ H fun x H1 => ∃ T f, MtOk X T m.nm f ∧ tyV X.K T x H1 ∧ tMs X.K W ms σ H1 fun xs H2 => rUm X.K f x xs H2 Q)) :
    PE X e (tM X.K W fun e S => (ma e S).bind fun x S1 => match m.sel S1 x with
    | some i => (ms e S1).bind fun xs S2 => lift (i.f x xs S2)
    | none => .bad) := PEimp h fun σ H Q q => tX.bind (f := fun x e S1 => match m.sel S1 x with
    | some i => (ms e S1).bind fun xs S2 => lift (i.f x xs S2)
    | none => Out.bad) q fun x vx ω S env H1 hS hE rx p => by
  cases e1 : m.sel S x with
  | none => rw [e1] at p; exact p.elim
  | some i =>
    rw [e1] at p
    obtain ⟨g1, g2⟩ := sel_ok (X := X) e1
    exact ⟨i.T, i.f, g1, g2 hS rx, ω, S, env, hS, hE, Post.bind p fun xs S2 ω2 H2 vs L s rs p2 => ⟨ω2, S2, x, xs, s, rx.later L, rs, p2.lift⟩⟩

/-! ### chains of comparisons -/
/-- the reading of a chain -/
theorem chn_read {K : PySem.W.Frag} {f g : D → D → Mem → Option (D × Mem)} (hfb : ∀ x y S d S', f x y S = some (d, S') → ∃ k, d = .bl k) {σ : L2.St} {H : Hp} {Q : VK}
    (q : tM K W (fun e S => (ma e S).bind fun x S1 => (mb e S1).bind fun y S2 => (lift (f x y S2)).bind fun z S3 => match z with
    | .bl true => (mc e S3).bind fun w S4 => lift (g y w S4)
    | .bl false => .ok (.bl false) S3
    | _ => .bad) σ H Q) : tM K W ma σ H fun x H1 => tM K W mb σ H1 fun y H2 => rU2 K f x y H2 fun z H3 => ∃ k, z = .bl k ∧ if k = true then tM K W mc σ H3 fun w H4 => rU2 K g y w H4 Q else Q (.bl false) H3 :=
  tX.bind (f := fun x e S1 => (mb e S1).bind fun y S2 => (lift (f x y S2)).bind fun z S3 => match z with
    | D.bl true => (mc e S3).bind fun w S4 => lift (g y w S4)
    | D.bl false => Out.ok (D.bl false) S3
    | _ => Out.bad) q fun x vx ω S env H1 hS hE rx p => ⟨ω, S, env, hS, hE, Post.bind (f := fun y S2 => (lift (f x y S2)).bind fun z S3 => match z with
    | D.bl true => (mc env S3).bind fun w S4 => lift (g y w S4)
    | D.bl false => Out.ok (D.bl false) S3
    | _ => Out.bad) p fun y S2 ω2 H2 vy L s ry p2 => ⟨ω2, S2, x, y, s, rx.later L, ry, by
      cases e1 : f x y S2 with
      | none => rw [e1] at p2; exact p2.elim
      | some z =>
        obtain ⟨d, S3⟩ := z
        obtain ⟨k, rfl⟩ := hfb x y S2 d S3 e1
        rw [e1] at p2
        intro ω3 H3 v3 L3 s3 r3
        cases r3
        refine ⟨k, rfl, ?_⟩
        cases k with
        | false => exact iteF (p2 ω3 H3 _ L3 s3 (.bl false))
        | true =>
          have p3 : Post (RelD K) K (fun c d H' => W c d σ H') ω3 H3 ((mc env S3).bind fun w S4 => lift (g y w S4)) Q := Post.later L3 p2
          exact iteT ⟨ω3, S3, env, s3, (hE.later L).later L3, Post.bind p3 fun w S4 ω4 H4 vw L4 s4 rw' p4 => ⟨ω4, S4, y, w, s4, ry.later (L3.trans L4), rw', p4.lift⟩⟩⟩⟩
theorem m_chn {f g : D → D → Mem → Option (D × Mem)} {op op' : CmpOp} (hf : OpR X (compareOp op) (rU2 X.K f)) (hg : OpR X (compareOp op') (rU2 X.K g)) (hfb : ∀ x y S d S', f x y S = some (d, S') → ∃ k, d = .bl k)
    (h : PE X e (fun σ H Q => tM X.K W ma σ H fun x H1 => tM X.K W mb σ H1 fun y H2 => rU2 X.K f x y H2 fun z H3 => ∃ k, z = .bl k ∧ if k = true then tM X.K W mc σ H3 fun w H4 => rU2 X.K g y w H4 Q else Q (.bl false) H3)) :
    PE X e (tM X.K W fun e S => (ma e S).bind fun x S1 => (mb e S1).bind fun y S2 => (lift (f x y S2)).bind fun z S3 => match z with
    | .bl true => (mc e S3).bind fun w S4 => lift (g y w S4)
    | .bl false => .ok (.bl false) S3
    | _ => .bad) := PEimp h fun σ H Q q => chn_read hfb q
end
end Mi

set_option Elab.async false
set_option linter.all false
set_option maxRecDepth 100000
set_option maxHeartbeats 4000000
/-! MiE3: calls of defs, ranges, what is walked, comprehensions -/
namespace Mi
open PySem PySem.Spec PyProof.Rows L2

/-! ### calls of defs -/
/-- a def's promise: it does what g does on n arguments -/
def spF (K : PySem.W.Frag) (n : Nat) (g : List D → Mem → Out D) : Sp := fun vs H Q E => ∃ ω S as, Sim K ω S H ∧ RelDs K ω H as vs ∧ as.length = n ∧ Post (RelD K) K E ω H (g as S) Q
section
variable {X : Cx} {W : WX} {e a b c : Expr} {es : List Expr} {ma mb mc : Env → Mem → Out D} {ms : Env → Mem → Out (List D)} {pos p : Pos}
theorem m_call {k n : Nat} {f : Addr} {fd : FuncData} {ps : List Str} {x : Str} {g : List D → Mem → Out D} (F : FnOk X.prog X.w X.K X.mg X.base (L2.CX X.prog X.w) k f fd ps (spF X.K n g)) (hn : ∀ as S, as.length ≠ n → g as S = .bad)
    (hr : Room k X.A) (hg : Gl X x) (hm : X.mg x = some (.ref f)) (hk : PySem.W.keepIn X.K (.ref f) = true) (hb : Binds X.K fd ps []) (tk : Takes X W)
    (ha : PA X (e :: es) (tMs X.K W ms)) (hdb : (x == ("__debug__" : Str)) = false) (he : starEach (e :: es) X.env = (false, eval e X.env) :: starEach es X.env) (hpl : (backTo pos (starEach es X.env)).any (·.1) = false) :
    PE X (.Call (.Name x p) (e :: es) [] pos) (tM X.K W fun e S => (ms e S).bind fun xs S1 => g xs S1) :=
  PEimp (pe_callSD (E := fun σ => fun c d H => W c d σ H) (dvs := []) (ds := []) F hr hg hm hk hb .nil (fun σ => passAt tk σ) ha hdb he hpl) fun σ H Q q =>
    show tMs X.K W ms σ H (fun vs H1 => spF X.K n g (vs ++ []) H1 Q (fun c d H => W c d σ H)) from tX.bind (f := fun xs e S1 => g xs S1) q fun xs vs ω S env H1 hS hE rx p => by
      rw [List.append_nil]
      by_cases hl : xs.length = n
      · exact ⟨ω, S, xs, hS, rx, hl, p⟩
      · rw [hn xs S hl] at p; exact p.elim

/-! ### ranges -/
theorem rel_range {K : PySem.W.Frag} {ω : Wo} {H : Hp} (lo : Int) : ∀ (l : List Nat), RelDs K ω H (l.map fun i => D.int (lo + (i : Nat))) (l.map fun i => V.int (lo + (i : Nat)))
  | [] => .nil
  | i :: r => .cons (.int _) (rel_range lo r)
theorem m_lrg1 (h : PE X e (tLstRg (tRg1 (tM X.K W ma)))) : PE X e (tM X.K W fun e S => (ma e S).bind fun x S1 => lift (rngLst S1 [x])) :=
  PEimp h fun σ H Q q => show tM X.K W ma σ H (fun x H1 => ∃ n, x = .int n ∧ (RgOk 0 n ∧ ∀ q, H1 q = none → Q (.ref q) (upd H1 q (.lst (rgV 0 n))))) from
    tX.bind (f := fun x e S1 => lift (rngLst S1 [x])) q fun x vx ω S env H1 hS hE rx p => by
      cases x <;> first | exact p.elim | skip
      rename_i n
      cases rx
      have p' : Post (RelD X.K) X.K (fun c d H' => W c d σ H') ω H1 (lift (if 0 ≤ n ∧ n ≤ 16777216 then some (D.ref S.length, S ++ [.lst (rangeD 0 n.toNat)]) else none)) Q := p
      by_cases hc : 0 ≤ n ∧ n ≤ 16777216
      · rw [if_pos hc] at p'
        refine ⟨n, rfl, RgOk.of_le (by omega) hc.2 (by omega) hc.1, fun l hl => ?_⟩
        have r : RelDs X.K ω H1 (rangeD 0 n.toNat) (rgV 0 n) := by
          unfold rangeD rgV
          rw [show (n - 0).toNat = n.toNat by omega]
          exact rel_range 0 _
        exact PostO.newLst hS r p'.lift hl
      · rw [if_neg hc] at p'; exact p'.elim
theorem m_lrg2 (h : PE X e (tLstRg (tRg2 (tM X.K W ma) (tM X.K W mb)))) : PE X e (tM X.K W fun e S => (ma e S).bind fun x S1 => (mb e S1).bind fun y S2 => lift (rngLst S2 [x, y])) :=
  PEimp h fun σ H Q q => show tM X.K W ma σ H (fun x H1 => tM X.K W mb σ H1 fun y H2 => ∃ i j, x = .int i ∧ y = .int j ∧ (RgOk i j ∧ ∀ q, H2 q = none → Q (.ref q) (upd H2 q (.lst (rgV i j))))) from
    tX.bind (f := fun x e S1 => (mb e S1).bind fun y S2 => lift (rngLst S2 [x, y])) q fun x vx ω S env H1 hS hE rx p => ⟨ω, S, env, hS, hE, Post.bind (f := fun y S2 => lift (rngLst S2 [x, y])) p fun y S2 ω2 H2 vy L s ry p2 => by
      cases x <;> cases y <;> first | exact p2.elim | skip
      rename_i i j
      cases rx
      cases ry
      have p' : Post (RelD X.K) X.K (fun c d H' => W c d σ H') ω2 H2 (lift (if 0 ≤ i ∧ i ≤ 16777216 ∧ 0 ≤ j ∧ j ≤ 16777216 then some (D.ref S2.length, S2 ++ [.lst (rangeD i (j - i).toNat)]) else none)) Q := p2
      by_cases hc : 0 ≤ i ∧ i ≤ 16777216 ∧ 0 ≤ j ∧ j ≤ 16777216
      · rw [if_pos hc] at p'
        exact ⟨i, j, rfl, rfl, RgOk.of_le hc.1 hc.2.2.2 hc.2.1 hc.2.2.1, fun l hl => PostO.newLst s (rel_range i _) p'.lift hl⟩
      · rw [if_neg hc] at p'; exact p'.elim⟩

/-! ### what is walked -/
/-- J walks src -/
def SrcR (K : PySem.W.Frag) (ω : Wo) (H : Hp) (src : Src) (J : L2.It) : Prop := ∀ ω' H' S i, Later ω H ω' H' → Sim K ω' S H' →
  (∀ d, src.at_ S i = some (some d) → J.go i H' ∧ ∀ x H2, J.yld i H' x H2 → ∃ ω2, Later ω' H' ω2 H2 ∧ Sim K ω2 S H2 ∧ RelD K ω2 H2 d x) ∧ (src.at_ S i = some none → J.stop i H')
abbrev tMi (K : PySem.W.Frag) (W : WX) (m : Env → Mem → Out Src) : TI := tX SrcR K W m
variable {tg : Expr}
theorem src_range {K : PySem.W.Frag} {ω : Wo} {H : Hp} (lo : Int) (n : Nat) : SrcR K ω H (.items (rangeD lo n)) (Itr lo n) := fun ω' H' S i L s => by
  have hl : (rangeD lo n).length = n := by unfold rangeD; rw [List.length_map, List.length_range]
  refine ⟨fun d h => ?_, fun h => ?_⟩
  · have h1 : (rangeD lo n)[i]? = some d := Option.some.inj h
    have hi : i < n := by
      have := (List.getElem?_eq_some_iff.mp h1).1
      omega
    have h2 : (rangeD lo n)[i]? = some (.int (lo + (i : Nat))) := by
      unfold rangeD
      rw [List.getElem?_map, List.getElem?_range hi]
      rfl
    rw [h2] at h1
    cases h1
    exact ⟨hi, fun x H2 y => by
      obtain ⟨rfl, rfl⟩ := y
      exact ⟨ω', .refl _ _, s, .int _⟩⟩
  · have h1 : (rangeD lo n)[i]? = none := Option.some.inj h
    have := List.getElem?_eq_none_iff.mp h1
    show n ≤ i
    omega
theorem src_rangeC {K : PySem.W.Frag} {ω : Wo} {H : Hp} (lo c : Int) (n : Nat) : SrcR K ω H (.items (rangeC lo c n)) (Itc lo c n) := fun ω' H' S i L s => by
  have hl : (rangeC lo c n).length = n := by unfold rangeC; rw [List.length_map, List.length_range]
  refine ⟨fun d h => ?_, fun h => ?_⟩
  · have h1 : (rangeC lo c n)[i]? = some d := Option.some.inj h
    have hi : i < n := by
      have := (List.getElem?_eq_some_iff.mp h1).1
      omega
    have h2 : (rangeC lo c n)[i]? = some (.int (lo + (i : Nat) * c)) := by
      unfold rangeC
      rw [List.getElem?_map, List.getElem?_range hi]
      rfl
    rw [h2] at h1
    cases h1
    exact ⟨hi, fun x H2 y => by
      obtain ⟨rfl, rfl⟩ := y
      exact ⟨ω', .refl _ _, s, .int _⟩⟩
  · have h1 : (rangeC lo c n)[i]? = none := Option.some.inj h
    have := List.getElem?_eq_none_iff.mp h1
    show n ≤ i
    omega
theorem src_tup {K : PySem.W.Frag} {ω : Wo} {H : Hp} {a : Addr} {xs : List D} {vs : List V} (h : SqT K H a vs) (r : RelDs K ω H xs vs) : SrcR K ω H (.items xs) (Itt K a) := fun ω' H' S i L s => by
  have h' := sqt_later L h
  have r' := r.later L
  refine ⟨fun d hd => ?_, fun hd => ?_⟩
  · have h1 : xs[i]? = some d := Option.some.inj hd
    obtain ⟨v, h2, rv⟩ := r'.get h1
    refine ⟨⟨vs, v, h', h2⟩, fun x H2 y => ?_⟩
    obtain ⟨rfl, hy⟩ := y
    have e := hy vs h'
    rw [h2] at e
    cases e
    exact ⟨ω', .refl _ _, s, rv⟩
  · have h1 : xs[i]? = none := Option.some.inj hd
    have := List.getElem?_eq_none_iff.mp h1
    exact ⟨vs, h', by rw [← r.length]; exact this⟩
theorem src_fl {K : PySem.W.Frag} {ω : Wo} {H : Hp} {a : Addr} {xs : List D} {vs : List V} (h : FxL K H a vs) (r : RelDs K ω H xs vs) : SrcR K ω H (.items xs) (Itl K a) := fun ω' H' S i L s => by
  have h' := (fxl_later L h).seq
  have r' := r.later L
  refine ⟨fun d hd => ?_, fun hd => ?_⟩
  · have h1 : xs[i]? = some d := Option.some.inj hd
    obtain ⟨v, h2, rv⟩ := r'.get h1
    refine ⟨⟨vs, v, h', h2⟩, fun x H2 y => ?_⟩
    obtain ⟨rfl, hy⟩ := y
    have e := hy vs h'
    rw [h2] at e
    cases e
    exact ⟨ω', .refl _ _, s, rv⟩
  · have h1 : xs[i]? = none := Option.some.inj hd
    have := List.getElem?_eq_none_iff.mp h1
    exact ⟨vs, h', by rw [← r.length]; exact this⟩
theorem src_cell {K : PySem.W.Frag} {ω : Wo} {H : Hp} {a : Addr} {n : Nat} (h : ω.ρ[n]? = some a) : SrcR K ω H (.cell n) (Itl K a) := fun ω' H' S i L s => by
  have h' := L.get h
  have e : ∀ {o}, (Src.cell n).at_ S i = some o → ∃ xs, lstAt S n = some xs ∧ o = xs[i]? := fun {o} z => by
    have z' : (match lstAt S n with | some xs => some xs[i]? | none => none) = some o := z
    cases q : lstAt S n with
    | none => rw [q] at z'; cases z'
    | some xs => rw [q] at z'; exact ⟨xs, rfl, (Option.some.inj z').symm⟩
  refine ⟨fun d hd => ?_, fun hd => ?_⟩
  · obtain ⟨xs, h1, h2⟩ := e hd
    obtain ⟨vs, h3, r⟩ := s.lst (lstAt_eq h1) h'
    obtain ⟨v, h4, rv⟩ := r.get h2.symm
    refine ⟨⟨vs, v, SqL.of h3, h4⟩, fun x H2 y => ?_⟩
    obtain ⟨rfl, hy⟩ := y
    have e := hy vs (SqL.of h3)
    rw [h4] at e
    cases e
    exact ⟨ω', .refl _ _, s, rv⟩
  · obtain ⟨xs, h1, h2⟩ := e hd
    obtain ⟨vs, h3, r⟩ := s.lst (lstAt_eq h1) h'
    have := List.getElem?_eq_none_iff.mp h2.symm
    exact ⟨vs, SqL.of h3, by rw [← r.length]; exact this⟩
theorem src_str {K : PySem.W.Frag} {ω : Wo} {H : Hp} (cs : List Nat) : SrcR K ω H (.items (cs.map fun c => D.str [c])) (Its ⟨cs.toArray⟩) := fun ω' H' S i L s => by
  refine ⟨fun d hd => ?_, fun hd => ?_⟩
  · have h1 : (cs.map fun c => D.str [c])[i]? = some d := Option.some.inj hd
    rw [List.getElem?_map] at h1
    cases e : cs[i]? with
    | none => rw [e] at h1; cases h1
    | some c =>
      rw [e] at h1
      cases h1
      refine ⟨by show i < cs.toArray.size; rw [List.size_toArray]; exact (List.getElem?_eq_some_iff.mp e).1, fun x H2 y => ?_⟩
      obtain ⟨rfl, c', hc', rfl⟩ := y
      have e2 : cs[i]? = some c' := by simpa using hc'
      rw [e] at e2
      cases e2
      exact ⟨ω', .refl _ _, s, .str [c]⟩
  · have h1 : (cs.map fun c => D.str [c])[i]? = none := Option.some.inj hd
    have := List.getElem?_eq_none_iff.mp h1
    rw [List.length_map] at this
    show cs.toArray.size ≤ i
    rw [List.size_toArray]
    exact this
/-- any list, tuple or text -/
theorem pi_any {l : Expr} {tl : TE} (hl : PE X l tl) : PI X tg l (fun σ H R => tl σ H fun x H1 => (∃ a, x = .ref a ∧ (∃ xs, SqL X.K H1 a xs) ∧ R (Itl X.K a) H1) ∨ (∃ a, x = .ref a ∧ (∃ xs, SqT X.K H1 a xs) ∧ R (Itt X.K a) H1) ∨ ∃ z, x = .str z ∧ R (Its z) H1) := by
  refine ⟨fun pins s σ H R I h => ?_⟩
  refine thn (hl.run pins s σ H _ I h) fun v s1 ⟨x, H1, I1, r1, q1⟩ => ?_
  rcases q1 with ⟨a, e, ⟨xs, hq⟩, q⟩ | ⟨a, e, ⟨xs, hq⟩, q⟩ | ⟨z, e, q⟩
  · subst e
    cases r1
    obtain ⟨its, rv, p, hz⟩ := I1.list hq
    refine wpAny_pyIter_list p.isList ?_
    refine ⟨s1.heap.objs.size, [s1.heap.objs.size], _, _, H1, rfl, I1.kept (t' := s1.toks) fun b o e => Heap.get?_push_of_some _ e, turn_list a _, ⟨_, Heap.get?_push_size _ rfl, rfl, rfl⟩, fun b hb => ?_, q⟩
    have e : b = s1.heap.objs.size := by simpa using hb
    subst e
    exact I1.fpOk (Nat.le_refl _) (I1.hok.fresh (Nat.le_refl _))
  · subst e
    cases r1
    obtain ⟨its, rv, p, hz⟩ := I1.tuple hq
    refine wpAny_pyIter_tuple (show s1.heap.IsTuple a its.toArray from p) ?_
    refine ⟨s1.heap.objs.size, [s1.heap.objs.size], _, _, H1, rfl, I1.kept (t' := s1.toks) fun b o e => Heap.get?_push_of_some _ e, turn_tuple a _, ⟨_, Heap.get?_push_size _ rfl, rfl, rfl⟩, fun b hb => ?_, q⟩
    have e : b = s1.heap.objs.size := by simpa using hb
    subst e
    exact I1.fpOk (Nat.le_refl _) (I1.hok.fresh (Nat.le_refl _))
  · subst e
    obtain ⟨t, rfl⟩ := r1
    cases ha : z.cps.all (· < 128)
    · exact wpAny_pyIter_wide ha (pi_one (tk := s1.toks) I1 _ (turn_str _ z t "str_iterator" (.inr rfl)) ⟨_, Heap.get?_push_size _ rfl, rfl, rfl⟩ q)
    · exact wpAny_pyIter_ascii ha (pi_one (tk := s1.toks) I1 _ (turn_str _ z t "str_ascii_iterator" (.inl rfl)) ⟨_, Heap.get?_push_size _ rfl, rfl, rfl⟩ q)
theorem i_of (h : PE X e (tM X.K W ma)) : PI X tg e (tMi X.K W fun e S => (ma e S).bind fun x S1 => match srcOf S1 x with
    | some s => .ok s S1
    | none => .bad) := PIimp (pi_any h) fun σ H R q => tX.bind (f := fun x e S1 => match srcOf S1 x with
    | some s => Out.ok s S1
    | none => Out.bad) q fun x vx ω S env H1 hS hE rx p => by
  cases e1 : srcOf S x with
  | none => rw [e1] at p; exact p.elim
  | some src =>
    rw [e1] at p
    have fin : ∀ {J : L2.It}, SrcR X.K ω H1 src J → R J H1 := fun {J} r => p ω H1 J (.refl _ _) hS r
    cases x <;> first | (cases e1; done) | skip
    · cases e1
      cases rx
      exact .inr (.inr ⟨_, rfl, fin (src_str _)⟩)
    · cases e1
      cases rx with
      | tup t r1 => exact .inr (.inl ⟨_, rfl, ⟨_, t⟩, fin (src_tup t r1)⟩)
    · cases e1
      cases rx with
      | fl t r1 => exact .inl ⟨_, rfl, ⟨_, t.seq⟩, fin (src_fl t r1)⟩
    · rename_i n
      cases rx with
      | ref ha =>
        have e2 : (match lstAt S n with | some _ => some (Src.cell n) | none => none) = some src := e1
        cases e3 : lstAt S n with
        | none => rw [e3] at e2; cases e2
        | some xs =>
          rw [e3] at e2
          cases e2
          obtain ⟨vs, h3, _⟩ := hS.lst (lstAt_eq e3) ha
          exact .inl ⟨_, rfl, ⟨vs, SqL.of h3⟩, fin (src_cell ha)⟩
theorem i_rng1 (h : PI X tg e (iRng1 (tCons (tM X.K W ma) tNil))) : PI X tg e (tMi X.K W fun e S => (ma e S).bind fun x S1 => match rngSrc [x] with
    | some s => .ok s S1
    | none => .bad) := PIimp h fun σ H R q => show tM X.K W ma σ H (fun x H1 => ∃ j : Int, [x] = [.int j] ∧ -(2 ^ 62) ≤ j ∧ j < 2 ^ 62 ∧ R (Itr 0 j.toNat) H1) from
  tX.bind (f := fun x e S1 => match rngSrc [x] with
    | some s => Out.ok s S1
    | none => Out.bad) q fun x vx ω S env H1 hS hE rx p => by
    cases x <;> first | exact p.elim | skip
    rename_i n
    cases rx
    have p' : Post (SrcR X.K) X.K (fun c d H' => W c d σ H') ω H1 (match (if okR n = true then some (Src.items (rangeD 0 n.toNat)) else none) with
      | some s => Out.ok s S
      | none => Out.bad) R := p
    by_cases hc : okR n = true
    · rw [if_pos hc] at p'
      have hc' := okR_iff.mp hc
      exact ⟨n, rfl, by omega, by omega, p' ω H1 _ (.refl _ _) hS (src_range 0 _)⟩
    · rw [if_neg hc] at p'; exact p'.elim
theorem i_rng2 (h : PI X tg e (iRng2 (tCons (tM X.K W ma) (tCons (tM X.K W mb) tNil)))) : PI X tg e (tMi X.K W fun e S => (ma e S).bind fun x S1 => (mb e S1).bind fun y S2 => match rngSrc [x, y] with
    | some s => .ok s S2
    | none => .bad) := PIimp h fun σ H R q => show tM X.K W ma σ H (fun x H1 => tM X.K W mb σ H1 fun y H2 => ∃ i j : Int, [x, y] = [.int i, .int j] ∧ (-(2 ^ 62) ≤ i ∧ i < 2 ^ 62 ∧ -(2 ^ 62) ≤ j ∧ j < 2 ^ 62) ∧ R (Itr i (j - i).toNat) H2) from
  tX.bind (f := fun x e S1 => (mb e S1).bind fun y S2 => match rngSrc [x, y] with
    | some s => Out.ok s S2
    | none => Out.bad) q fun x vx ω S env H1 hS hE rx p => ⟨ω, S, env, hS, hE, Post.bind (f := fun y S2 => match rngSrc [x, y] with
    | some s => Out.ok s S2
    | none => Out.bad) p fun y S2 ω2 H2 vy L s ry p2 => by
      cases x <;> cases y <;> first | exact p2.elim | skip
      rename_i i j
      cases rx
      cases ry
      have p' : Post (SrcR X.K) X.K (fun c d H' => W c d σ H') ω2 H2 (match (if (okR i && okR j) = true then some (Src.items (rangeD i (j - i).toNat)) else none) with
        | some s => Out.ok s S2
        | none => Out.bad) R := p2
      by_cases hc : (okR i && okR j) = true
      · rw [if_pos hc] at p'
        obtain ⟨k1, k2⟩ := Bool.and_eq_true_iff.mp hc
        have h1 := okR_iff.mp k1
        have h2 := okR_iff.mp k2
        exact ⟨i, j, rfl, ⟨by omega, by omega, by omega, by omega⟩, p' ω2 H2 _ (.refl _ _) s (src_range i _)⟩
      · rw [if_neg hc] at p'; exact p'.elim⟩
theorem i_rng3 (h : PI X tg e (iRng3 (tCons (tM X.K W ma) (tCons (tM X.K W mb) (tCons (tM X.K W mc) tNil))))) : PI X tg e (tMi X.K W fun e S => (ma e S).bind fun x S1 => (mb e S1).bind fun y S2 => (mc e S2).bind fun z S3 => match rngSrc [x, y, z] with
    | some s => .ok s S3
    | none => .bad) := PIimp h fun σ H R q => show tM X.K W ma σ H (fun x H1 => tM X.K W mb σ H1 fun y H2 => tM X.K W mc σ H2 fun z H3 => ∃ (i j c : Int) (n : Nat), [x, y, z] = [.int i, .int j, .int c] ∧ RgC i j c n ∧ R (Itc i c n) H3) from
  tX.bind (f := fun x e S1 => (mb e S1).bind fun y S2 => (mc e S2).bind fun z S3 => match rngSrc [x, y, z] with
    | some s => Out.ok s S3
    | none => Out.bad) q fun x vx ω S env H1 hS hE rx p => ⟨ω, S, env, hS, hE, Post.bind (f := fun y S2 => (mc env S2).bind fun z S3 => match rngSrc [x, y, z] with
    | some s => Out.ok s S3
    | none => Out.bad) p fun y S2 ω2 H2 vy L s ry p2 => ⟨ω2, S2, env, s, hE.later L, Post.bind (f := fun z S3 => match rngSrc [x, y, z] with
    | some s => Out.ok s S3
    | none => Out.bad) p2 fun z S3 ω3 H3 vz L3 s3 rz p3 => by
      cases x <;> cases y <;> cases z <;> first | exact p3.elim | skip
      rename_i i j c
      cases rx
      cases ry
      cases rz
      have p' : Post (SrcR X.K) X.K (fun c d H' => W c d σ H') ω3 H3 (match (if (okR i && okR j && okR c && c != 0 && decide (c.natAbs < 1073741824) && Builtin.Range.small i j c && decide (0 ≤ Builtin.Range.rangeSize i j c)) = true then some (Src.items (rangeC i c (Builtin.Range.rangeSize i j c).toNat)) else none) with
        | some s => Out.ok s S3
        | none => Out.bad) R := p3
      by_cases hc : (okR i && okR j && okR c && c != 0 && decide (c.natAbs < 1073741824) && Builtin.Range.small i j c && decide (0 ≤ Builtin.Range.rangeSize i j c)) = true
      · rw [if_pos hc] at p'
        obtain ⟨hc, c4⟩ := Bool.and_eq_true_iff.mp hc
        obtain ⟨hc, c3⟩ := Bool.and_eq_true_iff.mp hc
        obtain ⟨c1, c2⟩ := Bool.and_eq_true_iff.mp hc
        obtain ⟨_, c1⟩ := Bool.and_eq_true_iff.mp c1
        have c1' : c ≠ 0 := by simpa using c1
        have c2' := of_decide_eq_true c2
        have c4' := of_decide_eq_true c4
        exact ⟨i, j, c, (Builtin.Range.rangeSize i j c).toNat, rfl, ⟨c1', c2', c3, (Int.toNat_of_nonneg c4').symm⟩, p' ω3 H3 _ (.refl _ _) s3 (src_rangeC i c _)⟩
      · rw [if_neg hc] at p'; exact p'.elim⟩⟩
end
end Mi

set_option Elab.async false
set_option linter.all false
set_option maxRecDepth 100000
set_option maxHeartbeats 4000000
/-! MiE4: names as targets, comprehensions -/
namespace Mi
open PySem PySem.Spec PyProof.Rows L2

mutual
/-- the slots of a target -/
def slotsT : Tn → List Nat
  | .nm i => [i]
  | .tup ts => slotsTs ts
def slotsTs : Tns → List Nat
  | .nil => []
  | .cons t r => slotsT t ++ slotsTs r
end
/-- σ' differs from σ at slots in l alone -/
def But (l : List Nat) (σ σ' : L2.St) : Prop := σ'.length = σ.length ∧ ∀ j, j ∉ l → σ'[j]? = σ[j]?
theorem But.refl (l : List Nat) (σ : L2.St) : But l σ σ := ⟨rfl, fun _ _ => rfl⟩
theorem But.trans {l m : List Nat} {σ σ1 σ2 : L2.St} (a : But l σ σ1) (b : But m σ1 σ2) : But (l ++ m) σ σ2 :=
  ⟨b.1.trans a.1, fun j h => (b.2 j fun z => h (List.mem_append_right _ z)).trans (a.2 j fun z => h (List.mem_append_left _ z))⟩
theorem wipe_get (σ : L2.St) (i : Nat) : ∀ vs : List Nat, (wipe σ vs)[i]? = if i ∈ vs then (if i < σ.length then some none else none) else σ[i]?
  | [] => by simp [wipe]
  | v :: vs => by
    show ((wipe σ vs).set v none)[i]? = _
    by_cases h : v = i
    · subst h
      rw [if_pos List.mem_cons_self]
      by_cases hl : v < σ.length
      · rw [if_pos hl, List.getElem?_set_self (by rw [wipe_length]; exact hl)]
      · rw [if_neg hl]
        exact List.getElem?_eq_none (by rw [List.length_set, wipe_length]; omega)
    · rw [List.getElem?_set_ne h, wipe_get σ i vs]
      have : (i ∈ v :: vs) = (i ∈ vs) := by simp [Ne.symm h]
      simp only [this]
theorem But.wipe {l vs : List Nat} {σ σ' : L2.St} (b : But l σ σ') (h : ∀ i ∈ l, i ∈ vs) : L2.wipe σ' vs = L2.wipe σ vs := by
  apply List.ext_getElem?
  intro i
  rw [wipe_get, wipe_get]
  by_cases hi : i ∈ vs
  · rw [if_pos hi, if_pos hi, b.1]
  · rw [if_neg hi, if_neg hi, b.2 i fun z => hi (h i z)]
theorem wipe_wipe (σ : L2.St) (vs : List Nat) : L2.wipe (L2.wipe σ vs) vs = L2.wipe σ vs := by
  apply List.ext_getElem?
  intro i
  rw [wipe_get, wipe_get]
  by_cases hi : i ∈ vs
  · rw [if_pos hi, if_pos hi, wipe_length]
  · rw [if_neg hi, if_neg hi]
theorem env_wipe {K : PySem.W.Frag} {ω : Wo} {H : Hp} {env : Env} {σ : L2.St} (e : EnvR K ω H env σ) : ∀ vs : List Nat, EnvR K ω H (wipeE env vs) (L2.wipe σ vs)
  | [] => e
  | v :: vs => (env_wipe e vs).drop v

/-- a store by names -/
def tGn (K : PySem.W.Frag) (t : Tn) : TG := fun v σ H Q => ∃ ω S env d, Sim K ω S H ∧ EnvR K ω H env σ ∧ RelD K ω H d v ∧ match setT t d env with
  | some env' => ∀ σ', EnvR K ω H env' σ' → But (slotsT t) σ σ' → Q σ' H
  | none => False
def tGns (K : PySem.W.Frag) (ts : Tns) : TGs := fun vs σ H Q => ∃ ω S env ds, Sim K ω S H ∧ EnvR K ω H env σ ∧ RelDs K ω H ds vs ∧ match setTs ts ds env with
  | some env' => ∀ σ', EnvR K ω H env' σ' → But (slotsTs ts) σ σ' → Q σ' H
  | none => False
section
variable {X : Cx} {e : Expr} {es : List Expr} {pos : Pos}
theorem g_nm {i : Nat} (h : PG X e (gName i)) : PG X e (tGn X.K (.nm i)) := PGimp h fun v σ H Q ⟨ω, S, env, d, hS, hE, r, q⟩ => by
  have q' : ∀ σ', EnvR X.K ω H (env.set i (some d)) σ' → But [i] σ σ' → Q σ' H := q
  refine q' _ (hE.set i r) ⟨by rw [List.length_set], fun j hj => List.getElem?_set_ne (fun z => hj (by simp [z]))⟩
theorem g_nil : PGs X [] (tGns X.K .nil) := ⟨fun pins s σ H vs us Q I r ⟨ω, S, env, ds, hS, hE, rd, q⟩ => pgs_nil.run pins s σ H vs us Q I r (by
  cases ds with
  | nil =>
    have q' : ∀ σ', EnvR X.K ω H env σ' → But [] σ σ' → Q σ' H := q
    exact ⟨rd.zero, q' σ hE (.refl _ _)⟩
  | cons d dr => exact q.elim)⟩
theorem g_cons {t : Tn} {ts : Tns} (h1 : PG X e (tGn X.K t)) (h2 : PGs X es (tGns X.K ts)) (hs : (assignEach (e :: es) X.env).map (·.2) = assign e X.env :: (assignEach es X.env).map (·.2)) : PGs X (e :: es) (tGns X.K (.cons t ts)) :=
  ⟨fun pins s σ H vs us Q I r ⟨ω, S, env, ds, hS, hE, rd, q⟩ => (pgs_cons h1 h2 hs).run pins s σ H vs us Q I r (by
    cases ds with
    | nil => exact q.elim
    | cons d dr =>
      cases rd with
      | cons r1 r2 =>
        have q' : match (match setT t d env with | some e1 => setTs ts dr e1 | none => none) with
          | some env' => ∀ σ', EnvR X.K ω H env' σ' → But (slotsT t ++ slotsTs ts) σ σ' → Q σ' H
          | none => False := q
        refine ⟨_, _, rfl, ω, S, env, d, hS, hE, r1, ?_⟩
        cases e1 : setT t d env with
        | none => rw [e1] at q'; exact q'.elim
        | some env1 =>
          rw [e1] at q'
          intro σ1 hE1 b1
          refine ⟨ω, S, env1, dr, hS, hE1, r2, ?_⟩
          dsimp only at q'
          cases e2 : setTs ts dr env1 with
          | none => rw [e2] at q'; exact q'.elim
          | some env2 =>
            rw [e2] at q'
            intro σ2 hE2 b2
            exact q' σ2 hE2 (b1.trans b2))⟩
/-- how many targets -/
def Tns.len : Tns → Nat
  | .nil => 0
  | .cons _ r => r.len + 1
theorem setTs_len : ∀ {ts : Tns} {ds : List D} {env env' : Env}, setTs ts ds env = some env' → ds.length = ts.len
  | .nil, [], _, _, _ => rfl
  | .nil, _ :: _, _, _, h => by cases h
  | .cons t r, [], _, _, h => by cases h
  | .cons t r, d :: dr, env, env', h => by
    have h' : (match setT t d env with | some e1 => setTs r dr e1 | none => none) = some env' := h
    cases e : setT t d env with
    | none => rw [e] at h'; cases h'
    | some e1 =>
      rw [e] at h'
      rw [List.length_cons, setTs_len h']
      rfl
theorem g_tup {ts : Tns} {k : Nat} (hc : X.calm = true) (h : PGs X es (tGns X.K ts)) (hn : (assignEach es X.env).length = ts.len) (hst : (assignEach es X.env).findIdx? (·.1) = none) : PG X (.Tuple es k pos) (tGn X.K (.tup ts)) :=
  PGimp (pg_tup hc h hn hst) fun v σ H Q ⟨ω, S, env, d, hS, hE, r, q⟩ => by
    cases d with
    | tup ds =>
      cases r with
      | tup t r1 =>
        have q' : match setTs ts ds env with
          | some env' => ∀ σ', EnvR X.K ω H env' σ' → But (slotsTs ts) σ σ' → Q σ' H
          | none => False := q
        refine ⟨_, _, rfl, t, ?_, ω, S, env, ds, hS, hE, r1, q'⟩
        cases e : setTs ts ds env with
        | none => rw [e] at q'; exact q'.elim
        | some env' => rw [← r1.length]; exact setTs_len e
    | _ => exact q.elim
end

/-! ### comprehensions -/
abbrev WF : WX := fun _ _ _ _ => False
section
variable {X : Cx} {W : WX} {elt tg iter e : Expr} {ifs : List Expr} {scope : Scope} {own : List (Str × Nat)} {pos : Pos} {mi : Env → Mem → Out Src} {mt : Env → Mem → Out Bool} {me : Env → Mem → Out D} {t : Tn}
/-- the reading of a comprehension -/
theorem lc_read {K : PySem.W.Frag} {vs : List Nat} (ht : ∀ i ∈ slotsT t, i ∈ vs) {σ : L2.St} {H : Hp} {Q : VK}
    (q : tM K W (fun e S => (mi e S).bind fun src S1 => (comps src (fun d => setT t d (wipeE e vs)) mt me S1.length fuel 0 (S1 ++ [.lst []])).bind fun _ S2 => .ok (.ref S1.length) S2) σ H Q) :
    tLc (tMi K W mi) (tGn K t) (tMb K WF mt) (tM K WF me) vs σ H Q := by
  refine (tX.bind (f := fun src e S1 => (comps src (fun d => setT t d (wipeE e vs)) mt me S1.length fuel 0 (S1 ++ [.lst []])).bind fun _ S2 => Out.ok (D.ref S1.length) S2) q fun src J ω S env H1 hS hE hJ p => ?_ : tMi K W mi σ H _)
  intro l hl
  obtain ⟨s1, L1, r1⟩ := hS.alloc (o := .lst []) (c := .lst []) hl fun ω' L => ⟨[], upd_same, .nil⟩
  have hl1 : ((⟨ω.ρ ++ [l], ω.fz⟩ : Wo).ρ)[S.length]? = some l := by
    cases r1 with
    | ref h => exact h
  refine ⟨fun i m H' => ∃ ω' S', Later ω H1 ω' H' ∧ Sim K ω' S' H' ∧ ω'.ρ[S.length]? = some l ∧ Post (RelD K) K (fun c d H' => W c d σ H') ω' H'
    ((comps src (fun d => setT t d (wipeE env vs)) mt me S.length m i S').bind fun _ S2 => Out.ok (D.ref S.length) S2) Q, ⟨fuel, _, _, L1, s1, hl1, Post.later L1 p⟩, ?_⟩
  rintro i m H' ⟨ω', S', L', s', hl', p'⟩
  cases m with
  | zero => exact p'.elim
  | succ m =>
    obtain ⟨go, stop⟩ := hJ ω' H' S' i L' s'
    have p2 : Post (RelD K) K (fun c d H' => W c d σ H') ω' H' (Out.bind (match src.at_ S' i with
      | none => .bad
      | some none => .ok () S'
      | some (some d) => match setT t d (wipeE env vs) with
        | none => .bad
        | some e => match mt e S' with
          | .ok false S1 => comps src (fun d => setT t d (wipeE env vs)) mt me S.length m (i + 1) S1
          | .ok true S1 => (match me e S1 with
            | .ok y S2 => (match lstAt S2 S.length with
              | some acc => if acc.length < line then comps src (fun d => setT t d (wipeE env vs)) mt me S.length m (i + 1) (S2.set S.length (.lst (acc ++ [y]))) else .bad
              | none => .bad)
            | _ => .bad)
          | _ => .bad) fun _ S2 => Out.ok (D.ref S.length) S2) Q := p'
    cases e0 : src.at_ S' i with
    | none => rw [e0] at p2; exact p2.elim
    | some od =>
      rw [e0] at p2
      cases od with
      | none => exact .inl ⟨stop e0, p2 ω' H' _ (.refl _ _) s' (.ref hl')⟩
      | some d =>
        obtain ⟨g1, g2⟩ := go d e0
        refine .inr ⟨g1, fun H' => ∃ ω' S', Later ω H1 ω' H' ∧ Sim K ω' S' H' ∧ ω'.ρ[S.length]? = some l ∧ Post (RelD K) K (fun c d H' => W c d σ H') ω' H'
          ((comps src (fun d => setT t d (wipeE env vs)) mt me S.length m (i + 1) S').bind fun _ S2 => Out.ok (D.ref S.length) S2) Q, fun H'' h => ⟨m, Nat.lt_succ_self m, h⟩, fun x H2 y => ?_⟩
        obtain ⟨ω2, L2, s2, rd⟩ := g2 x H2 y
        have L02 := L'.trans L2
        dsimp only at p2
        refine ⟨ω2, S', wipeE env vs, d, s2, env_wipe (hE.later L02) vs, rd, ?_⟩
        cases e1 : setT t d (wipeE env vs) with
        | none => rw [e1] at p2; exact p2.elim
        | some env1 =>
          rw [e1] at p2
          dsimp only at p2
          intro σ2 hE2 b2
          refine ⟨by rw [b2.wipe ht, wipe_wipe], ω2, S', env1, s2, hE2, ?_⟩
          cases e2 : mt env1 S' with
          | bad => rw [e2] at p2; exact p2.elim
          | exc x S1 => rw [e2] at p2; exact p2.elim
          | ok b S1 =>
            rw [e2] at p2
            intro ω3 H3 b' L3 s3 rb
            cases rb
            have l3 : ω3.ρ[S.length]? = some l := (L2.trans L3).get hl'
            cases b with
            | false => exact iteF ⟨ω3, S1, L02.trans L3, s3, l3, Post.later (L2.trans L3) p2⟩
            | true =>
              dsimp only at p2
              refine iteT ⟨ω3, S1, env1, s3, hE2.later L3, ?_⟩
              cases e3 : me env1 S1 with
              | bad => rw [e3] at p2; exact p2.elim
              | exc x S2 => rw [e3] at p2; exact p2.elim
              | ok y S2 =>
                rw [e3] at p2
                intro ω4 H4 yv L4 s4 ry
                dsimp only at p2
                cases e4 : lstAt S2 S.length with
                | none => rw [e4] at p2; exact p2.elim
                | some acc =>
                  rw [e4] at p2
                  dsimp only at p2
                  by_cases hz : acc.length < line
                  · rw [if_pos hz] at p2
                    have l4 : ω4.ρ[S.length]? = some l := L4.get l3
                    obtain ⟨ws, h5, r5⟩ := s4.lst (lstAt_eq e4) l4
                    obtain ⟨s6, L6⟩ := s4.write (c' := .lst (acc ++ [y])) (o := .lst (ws ++ [yv])) (lstAt_eq e4) rfl l4 fun L => ⟨_, upd_same, (r5.append (.cons ry .nil)).later L⟩
                    have L26 := (L2.trans L3).trans (L4.trans L6)
                    exact ⟨ws, h5, by rw [← r5.length]; exact line_lt hz, ω4, _, L'.trans L26, s6, l4, Post.later L26 p2⟩
                  · rw [if_neg hz] at p2; exact p2.elim
theorem m_lc (hc : X.calm = true) (hN : X.N.Nodup) (hi : PI X tg iter (tMi X.K W mi)) (ok : BlkOk X.N X.env.scope scope own) (ho : ∀ i ∈ slotsT t, i ∈ own.map (·.2))
    (hg : ∀ (s : Shared) (H : Hp) (C : Addr) (cl : List (Str × Addr)) (fp : List Addr), PG (X.blk s H scope (compEnvC scope cl C X.env) fp) tg (tGn X.K t)) (ht : ∀ (s : Shared) (H : Hp) (C : Addr) (cl : List (Str × Addr)) (fp : List Addr), PTs (X.blk s H scope (compEnvC scope cl C X.env) fp) ifs (tMb X.K WF mt))
    (he : ∀ (s : Shared) (H : Hp) (C : Addr) (cl : List (Str × Addr)) (fp : List Addr), PE (X.blk s H scope (compEnvC scope cl C X.env) fp) elt (tM X.K WF me)) (hs : ∀ x, foldedSetIterable iter X.env x = pure x) :
    PE X (.ListComp elt [⟨tg, iter, ifs, 0⟩] scope pos) (tM X.K W fun e S => (mi e S).bind fun src S1 => (comps src (fun d => setT t d (wipeE e (own.map (·.2)))) mt me S1.length fuel 0 (S1 ++ [.lst []])).bind fun _ S2 => .ok (.ref S1.length) S2) :=
  PEimp (pe_lc hc hN hi ok hg ht he hs) fun σ H Q q => lc_read ho q
end
end Mi

set_option Elab.async false
set_option linter.all false
set_option maxRecDepth 100000
set_option maxHeartbeats 4000000
/-! MiE5: statements -/
namespace Mi
open PySem PySem.Spec PyProof.Rows L2

def PostS (K : PySem.W.Frag) (W : WX) (ω : Wo) (H : Hp) (o : OS) (D : Ends) : Prop := match o with
  | .ok (.nx e) S => ∀ ω' H' σ', Later ω H ω' H' → Sim K ω' S H' → EnvR K ω' H' e σ' → D.nx σ' H'
  | .ok (.bk e) S => ∀ ω' H' σ', Later ω H ω' H' → Sim K ω' S H' → EnvR K ω' H' e σ' → D.bk σ' H'
  | .ok (.ct e) S => ∀ ω' H' σ', Later ω H ω' H' → Sim K ω' S H' → EnvR K ω' H' e σ' → D.ct σ' H'
  | .ok (.rt d) S => ∀ ω' H' v, Later ω H ω' H' → Sim K ω' S H' → RelD K ω' H' d v → D.rt v H'
  | .exc x e S => ∀ ω' H' σ' c d, Later ω H ω' H' → Sim K ω' S H' → EnvR K ω' H' e σ' → RelX K ω' H' x c d → W c d σ' H'
  | .bad => False
def tS (K : PySem.W.Frag) (W : WX) (m : Env → Mem → OS) : TS := fun D σ H => ∃ ω S env, Sim K ω S H ∧ EnvR K ω H env σ ∧ PostS K W ω H (m env S) D
section
variable {K : PySem.W.Frag} {W : WX} {ω ω' : Wo} {H H' : Hp} {D : Ends} {σ : L2.St}
theorem PostS.later {o : OS} (L : Later ω H ω' H') (h : PostS K W ω H o D) : PostS K W ω' H' o D := by
  cases o with
  | ok f S =>
    cases f with
    | nx e => exact fun ω2 H2 σ2 L2 => h ω2 H2 σ2 (L.trans L2)
    | bk e => exact fun ω2 H2 σ2 L2 => h ω2 H2 σ2 (L.trans L2)
    | ct e => exact fun ω2 H2 σ2 L2 => h ω2 H2 σ2 (L.trans L2)
    | rt d => exact fun ω2 H2 v L2 => h ω2 H2 v (L.trans L2)
  | exc x e S => exact fun ω2 H2 σ2 c d L2 => h ω2 H2 σ2 c d (L.trans L2)
  | bad => exact h
/-- an expression's step within a statement -/
theorem PostS.up {α β : Type} {R : PySem.W.Frag → Wo → Hp → α → β → Prop} {o : Out α} {env : Env} {f : α → Mem → OS} (hE : EnvR K ω H env σ) (h : PostS K W ω H (Mi.up env o f) D) {Q : β → Hp → Prop}
    (k : ∀ a b ω1 S1 H1, Later ω H ω1 H1 → Sim K ω1 S1 H1 → R K ω1 H1 a b → PostS K W ω1 H1 (f a S1) D → Q b H1) : Post (R K) K (fun c d H' => W c d σ H') ω H o Q := by
  cases o with
  | ok a S => exact fun ω1 H1 b L s r => k a b ω1 S H1 L s r (PostS.later L h)
  | exc x S => exact fun ω1 H1 c d L s r => h ω1 H1 σ c d L s (hE.later L) r
  | bad => exact h
theorem tS.up {α β : Type} {R : PySem.W.Frag → Wo → Hp → α → β → Prop} {m : Env → Mem → Out α} {f : α → Env → Mem → OS} (h : tS K W (fun e S => Mi.up e (m e S) fun a S1 => f a e S1) D σ H) {Q : β → Hp → Prop}
    (k : ∀ a b ω S env H1, Sim K ω S H1 → EnvR K ω H1 env σ → R K ω H1 a b → PostS K W ω H1 (f a env S) D → Q b H1) : tX R K W m σ H Q := by
  obtain ⟨ω, S, env, hS, hE, q⟩ := h
  exact ⟨ω, S, env, hS, hE, PostS.up hE q fun a b ω1 S1 H1 L s r p => k a b ω1 S1 env H1 s (hE.later L) r p⟩
end
/-- a store at a target -/
def tG (K : PySem.W.Frag) (W : WX) (m : D → Env → Mem → Out Env) : TG := fun v σ H Q => ∃ ω S env d, Sim K ω S H ∧ EnvR K ω H env σ ∧ RelD K ω H d v ∧
  Post (EnvR K) K (fun c d H' => W c d σ H') ω H (m d env S) Q
section
variable {X : Cx} {W : WX} {e a b c tg iter : Expr} {ma mb mc : Env → Mem → Out D} {mt : Env → Mem → Out Bool} {mi : Env → Mem → Out Src} {pos : Pos} {st : Stmt} {n1 n2 : Env → Mem → OS}
theorem gt_n {t : Tn} {v : V} {σ : L2.St} {H : Hp} {Q : L2.St → Hp → Prop} (h : tG X.K W (fun d e S => match setT t d e with
    | some e1 => .ok e1 S
    | none => .bad) v σ H Q) : tGn X.K t v σ H Q := by
  obtain ⟨ω, S, env, d, hS, hE, r, q⟩ := h
  refine ⟨ω, S, env, d, hS, hE, r, ?_⟩
  dsimp only at q
  cases e1 : setT t d env with
  | none => rw [e1] at q; exact q.elim
  | some env' => rw [e1] at q; exact fun σ' hE' _ => q ω H σ' (.refl _ _) hS hE'
theorem gt_nm {i : Nat} {v : V} {σ : L2.St} {H : Hp} {Q : L2.St → Hp → Prop} (h : tG X.K W (fun d e S => match setT (.nm i) d e with
    | some e1 => .ok e1 S
    | none => .bad) v σ H Q) : gName i v σ H Q := by
  obtain ⟨ω, S, env, d, hS, hE, r, q⟩ := h
  have q' : Post (EnvR X.K) X.K (fun c d H' => W c d σ H') ω H (.ok (env.set i (some d)) S) Q := q
  exact q' ω H _ (.refl _ _) hS (hE.set i r)
theorem gt_sub {v : V} {σ : L2.St} {H : Hp} {Q : L2.St → Hp → Prop} (h : tG X.K W (fun d e S => (ma e S).bind fun x S1 => (mb e S1).bind fun y S2 => match fSet x y d S2 with
    | some S3 => .ok e S3
    | none => .bad) v σ H Q) : gSub (tM X.K W ma) (tM X.K W mb) (rUset X.K) v σ H Q := by
  obtain ⟨ω, S, env, d, hS, hE, r, q⟩ := h
  refine ⟨ω, S, env, hS, hE, Post.bind (f := fun x S1 => (mb env S1).bind fun y S2 => match fSet x y d S2 with
    | some S3 => Out.ok env S3
    | none => Out.bad) q fun x S1 ω1 H1 vx L1 s1 rx p1 => ⟨ω1, S1, env, s1, hE.later L1, Post.bind (f := fun y S2 => match fSet x y d S2 with
    | some S3 => Out.ok env S3
    | none => Out.bad) p1 fun y S2 ω2 H2 vy L2 s2 ry p2 => ⟨ω2, S2, x, y, d, s2, rx.later L2, ry, r.later (L1.trans L2), ?_⟩⟩⟩
  cases e1 : fSet x y d S2 with
  | none => rw [e1] at p2; exact p2.elim
  | some S3 => rw [e1] at p2; exact fun ω3 H3 L3 s3 => p2 ω3 H3 σ L3 s3 (hE.later ((L1.trans L2).trans L3))
/-- target = value -/
theorem s_asg {te : TE} {g : TG} {mg : D → Env → Mem → Out Env} (h : PS X st (tAsg te g)) (i1 : ∀ σ H Q, tM X.K W ma σ H Q → te σ H Q) (i2 : ∀ v σ H Q, tG X.K W mg v σ H Q → g v σ H Q) :
    PS X st (tS X.K W fun e S => up e (ma e S) fun d S1 => up e (mg d e S1) fun e1 S2 => .ok (.nx e1) S2) :=
  PSimp h fun D σ H q => i1 σ H _ (tS.up (f := fun d e S1 => up e (mg d e S1) fun e1 S2 => .ok (.nx e1) S2) q fun d v ω S env H1 hS hE r p => i2 v σ H1 _ ⟨ω, S, env, d, hS, hE, r, by
    cases e1 : mg d env S with
    | bad => rw [e1] at p; exact p.elim
    | exc x S1 => rw [e1] at p; exact fun ω2 H2 c dd L s rx => p ω2 H2 σ c dd L s (hE.later L) rx
    | ok env1 S1 => rw [e1] at p; exact fun ω2 H2 σ2 L s hE2 => p ω2 H2 σ2 L s hE2⟩)
theorem s_par2 {i j : Nat} (h : PS X st (tPar i j (tCons (tM X.K W ma) (tCons (tM X.K W mb) tNil)))) :
    PS X st (tS X.K W fun e S => up e (ma e S) fun x S1 => up e (mb e S1) fun y S2 => .ok (.nx ((e.set i (some x)).set j (some y))) S2) :=
  PSimp h fun D σ H q => show tM X.K W ma σ H (fun x H1 => tM X.K W mb σ H1 fun y H2 => ∃ v w, [x, y] = [v, w] ∧ D.nx ((σ.set i (some v)).set j (some w)) H2) from
    tS.up (f := fun x e S1 => up e (mb e S1) fun y S2 => .ok (.nx ((e.set i (some x)).set j (some y))) S2) q fun x vx ω S env H1 hS hE rx p => ⟨ω, S, env, hS, hE, PostS.up hE p fun y vy ω2 S2 H2 L s ry p2 =>
      ⟨vx, vy, rfl, p2 ω2 H2 _ (.refl _ _) s (((hE.later L).set i (rx.later L)).set j ry)⟩⟩
theorem s_par3 {i j k : Nat} (h : PS X st (tPar3 i j k (tCons (tM X.K W ma) (tCons (tM X.K W mb) (tCons (tM X.K W mc) tNil))))) :
    PS X st (tS X.K W fun e S => up e (ma e S) fun x S1 => up e (mb e S1) fun y S2 => up e (mc e S2) fun z S3 => .ok (.nx (((e.set i (some x)).set j (some y)).set k (some z))) S3) :=
  PSimp h fun D σ H q => show tM X.K W ma σ H (fun x H1 => tM X.K W mb σ H1 fun y H2 => tM X.K W mc σ H2 fun z H3 => ∃ u v w, [x, y, z] = [u, v, w] ∧ D.nx (((σ.set i (some u)).set j (some v)).set k (some w)) H3) from
    tS.up (f := fun x e S1 => up e (mb e S1) fun y S2 => up e (mc e S2) fun z S3 => .ok (.nx (((e.set i (some x)).set j (some y)).set k (some z))) S3) q fun x vx ω S env H1 hS hE rx p =>
      ⟨ω, S, env, hS, hE, PostS.up hE p fun y vy ω2 S2 H2 L s ry p2 => ⟨ω2, S2, env, s, hE.later L, PostS.up (hE.later L) p2 fun z vz ω3 S3 H3 L3 s3 rz p3 =>
        ⟨vx, vy, vz, rfl, p3 ω3 H3 _ (.refl _ _) s3 (((((hE.later L).later L3).set i ((rx.later L).later L3)).set j (ry.later L3)).set k rz)⟩⟩⟩
/-- x op= y -/
theorem up_aug (o : Bop) : PIp X (match o with
    | .add => .Add | .sub => .Sub | .mul => .Mult | .div => .FloorDiv | .mod => .Mod | .pow => .Pow) (rU2 X.K (fAug o)) := by
  intro pins s σ H x y v u Q I rx ry h
  obtain ⟨ω, S, a, b, hS, ra, rb, q⟩ := h
  unfold fAug at q
  split at q
  · cases ra
    cases rb
    exact ip_add pins s σ H _ _ v u Q I rx ry ⟨_, _, rfl, rfl, q.give hS (.int _)⟩
  · cases ra
    cases rb
    exact ip_sub pins s σ H _ _ v u Q I rx ry ⟨_, _, rfl, rfl, q.give hS (.int _)⟩
  · rename_i c1 c2
    cases ra
    cases rb
    by_cases hl : c1.length + c2.length ≤ line
    · rw [if_pos hl] at q
      exact iop_add_str pins s σ H _ _ v u Q I rx ry ⟨_, _, rfl, rfl, by rw [strLen, strLen]; exact line_le hl, by rw [strApp]; exact q.give hS (.str _)⟩
    · rw [if_neg hl] at q; exact q.elim
  · exact q.elim
theorem s_aug {i : Nat} {o : Bop} (h : PS X st (tAug i (tM X.K W ma) (rU2 X.K (fAug o)))) : PS X st (tS X.K W fun e S => match e[i]? with
    | some (some x) => up e (ma e S) fun y S1 => up e (lift (fAug o x y S1)) fun z S2 => .ok (.nx (e.set i (some z))) S2
    | _ => .bad) := PSimp h fun D σ H q => by
  obtain ⟨ω, S, env, hS, hE, q⟩ := q
  dsimp only at q
  cases hi : env[i]? with
  | none => rw [hi] at q; exact q.elim
  | some od =>
    cases od with
    | none => rw [hi] at q; exact q.elim
    | some x =>
      rw [hi] at q
      dsimp only at q
      obtain ⟨vx, h1, rx⟩ := hE.at_ i x hi
      refine ⟨vx, h1, ω, S, env, hS, hE, PostS.up hE q fun y vy ω1 S1 H1 L s ry p => ⟨ω1, S1, x, y, s, rx.later L, ry, ?_⟩⟩
      exact (PostS.up (R := RelD) (σ := σ) (hE.later L) p fun z vz ω2 S2 H2 L2 s2 rz p2 => p2 ω2 H2 _ (.refl _ _) s2 (((hE.later L).later L2).set i rz)).lift
theorem s_ex (h : PS X st (tDrop (tM X.K W ma))) : PS X st (tS X.K W fun e S => up e (ma e S) fun _ S1 => .ok (.nx e) S1) :=
  PSimp h fun D σ H q => show tM X.K W ma σ H (fun _ H1 => D.nx σ H1) from tS.up (f := fun _ e S1 => .ok (.nx e) S1) q fun x vx ω S env H1 hS hE rx p => p ω H1 σ (.refl _ _) hS hE
theorem s_ret (h : PS X st (tRet (tM X.K W ma))) : PS X st (tS X.K W fun e S => up e (ma e S) fun d S1 => .ok (.rt d) S1) :=
  PSimp h fun D σ H q => show tM X.K W ma σ H D.rt from tS.up (f := fun d e S1 => .ok (.rt d) S1) q fun x vx ω S env H1 hS hE rx p => p ω H1 vx (.refl _ _) hS rx
theorem s_retN (h : PS X st tRetN) : PS X st (tS X.K W fun _ S => .ok (.rt .non) S) := PSimp h fun D σ H ⟨ω, S, env, hS, hE, q⟩ => q ω H .non (.refl _ _) hS .non
theorem s_iff {t u : TS} (h : PS X st (tIfS (tMb X.K W mt) (tS X.K W n1) (tS X.K W n2))) : PS X st (tS X.K W fun e S => up e (mt e S) fun t S1 => match t with
    | true => n1 e S1
    | false => n2 e S1) :=
  PSimp h fun D σ H q => show tMb X.K W mt σ H (fun b H1 => if b = true then tS X.K W n1 D σ H1 else tS X.K W n2 D σ H1) from tS.up (f := fun t e S1 => match t with
    | true => n1 e S1
    | false => n2 e S1) q fun t b ω S env H1 hS hE rb p => by
    cases rb
    cases t with
    | true => exact iteT ⟨ω, S, env, hS, hE, p⟩
    | false => exact iteF ⟨ω, S, env, hS, hE, p⟩
theorem s_pass (h : PS X st tNext) : PS X st (tS X.K W fun e S => .ok (.nx e) S) := PSimp h fun D σ H ⟨ω, S, env, hS, hE, q⟩ => q ω H σ (.refl _ _) hS hE
theorem s_brk (h : PS X st tBreak) : PS X st (tS X.K W fun e S => .ok (.bk e) S) := PSimp h fun D σ H ⟨ω, S, env, hS, hE, q⟩ => q ω H σ (.refl _ _) hS hE
theorem s_cont (h : PS X st tCont) : PS X st (tS X.K W fun e S => .ok (.ct e) S) := PSimp h fun D σ H ⟨ω, S, env, hS, hE, q⟩ => q ω H σ (.refl _ _) hS hE
theorem s_never : PS X st (tS X.K W fun _ _ => .bad) := PSimp ps_never fun D σ H ⟨ω, S, env, hS, hE, q⟩ => q
/-! ### blocks -/
variable {sts : List Stmt}
theorem ss_nil : PSs X [] (tS X.K W fun e S => .ok (.nx e) S) := PSsimp pss_nil fun D σ H ⟨ω, S, env, hS, hE, q⟩ => q ω H σ (.refl _ _) hS hE
theorem ss_cons (h1 : PS X st (tS X.K W n1)) (h2 : PSs X sts (tS X.K W n2)) : PSs X (st :: sts) (tS X.K W fun e S => match n1 e S with
    | .ok (.nx e1) S1 => n2 e1 S1
    | .ok (.bk e1) S1 => .ok (.bk e1) S1
    | .ok (.ct e1) S1 => .ok (.ct e1) S1
    | .ok (.rt d) S1 => .ok (.rt d) S1
    | .exc x e1 S1 => .exc x e1 S1
    | .bad => .bad) := PSsimp (pss_cons h1 h2) fun D σ H ⟨ω, S, env, hS, hE, q⟩ => by
  refine ⟨ω, S, env, hS, hE, ?_⟩
  dsimp only at q
  cases e1 : n1 env S with
  | bad => rw [e1] at q; exact q.elim
  | exc x env1 S1 => rw [e1] at q; exact q
  | ok f S1 =>
    rw [e1] at q
    cases f with
    | nx env1 => exact fun ω1 H1 σ1 L s hE1 => ⟨ω1, S1, env1, s, hE1, PostS.later L q⟩
    | bk env1 => exact q
    | ct env1 => exact q
    | rt d => exact q
/-! ### loops -/
theorem s_whl (h : PS X st (tWhile (tMb X.K W mt) (tS X.K W n1))) : PS X st (tS X.K W fun e S => whiles mt n1 fuel e S) := PSimp h fun D σ H ⟨ω, S, env, hS, hE, q⟩ => by
  refine ⟨fun m σ H => ∃ ω S env, Sim X.K ω S H ∧ EnvR X.K ω H env σ ∧ PostS X.K W ω H (whiles mt n1 m env S) D, ⟨fuel, ω, S, env, hS, hE, q⟩, ?_⟩
  rintro m σ H ⟨ω, S, env, hS, hE, q⟩
  cases m with
  | zero => exact q.elim
  | succ m =>
    have q2 : PostS X.K W ω H (match mt env S with
      | .bad => .bad
      | .exc x S1 => .exc x env S1
      | .ok false S1 => .ok (.nx env) S1
      | .ok true S1 => match n1 env S1 with
        | .ok (.nx e1) S2 => whiles mt n1 m e1 S2
        | .ok (.ct e1) S2 => whiles mt n1 m e1 S2
        | .ok (.bk e1) S2 => .ok (.nx e1) S2
        | .ok (.rt d) S2 => .ok (.rt d) S2
        | .exc x e1 S2 => .exc x e1 S2
        | .bad => .bad) D := q
    refine ⟨ω, S, env, hS, hE, ?_⟩
    cases e0 : mt env S with
    | bad => rw [e0] at q2; exact q2.elim
    | exc x S1 => rw [e0] at q2; exact fun ω1 H1 c d L s r => q2 ω1 H1 σ c d L s (hE.later L) r
    | ok b S1 =>
      rw [e0] at q2
      intro ω1 H1 b' L1 s1 rb
      cases rb
      cases b with
      | false => exact iteF (q2 ω1 H1 σ L1 s1 (hE.later L1))
      | true =>
        dsimp only at q2
        refine iteT ⟨fun σ' H' => ∃ ω S env, Sim X.K ω S H' ∧ EnvR X.K ω H' env σ' ∧ PostS X.K W ω H' (whiles mt n1 m env S) D, fun σ' H' h => ⟨m, Nat.lt_succ_self m, h⟩, ω1, S1, env, s1, hE.later L1, ?_⟩
        cases e1 : n1 env S1 with
        | bad => rw [e1] at q2; exact q2.elim
        | exc x env1 S2 => rw [e1] at q2; exact PostS.later (D := { D with nx := _, ct := _, bk := D.nx }) L1 q2
        | ok f S2 =>
          rw [e1] at q2
          cases f with
          | nx env1 => exact fun ω2 H2 σ2 L s hE2 => ⟨ω2, S2, env1, s, hE2, PostS.later (L1.trans L) q2⟩
          | ct env1 => exact fun ω2 H2 σ2 L s hE2 => ⟨ω2, S2, env1, s, hE2, PostS.later (L1.trans L) q2⟩
          | bk env1 => exact fun ω2 H2 σ2 L s hE2 => q2 ω2 H2 σ2 (L1.trans L) s hE2
          | rt d => exact fun ω2 H2 v L s r => q2 ω2 H2 v (L1.trans L) s r
theorem s_for {t : Tn} (h : PS X st (tFor (tMi X.K W mi) (tGn X.K t) (tS X.K W n1))) : PS X st (tS X.K W fun e S => up e (mi e S) fun src S1 => turns src (fun d e1 S2 => match setT t d e1 with
    | some e2 => n1 e2 S2
    | none => .bad) fuel 0 e S1) := PSimp h fun D σ H q => by
  refine (tS.up (f := fun src e S1 => turns src (fun d e1 S2 => match setT t d e1 with
    | some e2 => n1 e2 S2
    | none => .bad) fuel 0 e S1) q fun src J ω S env H1 hS hE hJ p => ?_ : tMi X.K W mi σ H _)
  refine ⟨fun i m σ' H' => ∃ ω' S' env', Later ω H1 ω' H' ∧ Sim X.K ω' S' H' ∧ EnvR X.K ω' H' env' σ' ∧ PostS X.K W ω' H' (turns src (fun d e1 S2 => match setT t d e1 with
    | some e2 => n1 e2 S2
    | none => .bad) m i env' S') D, ⟨fuel, ω, S, env, .refl _ _, hS, hE, p⟩, ?_⟩
  rintro i m σ' H' ⟨ω', S', env', L', s', hE', p'⟩
  cases m with
  | zero => exact p'.elim
  | succ m =>
    obtain ⟨go, stop⟩ := hJ ω' H' S' i L' s'
    have p2 : PostS X.K W ω' H' (match src.at_ S' i with
      | none => .bad
      | some none => .ok (.nx env') S'
      | some (some d) => match (match setT t d env' with
        | some e2 => n1 e2 S'
        | none => .bad) with
        | .ok (.nx e1) S1 => turns src (fun d e1 S2 => match setT t d e1 with
          | some e2 => n1 e2 S2
          | none => .bad) m (i + 1) e1 S1
        | .ok (.ct e1) S1 => turns src (fun d e1 S2 => match setT t d e1 with
          | some e2 => n1 e2 S2
          | none => .bad) m (i + 1) e1 S1
        | .ok (.bk e1) S1 => .ok (.nx e1) S1
        | .ok (.rt d) S1 => .ok (.rt d) S1
        | .exc x e1 S1 => .exc x e1 S1
        | .bad => .bad) D := p'
    cases e0 : src.at_ S' i with
    | none => rw [e0] at p2; exact p2.elim
    | some od =>
      rw [e0] at p2
      cases od with
      | none => exact .inl ⟨stop e0, p2 ω' H' σ' (.refl _ _) s' hE'⟩
      | some d =>
        obtain ⟨g1, g2⟩ := go d e0
        refine .inr ⟨g1, fun σ' H' => ∃ ω' S' env', Later ω H1 ω' H' ∧ Sim X.K ω' S' H' ∧ EnvR X.K ω' H' env' σ' ∧ PostS X.K W ω' H' (turns src (fun d e1 S2 => match setT t d e1 with
          | some e2 => n1 e2 S2
          | none => .bad) m (i + 1) env' S') D, fun σ2 H2 h => ⟨m, Nat.lt_succ_self m, h⟩, fun x H2 y => ?_⟩
        obtain ⟨ω2, L2, s2, rd⟩ := g2 x H2 y
        dsimp only at p2
        refine ⟨ω2, S', env', d, s2, hE'.later L2, rd, ?_⟩
        cases e1 : setT t d env' with
        | none => rw [e1] at p2; exact p2.elim
        | some env1 =>
          rw [e1] at p2
          dsimp only at p2
          intro σ2 hE2 _
          refine ⟨ω2, S', env1, s2, hE2, ?_⟩
          cases e2 : n1 env1 S' with
          | bad => rw [e2] at p2; exact p2.elim
          | exc x env2 S2 => rw [e2] at p2; exact PostS.later (D := { D with nx := _, ct := _, bk := D.nx }) L2 p2
          | ok f S2 =>
            rw [e2] at p2
            cases f with
            | nx env2 => exact fun ω3 H3 σ3 L s hE3 => ⟨ω3, S2, env2, (L'.trans L2).trans L, s, hE3, PostS.later (L2.trans L) p2⟩
            | ct env2 => exact fun ω3 H3 σ3 L s hE3 => ⟨ω3, S2, env2, (L'.trans L2).trans L, s, hE3, PostS.later (L2.trans L) p2⟩
            | bk env2 => exact fun ω3 H3 σ3 L s hE3 => p2 ω3 H3 σ3 (L2.trans L) s hE3
            | rt d => exact fun ω3 H3 v L s r => p2 ω3 H3 v (L2.trans L) s r
/-! ### exceptions -/
theorem s_rai {x : Str} {C : Addr} (hC : C = He.ga X.K x) (h : PS X st (fun _ σ H => W (.ref C) none σ H)) : PS X st (tS X.K W fun e S => .exc ⟨x, []⟩ e S) :=
  PSimp h fun D σ H ⟨ω, S, env, hS, hE, q⟩ => q ω H σ (.ref C) none (.refl ω H) hS hE ⟨by rw [hC], .inl ⟨rfl, rfl⟩⟩
/-- the suites do what the plain ones do -/
inductive HL (K : PySem.W.Frag) (F : Nat → List D → Mem → Out D) : Hs → List (Value × (Addr → Value → Option Addr → TS)) → Prop
  | nil : HL K F .nil []
  | cons {ys zs : List Str} {b : Ss} {r : Hs} {c : Value} {l : List (Value × (Addr → Value → Option Addr → TS))} (h1 : ∀ x ∈ ys, PySem.W.exmOne K (.ref (He.ga K x)) c = some true) (h2 : ∀ x ∈ zs, PySem.W.exmOne K (.ref (He.ga K x)) c = some false) (hr : HL K F r l) :
    HL K F (.cons ys zs b r) ((c, fun _ _ _ => tS K WF (evSs F b)) :: l)
theorem wMany_of {K : PySem.W.Frag} {F : Nat → List D → Mem → Out D} {h : Hs} {l : List (Value × (Addr → Value → Option Addr → TS))} (hl : HL K F h l) : ∀ {x : Xn} {e : Env} {S : Mem} {ω : Wo} {H : Hp} {D : Ends} {c : Value} {d : Option Addr} {σ : L2.St}, Sim K ω S H → EnvR K ω H e σ → RelX K ω H x c d →
    PostS K W ω H (evH F h x e S) D → L2.wMany K W D l c d σ H := by
  induction hl with
  | nil => exact fun {x e S ω H D c d σ} hS hE rx q => q ω H σ c d (.refl ω H) hS hE rx
  | @cons ys zs b r c0 l h1 h2 hr ih =>
    intro x e S ω H D c d σ hS hE rx q
    obtain ⟨ec, _⟩ := id rx
    have q2 : PostS K W ω H (if x.cls ∈ ys then (match evSs F b e S with
      | .ok f S1 => .ok f S1
      | _ => .bad) else if x.cls ∈ zs then evH F r x e S else .bad) D := q
    by_cases hy : x.cls ∈ ys
    · rw [if_pos hy] at q2
      refine ⟨true, by rw [ec]; exact h1 _ hy, fun _ a _ => ⟨ω, S, e, hS, hE, ?_⟩, fun z => by cases z⟩
      cases e1 : evSs F b e S with
      | bad => rw [e1] at q2; exact q2.elim
      | exc x1 e2 S1 => rw [e1] at q2; exact q2.elim
      | ok f S1 =>
        rw [e1] at q2
        cases f <;> exact q2
    · rw [if_neg hy] at q2
      by_cases hz : x.cls ∈ zs
      · rw [if_pos hz] at q2
        exact ⟨false, by rw [ec]; exact h2 _ hz, (fun z => by cases z), fun _ => ih hS hE rx q2⟩
      · rw [if_neg hz] at q2; exact q2.elim
theorem s_tri {F : Nat → List D → Mem → Out D} {b : Ss} {hh : Hs} {l : List (Value × (Addr → Value → Option Addr → TS))} (hl : HL X.K F hh l) (h : PS X st (fun D σ H => tS X.K (L2.wMany X.K W D l) (evSs F b) D σ H)) :
    PS X st (tS X.K W fun e S => match evSs F b e S with
      | .exc x e1 S1 => evH F hh x e1 S1
      | .ok f S1 => .ok f S1
      | .bad => .bad) := PSimp h fun D σ H ⟨ω, S, env, hS, hE, q⟩ => by
  refine ⟨ω, S, env, hS, hE, ?_⟩
  dsimp only at q
  cases e1 : evSs F b env S with
  | bad => rw [e1] at q; exact q.elim
  | ok f S1 =>
    rw [e1] at q
    cases f <;> exact q
  | exc x e2 S1 =>
    rw [e1] at q
    exact fun ω1 H1 σ1 c d L s hE1 rx => wMany_of hl s hE1 rx (PostS.later L q)
end
end Mi

set_option Elab.async false
set_option linter.all false
set_option maxRecDepth 100000
set_option maxHeartbeats 4000000
/-! MiF: Python's text as a text of the plain language -/
namespace Mi
open PySem PySem.Spec PyProof.Rows L2

/-- what a module's name stands for -/
inductive G
  | con (d : D) | fn (i : Nat) | bi (b : Bi) | ty (n : String) | rng | exc
/-- where a text stands: the names of its block, the slots, the module's names, is it a comprehension -/
structure CT where
  names : List (Str × NameKind)
  N : List Str
  gl : List (Str × G)
  cm : Bool
  /-- within a suite that an exception came to -/
  hot : Bool
  /-- a class's name: the classes that it takes, those that it lets by -/
  exs : List (Str × List Str × List Str)
def Bi.nm : Bi → Str
  | .len => "len" | .abs => "abs" | .max => "max" | .min => "min" | .int => "int" | .list => "list" | .tuple => "tuple" | .sum => "sum" | .all => "all" | .any => "any" | .sorted => "sorted" | .isi => "isinstance"
/-- the built-in types' values -/
def Bi.ty : Bi → Option String
  | .int => some "int" | .list => some "list" | .tuple => some "tuple"
  | _ => none
structure OkC (F : Nat → List D → Mem → Out D) (c : CT) (X : Cx) (W : WX) : Prop where
  names : X.env.scope.names = c.names
  kind : X.env.scope.kind = .function
  N : X.N = c.N
  nd : X.N.Nodup
  calm : c.hot = false → X.calm = true
  hu : X.A.units + 64 < cLine
  con : ∀ x d, c.gl.lookup x = some (.con d) → ∃ u v, X.mg x = some u ∧ RelV v u ∧ ∀ ω H, RelD X.K ω H d v
  fn : c.hot = false → ∀ x i, c.gl.lookup x = some (.fn i) → ∃ (k n : Nat) (f : Addr) (fd : FuncData) (ps : List Str), FnOk X.prog X.w X.K X.mg X.base (L2.CX X.prog X.w) k f fd ps (spF X.K n (F i)) ∧ (∀ as S, as.length ≠ n → F i as S = .bad) ∧
    Room k X.A ∧ X.mg x = some (.ref f) ∧ PySem.W.keepIn X.K (.ref f) = true ∧ Binds X.K fd ps []
  bi : ∀ x b, c.gl.lookup x = some (.bi b) → X.mg x = none ∧ x = b.nm
  ty : ∀ x n, c.gl.lookup x = some (.ty n) → X.mg x = none ∧ bootBuiltins x = some (.type n) ∧ x ≠ "__name__"
  rng : ∀ x, c.gl.lookup x = some .rng → X.mg x = none ∧ x = "range"
  exc : ∀ x, c.gl.lookup x = some .exc → X.mg x = some (.ref (He.ga X.K x)) ∧ PySem.W.excIn X.K (He.ga X.K x) He.veBase "ValueError.__new__" = true ∧ PySem.W.keepIn X.K (.ref (He.ga X.K x)) = true ∧ Raises X (.ref (He.ga X.K x))
  exm : ∀ y ys zs, c.exs.lookup y = some (ys, zs) → (∀ x ∈ ys, PySem.W.exmOne X.K (.ref (He.ga X.K x)) (.ref (He.ga X.K y)) = some true) ∧ ∀ x ∈ zs, PySem.W.exmOne X.K (.ref (He.ga X.K x)) (.ref (He.ga X.K y)) = some false
  tk : Takes X W
  hp : c.cm = false → PassesOwn (model X.prog X.w) X.A X.env X.xe
  fnx : c.cm = false → ∀ x, X.fn x = true
  stk : c.cm = false → X.stack = X.env :: X.outer ∧ X.env.frame = some X.env.locals
def isDbg (x : Str) : Bool := decide (x = "__debug__") || decide (x = "__classdict__") || decide (x = "__name__")
def ixOf (x : Str) : List Str → Nat → Option Nat
  | [], _ => none
  | y :: r, i => if x = y then some i else ixOf x r (i + 1)
theorem ixOf_ok {x : Str} : ∀ {l : List Str} {i j : Nat}, ixOf x l i = some j → ∃ k, j = i + k ∧ l[k]? = some x
  | [], _, _, h => by cases h
  | y :: r, i, j, h => by
    unfold ixOf at h
    by_cases e : x = y
    · rw [if_pos e] at h
      cases h
      exact ⟨0, rfl, by rw [e]; rfl⟩
    · rw [if_neg e] at h
      obtain ⟨k, e1, e2⟩ := ixOf_ok h
      exact ⟨k + 1, by omega, by simpa using e2⟩
/-- the slot of a name of the block -/
def slotOf (c : CT) (x : Str) : Option Nat := if isDbg x = true then none else match c.names.lookup x with
  | some .local => ixOf x c.N 0
  | some .cell => ixOf x c.N 0
  | some .free => ixOf x c.N 0
  | _ => none
/-- may a name of the block be stored (a local; in a def a cell too) -/
def storeOf (c : CT) (x : Str) : Option Nat := if isDbg x = true then none else match c.names.lookup x with
  | some .local => ixOf x c.N 0
  | some .cell => if c.cm = false then ixOf x c.N 0 else none
  | _ => none
/-- what a name of the module stands for -/
def globOf (c : CT) (x : Str) : Option G := if isDbg x = true then none else match c.names.lookup x with
  | some .globalImplicit => c.gl.lookup x
  | _ => none
def cName (c : CT) (x : Str) : Option E := match slotOf c x with
  | some i => some (.v i)
  | none => match globOf c x with
    | some (.con d) => some (.c d)
    | some (.ty n) => some (.c (.ty n))
    | some (.bi b) => (match b.ty with
      | some n => some (.c (.ty n))
      | none => none)
    | _ => none
def cConst : Const → Option E
  | .none => some (.c .non)
  | .bool b => some (.c (.bl b))
  | .int i => some (.c (.int i))
  | .str s => some (.c (.str s.cps.toList))
  | _ => none
def bopOf : Operator → Option Bop
  | .Add => some .add | .Sub => some .sub | .Mult => some .mul | .FloorDiv => some .div | .Mod => some .mod | .Pow => some .pow
  | _ => none
def copOf : CmpOp → Cop
  | .Eq => .eq | .NotEq => .ne | .Lt => .lt | .LtE => .le | .Gt => .gt | .GtE => .ge | .In => .isin | .NotIn => .notin | .Is => .same | .IsNot => .notsame
/-- no set written -/
def noSet : Expr → Bool
  | .Set .. => false
  | _ => true
def noStar : Expr → Bool
  | .Starred .. => false
  | _ => true
def noSlice : Expr → Bool
  | .Slice .. => false
  | _ => true
def noSuper : Expr → Bool
  | .Call (.Name _ _) [] [] _ => false
  | _ => true
def noComp : Expr → Bool
  | .ListComp .. => false
  | .SetComp .. => false
  | .DictComp .. => false
  | _ => true
def mtOf (m : Str) : Option Mt := if m = "append" then some .append else if m = "extend" then some .extend else if m = "pop" then some .pop else if m = "index" then some .index else if m = "count" then some .count else if m = "join" then some .join else none
theorem mtOf_ok {m : Str} {i : Mt} (h : mtOf m = some i) : m = i.nm := by
  unfold mtOf at h
  repeat' split at h
  all_goals first | (cases h; assumption) | (cases h; done)
def cArgs (f : Expr → Option E) : List Expr → Option Es
  | [] => some .nil
  | e :: r => if noStar e = true then (match f e, cArgs f r with
    | some x, some xs => some (.cons x xs)
    | _, _ => none) else none
/-- what stands in a display: stars too -/
def cDisp (f : Expr → Option E) : List Expr → Option Es
  | [] => some .nil
  | .Starred e _ :: r => (match f e, cDisp f r with
    | some x, some xs => some (.star x xs)
    | _, _ => none)
  | e :: r => (match f e, cDisp f r with
    | some x, some xs => some (.cons x xs)
    | _, _ => none)
def cPart (f : Expr → Option E) : Option Expr → Option Es
  | none => some .nil
  | some e => match f e with
    | some x => some (.cons x .nil)
    | none => none
def cBool (f : Expr → Option E) (o : BoolOp) : List Expr → Option E
  | [] => none
  | [e] => f e
  | e :: e2 :: r => match f e, cBool f o (e2 :: r) with
    | some x, some y => some (match o with
      | .And => .and x y
      | .Or => .or x y)
    | _, _ => none
mutual
/-- names as targets -/
def cTn : Nat → CT → Expr → Option Tn
  | 0, _, _ => none
  | n + 1, c, e => match e with
    | .Name x _ => match storeOf c x with
      | some i => some (.nm i)
      | none => none
    | .Tuple es _ _ => if c.hot = false then (match cTns n c es with
      | some ts => some (.tup ts)
      | none => none) else none
    | _ => none
def cTns : Nat → CT → List Expr → Option Tns
  | 0, _, _ => none
  | n + 1, c, es => match es with
    | [] => some .nil
    | e :: r => if noStar e = true then (match cTn n c e, cTns n c r with
      | some t, some ts => some (.cons t ts)
      | _, _ => none) else none
end
/-- a comprehension's own names with their slots -/
def ownOf (N : List Str) : List (Str × NameKind) → Option (List (Str × Nat))
  | [] => some []
  | (x, k) :: r => match ownOf N r with
    | none => none
    | some l => match k with
      | .local => (match ixOf x N 0 with
        | some i => some ((x, i) :: l)
        | none => none)
      | .cell => (match ixOf x N 0 with
        | some i => some ((x, i) :: l)
        | none => none)
      | _ => some l
/-- the block of a comprehension -/
def CT.blk (c : CT) (sc : Scope) : CT := ⟨(relS sc { kind := .function, names := c.names, isGenerator := false, isCoroutine := false }).names, c.N, c.gl, true, c.hot, c.exs⟩
/-- the arguments of range -/
def cRs (f : Expr → Option E) : List Expr → Option It
  | [a] => if noStar a = true then (match f a with
    | some y => some (.rng1 y)
    | none => none) else none
  | [a, b] => if (noStar a && noStar b) = true then (match f a, f b with
    | some y, some z => some (.rng2 y z)
    | _, _ => none) else none
  | [a, b, d] => if (noStar a && noStar b && noStar d) = true then (match f a, f b, f d with
    | some y, some z, some w => some (.rng3 y z w)
    | _, _, _ => none) else none
  | _ => none
def cRng (f : Expr → Option E) (c : CT) : Expr → Option It
  | .Call (.Name x _) rs [] _ => if x = "range" then (match globOf c x with
    | some .rng => cRs f rs
    | _ => none) else none
  | _ => none
def cIter (f : Expr → Option E) (c : CT) (e : Expr) : Option It := if noSet e = true then (match cRng f c e with
  | some i => some i
  | none => match f e with
    | some y => some (.of y)
    | none => none) else none
/-- list(range(..)) -/
def cLrg (f : Expr → Option E) (c : CT) (b : Bi) : List Expr → Option E
  | [a] => (match b with
    | .list => (match cRng f c a with
      | some (.rng1 x) => some (.lrg1 x)
      | some (.rng2 x y) => some (.lrg2 x y)
      | _ => none)
    | _ => none)
  | _ => none
def cCall (f : Expr → Option E) (c : CT) (x : Str) : List Expr → Option E
  | [] => none
  | a :: r => if c.hot = false then (match globOf c x with
    | some (.fn i) => (match cArgs f (a :: r) with
      | some es => some (.call i es)
      | none => none)
    | some (.bi b) => (match cLrg f c b (a :: r) with
      | some e => some e
      | none => match cArgs f (a :: r) with
        | some es => some (.bi b es)
        | none => none)
    | _ => none) else none
def cMeth (f : Expr → Option E) (o : Expr) (m : Str) (ap cp : Pos) (args : List Expr) : Option E := if (noSuper o && (ap.endLine == cp.line) && decide (args.length < 29)) = true then (match mtOf m, f o, cArgs f args with
  | some i, some x, some es => some (.mt i x es)
  | _, _, _ => none) else none
def cSub (f : Expr → Option E) (a : Expr) : Expr → Option E
  | .Slice lo hi none _ => (match f a, cPart f lo, cPart f hi with
    | some x, some l, some h => some (.sl x l h)
    | _, _, _ => none)
  | s => if noSlice s = true then (match f a, f s with
    | some x, some y => some (.ix x y)
    | _, _ => none) else none
def cCmp (f : Expr → Option E) (a : Expr) : List CmpOp → List Expr → Option E
  | [o], [b] => if noSet b = true then (match f a, f b with
    | some x, some y => some (.cmp (copOf o) x y)
    | _, _ => none) else none
  | [o, p], [b, d] => if noSet d = true then (match f a, f b, f d with
    | some x, some y, some z => some (.chn (copOf o) (copOf p) x y z)
    | _, _, _ => none) else none
  | _, _ => none
def cUn (f : Expr → Option E) (a : Expr) : UnaryOp → Option E
  | .USub => (match f a with
    | some x => some (.neg x)
    | none => none)
  | .Not => (match f a with
    | some x => some (.no x)
    | none => none)
  | _ => none
def cFn (f : Expr → Option E) (c : CT) (cp : Pos) (args : List Expr) : Expr → Option E
  | .Name x _ => cCall f c x args
  | .Attribute o m ap => cMeth f o m ap cp args
  | _ => none
/-- the tests of a comprehension -/
def cIfs (f : Expr → Option E) : List Expr → Option Es
  | [] => some .nil
  | [t] => (match f t with
    | some y => some (.cons y .nil)
    | none => none)
  | _ => none
abbrev CT.sc (c : CT) : Scope := { kind := .function, names := c.names, isGenerator := false, isCoroutine := false }
def cLc (f g : Expr → Option E) (h : Expr → Option Tn) (c : CT) (elt tg it : Expr) (ifs : List Expr) (sc : Scope) (own : List (Str × Nat)) : Option E :=
  if (blkC c.N c.sc sc own && !c.hot) = true then (match h tg, cIter f c it, g elt, cIfs g ifs with
    | some t, some i, some y, some cs => if (slotsT t).all (fun j => decide (j ∈ own.map (·.2))) = true then some (.lc t i cs y (own.map (·.2))) else none
    | _, _, _, _ => none) else none
def cE : Nat → CT → Expr → Option E
  | 0, _, _ => none
  | n + 1, c, e => match e with
    | .Constant k _ _ => cConst k
    | .Name x _ => cName c x
    | .BinOp a o b _ => (match bopOf o, cE n c a, cE n c b with
      | some o', some x, some y => some (.bin o' x y)
      | _, _, _ => none)
    | .UnaryOp o a _ => cUn (cE n c) a o
    | .BoolOp o vs _ => cBool (cE n c) o vs
    | .Compare a os bs _ => cCmp (cE n c) a os bs
    | .IfExp t a b _ => (match cE n c t, cE n c a, cE n c b with
      | some z, some x, some y => some (.ife z x y)
      | _, _, _ => none)
    | .Tuple es _ _ => (match cDisp (cE n c) es with
      | some xs => some (.tup xs)
      | none => none)
    | .List es _ => (match cDisp (cE n c) es with
      | some xs => some (.lst xs)
      | none => none)
    | .Subscript a s _ => cSub (cE n c) a s
    | .Call g args [] cp => cFn (cE n c) c cp args g
    | .ListComp elt [⟨tg, it, ifs, a⟩] sc _ => if a = 0 then (match ownOf c.N sc.names with
        | none => none
        | some own => cLc (cE n c) (cE n (c.blk sc)) (cTn n (c.blk sc)) c elt tg it ifs sc own) else none
    | _ => none
end Mi

set_option Elab.async false
set_option linter.all false
set_option maxRecDepth 100000
set_option maxHeartbeats 4000000
/-! MiG: what is translated does the same -/
namespace Mi
open PySem PySem.Spec PyProof.Rows L2

def SndE (F : Nat → List D → Mem → Out D) (c : CT) (e : Expr) (i : E) : Prop := ∀ X W, OkC F c X W → PE X e (tM X.K W (evE F i)) ∧ PT X e (tMb X.K W fun env S => truO (evE F i env S))
def SndA (F : Nat → List D → Mem → Out D) (c : CT) (es : List Expr) (i : Es) : Prop := ∀ X W, OkC F c X W → PA X es (tMs X.K W (evEs F i))
section
variable {F : Nat → List D → Mem → Out D} {c : CT} {e a b d : Expr} {i x y z : E} {pos : Pos} {X : Cx} {W : WX}
/-- a form whose test is its value's truth -/
theorem snd_plain (he : ∀ env whole, isTrue e env whole = (do let v ← whole; standAt e.pos; holding [v] (truthy v))) (h : ∀ X W, OkC F c X W → PE X e (tM X.K W (evE F i))) : SndE F c e i := fun X W o =>
  ⟨h X W o, m_tru (pt_truth (h X W o) (he _))⟩

/-! ### names -/
theorem ba3 {a b : Bool} (h : (a || b) = false) : a = false ∧ b = false := Bool.or_eq_false_iff.mp h
theorem dbg_ok {x : Str} (h : isDbg x ≠ true) : (x == ("__debug__" : Str)) = false ∧ (x == ("__classdict__" : Str)) = false ∧ x ≠ "__name__" := by
  have h' : isDbg x = false := by simpa using h
  unfold isDbg at h'
  obtain ⟨h1, h3⟩ := ba3 h'
  obtain ⟨h1, h2⟩ := ba3 h1
  have e1 : x ≠ "__debug__" := of_decide_eq_false h1
  have e2 : x ≠ "__classdict__" := of_decide_eq_false h2
  have e3 : x ≠ "__name__" := of_decide_eq_false h3
  exact ⟨by simpa using e1, by simpa using e2, e3⟩
theorem slot_ok {x : Str} {j : Nat} (o : OkC F c X W) (h : slotOf c x = some j) : X.N[j]? = some x ∧ Vis X.env.scope x ∧ isDbg x ≠ true := by
  unfold slotOf at h
  split at h
  · cases h
  · rename_i hd
    have fin : ixOf x c.N 0 = some j → X.N[j]? = some x := fun q => by
      obtain ⟨k, e1, e2⟩ := ixOf_ok q
      rw [o.N, e1, Nat.zero_add]
      exact e2
    split at h
    · rename_i q; exact ⟨fin h, .inl (by rw [o.names]; exact q), hd⟩
    · rename_i q; exact ⟨fin h, .inr (.inl (by rw [o.names]; exact q)), hd⟩
    · rename_i q; exact ⟨fin h, .inr (.inr (by rw [o.names]; exact q)), hd⟩
    · cases h
theorem store_ok' {x : Str} {j : Nat} (o : OkC F c X W) (h : storeOf c x = some j) : X.N[j]? = some x ∧ Loc X.env.scope x ∧ (X.fn x = true ∨ X.env.scope.names.lookup x = some .local) := by
  unfold storeOf at h
  split at h
  · cases h
  · have fin : ixOf x c.N 0 = some j → X.N[j]? = some x := fun q => by
      obtain ⟨k, e1, e2⟩ := ixOf_ok q
      rw [o.N, e1, Nat.zero_add]
      exact e2
    split at h
    · rename_i q; exact ⟨fin h, .inl (by rw [o.names]; exact q), .inr (by rw [o.names]; exact q)⟩
    · rename_i q
      split at h
      · rename_i hc
        exact ⟨fin h, .inr (by rw [o.names]; exact q), .inl (o.fnx hc x)⟩
      · cases h
    · cases h
theorem glob_ok {x : Str} {g : G} (o : OkC F c X W) (h : globOf c x = some g) : Gl X x ∧ c.gl.lookup x = some g ∧ isDbg x ≠ true := by
  unfold globOf at h
  split at h
  · cases h
  · rename_i hd
    split at h
    · rename_i q
      exact ⟨by show X.env.scope.names.lookup x = _; rw [o.names]; exact q, h, hd⟩
    · cases h
theorem Bi.ty_boot {b : Bi} {n : String} (h : b.ty = some n) : bootBuiltins b.nm = some (.type n) ∧ b.nm ≠ "__name__" := by
  cases b <;> first | (cases h; done) | (cases h; exact ⟨by decide +kernel, by decide⟩)
theorem snd_name {x : Str} (h : cName c x = some i) : SndE F c (.Name x pos) i := by
  refine snd_plain (fun _ _ => rfl) fun X W o => ?_
  unfold cName at h
  split at h
  · rename_i k hk
    cases h
    obtain ⟨h1, h2, h3⟩ := slot_ok o hk
    obtain ⟨d1, d2, _⟩ := dbg_ok h3
    exact m_v (pe_var h1 h2 d1 d2)
  · split at h
    · rename_i d hg
      cases h
      obtain ⟨h1, h2, h3⟩ := glob_ok o hg
      obtain ⟨d1, _, _⟩ := dbg_ok h3
      obtain ⟨u, v, g1, g2, g3⟩ := o.con x d h2
      exact m_c (pe_glob h1 g1 g2 d1) g3
    · rename_i n hg
      cases h
      obtain ⟨h1, h2, h3⟩ := glob_ok o hg
      obtain ⟨d1, _, _⟩ := dbg_ok h3
      obtain ⟨g1, g2, g3⟩ := o.ty x n h2
      exact m_c (pe_bltn (v := .ty n) h1 g1 g2 rfl g3 d1) fun _ _ => .ty n
    · rename_i b' hg
      split at h
      · rename_i n hn
        cases h
        obtain ⟨h1, h2, h3⟩ := glob_ok o hg
        obtain ⟨d1, _, d3⟩ := dbg_ok h3
        obtain ⟨g1, g2⟩ := o.bi x _ h2
        subst g2
        exact m_c (pe_bltn (v := .ty n) h1 g1 (Bi.ty_boot hn).1 rfl d3 d1) fun _ _ => .ty n
      · cases h
    · cases h
theorem snd_const {k : Const} {j : Nat} (h : cConst k = some i) : SndE F c (.Constant k j pos) i := by
  refine snd_plain (fun _ _ => rfl) fun X W o => ?_
  cases k <;> first | (cases h; done) | skip
  · cases h; exact m_c pe_non fun _ _ => .non
  · cases h; exact m_c pe_bl fun _ _ => .bl _
  · cases h; exact m_c pe_int fun _ _ => .int _
  · rename_i s
    cases h
    exact m_c pe_str fun _ _ => (RelD.str s.cps.toList)

/-! ### operators -/
theorem bop_ok' {X : Cx} {o' : Operator} {o : Bop} (ho : bopOf o' = some o) : OpR X (binaryOp o') (rU2 X.K o.f) := by
  cases o' with
  | Add => cases ho; exact up_add
  | Sub => cases ho; exact up_sub
  | Mult => cases ho; exact up_mul
  | FloorDiv => cases ho; exact up_div
  | Mod => cases ho; exact up_mod
  | Pow => cases ho; exact up_pow
  | _ => cases ho
theorem snd_bin {o' : Operator} {o : Bop} (ho : bopOf o' = some o) (ha : SndE F c a x) (hb : SndE F c b y) : SndE F c (.BinOp a o' b pos) (.bin o x y) := by
  exact snd_plain (fun _ _ => rfl) fun X W k => m_2 (pe_op (bop_ok' ho) (ha X W k).1 (hb X W k).1)
theorem snd_neg (ha : SndE F c a x) : SndE F c (.UnaryOp .USub a pos) (.neg x) :=
  snd_plain (fun _ _ => rfl) fun X W k => m_1 (pe_un up_neg (ha X W k).1)
theorem snd_no (ha : SndE F c a x) : SndE F c (.UnaryOp .Not a pos) (.no x) := fun X W k =>
  ⟨m_no (pe_notT (ha X W k).1), by
    show PT X _ (tMb X.K W fun env S => truO ((truO (evE F x env S)).bind fun b S1 => .ok (.bl (!b)) S1))
    rw [tru_no (evE F x)]
    exact t_no (pt_not (ha X W k).2)⟩
theorem snd_and1 (ha : SndE F c a x) {rs : List Expr} (hb : SndE F c (.BoolOp .And (b :: rs) pos) y) (hw : ∀ X W, OkC F c X W → PW X (.BoolOp .And (b :: rs) pos) (tMb X.K W fun env S => truO (evE F y env S))) :
    SndE F c (.BoolOp .And (a :: b :: rs) pos) (.and x y) ∧ ∀ X W, OkC F c X W → PW X (.BoolOp .And (a :: b :: rs) pos) (tMb X.K W fun env S => truO (evE F (.and x y) env S)) := by
  have w : ∀ X W, OkC F c X W → PW X (.BoolOp .And (a :: b :: rs) pos) (tMb X.K W fun env S => truO (evE F (.and x y) env S)) := fun X W k => by
    exact (congrArg (fun m => PW X (.BoolOp .And (a :: b :: rs) pos) (tMb X.K W m)) (tru_and (evE F x) (evE F y))).mpr (w_and (pw_and (ha X W k).2 (hw X W k)))
  exact ⟨fun X W k => ⟨m_and (pe_andT (ha X W k).1 (hb X W k).1), (w X W k).pt⟩, w⟩
theorem snd_or1 (ha : SndE F c a x) {rs : List Expr} (hb : SndE F c (.BoolOp .Or (b :: rs) pos) y) (hw : ∀ X W, OkC F c X W → PW X (.BoolOp .Or (b :: rs) pos) (tMb X.K W fun env S => truO (evE F y env S))) :
    SndE F c (.BoolOp .Or (a :: b :: rs) pos) (.or x y) ∧ ∀ X W, OkC F c X W → PW X (.BoolOp .Or (a :: b :: rs) pos) (tMb X.K W fun env S => truO (evE F (.or x y) env S)) := by
  have w : ∀ X W, OkC F c X W → PW X (.BoolOp .Or (a :: b :: rs) pos) (tMb X.K W fun env S => truO (evE F (.or x y) env S)) := fun X W k => by
    exact (congrArg (fun m => PW X (.BoolOp .Or (a :: b :: rs) pos) (tMb X.K W m)) (tru_or (evE F x) (evE F y))).mpr (w_or (pw_or (ha X W k).2 (hw X W k)))
  exact ⟨fun X W k => ⟨m_or (pe_orT (ha X W k).1 (hb X W k).1), (w X W k).pt⟩, w⟩
theorem snd_bool {f : Expr → Option E} (hf : ∀ e i, f e = some i → SndE F c e i) (o : BoolOp) : ∀ (vs : List Expr) (i : E), cBool f o vs = some i → SndE F c (.BoolOp o vs pos) i ∧ ∀ X W, OkC F c X W → PW X (.BoolOp o vs pos) (tMb X.K W fun env S => truO (evE F i env S))
  | [], i, h => by cases h
  | [e], i, h => by
    have he := hf e i h
    cases o with
    | And => exact ⟨fun X W k => ⟨pe_one (he X W k).1, (pw_and1 (he X W k).2).pt⟩, fun X W k => pw_and1 (he X W k).2⟩
    | Or => exact ⟨fun X W k => ⟨pe_one (he X W k).1, (pw_or1 (he X W k).2).pt⟩, fun X W k => pw_or1 (he X W k).2⟩
  | e :: e2 :: r, i, h => by
    unfold cBool at h
    split at h
    · rename_i x y h1 h2
      obtain ⟨g1, g2⟩ := snd_bool hf o (e2 :: r) y h2
      cases h
      cases o with
      | And => exact snd_and1 (hf e x h1) g1 g2
      | Or => exact snd_or1 (hf e x h1) g1 g2
    · cases h
theorem pt_ifExp {ta tb tc : TT} (hc : PT X e tc) (ha : PT X a ta) (hb : PT X b tb) : PT X (.IfExp e a b pos) (fun σ H Q => tc σ H fun k H1 => if k = true then ta σ H1 Q else tb σ H1 Q) := by
  refine ⟨fun pins s σ H Q I h => ?_⟩
  show wpAny (model X.prog X.w) X.A (do if ← isTrue e X.env (eval e X.env) then isTrue a X.env (eval a X.env) else isTrue b X.env (eval b X.env)) (TP X pins σ Q) X.xe s
  refine wpAny_bind (thn (hc.run pins s σ H _ I h) fun k s1 ⟨H1, I1, q1⟩ => ?_)
  cases k with
  | true => exact ha.run pins s1 σ H1 Q I1 q1
  | false => exact hb.run pins s1 σ H1 Q I1 q1
theorem tru_ife (mt : Env → Mem → Out Bool) (ma mb : Env → Mem → Out D) : (fun (e : Env) (S : Mem) => truO ((mt e S).bind fun t S1 => match t with
    | true => ma e S1
    | false => mb e S1)) = fun e S => (mt e S).bind fun t S1 => match t with
    | true => truO (ma e S1)
    | false => truO (mb e S1) := by
  funext e S
  cases mt e S with
  | bad => rfl
  | exc x S1 => rfl
  | ok t S1 => cases t <;> rfl
theorem snd_ife (hd : SndE F c d z) (ha : SndE F c a x) (hb : SndE F c b y) : SndE F c (.IfExp d a b pos) (.ife z x y) := fun X W k =>
  ⟨m_ife (pe_ifExp (hd X W k).2 (ha X W k).1 (hb X W k).1), by
    show PT X _ (tMb X.K W fun env S => truO ((truO (evE F z env S)).bind fun t S1 => match t with
      | true => evE F x env S1
      | false => evE F y env S1))
    rw [tru_ife (fun env S => truO (evE F z env S)) (evE F x) (evE F y)]
    exact PTimp (pt_ifExp (hd X W k).2 (ha X W k).2 (hb X W k).2) fun σ H Q q => tX.bind (f := fun t e S1 => match t with
      | true => truO (evE F x e S1)
      | false => truO (evE F y e S1)) q fun t b ω S env H1 hS hE rb p => by
      cases rb
      cases t with
      | true => exact iteT ⟨ω, S, env, hS, hE, p⟩
      | false => exact iteF ⟨ω, S, env, hS, hE, p⟩⟩
theorem cop_ok' (hu : X.A.units + 64 < cLine) (o : CmpOp) : OpR X (compareOp o) (rU2 X.K (copOf o).f) := by
  have h := cop_ok hu (copOf o)
  cases o <;> exact h
theorem noSet_ok (o : CmpOp) (h : noSet b = true) : behindInMarks o b = false := by
  cases b <;> first | rfl | cases h
theorem snd_cmp {o : CmpOp} (hs : noSet b = true) (ha : SndE F c a x) (hb : SndE F c b y) : SndE F c (.Compare a [o] [b] pos) (.cmp (copOf o) x y) := fun X W k =>
  ⟨m_2 (pe_cmpR (cop_ok' k.hu o) (ha X W k).1 (hb X W k).1 (noSet_ok o hs)), t_cmp (cop_bl _) (pt_cmpR (cop_ok' k.hu o) (ha X W k).1 (hb X W k).1 (noSet_ok o hs))⟩
/-- what gives a bool alone, as a test -/
theorem tM_bl {m : Env → Mem → Out D} (hm : ∀ env S d S', m env S = .ok d S' → ∃ k, d = .bl k) {σ : L2.St} {H : Hp} {Q : Bool → Hp → Prop} (h : tMb X.K W (fun e S => truO (m e S)) σ H Q) : tM X.K W m σ H fun x H1 => ∃ k, x = .bl k ∧ Q k H1 := by
  obtain ⟨ω, S, env, hS, hE, q⟩ := h
  refine ⟨ω, S, env, hS, hE, ?_⟩
  dsimp only at q
  cases e1 : m env S with
  | bad => rw [e1] at q; exact q.elim
  | exc x S1 => rw [e1] at q; exact q
  | ok d S1 =>
    obtain ⟨k, rfl⟩ := hm env S d S1 e1
    rw [e1] at q
    intro ω1 H1 v L s r
    cases r
    exact ⟨k, rfl, q ω1 H1 k L s rfl⟩
theorem chn_bl (o p : Cop) : ∀ env S d S', evE F (.chn o p x y z) env S = .ok d S' → ∃ k, d = .bl k := by
  intro env S d S' h
  have h' : ((evE F x env S).bind fun x S1 => (evE F y env S1).bind fun y S2 => (lift (o.f x y S2)).bind fun w S3 => match w with
    | .bl true => (evE F z env S3).bind fun w S4 => lift (p.f y w S4)
    | .bl false => .ok (.bl false) S3
    | _ => .bad) = .ok d S' := h
  cases e1 : evE F x env S with
  | bad => rw [e1] at h'; cases h'
  | exc _ _ => rw [e1] at h'; cases h'
  | ok vx S1 =>
    rw [e1] at h'
    dsimp only [Out.bind] at h'
    cases e2 : evE F y env S1 with
    | bad => rw [e2] at h'; cases h'
    | exc _ _ => rw [e2] at h'; cases h'
    | ok vy S2 =>
      rw [e2] at h'
      dsimp only [Out.bind] at h'
      cases e3 : o.f vx vy S2 with
      | none => rw [e3] at h'; cases h'
      | some w =>
        obtain ⟨dw, S3⟩ := w
        rw [e3] at h'
        dsimp only [Out.bind, lift] at h'
        split at h'
        · cases e4 : evE F z env S3 with
          | bad => rw [e4] at h'; cases h'
          | exc _ _ => rw [e4] at h'; cases h'
          | ok vz S4 =>
            rw [e4] at h'
            dsimp only [Out.bind] at h'
            cases e5 : p.f vy vz S4 with
            | none => rw [e5] at h'; cases h'
            | some w' =>
              obtain ⟨dv, S5⟩ := w'
              rw [e5] at h'
              cases h'
              exact cop_bl p vy vz S4 _ _ e5
        · cases h'; exact ⟨false, rfl⟩
        · cases h'
theorem marks_ok {o p : CmpOp} (h : noSet d = true) : lastMarks [o, p] [b, d] = false := by
  show behindInMarks p d = false
  exact noSet_ok p h
theorem snd_chn {o p : CmpOp} (hs : noSet d = true) (ha : SndE F c a x) (hb : SndE F c b y) (hd : SndE F c d z) : SndE F c (.Compare a [o, p] [b, d] pos) (.chn (copOf o) (copOf p) x y z) := fun X W k => by
  have h1 := (ha X W k).1
  have h2 := (hb X W k).1
  have h3 := (hd X W k).1
  have hm := m_chn (W := W) (e := .Compare a [o, p] [b, d] pos) (ma := evE F x) (mb := evE F y) (mc := evE F z) (cop_ok' k.hu o) (cop_ok' k.hu p) (cop_bl _) (pe_chain (cop_ok' k.hu o) (cop_ok' k.hu p) h1 h2 h3 (marks_ok hs))
  refine ⟨hm, PTimp (pt_chain (cop_ok' k.hu o) (cop_ok' k.hu p) h1 h2 h3 (marks_ok hs)) fun σ H Q q => ?_⟩
  have q2 := tM_bl (X := X) (W := W) (chn_bl (copOf o) (copOf p)) q
  show tM X.K W (evE F x) σ H (fun vx H1 => tM X.K W (evE F y) σ H1 fun vy H2 => rU2 X.K (copOf o).f vx vy H2 fun vz H3 => ∃ k, vz = V.bl k ∧ if k = true then tM X.K W (evE F z) σ H3 fun vw H4 => rU2 X.K (copOf p).f vy vw H4 (fun x H1 => ∃ k, x = V.bl k ∧ Q k H1) else (fun x H1 => ∃ k, x = V.bl k ∧ Q k H1) (V.bl false) H3)
  exact chn_read (cop_bl _) q2

/-! ### lists of arguments -/
theorem star_ok {es : List Expr} (h : noStar e = true) (env : PySem.Env) : starEach (e :: es) env = (false, eval e env) :: starEach es env := by
  cases e <;> first | rfl | cases h
theorem snd_args {f : Expr → Option E} (hf : ∀ e i, f e = some i → SndE F c e i) : ∀ (es : List Expr) (i : Es), cArgs f es = some i → SndA F c es i
  | [], i, h => by cases h; exact fun X W k => a_nil
  | e :: r, i, h => by
    unfold cArgs at h
    split at h
    · rename_i hs
      split at h
      · rename_i x xs h1 h2
        cases h
        exact fun X W k => a_cons (hf e x h1 X W k).1 (snd_args hf r xs h2 X W k) (star_ok hs X.env)
      · cases h
    · cases h
theorem snd_disp {f : Expr → Option E} (hf : ∀ e i, f e = some i → SndE F c e i) : ∀ (es : List Expr) (i : Es), cDisp f es = some i → SndA F c es i
  | [], i, h => by cases h; exact fun X W k => a_nil
  | e :: r, i, h => by
    have rest := snd_disp hf r
    by_cases hs : noStar e = true
    · have h' : (match f e, cDisp f r with
        | some x, some xs => some (Es.cons x xs)
        | _, _ => none) = some i := by
        cases e <;> first | exact h | cases hs
      split at h'
      · rename_i x xs h1 h2
        cases h'
        exact fun X W k => a_cons (hf e x h1 X W k).1 (rest xs h2 X W k) (star_ok hs X.env)
      · cases h'
    · cases e <;> first | exact absurd rfl hs | skip
      rename_i e p
      have h' : (match f e, cDisp f r with
        | some x, some xs => some (Es.star x xs)
        | _, _ => none) = some i := h
      split at h'
      · rename_i x xs h1 h2
        cases h'
        exact fun X W k => a_star (hf e x h1 X W k).1 (rest xs h2 X W k) rfl
      · cases h'
theorem args_plain {f : Expr → Option E} (env : PySem.Env) (p : Pos) : ∀ (es : List Expr) (i : Es), cArgs f es = some i → (backTo p (starEach es env)).any (·.1) = false ∧ (backTo p (starEach es env)).all (fun x => !x.1) = true
  | [], i, h => ⟨rfl, rfl⟩
  | e :: r, i, h => by
    unfold cArgs at h
    split at h
    · rename_i hs
      split at h
      · rename_i x xs h1 h2
        rw [star_ok hs env]
        exact args_plain env p r xs h2
      · cases h
    · cases h
theorem args_head {f : Expr → Option E} {es : List Expr} {i : Es} (h : cArgs f (e :: es) = some i) : noStar e = true ∧ ∃ x xs, i = .cons x xs ∧ f e = some x ∧ cArgs f es = some xs := by
  unfold cArgs at h
  split at h
  · rename_i hs
    split at h
    · rename_i x xs h1 h2
      cases h
      exact ⟨hs, x, xs, rfl, h1, h2⟩
    · cases h
  · cases h
theorem slice_ok {s : Expr} (h : noSlice s = true) : PlainIx s := by
  intro o i
  cases s <;> first | rfl | cases h
theorem snd_part {f : Expr → Option E} (hf : ∀ e i, f e = some i → SndE F c e i) {o : Option Expr} {i : Es} (h : cPart f o = some i) : ∀ X W, OkC F c X W → PO X o (tMo X.K W (evO F i)) := fun X W k => by
  cases o with
  | none => cases h; exact o_none
  | some e =>
    unfold cPart at h
    dsimp only at h
    split at h
    · rename_i x h1
      cases h
      exact o_some (hf e x h1 X W k).1
    · cases h
theorem snd_sub {f : Expr → Option E} (hf : ∀ e i, f e = some i → SndE F c e i) {s : Expr} (h : cSub f a s = some i) : SndE F c (.Subscript a s pos) i := by
  refine snd_plain (fun _ _ => rfl) fun X W k => ?_
  unfold cSub at h
  split at h
  · split at h
    · rename_i x l u h1 h2 h3
      cases h
      exact m_sl (hf a x h1 X W k).1 (snd_part hf h2 X W k) (snd_part hf h3 X W k)
    · cases h
  · split at h
    · rename_i hs
      split at h
      · rename_i x y h1 h2
        cases h
        exact m_2 (pe_ix up_ix (hf a x h1 X W k).1 (hf _ y h2 X W k).1 (slice_ok hs))
      · cases h
    · cases h
/-! ### ranges -/
theorem snd_rs {f : Expr → Option E} (hf : ∀ e i, f e = some i → SndE F c e i) {rs : List Expr} {r : It} (h : cRs f rs = some r) :
    (∃ a y, rs = [a] ∧ r = .rng1 y ∧ noStar a = true ∧ SndE F c a y) ∨ (∃ a b y z, rs = [a, b] ∧ r = .rng2 y z ∧ noStar a = true ∧ noStar b = true ∧ SndE F c a y ∧ SndE F c b z) ∨
      ∃ a b d y z w, rs = [a, b, d] ∧ r = .rng3 y z w ∧ noStar a = true ∧ noStar b = true ∧ noStar d = true ∧ SndE F c a y ∧ SndE F c b z ∧ SndE F c d w := by
  unfold cRs at h
  split at h
  · split at h
    · rename_i hs
      split at h
      · rename_i y h1
        cases h
        exact .inl ⟨_, y, rfl, rfl, hs, hf _ y h1⟩
      · cases h
    · cases h
  · split at h
    · rename_i hs
      split at h
      · rename_i y z h1 h2
        cases h
        obtain ⟨s1, s2⟩ := Bool.and_eq_true_iff.mp hs
        exact .inr (.inl ⟨_, _, y, z, rfl, rfl, s1, s2, hf _ y h1, hf _ z h2⟩)
      · cases h
    · cases h
  · split at h
    · rename_i hs
      split at h
      · rename_i y z w h1 h2 h3
        cases h
        obtain ⟨hs, s3⟩ := Bool.and_eq_true_iff.mp hs
        obtain ⟨s1, s2⟩ := Bool.and_eq_true_iff.mp hs
        exact .inr (.inr ⟨_, _, _, y, z, w, rfl, rfl, s1, s2, s3, hf _ y h1, hf _ z h2, hf _ w h3⟩)
      · cases h
    · cases h
  · cases h
theorem snd_rng {f : Expr → Option E} {r : It} (h : cRng f c e = some r) :
    ∃ p rs q, e = .Call (.Name "range" p) rs [] q ∧ cRs f rs = some r ∧ ∀ F X W, OkC F c X W → Gl X "range" ∧ X.mg "range" = none := by
  unfold cRng at h
  split at h
  · rename_i x p rs q
    split at h
    · rename_i hx
      subst hx
      split at h
      · rename_i hg
        refine ⟨p, rs, q, rfl, h, fun F X W k => ?_⟩
        obtain ⟨h1, h2, _⟩ := glob_ok k hg
        exact ⟨h1, (k.rng _ h2).1⟩
      · cases h
    · cases h
  · cases h
theorem star1 (h : noStar a = true) (env : PySem.Env) : starEach [a] env = [(false, eval a env)] := by rw [star_ok h]; rfl
theorem star2 (h : noStar a = true) (h' : noStar b = true) (env : PySem.Env) : starEach [a, b] env = [(false, eval a env), (false, eval b env)] := by rw [star_ok h, star1 h']
theorem plain1 {p : Pos} (h : noStar b = true) (env : PySem.Env) : (backTo p (starEach [b] env)).any (·.1) = false := by rw [star1 h]; rfl
theorem snd_iter {f : Expr → Option E} (hf : ∀ e i, f e = some i → SndE F c e i) {r : It} (h : cIter f c e = some r) : noSet e = true ∧ ∀ X W tg, OkC F c X W → PI X tg e (tMi X.K W (evI F r)) := by
  unfold cIter at h
  split at h
  · rename_i hs
    refine ⟨hs, fun X W tg k => ?_⟩
    split at h
    · rename_i r' hr
      cases h
      obtain ⟨p, rs, q, rfl, h1, h2⟩ := snd_rng hr
      obtain ⟨hg, hm⟩ := h2 F X W k
      rcases snd_rs hf h1 with ⟨a, y, rfl, rfl, n1, s1⟩ | ⟨a, b, y, z, rfl, rfl, n1, n2, s1, s2⟩ | ⟨a, b, d, y, z, w, rfl, rfl, n1, n2, n3, s1, s2, s3⟩
      · exact i_rng1 (pi_range1 hg hm (pa_cons (s1 X W k).1 pa_nil (star_ok n1 _)) (star1 n1 _))
      · exact i_rng2 (pi_range2 hg hm (pa_cons (s1 X W k).1 (pa_cons (s2 X W k).1 pa_nil (star_ok n2 _)) (star_ok n1 _)) (star2 n1 n2 _) (star1 n2 _))
      · exact i_rng3 (pi_range3 hg hm (pa_cons (s1 X W k).1 (pa_cons (s2 X W k).1 (pa_cons (s3 X W k).1 pa_nil (star_ok n3 _)) (star_ok n2 _)) (star_ok n1 _)) (star_ok n1 _) (by rw [star2 n2 n3]; rfl))
    · split at h
      · rename_i y h1
        cases h
        exact i_of (hf e y h1 X W k).1
      · cases h
  · cases h
/-! ### calls -/
theorem bi_call {X : Cx} {b : Bi} {p pos : Pos} {es : List Expr} {t : TA} (hc : X.calm = true) (hg : Gl X b.nm) (hm : X.mg b.nm = none) (ha : PA X (e :: es) t) (he : starEach (e :: es) X.env = (false, eval e X.env) :: starEach es X.env) (hpl : (backTo pos (starEach es X.env)).any (·.1) = false) :
    PE X (.Call (.Name b.nm p) (e :: es) [] pos) (tCB (rUs X.K b.f) t) := by
  cases b
  · exact pe_callB up_len hg hm (by decide +kernel) ha (by decide) (by decide) he hpl
  · exact pe_callB up_abs hg hm (by decide +kernel) ha (by decide) (by decide) he hpl
  · exact pe_callB (up_max hc) hg hm (by decide +kernel) ha (by decide) (by decide) he hpl
  · exact pe_callB (up_min hc) hg hm (by decide +kernel) ha (by decide) (by decide) he hpl
  · exact pe_callTy up_int hg hm (by decide +kernel) ha (by decide) (by decide) he hpl
  · exact pe_callTy up_list hg hm (by decide +kernel) ha (by decide) (by decide) he hpl
  · exact pe_callTy up_tuple hg hm (by decide +kernel) ha (by decide) (by decide) he hpl
  · exact pe_callB (up_sum hc) hg hm (by decide +kernel) ha (by decide) (by decide) he hpl
  · exact pe_callB (up_all hc) hg hm (by decide +kernel) ha (by decide) (by decide) he hpl
  · exact pe_callB (up_any hc) hg hm (by decide +kernel) ha (by decide) (by decide) he hpl
  · exact pe_callB up_sorted hg hm (by decide +kernel) ha (by decide) (by decide) he hpl
  · exact pe_callB up_isi hg hm (by decide +kernel) ha (by decide) (by decide) he hpl
theorem snd_lrg {f : Expr → Option E} (hf : ∀ e i, f e = some i → SndE F c e i) {bb : Bi} {es : List Expr} (hl : cLrg f c bb es = some i) {p pos : Pos} (X : Cx) (W : WX) (k : OkC F c X W) (hh : c.hot = false) (hg : Gl X bb.nm) (hm : X.mg bb.nm = none) : PE X (.Call (.Name bb.nm p) es [] pos) (tM X.K W (evE F i)) := by
  unfold cLrg at hl
  split at hl
  · split at hl
    · split at hl
      · rename_i x hr
        cases hl
        obtain ⟨p, rs, q, rfl, h1, h2⟩ := snd_rng hr
        obtain ⟨g2, m2⟩ := h2 F X W k
        rcases snd_rs hf h1 with ⟨a, y, rfl, e1, n1, s1⟩ | ⟨a, b, y, z, rfl, e1, n1, n2, s1, s2⟩ | ⟨a, b, d, y, z, w, rfl, e1, n1, n2, n3, s1, s2, s3⟩
        · cases e1
          exact m_lrg1 (pe_listRg (k.calm hh) hg hm (prg_1 g2 m2 (s1 X W k).1 (star_ok n1 _)) rfl)
        · cases e1
        · cases e1
      · rename_i x y hr
        cases hl
        obtain ⟨p, rs, q, rfl, h1, h2⟩ := snd_rng hr
        obtain ⟨g2, m2⟩ := h2 F X W k
        rcases snd_rs hf h1 with ⟨a, y, rfl, e1, n1, s1⟩ | ⟨a, b, y, z, rfl, e1, n1, n2, s1, s2⟩ | ⟨a, b, d, y, z, w, rfl, e1, n1, n2, n3, s1, s2, s3⟩
        · cases e1
        · cases e1
          exact m_lrg2 (pe_listRg (k.calm hh) hg hm (prg_2 g2 m2 (s1 X W k).1 (s2 X W k).1 (star_ok n1 _) (star_ok n2 _) (plain1 n2 _)) rfl)
        · cases e1
      · cases hl
    · cases hl
  · cases hl
theorem snd_call {f : Expr → Option E} (hf : ∀ e i, f e = some i → SndE F c e i) {x : Str} {p : Pos} {es : List Expr} (h : cCall f c x es = some i) : SndE F c (.Call (.Name x p) es [] pos) i := by
  refine snd_plain (fun _ _ => rfl) fun X W k => ?_
  unfold cCall at h
  split at h
  · cases h
  · rename_i e r
    split at h
    · rename_i hh
      split at h
      · rename_i j hg
        split at h
        · rename_i xs h1
          cases h
          obtain ⟨g1, g2, g3⟩ := glob_ok k hg
          obtain ⟨d1, d2, d3⟩ := dbg_ok g3
          obtain ⟨lv, n, fa, fd, ps, hF, hn, hr, hm, hk, hb⟩ := k.fn hh x j g2
          obtain ⟨n1, y, ys, _, _, h2⟩ := args_head h1
          exact m_call hF hn hr g1 hm hk hb k.tk (snd_args hf _ _ h1 X W k) d1 (star_ok n1 _) (args_plain _ _ _ _ h2).1
        · cases h
      · rename_i b' hg
        obtain ⟨g1, g2, g3⟩ := glob_ok k hg
        obtain ⟨hm, hx⟩ := k.bi x b' g2
        subst hx
        split at h
        · rename_i z hl
          cases h
          exact snd_lrg hf hl X W k hh g1 hm
        · split at h
          · rename_i xs h1
            cases h
            obtain ⟨n1, y, ys, _, _, h2⟩ := args_head h1
            exact m_bi (bi_call (k.calm hh) g1 hm (snd_args hf _ _ h1 X W k) (star_ok n1 _) (args_plain _ _ _ _ h2).1)
          · cases h
      · cases h
    · cases h
theorem super_ok {o : Expr} (h : noSuper o = true) (m : Str) (env : PySem.Env) (w : Sem Value) : attributeBase o m env w = w := by
  cases o with
  | Call g es ks q =>
    cases g with
    | Name x p =>
      cases es with
      | nil =>
        cases ks with
        | nil => cases h
        | cons _ _ => rfl
      | cons _ _ => rfl
    | _ => rfl
  | _ => rfl
theorem snd_meth {f : Expr → Option E} (hf : ∀ e i, f e = some i → SndE F c e i) {o : Expr} {m : Str} {ap : Pos} {es : List Expr} (h : cMeth f o m ap pos es = some i) : SndE F c (.Call (.Attribute o m ap) es [] pos) i := by
  refine snd_plain (fun _ _ => rfl) fun X W k => ?_
  unfold cMeth at h
  split at h
  · rename_i hc
    obtain ⟨hc, n3⟩ := Bool.and_eq_true_iff.mp hc
    obtain ⟨n1, n2⟩ := Bool.and_eq_true_iff.mp hc
    have n3' := of_decide_eq_true n3
    split at h
    · rename_i i' x xs h1 h2 h3
      cases h
      have e := mtOf_ok h1
      subst e
      cases es with
      | nil =>
        cases h3
        exact m_mt0 (pe_bmU0 (hf o x h2 X W k).1 (super_ok n1 _ _ _) n2)
      | cons e r =>
        obtain ⟨s1, y, ys, _, _, h4⟩ := args_head h3
        refine m_mt (pe_bmU (hf o x h2 X W k).1 (snd_args hf _ _ h3 X W k) (super_ok n1 _ _ _) ?_ n2 (star_ok s1 _) (args_plain _ _ _ _ h4).1)
        rw [(args_plain _ _ _ _ h3).2]
        show (true && true && decide ((e :: r).length + 0 + 0 < 30)) = true
        rw [Bool.and_self, Bool.true_and]
        exact decide_eq_true (by omega)
    · cases h
  · cases h
end
end Mi

set_option Elab.async false
set_option linter.all false
set_option maxRecDepth 100000
set_option maxHeartbeats 4000000
/-! MiG2: targets, comprehensions, every expression -/
namespace Mi
open PySem PySem.Spec PyProof.Rows L2
section
variable {F : Nat → List D → Mem → Out D} {c : CT}
def SndTn (F : Nat → List D → Mem → Out D) (c : CT) (e : Expr) (t : Tn) : Prop := ∀ X W, OkC F c X W → PG X e (tGn X.K t)
def SndTns (F : Nat → List D → Mem → Out D) (c : CT) (es : List Expr) (ts : Tns) : Prop := ∀ X W, OkC F c X W → PGs X es (tGns X.K ts) ∧ (assignEach es X.env).length = ts.len ∧ (assignEach es X.env).findIdx? (·.1) = none
theorem aE_ok {e : Expr} {es : List Expr} (h : noStar e = true) (env : PySem.Env) : assignEach (e :: es) env = (false, assign e env) :: assignEach es env := by
  cases e <;> first | rfl | cases h
mutual
theorem tn_ok : ∀ (n : Nat) (e : Expr) (t : Tn), cTn n c e = some t → SndTn F c e t
  | 0, _, _, h => by cases h
  | n + 1, e, t, h => fun X W k => by
    unfold cTn at h
    split at h
    · rename_i x p
      split at h
      · rename_i i hi
        cases h
        obtain ⟨h1, h2, h3⟩ := store_ok' k hi
        exact g_nm (pg_name k.nd h1 h2 h3)
      · cases h
    · rename_i es k' p
      split at h
      · rename_i hh
        split at h
        · rename_i ts hts
          cases h
          obtain ⟨h1, h2, h3⟩ := tns_ok n es ts hts X W k
          exact g_tup (k.calm hh) h1 h2 h3
        · cases h
      · cases h
    · cases h
theorem tns_ok : ∀ (n : Nat) (es : List Expr) (ts : Tns), cTns n c es = some ts → SndTns F c es ts
  | 0, _, _, h => by cases h
  | n + 1, es, ts, h => fun X W k => by
    unfold cTns at h
    split at h
    · cases h; exact ⟨g_nil, rfl, rfl⟩
    · rename_i e r
      split at h
      · rename_i hs
        split at h
        · rename_i t ts' h1 h2
          cases h
          obtain ⟨g1, g2, g3⟩ := tns_ok n r ts' h2 X W k
          refine ⟨g_cons (tn_ok n e t h1 X W k) g1 (by rw [aE_ok hs]; rfl), by rw [aE_ok hs]; show (assignEach r X.env).length + 1 = _; rw [g2]; rfl, ?_⟩
          rw [aE_ok hs, List.findIdx?_cons]
          simp [g3]
        · cases h
      · cases h
end
theorem blkC_names {N : List Str} {s1 s2 sc : Scope} {own : List (Str × Nat)} (h : s1.names = s2.names) : blkC N s1 sc own = blkC N s2 sc own := by
  unfold blkC
  rw [h]
theorem relS_names {X : Cx} {W : WX} (k : OkC F c X W) (sc : Scope) : (relabel sc X.env).names = (relS sc c.sc).names := by
  show sc.names.map (fun (y : Str × NameKind) => if (y.2 == NameKind.free && X.env.scope.kind == ScopeKind.function && X.env.scope.names.lookup y.1 == some NameKind.cell) = true then (y.1, NameKind.cell) else (y.1, y.2)) = _
  rw [k.kind, k.names]
  rfl
theorem ok_blk {X : Cx} {W : WX} {sc : Scope} (k : OkC F c X W) (hk : sc.kind = .function) (s : Shared) (H : Hp) (C : Addr) (cl : List (Str × Addr)) (fp : List Addr) : OkC F (c.blk sc) (X.blk s H sc (compEnvC sc cl C X.env) fp) WF where
  names := relS_names k sc
  kind := hk
  N := k.N
  nd := k.nd
  calm := k.calm
  hu := k.hu
  con := k.con
  fn := k.fn
  bi := k.bi
  ty := k.ty
  rng := k.rng
  exc := k.exc
  exm := k.exm
  tk := fun _ _ x => by
    obtain ⟨_, _, _, _, _, _, _, _, _, _, _, _, _, _, _, _, z⟩ := x
    exact z.elim
  hp := fun h => by cases h
  fnx := fun h => by cases h
  stk := fun h => by cases h
theorem snd_ifs {f : Expr → Option E} (hf : ∀ e i, f e = some i → SndE F c e i) {ifs : List Expr} {cs : Es} (h : cIfs f ifs = some cs) : ∀ X W, OkC F c X W → PTs X ifs (tMb X.K W (evT F cs)) := fun X W k => by
  unfold cIfs at h
  split at h
  · cases h
    exact ⟨fun pins s σ H Q I ⟨ω, S, env, hS, hE, q⟩ => pts_nil.run pins s σ H Q I (q ω H true (.refl _ _) hS rfl)⟩
  · split at h
    · rename_i y h1
      cases h
      exact pts_one (hf _ y h1 X W k).2
    · cases h
  · cases h
theorem set_ok {e : Expr} (h : noSet e = true) (env : PySem.Env) : ∀ x, foldedSetIterable e env x = pure x := fun x => by
  cases e <;> first | rfl | cases h
theorem snd_lc {f g : Expr → Option E} {q : Expr → Option Tn} {sc : Scope} (hf : ∀ e i, f e = some i → SndE F c e i) (hg : ∀ e i, g e = some i → SndE F (c.blk sc) e i) (hq : ∀ e t, q e = some t → SndTn F (c.blk sc) e t)
    {elt tg it : Expr} {ifs : List Expr} {own : List (Str × Nat)} {i : E} {pos : Pos} (h : cLc f g q c elt tg it ifs sc own = some i) : SndE F c (.ListComp elt [⟨tg, it, ifs, 0⟩] sc pos) i := by
  refine snd_plain (fun _ _ => rfl) fun X W k => ?_
  unfold cLc at h
  split at h
  · rename_i hb
    obtain ⟨hb, hh⟩ := Bool.and_eq_true_iff.mp hb
    have hh : c.hot = false := by simpa using hh
    split at h
    · rename_i t i' y cs h1 h2 h3 h4
      split at h
      · rename_i hs
        cases h
        have ok : BlkOk X.N X.env.scope sc own := blkOk_by (by rw [k.N]; exact (blkC_names (s2 := c.sc) k.names).trans hb)
        obtain ⟨i1, i2⟩ := snd_iter hf h2
        refine m_lc (k.calm hh) k.nd (i2 X W tg k) ok (fun j hj => of_decide_eq_true (List.all_eq_true.mp hs j hj)) (fun s H C cl fp => ?_) (fun s H C cl fp => ?_) (fun s H C cl fp => ?_) (set_ok i1 _)
        · exact hq tg t h1 _ _ (ok_blk k ok.kind s H C cl fp)
        · exact snd_ifs hg h4 _ _ (ok_blk k ok.kind s H C cl fp)
        · exact (hg elt y h3 _ _ (ok_blk k ok.kind s H C cl fp)).1
      · cases h
    · cases h
  · cases h
end
theorem cE_ok {F : Nat → List D → Mem → Out D} : ∀ (n : Nat) (c : CT) (e : Expr) (i : E), cE n c e = some i → SndE F c e i
  | 0, _, _, _, h => by cases h
  | n + 1, c, e, i, h => by
    have ih := cE_ok (F := F) n c
    unfold cE at h
    split at h
    · exact snd_const h
    · exact snd_name h
    · split at h
      · rename_i o x y h1 h2 h3
        cases h
        exact snd_bin h1 (ih _ _ h2) (ih _ _ h3)
      · cases h
    · unfold cUn at h
      split at h
      · split at h
        · rename_i x h1
          cases h
          exact snd_neg (ih _ _ h1)
        · cases h
      · split at h
        · rename_i x h1
          cases h
          exact snd_no (ih _ _ h1)
        · cases h
      · cases h
    · exact (snd_bool ih _ _ _ h).1
    · unfold cCmp at h
      split at h
      · split at h
        · rename_i hs
          split at h
          · rename_i x y h1 h2
            cases h
            exact snd_cmp hs (ih _ _ h1) (ih _ _ h2)
          · cases h
        · cases h
      · split at h
        · rename_i hs
          split at h
          · rename_i x y z h1 h2 h3
            cases h
            exact snd_chn hs (ih _ _ h1) (ih _ _ h2) (ih _ _ h3)
          · cases h
        · cases h
      · cases h
    · split at h
      · rename_i z x y h1 h2 h3
        cases h
        exact snd_ife (ih _ _ h1) (ih _ _ h2) (ih _ _ h3)
      · cases h
    · split at h
      · rename_i xs h1
        cases h
        exact snd_plain (fun _ _ => rfl) fun X W k => m_tup (pe_tup (snd_disp ih _ _ h1 X W k))
      · cases h
    · split at h
      · rename_i xs h1
        cases h
        exact snd_plain (fun _ _ => rfl) fun X W k => m_lst (pe_lst (snd_disp ih _ _ h1 X W k))
      · cases h
    · exact snd_sub ih h
    · unfold cFn at h
      split at h
      · exact snd_call ih h
      · exact snd_meth ih h
      · cases h
    · split at h
      · rename_i ha
        subst ha
        split at h
        · cases h
        · exact snd_lc ih (cE_ok n _) (fun e t => tn_ok n e t) h
      · cases h
    · cases h
end Mi

set_option Elab.async false
set_option linter.all false
set_option maxRecDepth 100000
set_option maxHeartbeats 4000000
/-! MiH: statements -/
namespace Mi
open PySem PySem.Spec PyProof.Rows L2

/-- may a, b = x, y be stored as one tuple: nothing is swapped -/
def asgPlain : Expr → Expr → Bool
  | .Tuple _ _ _, .Tuple vs _ _ => vs.all (foldedForSure 8)
  | .List _ _, .Tuple vs _ _ => vs.all (foldedForSure 8)
  | _, _ => true
def bopAug : Operator → Option Bop
  | .Add => some .add | .Sub => some .sub
  | _ => none
/-- the first binding of a local: its slot, if the block knows it as a local -/
def locOf (c : CT) (x : Str) : Option Nat := match c.names.lookup x with
  | some .local => storeOf c x
  | _ => none
def swapOk (ps : List Pos) (vs : List Expr) : Bool := (match ps with
  | [] => true
  | p :: r => r.all fun q => q.line == p.line) && !vs.all (foldedForSure 8) && !vs.all (constantsAlone 8) && vs.all noStar
/-- a name takes a comprehension's list: the compiler puts its own names by -/
def cSetLc (n : Nat) (c : CT) (x : Str) (px : Pos) : Expr → Option Sm
  | .ListComp elt [⟨tg, it, ifs, a⟩] sc p => if (decide (a = 0) && (px.line == p.line) && !(sc.names.any fun (m, k) => m == x && (k == .local || k == .cell))) = true then (match locOf c x, ownOf c.N sc.names with
    | some i, some own => (match cLc (cE n c) (cE n (c.blk sc)) (cTn n (c.blk sc)) c elt tg it ifs sc own with
      | some e => some (.asg (.n (.nm i)) e)
      | none => none)
    | _, _ => none) else none
  | _ => none
def cAsg (n : Nat) (c : CT) (tg e : Expr) : Option Sm := if noComp e = true then (match tg with
    | .Subscript o i _ => if noSlice i = true then (match cE n c e, cE n c o, cE n c i with
      | some x, some y, some z => some (.asg (.sub y z) x)
      | _, _, _ => none) else none
    | .Tuple [.Name x px, .Name y py] _ _ => (match e with
      | .Tuple [a, b] _ _ => if (swapOk [px, py] [a, b] && decide (x ≠ y)) = true then (match locOf c x, locOf c y, cE n c a, cE n c b with
        | some i, some j, some u, some v => some (.par2 i j u v)
        | _, _, _, _ => none) else (if [a, b].all (foldedForSure 8) = true then (match cE n c e, cTn n c tg with
          | some u, some t => some (.asg (.n t) u)
          | _, _ => none) else none)
      | _ => if asgPlain tg e = true then (match cE n c e, cTn n c tg with
        | some u, some t => some (.asg (.n t) u)
        | _, _ => none) else none)
    | .Tuple [.Name x px, .Name y py, .Name z pz] _ _ => (match e with
      | .Tuple [a, b, d] _ _ => if (swapOk [px, py, pz] [a, b, d] && decide (x ≠ y) && decide (x ≠ z) && decide (y ≠ z)) = true then (match locOf c x, locOf c y, locOf c z, cE n c a, cE n c b, cE n c d with
        | some i, some j, some k, some u, some v, some w => some (.par3 i j k u v w)
        | _, _, _, _, _, _ => none) else (if [a, b, d].all (foldedForSure 8) = true then (match cE n c e, cTn n c tg with
          | some u, some t => some (.asg (.n t) u)
          | _, _ => none) else none)
      | _ => if asgPlain tg e = true then (match cE n c e, cTn n c tg with
        | some u, some t => some (.asg (.n t) u)
        | _, _ => none) else none)
    | _ => if asgPlain tg e = true then (match cE n c e, cTn n c tg with
      | some u, some t => some (.asg (.n t) u)
      | _, _ => none) else none) else (match tg with
    | .Name x px => cSetLc n c x px e
    | _ => none)
def CT.heat (c : CT) : CT := { c with cm := true, hot := true }
/-- the suites of a try: a return each -/
def cHs (f : Expr → Option E) (c : CT) : List ExceptHandler → Option Hs
  | [] => some .nil
  | .ExceptHandler (some (.Name y _)) none [.Return (some e) _] _ :: r => (match globOf c y, c.exs.lookup y, f e, cHs f c r with
    | some .exc, some (ys, zs), some x, some hs => some (.cons ys zs (.cons (.ret x) .nil) hs)
    | _, _, _, _ => none)
  | _ => none
mutual
def cS : Nat → CT → Stmt → Option Sm
  | 0, _, _ => none
  | n + 1, c, s => match s with
    | .Assign [tg] e _ => cAsg n c tg e
    | .AugAssign (.Name x _) o e _ => (match storeOf c x, bopAug o, cE n c e with
      | some i, some o', some y => some (.aug i o' y)
      | _, _, _ => none)
    | .Expr e _ => if noComp e = true then (match cE n c e with
      | some x => some (.ex x)
      | none => none) else none
    | .Return (some e) _ => (match cE n c e with
      | some x => some (.ret x)
      | none => none)
    | .Return none _ => some .retN
    | .If t a b _ => (match cE n c t, cSs n c a, cSs n c b with
      | some x, some y, some z => some (.iff x y z)
      | _, _, _ => none)
    | .For tg it b [] _ => (match cTn n c tg, cIter (cE n c) c it, cSs n c b with
      | some t, some i, some y => some (.for_ t i y)
      | _, _, _ => none)
    | .While t b [] _ => (match cE n c t, cSs n c b with
      | some x, some y => some (.whl x y)
      | _, _ => none)
    | .Pass _ => some .pass
    | .Break _ => some .brk
    | .Continue _ => some .cont
    | .Raise e z _ => (match e, z with
      | some (.Call (.Name x _) [.Constant (.str _) _ _] [] _), none => (match globOf c x with
        | some .exc => some (.rai x)
        | _ => some .never)
      | _, _ => some .never)
    | .Try b (h :: hs) [] [] _ => (match cSs n c b, cHs (cE n c.heat) c (h :: hs) with
      | some x, some y => some (.tri x y)
      | _, _ => none)
    | _ => none
def cSs : Nat → CT → List Stmt → Option Ss
  | 0, _, _ => none
  | n + 1, c, ss => match ss with
    | [] => some .nil
    | s :: r => match cS n c s, cSs n c r with
      | some x, some xs => some (.cons x xs)
      | _, _ => none
end

def SndS (F : Nat → List D → Mem → Out D) (c : CT) (s : Stmt) (i : Sm) : Prop := ∀ X W, OkC F c X W → PS X s (tS X.K W (evS F i))
def SndSs (F : Nat → List D → Mem → Out D) (c : CT) (s : List Stmt) (i : Ss) : Prop := ∀ X W, OkC F c X W → PSs X s (tS X.K W (evSs F i))
section
variable {F : Nat → List D → Mem → Out D} {c : CT} {pos : Pos} {e tg : Expr}
theorem comp_ok {t : Option Expr} {l : Nat} {env : PySem.Env} (h : noComp e = true) : swapsWith e t l env = pure false := by
  cases e <;> first | rfl | cases h
theorem tup_sole {l : Nat} {env : PySem.Env} (h : noComp e = true) : swapsWithSole [tg] e l env = pure false := comp_ok h
theorem swap_none {env : PySem.Env} (h : asgPlain tg e = true) : swappedStores [tg] e env = pure none := by
  have fin : ∀ (ts vs : List Expr), vs.all (foldedForSure 8) = true → (do
      if (!(ts.length == 2 || ts.length == 3) || vs.length != ts.length || env.blockKind != ScopeKind.function) = true then return none
      if (vs.any fun | .Starred .. => true | _ => false) = true then return none
      let line := (ts.head?.map (·.pos.line)).getD 0
      let names := ts.filterMap fun
        | .Name id pos => if env.kindOf id == some .local && pos.line == line then some id else none
        | _ => none
      if (names.length != ts.length || names.eraseDups.length != names.length) = true then return none
      if vs.all (foldedForSure 8) = true then return none
      if vs.all (constantsAlone 8) = true then unsupported "assign.tuple-of-constant-expressions:order-of-the-stores"
      return some names : Sem (Option (List Str))) = pure none := fun ts vs h => by
    simp only [h]
    repeat' split
    all_goals first | rfl | contradiction | (rename_i hh _; exact absurd rfl hh)
  unfold asgPlain at h
  split at h
  · exact fin _ _ h
  · exact fin _ _ h
  · rename_i h1 h2
    cases tg <;> cases e <;> first | rfl | exact (h1 _ _ _ _ _ _ rfl rfl).elim | exact (h2 _ _ _ _ _ rfl rfl).elim
theorem nt {b : Bool} (h : (!b) = true) : b = false := by cases b <;> first | rfl | cases h
theorem kind_of {env : PySem.Env} (hk : env.scope.kind = .function) : env.blockKind = .function := by unfold Env.blockKind; rw [hk]; rfl
theorem swap_two {env : PySem.Env} {x y : Str} {px py p q : Pos} {k l : Nat} {a b : Expr} (hk : env.scope.kind = .function) (hx : env.scope.names.lookup x = some .local) (hy : env.scope.names.lookup y = some .local) (hs : swapOk [px, py] [a, b] = true) (hn : x ≠ y) :
    swappedStores [.Tuple [.Name x px, .Name y py] k p] (.Tuple [a, b] l q) env = pure (some [x, y]) := by
  unfold swapOk at hs
  obtain ⟨hs, s4⟩ := Bool.and_eq_true_iff.mp hs
  obtain ⟨hs, s3⟩ := Bool.and_eq_true_iff.mp hs
  obtain ⟨s1, s2⟩ := Bool.and_eq_true_iff.mp hs
  have t2 : [a, b].all (foldedForSure 8) = false := nt s2
  have t3 : [a, b].all (constantsAlone 8) = false := nt s3
  have t1 : (py.line == px.line) = true := by simpa using s1
  have kx : env.kindOf x = some .local := hx
  have ky : env.kindOf y = some .local := hy
  have t4 : ([a, b].any fun | .Starred .. => true | _ => false) = false := by
    have h4 : noStar a = true ∧ noStar b = true := by simpa using s4
    obtain ⟨n1, n2⟩ := h4
    have e : ∀ {w : Expr}, noStar w = true → (match w with | .Starred .. => true | _ => false) = false := fun {w} n => by cases w <;> first | rfl | cases n
    show (_ || (_ || false)) = false
    rw [Bool.or_false]
    exact Bool.or_eq_false_iff.mpr ⟨e n1, e n2⟩
  have hxy : (y == x) = false := by simpa using Ne.symm hn
  have t5 : [x, y].eraseDups = [x, y] := by simp [List.eraseDups_cons, hn, Ne.symm hn]
  have t6 : ∀ l : Nat, (px.line == l) = true → ([(Expr.Name x px), Expr.Name y py].filterMap fun
      | .Name id pos => if (env.kindOf id == some .local && pos.line == l) = true then some id else none
      | _ => none) = [x, y] := fun l h => by
    have e1 : px.line = l := by simpa using h
    have e2 : py.line = px.line := by simpa using t1
    simp [List.filterMap_cons, kx, ky, e2, e1]
  unfold swappedStores
  dsimp only
  refine (if_neg (by rw [kind_of hk]; exact fun z => by cases z)).trans ((if_neg fun z => Bool.noConfusion (t4.symm.trans z)).trans ((if_neg ?_).trans ((if_neg fun z => Bool.noConfusion (t2.symm.trans z)).trans ((if_neg fun z => Bool.noConfusion (t3.symm.trans z)).trans ?_))))
  · have fin : ∀ l : List Str, l = [x, y] → ¬ (l.length != 2 || l.eraseDups.length != l.length) = true := fun l e => by subst e; rw [t5]; simp
    exact fin _ (t6 px.line (by simp))
  · exact congrArg (fun l : List Str => (pure (some l) : Sem (Option (List Str)))) (t6 px.line (by simp))
theorem swap_three {env : PySem.Env} {x y z : Str} {px py pz p q : Pos} {k l : Nat} {a b d : Expr} (hk : env.scope.kind = .function) (hx : env.scope.names.lookup x = some .local) (hy : env.scope.names.lookup y = some .local) (hz : env.scope.names.lookup z = some .local)
    (hs : swapOk [px, py, pz] [a, b, d] = true) (hn : x ≠ y) (hn2 : x ≠ z) (hn3 : y ≠ z) :
    swappedStores [.Tuple [.Name x px, .Name y py, .Name z pz] k p] (.Tuple [a, b, d] l q) env = pure (some [x, y, z]) := by
  unfold swapOk at hs
  obtain ⟨hs, s4⟩ := Bool.and_eq_true_iff.mp hs
  obtain ⟨hs, s3⟩ := Bool.and_eq_true_iff.mp hs
  obtain ⟨s1, s2⟩ := Bool.and_eq_true_iff.mp hs
  have t2 : [a, b, d].all (foldedForSure 8) = false := nt s2
  have t3 : [a, b, d].all (constantsAlone 8) = false := nt s3
  have t1 : (py.line == px.line) = true ∧ (pz.line == px.line) = true := by simpa using s1
  have kx : env.kindOf x = some .local := hx
  have ky : env.kindOf y = some .local := hy
  have kz : env.kindOf z = some .local := hz
  have t4 : ([a, b, d].any fun | .Starred .. => true | _ => false) = false := by
    have h4 : noStar a = true ∧ noStar b = true ∧ noStar d = true := by simpa using s4
    obtain ⟨n1, n2, n3⟩ := h4
    have e : ∀ {w : Expr}, noStar w = true → (match w with | .Starred .. => true | _ => false) = false := fun {w} n => by cases w <;> first | rfl | cases n
    show (_ || (_ || (_ || false))) = false
    rw [Bool.or_false]
    exact Bool.or_eq_false_iff.mpr ⟨e n1, Bool.or_eq_false_iff.mpr ⟨e n2, e n3⟩⟩
  have t5 : [x, y, z].eraseDups = [x, y, z] := by simp [List.eraseDups_cons, hn, hn2, hn3, Ne.symm hn, Ne.symm hn2, Ne.symm hn3]
  have t6 : ∀ l : Nat, (px.line == l) = true → ([(Expr.Name x px), Expr.Name y py, Expr.Name z pz].filterMap fun
      | .Name id pos => if (env.kindOf id == some .local && pos.line == l) = true then some id else none
      | _ => none) = [x, y, z] := fun l h => by
    have e1 : px.line = l := by simpa using h
    have e2 : py.line = px.line := by simpa using t1.1
    have e3 : pz.line = px.line := by simpa using t1.2
    simp [List.filterMap_cons, kx, ky, kz, e2, e3, e1]
  unfold swappedStores
  dsimp only
  refine (if_neg (by rw [kind_of hk]; exact fun z => by cases z)).trans ((if_neg fun z => Bool.noConfusion (t4.symm.trans z)).trans ((if_neg ?_).trans ((if_neg fun z => Bool.noConfusion (t2.symm.trans z)).trans ((if_neg fun z => Bool.noConfusion (t3.symm.trans z)).trans ?_))))
  · have fin : ∀ l : List Str, l = [x, y, z] → ¬ (l.length != 3 || l.eraseDups.length != l.length) = true := fun l e => by subst e; rw [t5]; simp
    exact fin _ (t6 px.line (by simp))
  · exact congrArg (fun l : List Str => (pure (some l) : Sem (Option (List Str)))) (t6 px.line (by simp))

theorem loc_ok {x : Str} {j : Nat} {X : Cx} {W : WX} (o : OkC F c X W) (h : locOf c x = some j) : X.N[j]? = some x ∧ X.env.scope.names.lookup x = some .local := by
  unfold locOf at h
  split at h
  · rename_i q
    exact ⟨(store_ok' o h).1, by rw [o.names]; exact q⟩
  · cases h
theorem ne_ix {X : Cx} {W : WX} (o : OkC F c X W) {x y : Str} {i j : Nat} (hi : X.N[i]? = some x) (hj : X.N[j]? = some y) (h : x ≠ y) : i ≠ j := fun e => by
  subst e
  rw [hi] at hj
  exact h (Option.some.inj hj)
/-- target = value, nothing swapped, names alone -/
theorem snd_asgN {x : E} {t : Tn} (he : SndE F c e x) (hg : SndTn F c tg t) (hn : noComp e = true) (hp : asgPlain tg e = true) (h1 : ∀ env, (assignEach [tg] env).map (·.2) = [assign tg env]) : SndS F c (.Assign [tg] e pos) (.asg (.n t) x) := fun X W k =>
  s_asg (mg := evG F (.n t)) (ps_asg (he X W k).1 (hg X W k) (comp_ok hn) (swap_none hp) (h1 _)) (fun σ H Q q => q) fun v σ H Q q => gt_n q
theorem one_tn {n : Nat} {t : Tn} (h : cTn n c tg = some t) (env : PySem.Env) : (assignEach [tg] env).map (·.2) = [assign tg env] := by
  cases n with
  | zero => cases h
  | succ n =>
    unfold cTn at h
    split at h <;> first | rfl | cases h
theorem snd_gen {n : Nat} {i : Sm} (hn : noComp e = true) (h : (if asgPlain tg e = true then (match cE n c e, cTn n c tg with
      | some u, some t => some (Sm.asg (.n t) u)
      | _, _ => none) else none) = some i) : SndS F c (.Assign [tg] e pos) i := by
  split at h
  · rename_i hp
    split at h
    · rename_i u t h1 h2
      cases h
      exact snd_asgN (cE_ok n c e u h1) (tn_ok n tg t h2) hn hp (one_tn h2)
    · cases h
  · cases h
theorem snd_setLc {n : Nat} {x : Str} {px : Pos} {i : Sm} (h : cSetLc n c x px e = some i) : SndS F c (.Assign [.Name x px] e pos) i := by
  unfold cSetLc at h
  split at h
  · split at h
    · rename_i hc
      obtain ⟨hc, c3⟩ := Bool.and_eq_true_iff.mp hc
      obtain ⟨c1, c2⟩ := Bool.and_eq_true_iff.mp hc
      have c1' := of_decide_eq_true c1
      subst c1'
      split at h
      · rename_i j own h1 h2
        split at h
        · rename_i y h3
          cases h
          intro X W k
          obtain ⟨l1, l2⟩ := loc_ok k h1
          unfold cLc at h3
          split at h3
          · rename_i hb
            obtain ⟨hb, hh⟩ := Bool.and_eq_true_iff.mp hb
            have hh : c.hot = false := by simpa using hh
            split at h3
            · rename_i t i' y' cs h4 h5 h6 h7
              split at h3
              · rename_i hs
                cases h3
                have ok : BlkOk X.N X.env.scope _ own := blkOk_by (by rw [k.N]; exact (blkC_names (s2 := c.sc) k.names).trans hb)
                obtain ⟨i1, i2⟩ := snd_iter (cE_ok (F := F) n c) h5
                have ho := fun j hj => of_decide_eq_true (List.all_eq_true.mp hs j hj)
                refine s_asg (ma := evE F (.lc t i' cs y' (own.map (·.2)))) (mg := evG F (.n (.nm j))) (ps_setLc (k.calm hh) k.nd l1 l2 (sw_true k.kind l2 c2 (nt c3)) (i2 X W _ k) ok (g := tGn X.K t) (fun s H C cl fp => ?_) (fun s H C cl fp => ?_) (fun s H C cl fp => ?_) (set_ok i1 _)) (fun σ H Q q => lc_read ho q) (fun v σ H Q q => gt_nm q)
                · exact tn_ok n _ t h4 _ _ (ok_blk k ok.kind s H C cl fp)
                · exact snd_ifs (cE_ok n _) h7 _ _ (ok_blk k ok.kind s H C cl fp)
                · exact (cE_ok n _ _ y' h6 _ _ (ok_blk k ok.kind s H C cl fp)).1
              · cases h3
            · cases h3
          · cases h3
        · cases h
      · cases h
    · cases h
  · cases h
theorem fold_plain {ts vs : List Expr} {k l : Nat} {p q : Pos} (h : vs.all (foldedForSure 8) = true) : asgPlain (.Tuple ts k p) (.Tuple vs l q) = true := h
theorem sub_ok {o i : Expr} (h : noSlice i = true) (env : PySem.Env) : ∀ v, assign (.Subscript o i pos) env v = (do
      let ov ← holding [v] (eval o env)
      let iv ← holding [v, ov] (eval i env)
      standAt pos
      holding [v, ov, iv] (setItem ov iv v)
      release [v, ov, iv] []) := fun v => by
  cases i <;> first | rfl | cases h
theorem pa_two {X : Cx} {W : WX} {a b : Expr} {x y : E} (n1 : noStar a = true) (n2 : noStar b = true) (ha : PE X a (tM X.K W (evE F x))) (hb : PE X b (tM X.K W (evE F y))) : PA X [a, b] (tCons (tM X.K W (evE F x)) (tCons (tM X.K W (evE F y)) tNil)) :=
  pa_cons ha (pa_cons hb pa_nil (star_ok n2 _)) (star_ok n1 _)
theorem snd_asg {n : Nat} {i : Sm} (hh : c.hot = false) (h : cAsg n c tg e = some i) : SndS F c (.Assign [tg] e pos) i := by
  unfold cAsg at h
  split at h
  · rename_i hn
    split at h
    · split at h
      · rename_i hs
        split at h
        · rename_i x y z h1 h2 h3
          cases h
          exact fun X W k => s_asg (mg := evG F (.sub y z)) (ps_asg (cE_ok n c e x h1 X W k).1 (pg_sub (cE_ok n c _ y h2 X W k).1 (cE_ok n c _ z h3 X W k).1 up_set (sub_ok hs _)) (tup_sole hn) (swap_none (by cases e <;> rfl))) (fun σ H Q q => q) fun v σ H Q q => gt_sub q
        · cases h
      · cases h
    · split at h
      · rename_i a b kk pp
        split at h
        · rename_i hc
          obtain ⟨c1, c2⟩ := Bool.and_eq_true_iff.mp hc
          have c2' := of_decide_eq_true c2
          split at h
          · rename_i i j u v h1 h2 h3 h4
            cases h
            intro X W k
            obtain ⟨l1, m1⟩ := loc_ok k h1
            obtain ⟨l2, m2⟩ := loc_ok k h2
            have st : noStar a = true ∧ noStar b = true := by simpa using (Bool.and_eq_true_iff.mp c1).2
            exact s_par2 (ps_par (k.calm hh) k.nd l1 l2 (ne_ix k l1 l2 c2') m1 m2 (pa_two st.1 st.2 (cE_ok n c _ u h3 X W k).1 (cE_ok n c _ v h4 X W k).1) (swap_two k.kind m1 m2 c1 c2') rfl)
          · cases h
        · split at h
          · rename_i hf
            exact snd_gen hn (n := n) ((if_pos (fold_plain hf)).trans h)
          · cases h
      · exact snd_gen hn h
    · split at h
      · rename_i a b d kk pp
        split at h
        · rename_i hc
          obtain ⟨hc, c4⟩ := Bool.and_eq_true_iff.mp hc
          obtain ⟨hc, c3⟩ := Bool.and_eq_true_iff.mp hc
          obtain ⟨c1, c2⟩ := Bool.and_eq_true_iff.mp hc
          have c2' := of_decide_eq_true c2
          have c3' := of_decide_eq_true c3
          have c4' := of_decide_eq_true c4
          split at h
          · rename_i i j l u v w h1 h2 h3 h4 h5 h6
            cases h
            intro X W k
            obtain ⟨l1, m1⟩ := loc_ok k h1
            obtain ⟨l2, m2⟩ := loc_ok k h2
            obtain ⟨l3, m3⟩ := loc_ok k h3
            have st : noStar a = true ∧ noStar b = true ∧ noStar d = true := by simpa using (Bool.and_eq_true_iff.mp c1).2
            exact s_par3 (ps_par3 (k.calm hh) k.nd l1 l2 l3 (ne_ix k l1 l2 c2') (ne_ix k l1 l3 c3') (ne_ix k l2 l3 c4') m1 m2 m3 (pa_cons (cE_ok n c _ u h4 X W k).1 (pa_two st.2.1 st.2.2 (cE_ok n c _ v h5 X W k).1 (cE_ok n c _ w h6 X W k).1) (star_ok st.1 _)) (swap_three k.kind m1 m2 m3 c1 c2' c3' c4') rfl)
          · cases h
        · split at h
          · rename_i hf
            exact snd_gen hn (n := n) ((if_pos (fold_plain hf)).trans h)
          · cases h
      · exact snd_gen hn h
    · exact snd_gen hn h
  · split at h
    · exact snd_setLc h
    · cases h
theorem aug_ok {X : Cx} {o : Operator} {o' : Bop} (h2 : bopAug o = some o') : PIp X o (rU2 X.K (fAug o')) := by
  cases o with
  | Add => cases h2; exact up_aug .add
  | Sub => cases h2; exact up_aug .sub
  | _ => cases h2
theorem ok_tr {X : Cx} {W W' : WX} (k : OkC F c X W) (hm : c.cm = false) {pn : List (Addr × Obj)} {xe : Value → Shared → Prop} (tk : Takes (X.tr pn xe) W') (hp : PassesOwn (model X.prog X.w) X.A X.env xe) : OkC F c (X.tr pn xe) W' where
  names := k.names
  kind := k.kind
  N := k.N
  nd := k.nd
  calm := k.calm
  hu := k.hu
  con := k.con
  fn := k.fn
  bi := k.bi
  ty := k.ty
  rng := k.rng
  exc := k.exc
  exm := k.exm
  tk := tk
  hp := fun _ => hp
  fnx := k.fnx
  stk := k.stk
theorem ok_suite {X : Cx} {W : WX} (k : OkC F c X W) (a : Addr) (pn : List (Addr × Obj)) : OkC F c.heat (X.suite a pn) WF where
  names := k.names
  kind := k.kind
  N := k.N
  nd := k.nd
  calm := fun h => by cases h
  hu := k.hu
  con := k.con
  fn := fun h => by cases h
  bi := k.bi
  ty := k.ty
  rng := k.rng
  exc := k.exc
  exm := k.exm
  tk := fun _ _ x => by
    obtain ⟨_, _, _, _, _, _, _, _, _, _, _, _, _, _, _, _, z⟩ := x
    exact z.elim
  hp := fun h => by cases h
  fnx := fun h => by cases h
  stk := fun h => by cases h
theorem hs_ok {f : Expr → Option E} (hf : ∀ e i, f e = some i → SndE F c.heat e i) {X : Cx} {W : WX} (k : OkC F c X W) : ∀ (hs : List ExceptHandler) (i : Hs), cHs f c hs = some i → ∃ l, HdsOk X hs l ∧ HL X.K F i l
  | [], i, h => by cases h; exact ⟨[], .nil, .nil⟩
  | e :: r, i, h => by
    unfold cHs at h
    split at h
    · cases h
      rename_i e1
      cases e1
    · rename_i y p e2 p2 p3 r2 e1
      cases e1
      split at h
      · rename_i ys zs x hs hg hx h1 h2
        cases h
        obtain ⟨g1, g2, g3⟩ := glob_ok k hg
        obtain ⟨d1, d2, d3⟩ := dbg_ok g3
        obtain ⟨m1, m2, m3, m4⟩ := k.exc y g2
        obtain ⟨x1, x2⟩ := k.exm y ys zs hx
        obtain ⟨l, l1, l2⟩ := hs_ok hf k _ hs h2
        refine ⟨_, .cons (c := .ref (He.ga X.K y)) ⟨g1, d1, .inl m1⟩ (fun a oe cls d pn _ _ => ?_) l1, .cons x1 x2 l2⟩
        exact ss_cons (s_ret (ps_ret (hf _ x h1 _ _ (ok_suite k a _)).1)) ss_nil
      · cases h
    · cases h
mutual
theorem cS_ok (hm : c.cm = false) (hh : c.hot = false) : ∀ (n : Nat) (s : Stmt) (i : Sm), cS n c s = some i → SndS F c s i
  | 0, _, _, h => by cases h
  | n + 1, s, i, h => by
    unfold cS at h
    split at h
    · exact snd_asg hh h
    · split at h
      · rename_i i o' y h1 h2 h3
        cases h
        intro X W k
        obtain ⟨s1, s2, s3⟩ := store_ok' k h1
        have aug := aug_ok (X := X) h2
        exact s_aug (ps_aug k.nd s1 s2 (cE_ok n c _ y h3 X W k).1 aug s3)
      · cases h
    · split at h
      · rename_i hn
        split at h
        · rename_i x h1
          cases h
          exact fun X W k => s_ex (ps_expr (cE_ok n c _ x h1 X W k).1 (comp_ok hn))
        · cases h
      · cases h
    · split at h
      · rename_i x h1
        cases h
        exact fun X W k => s_ret (ps_ret (cE_ok n c _ x h1 X W k).1)
      · cases h
    · cases h; exact fun X W k => s_retN ps_retN
    · split at h
      · rename_i x y z h1 h2 h3
        cases h
        exact fun X W k => s_iff (t := tS X.K W (evSs F y)) (u := tS X.K W (evSs F z)) (ps_if (cE_ok n c _ x h1 X W k).2 (cSs_ok hm hh n _ y h2 X W k) (cSs_ok hm hh n _ z h3 X W k))
      · cases h
    · split at h
      · rename_i t i y h1 h2 h3
        cases h
        intro X W k
        obtain ⟨i1, i2⟩ := snd_iter (cE_ok (F := F) n c) h2
        exact s_for (ps_for (k.hp hm) (k.calm hh) (i2 X W _ k) (tn_ok n _ t h1 X W k) (cSs_ok hm hh n _ y h3 X W k) (set_ok i1 _))
      · cases h
    · split at h
      · rename_i x y h1 h2
        cases h
        exact fun X W k => s_whl (ps_while (k.hp hm) (cE_ok n c _ x h1 X W k).2 (cSs_ok hm hh n _ y h2 X W k))
      · cases h
    · cases h; exact fun X W k => s_pass ps_pass
    · cases h; exact fun X W k => s_brk ps_break
    · cases h; exact fun X W k => s_cont ps_continue
    · split at h
      · split at h
        · rename_i hg
          cases h
          intro X W k
          obtain ⟨g1, g2, g3⟩ := glob_ok k hg
          obtain ⟨d1, d2, d3⟩ := dbg_ok g3
          obtain ⟨m1, m2, m3, m4⟩ := k.exc _ g2
          exact s_rai rfl (ps_raise (k.calm hh) k.tk (pmk_own PySem.F.excBase_ValueError m2 m1 m3 m4 g1 d1))
        · cases h; exact fun X W k => s_never
      · cases h; exact fun X W k => s_never
    · split at h
      · rename_i x y h1 h2
        cases h
        intro X W k
        obtain ⟨l, l1, l2⟩ := hs_ok (cE_ok (F := F) n c.heat) k _ y h2
        obtain ⟨s1, s2⟩ := k.stk hm
        exact s_tri l2 (ps_try_many (tb := fun W' => tS X.K W' (evSs F x)) s1 s2 k.tk (fun W' pn xe tk hp => cSs_ok hm hh n _ x h1 _ _ (ok_tr k hm tk hp)) l1)
      · cases h
    · cases h
theorem cSs_ok (hm : c.cm = false) (hh : c.hot = false) : ∀ (n : Nat) (s : List Stmt) (i : Ss), cSs n c s = some i → SndSs F c s i
  | 0, _, _, h => by cases h
  | n + 1, s, i, h => by
    unfold cSs at h
    split at h
    · cases h; exact fun X W k => ss_nil
    · split at h
      · rename_i x xs h1 h2
        cases h
        exact fun X W k => ss_cons (cS_ok hm hh n _ x h1 X W k) (cSs_ok hm hh n _ xs h2 X W k)
      · cases h
end
end
end Mi

set_option Elab.async false
set_option linter.all false
set_option maxRecDepth 100000
set_option maxHeartbeats 4000000
/-! MiI: the defs of a text -/
namespace Mi
open PySem PySem.Spec PyProof.Rows L2

/-- a def of the text: its name, its row, the slots' names, the parameters -/
structure Fn where
  name : Str
  st : Stmt
  N : List Str
  ps : List Str
@[reducible] def Fn.df (f : Fn) : He.DefD := ⟨(f.name, none), f.name, f.name, defArgs f.st, defBody f.st, defScope f.st, [], []⟩
/-- it binds what is given -/
def Fn.Bind (f : Fn) : Prop := ∀ (kV doc pm : Value) (an : Option Addr) (cdv ct : Value) (us : List Value), us.length = f.ps.length → bindArgs (PySem.W.fnOf f.name f.name (defArgs f.st) (defBody f.st) (defScope f.st) .none kV doc pm an cdv ct) ⟨us, []⟩ = pure (f.ps.zip us)
@[reducible] def Fn.ct (gl : List (Str × G)) (exs : List (Str × List Str × List Str)) (f : Fn) : CT := ⟨(defScope f.st).names, f.N, gl, false, false, exs⟩
structure Fn.Ok (gl : List (Str × G)) (exs : List (Str × List Str × List Str)) (f : Fn) (d : Df) : Prop where
  sc : FnScope f.N f.ps (defScope f.st)
  body : ∃ n, cSs n (f.ct gl exs) (defBody f.st) = some d.body
  ar : d.ar = f.ps.length
  sl : d.sl = f.N.length
  bind : f.Bind
def AllOk (gl : List (Str × G)) (exs : List (Str × List Str × List Str)) : List Fn → List Df → Prop
  | [], [] => True
  | f :: fs, d :: ds => f.Ok gl exs d ∧ AllOk gl exs fs ds
  | _, _ => False
theorem AllOk.get {gl : List (Str × G)} {exs : List (Str × List Str × List Str)} : ∀ {fs : List Fn} {ds : List Df}, AllOk gl exs fs ds → ∀ {i : Nat} {f : Fn}, fs[i]? = some f → ∃ d, ds[i]? = some d ∧ f.Ok gl exs d
  | [], _, _, i, f, h => by cases h
  | _ :: _, [], a, _, _, _ => a.elim
  | g :: fs, d :: ds, a, 0, f, h => by cases h; exact ⟨d, rfl, a.1⟩
  | g :: fs, d :: ds, a, i + 1, f, h => a.2.get (i := i) h
/-- what the module's names stand for -/
structure GlOk (K : PySem.W.Frag) (mg : Str → Option Value) (gl : List (Str × G)) (exs : List (Str × List Str × List Str)) (fs : List Fn) : Prop where
  con : ∀ x d, gl.lookup x = some (.con d) → ∃ u v, mg x = some u ∧ RelV v u ∧ ∀ ω H, RelD K ω H d v
  fn : ∀ x i, gl.lookup x = some (.fn i) → ∃ f : Fn, fs[i]? = some f ∧ mg x = some (.ref (He.ga K f.name))
  bi : ∀ x b, gl.lookup x = some (.bi b) → mg x = none ∧ x = b.nm
  ty : ∀ x n, gl.lookup x = some (.ty n) → mg x = none ∧ bootBuiltins x = some (.type n) ∧ x ≠ "__name__"
  rng : ∀ x, gl.lookup x = some .rng → mg x = none ∧ x = "range"
  exc : ∀ x, gl.lookup x = some .exc → mg x = some (.ref (He.ga K x)) ∧ PySem.W.excIn K (He.ga K x) He.veBase "ValueError.__new__" = true ∧ PySem.W.keepIn K (.ref (He.ga K x)) = true ∧ PySem.W.subIn K (.ref (He.ga K x)) (.type "BaseException") = some true ∧ PySem.W.typeIn K (.ref (He.ga K x)) = some (.type "type")
  exm : ∀ y ys zs, exs.lookup y = some (ys, zs) → (∀ x ∈ ys, PySem.W.exmOne K (.ref (He.ga K x)) (.ref (He.ga K y)) = some true) ∧ ∀ x ∈ zs, PySem.W.exmOne K (.ref (He.ga K x)) (.ref (He.ga K y)) = some false
  fd : ∀ (i : Nat) (f : Fn), fs[i]? = some f → ∃ fd, FunD K f.name f.name (defArgs f.st) (defBody f.st) (defScope f.st) [] [] (He.ga K f.name) fd
section
variable {P : Program} {w : World} {K : PySem.W.Frag} {mg : Str → Option Value} {base : Heap} {gl : List (Str × G)} {exs : List (Str × List Str × List Str)} {fs : List Fn} {ds : List Df}
theorem run_len (a : AllOk gl exs fs ds) {i : Nat} {f : Fn} (h : fs[i]? = some f) : ∀ (k : Nat) (as : List D) (S : Mem), as.length ≠ f.ps.length → run ds k i as S = .bad
  | 0, _, _, _ => rfl
  | k + 1, as, S, hl => by
    obtain ⟨d, h1, ok⟩ := a.get h
    show (match ds[i]? with
      | some d => runD (run ds k) d as S
      | none => .bad) = _
    rw [h1]
    show (if as.length = d.ar then _ else _) = _
    rw [if_neg (by rw [ok.ar]; exact hl)]
theorem env_start {ω : Wo} {H : Hp} {as : List D} {vs : List V} (r : RelDs K ω H as vs) {n : Nat} {N : List Str} (hn : n = N.length) : EnvR K ω H (as.map some ++ List.replicate (n - as.length) none) (L2.start N vs) := by
  have hl := r.length
  refine ⟨?_, fun i d h => ?_⟩
  · unfold L2.start
    simp only [List.length_append, List.length_map, List.length_replicate]
    rw [hl, hn]
  · by_cases hi : i < as.length
    · rw [List.getElem?_append_left (by simpa using hi), List.getElem?_map] at h
      cases e : as[i]? with
      | none => rw [e] at h; cases h
      | some x =>
        rw [e] at h
        cases h
        obtain ⟨v, h1, h2⟩ := r.get e
        refine ⟨v, ?_, h2⟩
        unfold L2.start
        rw [List.getElem?_append_left (by simp; omega), List.getElem?_map, h1]
        rfl
    · rw [List.getElem?_append_right (by simpa using hi), List.getElem?_replicate] at h
      split at h <;> cases h
theorem fn_ok (a : AllOk gl exs fs ds) (g : GlOk K mg gl exs fs) : ∀ (k i : Nat) (f : Fn) (fd : FuncData), fs[i]? = some f → FunD K f.name f.name (defArgs f.st) (defBody f.st) (defScope f.st) [] [] (He.ga K f.name) fd →
    FnOk P w K mg base (L2.CX P w) k (He.ga K f.name) fd f.ps (spF K f.ps.length (run ds k i))
  | 0, i, f, fd, hf, F => by
    have no : ∀ {vs H Q E}, spF K f.ps.length (run ds 0 i) vs H Q E → False := fun {vs H Q E} ⟨ω, S, as, hS, r, hl, q⟩ => q
    exact ⟨fun vs H Q E h => (no h).elim, fun A outer s H args us vs Q E hr e0 hb r h => (no h).elim⟩
  | k + 1, i, f, fd, hf, F => by
    obtain ⟨d, h1, ok⟩ := a.get hf
    refine F.ok ok.sc (fun vs H Q E ⟨ω, S, as, hS, r, hl, q⟩ => r.length ▸ hl) fun cdv A outer s H vs Q E hr ⟨ω, S, as, hS, r, hl, q⟩ => ?_
    have okc : OkC (run ds k) (f.ct gl exs) (cxOf (L2.CX P w) P w K mg base f.N f.name (defScope f.st) (He.ga K f.name) cdv A outer s H E) (fun c d _ H => E c d H) := {
      names := rfl
      kind := ok.sc.kind
      N := rfl
      nd := ok.sc.nd
      calm := fun _ => rfl
      hu := hr.units
      con := g.con
      fn := fun _ x j hx => by
        obtain ⟨f', h2, h3⟩ := g.fn x j hx
        obtain ⟨fd', F'⟩ := g.fd j f' h2
        obtain ⟨d', _, ok'⟩ := a.get h2
        exact ⟨k, f'.ps.length, _, fd', f'.ps, fn_ok a g k j f' fd' h2 F', fun as S => run_len a h2 k as S, hr, h3, F'.kp, F'.bindsN ok'.bind⟩
      bi := g.bi
      ty := g.ty
      rng := g.rng
      exc := fun x hx => by
        obtain ⟨h1, h2, h3, h4, h5⟩ := g.exc x hx
        exact ⟨h1, h2, h3, raises_own h4 h5⟩
      exm := g.exm
      tk := takes_of rfl rfl rfl rfl
      hp := fun _ => passes_of rfl
      fnx := fun _ _ => rfl
      stk := fun _ => ⟨rfl, rfl⟩ }
    obtain ⟨n, hb⟩ := ok.body
    refine ⟨_, cSs_ok rfl rfl n _ _ hb _ _ okc, ω, S, as.map some ++ List.replicate (d.sl - as.length) none, hS, env_start r ok.sl, ?_⟩
    have q2 : Post (RelD K) K E ω H (match ds[i]? with
      | some d => runD (run ds k) d as S
      | none => .bad) Q := q
    rw [h1] at q2
    have q3 : Post (RelD K) K E ω H (if as.length = d.ar then (match evSs (run ds k) d.body (as.map some ++ List.replicate (d.sl - d.ar) none) S with
      | .ok (.rt v) S1 => .ok v S1
      | .ok (.nx _) S1 => .ok .non S1
      | .exc x _ S1 => .exc x S1
      | _ => .bad) else .bad) Q := q2
    rw [if_pos (hl.trans ok.ar.symm), ok.ar, ← hl] at q3
    cases e1 : evSs (run ds k) d.body (as.map some ++ List.replicate (d.sl - as.length) none) S with
    | bad => rw [e1] at q3; exact q3.elim
    | exc x env1 S1 => rw [e1] at q3; exact fun ω1 H1 σ1 c dd L s _ rx => q3 ω1 H1 c dd L s rx
    | ok fl S1 =>
      rw [e1] at q3
      cases fl with
      | nx env1 => exact fun ω1 H1 σ1 L s _ => q3 ω1 H1 .non L s .non
      | bk env1 => exact q3.elim
      | ct env1 => exact q3.elim
      | rt v => exact fun ω1 H1 u L s ru => q3 ω1 H1 u L s ru
/-! ### the law -/
def spLaw (K : PySem.W.Frag) (n : Nat) : Sp := fun vs H Q _ => ∃ (a : Addr) (ns : List Int), vs = [.ref a] ∧ ns.length ≤ n ∧ FxL K H a (ns.map V.int) ∧ ∀ H', Q (.bl true) H'
theorem ints_rel (ω : Wo) (H : Hp) : ∀ ns : List Int, RelDs K ω H (ns.map D.int) (ns.map V.int)
  | [] => .nil
  | i :: r => .cons (.int i) (ints_rel ω H r)
theorem law_ok (a : AllOk gl exs fs ds) (g : GlOk K mg gl exs fs) {k i n : Nat} {f : Fn} {fd : FuncData} (hf : fs[i]? = some f) (F : FunD K f.name f.name (defArgs f.st) (defBody f.st) (defScope f.st) [] [] (He.ga K f.name) fd) (h1 : f.ps = [("script" : Str)])
    (h : ∀ (ns : List Int) (S0 : Mem), ns.length ≤ n → ∃ S, run ds k i [.fl (ns.map D.int)] S0 = .ok (.bl true) S) : FnOk P w K mg base L2.CX0 k (He.ga K f.name) fd ["script"] (spLaw K n) := by
  have o := fn_ok (P := P) (w := w) (base := base) a g k i f fd hf F
  rw [h1] at o
  refine ⟨fun vs H Q E ⟨a, ns, e, _⟩ => by rw [e]; rfl, fun A outer s H args us vs Q E hr e0 hb r ⟨a, ns, e, hl, fx, hQ⟩ => ?_⟩
  subst e
  obtain ⟨S, hS⟩ := h ns [] hl
  have sp : spF K 1 (run ds k i) [.ref a] H Q (fun _ _ _ => False) := by
    refine ⟨⟨[], []⟩, [], [.fl (ns.map D.int)], ⟨rfl, fun n c a h => by simp at h, fun n m c c' a h => by simp at h, fun a h => by simp at h⟩, .cons (.fl fx (ints_rel _ _ _)) .nil, rfl, ?_⟩
    rw [hS]
    intro ω' H' b L s rb
    cases rb
    exact hQ H'
  refine codeAny_mono (o.run A outer s H args us [.ref a] Q (fun _ _ _ => False) hr e0 hb r sp) fun rs s' hc => ?_
  cases rs with
  | ok fl => cases fl <;> exact hc
  | error e =>
    obtain ⟨_, _, _, _, _, _, _, _, _, _, _, _, z⟩ := hc
    exact z.elim
theorem only_fx {H : Hp} (ho : Only H) {a : Addr} {vs : List V} (h : SqL K H a vs) : FxL K H a vs := by
  rcases h with h | h
  · rcases h with h | h
    · rcases ho a with e | ⟨o, xs, e⟩
      · rw [e] at h; cases h
      · rw [e] at h; cases h
    · exact .inl h
  · exact .inr h
end
end Mi

set_option Elab.async false
set_option linter.all false
set_option maxRecDepth 100000
set_option maxHeartbeats 4000000
/-! MiJ: the head's facts tell what the module's names stand for -/
namespace Mi
open PySem PySem.Spec PyProof.Rows L2

def G.fas (x : Str) : G → List He.Fa
  | .con (.int i) => [.int x i]
  | .con (.str cs) => [.str x ⟨cs.toArray⟩]
  | .con _ => []
  | .fn _ => [.glo x]
  | .exc => [.glo x, .exc x]
  | _ => [.free x]
def G.good (fs : List Fn) (x : Str) : G → Bool
  | .con (.int _) => true
  | .con (.str _) => true
  | .con _ => false
  | .fn i => (match fs[i]? with
    | some f => decide (f.name = x)
    | none => false)
  | .bi b => decide (x = b.nm)
  | .ty n => decide (bootBuiltins x = some (.type n)) && decide (x ≠ "__name__")
  | .rng => decide (x = "range")
  | .exc => true
def fasOf (gl : List (Str × G)) : List He.Fa := gl.flatMap fun p => p.2.fas p.1
def fasEx (exs : List (Str × List Str × List Str)) : List He.Fa := exs.flatMap fun p => p.2.1.map (fun x => .exm x p.1 true) ++ p.2.2.map (fun x => .exm x p.1 false)
def goodOf (gl : List (Str × G)) (fs : List Fn) : Bool := gl.all fun p => p.2.good fs p.1
theorem glOk_of {K : PySem.W.Frag} {h : Heap} {mg : Str → Option Value} {gl : List (Str × G)} {exs : List (Str × List Str × List Str)} {fs : List Fn} (X : K.In h) (Gn : h.Ns mainGlobals mg) (hg : goodOf gl fs = true) (c : He.SaysD (fasOf gl ++ fasEx exs) (fs.map Fn.df) K) : GlOk K mg gl exs fs := by
  have mem : ∀ {x g}, gl.lookup x = some g → (x, g) ∈ gl := fun h => PySem.mem_of_lookup h
  have good : ∀ {x g}, gl.lookup x = some g → g.good fs x = true := fun h => List.all_eq_true.mp hg _ (mem h)
  have fact : ∀ {x g f}, gl.lookup x = some g → f ∈ g.fas x → f.ok K = true := fun {x g f} h hf => He.SaysD.facts c (List.mem_append_left _ (List.mem_flatMap.mpr ⟨_, mem h, hf⟩))
  refine ⟨fun x d h => ?_, fun x i h => ?_, fun x b h => ?_, fun x n h => ?_, fun x h => ?_, fun x h => ?_, fun y ys zs h => ⟨fun x hx => ?_, fun x hx => ?_⟩, fun i f h => ?_⟩
  · have g1 := good h
    cases d with
    | int i =>
      obtain ⟨t, e⟩ := He.int_ok X Gn (fact h (f := .int x i) (by simp [Mi.G.fas]))
      exact ⟨.int i t, .int i, e, ⟨t, rfl⟩, fun _ _ => .int i⟩
    | str cs =>
      obtain ⟨t, e⟩ := He.str_ok X Gn (fact h (f := .str x ⟨cs.toArray⟩) (by simp [Mi.G.fas]))
      exact ⟨.str ⟨cs.toArray⟩ t, .str ⟨cs.toArray⟩, e, ⟨t, rfl⟩, fun _ _ => .str cs⟩
    | _ => cases g1
  · have g1 : (match fs[i]? with
      | some f => decide (f.name = x)
      | none => false) = true := good h
    cases e : fs[i]? with
    | none => rw [e] at g1; cases g1
    | some f =>
      rw [e] at g1
      have e1 : f.name = x := of_decide_eq_true g1
      subst e1
      exact ⟨f, rfl, He.glo_ok X Gn (fact h (f := .glo f.name) (by simp [Mi.G.fas]))⟩
  · exact ⟨He.free_ok X Gn (fact h (f := .free x) (by simp [Mi.G.fas])), of_decide_eq_true (good h)⟩
  · obtain ⟨g1, g2⟩ := Bool.and_eq_true_iff.mp (show (decide (bootBuiltins x = some (.type n)) && decide (x ≠ "__name__")) = true from good h)
    exact ⟨He.free_ok X Gn (fact h (f := .free x) (by simp [Mi.G.fas])), of_decide_eq_true g1, of_decide_eq_true g2⟩
  · exact ⟨He.free_ok X Gn (fact h (f := .free x) (by simp [Mi.G.fas])), of_decide_eq_true (good h)⟩
  · obtain ⟨h1, h2, h3, h4⟩ := He.exc_ok (fact h (f := .exc x) (by simp [Mi.G.fas]))
    exact ⟨He.glo_ok X Gn (fact h (f := .glo x) (by simp [Mi.G.fas])), h1, h2, h3, h4⟩
  · exact He.exm_ok (He.SaysD.facts c (List.mem_append_right _ (List.mem_flatMap.mpr ⟨_, PySem.mem_of_lookup h, List.mem_append_left _ (List.mem_map.mpr ⟨x, hx, rfl⟩)⟩)))
  · exact He.exm_ok (He.SaysD.facts c (List.mem_append_right _ (List.mem_flatMap.mpr ⟨_, PySem.mem_of_lookup h, List.mem_append_right _ (List.mem_map.mpr ⟨x, hx, rfl⟩)⟩)))
  · exact c.def_ i (d := f.df) (by rw [List.getElem?_map, h]; rfl)
end Mi

set_option Elab.async false
set_option linter.all false
set_option maxRecDepth 100000
set_option maxHeartbeats 4000000
/-! MiW: plain laws of the plain language: what is wanted behind a text, loops by invariants -/
namespace Mi
variable {α β : Type}
def Wp (o : Out α) (Q : α → Mem → Prop) : Prop := match o with
  | .ok a S => Q a S
  | _ => False
def WpO (o : Option (α × Mem)) (Q : α → Mem → Prop) : Prop := match o with
  | some (a, S) => Q a S
  | none => False
def WpS (o : OS) (Q : Fl → Mem → Prop) : Prop := match o with
  | .ok f S => Q f S
  | _ => False
def WpV (o : Option (Option D)) (S : Mem) (Q : D → Mem → Prop) : Prop := match o with
  | some (some d) => Q d S
  | _ => False
def WpB (o : Option Bool) (Q : Bool → Prop) : Prop := match o with
  | some b => Q b
  | none => False
def WpC (o : Option Src) (S : Mem) (Q : Src → Mem → Prop) : Prop := match o with
  | some s => Q s S
  | none => False
theorem Wp.get {o : Out α} {Q : α → Mem → Prop} (h : Wp o Q) : ∃ a S, o = .ok a S ∧ Q a S := by
  cases o with
  | ok a S => exact ⟨a, S, rfl, h⟩
  | exc x S => exact h.elim
  | bad => exact h.elim
theorem Wp.imp {o : Out α} {Q Q' : α → Mem → Prop} (h : Wp o Q) (k : ∀ a S, Q a S → Q' a S) : Wp o Q' := by
  cases o with
  | ok a S => exact k a S h
  | exc x S => exact h.elim
  | bad => exact h.elim
theorem WpS.get {o : OS} {Q : Fl → Mem → Prop} (h : WpS o Q) : ∃ f S, o = .ok f S ∧ Q f S := by
  cases o with
  | ok a S => exact ⟨a, S, rfl, h⟩
  | exc x e S => exact h.elim
  | bad => exact h.elim
theorem WpS.imp {o : OS} {Q Q' : Fl → Mem → Prop} (h : WpS o Q) (k : ∀ a S, Q a S → Q' a S) : WpS o Q' := by
  cases o with
  | ok a S => exact k a S h
  | exc x e S => exact h.elim
  | bad => exact h.elim
theorem Wp.of {o : Out α} {a : α} {S : Mem} {Q : α → Mem → Prop} (e : o = .ok a S) (h : Q a S) : Wp o Q := by rw [e]; exact h
theorem w_bind (o : Out α) (f : α → Mem → Out β) (Q : β → Mem → Prop) : Wp (o.bind f) Q = Wp o fun a S => Wp (f a S) Q := by cases o <;> rfl
theorem w_lift (o : Option (α × Mem)) (Q : α → Mem → Prop) : Wp (lift o) Q = WpO o Q := by cases o <;> rfl
theorem w_ok (a : α) (S : Mem) (Q : α → Mem → Prop) : Wp (.ok a S) Q = Q a S := rfl
theorem wo_some (a : α) (S : Mem) (Q : α → Mem → Prop) : WpO (some (a, S)) Q = Q a S := rfl
theorem wo_none (Q : α → Mem → Prop) : WpO none Q = False := rfl
theorem wo_ite (c : Prop) [Decidable c] (a b : Option (α × Mem)) (Q : α → Mem → Prop) : WpO (if c then a else b) Q = if c then WpO a Q else WpO b Q := by split <;> rfl
theorem w_ite (c : Prop) [Decidable c] (a b : Out α) (Q : α → Mem → Prop) : Wp (if c then a else b) Q = if c then Wp a Q else Wp b Q := by split <;> rfl
theorem wv_some (d : D) (S : Mem) (Q : D → Mem → Prop) : WpV (some (some d)) S Q = Q d S := rfl
theorem wb_some (b : Bool) (Q : Bool → Prop) : WpB (some b) Q = Q b := rfl
theorem wc_some (s : Src) (S : Mem) (Q : Src → Mem → Prop) : WpC (some s) S Q = Q s S := rfl
section
variable {F : Nat → List D → Mem → Out D} {e : Env} {S : Mem} {Q : D → Mem → Prop} {a b c : E} {es lo hi : Es} {d : D}
theorem we_c : Wp (evE F (.c d) e S) Q = Q d S := rfl
theorem we_v {i : Nat} : Wp (evE F (.v i) e S) Q = WpV e[i]? S Q := by
  show Wp (match e[i]? with | some (some d) => Out.ok d S | _ => .bad) Q = _
  cases e[i]? with
  | none => rfl
  | some o => cases o <;> rfl
theorem we_bin {o : Bop} : Wp (evE F (.bin o a b) e S) Q = Wp (evE F a e S) fun x S1 => Wp (evE F b e S1) fun y S2 => WpO (o.f x y S2) Q := by
  show Wp ((evE F a e S).bind fun x S1 => (evE F b e S1).bind fun y S2 => lift (o.f x y S2)) Q = _
  simp only [w_bind, w_lift]
theorem we_cmp {o : Cop} : Wp (evE F (.cmp o a b) e S) Q = Wp (evE F a e S) fun x S1 => Wp (evE F b e S1) fun y S2 => WpO (o.f x y S2) Q := by
  show Wp ((evE F a e S).bind fun x S1 => (evE F b e S1).bind fun y S2 => lift (o.f x y S2)) Q = _
  simp only [w_bind, w_lift]
theorem we_neg : Wp (evE F (.neg a) e S) Q = Wp (evE F a e S) fun x S1 => WpO (fNeg x S1) Q := by
  show Wp ((evE F a e S).bind fun x S1 => lift (fNeg x S1)) Q = _
  simp only [w_bind, w_lift]
/-- the rest of a chain -/
def WpZ (z : D) (Q1 Q2 : Prop) : Prop := match z with
  | .bl true => Q1
  | .bl false => Q2
  | _ => False
theorem wz_bl (k : Bool) (Q1 Q2 : Prop) : WpZ (.bl k) Q1 Q2 = if k = true then Q1 else Q2 := by cases k <;> rfl
theorem we_chn {o p : Cop} : Wp (evE F (.chn o p a b c) e S) Q = Wp (evE F a e S) fun x S1 => Wp (evE F b e S1) fun y S2 => WpO (o.f x y S2) fun z S3 => WpZ z (Wp (evE F c e S3) fun w S4 => WpO (p.f y w S4) Q) (Q (.bl false) S3) := by
  show Wp ((evE F a e S).bind fun x S1 => (evE F b e S1).bind fun y S2 => (lift (o.f x y S2)).bind fun z S3 => match z with
    | .bl true => (evE F c e S3).bind fun w S4 => lift (p.f y w S4)
    | .bl false => .ok (.bl false) S3
    | _ => .bad) Q = _
  simp only [w_bind, w_lift]
  congr
  funext x S1
  congr
  funext y S2
  congr
  funext z S3
  cases z <;> first | rfl | skip
  rename_i k
  cases k
  · rfl
  · show Wp ((evE F c e S3).bind fun w S4 => lift (p.f y w S4)) Q = _
    simp only [w_bind, w_lift]
    rfl
theorem w_tru (o : Out D) (R : Bool → Mem → Prop) : Wp (truO o) R = Wp o fun d S => WpB (truth S d) fun b => R b S := by
  unfold truO
  rw [w_bind]
  congr
  funext d S
  cases truth S d <;> rfl
theorem we_no : Wp (evE F (.no a) e S) Q = Wp (evE F a e S) fun x S1 => WpB (truth S1 x) fun k => Q (.bl (!k)) S1 := by
  show Wp ((truO (evE F a e S)).bind fun b S1 => .ok (.bl (!b)) S1) Q = _
  simp only [w_bind, w_ok, w_tru]
theorem we_and : Wp (evE F (.and a b) e S) Q = Wp (evE F a e S) fun x S1 => WpB (truth S1 x) fun k => if k = true then Wp (evE F b e S1) Q else Q x S1 := by
  show Wp ((evE F a e S).bind fun x S1 => match truth S1 x with
    | some true => evE F b e S1
    | some false => .ok x S1
    | none => .bad) Q = _
  rw [w_bind]
  congr
  funext x S1
  cases truth S1 x with
  | none => rfl
  | some k => cases k <;> rfl
theorem we_or : Wp (evE F (.or a b) e S) Q = Wp (evE F a e S) fun x S1 => WpB (truth S1 x) fun k => if k = true then Q x S1 else Wp (evE F b e S1) Q := by
  show Wp ((evE F a e S).bind fun x S1 => match truth S1 x with
    | some true => .ok x S1
    | some false => evE F b e S1
    | none => .bad) Q = _
  rw [w_bind]
  congr
  funext x S1
  cases truth S1 x with
  | none => rfl
  | some k => cases k <;> rfl
theorem we_ife : Wp (evE F (.ife c a b) e S) Q = Wp (evE F c e S) fun x S1 => WpB (truth S1 x) fun k => if k = true then Wp (evE F a e S1) Q else Wp (evE F b e S1) Q := by
  show Wp ((truO (evE F c e S)).bind fun t S1 => match t with
    | true => evE F a e S1
    | false => evE F b e S1) Q = _
  rw [w_bind, w_tru]
  congr
  funext x S1
  congr
  funext k
  cases k <;> rfl
theorem we_tup : Wp (evE F (.tup es) e S) Q = Wp (evEs F es e S) fun xs S1 => xs.length ≤ line ∧ Q (.tup xs) S1 := by
  show Wp ((evEs F es e S).bind fun xs S1 => if xs.length ≤ line then .ok (.tup xs) S1 else .bad) Q = _
  rw [w_bind]
  congr
  funext xs S1
  rw [w_ite]
  by_cases h : xs.length ≤ line
  · rw [if_pos h]; simp only [h, w_ok, true_and]
  · rw [if_neg h]; simp only [h, false_and]; rfl
theorem we_lst : Wp (evE F (.lst es) e S) Q = Wp (evEs F es e S) fun xs S1 => xs.length ≤ line ∧ Q (.ref S1.length) (S1 ++ [.lst xs]) := by
  show Wp ((evEs F es e S).bind fun xs S1 => if xs.length ≤ line then .ok (.ref S1.length) (S1 ++ [.lst xs]) else .bad) Q = _
  rw [w_bind]
  congr
  funext xs S1
  rw [w_ite]
  by_cases h : xs.length ≤ line
  · rw [if_pos h]; simp only [h, w_ok, true_and]
  · rw [if_neg h]; simp only [h, false_and]; rfl
theorem we_ix : Wp (evE F (.ix a b) e S) Q = Wp (evE F a e S) fun x S1 => Wp (evE F b e S1) fun y S2 => WpO (fIx x y S2) Q := by
  show Wp ((evE F a e S).bind fun x S1 => (evE F b e S1).bind fun y S2 => lift (fIx x y S2)) Q = _
  simp only [w_bind, w_lift]
theorem we_sl : Wp (evE F (.sl a lo hi) e S) Q = Wp (evE F a e S) fun x S1 => Wp (evO F lo e S1) fun l S2 => Wp (evO F hi e S2) fun h S3 => WpO (fSl x l h S3) Q := by
  show Wp ((evE F a e S).bind fun x S1 => (evO F lo e S1).bind fun l S2 => (evO F hi e S2).bind fun h S3 => lift (fSl x l h S3)) Q = _
  simp only [w_bind, w_lift]
theorem wo_nil {R : Option Int → Mem → Prop} : Wp (evO F .nil e S) R = R none S := rfl
def WpI (x : D) (R : Int → Prop) : Prop := match x with
  | .int i => R i
  | _ => False
theorem wi_int (i : Int) (R : Int → Prop) : WpI (.int i) R = R i := rfl
theorem wo_cons {r : Es} {R : Option Int → Mem → Prop} : Wp (evO F (.cons a r) e S) R = Wp (evE F a e S) fun x S1 => WpI x fun i => R (some i) S1 := by
  show Wp ((evE F a e S).bind fun x S1 => match x with
    | .int i => .ok (some i) S1
    | _ => .bad) R = _
  rw [w_bind]
  congr
  funext x S1
  cases x <;> rfl
theorem we_bi {f : Bi} : Wp (evE F (.bi f es) e S) Q = Wp (evEs F es e S) fun xs S1 => WpO (f.f xs S1) Q := by
  show Wp ((evEs F es e S).bind fun xs S1 => lift (f.f xs S1)) Q = _
  simp only [w_bind, w_lift]
def WpM (o : Option Im) (R : Im → Prop) : Prop := match o with
  | some i => R i
  | none => False
theorem wm_some (i : Im) (R : Im → Prop) : WpM (some i) R = R i := rfl
theorem we_mt {m : Mt} : Wp (evE F (.mt m a es) e S) Q = Wp (evE F a e S) fun x S1 => WpM (m.sel S1 x) fun i => Wp (evEs F es e S1) fun xs S2 => WpO (i.f x xs S2) Q := by
  show Wp ((evE F a e S).bind fun x S1 => match m.sel S1 x with
    | some i => (evEs F es e S1).bind fun xs S2 => lift (i.f x xs S2)
    | none => .bad) Q = _
  rw [w_bind]
  congr
  funext x S1
  cases m.sel S1 x with
  | none => rfl
  | some i =>
    show Wp ((evEs F es e S1).bind fun xs S2 => lift (i.f x xs S2)) Q = _
    simp only [w_bind, w_lift]
    rfl
theorem we_call {f : Nat} : Wp (evE F (.call f es) e S) Q = Wp (evEs F es e S) fun xs S1 => Wp (F f xs S1) Q := by
  show Wp ((evEs F es e S).bind fun xs S1 => F f xs S1) Q = _
  rw [w_bind]
theorem we_lrg1 : Wp (evE F (.lrg1 a) e S) Q = Wp (evE F a e S) fun x S1 => WpO (rngLst S1 [x]) Q := by
  show Wp ((evE F a e S).bind fun x S1 => lift (rngLst S1 [x])) Q = _
  simp only [w_bind, w_lift]
theorem we_lrg2 : Wp (evE F (.lrg2 a b) e S) Q = Wp (evE F a e S) fun x S1 => Wp (evE F b e S1) fun y S2 => WpO (rngLst S2 [x, y]) Q := by
  show Wp ((evE F a e S).bind fun x S1 => (evE F b e S1).bind fun y S2 => lift (rngLst S2 [x, y])) Q = _
  simp only [w_bind, w_lift]
theorem we_lc {t : Tn} {it : It} {cs : Es} {own : List Nat} : Wp (evE F (.lc t it cs a own) e S) Q = Wp (evI F it e S) fun src S1 =>
    Wp (comps src (fun d => setT t d (wipeE e own)) (evT F cs) (evE F a) S1.length fuel 0 (S1 ++ [.lst []])) fun _ S2 => Q (.ref S1.length) S2 := by
  show Wp ((evI F it e S).bind fun src S1 => (comps src (fun d => setT t d (wipeE e own)) (evT F cs) (evE F a) S1.length fuel 0 (S1 ++ [.lst []])).bind fun _ S2 => .ok (.ref S1.length) S2) Q = _
  simp only [w_bind, w_ok]
theorem ws_nil {R : List D → Mem → Prop} : Wp (evEs F .nil e S) R = R [] S := rfl
theorem ws_cons {r : Es} {R : List D → Mem → Prop} : Wp (evEs F (.cons a r) e S) R = Wp (evE F a e S) fun x S1 => Wp (evEs F r e S1) fun xs S2 => R (x :: xs) S2 := by
  show Wp ((evE F a e S).bind fun x S1 => (evEs F r e S1).bind fun xs S2 => .ok (x :: xs) S2) R = _
  simp only [w_bind, w_ok]
theorem ws_star {r : Es} {R : List D → Mem → Prop} : Wp (evEs F (.star a r) e S) R = Wp (evE F a e S) fun x S1 => match seqOf S1 x with
    | some ys => Wp (evEs F r e S1) fun xs S2 => R (ys ++ xs) S2
    | none => False := by
  show Wp ((evE F a e S).bind fun x S1 => match seqOf S1 x with
    | some ys => (evEs F r e S1).bind fun xs S2 => .ok (ys ++ xs) S2
    | none => .bad) R = _
  rw [w_bind]
  congr
  funext x S1
  cases seqOf S1 x with
  | none => rfl
  | some ys => simp only [w_bind, w_ok]
theorem wt_nil {R : Bool → Mem → Prop} : Wp (evT F .nil e S) R = R true S := rfl
theorem wt_cons {r : Es} {R : Bool → Mem → Prop} : Wp (evT F (.cons a r) e S) R = Wp (evE F a e S) fun d S => WpB (truth S d) fun b => R b S := w_tru _ _
theorem wi_rng1 {R : Src → Mem → Prop} : Wp (evI F (.rng1 a) e S) R = Wp (evE F a e S) fun x S1 => WpC (rngSrc [x]) S1 R := by
  show Wp ((evE F a e S).bind fun x S1 => match rngSrc [x] with
    | some s => .ok s S1
    | none => .bad) R = _
  rw [w_bind]
  congr
  funext x S1
  cases rngSrc [x] <;> rfl
theorem wi_rng2 {R : Src → Mem → Prop} : Wp (evI F (.rng2 a b) e S) R = Wp (evE F a e S) fun x S1 => Wp (evE F b e S1) fun y S2 => WpC (rngSrc [x, y]) S2 R := by
  show Wp ((evE F a e S).bind fun x S1 => (evE F b e S1).bind fun y S2 => match rngSrc [x, y] with
    | some s => .ok s S2
    | none => .bad) R = _
  simp only [w_bind]
  congr
  funext x S1
  congr
  funext y S2
  cases rngSrc [x, y] <;> rfl
theorem wi_rng3 {R : Src → Mem → Prop} : Wp (evI F (.rng3 a b c) e S) R = Wp (evE F a e S) fun x S1 => Wp (evE F b e S1) fun y S2 => Wp (evE F c e S2) fun z S3 => WpC (rngSrc [x, y, z]) S3 R := by
  show Wp ((evE F a e S).bind fun x S1 => (evE F b e S1).bind fun y S2 => (evE F c e S2).bind fun z S3 => match rngSrc [x, y, z] with
    | some s => .ok s S3
    | none => .bad) R = _
  simp only [w_bind]
  congr
  funext x S1
  congr
  funext y S2
  congr
  funext z S3
  cases rngSrc [x, y, z] <;> rfl
theorem wi_of {R : Src → Mem → Prop} : Wp (evI F (.of a) e S) R = Wp (evE F a e S) fun x S1 => WpC (srcOf S1 x) S1 R := by
  show Wp ((evE F a e S).bind fun x S1 => match srcOf S1 x with
    | some s => .ok s S1
    | none => .bad) R = _
  rw [w_bind]
  congr
  funext x S1
  cases srcOf S1 x <;> rfl
/-! ### statements -/
variable {R : Fl → Mem → Prop} {s : Sm} {r p q : Ss}
theorem wS_up {α : Type} (o : Out α) (f : α → Mem → OS) : WpS (up e o f) R = Wp o fun a S => WpS (f a S) R := by cases o <;> rfl
theorem wS_ok (f : Fl) (S : Mem) : WpS (.ok f S) R = R f S := rfl
theorem wS_asgN {i : Nat} : WpS (evS F (.asg (.n (.nm i)) a) e S) R = Wp (evE F a e S) fun d S1 => R (.nx (e.set i (some d))) S1 := by
  show WpS (up e (evE F a e S) fun d S1 => up e (.ok (e.set i (some d)) S1) fun e1 S2 => .ok (.nx e1) S2) R = _
  simp only [wS_up, w_ok, wS_ok]
def WpE (o : Option Env) (R : Env → Prop) : Prop := match o with
  | some e => R e
  | none => False
theorem wE_some (e : Env) (R : Env → Prop) : WpE (some e) R = R e := rfl
theorem wS_asgT {ts : Tns} : WpS (evS F (.asg (.n (.tup ts)) a) e S) R = Wp (evE F a e S) fun d S1 => WpE (setT (.tup ts) d e) fun e1 => R (.nx e1) S1 := by
  show WpS (up e (evE F a e S) fun d S1 => up e (match setT (.tup ts) d e with
    | some e1 => .ok e1 S1
    | none => .bad) fun e1 S2 => .ok (.nx e1) S2) R = _
  simp only [wS_up, w_ok, wS_ok]
  congr
  funext d S1
  cases setT (.tup ts) d e <;> rfl
def WpN (o : Option Mem) (R : Mem → Prop) : Prop := match o with
  | some S => R S
  | none => False
theorem wN_some (S : Mem) (R : Mem → Prop) : WpN (some S) R = R S := rfl
theorem wS_asgS {o i : E} : WpS (evS F (.asg (.sub o i) a) e S) R = Wp (evE F a e S) fun d S1 => Wp (evE F o e S1) fun x S2 => Wp (evE F i e S2) fun y S3 => WpN (fSet x y d S3) fun S4 => R (.nx e) S4 := by
  show WpS (up e (evE F a e S) fun d S1 => up e ((evE F o e S1).bind fun x S1 => (evE F i e S1).bind fun y S2 => match fSet x y d S2 with
    | some S3 => .ok e S3
    | none => .bad) fun e1 S2 => .ok (.nx e1) S2) R = _
  simp only [wS_up, w_bind, wS_ok]
  congr
  funext d S1
  congr
  funext x S2
  congr
  funext y S3
  cases fSet x y d S3 <;> rfl
theorem wS_par2 {i j : Nat} : WpS (evS F (.par2 i j a b) e S) R = Wp (evE F a e S) fun x S1 => Wp (evE F b e S1) fun y S2 => R (.nx ((e.set i (some x)).set j (some y))) S2 := by
  show WpS (up e (evE F a e S) fun x S1 => up e (evE F b e S1) fun y S2 => .ok (.nx ((e.set i (some x)).set j (some y))) S2) R = _
  simp only [wS_up, wS_ok]
theorem wS_par3 {i j k : Nat} : WpS (evS F (.par3 i j k a b c) e S) R = Wp (evE F a e S) fun x S1 => Wp (evE F b e S1) fun y S2 => Wp (evE F c e S2) fun z S3 => R (.nx (((e.set i (some x)).set j (some y)).set k (some z))) S3 := by
  show WpS (up e (evE F a e S) fun x S1 => up e (evE F b e S1) fun y S2 => up e (evE F c e S2) fun z S3 => .ok (.nx (((e.set i (some x)).set j (some y)).set k (some z))) S3) R = _
  simp only [wS_up, wS_ok]
theorem wS_aug {i : Nat} {o : Bop} : WpS (evS F (.aug i o a) e S) R = WpV e[i]? S fun x S0 => Wp (evE F a e S0) fun y S1 => WpO (fAug o x y S1) fun z S2 => R (.nx (e.set i (some z))) S2 := by
  show WpS (match e[i]? with
    | some (some x) => up e (evE F a e S) fun y S1 => up e (lift (fAug o x y S1)) fun z S2 => .ok (.nx (e.set i (some z))) S2
    | _ => .bad) R = _
  cases e[i]? with
  | none => rfl
  | some od =>
    cases od with
    | none => rfl
    | some x =>
      show WpS (up e (evE F a e S) fun y S1 => up e (lift (fAug o x y S1)) fun z S2 => .ok (.nx (e.set i (some z))) S2) R = _
      simp only [wS_up, wS_ok, w_lift]
      rfl
theorem wS_ex : WpS (evS F (.ex a) e S) R = Wp (evE F a e S) fun _ S1 => R (.nx e) S1 := by
  show WpS (up e (evE F a e S) fun _ S1 => .ok (.nx e) S1) R = _
  simp only [wS_up, wS_ok]
theorem wS_ret : WpS (evS F (.ret a) e S) R = Wp (evE F a e S) fun d S1 => R (.rt d) S1 := by
  show WpS (up e (evE F a e S) fun d S1 => .ok (.rt d) S1) R = _
  simp only [wS_up, wS_ok]
theorem wS_retN : WpS (evS F .retN e S) R = R (.rt .non) S := rfl
theorem wS_iff : WpS (evS F (.iff a p q) e S) R = Wp (evE F a e S) fun d S1 => WpB (truth S1 d) fun k => if k = true then WpS (evSs F p e S1) R else WpS (evSs F q e S1) R := by
  show WpS (up e (truO (evE F a e S)) fun t S1 => match t with
    | true => evSs F p e S1
    | false => evSs F q e S1) R = _
  rw [wS_up, w_tru]
  congr
  funext d S1
  congr
  funext k
  cases k <;> rfl
theorem wS_pass : WpS (evS F .pass e S) R = R (.nx e) S := rfl
theorem wS_brk : WpS (evS F .brk e S) R = R (.bk e) S := rfl
theorem wS_cont : WpS (evS F .cont e S) R = R (.ct e) S := rfl
theorem wS_rai {x : PySem.Str} : WpS (evS F (.rai x) e S) R = False := rfl
theorem wS_never : WpS (evS F .never e S) R = False := rfl
def WpF (f : Fl) (N : Env → Prop) (R : Fl → Prop) : Prop := match f with
  | .nx e => N e
  | f => R f
theorem wF_nx (e : Env) (N : Env → Prop) (R : Fl → Prop) : WpF (.nx e) N R = N e := rfl
theorem wF_rt (d : D) (N : Env → Prop) (R : Fl → Prop) : WpF (.rt d) N R = R (.rt d) := rfl
theorem wF_bk (e : Env) (N : Env → Prop) (R : Fl → Prop) : WpF (.bk e) N R = R (.bk e) := rfl
theorem wF_ct (e : Env) (N : Env → Prop) (R : Fl → Prop) : WpF (.ct e) N R = R (.ct e) := rfl
theorem wS_nil : WpS (evSs F .nil e S) R = R (.nx e) S := rfl
theorem wS_cons : WpS (evSs F (.cons s r) e S) R = WpS (evS F s e S) fun f S1 => WpF f (fun e1 => WpS (evSs F r e1 S1) R) fun f => R f S1 := by
  show WpS (match evS F s e S with
    | .ok (.nx e1) S1 => evSs F r e1 S1
    | .ok (.bk e1) S1 => .ok (.bk e1) S1
    | .ok (.ct e1) S1 => .ok (.ct e1) S1
    | .ok (.rt d) S1 => .ok (.rt d) S1
    | .exc x e1 S1 => .exc x e1 S1
    | .bad => .bad) R = _
  cases evS F s e S with
  | bad => rfl
  | exc x e1 S1 => rfl
  | ok f S1 => cases f <;> rfl
theorem wS_for {t : Tn} {it : It} : WpS (evS F (.for_ t it p) e S) R = Wp (evI F it e S) fun src S1 => WpS (turns src (fun d e1 S2 => match setT t d e1 with
    | some e2 => evSs F p e2 S2
    | none => .bad) fuel 0 e S1) R := by
  show WpS (up e (evI F it e S) fun src S1 => turns src (fun d e1 S2 => match setT t d e1 with
    | some e2 => evSs F p e2 S2
    | none => .bad) fuel 0 e S1) R = _
  rw [wS_up]
theorem wS_whl : WpS (evS F (.whl a p) e S) R = WpS (whiles (fun e1 S1 => truO (evE F a e1 S1)) (evSs F p) fuel e S) R := rfl
end
/-! ### defs -/
theorem wp_run {ds : List Df} {k i : Nat} {d : Df} {as : List D} {S : Mem} {Q : D → Mem → Prop} (hd : ds[i]? = some d) (hl : as.length = d.ar)
    (h : WpS (evSs (run ds k) d.body (as.map some ++ List.replicate (d.sl - d.ar) none) S) fun f S1 => match f with
      | .rt v => Q v S1
      | .nx _ => Q .non S1
      | _ => False) : Wp (run ds (k + 1) i as S) Q := by
  show Wp (match ds[i]? with
    | some d => runD (run ds k) d as S
    | none => .bad) Q
  rw [hd]
  show Wp (if as.length = d.ar then (match evSs (run ds k) d.body (as.map some ++ List.replicate (d.sl - d.ar) none) S with
    | .ok (.rt v) S1 => .ok v S1
    | .ok (.nx _) S1 => .ok .non S1
    | .exc x _ S1 => .exc x S1
    | _ => .bad) else .bad) Q
  rw [if_pos hl]
  obtain ⟨f, S1, e, q⟩ := h.get
  rw [e]
  cases f <;> first | exact q | exact q.elim
/-! ### loops -/
theorem wp_turns {src : Src} {step : D → Env → Mem → OS} {R : Fl → Mem → Prop} (xs : List D) (P : Nat → Env → Mem → Prop) (hsrc : ∀ i e S, P i e S → src.at_ S i = some xs[i]?)
    (hs : ∀ i d e S, xs[i]? = some d → P i e S → WpS (step d e S) fun f S1 => match f with
      | .nx e1 => P (i + 1) e1 S1
      | .ct e1 => P (i + 1) e1 S1
      | .bk e1 => R (.nx e1) S1
      | .rt v => R (.rt v) S1)
    (hd : ∀ e S, P xs.length e S → R (.nx e) S) : ∀ (n i : Nat) (e : Env) (S : Mem), xs.length - i < n → i ≤ xs.length → P i e S → WpS (turns src step n i e S) R
  | 0, i, e, S, hn, _, _ => absurd hn (Nat.not_lt_zero _)
  | n + 1, i, e, S, hn, hi, hp => by
    show WpS (match src.at_ S i with
      | none => .bad
      | some none => .ok (.nx e) S
      | some (some d) => match step d e S with
        | .ok (.nx e1) S1 => turns src step n (i + 1) e1 S1
        | .ok (.ct e1) S1 => turns src step n (i + 1) e1 S1
        | .ok (.bk e1) S1 => .ok (.nx e1) S1
        | .ok (.rt d) S1 => .ok (.rt d) S1
        | .exc x e1 S1 => .exc x e1 S1
        | .bad => .bad) R
    rw [hsrc i e S hp]
    cases hx : xs[i]? with
    | none =>
      have : xs.length ≤ i := List.getElem?_eq_none_iff.mp hx
      have e1 : i = xs.length := by omega
      subst e1
      exact hd e S hp
    | some d =>
      have hlt : i < xs.length := (List.getElem?_eq_some_iff.mp hx).1
      obtain ⟨f, S1, e1, q⟩ := (hs i d e S hx hp).get
      dsimp only
      rw [e1]
      cases f with
      | nx e2 => exact wp_turns xs P hsrc hs hd n (i + 1) e2 S1 (by omega) hlt q
      | ct e2 => exact wp_turns xs P hsrc hs hd n (i + 1) e2 S1 (by omega) hlt q
      | bk e2 => exact q
      | rt v => exact q
theorem wp_whiles {c : Env → Mem → Out Bool} {body : Env → Mem → OS} {R : Fl → Mem → Prop} (P : Nat → Env → Mem → Prop)
    (hs : ∀ m e S, P m e S → Wp (c e S) fun b S1 => if b = true then WpS (body e S1) fun f S2 => match f with
      | .nx e1 => ∃ m', m' < m ∧ P m' e1 S2
      | .ct e1 => ∃ m', m' < m ∧ P m' e1 S2
      | .bk e1 => R (.nx e1) S2
      | .rt v => R (.rt v) S2 else R (.nx e) S1) : ∀ (n m : Nat) (e : Env) (S : Mem), m < n → P m e S → WpS (whiles c body n e S) R
  | 0, m, e, S, hn, _ => absurd hn (Nat.not_lt_zero _)
  | n + 1, m, e, S, hn, hp => by
    obtain ⟨b, S1, e1, q⟩ := (hs m e S hp).get
    show WpS (match c e S with
      | .bad => .bad
      | .exc x S1 => .exc x e S1
      | .ok false S1 => .ok (.nx e) S1
      | .ok true S1 => match body e S1 with
        | .ok (.nx e1) S2 => whiles c body n e1 S2
        | .ok (.ct e1) S2 => whiles c body n e1 S2
        | .ok (.bk e1) S2 => .ok (.nx e1) S2
        | .ok (.rt d) S2 => .ok (.rt d) S2
        | .exc x e1 S2 => .exc x e1 S2
        | .bad => .bad) R
    rw [e1]
    cases b with
    | false => rw [if_neg (by decide)] at q; exact q
    | true =>
      rw [if_pos rfl] at q
      obtain ⟨f, S2, e2, q2⟩ := q.get
      dsimp only
      rw [e2]
      cases f with
      | nx e3 =>
        obtain ⟨m', h1, h2⟩ := q2
        exact wp_whiles P hs n m' e3 S2 (by omega) h2
      | ct e3 =>
        obtain ⟨m', h1, h2⟩ := q2
        exact wp_whiles P hs n m' e3 S2 (by omega) h2
      | bk e3 => exact q2
      | rt v => exact q2
theorem lst_set {S : Mem} {n : Nat} {xs ys : List D} (h : lstAt S n = some xs) : lstAt (S.set n (.lst ys)) n = some ys := by
  have h1 := lstAt_eq h
  have hl : n < S.length := (List.getElem?_eq_some_iff.mp h1).1
  unfold lstAt
  rw [List.getElem?_set_self hl]
theorem wp_comps {src : Src} {put : D → Option Env} {test : Env → Mem → Out Bool} {elt : Env → Mem → Out D} {l : Nat} {Q : Unit → Mem → Prop} (xs : List D) (P : Nat → List D → Mem → Prop) (hsrc : ∀ i acc S, P i acc S → src.at_ S i = some xs[i]?)
    (hs : ∀ i d acc S, xs[i]? = some d → lstAt S l = some acc → P i acc S → WpE (put d) fun e => Wp (test e S) fun b S1 => if b = true then Wp (elt e S1) fun y S2 => lstAt S2 l = some acc ∧ acc.length < line ∧ P (i + 1) (acc ++ [y]) (S2.set l (.lst (acc ++ [y])))
      else lstAt S1 l = some acc ∧ P (i + 1) acc S1)
    (hd : ∀ acc S, lstAt S l = some acc → P xs.length acc S → Q () S) : ∀ (n i : Nat) (acc : List D) (S : Mem), xs.length - i < n → i ≤ xs.length → lstAt S l = some acc → P i acc S → Wp (comps src put test elt l n i S) Q
  | 0, i, acc, S, hn, _, _, _ => absurd hn (Nat.not_lt_zero _)
  | n + 1, i, acc, S, hn, hi, hl, hp => by
    show Wp (match src.at_ S i with
      | none => .bad
      | some none => .ok () S
      | some (some d) => match put d with
        | none => .bad
        | some e => match test e S with
          | .ok false S1 => comps src put test elt l n (i + 1) S1
          | .ok true S1 => (match elt e S1 with
            | .ok y S2 => (match lstAt S2 l with
              | some acc => if acc.length < line then comps src put test elt l n (i + 1) (S2.set l (.lst (acc ++ [y]))) else .bad
              | none => .bad)
            | _ => .bad)
          | _ => .bad) Q
    rw [hsrc i acc S hp]
    cases hx : xs[i]? with
    | none =>
      have : xs.length ≤ i := List.getElem?_eq_none_iff.mp hx
      have e1 : i = xs.length := by omega
      subst e1
      exact hd acc S hl hp
    | some d =>
      have hlt : i < xs.length := (List.getElem?_eq_some_iff.mp hx).1
      have h1 := hs i d acc S hx hl hp
      dsimp only
      cases e0 : put d with
      | none => rw [e0] at h1; exact h1.elim
      | some e =>
        rw [e0] at h1
        have h1' : Wp (test e S) fun b S1 => if b = true then Wp (elt e S1) fun y S2 => lstAt S2 l = some acc ∧ acc.length < line ∧ P (i + 1) (acc ++ [y]) (S2.set l (.lst (acc ++ [y])))
          else lstAt S1 l = some acc ∧ P (i + 1) acc S1 := h1
        obtain ⟨b, S1, e1, q⟩ := h1'.get
        dsimp only
        rw [e1]
        cases b with
        | false =>
          rw [if_neg (by decide)] at q
          exact wp_comps xs P hsrc hs hd n (i + 1) acc S1 (by omega) hlt q.1 q.2
        | true =>
          rw [if_pos rfl] at q
          obtain ⟨y, S2, e2, q1, q2, q3⟩ := q.get
          dsimp only
          rw [e2]
          dsimp only
          rw [q1]
          dsimp only
          rw [if_pos q2]
          exact wp_comps xs P hsrc hs hd n (i + 1) _ _ (by omega) hlt (lst_set q1) q3
/-! ### plain memories that grow -/
theorem lst_pre {S T : Mem} {n : Nat} {xs : List D} (p : S <+: T) (h : lstAt S n = some xs) : lstAt T n = some xs := by
  have h1 := lstAt_eq h
  have hl : n < S.length := (List.getElem?_eq_some_iff.mp h1).1
  obtain ⟨t, rfl⟩ := p
  unfold lstAt
  rw [List.getElem?_append_left hl, h1]
theorem lst_new (S : Mem) (xs : List D) : lstAt (S ++ [.lst xs]) S.length = some xs := by
  unfold lstAt
  rw [List.getElem?_append_right (Nat.le_refl _), Nat.sub_self]
  rfl
theorem lst_lt {S : Mem} {n : Nat} {xs : List D} (h : lstAt S n = some xs) : n < S.length := (List.getElem?_eq_some_iff.mp (lstAt_eq h)).1
theorem lst_set_ne {S : Mem} {n m : Nat} {c : Cell} (h : n ≠ m) : lstAt (S.set n c) m = lstAt S m := by
  unfold lstAt
  rw [List.getElem?_set_ne h]
theorem pre_set {S T : Mem} {n : Nat} {c : Cell} (p : S <+: T) (h : S.length ≤ n) : S <+: T.set n c := by
  obtain ⟨t, rfl⟩ := p
  rw [List.set_append_right _ _ h]
  exact ⟨_, rfl⟩
theorem pre_len {S T : Mem} (p : S <+: T) : S.length ≤ T.length := p.length_le
/-- [f(d) for d in xs]: the elements leave the memory as it is, but that it grows -/
theorem at_items (xs : List D) (S0 : Mem) : ∀ (i : Nat) (S : Mem), S0 <+: S → (Src.items xs).at_ S i = some xs[i]? := fun _ _ _ => rfl
theorem at_cell {xs : List D} {S0 : Mem} {n : Nat} (h : lstAt S0 n = some xs) : ∀ (i : Nat) (S : Mem), S0 <+: S → (Src.cell n).at_ S i = some xs[i]? := fun i S p => by
  show (match lstAt S n with
    | some xs => some xs[i]?
    | none => none) = _
  rw [lst_pre p h]
theorem wp_map {src : Src} {xs : List D} {put : D → Option Env} {F : Nat → List D → Mem → Out D} {elt : Env → Mem → Out D} {S0 : Mem} {Q : Unit → Mem → Prop} (f : D → D) (hsrc : ∀ i S, S0 <+: S → src.at_ S i = some xs[i]?) (hlen : xs.length ≤ line)
    (hs : ∀ d S, d ∈ xs → S0 <+: S → WpE (put d) fun e => Wp (elt e S) fun y S2 => y = f d ∧ S <+: S2)
    (hd : ∀ S, S0 <+: S → lstAt S S0.length = some (xs.map f) → Q () S) : Wp (comps src put (evT F .nil) elt S0.length fuel 0 (S0 ++ [.lst []])) Q := by
  have hf : xs.length < fuel := Nat.lt_of_le_of_lt hlen (by decide)
  refine wp_comps xs (fun i acc S => S0 <+: S ∧ acc = (xs.take i).map f) (fun i acc S h => hsrc i S h.1) (fun i d acc S hx hl ⟨hp, ha⟩ => ?_) (fun acc S hl ⟨hp, ha⟩ => hd S hp (by rw [hl, ha, List.take_length])) fuel 0 [] _ (by omega) (Nat.zero_le _) (lst_new _ _) ⟨⟨_, rfl⟩, rfl⟩
  have hlt : i < xs.length := (List.getElem?_eq_some_iff.mp hx).1
  have h1 := hs d S (List.mem_of_getElem? hx) hp
  cases e : put d with
  | none => rw [e] at h1; exact h1.elim
  | some env =>
    rw [e] at h1
    rw [wE_some, wt_nil, if_pos rfl]
    refine Wp.imp (show Wp (elt env S) _ from h1) fun y S2 ⟨hy, hp2⟩ => ⟨lst_pre hp2 hl, ?_, pre_set (hp.trans hp2) (Nat.le_refl _), ?_⟩
    · rw [ha, List.length_map, List.length_take]; omega
    · rw [ha, hy, List.take_add_one, hx]
      simp
/-- [f(d) for d in xs if p(d)] -/
theorem wp_filter {src : Src} {xs : List D} {put : D → Option Env} {test : Env → Mem → Out Bool} {elt : Env → Mem → Out D} {S0 : Mem} {Q : Unit → Mem → Prop} (p : D → Bool) (f : D → D) (hsrc : ∀ i S, S0 <+: S → src.at_ S i = some xs[i]?) (hlen : xs.length ≤ line)
    (hs : ∀ d S, d ∈ xs → S0 <+: S → WpE (put d) fun e => Wp (test e S) fun b S1 => b = p d ∧ S <+: S1 ∧ (b = true → Wp (elt e S1) fun y S2 => y = f d ∧ S1 <+: S2))
    (hd : ∀ S, S0 <+: S → lstAt S S0.length = some ((xs.filter p).map f) → Q () S) : Wp (comps src put test elt S0.length fuel 0 (S0 ++ [.lst []])) Q := by
  have hf : xs.length < fuel := Nat.lt_of_le_of_lt hlen (by decide)
  refine wp_comps xs (fun i acc S => S0 <+: S ∧ acc = ((xs.take i).filter p).map f) (fun i acc S h => hsrc i S h.1) (fun i d acc S hx hl ⟨hp, ha⟩ => ?_) (fun acc S hl ⟨hp, ha⟩ => hd S hp (by rw [hl, ha, List.take_length])) fuel 0 [] _ (by omega) (Nat.zero_le _) (lst_new _ _) ⟨⟨_, rfl⟩, rfl⟩
  have hlt : i < xs.length := (List.getElem?_eq_some_iff.mp hx).1
  have h1 := hs d S (List.mem_of_getElem? hx) hp
  have ht : xs.take (i + 1) = xs.take i ++ [d] := by rw [List.take_add_one, hx]; rfl
  cases e : put d with
  | none => rw [e] at h1; exact h1.elim
  | some env =>
    rw [e] at h1
    refine Wp.imp (show Wp (test env S) _ from h1) fun b S1 ⟨hb, hp1, k⟩ => ?_
    cases b with
    | false =>
      rw [if_neg (by decide)]
      refine ⟨lst_pre hp1 hl, hp.trans hp1, ?_⟩
      rw [ht, ha, List.filter_append]
      simp [← hb]
    | true =>
      rw [if_pos rfl]
      refine Wp.imp (k rfl) fun y S2 ⟨hy, hp2⟩ => ⟨lst_pre hp2 (lst_pre hp1 hl), ?_, pre_set (hp.trans (hp1.trans hp2)) (Nat.le_refl _), ?_⟩
      · rw [ha, List.length_map]
        have := List.length_filter_le p (xs.take i)
        rw [List.length_take] at this
        omega
      · rw [ht, ha, hy, List.filter_append]
        simp [← hb]
/-! ### what is raised -/
def Wx {α : Type} (o : Out α) (R : Xn → Mem → Prop) : Prop := match o with
  | .exc x S => R x S
  | _ => False
def WxS (o : OS) (R : Xn → Env → Mem → Prop) : Prop := match o with
  | .exc x e S => R x e S
  | _ => False
section
variable {F : Nat → List D → Mem → Out D} {e : Env} {S : Mem} {a : E} {es : Es} {s : Sm} {r p q : Ss} {R : Xn → Env → Mem → Prop}
theorem WxS.get {o : OS} (h : WxS o R) : ∃ x e S, o = .exc x e S ∧ R x e S := by
  cases o with
  | ok f S => exact h.elim
  | exc x e S => exact ⟨x, e, S, rfl, h⟩
  | bad => exact h.elim
theorem Wx.get {α : Type} {o : Out α} {R : Xn → Mem → Prop} (h : Wx o R) : ∃ x S, o = .exc x S ∧ R x S := by
  cases o with
  | ok f S => exact h.elim
  | exc x S => exact ⟨x, S, rfl, h⟩
  | bad => exact h.elim
theorem wx_later (h : WpS (evS F s e S) fun f S1 => ∃ e1, f = .nx e1 ∧ WxS (evSs F r e1 S1) R) : WxS (evSs F (.cons s r) e S) R := by
  obtain ⟨f, S1, e1, e2, rfl, q⟩ := h.get
  show WxS (match evS F s e S with
    | .ok (.nx e1) S1 => evSs F r e1 S1
    | .ok (.bk e1) S1 => .ok (.bk e1) S1
    | .ok (.ct e1) S1 => .ok (.ct e1) S1
    | .ok (.rt d) S1 => .ok (.rt d) S1
    | .exc x e1 S1 => .exc x e1 S1
    | .bad => .bad) R
  rw [e1]
  exact q
theorem wx_here (h : WxS (evS F s e S) R) : WxS (evSs F (.cons s r) e S) R := by
  obtain ⟨x, e1, S1, h1, q⟩ := h.get
  show WxS (match evS F s e S with
    | .ok (.nx e1) S1 => evSs F r e1 S1
    | .ok (.bk e1) S1 => .ok (.bk e1) S1
    | .ok (.ct e1) S1 => .ok (.ct e1) S1
    | .ok (.rt d) S1 => .ok (.rt d) S1
    | .exc x e1 S1 => .exc x e1 S1
    | .bad => .bad) R
  rw [h1]
  exact q
theorem wx_iff (h : Wp (evE F a e S) fun d S1 => truth S1 d = some true ∧ WxS (evSs F p e S1) R) : WxS (evS F (.iff a p q) e S) R := by
  obtain ⟨d, S1, h1, h2, h3⟩ := h.get
  have h5 : truO (Out.ok d S1) = (match truth S1 d with
    | some b => Out.ok b S1
    | none => .bad) := rfl
  have h4 : truO (evE F a e S) = .ok true S1 := by
    rw [h1, h5, h2]
  show WxS (up e (truO (evE F a e S)) fun t S1 => match t with
    | true => evSs F p e S1
    | false => evSs F q e S1) R
  rw [h4]
  exact h3
theorem wx_rai {x : PySem.Str} (h : R ⟨x, []⟩ e S) : WxS (evS F (.rai x) e S) R := h
theorem wx_asgc {t : Tg} {f : Nat} (h : Wp (evEs F es e S) fun xs S1 => Wx (F f xs S1) fun x S2 => R x e S2) : WxS (evS F (.asg t (.call f es)) e S) R := by
  obtain ⟨xs, S1, h1, h2⟩ := h.get
  obtain ⟨x, S2, h3, h4⟩ := h2.get
  show WxS (up e ((evEs F es e S).bind fun xs S1 => F f xs S1) fun d S1 => up e (evG F t d e S1) fun e1 S2 => .ok (.nx e1) S2) R
  rw [h1]
  show WxS (up e (F f xs S1) fun d S1 => up e (evG F t d e S1) fun e1 S2 => .ok (.nx e1) S2) R
  rw [h3]
  exact h4
theorem wx_run {ds : List Df} {k i : Nat} {d : Df} {as : List D} {R : Xn → Mem → Prop} (hd : ds[i]? = some d) (hl : as.length = d.ar)
    (h : WxS (evSs (run ds k) d.body (as.map some ++ List.replicate (d.sl - d.ar) none) S) fun x _ S1 => R x S1) : Wx (run ds (k + 1) i as S) R := by
  show Wx (match ds[i]? with
    | some d => runD (run ds k) d as S
    | none => .bad) R
  rw [hd]
  show Wx (if as.length = d.ar then (match evSs (run ds k) d.body (as.map some ++ List.replicate (d.sl - d.ar) none) S with
    | .ok (.rt v) S1 => .ok v S1
    | .ok (.nx _) S1 => .ok .non S1
    | .exc x _ S1 => .exc x S1
    | _ => .bad) else .bad) R
  rw [if_pos hl]
  obtain ⟨x, e1, S1, h1, q⟩ := h.get
  rw [h1]
  exact q
theorem wS_triX {hs : Hs} {Q : Fl → Mem → Prop} (h : WxS (evSs F p e S) fun x e1 S1 => WpS (evH F hs x e1 S1) Q) : WpS (evS F (.tri p hs) e S) Q := by
  obtain ⟨x, e1, S1, h1, q⟩ := h.get
  show WpS (match evSs F p e S with
    | .exc x e1 S1 => evH F hs x e1 S1
    | .ok f S1 => .ok f S1
    | .bad => .bad) Q
  rw [h1]
  exact q
theorem wS_triO {hs : Hs} {Q : Fl → Mem → Prop} (h : WpS (evSs F p e S) Q) : WpS (evS F (.tri p hs) e S) Q := by
  obtain ⟨f, S1, h1, q⟩ := h.get
  show WpS (match evSs F p e S with
    | .exc x e1 S1 => evH F hs x e1 S1
    | .ok f S1 => .ok f S1
    | .bad => .bad) Q
  rw [h1]
  exact q
theorem wH_take {ys zs : List PySem.Str} {hs : Hs} {x : Xn} {Q : Fl → Mem → Prop} (hx : x.cls ∈ ys) (h : WpS (evSs F p e S) Q) : WpS (evH F (.cons ys zs p hs) x e S) Q := by
  obtain ⟨f, S1, h1, q⟩ := h.get
  show WpS (if x.cls ∈ ys then (match evSs F p e S with
    | .ok f S1 => .ok f S1
    | _ => .bad) else if x.cls ∈ zs then evH F hs x e S else .bad) Q
  rw [if_pos hx, h1]
  exact q
end
end Mi

set_option Elab.async false
set_option linter.all false
set_option maxRecDepth 100000
set_option maxHeartbeats 4000000
/-! MiX: what the operations give, for the plain laws -/
namespace Mi
open L2
section
variable {S : Mem} {Q : D → Mem → Prop}
def WpL (o : Option (List D)) (R : List D → Prop) : Prop := match o with
  | some xs => R xs
  | none => False
theorem wl_some (xs : List D) (R : List D → Prop) : WpL (some xs) R = R xs := rfl
def WpJ (o : Option (List Int)) (R : List Int → Prop) : Prop := match o with
  | some xs => R xs
  | none => False
theorem wj_some (xs : List Int) (R : List Int → Prop) : WpJ (some xs) R = R xs := rfl
def WpA (o : Option D) (R : D → Prop) : Prop := match o with
  | some d => R d
  | none => False
theorem wa_some (d : D) (R : D → Prop) : WpA (some d) R = R d := rfl
theorem add_ii (i j : Int) : WpO (fAdd (.int i) (.int j) S) Q = Q (.int (i + j)) S := rfl
theorem add_ss (x y : List Nat) : WpO (fAdd (.str x) (.str y) S) Q = if x.length + y.length ≤ line then Q (.str (x ++ y)) S else False := by
  show WpO (if x.length + y.length ≤ line then some (.str (x ++ y), S) else none) Q = _
  rw [wo_ite]; rfl
theorem add_rr (n m : Nat) : WpO (fAdd (.ref n) (.ref m) S) Q = WpL (lstAt S n) fun xs => WpL (lstAt S m) fun ys => if xs.length + ys.length ≤ line then Q (.ref S.length) (S ++ [.lst (xs ++ ys)]) else False := by
  show WpO (match lstAt S n, lstAt S m with
    | some xs, some ys => if xs.length + ys.length ≤ line then some (.ref S.length, S ++ [.lst (xs ++ ys)]) else none
    | _, _ => none) Q = _
  cases lstAt S n with
  | none => rfl
  | some xs =>
    cases lstAt S m with
    | none => rfl
    | some ys => simp only [wl_some]; rw [wo_ite]; rfl
theorem sub_ii (i j : Int) : WpO (fSub (.int i) (.int j) S) Q = Q (.int (i - j)) S := rfl
theorem mul_ii (i j : Int) : WpO (fMul (.int i) (.int j) S) Q = if mulOk i j = true then Q (.int (i * j)) S else False := by
  show WpO (if mulOk i j = true then some (.int (i * j), S) else none) Q = _
  rw [wo_ite]; rfl
theorem mul_si (x : List Nat) (j : Int) : WpO (fMul (.str x) (.int j) S) Q = if 0 ≤ j ∧ j ≤ 1000000 ∧ x.length ≤ 1000000 ∧ x.length * j.toNat ≤ line then Q (.str (List.replicate j.toNat x).flatten) S else False := by
  show WpO (if 0 ≤ j ∧ j ≤ 1000000 ∧ x.length ≤ 1000000 ∧ x.length * j.toNat ≤ line then some (.str (List.replicate j.toNat x).flatten, S) else none) Q = _
  rw [wo_ite]; rfl
theorem div_ii (i j : Int) : WpO (fDiv (.int i) (.int j) S) Q = if 0 < j ∧ j.natAbs.log2 < 9000 then Q (.int (i / j)) S else False := by
  show WpO (if 0 < j ∧ j.natAbs.log2 < 9000 then some (.int (i / j), S) else none) Q = _
  rw [wo_ite]; rfl
theorem mod_ii (i j : Int) : WpO (fMod (.int i) (.int j) S) Q = if 0 < j then Q (.int (i % j)) S else False := by
  show WpO (if 0 < j then some (.int (i % j), S) else none) Q = _
  rw [wo_ite]; rfl
theorem pow_ii (i j : Int) : WpO (fPow (.int i) (.int j) S) Q = if 0 ≤ j ∧ (i.natAbs.log2 + 1) * j.toNat ≤ 1000000 then Q (.int (i ^ j.toNat)) S else False := by
  show WpO (if 0 ≤ j ∧ (i.natAbs.log2 + 1) * j.toNat ≤ 1000000 then some (.int (i ^ j.toNat), S) else none) Q = _
  rw [wo_ite]; rfl
theorem neg_i (i : Int) : WpO (fNeg (.int i) S) Q = Q (.int (-i)) S := rfl
theorem eq_ii (i j : Int) : WpO (fEq (.int i) (.int j) S) Q = Q (.bl (decide (i = j))) S := rfl
theorem ne_ii (i j : Int) : WpO (fNe (.int i) (.int j) S) Q = Q (.bl (!decide (i = j))) S := rfl
theorem eq_ss (i j : List Nat) : WpO (fEq (.str i) (.str j) S) Q = Q (.bl (decide (i = j))) S := rfl
theorem ne_ss (i j : List Nat) : WpO (fNe (.str i) (.str j) S) Q = Q (.bl (!decide (i = j))) S := rfl
theorem lt_ii (i j : Int) : WpO (fLt (.int i) (.int j) S) Q = Q (.bl (decide (i < j))) S := rfl
theorem le_ii (i j : Int) : WpO (fLe (.int i) (.int j) S) Q = Q (.bl (decide (i ≤ j))) S := rfl
theorem gt_ii (i j : Int) : WpO (fGt (.int i) (.int j) S) Q = Q (.bl (decide (j < i))) S := rfl
theorem ge_ii (i j : Int) : WpO (fGe (.int i) (.int j) S) Q = Q (.bl (decide (j ≤ i))) S := rfl
theorem eq_bb (a b : Bool) : WpO (fEq (.bl a) (.bl b) S) Q = Q (.bl (decide (a = b))) S := by cases a <;> cases b <;> rfl
theorem ne_bb (a b : Bool) : WpO (fNe (.bl a) (.bl b) S) Q = Q (.bl (!decide (a = b))) S := by cases a <;> cases b <;> rfl
theorem in_cs (c : Nat) (cs : List Nat) : WpO (fIn (.str [c]) (.str cs) S) Q = Q (.bl (decide (c ∈ cs))) S := rfl
theorem tr_b (b : Bool) : truth S (.bl b) = some b := rfl
theorem tr_i (i : Int) : truth S (.int i) = some (i != 0) := rfl
theorem ix_r (n : Nat) (i : Int) : WpO (fIx (.ref n) (.int i) S) Q = WpL (lstAt S n) fun xs => WpA (atI xs i) fun d => Q d S := by
  show WpO (match lstAt S n with
    | some xs => (match atI xs i with
      | some d => some (d, S)
      | none => none)
    | none => none) Q = _
  cases lstAt S n with
  | none => rfl
  | some xs =>
    rw [wl_some]
    dsimp only
    cases atI xs i <;> rfl
theorem ix_t (xs : List D) (i : Int) : WpO (fIx (.tup xs) (.int i) S) Q = WpA (atI xs i) fun d => Q d S := by
  show WpO (match atI xs i with
      | some d => some (d, S)
      | none => none) Q = _
  cases atI xs i <;> rfl
theorem ix_f (xs : List D) (i : Int) : WpO (fIx (.fl xs) (.int i) S) Q = WpA (atI xs i) fun d => Q d S := by
  show WpO (match atI xs i with
      | some d => some (d, S)
      | none => none) Q = _
  cases atI xs i <;> rfl
theorem ix_s (cs : List Nat) (i : Int) : WpO (fIx (.str cs) (.int i) S) Q = if cs.length ≤ line then WpA ((atI cs i).map fun c => D.str [c]) fun d => Q d S else False := by
  show WpO (if cs.length ≤ line then (match atI cs i with
    | some c => some (.str [c], S)
    | none => none) else none) Q = _
  rw [wo_ite]
  cases atI cs i <;> rfl
theorem sl_s (cs : List Nat) (lo hi : Option Int) : WpO (fSl (.str cs) lo hi S) Q = if cs.length ≤ line then Q (.str (cutL cs lo hi)) S else False := by
  show WpO (if cs.length ≤ line then some (.str (cutL cs lo hi), S) else none) Q = _
  rw [wo_ite]; rfl
theorem sl_r (n : Nat) (lo hi : Option Int) : WpO (fSl (.ref n) lo hi S) Q = WpL (lstAt S n) fun xs => Q (.ref S.length) (S ++ [.lst (cutL xs lo hi)]) := by
  show WpO (match lstAt S n with
    | some xs => some (.ref S.length, S ++ [.lst (cutL xs lo hi)])
    | none => none) Q = _
  cases lstAt S n <;> rfl
theorem set_r (n : Nat) (k : Int) (d : D) {R : Mem → Prop} : WpN (fSet (.ref n) (.int k) d S) R = WpL (lstAt S n) fun xs => match ixN xs.length k with
    | some j => R (S.set n (.lst (xs.set j d)))
    | none => False := by
  show WpN (match lstAt S n with
    | some xs => (match ixN xs.length k with
      | some j => some (S.set n (.lst (xs.set j d)))
      | none => none)
    | none => none) R = _
  cases lstAt S n with
  | none => rfl
  | some xs =>
    rw [wl_some]
    dsimp only
    cases ixN xs.length k <;> rfl
theorem len_s (cs : List Nat) : WpO (fLen [.str cs] S) Q = if cs.length ≤ line then Q (.int cs.length) S else False := by
  show WpO (if cs.length ≤ line then some (.int cs.length, S) else none) Q = _
  rw [wo_ite]; rfl
theorem len_r (n : Nat) : WpO (fLen [.ref n] S) Q = WpL (lstAt S n) fun xs => Q (.int xs.length) S := by
  show WpO (match lstAt S n with
    | some xs => some (.int xs.length, S)
    | none => none) Q = _
  cases lstAt S n <;> rfl
theorem len_f (xs : List D) : WpO (fLen [.fl xs] S) Q = Q (.int xs.length) S := rfl
theorem len_t (xs : List D) : WpO (fLen [.tup xs] S) Q = Q (.int xs.length) S := rfl
theorem abs_i (i : Int) : WpO (fAbs [.int i] S) Q = Q (.int (if i < 0 then -i else i)) S := rfl
theorem max_ii (i j : Int) : WpO (fMax [.int i, .int j] S) Q = Q (.int (if j > i then j else i)) S := rfl
theorem min_ii (i j : Int) : WpO (fMin [.int i, .int j] S) Q = Q (.int (if j < i then j else i)) S := rfl
def hdJ (f : Int → List Int → Int) (is : List Int) (R : Int → Prop) : Prop := match is with
  | [] => False
  | i :: r => R (f i r)
theorem max_r (n : Nat) : WpO (fMax [.ref n] S) Q = WpL (lstAt S n) fun xs => WpJ (intsD xs) fun is => hdJ maxI is fun m => Q (.int m) S := by
  show WpO (match lstAt S n with
    | some xs => (match intsD xs with
      | some (i :: is) => some (.int (maxI i is), S)
      | _ => none)
    | none => none) Q = _
  cases lstAt S n with
  | none => rfl
  | some xs =>
    rw [wl_some]
    dsimp only
    cases intsD xs with
    | none => rfl
    | some is => cases is <;> rfl
theorem min_r (n : Nat) : WpO (fMin [.ref n] S) Q = WpL (lstAt S n) fun xs => WpJ (intsD xs) fun is => hdJ minI is fun m => Q (.int m) S := by
  show WpO (match lstAt S n with
    | some xs => (match intsD xs with
      | some (i :: is) => some (.int (minI i is), S)
      | _ => none)
    | none => none) Q = _
  cases lstAt S n with
  | none => rfl
  | some xs =>
    rw [wl_some]
    dsimp only
    cases intsD xs with
    | none => rfl
    | some is => cases is <;> rfl
theorem int_i (i : Int) : WpO (fInt [.int i] S) Q = Q (.int i) S := rfl
theorem int_b (b : Bool) : WpO (fInt [.bl b] S) Q = Q (.int (if b = true then 1 else 0)) S := rfl
theorem list_r (n : Nat) : WpO (fList [.ref n] S) Q = WpL (lstAt S n) fun xs => Q (.ref S.length) (S ++ [.lst xs]) := by
  show WpO (match lstAt S n with
    | some xs => some (.ref S.length, S ++ [.lst xs])
    | none => none) Q = _
  cases lstAt S n <;> rfl
theorem sum_r (n : Nat) : WpO (fSum [.ref n] S) Q = WpL (lstAt S n) fun xs => WpJ (intsD xs) fun is => Q (.int is.sum) S := by
  show WpO (match lstAt S n with
    | some xs => (match intsD xs with
      | some is => some (.int is.sum, S)
      | none => none)
    | none => none) Q = _
  cases lstAt S n with
  | none => rfl
  | some xs =>
    rw [wl_some]
    dsimp only
    cases intsD xs <;> rfl
def WpBs (o : Option (List Bool)) (R : List Bool → Prop) : Prop := match o with
  | some xs => R xs
  | none => False
theorem wbs_some (xs : List Bool) (R : List Bool → Prop) : WpBs (some xs) R = R xs := rfl
theorem all_r (n : Nat) : WpO (fAll [.ref n] S) Q = WpL (lstAt S n) fun xs => WpBs (boolsD xs) fun bs => Q (.bl (bs.all id)) S := by
  show WpO (match lstAt S n with
    | some xs => (match boolsD xs with
      | some bs => some (.bl (bs.all id), S)
      | none => none)
    | none => none) Q = _
  cases lstAt S n with
  | none => rfl
  | some xs =>
    rw [wl_some]
    dsimp only
    cases boolsD xs <;> rfl
theorem isi_int (i : Int) (n : String) : WpO (fIsi [.int i, .ty n] S) Q = if n ∈ ["bool", "int", "str", "tuple", "list", "dict"] then Q (.bl (isTy "int" n)) S else False := by
  show WpO (if n ∈ ["bool", "int", "str", "tuple", "list", "dict"] then some (.bl (isTy "int" n), S) else none) Q = _
  rw [wo_ite]; rfl
theorem isi_str (i : List Nat) (n : String) : WpO (fIsi [.str i, .ty n] S) Q = if n ∈ ["bool", "int", "str", "tuple", "list", "dict"] then Q (.bl (isTy "str" n)) S else False := by
  show WpO (if n ∈ ["bool", "int", "str", "tuple", "list", "dict"] then some (.bl (isTy "str" n), S) else none) Q = _
  rw [wo_ite]; rfl
theorem isi_ii : ∀ i : Int, WpO (fIsi [.int i, .ty "int"] S) Q = Q (.bl true) S := fun _ => rfl
theorem isi_ib : ∀ i : Int, WpO (fIsi [.int i, .ty "bool"] S) Q = Q (.bl false) S := fun _ => rfl
theorem isi_ss : ∀ i : List Nat, WpO (fIsi [.str i, .ty "str"] S) Q = Q (.bl true) S := fun _ => rfl
theorem aug_sub (i j : Int) : WpO (fAug .sub (.int i) (.int j) S) Q = Q (.int (i - j)) S := rfl
theorem aug_ii (i j : Int) : WpO (fAug .add (.int i) (.int j) S) Q = Q (.int (i + j)) S := rfl
theorem sel_app (n : Nat) {R : Im → Prop} : WpM (Mt.append.sel S (.ref n)) R = WpL (lstAt S n) fun _ => R .lAppend := by
  show WpM (if (lstAt S n).isSome = true then some .lAppend else none) R = _
  cases lstAt S n <;> rfl
theorem sel_index (n : Nat) {R : Im → Prop} : WpM (Mt.index.sel S (.ref n)) R = WpL (lstAt S n) fun _ => R .lIndex := by
  show WpM (if (lstAt S n).isSome = true then some .lIndex else none) R = _
  cases lstAt S n <;> rfl
theorem sel_pop (n : Nat) {R : Im → Prop} : WpM (Mt.pop.sel S (.ref n)) R = WpL (lstAt S n) fun _ => R .lPop := by
  show WpM (if (lstAt S n).isSome = true then some .lPop else none) R = _
  cases lstAt S n <;> rfl
theorem sel_count (cs : List Nat) {R : Im → Prop} : WpM (Mt.count.sel S (.str cs)) R = R .sCount := rfl
theorem sel_join (cs : List Nat) {R : Im → Prop} : WpM (Mt.join.sel S (.str cs)) R = R .sJoin := rfl
theorem app_r (n : Nat) (d : D) : WpO (fAppend (.ref n) [d] S) Q = WpL (lstAt S n) fun xs => if xs.length < line then Q .non (S.set n (.lst (xs ++ [d]))) else False := by
  show WpO (match lstAt S n with
    | some xs => if xs.length < line then some (.non, S.set n (.lst (xs ++ [d]))) else none
    | none => none) Q = _
  cases lstAt S n with
  | none => rfl
  | some xs =>
    rw [wl_some]
    dsimp only
    rw [wo_ite]; rfl
theorem count_s (cs : List Nat) (c : Nat) : WpO (fCountS (.str cs) [.str [c]] S) Q = Q (.int (cs.count c)) S := rfl
theorem rng_1 (n : Int) {R : Src → Mem → Prop} (h : -4611686018427387904 < n ∧ n < 4611686018427387904) : WpC (rngSrc [.int n]) S R = R (.items (rangeD 0 n.toNat)) S := by
  show WpC (if okR n = true then some (.items (rangeD 0 n.toNat)) else none) S R = _
  rw [if_pos (okR_iff.mpr h)]; rfl
theorem rng_2 (a b : Int) {R : Src → Mem → Prop} (h : -4611686018427387904 < a ∧ a < 4611686018427387904 ∧ -4611686018427387904 < b ∧ b < 4611686018427387904) : WpC (rngSrc [.int a, .int b]) S R = R (.items (rangeD a (b - a).toNat)) S := by
  show WpC (if (okR a && okR b) = true then some (.items (rangeD a (b - a).toNat)) else none) S R = _
  rw [if_pos (by rw [okR_iff.mpr ⟨h.1, h.2.1⟩, okR_iff.mpr h.2.2]; rfl)]; rfl
theorem rng_3 (a b c : Int) (n : Nat) {R : Src → Mem → Prop} (h : okR a = true ∧ okR b = true ∧ okR c = true ∧ c ≠ 0 ∧ c.natAbs < 1073741824 ∧ PySem.Builtin.Range.small a b c = true ∧ PySem.Builtin.Range.rangeSize a b c = n) :
    WpC (rngSrc [.int a, .int b, .int c]) S R = R (.items (rangeC a c n)) S := by
  obtain ⟨h1, h2, h3, h4, h5, h6, h7⟩ := h
  show WpC (if (okR a && okR b && okR c && c != 0 && decide (c.natAbs < 1073741824) && PySem.Builtin.Range.small a b c && decide (0 ≤ PySem.Builtin.Range.rangeSize a b c)) = true then some (.items (rangeC a c (PySem.Builtin.Range.rangeSize a b c).toNat)) else none) S R = _
  rw [if_pos (by rw [h1, h2, h3, h6, h7, decide_eq_true h5]; simp [h4]), h7, Int.toNat_natCast]; rfl
theorem lrg_1 (n : Nat) (h : n ≤ 16777216) : WpO (rngLst S [.int n]) Q = Q (.ref S.length) (S ++ [.lst (rangeD 0 n)]) := by
  show WpO (if 0 ≤ (n : Int) ∧ (n : Int) ≤ 16777216 then some (D.ref S.length, S ++ [.lst (rangeD 0 (n : Int).toNat)]) else none) Q = _
  rw [if_pos (by omega), Int.toNat_natCast]; rfl
def WpX (o : Option Nat) (R : Nat → Prop) : Prop := match o with
  | some j => R j
  | none => False
theorem wx_some (j : Nat) (R : Nat → Prop) : WpX (some j) R = R j := rfl
theorem idx_r (n : Nat) (y : D) : WpO (fIndexL (.ref n) [y] S) Q = WpL (lstAt S n) fun xs => if flatD y = true ∧ xs.all flatD = true then WpX (firstAt y xs 0) fun j => Q (.int j) S else False := by
  show WpO (match lstAt S n with
    | some xs => if flatD y = true ∧ xs.all flatD = true then (match firstAt y xs 0 with
      | some j => some (.int j, S)
      | none => none) else none
    | none => none) Q = _
  cases lstAt S n with
  | none => rfl
  | some xs =>
    rw [wl_some]
    dsimp only
    rw [wo_ite]
    cases firstAt y xs 0 <;> rfl
theorem first_int (i : Int) : ∀ (is : List Int) (j : Nat), i ∈ is → ∃ m, firstAt (.int i) (is.map D.int) j = some m
  | [], j, h => by cases h
  | x :: r, j, h => by
    show ∃ m, (if eqF (.int x) (.int i) = true then some j else firstAt (.int i) (r.map D.int) (j + 1)) = some m
    by_cases e : eqF (.int x) (.int i) = true
    · exact ⟨j, if_pos e⟩
    · rw [if_neg e]
      refine first_int i r (j + 1) ?_
      rcases List.mem_cons.mp h with q | q
      · exact absurd (by rw [q]; show (x == x) = true; simp) e
      · exact q
def WpT (o : Option (List (List Nat))) (R : List (List Nat) → Prop) : Prop := match o with
  | some j => R j
  | none => False
theorem wT_some (j : List (List Nat)) (R : List (List Nat) → Prop) : WpT (some j) R = R j := rfl
theorem join_r (sep : List Nat) (n : Nat) : WpO (fJoin (.str sep) [.ref n] S) Q = WpL (lstAt S n) fun xs => WpT (strsD xs) fun ts => if (ts.map (·.length)).sum + ts.length * sep.length ≤ line then Q (.str (joinL sep ts)) S else False := by
  show WpO (match lstAt S n with
    | some xs => (match strsD xs with
      | some ts => if (ts.map (·.length)).sum + ts.length * sep.length ≤ line then some (.str (joinL sep ts), S) else none
      | none => none)
    | none => none) Q = _
  cases lstAt S n with
  | none => rfl
  | some xs =>
    rw [wl_some]
    dsimp only
    cases strsD xs with
    | none => rfl
    | some ts =>
      rw [wT_some]
      dsimp only
      rw [wo_ite]; rfl
theorem src_s (cs : List Nat) : srcOf S (.str cs) = some (.items (cs.map fun c => D.str [c])) := rfl
theorem src_f (xs : List D) : srcOf S (.fl xs) = some (.items xs) := rfl
theorem src_t (xs : List D) : srcOf S (.tup xs) = some (.items xs) := rfl
theorem src_r (n : Nat) {R : Src → Mem → Prop} : WpC (srcOf S (.ref n)) S R = WpL (lstAt S n) fun _ => R (.cell n) S := by
  show WpC (match lstAt S n with
    | some _ => some (.cell n)
    | none => none) S R = _
  cases lstAt S n <;> rfl
theorem intsD_map (is : List Int) : intsD (is.map D.int) = some is := by
  induction is with
  | nil => rfl
  | cons i r ih =>
    show (match intsD (r.map D.int) with
      | some is => some (i :: is)
      | none => none) = _
    rw [ih]
theorem boolsD_map (is : List Bool) : boolsD (is.map D.bl) = some is := by
  induction is with
  | nil => rfl
  | cons i r ih =>
    show (match boolsD (r.map D.bl) with
      | some is => some (i :: is)
      | none => none) = _
    rw [ih]
theorem strsD_map (is : List (List Nat)) : strsD (is.map D.str) = some is := by
  induction is with
  | nil => rfl
  | cons i r ih =>
    show (match strsD (r.map D.str) with
      | some is => some (i :: is)
      | none => none) = _
    rw [ih]
theorem atI_nat {α : Type} (xs : List α) (i : Nat) : atI xs (i : Int) = xs[i]? := by
  unfold atI ixN
  rw [if_pos (by omega)]
  by_cases h : (i : Int) < (xs.length : Nat)
  · rw [if_pos h]; rfl
  · rw [if_neg h]
    rw [List.getElem?_eq_none (by omega)]; rfl
theorem atI_last {α : Type} (xs : List α) (d : α) : atI (xs ++ [d]) (-1) = some d := by
  unfold atI ixN
  rw [if_neg (by decide), if_pos (by rw [List.length_append, List.length_singleton]; omega)]
  show (xs ++ [d])[(-1 + (((xs ++ [d]).length : Nat) : Int)).toNat]? = some d
  rw [List.length_append, List.length_singleton, show (-1 + ((xs.length + 1 : Nat) : Int)).toNat = xs.length by omega]
  simp
theorem ixN_nat {n i : Nat} (h : i < n) : ixN n (i : Int) = some i := by
  unfold ixN
  rw [if_pos (by omega), if_pos (by omega)]; rfl
theorem cut_nat {α : Type} (xs : List α) (a b : Nat) : cutL xs (some (a : Int)) (some (b : Int)) = (xs.drop a).take (b - a) := by
  unfold cutL
  rw [HT.sIx_nat, HT.sIx_nat]
  by_cases h : a ≤ xs.length
  · rw [Nat.min_eq_left h]
    by_cases h2 : b ≤ xs.length
    · rw [Nat.min_eq_left h2]
    · rw [Nat.min_eq_right (show xs.length ≤ b by omega), List.take_of_length_le (by rw [List.length_drop]; omega), List.take_of_length_le (by rw [List.length_drop]; omega)]
  · rw [Nat.min_eq_right (show xs.length ≤ a by omega), List.drop_of_length_le (Nat.le_refl _), List.drop_of_length_le (show xs.length ≤ a by omega)]
    simp
theorem cut_to {α : Type} (xs : List α) (b : Nat) : cutL xs none (some (b : Int)) = xs.take b := by
  unfold cutL
  rw [HT.sIx_none, HT.sIx_nat, List.drop_zero, Nat.sub_zero]
  by_cases h2 : b ≤ xs.length
  · rw [Nat.min_eq_left h2]
  · rw [Nat.min_eq_right (by omega), List.take_length, List.take_of_length_le (by omega)]
theorem mem_range {lo : Int} {n : Nat} {d : D} (h : d ∈ rangeD lo n) : ∃ i, i < n ∧ d = .int (lo + (i : Nat)) := by
  obtain ⟨i, h1, h2⟩ := List.mem_map.mp h
  exact ⟨i, List.mem_range.mp h1, h2.symm⟩
theorem range_len (lo : Int) (n : Nat) : (rangeD lo n).length = n := by unfold rangeD; rw [List.length_map, List.length_range]
theorem range_get {lo : Int} {n i : Nat} {d : D} (h : (rangeD lo n)[i]? = some d) : i < n ∧ d = .int (lo + (i : Nat)) := by
  have hi : i < n := by
    have := (List.getElem?_eq_some_iff.mp h).1
    rw [range_len] at this
    exact this
  unfold rangeD at h
  rw [List.getElem?_map, List.getElem?_range hi] at h
  exact ⟨hi, (Option.some.inj h).symm⟩
theorem Wp.true {o : Out D} (h : Wp o fun d _ => d = .bl true) : ∃ S, o = .ok (.bl true) S := by
  obtain ⟨d, S, e, q⟩ := h.get
  rw [q] at e
  exact ⟨S, e⟩
end
end Mi

set_option Elab.async false
set_option linter.all false
set_option maxRecDepth 100000
set_option maxHeartbeats 4000000
/-! MiY: plain laws that serve many texts -/
namespace Mi
section
variable {S : Mem} {Q : D → Mem → Prop}
theorem mem_str {cs : List Nat} {d : D} (h : d ∈ cs.map fun c => D.str [c]) : ∃ c, c ∈ cs ∧ d = .str [c] := by
  obtain ⟨c, h1, h2⟩ := List.mem_map.mp h
  exact ⟨c, h1, h2.symm⟩
theorem bools_all {xs : List D} {f : D → D} (h : ∀ d ∈ xs, f d = .bl true) : boolsD (xs.map f) = some (xs.map fun _ => true) := by
  rw [← boolsD_map, List.map_map]
  congr 1
  exact List.map_congr_left h
theorem all_true {α : Type} (xs : List α) : (xs.map fun _ => true).all id = true := by simp
theorem line_of {n : Nat} (h : n ≤ 100000) : n ≤ line := by show n ≤ 16777216; omega
/-- how many r among the first i -/
def pre (cs : List Nat) (i : Nat) : Int := ((cs.take i).count 114 : Nat)
def preL (cs : List Nat) (n : Nat) : List D := (List.range n).map fun i => D.int (pre cs i)
theorem preL_succ (cs : List Nat) (n : Nat) : preL cs (n + 1) = preL cs n ++ [.int (pre cs n)] := by
  unfold preL
  rw [List.range_succ, List.map_append]; rfl
theorem pre_succ {cs : List Nat} {i c : Nat} (h : cs[i]? = some c) : pre cs (i + 1) = pre cs i + (if c = 114 then 1 else 0) := by
  unfold pre
  rw [List.take_add_one, h, List.count_append]
  by_cases e : c = 114
  · rw [if_pos e]; simp [e]
  · rw [if_neg e]; simp [List.count_cons, e]
theorem mulOk_small {i j : Int} (h : i.natAbs < 18446744073709551616) : mulOk i j = true := by
  unfold mulOk
  rw [decide_eq_true h]; rfl
theorem log_small {i : Int} (h : i.natAbs < 18446744073709551616) : i.natAbs.log2 < 9000 := by
  by_cases e : i.natAbs = 0
  · rw [e]; decide
  · have : i.natAbs.log2 < 64 := (Nat.log2_lt e).mpr h
    omega
theorem mod_dvd {l p : Nat} : (l : Int) % (p : Int) = 0 ↔ p ∣ l := by
  rw [← Int.natCast_emod]
  constructor
  · intro h
    exact Nat.dvd_of_mod_eq_zero (by omega)
  · intro h
    rw [Nat.mod_eq_zero_of_dvd h]; rfl
theorem cast_step {x p : Nat} (h : 1 ≤ p) : (x : Int) / (p : Int) * ((p : Int) - 1) = ((x / p * (p - 1) : Nat) : Int) := by
  rw [Int.natCast_mul, Int.natCast_ediv, Int.natCast_sub h]; rfl
theorem range_map (lo : Int) (n : Nat) (f : D → D) : (rangeD lo n).map f = (List.range n).map fun i : Nat => f (.int (lo + (i : Nat))) := by
  unfold rangeD
  rw [List.map_map]; rfl
theorem ints_range (n : Nat) (g : Nat → Int) : intsD ((List.range n).map fun i => D.int (g i)) = some ((List.range n).map g) := by
  rw [← intsD_map, List.map_map]; rfl
/-- of a whole number -/
def onI (f : Int → D) : D → D
  | .int i => f i
  | _ => .non
theorem rangeC_len (lo c : Int) (n : Nat) : (rangeC lo c n).length = n := by unfold rangeC; rw [List.length_map, List.length_range]
theorem rangeC_get {lo c : Int} {n i : Nat} {d : D} (h : (rangeC lo c n)[i]? = some d) : i < n ∧ d = .int (lo + (i : Nat) * c) := by
  have hi : i < n := by
    have := (List.getElem?_eq_some_iff.mp h).1
    rw [rangeC_len] at this
    exact this
  unfold rangeC at h
  rw [List.getElem?_map, List.getElem?_range hi] at h
  exact ⟨hi, (Option.some.inj h).symm⟩
def spread : List Int → Int
  | [] => 0
  | i :: r => maxI i r - minI i r
def wins (cs : List Nat) (size : Nat) : List Int := (List.range (cs.length - size + 1)).map fun a => pre cs (a + size) - pre cs a
theorem preL_get {cs : List Nat} {n i : Nat} (h : i < n) : (preL cs n)[i]? = some (.int (pre cs i)) := by
  unfold preL
  rw [List.getElem?_map, List.getElem?_range h]; rfl
theorem hd_spread {is : List Int} (h : is ≠ []) {R : Int → Int → Prop} (hr : ∀ a b, a ∈ is → b ∈ is → b - a = spread is → R a b) : hdJ minI is fun a => hdJ maxI is fun b => R a b := by
  cases is with
  | nil => exact absurd rfl h
  | cons i r =>
    have h1 := (minI_mem r i).1
    have h2 := (maxI_mem r i).1
    exact hr _ _ (by rcases h1 with e | e; rw [e]; exact List.mem_cons_self; exact List.mem_cons_of_mem _ e) (by rcases h2 with e | e; rw [e]; exact List.mem_cons_self; exact List.mem_cons_of_mem _ e) rfl
theorem flat_ints (is : List Int) : (is.map D.int).all flatD = true := by
  rw [List.all_eq_true]
  intro d hd
  obtain ⟨i, _, rfl⟩ := List.mem_map.mp hd
  rfl
def evenA (cs : List Nat) : Bool := (List.range cs.length).all fun i => decide (spread (wins cs (i + 1)) ≤ 1)
theorem bools_range (n : Nat) (g : Nat → Bool) : boolsD ((List.range n).map fun i => D.bl (g i)) = some ((List.range n).map g) := by
  rw [← boolsD_map, List.map_map]; rfl
theorem all_range (n : Nat) (g : Nat → Bool) : ((List.range n).map g).all id = (List.range n).all g := by
  rw [List.all_map]; rfl
/-- the count of r in the windows -/
def winsB (cs : List Nat) (many size : Nat) : List Int := (List.range many).map fun a => (((cs.drop a).take size).count 114 : Nat)
def evenB (cs : List Nat) : Bool := (List.range (cs.length - 1)).all fun i => decide (spread (winsB cs (cs.length - (i + 1) + 1) (i + 1)) ≤ 1)
def evenR (cs : List Nat) : Bool := (List.range (cs.length - 1)).all fun i => decide (spread (winsB (cs ++ cs) cs.length (i + 1)) ≤ 1)
theorem all_upto {n : Nat} {g : Nat → Bool} (h : ∀ i, i < n → g i = true) : (List.range n).all g = true := by
  rw [List.all_eq_true]
  intro i hi
  exact h i (List.mem_range.mp hi)
theorem all_not {n i : Nat} {g : Nat → Bool} (hi : i < n) (h : g i = false) : (List.range n).all g = false := by
  rw [List.all_eq_false]
  exact ⟨i, List.mem_range.mpr hi, by rw [h]; decide⟩
theorem spread_if {is : List Int} (hne : is ≠ []) {A B : Prop} (h1 : 1 < spread is → A) (h2 : ¬ 1 < spread is → B) : hdJ maxI is fun b => hdJ minI is fun a => if 1 < b - a then A else B := by
  cases is with
  | nil => exact absurd rfl hne
  | cons i r =>
    show if 1 < spread (i :: r) then A else B
    by_cases e : 1 < spread (i :: r)
    · rw [if_pos e]; exact h1 e
    · rw [if_neg e]; exact h2 e
theorem win_eq (cs : List Nat) (a size : Nat) : pre cs (a + size) - pre cs a = (((cs.drop a).take size).count 114 : Nat) := by
  unfold pre
  rw [List.take_add, List.count_append]
  omega
theorem wins_eq (cs : List Nat) (size : Nat) : wins cs size = winsB cs (cs.length - size + 1) size := List.map_congr_left fun a _ => win_eq cs a size
theorem even_eq (cs : List Nat) (h : 1 ≤ cs.length) : evenA cs = evenB cs := by
  unfold evenA evenB
  obtain ⟨n, hn⟩ : ∃ n, cs.length = n + 1 := ⟨cs.length - 1, by omega⟩
  rw [hn, Nat.add_sub_cancel, List.range_succ, List.all_append]
  have last : spread (wins cs (n + 1)) ≤ 1 := by
    unfold wins
    rw [hn, Nat.sub_self]
    show maxI _ [] - minI _ [] ≤ 1
    show (pre cs (0 + (n + 1)) - pre cs 0) - (pre cs (0 + (n + 1)) - pre cs 0) ≤ 1
    omega
  have e : ([n].all fun i => decide (spread (wins cs (i + 1)) ≤ 1)) = true := by
    show (decide (spread (wins cs (n + 1)) ≤ 1) && true) = true
    rw [decide_eq_true last]; rfl
  rw [e, Bool.and_true]
  congr 1
  funext i
  rw [wins_eq, hn]
def parts (cs : List Nat) : List Nat := ((List.range cs.length).map (· + 1)).filter fun s => decide ((List.replicate (cs.length / s) (cs.take s)).flatten = cs)
theorem parts_last {cs : List Nat} (h : 1 ≤ cs.length) : parts cs ≠ [] := by
  intro e
  have : cs.length ∈ parts cs := by
    unfold parts
    rw [List.mem_filter]
    refine ⟨List.mem_map.mpr ⟨cs.length - 1, List.mem_range.mpr (by omega), by omega⟩, ?_⟩
    rw [Nat.div_self (by omega), List.take_length]
    simp
  rw [e] at this
  cases this
def straightB (cs : List Nat) : Bool := evenR cs && decide ((parts cs).head? = some cs.length)
def onS (f : List Nat → Bool) : D → Bool
  | .str i => f i
  | _ => false
theorem filter_strs (f : List Nat → Bool) (ws : List (List Nat)) : ((ws.map D.str).filter (onS f)).length = (ws.filter f).length := by
  rw [List.filter_map, List.length_map]; rfl
/-- a die at n -/
def Die (T : Mem) (n : Nat) : Prop := ∃ g s t : Int, 0 ≤ g ∧ lstAt T n = some [.int g, .int s, .int t]
theorem Die.pre {T U : Mem} {n : Nat} (p : T <+: U) (h : Die T n) : Die U n := by
  obtain ⟨g, s, t, h1, h2⟩ := h
  exact ⟨g, s, t, h1, lst_pre p h2⟩
theorem at3_0 (a b c : D) : L2.atI [a, b, c] 0 = some a := rfl
theorem at3_1 (a b c : D) : L2.atI [a, b, c] 1 = some b := rfl
theorem at3_2 (a b c : D) : L2.atI [a, b, c] 2 = some c := rfl
theorem ix3_0 : L2.ixN 3 0 = some 0 := rfl
theorem ix3_2 : L2.ixN 3 2 = some 2 := rfl
/-- what a roll leaves -/
structure Rolled (n : Nat) (T U : Mem) : Prop where
  die : Die U n
  len : U.length = T.length
  other : ∀ m, m ≠ n → U[m]? = T[m]?
theorem Rolled.lst {n m : Nat} {T U : Mem} {xs : List D} (r : Rolled n T U) (h : m ≠ n) (hl : lstAt T m = some xs) : lstAt U m = some xs := by
  unfold lstAt at hl ⊢
  rw [r.other m h]
  exact hl
theorem rolled {n : Nat} {T : Mem} {g s t : Int} {xs : List D} (hl : lstAt T n = some xs) (hg : 0 ≤ g) : Rolled n T (T.set n (.lst [.int g, .int s, .int t])) :=
  ⟨⟨g, s, t, hg, lst_set hl⟩, List.length_set, fun m h => List.getElem?_set_ne (Ne.symm h)⟩
theorem mulOk_right {i j : Int} (h : j.natAbs < 18446744073709551616) : mulOk i j = true := by
  unfold mulOk
  rw [decide_eq_true h, Bool.or_true]
theorem big_pos : 0 < ((10 : Int) ^ Int.toNat 54) ^ Int.toNat 6 := Int.pow_pos (Int.pow_pos (by decide))
theorem big_log : 0 ≤ (6 : Int) ∧ (((10 : Int) ^ Int.toNat 54).natAbs.log2 + 1) * Int.toNat 6 ≤ 1000000 := by decide +kernel
theorem max0 (x : Int) : 0 ≤ (if x > 0 then x else 0) := by split <;> omega
theorem at3 {a b c : D} {r : Int} (h0 : 0 ≤ r) (h1 : r < 3) : ∃ d, d ∈ [a, b, c] ∧ L2.atI [a, b, c] r = some d := by
  have : r = 0 ∨ r = 1 ∨ r = 2 := by omega
  rcases this with e | e | e
  · exact ⟨a, by simp, by rw [e]; rfl⟩
  · exact ⟨b, by simp, by rw [e]; rfl⟩
  · exact ⟨c, by simp, by rw [e]; rfl⟩
theorem joinL_nil : ∀ ts : List (List Nat), joinL [] ts = ts.flatten
  | [] => rfl
  | [x] => by simp [joinL]
  | x :: y :: r => by
    show x ++ [] ++ joinL [] (y :: r) = _
    rw [joinL_nil (y :: r), List.append_nil]; rfl
theorem flat_ones (cs : List Nat) : (cs.map fun c => [c]).flatten = cs := by
  induction cs with
  | nil => rfl
  | cons c r ih =>
    show [c] ++ (r.map fun c => [c]).flatten = _
    rw [ih]; rfl
theorem sum_ones (cs : List Nat) : ((cs.map fun c => [c]).map (·.length)).sum = cs.length := by
  rw [List.map_map]
  have : cs.map ((fun x : List Nat => x.length) ∘ fun c => [c]) = cs.map fun _ => 1 := List.map_congr_left fun _ _ => rfl
  rw [this, List.map_const', List.sum_replicate_nat, Nat.mul_one]
theorem strs_ones (cs : List Nat) : strsD (cs.map fun c => D.str [c]) = some (cs.map fun c => [c]) := by
  rw [← strsD_map, List.map_map]; rfl
theorem join_ones (n : Nat) (cs : List Nat) (hl : lstAt S n = some (cs.map fun c => D.str [c])) (h : cs.length ≤ 100000) : WpO (fJoin (.str []) [.ref n] S) Q = Q (.str cs) S := by
  rw [join_r, hl, wl_some, strs_ones, wT_some, if_pos (by rw [sum_ones]; exact line_of (by simpa using h)), joinL_nil, flat_ones]
theorem join_ones2 (n : Nat) (cs : List Nat) (hl : lstAt S n = some (cs.map fun c => D.str [c])) (h : cs.length ≤ 100000) : (WpL (lstAt S n) fun xs => WpT (strsD xs) fun ts => if (ts.map fun x => x.length).sum + ts.length * 0 ≤ line then Q (.str (joinL [] ts)) S else False) = Q (.str cs) S := by
  rw [hl, wl_some, strs_ones, wT_some, if_pos (by rw [sum_ones]; exact line_of (by omega)), joinL_nil, flat_ones]
end
end Mi

set_option Elab.async false
set_option linter.all false
set_option maxHeartbeats 1000000
/-! WoA: the low word of a slope, as a machine and by rests (plain Lean, no program in sight) -/
namespace Lw
/-- the machine of the slope (p, q): its state h, so many letters -/
def mach (p q : Nat) : Nat → Nat → List Nat
  | 0, _ => []
  | n + 1, h => if h < p then 114 :: mach p q n (h + q) else 117 :: mach p q n (h - p)
/-- the state behind so many letters -/
def stM (p q : Nat) : Nat → Nat → Nat
  | 0, h => h
  | n + 1, h => if h < p then stM p q n (h + q) else stM p q n (h - p)
def low (p q : Nat) : List Nat := mach p q (p + q) 0
/-- by rests -/
def rest (p q i : Nat) : Nat := i * q % (p + q)
def letter (p q i : Nat) : Nat := if rest p q i < p then 114 else 117
def lowR (p q : Nat) : List Nat := (List.range (p + q)).map (letter p q)
theorem rest_lt {p q : Nat} (h : 0 < p + q) (i : Nat) : rest p q i < p + q := Nat.mod_lt _ h
theorem rest_zero (p q : Nat) : rest p q 0 = 0 := by unfold rest; rw [Nat.zero_mul, Nat.zero_mod]
theorem rest_succ {p q : Nat} (h : 0 < p + q) (i : Nat) : rest p q (i + 1) = if rest p q i < p then rest p q i + q else rest p q i - p := by
  have e : rest p q (i + 1) = (rest p q i + q) % (p + q) := by
    unfold rest
    rw [Nat.add_mul, Nat.one_mul, Nat.mod_add_mod]
  have hl := rest_lt h i
  rw [e]
  by_cases c : rest p q i < p
  · rw [if_pos c, Nat.mod_eq_of_lt (by omega)]
  · rw [if_neg c, Nat.mod_eq_sub_mod (by omega), Nat.mod_eq_of_lt (by omega)]
    omega
theorem mach_rest {p q : Nat} (h : 0 < p + q) : ∀ (n i : Nat), mach p q n (rest p q i) = (List.range n).map fun j => letter p q (i + j)
  | 0, i => rfl
  | n + 1, i => by
    rw [List.range_succ_eq_map, List.map_cons, List.map_map]
    have step : mach p q (n + 1) (rest p q i) = letter p q i :: mach p q n (rest p q (i + 1)) := by
      rw [rest_succ h]
      unfold letter
      show (if rest p q i < p then _ else _) = _
      by_cases c : rest p q i < p
      · rw [if_pos c, if_pos c, if_pos c]
      · rw [if_neg c, if_neg c, if_neg c]
    rw [step, mach_rest h n (i + 1)]
    congr 1
    apply List.map_congr_left
    intro j _
    show letter p q (i + 1 + j) = letter p q (i + (j + 1))
    rw [Nat.add_right_comm, Nat.add_assoc]
theorem low_eq {p q : Nat} (h : 0 < p + q) : low p q = lowR p q := by
  unfold low lowR
  have := mach_rest h (p + q) 0
  rw [rest_zero] at this
  rw [this]
  apply List.map_congr_left
  intro j _
  rw [Nat.zero_add]
theorem stM_rest {p q : Nat} (h : 0 < p + q) : ∀ (n i : Nat), stM p q n (rest p q i) = rest p q (i + n)
  | 0, i => rfl
  | n + 1, i => by
    have step : stM p q (n + 1) (rest p q i) = stM p q n (rest p q (i + 1)) := by
      rw [rest_succ h]
      show (if rest p q i < p then _ else _) = _
      by_cases c : rest p q i < p
      · rw [if_pos c, if_pos c]
      · rw [if_neg c, if_neg c]
    rw [step, stM_rest h n (i + 1), show i + 1 + n = i + (n + 1) by omega]
theorem low_length (p q : Nat) : (low p q).length = p + q := by
  have : ∀ n h, (mach p q n h).length = n := by
    intro n
    induction n with
    | zero => intro h; rfl
    | succ n ih =>
      intro h
      show (if h < p then _ else _ : List Nat).length = _
      by_cases c : h < p
      · rw [if_pos c, List.length_cons, ih]
      · rw [if_neg c, List.length_cons, ih]
  exact this _ _
/-- a state tells how many letters went by -/
theorem mach_count (p q : Nat) : ∀ (n h : Nat), h + (mach p q n h).count 114 * q = stM p q n h + (mach p q n h).count 117 * p
  | 0, h => by simp [mach, stM]
  | n + 1, h => by
    show h + (if h < p then 114 :: mach p q n (h + q) else 117 :: mach p q n (h - p) : List Nat).count 114 * q = (if h < p then stM p q n (h + q) else stM p q n (h - p)) + (if h < p then 114 :: mach p q n (h + q) else 117 :: mach p q n (h - p) : List Nat).count 117 * p
    by_cases c : h < p
    · rw [if_pos c, if_pos c, List.count_cons_self, List.count_cons_of_ne (by decide), Nat.add_mul, Nat.one_mul]
      have := mach_count p q n (h + q)
      omega
    · rw [if_neg c, if_neg c, List.count_cons_self, List.count_cons_of_ne (by decide), Nat.add_mul, Nat.one_mul]
      have := mach_count p q n (h - p)
      omega
theorem mach_two (p q : Nat) : ∀ (n h : Nat), (mach p q n h).count 114 + (mach p q n h).count 117 = n
  | 0, h => rfl
  | n + 1, h => by
    show (if h < p then 114 :: mach p q n (h + q) else 117 :: mach p q n (h - p) : List Nat).count 114 + (if h < p then 114 :: mach p q n (h + q) else 117 :: mach p q n (h - p) : List Nat).count 117 = _
    by_cases c : h < p
    · rw [if_pos c, List.count_cons_self, List.count_cons_of_ne (by decide)]
      have := mach_two p q n (h + q)
      omega
    · rw [if_neg c, List.count_cons_self, List.count_cons_of_ne (by decide)]
      have := mach_two p q n (h - p)
      omega
theorem low_counts {p q : Nat} (h : 0 < p + q) : (low p q).count 114 = p ∧ (low p q).count 117 = q := by
  have h1 := mach_count p q (p + q) 0
  have h2 := mach_two p q (p + q) 0
  have h3 : stM p q (p + q) 0 = 0 := by
    have := stM_rest h (p + q) 0
    rw [rest_zero, Nat.zero_add] at this
    rw [this]
    unfold rest
    rw [Nat.mul_mod_right]
  rw [h3] at h1
  change 0 + (low p q).count 114 * q = 0 + (low p q).count 117 * p at h1
  change (low p q).count 114 + (low p q).count 117 = p + q at h2
  generalize (low p q).count 114 = x at *
  generalize (low p q).count 117 = y at *
  -- x q = y p, x + y = p + q
  have h4 : x * (p + q) = p * (p + q) := by
    have e1 : x * (p + q) = x * p + x * q := Nat.mul_add _ _ _
    have e2 : p * (x + y) = p * x + p * y := Nat.mul_add _ _ _
    rw [h2] at e2
    rw [e1, e2, Nat.mul_comm x p]
    have := Nat.mul_comm y p
    omega
  have h5 : x = p := Nat.eq_of_mul_eq_mul_right h h4
  omega
end Lw

set_option Elab.async false
set_option linter.all false
set_option maxHeartbeats 1000000
/-! WoB: words read round: even ones are low words read from some letter on (plain Lean) -/
namespace Lw
/-- is the letter at i, read round, an r -/
def lt (w : List Nat) (i : Nat) : Int := if w[i % w.length]? = some 114 then 1 else 0
/-- how many r among the first i letters, read round -/
def P (w : List Nat) : Nat → Int
  | 0 => 0
  | i + 1 => P w i + lt w i
def cnt (w : List Nat) : Int := (w.count 114 : Nat)
theorem P_pre (w : List Nat) : ∀ i, i ≤ w.length → P w i = ((w.take i).count 114 : Nat)
  | 0, _ => by simp [P]
  | i + 1, h => by
    have hi : i < w.length := h
    show P w i + lt w i = _
    rw [P_pre w i (by omega), List.take_add_one, List.count_append]
    unfold lt
    rw [Nat.mod_eq_of_lt hi, List.getElem?_eq_getElem hi]
    by_cases c : w[i] = 114
    · rw [if_pos (by rw [c])]; simp [c]
    · rw [if_neg (by intro z; exact c (Option.some.inj z))]; simp [List.count_cons, c]
theorem P_turn (w : List Nat) (h : 1 ≤ w.length) : ∀ i, P w (i + w.length) = P w i + cnt w
  | 0 => by
    rw [Nat.zero_add, P_pre w _ (Nat.le_refl _), List.take_length]
    show _ = 0 + cnt w
    unfold cnt
    omega
  | i + 1 => by
    rw [show i + 1 + w.length = (i + w.length) + 1 by omega]
    show P w (i + w.length) + lt w (i + w.length) = P w i + lt w i + cnt w
    have e : lt w (i + w.length) = lt w i := by unfold lt; rw [Nat.add_mod_right]
    rw [P_turn w h i, e]
    omega
def sumTo (f : Nat → Int) : Nat → Int
  | 0 => 0
  | n + 1 => sumTo f n + f n
theorem sumTo_le {f : Nat → Int} {K : Int} : ∀ {n : Nat}, (∀ i, i < n → f i ≤ K) → sumTo f n ≤ n * K
  | 0, _ => by show (0 : Int) ≤ ((0 : Nat) : Int) * K; rw [show ((0 : Nat) : Int) = 0 from rfl, Int.zero_mul]; exact Int.le_refl _
  | n + 1, h => by
    show sumTo f n + f n ≤ _
    have h1 := sumTo_le (f := f) (K := K) (n := n) fun i hi => h i (by omega)
    have h2 := h n (by omega)
    rw [show ((n + 1 : Nat) : Int) * K = (n : Int) * K + K by rw [Int.natCast_add, Int.add_mul]; simp]
    omega
theorem sumTo_lt {f : Nat → Int} {K : Int} {i0 : Nat} (h0 : f i0 + 1 ≤ K) : ∀ {n : Nat}, (∀ i, i < n → f i ≤ K) → i0 < n → sumTo f n + 1 ≤ n * K
  | 0, _, hi => absurd hi (Nat.not_lt_zero _)
  | n + 1, h, hi => by
    show sumTo f n + f n + 1 ≤ _
    rw [show ((n + 1 : Nat) : Int) * K = (n : Int) * K + K by rw [Int.natCast_add, Int.add_mul]; simp]
    by_cases e : i0 = n
    · subst e
      have h1 := sumTo_le (f := f) (K := K) (n := i0) fun i hi => h i (by omega)
      omega
    · have h1 := sumTo_lt h0 (n := n) (fun i hi => h i (by omega)) (by omega)
      have h2 := h n (by omega)
      omega
theorem sumTo_sub (f g : Nat → Int) : ∀ n, sumTo (fun i => f i - g i) n = sumTo f n - sumTo g n
  | 0 => rfl
  | n + 1 => by
    show sumTo (fun i => f i - g i) n + (f n - g n) = sumTo f n + f n - (sumTo g n + g n)
    rw [sumTo_sub f g n]
    omega
theorem sumTo_shift (f : Nat → Int) : ∀ n, sumTo (fun i => f (i + 1)) n = sumTo f n + f n - f 0
  | 0 => by show (0 : Int) = 0 + f 0 - f 0; omega
  | n + 1 => by
    show sumTo (fun i => f (i + 1)) n + f (n + 1) = sumTo f n + f n + f (n + 1) - f 0
    rw [sumTo_shift f n]
    omega
/-- all windows of a size together -/
theorem sum_wins (w : List Nat) (h : 1 ≤ w.length) : ∀ s, sumTo (fun a => P w (a + s)) w.length = sumTo (P w) w.length + s * cnt w
  | 0 => by simp
  | s + 1 => by
    have e : (fun a => P w (a + (s + 1))) = fun a => (fun i => P w (i + s)) (a + 1) := by
      funext a
      show P w (a + (s + 1)) = P w (a + 1 + s)
      congr 1
      omega
    rw [e, sumTo_shift (fun i => P w (i + s)), sum_wins w h s]
    have t := P_turn w h s
    rw [show w.length + s = s + w.length by omega, Nat.zero_add]
    rw [show ((s + 1 : Nat) : Int) * cnt w = (s : Int) * cnt w + cnt w by rw [Int.natCast_add, Int.add_mul]; simp]
    omega
/-- the windows of each size differ by one at most -/
def Bal (w : List Nat) : Prop := ∀ s a b, 1 ≤ s → s < w.length → a < w.length → b < w.length → P w (a + s) - P w a ≤ P w (b + s) - P w b + 1
theorem bal_near {w : List Nat} (hb : Bal w) {s i : Nat} (h1 : 1 ≤ s) (h2 : s < w.length) (hi : i < w.length) :
    (w.length : Int) * (P w (i + s) - P w i) - s * cnt w < w.length ∧ -(w.length : Int) < (w.length : Int) * (P w (i + s) - P w i) - s * cnt w := by
  have tot : sumTo (fun a => P w (a + s) - P w a) w.length = s * cnt w := by
    rw [sumTo_sub (fun a => P w (a + s)) (P w), sum_wins w (by omega) s]
    omega
  have u1 := sumTo_lt (f := fun a => P w (a + s) - P w a) (K := P w (i + s) - P w i + 1) (i0 := i) (Int.le_refl _) (fun a ha => hb s a i h1 h2 ha hi) hi
  have u2 := sumTo_lt (f := fun a => -(P w (a + s) - P w a)) (K := -(P w (i + s) - P w i) + 1) (i0 := i) (Int.le_refl _) (fun a ha => by have := hb s i a h1 h2 hi ha; omega) hi
  have neg : sumTo (fun a => -(P w (a + s) - P w a)) w.length = -(s * cnt w) := by
    have : ∀ (f : Nat → Int) n, sumTo (fun a => - f a) n = - sumTo f n := by
      intro f n
      induction n with
      | zero => rfl
      | succ n ih =>
        show sumTo (fun a => - f a) n + - f n = -(sumTo f n + f n)
        rw [ih]; omega
    rw [this, tot]
  rw [tot] at u1
  rw [neg] at u2
  have e1 : (w.length : Int) * (P w (i + s) - P w i + 1) = (w.length : Int) * (P w (i + s) - P w i) + w.length := by rw [Int.mul_add, Int.mul_one]
  have e2 : (w.length : Int) * (-(P w (i + s) - P w i) + 1) = -((w.length : Int) * (P w (i + s) - P w i)) + w.length := by rw [Int.mul_add, Int.mul_one, Int.mul_neg]
  rw [e1] at u1
  rw [e2] at u2
  omega
/-- how far the count is ahead of its even share, times the length -/
def v (w : List Nat) (i : Nat) : Int := (w.length : Int) * P w i - i * cnt w
theorem v_turn (w : List Nat) (h : 1 ≤ w.length) (i : Nat) : v w (i + w.length) = v w i := by
  unfold v
  rw [P_turn w h i, Int.mul_add, Int.natCast_add, Int.add_mul]
  omega
theorem v_turns (w : List Nat) (h : 1 ≤ w.length) (i : Nat) : ∀ m, v w (i + m * w.length) = v w i
  | 0 => by rw [Nat.zero_mul, Nat.add_zero]
  | m + 1 => by rw [Nat.add_mul, Nat.one_mul, ← Nat.add_assoc, v_turn w h, v_turns w h i m]
theorem v_mod (w : List Nat) (h : 1 ≤ w.length) (i : Nat) : v w i = v w (i % w.length) := by
  have := v_turns w h (i % w.length) (i / w.length)
  rw [Nat.mul_comm, Nat.mod_add_div] at this
  exact this
theorem v_step (w : List Nat) (i : Nat) : v w (i + 1) = v w i + (w.length : Int) * lt w i - cnt w := by
  unfold v
  show (w.length : Int) * (P w i + lt w i) - ((i + 1 : Nat) : Int) * cnt w = _
  rw [Int.mul_add, Int.natCast_add, Int.add_mul]
  simp
  omega
theorem exists_least (f : Nat → Int) : ∀ n, 1 ≤ n → ∃ i, i < n ∧ ∀ j, j < n → f i ≤ f j
  | 0, h => absurd h (by decide)
  | 1, _ => ⟨0, by decide, fun j hj => by rw [show j = 0 by omega]; exact Int.le_refl _⟩
  | n + 2, _ => by
    obtain ⟨i, h1, h2⟩ := exists_least f (n + 1) (by omega)
    by_cases c : f i ≤ f (n + 1)
    · exact ⟨i, by omega, fun j hj => by
        by_cases e : j = n + 1
        · rw [e]; exact c
        · exact h2 j (by omega)⟩
    · exact ⟨n + 1, by omega, fun j hj => by
        by_cases e : j = n + 1
        · rw [e]; exact Int.le_refl _
        · have := h2 j (by omega); omega⟩
theorem lt_01 (w : List Nat) (i : Nat) : lt w i = 0 ∨ lt w i = 1 := by
  unfold lt
  split
  · exact .inr rfl
  · exact .inl rfl
/-- the letter at i, read round -/
def at_ (w : List Nat) (i : Nat) : Nat := (w[i % w.length]?).getD 0
/-- letters alone -/
def Ru (w : List Nat) : Prop := ∀ c ∈ w, c = 114 ∨ c = 117
theorem at_lt {w : List Nat} (h : 1 ≤ w.length) (hr : Ru w) (i : Nat) : at_ w i = if lt w i = 1 then 114 else 117 := by
  have hi : i % w.length < w.length := Nat.mod_lt _ (by omega)
  unfold at_ lt
  rw [List.getElem?_eq_getElem hi]
  have hm := hr _ (List.getElem_mem hi)
  rcases hm with e | e
  · rw [e]; simp
  · rw [e]; simp
theorem cnt_le (w : List Nat) : 0 ≤ cnt w ∧ cnt w ≤ w.length := by
  unfold cnt
  have := List.count_le_length (a := 114) (l := w)
  omega
/-- a word that is even read round is a low word, read from some letter on -/
theorem bal_low {w : List Nat} (h : 1 ≤ w.length) (hr : Ru w) (hb : Bal w) : ∃ i, i < w.length ∧ (List.range w.length).map (fun j => at_ w (i + j)) = low (w.count 114) (w.length - w.count 114) := by
  obtain ⟨i, hi, hmin⟩ := exists_least (v w) w.length h
  refine ⟨i, hi, ?_⟩
  have hc := List.count_le_length (a := 114) (l := w)
  have hcnt : cnt w = (w.count 114 : Nat) := rfl
  have lo : ∀ j, v w i ≤ v w (i + j) := fun j => by
    rw [v_mod w h (i + j)]
    exact hmin _ (Nat.mod_lt _ (by omega))
  have hi2 : ∀ j, v w (i + j) - v w i < w.length := fun j => by
    have e : v w (i + j) = v w (i + j % w.length) := by
      have := v_turns w h (i + j % w.length) (j / w.length)
      rw [show i + j % w.length + j / w.length * w.length = i + j by rw [Nat.add_assoc, Nat.mul_comm, Nat.mod_add_div]] at this
      exact this
    rw [e]
    have hj : j % w.length < w.length := Nat.mod_lt _ (by omega)
    by_cases z : j % w.length = 0
    · rw [z, Nat.add_zero]; omega
    · have b := (bal_near hb (s := j % w.length) (i := i) (by omega) hj hi).1
      generalize j % w.length = s at *
      unfold v
      rw [Int.natCast_add, Int.add_mul]
      have : (w.length : Int) * (P w (i + s) - P w i) = w.length * P w (i + s) - w.length * P w i := Int.mul_sub _ _ _
      omega
  have key : ∀ (n j : Nat), (List.range n).map (fun t => at_ w (i + j + t)) = mach (w.count 114) (w.length - w.count 114) n (v w (i + j) - v w i).toNat := by
    intro n
    induction n with
    | zero => intro j; rfl
    | succ n ih =>
      intro j
      rw [List.range_succ_eq_map, List.map_cons, List.map_map]
      have tl : (List.range n).map ((fun t => at_ w (i + j + t)) ∘ Nat.succ) = (List.range n).map (fun t => at_ w (i + (j + 1) + t)) := List.map_congr_left fun t _ => by
        show at_ w (i + j + (t + 1)) = at_ w (i + (j + 1) + t)
        congr 1
        omega
      rw [tl, ih (j + 1), Nat.add_zero]
      have s1 := v_step w (i + j)
      have l1 := lo j
      have l2 := lo (j + 1)
      have u1 := hi2 j
      have u2 := hi2 (j + 1)
      rw [show i + (j + 1) = i + j + 1 by omega] at l2 u2 ⊢
      show _ = (if (v w (i + j) - v w i).toNat < w.count 114 then 114 :: mach (w.count 114) (w.length - w.count 114) n ((v w (i + j) - v w i).toNat + (w.length - w.count 114)) else 117 :: mach (w.count 114) (w.length - w.count 114) n ((v w (i + j) - v w i).toNat - w.count 114))
      rw [at_lt h hr]
      rcases lt_01 w (i + j) with e | e
      · rw [e] at s1 ⊢
        rw [Int.mul_zero] at s1
        rw [if_neg (by decide), if_neg (by omega)]
        congr 2
        omega
      · rw [e] at s1 ⊢
        rw [Int.mul_one] at s1
        rw [if_pos rfl, if_pos (by omega)]
        congr 2
        omega
  have k0 := key w.length 0
  rw [Nat.add_zero, Int.sub_self] at k0
  rw [k0]
  unfold low
  rw [show w.count 114 + (w.length - w.count 114) = w.length by omega]
  rfl
end Lw

set_option Elab.async false
set_option linter.all false
set_option maxHeartbeats 1000000
/-! WoC: low words read round are even; whole powers (plain Lean) -/
namespace Lw
theorem at_turn (w : List Nat) (i : Nat) : at_ w (i + w.length) = at_ w i := by unfold at_; rw [Nat.add_mod_right]
theorem at_turns (w : List Nat) (i : Nat) : ∀ m, at_ w (i + m * w.length) = at_ w i
  | 0 => by rw [Nat.zero_mul, Nat.add_zero]
  | m + 1 => by rw [Nat.add_mul, Nat.one_mul, ← Nat.add_assoc, at_turn, at_turns w i m]
theorem lt_at {w : List Nat} (h : 1 ≤ w.length) (i : Nat) : lt w i = if at_ w i = 114 then 1 else 0 := by
  have hi : i % w.length < w.length := Nat.mod_lt _ (by omega)
  unfold at_ lt
  rw [List.getElem?_eq_getElem hi]
  by_cases e : w[i % w.length] = 114
  · rw [if_pos (by rw [e]), if_pos (by rw [e]; rfl)]
  · rw [if_neg (fun z => e (Option.some.inj z)), if_neg (show ¬ (some w[i % w.length]).getD 0 = 114 from e)]
theorem rest_per {p q : Nat} (h : 0 < p + q) (i : Nat) : rest p q (i + (p + q)) = rest p q i := by
  unfold rest
  rw [Nat.add_mul, Nat.add_mul_mod_self_left]
theorem rest_pers {p q : Nat} (h : 0 < p + q) (i : Nat) : ∀ m, rest p q (i + m * (p + q)) = rest p q i
  | 0 => by rw [Nat.zero_mul, Nat.add_zero]
  | m + 1 => by rw [Nat.add_mul, Nat.one_mul, ← Nat.add_assoc, rest_per h, rest_pers h i m]
theorem letter_mod {p q : Nat} (h : 0 < p + q) (j : Nat) : letter p q j = letter p q (j % (p + q)) := by
  have := rest_pers h (j % (p + q)) (j / (p + q))
  rw [Nat.mul_comm, Nat.mod_add_div] at this
  unfold letter
  rw [this]
/-- w, read from i on, is the low word of (p, q) -/
def Rot (w : List Nat) (i p q : Nat) : Prop := ∀ j, at_ w (i + j) = letter p q j
theorem rot_of {w : List Nat} {i p q : Nat} (h : 1 ≤ w.length) (hn : w.length = p + q) (he : (List.range w.length).map (fun j => at_ w (i + j)) = low p q) : Rot w i p q := fun j => by
  have h0 : 0 < p + q := by omega
  rw [low_eq h0] at he
  have hm : j % (p + q) < p + q := Nat.mod_lt _ h0
  have e1 := congrArg (fun l => l[j % (p + q)]?) he
  simp only [lowR] at e1
  rw [List.getElem?_map, List.getElem?_map, List.getElem?_range (by rw [hn]; exact hm), List.getElem?_range hm] at e1
  have e2 : at_ w (i + j % (p + q)) = letter p q (j % (p + q)) := Option.some.inj e1
  have e3 := at_turns w (i + j % (p + q)) (j / (p + q))
  rw [hn, show i + j % (p + q) + j / (p + q) * (p + q) = i + j by rw [Nat.add_assoc, Nat.mul_comm, Nat.mod_add_div]] at e3
  rw [e3, e2, letter_mod h0 j]
theorem rot_v {w : List Nat} {i p q : Nat} (h : 1 ≤ w.length) (hn : w.length = p + q) (hc : cnt w = (p : Nat)) (hr : Rot w i p q) : ∀ j, v w (i + j) - v w i = (rest p q j : Nat)
  | 0 => by rw [Nat.add_zero, rest_zero]; omega
  | j + 1 => by
    have h0 : 0 < p + q := by omega
    have ih := rot_v h hn hc hr j
    have s1 := v_step w (i + j)
    rw [show i + (j + 1) = i + j + 1 by omega, rest_succ h0]
    rw [lt_at h, hr j] at s1
    unfold letter at s1
    have hb := rest_lt h0 j
    by_cases c : rest p q j < p
    · rw [if_pos c] at s1 ⊢
      rw [if_pos rfl, Int.mul_one] at s1
      omega
    · rw [if_neg c] at s1 ⊢
      rw [if_neg (by decide), Int.mul_zero] at s1
      omega
theorem rot_near {w : List Nat} {i p q : Nat} (h : 1 ≤ w.length) (hn : w.length = p + q) (hc : cnt w = (p : Nat)) (hr : Rot w i p q) (x : Nat) : v w i ≤ v w x ∧ v w x < v w i + w.length := by
  have h1 := rot_v h hn hc hr (x + i * (w.length - 1))
  have e : v w (i + (x + i * (w.length - 1))) = v w x := by
    have := v_turns w h x i
    rw [← this]
    congr 1
    obtain ⟨m, hm⟩ : ∃ m, w.length = m + 1 := ⟨w.length - 1, by omega⟩
    rw [hm, Nat.add_sub_cancel, Nat.mul_add, Nat.mul_one]
    omega
  have h2 := rest_lt (p := p) (q := q) (by omega) (x + i * (w.length - 1))
  rw [e] at h1
  omega
theorem rot_bal {w : List Nat} {i p q : Nat} (h : 1 ≤ w.length) (hn : w.length = p + q) (hc : cnt w = (p : Nat)) (hr : Rot w i p q) : Bal w := fun s a b h1 h2 ha hb => by
  have a1 := rot_near h hn hc hr (a + s)
  have a2 := rot_near h hn hc hr a
  have b1 := rot_near h hn hc hr (b + s)
  have b2 := rot_near h hn hc hr b
  have ea : (w.length : Int) * (P w (a + s) - P w a) = v w (a + s) - v w a + s * cnt w := by
    unfold v
    rw [Int.mul_sub, Int.natCast_add, Int.add_mul]
    omega
  have eb : (w.length : Int) * (P w (b + s) - P w b) = v w (b + s) - v w b + s * cnt w := by
    unfold v
    rw [Int.mul_sub, Int.natCast_add, Int.add_mul]
    omega
  generalize P w (a + s) - P w a = X at ea ⊢
  generalize P w (b + s) - P w b = Y at eb ⊢
  apply Classical.byContradiction
  intro hn'
  have hd : 2 ≤ X - Y := by omega
  have hm : (w.length : Int) * 2 ≤ (w.length : Int) * (X - Y) := Int.mul_le_mul_of_nonneg_left hd (by omega)
  rw [Int.mul_sub] at hm
  omega
/-- of period m -/
theorem pow_of {w : List Nat} {m : Nat} (hm : 1 ≤ m) (hp : ∀ x, at_ w (x + m) = at_ w x) : ∀ k, k * m ≤ w.length → (List.replicate k (w.take m)).flatten = w.take (k * m)
  | 0, _ => by simp
  | k + 1, h => by
    rw [Nat.add_mul, Nat.one_mul] at h
    rw [List.replicate_succ', List.flatten_append, pow_of hm hp k (by omega), Nat.add_mul, Nat.one_mul, List.take_add]
    congr 1
    show [w.take m].flatten = _
    rw [List.flatten_singleton]
    apply List.ext_getElem?
    intro j
    by_cases hj : j < m
    · rw [List.getElem?_take_of_lt hj, List.getElem?_take_of_lt hj, List.getElem?_drop]
      have per : ∀ k, at_ w (j + k * m) = at_ w j := by
        intro k
        induction k with
        | zero => rw [Nat.zero_mul, Nat.add_zero]
        | succ k ih => rw [Nat.add_mul, Nat.one_mul, ← Nat.add_assoc, hp, ih]
      have e := per k
      have l1 : j < w.length := by omega
      have l2 : j + k * m < w.length := by omega
      unfold at_ at e
      rw [Nat.mod_eq_of_lt l1, Nat.mod_eq_of_lt l2, List.getElem?_eq_getElem l1, List.getElem?_eq_getElem l2] at e
      rw [List.getElem?_eq_getElem l1, Nat.add_comm, List.getElem?_eq_getElem l2]
      exact congrArg some e.symm
    · rw [List.getElem?_eq_none (by rw [List.length_take]; omega), List.getElem?_eq_none (by rw [List.length_take]; omega)]
/-- a low word with a common divisor is a power -/
theorem rot_power {w : List Nat} {i p q g : Nat} (h : 1 ≤ w.length) (hn : w.length = p + q) (hr : Rot w i p q) (hg : 1 ≤ g) (hp : g ∣ p) (hq : g ∣ q) : (List.replicate g (w.take (w.length / g))).flatten = w := by
  obtain ⟨p', rfl⟩ := hp
  obtain ⟨q', rfl⟩ := hq
  have hl : w.length = g * (p' + q') := by rw [hn, Nat.mul_add]
  have hm : w.length / g = p' + q' := by rw [hl, Nat.mul_div_cancel_left _ (by omega)]
  have hm1 : 1 ≤ p' + q' := by
    rcases Nat.eq_zero_or_pos (p' + q') with e | e
    · rw [e, Nat.mul_zero] at hl; omega
    · exact e
  have per : ∀ x, at_ w (x + (p' + q')) = at_ w x := fun x => by
    -- read from i on
    have e0 : ∀ j, at_ w (i + j) = letter (g * p') (g * q') j := hr
    have pj : ∀ j, letter (g * p') (g * q') (j + (p' + q')) = letter (g * p') (g * q') j := fun j => by
      unfold letter rest
      have : (j + (p' + q')) * (g * q') % (g * p' + g * q') = j * (g * q') % (g * p' + g * q') := by
        rw [Nat.add_mul, ← Nat.mul_add g p' q', show (p' + q') * (g * q') = g * (p' + q') * q' by rw [← Nat.mul_assoc, Nat.mul_comm (p' + q') g], Nat.add_mul_mod_self_left]
      rw [this]
    have z := at_turns w x i
    have z2 := at_turns w (x + (p' + q')) i
    obtain ⟨m, hm⟩ : ∃ m, w.length = m + 1 := ⟨w.length - 1, by omega⟩
    have ex : x + i * w.length = i + (x + i * m) := by rw [hm, Nat.mul_add, Nat.mul_one]; omega
    have ex2 : x + (p' + q') + i * w.length = i + (x + i * m + (p' + q')) := by rw [hm, Nat.mul_add, Nat.mul_one]; omega
    rw [← z2, ← z, ex, ex2, e0, e0, pj]
  rw [hm, pow_of hm1 per g (by rw [hl]; exact Nat.le_refl _), ← hl, List.take_length]
/-- a power's counts have its exponent as divisor -/
theorem power_count (c : Nat) (l : List Nat) : ∀ k, ((List.replicate k l).flatten).count c = k * l.count c ∧ ((List.replicate k l).flatten).length = k * l.length
  | 0 => by simp
  | k + 1 => by
    obtain ⟨h1, h2⟩ := power_count c l k
    rw [List.replicate_succ, List.flatten_cons, List.count_append, List.length_append, h1, h2, Nat.add_mul, Nat.add_mul]
    omega
end Lw

set_option Elab.async false
set_option linter.all false
set_option maxHeartbeats 1000000
/-! WoD: the two ways of asking whether a word is straight agree -/
namespace Lw
open Mi
theorem pre_P {w : List Nat} (h : 1 ≤ w.length) : ∀ i, i ≤ 2 * w.length → pre (w ++ w) i = P w i
  | 0, _ => rfl
  | i + 1, hi => by
    have hl : i < (w ++ w).length := by rw [List.length_append]; omega
    have e : (w ++ w)[i]? = some (at_ w i) := by
      unfold at_
      by_cases c : i < w.length
      · rw [List.getElem?_append_left c, Nat.mod_eq_of_lt c, List.getElem?_eq_getElem c]; rfl
      · have c2 : i - w.length < w.length := by omega
        rw [List.getElem?_append_right (by omega), Nat.mod_eq_sub_mod (by omega), Nat.mod_eq_of_lt c2, List.getElem?_eq_getElem c2]; rfl
    rw [pre_succ e, pre_P h i (by omega)]
    show P w i + _ = P w i + lt w i
    rw [lt_at h]
theorem win_P {w : List Nat} (h : 1 ≤ w.length) {a s : Nat} (ha : a + s ≤ 2 * w.length) : (((((w ++ w).drop a).take s).count 114 : Nat) : Int) = P w (a + s) - P w a := by
  rw [← win_eq, pre_P h _ ha, pre_P h _ (by omega)]
theorem spread_le {is : List Int} (hne : is ≠ []) : spread is ≤ 1 ↔ ∀ x ∈ is, ∀ y ∈ is, x - y ≤ 1 := by
  cases is with
  | nil => exact absurd rfl hne
  | cons i r =>
    obtain ⟨a1, a2, a3⟩ := maxI_mem r i
    obtain ⟨b1, b2, b3⟩ := minI_mem r i
    have mx : maxI i r ∈ i :: r := by rcases a1 with e | e; rw [e]; exact List.mem_cons_self; exact List.mem_cons_of_mem _ e
    have mn : minI i r ∈ i :: r := by rcases b1 with e | e; rw [e]; exact List.mem_cons_self; exact List.mem_cons_of_mem _ e
    constructor
    · intro h x hx y hy
      have h' : maxI i r - minI i r ≤ 1 := h
      have ux : x ≤ maxI i r := by
        rcases List.mem_cons.mp hx with e | e
        · rw [e]; exact a2
        · exact a3 x e
      have ly : minI i r ≤ y := by
        rcases List.mem_cons.mp hy with e | e
        · rw [e]; exact b2
        · exact b3 y e
      omega
    · intro h
      exact h _ mx _ mn
theorem wins_ne {cs : List Nat} {n s : Nat} (h : 1 ≤ n) : winsB cs n s ≠ [] := by
  intro e
  have := congrArg List.length e
  unfold winsB at this
  rw [List.length_map, List.length_range] at this
  simp at this
  omega
theorem evenR_bal {w : List Nat} (h : 1 ≤ w.length) : evenR w = true ↔ Bal w := by
  unfold evenR
  rw [List.all_eq_true]
  constructor
  · intro hs s a b h1 h2 ha hb
    have := of_decide_eq_true (hs (s - 1) (List.mem_range.mpr (by omega)))
    rw [show s - 1 + 1 = s by omega] at this
    have := (spread_le (wins_ne h)).mp this _ (List.mem_map.mpr ⟨a, List.mem_range.mpr ha, rfl⟩) _ (List.mem_map.mpr ⟨b, List.mem_range.mpr hb, rfl⟩)
    rw [win_P h (by omega), win_P h (by omega)] at this
    omega
  · intro hb i hi
    have hi' := List.mem_range.mp hi
    refine decide_eq_true ((spread_le (wins_ne h)).mpr fun x hx y hy => ?_)
    obtain ⟨a, ha, rfl⟩ := List.mem_map.mp hx
    obtain ⟨b, hb', rfl⟩ := List.mem_map.mp hy
    rw [win_P h (by have := List.mem_range.mp ha; omega), win_P h (by have := List.mem_range.mp hb'; omega)]
    have := hb (i + 1) a b (by omega) (by omega) (List.mem_range.mp ha) (List.mem_range.mp hb')
    omega
/-- w, read from a on -/
theorem turned_eq {w : List Nat} (h : 1 ≤ w.length) {a : Nat} (ha : a < w.length) : ((w ++ w).drop a).take w.length = (List.range w.length).map fun j => at_ w (a + j) := by
  apply List.ext_getElem?
  intro j
  by_cases hj : j < w.length
  · rw [List.getElem?_take_of_lt hj, List.getElem?_drop, List.getElem?_map, List.getElem?_range hj]
    show _ = some (at_ w (a + j))
    unfold at_
    by_cases c : a + j < w.length
    · rw [List.getElem?_append_left c, Nat.mod_eq_of_lt c, List.getElem?_eq_getElem c]; rfl
    · have c2 : a + j - w.length < w.length := by omega
      rw [List.getElem?_append_right (by omega), Nat.mod_eq_sub_mod (by omega), Nat.mod_eq_of_lt c2, List.getElem?_eq_getElem c2]; rfl
  · rw [List.getElem?_eq_none (by rw [List.length_take, List.length_drop, List.length_append]; omega), List.getElem?_eq_none (by rw [List.length_map, List.length_range]; omega)]
/-- the low word of w's counts -/
def lowOf (w : List Nat) : List Nat := low (w.count 114) (w.length - w.count 114)
def Str1 (w : List Nat) : Prop := Nat.gcd (w.count 114) (w.length - w.count 114) = 1 ∧ ∃ a, a < w.length ∧ ((w ++ w).drop a).take w.length = lowOf w
theorem parts_head {w : List Nat} (h : 1 ≤ w.length) : (parts w).head? = some w.length ↔ ∀ s, 1 ≤ s → s < w.length → (List.replicate (w.length / s) (w.take s)).flatten ≠ w := by
  unfold parts
  obtain ⟨n, hn⟩ : ∃ n, w.length = n + 1 := ⟨w.length - 1, by omega⟩
  constructor
  · intro hh s h1 h2 he
    rw [hn, List.range_succ, List.map_append, List.filter_append] at hh
    have : s ∈ ((List.range n).map (· + 1)).filter fun s => decide ((List.replicate ((n + 1) / s) (w.take s)).flatten = w) := by
      rw [List.mem_filter]
      exact ⟨List.mem_map.mpr ⟨s - 1, List.mem_range.mpr (by omega), by omega⟩, decide_eq_true (by rw [← hn]; exact he)⟩
    generalize hq : ((List.range n).map (· + 1)).filter (fun s => decide ((List.replicate ((n + 1) / s) (w.take s)).flatten = w)) = l at this hh
    cases l with
    | nil => cases this
    | cons x r =>
      have hx : x ∈ x :: r := List.mem_cons_self
      rw [← hq, List.mem_filter] at hx
      obtain ⟨⟨y, hy, rfl⟩, _⟩ := And.imp_left List.mem_map.mp hx
      have hy' := List.mem_range.mp hy
      have e : some (y + 1) = some (n + 1) := hh
      have := Option.some.inj e
      omega
  · intro hs
    rw [hn, List.range_succ, List.map_append, List.filter_append]
    have e1 : ((List.range n).map (· + 1)).filter (fun s => decide ((List.replicate ((n + 1) / s) (w.take s)).flatten = w)) = [] := by
      rw [List.filter_eq_nil_iff]
      intro s hs'
      obtain ⟨y, hy, rfl⟩ := List.mem_map.mp hs'
      have hy' := List.mem_range.mp hy
      rw [decide_eq_true_eq, ← hn]
      exact hs _ (by omega) (by omega)
    have e2 : ([n].map (· + 1)).filter (fun s => decide ((List.replicate ((n + 1) / s) (w.take s)).flatten = w)) = [n + 1] := by
      show List.filter _ [n + 1] = _
      rw [List.filter_cons_of_pos]
      · rfl
      · rw [decide_eq_true_eq, Nat.div_self (by omega), ← hn, List.take_length]
        simp
    rw [e1, e2]
    rfl
theorem straight_iff {w : List Nat} (h : 1 ≤ w.length) (hr : Ru w) : straightB w = true ↔ Str1 w := by
  have hc := List.count_le_length (a := 114) (l := w)
  have hn : w.length = w.count 114 + (w.length - w.count 114) := by omega
  unfold straightB
  rw [Bool.and_eq_true, evenR_bal h, decide_eq_true_eq, parts_head h]
  constructor
  · rintro ⟨hb, hp⟩
    obtain ⟨i, hi, he⟩ := bal_low h hr hb
    refine ⟨?_, i, hi, by rw [turned_eq h hi, he]; rfl⟩
    apply Classical.byContradiction
    intro hg
    have g0 : Nat.gcd (w.count 114) (w.length - w.count 114) ≠ 0 := by
      intro z
      obtain ⟨z1, z2⟩ := Nat.gcd_eq_zero_iff.mp z
      omega
    have d1 := Nat.gcd_dvd_left (w.count 114) (w.length - w.count 114)
    have d2 := Nat.gcd_dvd_right (w.count 114) (w.length - w.count 114)
    have pw := rot_power h hn (rot_of h hn he) (g := Nat.gcd (w.count 114) (w.length - w.count 114)) (by omega) d1 d2
    generalize Nat.gcd (w.count 114) (w.length - w.count 114) = g at *
    have dn : g ∣ w.length := by rw [hn]; exact Nat.dvd_add d1 d2
    obtain ⟨m, hm⟩ := dn
    have hm1 : w.length / g = m := by rw [hm, Nat.mul_div_cancel_left _ (by omega)]
    have m1 : 1 ≤ m := by
      rcases Nat.eq_zero_or_pos m with e | e
      · rw [e, Nat.mul_zero] at hm; omega
      · exact e
    have hgm : w.length / m = g := by rw [hm, Nat.mul_div_cancel _ (by omega)]
    refine hp m m1 ?_ ?_
    · rw [hm]
      have : 2 * m ≤ g * m := Nat.mul_le_mul_right m (by omega)
      omega
    · rw [hgm, ← hm1]; exact pw
  · rintro ⟨hg, i, hi, he⟩
    rw [turned_eq h hi] at he
    refine ⟨rot_bal h hn rfl (rot_of h hn he), fun s h1 h2 hpw => ?_⟩
    obtain ⟨c1, c2⟩ := power_count 114 (w.take s) (w.length / s)
    rw [hpw] at c1 c2
    have k2 : 2 ≤ w.length / s := by
      rw [List.length_take, Nat.min_eq_left (by omega)] at c2
      apply Classical.byContradiction
      intro z
      have : w.length / s * s ≤ 1 * s := Nat.mul_le_mul_right s (by omega)
      omega
    have d1 : w.length / s ∣ w.count 114 := ⟨_, c1⟩
    have d2 : w.length / s ∣ w.length := ⟨_, c2⟩
    have d3 : w.length / s ∣ w.length - w.count 114 := Nat.dvd_sub d2 d1
    have := Nat.dvd_gcd d1 d3
    rw [hg] at this
    have := Nat.le_of_dvd (by decide) this
    omega
end Lw

set_option Elab.async false
set_option linter.all false
set_option maxRecDepth 100000
set_option maxHeartbeats 0
namespace K86
open PySem PySem.Spec PyProof.Rows L2 Mi
/-! ### the text -/
def top (i : Nat) : Stmt := PySem.Challenge.pw_gluedsquares_k86_whole_straight_words_an.main.body.getD i (.Pass ⟨0, 0, 0, 0⟩)
def f0 : Fn := ⟨"share_of", top 8, ["one", "other"], ["one", "other"]⟩
def f1 : Fn := ⟨"low_steps", top 9, ["over", "up", "letters", "values", "here", "_"], ["over", "up"]⟩
def f2 : Fn := ⟨"low_in", top 10, ["over", "up"], ["over", "up"]⟩
def f3 : Fn := ⟨"counts_in", top 11, ["word", "many", ".0", "letter"], ["word"]⟩
def f4 : Fn := ⟨"first_in", top 12, ["word", "over", "up", "low", "twice", "at"], ["word"]⟩
def f5 : Fn := ⟨"sums_in", top 13, ["word", "found", "letter"], ["word"]⟩
def f6 : Fn := ⟨"extremes", top 14, ["sums", "size", "many", "counts", "least", "most", ".0", "at"], ["sums", "size", "many"]⟩
def f7 : Fn := ⟨"uneven_in", top 15, ["word", "sums", "size", "differ", "one", "other"], ["word"]⟩
def f8 : Fn := ⟨"part_again", top 16, ["word", "size"], ["word"]⟩
def f9 : Fn := ⟨"is_index", top 17, ["value", "many"], ["value", "many"]⟩
def f10 : Fn := ⟨"is_uneven", top 18, ["word", "one", "other", "size", "many", "sums"], ["word", "one", "other", "size"]⟩
def f11 : Fn := ⟨"is_again", top 19, ["word", "size"], ["word", "size"]⟩
def f12 : Fn := ⟨"is_low_from", top 20, ["word", "first", "over", "up"], ["word", "first"]⟩
def f13 : Fn := ⟨"require_step_word", top 21, ["word", ".0", "letter"], ["word"]⟩
def f14 : Fn := ⟨"is_straight", top 22, ["word"], ["word"]⟩
def f15 : Fn := ⟨"slope_of", top 23, ["word"], ["word"]⟩
def f16 : Fn := ⟨"straight_paper", top 24, ["word", "first", "size"], ["word"]⟩
def f17 : Fn := ⟨"is_straight_paper", top 25, ["word", "value"], ["word", "value"]⟩
def f18 : Fn := ⟨"_law_dice", top 27, ["script", "spot", "cell", "great", "seed"], ["script", "spot"]⟩
def f19 : Fn := ⟨"_law_roll", top 28, ["dice", "total", "found", "one", "two"], ["dice", "total"]⟩
def f20 : Fn := ⟨"_law_pick", top 29, ["dice", "items"], ["dice", "items"]⟩
def f21 : Fn := ⟨"_law_is_int", top 30, ["value"], ["value"]⟩
def f22 : Fn := ⟨"_law_gcd", top 31, ["one", "other"], ["one", "other"]⟩
def f23 : Fn := ⟨"_law_low", top 32, ["over", "up", "many", ".0", "at"], ["over", "up"]⟩
def f24 : Fn := ⟨"_law_is_round_even", top 33, ["word", "many", "size", "counts", ".0", "at"], ["word"]⟩
def f25 : Fn := ⟨"_law_is_straight", top 34, ["word"], ["word"]⟩
def f26 : Fn := ⟨"_law_wd_slope", top 35, ["dice", "most", "over", "up"], ["dice", "most"]⟩
def f27 : Fn := ⟨"_law_wd_part", top 36, ["word", ".0", "size"], ["word"]⟩
def f28 : Fn := ⟨"_law_some", top 37, ["dice", "way", "at", "over", "up", "word", ".0"], ["dice"]⟩
def f29 : Fn := ⟨"_law_is_paper", top 38, ["word", "value", "many", "turned", "counts", ".0", "one", "at"], ["word", "value"]⟩
def f30 : Fn := ⟨"_law_near", top 39, ["dice", "word", "paper", "many", "drawn", "found", ".0", "size"], ["dice", "word", "paper"]⟩
def f31 : Fn := ⟨"_law_right", top 40, ["dice", "word", "is_one", "paper", "value", "told"], ["dice"]⟩
def f32 : Fn := ⟨"law", top 41, ["script", "spot", "dice", "turn"], ["script"]⟩
def fs : List Fn := ([f0, f1, f2, f3, f4, f5, f6, f7, f8, f9, f10, f11, f12, f13, f14, f15, f16, f17, f18, f19] : List Fn) ++ ([f20, f21, f22, f23, f24, f25, f26, f27, f28, f29, f30, f31, f32] : List Fn)
def gl : List (Str × G) := ([("share_of", .fn 0), ("low_steps", .fn 1), ("low_in", .fn 2), ("counts_in", .fn 3), ("first_in", .fn 4), ("sums_in", .fn 5), ("extremes", .fn 6), ("uneven_in", .fn 7), ("part_again", .fn 8), ("is_index", .fn 9), ("is_uneven", .fn 10), ("is_again", .fn 11), ("is_low_from", .fn 12), ("require_step_word", .fn 13), ("is_straight", .fn 14)] : List (Str × G)) ++ ([("slope_of", .fn 15), ("straight_paper", .fn 16), ("is_straight_paper", .fn 17), ("_law_dice", .fn 18), ("_law_roll", .fn 19), ("_law_pick", .fn 20), ("_law_is_int", .fn 21), ("_law_gcd", .fn 22), ("_law_low", .fn 23), ("_law_is_round_even", .fn 24), ("_law_is_straight", .fn 25), ("_law_wd_slope", .fn 26), ("_law_wd_part", .fn 27), ("_law_some", .fn 28), ("_law_is_paper", .fn 29)] : List (Str × G)) ++ ([("_law_near", .fn 30), ("_law_right", .fn 31), ("law", .fn 32), ("MOST_LETTERS", .con (.int 2000)), ("STRAIGHT", .con (.str [115, 116, 114, 97, 105, 103, 104, 116])), ("UNEVEN", .con (.str [117, 110, 101, 118, 101, 110])), ("AGAIN", .con (.str [97, 103, 97, 105, 110])), ("range", .rng), ("len", .bi .len), ("int", .bi .int), ("min", .bi .min), ("max", .bi .max), ("isinstance", .bi .isi), ("bool", .ty "bool"), ("abs", .bi .abs)] : List (Str × G)) ++ ([("str", .ty "str"), ("all", .bi .all), ("tuple", .bi .tuple), ("list", .bi .list), ("GluedError", .exc), ("InvalidOperation", .exc)] : List (Str × G))
def exs : List (Str × List Str × List Str) := [("GluedError", ["GluedError", "InvalidOperation"], []), ("InvalidOperation", ["InvalidOperation"], ["GluedError"])]
/-- share_of -/
def d0 : Df := ⟨2, 2, (.cons (.whl (.cmp .ne (.v 1) (.c (.int 0))) (.cons (.par2 0 1 (.v 1) (.bin .mod (.v 0) (.v 1))) .nil)) (.cons (.ret (.v 0)) .nil))⟩
/-- low_steps -/
def d1 : Df := ⟨2, 6, (.cons (.par3 2 3 4 (.lst .nil) (.lst .nil) (.c (.int 0))) (.cons (.for_ (.nm 5) (.rng1 (.bin .add (.v 0) (.v 1))) (.cons (.iff (.cmp .lt (.v 4) (.v 0)) (.cons (.ex (.mt .append (.v 2) (.cons (.c (.str [114])) .nil))) (.cons (.aug 4 .add (.v 1)) .nil)) (.cons (.ex (.mt .append (.v 2) (.cons (.c (.str [117])) .nil))) (.cons (.aug 4 .sub (.v 0)) .nil))) (.cons (.ex (.mt .append (.v 3) (.cons (.v 4) .nil))) .nil))) (.cons (.ret (.tup (.cons (.mt .join (.c (.str [])) (.cons (.v 2) .nil)) (.cons (.v 3) .nil)))) .nil)))⟩
/-- low_in -/
def d2 : Df := ⟨2, 2, (.cons (.ret (.ix (.call 1 (.cons (.v 0) (.cons (.v 1) .nil))) (.c (.int 0)))) .nil)⟩
/-- counts_in -/
def d3 : Df := ⟨1, 4, (.cons (.asg (.n (.nm 1)) (.bi .len (.cons (.lc (.nm 3) (.of (.v 0)) (.cons (.cmp .eq (.v 3) (.c (.str [114]))) .nil) (.v 3) [2, 3]) .nil))) (.cons (.ret (.tup (.cons (.v 1) (.cons (.bin .sub (.bi .len (.cons (.v 0) .nil)) (.v 1)) .nil)))) .nil))⟩
/-- first_in -/
def d4 : Df := ⟨1, 6, (.cons (.asg (.n (.tup (.cons (.nm 1) (.cons (.nm 2) .nil)))) (.call 3 (.cons (.v 0) .nil))) (.cons (.iff (.cmp .ne (.call 0 (.cons (.v 1) (.cons (.v 2) .nil))) (.c (.int 1))) (.cons (.ret (.c .non)) .nil) .nil) (.cons (.par2 3 4 (.call 2 (.cons (.v 1) (.cons (.v 2) .nil))) (.bin .add (.v 0) (.v 0))) (.cons (.for_ (.nm 5) (.rng1 (.bi .len (.cons (.v 0) .nil))) (.cons (.iff (.cmp .eq (.sl (.v 4) (.cons (.v 5) .nil) (.cons (.bin .add (.v 5) (.bi .len (.cons (.v 0) .nil))) .nil)) (.v 3)) (.cons (.ret (.v 5)) .nil) .nil) .nil)) (.cons (.ret (.c .non)) .nil)))))⟩
/-- sums_in -/
def d5 : Df := ⟨1, 3, (.cons (.asg (.n (.nm 1)) (.lst (.cons (.c (.int 0)) .nil))) (.cons (.for_ (.nm 2) (.of (.v 0)) (.cons (.ex (.mt .append (.v 1) (.cons (.bin .add (.ix (.v 1) (.neg (.c (.int 1)))) (.bi .int (.cons (.cmp .eq (.v 2) (.c (.str [114]))) .nil))) .nil))) .nil)) (.cons (.ret (.v 1)) .nil)))⟩
/-- extremes -/
def d6 : Df := ⟨3, 8, (.cons (.asg (.n (.nm 3)) (.lc (.nm 7) (.rng1 (.v 2)) .nil (.bin .sub (.ix (.v 0) (.bin .add (.v 7) (.v 1))) (.ix (.v 0) (.v 7))) [6, 7])) (.cons (.par2 4 5 (.bi .min (.cons (.v 3) .nil)) (.bi .max (.cons (.v 3) .nil))) (.cons (.ret (.tup (.cons (.bin .sub (.v 5) (.v 4)) (.cons (.mt .index (.v 3) (.cons (.v 4) .nil)) (.cons (.mt .index (.v 3) (.cons (.v 5) .nil)) .nil))))) .nil)))⟩
/-- uneven_in -/
def d7 : Df := ⟨1, 6, (.cons (.asg (.n (.nm 1)) (.call 5 (.cons (.bin .add (.v 0) (.v 0)) .nil))) (.cons (.for_ (.nm 2) (.rng2 (.c (.int 1)) (.bin .add (.bi .len (.cons (.v 0) .nil)) (.c (.int 1)))) (.cons (.asg (.n (.tup (.cons (.nm 3) (.cons (.nm 4) (.cons (.nm 5) .nil))))) (.call 6 (.cons (.v 1) (.cons (.v 2) (.cons (.bi .len (.cons (.v 0) .nil)) .nil))))) (.cons (.iff (.cmp .gt (.v 3) (.c (.int 1))) (.cons (.ret (.tup (.cons (.v 4) (.cons (.v 5) (.cons (.v 2) .nil))))) .nil) .nil) .nil))) (.cons (.ret (.c .non)) .nil)))⟩
/-- part_again -/
def d8 : Df := ⟨1, 2, (.cons (.for_ (.nm 1) (.rng2 (.c (.int 1)) (.bi .len (.cons (.v 0) .nil))) (.cons (.iff (.and (.cmp .eq (.bin .mod (.bi .len (.cons (.v 0) .nil)) (.v 1)) (.c (.int 0))) (.cmp .eq (.v 0) (.bin .mul (.sl (.v 0) .nil (.cons (.v 1) .nil)) (.bin .div (.bi .len (.cons (.v 0) .nil)) (.v 1))))) (.cons (.ret (.v 1)) .nil) .nil) .nil)) (.cons (.ret (.c .non)) .nil))⟩
/-- is_index -/
def d9 : Df := ⟨2, 2, (.cons (.ret (.and (.bi .isi (.cons (.v 0) (.cons (.c (.ty "int")) .nil))) (.and (.no (.bi .isi (.cons (.v 0) (.cons (.c (.ty "bool")) .nil)))) (.chn .le .lt (.c (.int 0)) (.v 0) (.v 1))))) .nil)⟩
/-- is_uneven -/
def d10 : Df := ⟨4, 6, (.cons (.asg (.n (.nm 4)) (.bi .len (.cons (.v 0) .nil))) (.cons (.iff (.or (.no (.call 9 (.cons (.v 1) (.cons (.v 4) .nil)))) (.or (.no (.call 9 (.cons (.v 2) (.cons (.v 4) .nil)))) (.or (.no (.call 9 (.cons (.v 3) (.cons (.bin .add (.v 4) (.c (.int 1))) .nil)))) (.cmp .eq (.v 3) (.c (.int 0)))))) (.cons (.ret (.c (.bl false))) .nil) .nil) (.cons (.asg (.n (.nm 5)) (.call 5 (.cons (.bin .add (.v 0) (.v 0)) .nil))) (.cons (.ret (.cmp .gt (.bi .abs (.cons (.bin .add (.bin .sub (.bin .sub (.ix (.v 5) (.bin .add (.v 1) (.v 3))) (.ix (.v 5) (.v 1))) (.ix (.v 5) (.bin .add (.v 2) (.v 3)))) (.ix (.v 5) (.v 2))) .nil)) (.c (.int 1)))) .nil))))⟩
/-- is_again -/
def d11 : Df := ⟨2, 2, (.cons (.iff (.or (.no (.call 9 (.cons (.v 1) (.cons (.bi .len (.cons (.v 0) .nil)) .nil)))) (.or (.cmp .eq (.v 1) (.c (.int 0))) (.cmp .ne (.bin .mod (.bi .len (.cons (.v 0) .nil)) (.v 1)) (.c (.int 0))))) (.cons (.ret (.c (.bl false))) .nil) .nil) (.cons (.ret (.cmp .eq (.v 0) (.bin .mul (.sl (.v 0) .nil (.cons (.v 1) .nil)) (.bin .div (.bi .len (.cons (.v 0) .nil)) (.v 1))))) .nil))⟩
/-- is_low_from -/
def d12 : Df := ⟨2, 4, (.cons (.asg (.n (.tup (.cons (.nm 2) (.cons (.nm 3) .nil)))) (.call 3 (.cons (.v 0) .nil))) (.cons (.iff (.or (.no (.call 9 (.cons (.v 1) (.cons (.bi .len (.cons (.v 0) .nil)) .nil)))) (.cmp .ne (.call 0 (.cons (.v 2) (.cons (.v 3) .nil))) (.c (.int 1)))) (.cons (.ret (.c (.bl false))) .nil) .nil) (.cons (.ret (.cmp .eq (.bin .add (.sl (.v 0) (.cons (.v 1) .nil) .nil) (.sl (.v 0) .nil (.cons (.v 1) .nil))) (.call 2 (.cons (.v 2) (.cons (.v 3) .nil))))) .nil)))⟩
/-- require_step_word -/
def d13 : Df := ⟨1, 3, (.cons (.iff (.or (.no (.bi .isi (.cons (.v 0) (.cons (.c (.ty "str")) .nil)))) (.or (.no (.chn .le .le (.c (.int 1)) (.bi .len (.cons (.v 0) .nil)) (.c (.int 2000)))) (.no (.bi .all (.cons (.lc (.nm 2) (.of (.v 0)) .nil (.cmp .isin (.v 2) (.c (.str [114, 117]))) [1, 2]) .nil))))) (.cons (.rai "InvalidOperation") .nil) .nil) .nil)⟩
/-- is_straight -/
def d14 : Df := ⟨1, 1, (.cons (.ex (.call 13 (.cons (.v 0) .nil))) (.cons (.ret (.cmp .notsame (.call 4 (.cons (.v 0) .nil)) (.c .non))) .nil))⟩
/-- slope_of -/
def d15 : Df := ⟨1, 1, (.cons (.ex (.call 13 (.cons (.v 0) .nil))) (.cons (.iff (.cmp .same (.call 4 (.cons (.v 0) .nil)) (.c .non)) (.cons (.rai "InvalidOperation") .nil) .nil) (.cons (.ret (.call 3 (.cons (.v 0) .nil))) .nil)))⟩
/-- straight_paper -/
def d16 : Df := ⟨1, 3, (.cons (.ex (.call 13 (.cons (.v 0) .nil))) (.cons (.par2 1 2 (.call 4 (.cons (.v 0) .nil)) (.call 8 (.cons (.v 0) .nil))) (.cons (.iff (.cmp .notsame (.v 1) (.c .non)) (.cons (.ret (.tup (.cons (.c (.str [115, 116, 114, 97, 105, 103, 104, 116])) (.cons (.v 1) .nil)))) .nil) .nil) (.cons (.ret (.ife (.cmp .notsame (.v 2) (.c .non)) (.tup (.cons (.c (.str [97, 103, 97, 105, 110])) (.cons (.v 2) .nil))) (.tup (.cons (.c (.str [117, 110, 101, 118, 101, 110])) (.star (.call 7 (.cons (.v 0) .nil)) .nil))))) .nil))))⟩
/-- is_straight_paper -/
def d17 : Df := ⟨2, 2, (.cons (.ex (.call 13 (.cons (.v 0) .nil))) (.cons (.iff (.or (.no (.bi .isi (.cons (.v 1) (.cons (.c (.ty "tuple")) .nil)))) (.or (.cmp .notin (.bi .len (.cons (.v 1) .nil)) (.tup (.cons (.c (.int 2)) (.cons (.c (.int 4)) .nil)))) (.no (.bi .isi (.cons (.ix (.v 1) (.c (.int 0))) (.cons (.c (.ty "str")) .nil)))))) (.cons (.ret (.c (.bl false))) .nil) .nil) (.cons (.iff (.and (.cmp .eq (.ix (.v 1) (.c (.int 0))) (.c (.str [117, 110, 101, 118, 101, 110]))) (.cmp .eq (.bi .len (.cons (.v 1) .nil)) (.c (.int 4)))) (.cons (.ret (.call 10 (.cons (.v 0) (.cons (.ix (.v 1) (.c (.int 1))) (.cons (.ix (.v 1) (.c (.int 2))) (.cons (.ix (.v 1) (.c (.int 3))) .nil)))))) .nil) .nil) (.cons (.iff (.and (.cmp .eq (.ix (.v 1) (.c (.int 0))) (.c (.str [97, 103, 97, 105, 110]))) (.cmp .eq (.bi .len (.cons (.v 1) .nil)) (.c (.int 2)))) (.cons (.ret (.call 11 (.cons (.v 0) (.cons (.ix (.v 1) (.c (.int 1))) .nil)))) .nil) .nil) (.cons (.ret (.and (.cmp .eq (.ix (.v 1) (.c (.int 0))) (.c (.str [115, 116, 114, 97, 105, 103, 104, 116]))) (.and (.cmp .eq (.bi .len (.cons (.v 1) .nil)) (.c (.int 2))) (.call 12 (.cons (.v 0) (.cons (.ix (.v 1) (.c (.int 1))) .nil)))))) .nil)))))⟩
/-- _law_dice -/
def d18 : Df := ⟨2, 5, (.cons (.asg (.n (.nm 2)) (.ife (.cmp .lt (.v 1) (.bi .len (.cons (.v 0) .nil))) (.bi .int (.cons (.ix (.v 0) (.v 1)) .nil)) (.bin .add (.bin .mul (.c (.int 151)) (.v 1)) (.c (.int 59))))) (.cons (.asg (.n (.nm 3)) (.bin .mod (.bi .int (.cons (.bi .abs (.cons (.v 2) .nil)) .nil)) (.bin .pow (.bin .pow (.c (.int 10)) (.c (.int 54))) (.c (.int 6))))) (.cons (.asg (.n (.nm 4)) (.bin .add (.bin .add (.bin .add (.bin .mul (.bin .mod (.v 3) (.c (.int 2305843009213693921))) (.c (.int 71))) (.bin .mul (.c (.int 751)) (.v 1))) (.bin .mul (.c (.int 41)) (.bi .int (.cons (.cmp .lt (.v 2) (.c (.int 0))) .nil)))) (.c (.int 31)))) (.cons (.ret (.lst (.cons (.bi .max (.cons (.c (.int 0)) (.cons (.bin .sub (.v 3) (.bin .pow (.c (.int 10)) (.c (.int 16)))) .nil))) (.cons (.v 4) (.cons (.c (.int 0)) .nil))))) .nil))))⟩
/-- _law_roll -/
def d19 : Df := ⟨2, 5, (.cons (.iff (.cmp .gt (.ix (.v 0) (.c (.int 0))) (.c (.int 0))) (.cons (.asg (.n (.nm 2)) (.bin .mod (.ix (.v 0) (.c (.int 0))) (.v 1))) (.cons (.asg (.sub (.v 0) (.c (.int 0))) (.bin .div (.ix (.v 0) (.c (.int 0))) (.v 1))) (.cons (.ret (.bi .int (.cons (.v 2) .nil))) .nil))) .nil) (.cons (.asg (.sub (.v 0) (.c (.int 2))) (.bin .add (.ix (.v 0) (.c (.int 2))) (.c (.int 1)))) (.cons (.asg (.n (.nm 3)) (.bin .mod (.bin .add (.ix (.v 0) (.c (.int 1))) (.bin .mul (.c (.int 86028157)) (.ix (.v 0) (.c (.int 2))))) (.c (.int 2305843009213693951)))) (.cons (.asg (.n (.nm 4)) (.bin .add (.bin .mul (.bin .mod (.bin .add (.bin .mul (.v 3) (.v 3)) (.bin .mul (.c (.int 181)) (.ix (.v 0) (.c (.int 2))))) (.c (.int 2305843009213693907))) (.c (.int 15485867))) (.v 3))) (.cons (.ret (.bin .mod (.bi .int (.cons (.bin .div (.v 4) (.c (.int 65579))) .nil)) (.v 1))) .nil)))))⟩
/-- _law_pick -/
def d20 : Df := ⟨2, 2, (.cons (.ret (.ix (.v 1) (.call 19 (.cons (.v 0) (.cons (.bi .len (.cons (.v 1) .nil)) .nil))))) .nil)⟩
/-- _law_is_int -/
def d21 : Df := ⟨1, 1, (.cons (.ret (.and (.bi .isi (.cons (.v 0) (.cons (.c (.ty "int")) .nil))) (.no (.bi .isi (.cons (.v 0) (.cons (.c (.ty "bool")) .nil)))))) .nil)⟩
/-- _law_gcd -/
def d22 : Df := ⟨2, 2, (.cons (.whl (.cmp .ne (.v 1) (.c (.int 0))) (.cons (.par2 0 1 (.v 1) (.bin .mod (.v 0) (.v 1))) .nil)) (.cons (.ret (.bi .abs (.cons (.v 0) .nil))) .nil))⟩
/-- _law_low -/
def d23 : Df := ⟨2, 5, (.cons (.asg (.n (.nm 2)) (.bin .add (.v 0) (.v 1))) (.cons (.ret (.mt .join (.c (.str [])) (.cons (.lc (.nm 4) (.rng1 (.v 2)) .nil (.ife (.cmp .lt (.bin .mod (.bin .mul (.v 4) (.v 1)) (.v 2)) (.v 0)) (.c (.str [114])) (.c (.str [117]))) [3, 4]) .nil))) .nil))⟩
/-- _law_is_round_even -/
def d24 : Df := ⟨1, 6, (.cons (.asg (.n (.nm 1)) (.bi .len (.cons (.v 0) .nil))) (.cons (.for_ (.nm 2) (.rng2 (.c (.int 1)) (.v 1)) (.cons (.asg (.n (.nm 3)) (.lc (.nm 5) (.rng1 (.v 1)) .nil (.mt .count (.sl (.bin .add (.v 0) (.v 0)) (.cons (.v 5) .nil) (.cons (.bin .add (.v 5) (.v 2)) .nil)) (.cons (.c (.str [114])) .nil)) [4, 5])) (.cons (.iff (.cmp .gt (.bin .sub (.bi .max (.cons (.v 3) .nil)) (.bi .min (.cons (.v 3) .nil))) (.c (.int 1))) (.cons (.ret (.c (.bl false))) .nil) .nil) .nil))) (.cons (.ret (.c (.bl true))) .nil)))⟩
/-- _law_is_straight -/
def d25 : Df := ⟨1, 1, (.cons (.ret (.and (.call 24 (.cons (.v 0) .nil)) (.cmp .eq (.call 27 (.cons (.v 0) .nil)) (.bi .len (.cons (.v 0) .nil))))) .nil)⟩
/-- _law_wd_slope -/
def d26 : Df := ⟨2, 4, (.cons (.par2 2 3 (.call 19 (.cons (.v 0) (.cons (.v 1) .nil))) (.call 19 (.cons (.v 0) (.cons (.v 1) .nil)))) (.cons (.iff (.cmp .eq (.v 3) (.c (.int 0))) (.cons (.ret (.tup (.cons (.c (.int 1)) (.cons (.c (.int 0)) .nil)))) .nil) .nil) (.cons (.whl (.cmp .ne (.call 22 (.cons (.v 2) (.cons (.v 3) .nil))) (.c (.int 1))) (.cons (.asg (.n (.nm 2)) (.bin .add (.v 2) (.c (.int 1)))) .nil)) (.cons (.ret (.tup (.cons (.v 2) (.cons (.v 3) .nil)))) .nil))))⟩
/-- _law_wd_part -/
def d27 : Df := ⟨1, 3, (.cons (.ret (.ix (.lc (.nm 2) (.rng2 (.c (.int 1)) (.bin .add (.bi .len (.cons (.v 0) .nil)) (.c (.int 1)))) (.cons (.cmp .eq (.bin .mul (.sl (.v 0) .nil (.cons (.v 2) .nil)) (.bin .div (.bi .len (.cons (.v 0) .nil)) (.v 2))) (.v 0)) .nil) (.v 2) [1, 2]) (.c (.int 0)))) .nil)⟩
/-- _law_some -/
def d28 : Df := ⟨1, 7, (.cons (.asg (.n (.nm 1)) (.call 19 (.cons (.v 0) (.cons (.c (.int 4)) .nil)))) (.cons (.iff (.cmp .eq (.v 1) (.c (.int 0))) (.cons (.ret (.mt .join (.c (.str [])) (.cons (.lc (.nm 2) (.rng1 (.bin .add (.c (.int 1)) (.call 19 (.cons (.v 0) (.cons (.c (.int 16)) .nil))))) .nil (.call 20 (.cons (.v 0) (.cons (.lst (.cons (.c (.str [114])) (.cons (.c (.str [117])) .nil))) .nil))) [6, 2]) .nil))) .nil) .nil) (.cons (.asg (.n (.tup (.cons (.nm 3) (.cons (.nm 4) .nil)))) (.call 26 (.cons (.v 0) (.cons (.c (.int 9)) .nil)))) (.cons (.asg (.n (.nm 5)) (.call 23 (.cons (.v 3) (.cons (.v 4) .nil)))) (.cons (.asg (.n (.nm 2)) (.call 19 (.cons (.v 0) (.cons (.bi .len (.cons (.v 5) .nil)) .nil)))) (.cons (.asg (.n (.nm 5)) (.bin .add (.sl (.v 5) (.cons (.v 2) .nil) .nil) (.sl (.v 5) .nil (.cons (.v 2) .nil)))) (.cons (.iff (.and (.cmp .eq (.v 1) (.c (.int 1))) (.cmp .gt (.bi .len (.cons (.v 5) .nil)) (.c (.int 1)))) (.cons (.asg (.n (.nm 2)) (.call 19 (.cons (.v 0) (.cons (.bin .sub (.bi .len (.cons (.v 5) .nil)) (.c (.int 1))) .nil)))) (.cons (.ret (.bin .add (.bin .add (.bin .add (.sl (.v 5) .nil (.cons (.v 2) .nil)) (.ix (.v 5) (.bin .add (.v 2) (.c (.int 1))))) (.ix (.v 5) (.v 2))) (.sl (.v 5) (.cons (.bin .add (.v 2) (.c (.int 2))) .nil) .nil))) .nil)) .nil) (.cons (.ret (.ife (.cmp .eq (.v 1) (.c (.int 2))) (.bin .mul (.v 5) (.bin .add (.c (.int 1)) (.call 19 (.cons (.v 0) (.cons (.c (.int 3)) .nil))))) (.v 5))) .nil))))))))⟩
/-- _law_is_paper -/
def d29 : Df := ⟨2, 8, (.cons (.iff (.or (.no (.bi .isi (.cons (.v 1) (.cons (.c (.ty "tuple")) .nil)))) (.or (.cmp .eq (.v 1) (.tup .nil)) (.no (.bi .isi (.cons (.ix (.v 1) (.c (.int 0))) (.cons (.c (.ty "str")) .nil)))))) (.cons (.ret (.c (.bl false))) .nil) .nil) (.cons (.asg (.n (.nm 2)) (.bi .len (.cons (.v 0) .nil))) (.cons (.iff (.cmp .ne (.lc (.nm 6) (.of (.sl (.v 1) (.cons (.c (.int 1)) .nil) .nil)) (.cons (.no (.call 21 (.cons (.v 6) .nil))) .nil) (.v 6) [5, 6]) (.lst .nil)) (.cons (.ret (.c (.bl false))) .nil) .nil) (.cons (.iff (.and (.cmp .eq (.ix (.v 1) (.c (.int 0))) (.c (.str [115, 116, 114, 97, 105, 103, 104, 116]))) (.and (.cmp .eq (.bi .len (.cons (.v 1) .nil)) (.c (.int 2))) (.chn .le .lt (.c (.int 0)) (.ix (.v 1) (.c (.int 1))) (.v 2)))) (.cons (.asg (.n (.nm 3)) (.bin .add (.sl (.v 0) (.cons (.ix (.v 1) (.c (.int 1))) .nil) .nil) (.sl (.v 0) .nil (.cons (.ix (.v 1) (.c (.int 1))) .nil)))) (.cons (.ret (.and (.call 25 (.cons (.v 0) .nil)) (.cmp .eq (.v 3) (.call 23 (.cons (.mt .count (.v 0) (.cons (.c (.str [114])) .nil)) (.cons (.mt .count (.v 0) (.cons (.c (.str [117])) .nil)) .nil)))))) .nil)) .nil) (.cons (.iff (.and (.cmp .eq (.ix (.v 1) (.c (.int 0))) (.c (.str [97, 103, 97, 105, 110]))) (.and (.cmp .eq (.bi .len (.cons (.v 1) .nil)) (.c (.int 2))) (.chn .lt .lt (.c (.int 0)) (.ix (.v 1) (.c (.int 1))) (.v 2)))) (.cons (.ret (.and (.cmp .eq (.bin .mod (.v 2) (.ix (.v 1) (.c (.int 1)))) (.c (.int 0))) (.cmp .eq (.bin .mul (.sl (.v 0) .nil (.cons (.ix (.v 1) (.c (.int 1))) .nil)) (.bin .div (.v 2) (.ix (.v 1) (.c (.int 1))))) (.v 0)))) .nil) .nil) (.cons (.iff (.or (.cmp .ne (.ix (.v 1) (.c (.int 0))) (.c (.str [117, 110, 101, 118, 101, 110]))) (.or (.cmp .ne (.bi .len (.cons (.v 1) .nil)) (.c (.int 4))) (.or (.no (.chn .le .lt (.c (.int 0)) (.ix (.v 1) (.c (.int 1))) (.v 2))) (.no (.chn .le .lt (.c (.int 0)) (.ix (.v 1) (.c (.int 2))) (.v 2)))))) (.cons (.ret (.c (.bl false))) .nil) .nil) (.cons (.asg (.n (.nm 4)) (.lc (.nm 7) (.of (.sl (.v 1) (.cons (.c (.int 1)) .nil) (.cons (.c (.int 3)) .nil))) .nil (.mt .count (.sl (.bin .add (.v 0) (.v 0)) (.cons (.v 7) .nil) (.cons (.bin .add (.v 7) (.ix (.v 1) (.c (.int 3)))) .nil)) (.cons (.c (.str [114])) .nil)) [5, 7])) (.cons (.ret (.and (.chn .le .le (.c (.int 1)) (.ix (.v 1) (.c (.int 3))) (.v 2)) (.cmp .gt (.bi .abs (.cons (.bin .sub (.ix (.v 4) (.c (.int 0))) (.ix (.v 4) (.c (.int 1)))) .nil)) (.c (.int 1))))) .nil))))))))⟩
/-- _law_near -/
def d30 : Df := ⟨3, 8, (.cons (.asg (.n (.nm 3)) (.bi .len (.cons (.v 1) .nil))) (.cons (.asg (.n (.nm 4)) (.tup (.cons (.c (.str [117, 110, 101, 118, 101, 110])) (.cons (.call 19 (.cons (.v 0) (.cons (.v 3) .nil))) (.cons (.call 19 (.cons (.v 0) (.cons (.v 3) .nil))) (.cons (.bin .add (.c (.int 1)) (.call 19 (.cons (.v 0) (.cons (.v 3) .nil)))) .nil)))))) (.cons (.asg (.n (.nm 5)) (.lst (.cons (.v 2) (.cons (.bi .list (.cons (.v 2) .nil)) (.cons (.sl (.v 2) .nil (.cons (.c (.int 1)) .nil)) (.cons (.bin .add (.v 2) (.tup (.cons (.c (.int 0)) .nil))) (.cons (.c .non) (.cons (.tup .nil) (.cons (.v 4) (.cons (.tup (.cons (.c (.str [115, 116, 114, 97, 105, 103, 104, 116])) (.cons (.call 19 (.cons (.v 0) (.cons (.v 3) .nil))) .nil))) .nil)))))))))) (.cons (.asg (.n (.nm 5)) (.bin .add (.v 5) (.lc (.nm 7) (.of (.tup (.cons (.c (.int 0)) (.cons (.c (.int 1)) (.cons (.c (.int 2)) (.cons (.c (.int 3)) (.cons (.v 3) (.cons (.c (.bl true)) (.cons (.c .non) .nil))))))))) .nil (.tup (.cons (.c (.str [97, 103, 97, 105, 110])) (.cons (.v 7) .nil))) [6, 7]))) (.cons (.asg (.n (.nm 5)) (.bin .add (.v 5) (.lst (.cons (.tup (.cons (.c (.str [115, 116, 114, 97, 105, 103, 104, 116])) (.cons (.v 3) .nil))) (.cons (.tup (.cons (.c (.str [115, 116, 114, 97, 105, 103, 104, 116])) (.cons (.neg (.c (.int 1))) .nil))) (.cons (.tup (.cons (.c (.str [115, 116, 114, 97, 105, 103, 104, 116])) (.cons (.c (.bl false)) .nil))) .nil)))))) (.cons (.ret (.bin .add (.v 5) (.lst (.cons (.tup (.cons (.c (.str [117, 110, 101, 118, 101, 110])) (.cons (.c (.int 0)) (.cons (.c (.int 1)) (.cons (.c (.int 0)) .nil))))) (.cons (.c (.str [115, 116, 114, 97, 105, 103, 104, 116])) (.cons (.tup (.cons (.c (.str [101, 118, 101, 110])) (.cons (.c (.int 0)) .nil))) .nil)))))) .nil))))))⟩
/-- _law_right -/
def d31 : Df := ⟨1, 6, (.cons (.asg (.n (.nm 1)) (.call 28 (.cons (.v 0) .nil))) (.cons (.asg (.n (.nm 2)) (.call 25 (.cons (.v 1) .nil))) (.cons (.iff (.cmp .ne (.call 14 (.cons (.v 1) .nil)) (.v 2)) (.cons (.ret (.c (.bl false))) .nil) .nil) (.cons (.asg (.n (.nm 3)) (.call 16 (.cons (.v 1) .nil))) (.cons (.iff (.or (.no (.call 29 (.cons (.v 1) (.cons (.v 3) .nil)))) (.cmp .ne (.cmp .eq (.ix (.v 3) (.c (.int 0))) (.c (.str [115, 116, 114, 97, 105, 103, 104, 116]))) (.v 2))) (.cons (.ret (.c (.bl false))) .nil) .nil) (.cons (.for_ (.nm 4) (.of (.call 30 (.cons (.v 0) (.cons (.v 1) (.cons (.v 3) .nil))))) (.cons (.iff (.cmp .ne (.call 17 (.cons (.v 1) (.cons (.v 4) .nil))) (.call 29 (.cons (.v 1) (.cons (.v 4) .nil)))) (.cons (.ret (.c (.bl false))) .nil) .nil) .nil)) (.cons (.tri (.cons (.asg (.n (.nm 5)) (.call 15 (.cons (.v 1) .nil))) .nil) (.cons ["InvalidOperation"] ["GluedError"] (.cons (.ret (.no (.v 2))) .nil) .nil)) (.cons (.ret (.and (.v 2) (.cmp .eq (.v 5) (.tup (.cons (.mt .count (.v 1) (.cons (.c (.str [114])) .nil)) (.cons (.mt .count (.v 1) (.cons (.c (.str [117])) .nil)) .nil)))))) .nil))))))))⟩
/-- law -/
def d32 : Df := ⟨1, 4, (.cons (.for_ (.nm 1) (.rng1 (.bi .max (.cons (.c (.int 1)) (.cons (.bi .min (.cons (.c (.int 5)) (.cons (.bi .len (.cons (.v 0) .nil)) .nil))) .nil)))) (.cons (.asg (.n (.nm 2)) (.call 18 (.cons (.v 0) (.cons (.v 1) .nil)))) (.cons (.for_ (.nm 3) (.rng1 (.c (.int 3))) (.cons (.iff (.no (.call 31 (.cons (.v 2) .nil))) (.cons (.ret (.c (.bl false))) .nil) .nil) .nil)) .nil))) (.cons (.ret (.and (.call 14 (.cons (.c (.str [114])) .nil)) (.and (.call 14 (.cons (.c (.str [117, 114])) .nil)) (.and (.no (.call 14 (.cons (.c (.str [114, 114])) .nil))) (.cmp .eq (.call 16 (.cons (.c (.str [114, 114])) .nil)) (.tup (.cons (.c (.str [97, 103, 97, 105, 110])) (.cons (.c (.int 1)) .nil)))))))) .nil))⟩
def ds : List Df := ([d0, d1, d2, d3, d4, d5, d6, d7, d8, d9, d10, d11, d12, d13, d14, d15, d16, d17, d18, d19] : List Df) ++ ([d20, d21, d22, d23, d24, d25, d26, d27, d28, d29, d30, d31, d32] : List Df)
theorem ok0 : f0.Ok gl exs d0 := ⟨⟨rfl, rfl, rfl, by decide +kernel, rfl, by decide +kernel, by decide +kernel⟩, ⟨60, by kernel_rfl⟩, rfl, rfl, fun _ _ _ _ _ _ us hl => match us, hl with | [_, _], _ => rfl⟩
theorem ok1 : f1.Ok gl exs d1 := ⟨⟨rfl, rfl, rfl, by decide +kernel, rfl, by decide +kernel, by decide +kernel⟩, ⟨60, by kernel_rfl⟩, rfl, rfl, fun _ _ _ _ _ _ us hl => match us, hl with | [_, _], _ => rfl⟩
theorem ok2 : f2.Ok gl exs d2 := ⟨⟨rfl, rfl, rfl, by decide +kernel, rfl, by decide +kernel, by decide +kernel⟩, ⟨60, by kernel_rfl⟩, rfl, rfl, fun _ _ _ _ _ _ us hl => match us, hl with | [_, _], _ => rfl⟩
theorem ok3 : f3.Ok gl exs d3 := ⟨⟨rfl, rfl, rfl, by decide +kernel, rfl, by decide +kernel, by decide +kernel⟩, ⟨60, by kernel_rfl⟩, rfl, rfl, fun _ _ _ _ _ _ us hl => match us, hl with | [_], _ => rfl⟩
theorem ok4 : f4.Ok gl exs d4 := ⟨⟨rfl, rfl, rfl, by decide +kernel, rfl, by decide +kernel, by decide +kernel⟩, ⟨60, by kernel_rfl⟩, rfl, rfl, fun _ _ _ _ _ _ us hl => match us, hl with | [_], _ => rfl⟩
theorem ok5 : f5.Ok gl exs d5 := ⟨⟨rfl, rfl, rfl, by decide +kernel, rfl, by decide +kernel, by decide +kernel⟩, ⟨60, by kernel_rfl⟩, rfl, rfl, fun _ _ _ _ _ _ us hl => match us, hl with | [_], _ => rfl⟩
theorem ok6 : f6.Ok gl exs d6 := ⟨⟨rfl, rfl, rfl, by decide +kernel, rfl, by decide +kernel, by decide +kernel⟩, ⟨60, by kernel_rfl⟩, rfl, rfl, fun _ _ _ _ _ _ us hl => match us, hl with | [_, _, _], _ => rfl⟩
theorem ok7 : f7.Ok gl exs d7 := ⟨⟨rfl, rfl, rfl, by decide +kernel, rfl, by decide +kernel, by decide +kernel⟩, ⟨60, by kernel_rfl⟩, rfl, rfl, fun _ _ _ _ _ _ us hl => match us, hl with | [_], _ => rfl⟩
theorem ok8 : f8.Ok gl exs d8 := ⟨⟨rfl, rfl, rfl, by decide +kernel, rfl, by decide +kernel, by decide +kernel⟩, ⟨60, by kernel_rfl⟩, rfl, rfl, fun _ _ _ _ _ _ us hl => match us, hl with | [_], _ => rfl⟩
theorem ok9 : f9.Ok gl exs d9 := ⟨⟨rfl, rfl, rfl, by decide +kernel, rfl, by decide +kernel, by decide +kernel⟩, ⟨60, by kernel_rfl⟩, rfl, rfl, fun _ _ _ _ _ _ us hl => match us, hl with | [_, _], _ => rfl⟩
theorem ok10 : f10.Ok gl exs d10 := ⟨⟨rfl, rfl, rfl, by decide +kernel, rfl, by decide +kernel, by decide +kernel⟩, ⟨60, by kernel_rfl⟩, rfl, rfl, fun _ _ _ _ _ _ us hl => match us, hl with | [_, _, _, _], _ => rfl⟩
theorem ok11 : f11.Ok gl exs d11 := ⟨⟨rfl, rfl, rfl, by decide +kernel, rfl, by decide +kernel, by decide +kernel⟩, ⟨60, by kernel_rfl⟩, rfl, rfl, fun _ _ _ _ _ _ us hl => match us, hl with | [_, _], _ => rfl⟩
theorem ok12 : f12.Ok gl exs d12 := ⟨⟨rfl, rfl, rfl, by decide +kernel, rfl, by decide +kernel, by decide +kernel⟩, ⟨60, by kernel_rfl⟩, rfl, rfl, fun _ _ _ _ _ _ us hl => match us, hl with | [_, _], _ => rfl⟩
theorem ok13 : f13.Ok gl exs d13 := ⟨⟨rfl, rfl, rfl, by decide +kernel, rfl, by decide +kernel, by decide +kernel⟩, ⟨60, by kernel_rfl⟩, rfl, rfl, fun _ _ _ _ _ _ us hl => match us, hl with | [_], _ => rfl⟩
theorem ok14 : f14.Ok gl exs d14 := ⟨⟨rfl, rfl, rfl, by decide +kernel, rfl, by decide +kernel, by decide +kernel⟩, ⟨60, by kernel_rfl⟩, rfl, rfl, fun _ _ _ _ _ _ us hl => match us, hl with | [_], _ => rfl⟩
theorem ok15 : f15.Ok gl exs d15 := ⟨⟨rfl, rfl, rfl, by decide +kernel, rfl, by decide +kernel, by decide +kernel⟩, ⟨60, by kernel_rfl⟩, rfl, rfl, fun _ _ _ _ _ _ us hl => match us, hl with | [_], _ => rfl⟩
theorem ok16 : f16.Ok gl exs d16 := ⟨⟨rfl, rfl, rfl, by decide +kernel, rfl, by decide +kernel, by decide +kernel⟩, ⟨60, by kernel_rfl⟩, rfl, rfl, fun _ _ _ _ _ _ us hl => match us, hl with | [_], _ => rfl⟩
theorem ok17 : f17.Ok gl exs d17 := ⟨⟨rfl, rfl, rfl, by decide +kernel, rfl, by decide +kernel, by decide +kernel⟩, ⟨60, by kernel_rfl⟩, rfl, rfl, fun _ _ _ _ _ _ us hl => match us, hl with | [_, _], _ => rfl⟩
theorem ok18 : f18.Ok gl exs d18 := ⟨⟨rfl, rfl, rfl, by decide +kernel, rfl, by decide +kernel, by decide +kernel⟩, ⟨60, by kernel_rfl⟩, rfl, rfl, fun _ _ _ _ _ _ us hl => match us, hl with | [_, _], _ => rfl⟩
theorem ok19 : f19.Ok gl exs d19 := ⟨⟨rfl, rfl, rfl, by decide +kernel, rfl, by decide +kernel, by decide +kernel⟩, ⟨60, by kernel_rfl⟩, rfl, rfl, fun _ _ _ _ _ _ us hl => match us, hl with | [_, _], _ => rfl⟩
theorem ok20 : f20.Ok gl exs d20 := ⟨⟨rfl, rfl, rfl, by decide +kernel, rfl, by decide +kernel, by decide +kernel⟩, ⟨60, by kernel_rfl⟩, rfl, rfl, fun _ _ _ _ _ _ us hl => match us, hl with | [_, _], _ => rfl⟩
theorem ok21 : f21.Ok gl exs d21 := ⟨⟨rfl, rfl, rfl, by decide +kernel, rfl, by decide +kernel, by decide +kernel⟩, ⟨60, by kernel_rfl⟩, rfl, rfl, fun _ _ _ _ _ _ us hl => match us, hl with | [_], _ => rfl⟩
theorem ok22 : f22.Ok gl exs d22 := ⟨⟨rfl, rfl, rfl, by decide +kernel, rfl, by decide +kernel, by decide +kernel⟩, ⟨60, by kernel_rfl⟩, rfl, rfl, fun _ _ _ _ _ _ us hl => match us, hl with | [_, _], _ => rfl⟩
theorem ok23 : f23.Ok gl exs d23 := ⟨⟨rfl, rfl, rfl, by decide +kernel, rfl, by decide +kernel, by decide +kernel⟩, ⟨60, by kernel_rfl⟩, rfl, rfl, fun _ _ _ _ _ _ us hl => match us, hl with | [_, _], _ => rfl⟩
theorem ok24 : f24.Ok gl exs d24 := ⟨⟨rfl, rfl, rfl, by decide +kernel, rfl, by decide +kernel, by decide +kernel⟩, ⟨60, by kernel_rfl⟩, rfl, rfl, fun _ _ _ _ _ _ us hl => match us, hl with | [_], _ => rfl⟩
theorem ok25 : f25.Ok gl exs d25 := ⟨⟨rfl, rfl, rfl, by decide +kernel, rfl, by decide +kernel, by decide +kernel⟩, ⟨60, by kernel_rfl⟩, rfl, rfl, fun _ _ _ _ _ _ us hl => match us, hl with | [_], _ => rfl⟩
theorem ok26 : f26.Ok gl exs d26 := ⟨⟨rfl, rfl, rfl, by decide +kernel, rfl, by decide +kernel, by decide +kernel⟩, ⟨60, by kernel_rfl⟩, rfl, rfl, fun _ _ _ _ _ _ us hl => match us, hl with | [_, _], _ => rfl⟩
theorem ok27 : f27.Ok gl exs d27 := ⟨⟨rfl, rfl, rfl, by decide +kernel, rfl, by decide +kernel, by decide +kernel⟩, ⟨60, by kernel_rfl⟩, rfl, rfl, fun _ _ _ _ _ _ us hl => match us, hl with | [_], _ => rfl⟩
theorem ok28 : f28.Ok gl exs d28 := ⟨⟨rfl, rfl, rfl, by decide +kernel, rfl, by decide +kernel, by decide +kernel⟩, ⟨60, by kernel_rfl⟩, rfl, rfl, fun _ _ _ _ _ _ us hl => match us, hl with | [_], _ => rfl⟩
theorem ok29 : f29.Ok gl exs d29 := ⟨⟨rfl, rfl, rfl, by decide +kernel, rfl, by decide +kernel, by decide +kernel⟩, ⟨60, by kernel_rfl⟩, rfl, rfl, fun _ _ _ _ _ _ us hl => match us, hl with | [_, _], _ => rfl⟩
theorem ok30 : f30.Ok gl exs d30 := ⟨⟨rfl, rfl, rfl, by decide +kernel, rfl, by decide +kernel, by decide +kernel⟩, ⟨60, by kernel_rfl⟩, rfl, rfl, fun _ _ _ _ _ _ us hl => match us, hl with | [_, _, _], _ => rfl⟩
theorem ok31 : f31.Ok gl exs d31 := ⟨⟨rfl, rfl, rfl, by decide +kernel, rfl, by decide +kernel, by decide +kernel⟩, ⟨60, by kernel_rfl⟩, rfl, rfl, fun _ _ _ _ _ _ us hl => match us, hl with | [_], _ => rfl⟩
theorem ok32 : f32.Ok gl exs d32 := ⟨⟨rfl, rfl, rfl, by decide +kernel, rfl, by decide +kernel, by decide +kernel⟩, ⟨60, by kernel_rfl⟩, rfl, rfl, fun _ _ _ _ _ _ us hl => match us, hl with | [_], _ => rfl⟩
theorem all_ok : AllOk gl exs fs ds := ⟨ok0, ok1, ok2, ok3, ok4, ok5, ok6, ok7, ok8, ok9, ok10, ok11, ok12, ok13, ok14, ok15, ok16, ok17, ok18, ok19, ok20, ok21, ok22, ok23, ok24, ok25, ok26, ok27, ok28, ok29, ok30, ok31, ok32, trivial⟩
theorem gl_ok : goodOf gl fs = true := by decide +kernel
end K86

set_option Elab.async false
set_option linter.all false
set_option maxRecDepth 100000
set_option maxHeartbeats 4000000
namespace K86
open Mi
variable {k : Nat} {S : Mem} {Q : D → Mem → Prop}
theorem is_index_ok (i m : Int) (h : Q (.bl (decide (0 ≤ i ∧ i < m))) S) : Wp (run ds (k + 1) 9 [.int i, .int m] S) Q := by
  refine wp_run (d := d9) rfl rfl ?_
  simp only [d9, we_c, we_v, we_bin, we_neg, we_cmp, we_chn, we_no, we_and, we_or, we_ife, we_tup, we_lst, we_ix, we_sl, we_bi, we_mt, we_call, we_lrg1, we_lrg2, we_lc, ws_nil, ws_cons, wo_nil, wo_cons, wt_nil, wt_cons, wi_rng1, wi_rng2, wi_rng3, wi_of, wi_int, wS_asgN, wS_asgT, wS_asgS, wS_par2, wS_par3, wS_aug, wS_ex, wS_ret, wS_retN, wS_iff, wS_pass, wS_brk, wS_cont, wS_never, wS_nil, wS_cons, wS_for, wS_whl, wF_nx, wF_rt, wF_bk, wF_ct, wv_some, wb_some, wc_some, wm_some, wz_bl, wE_some, wN_some, wo_some, wo_none, wo_ite, List.getElem?_cons_zero, List.getElem?_cons_succ, List.set_cons_zero, List.set_cons_succ, List.map_cons, List.map_nil, List.cons_append, List.nil_append, List.append_nil, List.replicate_succ, List.replicate_zero, List.length_cons, List.length_nil, Bop.f, Cop.f, Bi.f, Im.f, wl_some, wj_some, wa_some, wbs_some, add_ii, add_ss, add_rr, sub_ii, mul_ii, mul_si, div_ii, mod_ii, pow_ii, neg_i, eq_ii, ne_ii, eq_ss, ne_ss, lt_ii, le_ii, gt_ii, ge_ii, eq_bb, ne_bb, in_cs, tr_b, tr_i, ix_r, ix_t, ix_f, ix_s, sl_s, sl_r, set_r, len_s, len_r, len_f, len_t, abs_i, max_ii, min_ii, max_r, min_r, int_i, int_b, list_r, sum_r, all_r, isi_ii, isi_ib, isi_ss, aug_ii, aug_sub, sel_app, sel_index, sel_pop, sel_count, sel_join, app_r, count_s, wx_some, idx_r, wT_some, join_r, src_s, src_f, src_t, src_r, if_true, if_false, Bool.not_true, Bool.not_false, Bool.false_eq_true, decide_eq_true_eq]
  split <;> simp_all
theorem require_step_word_ok (cs : List Nat) (h1 : 1 ≤ cs.length) (h2 : cs.length ≤ 2000) (hc : ∀ c ∈ cs, c = 114 ∨ c = 117) (h : ∀ T, S <+: T → Q .non T) : Wp (run ds (k + 1) 13 [.str cs] S) Q := by
  refine wp_run (d := d13) rfl rfl ?_
  simp only [d13, we_c, we_v, we_bin, we_neg, we_cmp, we_chn, we_no, we_and, we_or, we_ife, we_tup, we_lst, we_ix, we_sl, we_bi, we_mt, we_call, we_lrg1, we_lrg2, we_lc, ws_nil, ws_cons, wo_nil, wo_cons, wt_nil, wt_cons, wi_rng1, wi_rng2, wi_rng3, wi_of, wi_int, wS_asgN, wS_asgT, wS_asgS, wS_par2, wS_par3, wS_aug, wS_ex, wS_ret, wS_retN, wS_iff, wS_pass, wS_brk, wS_cont, wS_never, wS_nil, wS_cons, wS_for, wS_whl, wF_nx, wF_rt, wF_bk, wF_ct, wv_some, wb_some, wc_some, wm_some, wz_bl, wE_some, wN_some, wo_some, wo_none, wo_ite, List.getElem?_cons_zero, List.getElem?_cons_succ, List.set_cons_zero, List.set_cons_succ, List.map_cons, List.map_nil, List.cons_append, List.nil_append, List.append_nil, List.replicate_succ, List.replicate_zero, List.length_cons, List.length_nil, Bop.f, Cop.f, Bi.f, Im.f, wl_some, wj_some, wa_some, wbs_some, add_ii, add_ss, add_rr, sub_ii, mul_ii, mul_si, div_ii, mod_ii, pow_ii, neg_i, eq_ii, ne_ii, eq_ss, ne_ss, lt_ii, le_ii, gt_ii, ge_ii, eq_bb, ne_bb, in_cs, tr_b, tr_i, ix_r, ix_t, ix_f, ix_s, sl_s, sl_r, set_r, len_s, len_r, len_f, len_t, abs_i, max_ii, min_ii, max_r, min_r, int_i, int_b, list_r, sum_r, all_r, isi_ii, isi_ib, isi_ss, aug_ii, aug_sub, sel_app, sel_index, sel_pop, sel_count, sel_join, app_r, count_s, wx_some, idx_r, wT_some, join_r, src_s, src_f, src_t, src_r, if_true, if_false, Bool.not_true, Bool.not_false, Bool.false_eq_true, decide_eq_true_eq]
  rw [if_pos (line_of (by omega)), if_pos (by omega), decide_eq_true (show ((cs.length : Nat) : Int) ≤ 2000 by omega)]
  simp only [we_c, we_v, we_bin, we_neg, we_cmp, we_chn, we_no, we_and, we_or, we_ife, we_tup, we_lst, we_ix, we_sl, we_bi, we_mt, we_call, we_lrg1, we_lrg2, we_lc, ws_nil, ws_cons, wo_nil, wo_cons, wt_nil, wt_cons, wi_rng1, wi_rng2, wi_rng3, wi_of, wi_int, wS_asgN, wS_asgT, wS_asgS, wS_par2, wS_par3, wS_aug, wS_ex, wS_ret, wS_retN, wS_iff, wS_pass, wS_brk, wS_cont, wS_never, wS_nil, wS_cons, wS_for, wS_whl, wF_nx, wF_rt, wF_bk, wF_ct, wv_some, wb_some, wc_some, wm_some, wz_bl, wE_some, wN_some, wo_some, wo_none, wo_ite, List.getElem?_cons_zero, List.getElem?_cons_succ, List.set_cons_zero, List.set_cons_succ, List.map_cons, List.map_nil, List.cons_append, List.nil_append, List.append_nil, List.replicate_succ, List.replicate_zero, List.length_cons, List.length_nil, Bop.f, Cop.f, Bi.f, Im.f, wl_some, wj_some, wa_some, wbs_some, add_ii, add_ss, add_rr, sub_ii, mul_ii, mul_si, div_ii, mod_ii, pow_ii, neg_i, eq_ii, ne_ii, eq_ss, ne_ss, lt_ii, le_ii, gt_ii, ge_ii, eq_bb, ne_bb, in_cs, tr_b, tr_i, ix_r, ix_t, ix_f, ix_s, sl_s, sl_r, set_r, len_s, len_r, len_f, len_t, abs_i, max_ii, min_ii, max_r, min_r, int_i, int_b, list_r, sum_r, all_r, isi_ii, isi_ib, isi_ss, aug_ii, aug_sub, sel_app, sel_index, sel_pop, sel_count, sel_join, app_r, count_s, wx_some, idx_r, wT_some, join_r, src_s, src_f, src_t, src_r, if_true, if_false, Bool.not_true, Bool.not_false, Bool.false_eq_true, decide_eq_true_eq]
  refine wp_map (fun _ => D.bl true) (at_items _ _) (by rw [List.length_map]; exact line_of (by omega)) (fun d T hd hp => ?_) (fun T hp hl => ?_)
  · obtain ⟨c, h3, rfl⟩ := mem_str hd
    simp only [setT, wipeE, we_c, we_v, we_bin, we_neg, we_cmp, we_chn, we_no, we_and, we_or, we_ife, we_tup, we_lst, we_ix, we_sl, we_bi, we_mt, we_call, we_lrg1, we_lrg2, we_lc, ws_nil, ws_cons, wo_nil, wo_cons, wt_nil, wt_cons, wi_rng1, wi_rng2, wi_rng3, wi_of, wi_int, wS_asgN, wS_asgT, wS_asgS, wS_par2, wS_par3, wS_aug, wS_ex, wS_ret, wS_retN, wS_iff, wS_pass, wS_brk, wS_cont, wS_never, wS_nil, wS_cons, wS_for, wS_whl, wF_nx, wF_rt, wF_bk, wF_ct, wv_some, wb_some, wc_some, wm_some, wz_bl, wE_some, wN_some, wo_some, wo_none, wo_ite, List.getElem?_cons_zero, List.getElem?_cons_succ, List.set_cons_zero, List.set_cons_succ, List.map_cons, List.map_nil, List.cons_append, List.nil_append, List.append_nil, List.replicate_succ, List.replicate_zero, List.length_cons, List.length_nil, Bop.f, Cop.f, Bi.f, Im.f, wl_some, wj_some, wa_some, wbs_some, add_ii, add_ss, add_rr, sub_ii, mul_ii, mul_si, div_ii, mod_ii, pow_ii, neg_i, eq_ii, ne_ii, eq_ss, ne_ss, lt_ii, le_ii, gt_ii, ge_ii, eq_bb, ne_bb, in_cs, tr_b, tr_i, ix_r, ix_t, ix_f, ix_s, sl_s, sl_r, set_r, len_s, len_r, len_f, len_t, abs_i, max_ii, min_ii, max_r, min_r, int_i, int_b, list_r, sum_r, all_r, isi_ii, isi_ib, isi_ss, aug_ii, aug_sub, sel_app, sel_index, sel_pop, sel_count, sel_join, app_r, count_s, wx_some, idx_r, wT_some, join_r, src_s, src_f, src_t, src_r, if_true, if_false, Bool.not_true, Bool.not_false, Bool.false_eq_true, decide_eq_true_eq]
    exact ⟨by rw [decide_eq_true (by rcases hc c h3 with e | e <;> simp [e])], List.prefix_refl _⟩
  · simp only [hl, we_c, we_v, we_bin, we_neg, we_cmp, we_chn, we_no, we_and, we_or, we_ife, we_tup, we_lst, we_ix, we_sl, we_bi, we_mt, we_call, we_lrg1, we_lrg2, we_lc, ws_nil, ws_cons, wo_nil, wo_cons, wt_nil, wt_cons, wi_rng1, wi_rng2, wi_rng3, wi_of, wi_int, wS_asgN, wS_asgT, wS_asgS, wS_par2, wS_par3, wS_aug, wS_ex, wS_ret, wS_retN, wS_iff, wS_pass, wS_brk, wS_cont, wS_never, wS_nil, wS_cons, wS_for, wS_whl, wF_nx, wF_rt, wF_bk, wF_ct, wv_some, wb_some, wc_some, wm_some, wz_bl, wE_some, wN_some, wo_some, wo_none, wo_ite, List.getElem?_cons_zero, List.getElem?_cons_succ, List.set_cons_zero, List.set_cons_succ, List.map_cons, List.map_nil, List.cons_append, List.nil_append, List.append_nil, List.replicate_succ, List.replicate_zero, List.length_cons, List.length_nil, Bop.f, Cop.f, Bi.f, Im.f, wl_some, wj_some, wa_some, wbs_some, add_ii, add_ss, add_rr, sub_ii, mul_ii, mul_si, div_ii, mod_ii, pow_ii, neg_i, eq_ii, ne_ii, eq_ss, ne_ss, lt_ii, le_ii, gt_ii, ge_ii, eq_bb, ne_bb, in_cs, tr_b, tr_i, ix_r, ix_t, ix_f, ix_s, sl_s, sl_r, set_r, len_s, len_r, len_f, len_t, abs_i, max_ii, min_ii, max_r, min_r, int_i, int_b, list_r, sum_r, all_r, isi_ii, isi_ib, isi_ss, aug_ii, aug_sub, sel_app, sel_index, sel_pop, sel_count, sel_join, app_r, count_s, wx_some, idx_r, wT_some, join_r, src_s, src_f, src_t, src_r, if_true, if_false, Bool.not_true, Bool.not_false, Bool.false_eq_true]
    rw [bools_all fun _ _ => rfl]
    simp only [we_c, we_v, we_bin, we_neg, we_cmp, we_chn, we_no, we_and, we_or, we_ife, we_tup, we_lst, we_ix, we_sl, we_bi, we_mt, we_call, we_lrg1, we_lrg2, we_lc, ws_nil, ws_cons, wo_nil, wo_cons, wt_nil, wt_cons, wi_rng1, wi_rng2, wi_rng3, wi_of, wi_int, wS_asgN, wS_asgT, wS_asgS, wS_par2, wS_par3, wS_aug, wS_ex, wS_ret, wS_retN, wS_iff, wS_pass, wS_brk, wS_cont, wS_never, wS_nil, wS_cons, wS_for, wS_whl, wF_nx, wF_rt, wF_bk, wF_ct, wv_some, wb_some, wc_some, wm_some, wz_bl, wE_some, wN_some, wo_some, wo_none, wo_ite, List.getElem?_cons_zero, List.getElem?_cons_succ, List.set_cons_zero, List.set_cons_succ, List.map_cons, List.map_nil, List.cons_append, List.nil_append, List.append_nil, List.replicate_succ, List.replicate_zero, List.length_cons, List.length_nil, Bop.f, Cop.f, Bi.f, Im.f, wl_some, wj_some, wa_some, wbs_some, add_ii, add_ss, add_rr, sub_ii, mul_ii, mul_si, div_ii, mod_ii, pow_ii, neg_i, eq_ii, ne_ii, eq_ss, ne_ss, lt_ii, le_ii, gt_ii, ge_ii, eq_bb, ne_bb, in_cs, tr_b, tr_i, ix_r, ix_t, ix_f, ix_s, sl_s, sl_r, set_r, len_s, len_r, len_f, len_t, abs_i, max_ii, min_ii, max_r, min_r, int_i, int_b, list_r, sum_r, all_r, isi_ii, isi_ib, isi_ss, aug_ii, aug_sub, sel_app, sel_index, sel_pop, sel_count, sel_join, app_r, count_s, wx_some, idx_r, wT_some, join_r, src_s, src_f, src_t, src_r, if_true, if_false, Bool.not_true, Bool.not_false, Bool.false_eq_true, all_true]
    exact h T hp
theorem sums_in_ok (cs : List Nat) (h1 : cs.length ≤ 2000) (h : ∀ T, S <+: T → S.length < T.length → lstAt T S.length = some (preL cs (cs.length + 1)) → Q (.ref S.length) T) : Wp (run ds (k + 1) 5 [.str cs] S) Q := by
  refine wp_run (d := d5) rfl rfl ?_
  simp only [d5, we_c, we_v, we_bin, we_neg, we_cmp, we_chn, we_no, we_and, we_or, we_ife, we_tup, we_lst, we_ix, we_sl, we_bi, we_mt, we_call, we_lrg1, we_lrg2, we_lc, ws_nil, ws_cons, wo_nil, wo_cons, wt_nil, wt_cons, wi_rng1, wi_rng2, wi_rng3, wi_of, wi_int, wS_asgN, wS_asgT, wS_asgS, wS_par2, wS_par3, wS_aug, wS_ex, wS_ret, wS_retN, wS_iff, wS_pass, wS_brk, wS_cont, wS_never, wS_nil, wS_cons, wS_for, wS_whl, wF_nx, wF_rt, wF_bk, wF_ct, wv_some, wb_some, wc_some, wm_some, wz_bl, wE_some, wN_some, wo_some, wo_none, wo_ite, List.getElem?_cons_zero, List.getElem?_cons_succ, List.set_cons_zero, List.set_cons_succ, List.map_cons, List.map_nil, List.cons_append, List.nil_append, List.append_nil, List.replicate_succ, List.replicate_zero, List.length_cons, List.length_nil, Bop.f, Cop.f, Bi.f, Im.f, wl_some, wj_some, wa_some, wbs_some, add_ii, add_ss, add_rr, sub_ii, mul_ii, mul_si, div_ii, mod_ii, pow_ii, neg_i, eq_ii, ne_ii, eq_ss, ne_ss, lt_ii, le_ii, gt_ii, ge_ii, eq_bb, ne_bb, in_cs, tr_b, tr_i, ix_r, ix_t, ix_f, ix_s, sl_s, sl_r, set_r, len_s, len_r, len_f, len_t, abs_i, max_ii, min_ii, max_r, min_r, int_i, int_b, list_r, sum_r, all_r, isi_ii, isi_ib, isi_ss, aug_ii, aug_sub, sel_app, sel_index, sel_pop, sel_count, sel_join, app_r, count_s, wx_some, idx_r, wT_some, join_r, src_s, src_f, src_t, src_r, if_true, if_false, Bool.not_true, Bool.not_false, Bool.false_eq_true, decide_eq_true_eq]
  refine ⟨line_of (by decide), ?_⟩
  refine wp_turns (cs.map fun c => D.str [c]) (fun i e T => S <+: T ∧ lstAt T S.length = some (preL cs (i + 1)) ∧ ∃ x, e = [some (.str cs), some (.ref S.length), x]) (fun _ _ _ _ => rfl) (fun i d e T hx hP => ?_) (fun e T hP => ?_) fuel 0 _ _ (by rw [List.length_map]; show _ < 1000000000; omega) (Nat.zero_le _) ⟨⟨_, rfl⟩, lst_new _ _, _, rfl⟩
  · obtain ⟨hp, hl, x, rfl⟩ := hP
    rw [List.getElem?_map] at hx
    cases hc : cs[i]? with
    | none => rw [hc] at hx; cases hx
    | some c =>
      rw [hc] at hx
      cases hx
      have hi : i < cs.length := (List.getElem?_eq_some_iff.mp hc).1
      simp only [setT, we_c, we_v, we_bin, we_neg, we_cmp, we_chn, we_no, we_and, we_or, we_ife, we_tup, we_lst, we_ix, we_sl, we_bi, we_mt, we_call, we_lrg1, we_lrg2, we_lc, ws_nil, ws_cons, wo_nil, wo_cons, wt_nil, wt_cons, wi_rng1, wi_rng2, wi_rng3, wi_of, wi_int, wS_asgN, wS_asgT, wS_asgS, wS_par2, wS_par3, wS_aug, wS_ex, wS_ret, wS_retN, wS_iff, wS_pass, wS_brk, wS_cont, wS_never, wS_nil, wS_cons, wS_for, wS_whl, wF_nx, wF_rt, wF_bk, wF_ct, wv_some, wb_some, wc_some, wm_some, wz_bl, wE_some, wN_some, wo_some, wo_none, wo_ite, List.getElem?_cons_zero, List.getElem?_cons_succ, List.set_cons_zero, List.set_cons_succ, List.map_cons, List.map_nil, List.cons_append, List.nil_append, List.append_nil, List.replicate_succ, List.replicate_zero, List.length_cons, List.length_nil, Bop.f, Cop.f, Bi.f, Im.f, wl_some, wj_some, wa_some, wbs_some, add_ii, add_ss, add_rr, sub_ii, mul_ii, mul_si, div_ii, mod_ii, pow_ii, neg_i, eq_ii, ne_ii, eq_ss, ne_ss, lt_ii, le_ii, gt_ii, ge_ii, eq_bb, ne_bb, in_cs, tr_b, tr_i, ix_r, ix_t, ix_f, ix_s, sl_s, sl_r, set_r, len_s, len_r, len_f, len_t, abs_i, max_ii, min_ii, max_r, min_r, int_i, int_b, list_r, sum_r, all_r, isi_ii, isi_ib, isi_ss, aug_ii, aug_sub, sel_app, sel_index, sel_pop, sel_count, sel_join, app_r, count_s, wx_some, idx_r, wT_some, join_r, src_s, src_f, src_t, src_r, if_true, if_false, Bool.not_true, Bool.not_false, Bool.false_eq_true, hl, decide_eq_true_eq]
      rw [show L2.atI (preL cs (i + 1)) (-1) = some (D.int (pre cs i)) from by rw [preL_succ]; exact atI_last _ _]
      simp only [we_c, we_v, we_bin, we_neg, we_cmp, we_chn, we_no, we_and, we_or, we_ife, we_tup, we_lst, we_ix, we_sl, we_bi, we_mt, we_call, we_lrg1, we_lrg2, we_lc, ws_nil, ws_cons, wo_nil, wo_cons, wt_nil, wt_cons, wi_rng1, wi_rng2, wi_rng3, wi_of, wi_int, wS_asgN, wS_asgT, wS_asgS, wS_par2, wS_par3, wS_aug, wS_ex, wS_ret, wS_retN, wS_iff, wS_pass, wS_brk, wS_cont, wS_never, wS_nil, wS_cons, wS_for, wS_whl, wF_nx, wF_rt, wF_bk, wF_ct, wv_some, wb_some, wc_some, wm_some, wz_bl, wE_some, wN_some, wo_some, wo_none, wo_ite, List.getElem?_cons_zero, List.getElem?_cons_succ, List.set_cons_zero, List.set_cons_succ, List.map_cons, List.map_nil, List.cons_append, List.nil_append, List.append_nil, List.replicate_succ, List.replicate_zero, List.length_cons, List.length_nil, Bop.f, Cop.f, Bi.f, Im.f, wl_some, wj_some, wa_some, wbs_some, add_ii, add_ss, add_rr, sub_ii, mul_ii, mul_si, div_ii, mod_ii, pow_ii, neg_i, eq_ii, ne_ii, eq_ss, ne_ss, lt_ii, le_ii, gt_ii, ge_ii, eq_bb, ne_bb, in_cs, tr_b, tr_i, ix_r, ix_t, ix_f, ix_s, sl_s, sl_r, set_r, len_s, len_r, len_f, len_t, abs_i, max_ii, min_ii, max_r, min_r, int_i, int_b, list_r, sum_r, all_r, isi_ii, isi_ib, isi_ss, aug_ii, aug_sub, sel_app, sel_index, sel_pop, sel_count, sel_join, app_r, count_s, wx_some, idx_r, wT_some, join_r, src_s, src_f, src_t, src_r, if_true, if_false, Bool.not_true, Bool.not_false, Bool.false_eq_true, hl, decide_eq_true_eq]
      rw [if_pos (by unfold preL; rw [List.length_map, List.length_range]; show _ < 16777216; omega)]
      refine ⟨pre_set hp (Nat.le_refl _), ?_, _, rfl⟩
      rw [lst_set hl, preL_succ cs (i + 1), pre_succ hc]
      simp
  · obtain ⟨hp, hl, x, rfl⟩ := hP
    rw [List.length_map] at hl
    simp only [we_c, we_v, we_bin, we_neg, we_cmp, we_chn, we_no, we_and, we_or, we_ife, we_tup, we_lst, we_ix, we_sl, we_bi, we_mt, we_call, we_lrg1, we_lrg2, we_lc, ws_nil, ws_cons, wo_nil, wo_cons, wt_nil, wt_cons, wi_rng1, wi_rng2, wi_rng3, wi_of, wi_int, wS_asgN, wS_asgT, wS_asgS, wS_par2, wS_par3, wS_aug, wS_ex, wS_ret, wS_retN, wS_iff, wS_pass, wS_brk, wS_cont, wS_never, wS_nil, wS_cons, wS_for, wS_whl, wF_nx, wF_rt, wF_bk, wF_ct, wv_some, wb_some, wc_some, wm_some, wz_bl, wE_some, wN_some, wo_some, wo_none, wo_ite, List.getElem?_cons_zero, List.getElem?_cons_succ, List.set_cons_zero, List.set_cons_succ, List.map_cons, List.map_nil, List.cons_append, List.nil_append, List.append_nil, List.replicate_succ, List.replicate_zero, List.length_cons, List.length_nil, Bop.f, Cop.f, Bi.f, Im.f, wl_some, wj_some, wa_some, wbs_some, add_ii, add_ss, add_rr, sub_ii, mul_ii, mul_si, div_ii, mod_ii, pow_ii, neg_i, eq_ii, ne_ii, eq_ss, ne_ss, lt_ii, le_ii, gt_ii, ge_ii, eq_bb, ne_bb, in_cs, tr_b, tr_i, ix_r, ix_t, ix_f, ix_s, sl_s, sl_r, set_r, len_s, len_r, len_f, len_t, abs_i, max_ii, min_ii, max_r, min_r, int_i, int_b, list_r, sum_r, all_r, isi_ii, isi_ib, isi_ss, aug_ii, aug_sub, sel_app, sel_index, sel_pop, sel_count, sel_join, app_r, count_s, wx_some, idx_r, wT_some, join_r, src_s, src_f, src_t, src_r, if_true, if_false, Bool.not_true, Bool.not_false, Bool.false_eq_true]
    exact h T hp (lst_lt hl) hl
theorem law_is_round_ok (cs : List Nat) (h1 : 1 ≤ cs.length) (h2 : cs.length ≤ 2000) (h : ∀ T, S <+: T → Q (.bl (evenR cs)) T) : Wp (run ds (k + 1) 24 [.str cs] S) Q := by
  refine wp_run (d := d24) rfl rfl ?_
  simp only [d24, we_c, we_v, we_bin, we_neg, we_cmp, we_chn, we_no, we_and, we_or, we_ife, we_tup, we_lst, we_ix, we_sl, we_bi, we_mt, we_call, we_lrg1, we_lrg2, we_lc, ws_nil, ws_cons, wo_nil, wo_cons, wt_nil, wt_cons, wi_rng1, wi_rng2, wi_rng3, wi_of, wi_int, wS_asgN, wS_asgT, wS_asgS, wS_par2, wS_par3, wS_aug, wS_ex, wS_ret, wS_retN, wS_iff, wS_pass, wS_brk, wS_cont, wS_never, wS_nil, wS_cons, wS_for, wS_whl, wF_nx, wF_rt, wF_bk, wF_ct, wv_some, wb_some, wc_some, wm_some, wz_bl, wE_some, wN_some, wo_some, wo_none, wo_ite, List.getElem?_cons_zero, List.getElem?_cons_succ, List.set_cons_zero, List.set_cons_succ, List.map_cons, List.map_nil, List.cons_append, List.nil_append, List.append_nil, List.replicate_succ, List.replicate_zero, List.length_cons, List.length_nil, Bop.f, Cop.f, Bi.f, Im.f, wl_some, wj_some, wa_some, wbs_some, add_ii, add_ss, add_rr, sub_ii, mul_ii, mul_si, div_ii, mod_ii, pow_ii, neg_i, eq_ii, ne_ii, eq_ss, ne_ss, lt_ii, le_ii, gt_ii, ge_ii, eq_bb, ne_bb, in_cs, tr_b, tr_i, ix_r, ix_t, ix_f, ix_s, sl_s, sl_r, set_r, len_s, len_r, len_f, len_t, abs_i, max_ii, min_ii, max_r, min_r, int_i, int_b, list_r, sum_r, all_r, isi_ii, isi_ib, isi_ss, aug_ii, aug_sub, sel_app, sel_index, sel_pop, sel_count, sel_join, app_r, count_s, wx_some, idx_r, wT_some, join_r, src_s, src_f, src_t, src_r, if_true, if_false, Bool.not_true, Bool.not_false, Bool.false_eq_true, decide_eq_true_eq]
  rw [if_pos (line_of (by omega)), rng_2 _ _ (by omega)]
  refine wp_turns (rangeD 1 ((cs.length : Int) - 1).toNat) (fun i e T => S <+: T ∧ (∀ j, j < i → spread (winsB (cs ++ cs) cs.length (j + 1)) ≤ 1) ∧ ∃ x y, e = [some (.str cs), some (.int cs.length), x, y, none, none]) (fun _ _ _ _ => rfl) (fun i d e T hx hP => ?_) (fun e T hP => ?_) fuel 0 _ _ (by rw [range_len]; show _ < 1000000000; omega) (Nat.zero_le _) ⟨List.prefix_refl _, fun j hj => by omega, _, _, rfl⟩
  · obtain ⟨hp, ha, x, y, rfl⟩ := hP
    obtain ⟨hi, rfl⟩ := range_get hx
    simp only [setT, we_c, we_v, we_bin, we_neg, we_cmp, we_chn, we_no, we_and, we_or, we_ife, we_tup, we_lst, we_ix, we_sl, we_bi, we_mt, we_call, we_lrg1, we_lrg2, we_lc, ws_nil, ws_cons, wo_nil, wo_cons, wt_nil, wt_cons, wi_rng1, wi_rng2, wi_rng3, wi_of, wi_int, wS_asgN, wS_asgT, wS_asgS, wS_par2, wS_par3, wS_aug, wS_ex, wS_ret, wS_retN, wS_iff, wS_pass, wS_brk, wS_cont, wS_never, wS_nil, wS_cons, wS_for, wS_whl, wF_nx, wF_rt, wF_bk, wF_ct, wv_some, wb_some, wc_some, wm_some, wz_bl, wE_some, wN_some, wo_some, wo_none, wo_ite, List.getElem?_cons_zero, List.getElem?_cons_succ, List.set_cons_zero, List.set_cons_succ, List.map_cons, List.map_nil, List.cons_append, List.nil_append, List.append_nil, List.replicate_succ, List.replicate_zero, List.length_cons, List.length_nil, Bop.f, Cop.f, Bi.f, Im.f, wl_some, wj_some, wa_some, wbs_some, add_ii, add_ss, add_rr, sub_ii, mul_ii, mul_si, div_ii, mod_ii, pow_ii, neg_i, eq_ii, ne_ii, eq_ss, ne_ss, lt_ii, le_ii, gt_ii, ge_ii, eq_bb, ne_bb, in_cs, tr_b, tr_i, ix_r, ix_t, ix_f, ix_s, sl_s, sl_r, set_r, len_s, len_r, len_f, len_t, abs_i, max_ii, min_ii, max_r, min_r, int_i, int_b, list_r, sum_r, all_r, isi_ii, isi_ib, isi_ss, aug_ii, aug_sub, sel_app, sel_index, sel_pop, sel_count, sel_join, app_r, count_s, wx_some, idx_r, wT_some, join_r, src_s, src_f, src_t, src_r, if_true, if_false, Bool.not_true, Bool.not_false, Bool.false_eq_true, decide_eq_true_eq]
    rw [rng_1 _ (by omega), Int.toNat_natCast]
    refine wp_map (onI fun a => .int ((((cs ++ cs).drop a.toNat).take (i + 1)).count 114 : Nat)) (at_items _ _) (by rw [range_len]; exact line_of (by omega)) (fun d T3 hd hp3 => ?_) (fun T3 hp3 hl3 => ?_)
    · obtain ⟨a, ha, rfl⟩ := mem_range hd
      simp only [setT, wipeE, we_c, we_v, we_bin, we_neg, we_cmp, we_chn, we_no, we_and, we_or, we_ife, we_tup, we_lst, we_ix, we_sl, we_bi, we_mt, we_call, we_lrg1, we_lrg2, we_lc, ws_nil, ws_cons, wo_nil, wo_cons, wt_nil, wt_cons, wi_rng1, wi_rng2, wi_rng3, wi_of, wi_int, wS_asgN, wS_asgT, wS_asgS, wS_par2, wS_par3, wS_aug, wS_ex, wS_ret, wS_retN, wS_iff, wS_pass, wS_brk, wS_cont, wS_never, wS_nil, wS_cons, wS_for, wS_whl, wF_nx, wF_rt, wF_bk, wF_ct, wv_some, wb_some, wc_some, wm_some, wz_bl, wE_some, wN_some, wo_some, wo_none, wo_ite, List.getElem?_cons_zero, List.getElem?_cons_succ, List.set_cons_zero, List.set_cons_succ, List.map_cons, List.map_nil, List.cons_append, List.nil_append, List.append_nil, List.replicate_succ, List.replicate_zero, List.length_cons, List.length_nil, Bop.f, Cop.f, Bi.f, Im.f, wl_some, wj_some, wa_some, wbs_some, add_ii, add_ss, add_rr, sub_ii, mul_ii, mul_si, div_ii, mod_ii, pow_ii, neg_i, eq_ii, ne_ii, eq_ss, ne_ss, lt_ii, le_ii, gt_ii, ge_ii, eq_bb, ne_bb, in_cs, tr_b, tr_i, ix_r, ix_t, ix_f, ix_s, sl_s, sl_r, set_r, len_s, len_r, len_f, len_t, abs_i, max_ii, min_ii, max_r, min_r, int_i, int_b, list_r, sum_r, all_r, isi_ii, isi_ib, isi_ss, aug_ii, aug_sub, sel_app, sel_index, sel_pop, sel_count, sel_join, app_r, count_s, wx_some, idx_r, wT_some, join_r, src_s, src_f, src_t, src_r, if_true, if_false, Bool.not_true, Bool.not_false, Bool.false_eq_true, decide_eq_true_eq]
      rw [if_pos (line_of (by omega)), if_pos (line_of (by rw [List.length_append]; omega)), show (0 + (a : Nat) : Int) = ((a : Nat) : Int) by omega, show ((a : Nat) : Int) + (1 + (i : Nat)) = ((a + (i + 1) : Nat) : Int) by omega, cut_nat, show a + (i + 1) - a = i + 1 by omega]
      exact ⟨rfl, List.prefix_refl _⟩
    · have hw : (rangeD 0 cs.length).map (onI fun a => .int ((((cs ++ cs).drop a.toNat).take (i + 1)).count 114 : Nat)) = (winsB (cs ++ cs) cs.length (i + 1)).map D.int := by
        rw [range_map]
        unfold winsB
        rw [List.map_map]
        apply List.map_congr_left
        intro i _
        show D.int _ = D.int _
        rw [show (0 + (i : Nat) : Int).toNat = i by omega]
      rw [hw] at hl3
      simp only [hl3, we_c, we_v, we_bin, we_neg, we_cmp, we_chn, we_no, we_and, we_or, we_ife, we_tup, we_lst, we_ix, we_sl, we_bi, we_mt, we_call, we_lrg1, we_lrg2, we_lc, ws_nil, ws_cons, wo_nil, wo_cons, wt_nil, wt_cons, wi_rng1, wi_rng2, wi_rng3, wi_of, wi_int, wS_asgN, wS_asgT, wS_asgS, wS_par2, wS_par3, wS_aug, wS_ex, wS_ret, wS_retN, wS_iff, wS_pass, wS_brk, wS_cont, wS_never, wS_nil, wS_cons, wS_for, wS_whl, wF_nx, wF_rt, wF_bk, wF_ct, wv_some, wb_some, wc_some, wm_some, wz_bl, wE_some, wN_some, wo_some, wo_none, wo_ite, List.getElem?_cons_zero, List.getElem?_cons_succ, List.set_cons_zero, List.set_cons_succ, List.map_cons, List.map_nil, List.cons_append, List.nil_append, List.append_nil, List.replicate_succ, List.replicate_zero, List.length_cons, List.length_nil, Bop.f, Cop.f, Bi.f, Im.f, wl_some, wj_some, wa_some, wbs_some, add_ii, add_ss, add_rr, sub_ii, mul_ii, mul_si, div_ii, mod_ii, pow_ii, neg_i, eq_ii, ne_ii, eq_ss, ne_ss, lt_ii, le_ii, gt_ii, ge_ii, eq_bb, ne_bb, in_cs, tr_b, tr_i, ix_r, ix_t, ix_f, ix_s, sl_s, sl_r, set_r, len_s, len_r, len_f, len_t, abs_i, max_ii, min_ii, max_r, min_r, int_i, int_b, list_r, sum_r, all_r, isi_ii, isi_ib, isi_ss, aug_ii, aug_sub, sel_app, sel_index, sel_pop, sel_count, sel_join, app_r, count_s, wx_some, idx_r, wT_some, join_r, src_s, src_f, src_t, src_r, if_true, if_false, Bool.not_true, Bool.not_false, Bool.false_eq_true, intsD_map, decide_eq_true_eq]
      have hne : winsB (cs ++ cs) cs.length (i + 1) ≠ [] := by
        intro e
        have := congrArg List.length e
        unfold winsB at this
        rw [List.length_map, List.length_range] at this
        simp at this
        rw [this] at h1
        simp at h1
      refine spread_if hne (fun hs => ?_) fun hs => ?_
      · have e : evenR cs = false := all_not (i := i) (by omega) (decide_eq_false (by omega))
        rw [e] at h
        exact h T3 (hp.trans hp3)
      · refine ⟨hp.trans hp3, fun j hj => ?_, _, _, rfl⟩
        by_cases e : j = i
        · rw [e]; omega
        · exact ha j (by omega)
  · obtain ⟨hp, ha, x, y, rfl⟩ := hP
    rw [range_len] at ha
    have e : evenR cs = true := all_upto fun i hi => decide_eq_true (ha i (by omega))
    rw [e] at h
    simp only [we_c, we_v, we_bin, we_neg, we_cmp, we_chn, we_no, we_and, we_or, we_ife, we_tup, we_lst, we_ix, we_sl, we_bi, we_mt, we_call, we_lrg1, we_lrg2, we_lc, ws_nil, ws_cons, wo_nil, wo_cons, wt_nil, wt_cons, wi_rng1, wi_rng2, wi_rng3, wi_of, wi_int, wS_asgN, wS_asgT, wS_asgS, wS_par2, wS_par3, wS_aug, wS_ex, wS_ret, wS_retN, wS_iff, wS_pass, wS_brk, wS_cont, wS_never, wS_nil, wS_cons, wS_for, wS_whl, wF_nx, wF_rt, wF_bk, wF_ct, wv_some, wb_some, wc_some, wm_some, wz_bl, wE_some, wN_some, wo_some, wo_none, wo_ite, List.getElem?_cons_zero, List.getElem?_cons_succ, List.set_cons_zero, List.set_cons_succ, List.map_cons, List.map_nil, List.cons_append, List.nil_append, List.append_nil, List.replicate_succ, List.replicate_zero, List.length_cons, List.length_nil, Bop.f, Cop.f, Bi.f, Im.f, wl_some, wj_some, wa_some, wbs_some, add_ii, add_ss, add_rr, sub_ii, mul_ii, mul_si, div_ii, mod_ii, pow_ii, neg_i, eq_ii, ne_ii, eq_ss, ne_ss, lt_ii, le_ii, gt_ii, ge_ii, eq_bb, ne_bb, in_cs, tr_b, tr_i, ix_r, ix_t, ix_f, ix_s, sl_s, sl_r, set_r, len_s, len_r, len_f, len_t, abs_i, max_ii, min_ii, max_r, min_r, int_i, int_b, list_r, sum_r, all_r, isi_ii, isi_ib, isi_ss, aug_ii, aug_sub, sel_app, sel_index, sel_pop, sel_count, sel_join, app_r, count_s, wx_some, idx_r, wT_some, join_r, src_s, src_f, src_t, src_r, if_true, if_false, Bool.not_true, Bool.not_false, Bool.false_eq_true]
    exact h T hp
theorem part_ok (cs : List Nat) (h1 : 1 ≤ cs.length) (h2 : cs.length ≤ 1000) (h : ∀ T p r, S <+: T → parts cs = p :: r → Q (.int (p : Nat)) T) : Wp (run ds (k + 1) 27 [.str cs] S) Q := by
  refine wp_run (d := d27) rfl rfl ?_
  simp only [d27, we_c, we_v, we_bin, we_neg, we_cmp, we_chn, we_no, we_and, we_or, we_ife, we_tup, we_lst, we_ix, we_sl, we_bi, we_mt, we_call, we_lrg1, we_lrg2, we_lc, ws_nil, ws_cons, wo_nil, wo_cons, wt_nil, wt_cons, wi_rng1, wi_rng2, wi_rng3, wi_of, wi_int, wS_asgN, wS_asgT, wS_asgS, wS_par2, wS_par3, wS_aug, wS_ex, wS_ret, wS_retN, wS_iff, wS_pass, wS_brk, wS_cont, wS_never, wS_nil, wS_cons, wS_for, wS_whl, wF_nx, wF_rt, wF_bk, wF_ct, wv_some, wb_some, wc_some, wm_some, wz_bl, wE_some, wN_some, wo_some, wo_none, wo_ite, List.getElem?_cons_zero, List.getElem?_cons_succ, List.set_cons_zero, List.set_cons_succ, List.map_cons, List.map_nil, List.cons_append, List.nil_append, List.append_nil, List.replicate_succ, List.replicate_zero, List.length_cons, List.length_nil, Bop.f, Cop.f, Bi.f, Im.f, wl_some, wj_some, wa_some, wbs_some, add_ii, add_ss, add_rr, sub_ii, mul_ii, mul_si, div_ii, mod_ii, pow_ii, neg_i, eq_ii, ne_ii, eq_ss, ne_ss, lt_ii, le_ii, gt_ii, ge_ii, eq_bb, ne_bb, in_cs, tr_b, tr_i, ix_r, ix_t, ix_f, ix_s, sl_s, sl_r, set_r, len_s, len_r, len_f, len_t, abs_i, max_ii, min_ii, max_r, min_r, int_i, int_b, list_r, sum_r, all_r, isi_ii, isi_ib, isi_ss, aug_ii, aug_sub, sel_app, sel_index, sel_pop, sel_count, sel_join, app_r, count_s, wx_some, idx_r, wT_some, join_r, src_s, src_f, src_t, src_r, if_true, if_false, Bool.not_true, Bool.not_false, Bool.false_eq_true, decide_eq_true_eq]
  rw [if_pos (line_of (by omega)), rng_2 _ _ (by omega)]
  refine wp_filter (fun d => match d with | .int a => decide ((List.replicate (cs.length / a.toNat) (cs.take a.toNat)).flatten = cs) | _ => false) (fun d => d) (at_items _ _) (by rw [range_len]; exact line_of (by omega)) (fun d T hd hp => ?_) (fun T hp hl => ?_)
  · obtain ⟨i, hi, rfl⟩ := mem_range hd
    simp only [setT, wipeE, we_c, we_v, we_bin, we_neg, we_cmp, we_chn, we_no, we_and, we_or, we_ife, we_tup, we_lst, we_ix, we_sl, we_bi, we_mt, we_call, we_lrg1, we_lrg2, we_lc, ws_nil, ws_cons, wo_nil, wo_cons, wt_nil, wt_cons, wi_rng1, wi_rng2, wi_rng3, wi_of, wi_int, wS_asgN, wS_asgT, wS_asgS, wS_par2, wS_par3, wS_aug, wS_ex, wS_ret, wS_retN, wS_iff, wS_pass, wS_brk, wS_cont, wS_never, wS_nil, wS_cons, wS_for, wS_whl, wF_nx, wF_rt, wF_bk, wF_ct, wv_some, wb_some, wc_some, wm_some, wz_bl, wE_some, wN_some, wo_some, wo_none, wo_ite, List.getElem?_cons_zero, List.getElem?_cons_succ, List.set_cons_zero, List.set_cons_succ, List.map_cons, List.map_nil, List.cons_append, List.nil_append, List.append_nil, List.replicate_succ, List.replicate_zero, List.length_cons, List.length_nil, Bop.f, Cop.f, Bi.f, Im.f, wl_some, wj_some, wa_some, wbs_some, add_ii, add_ss, add_rr, sub_ii, mul_ii, mul_si, div_ii, mod_ii, pow_ii, neg_i, eq_ii, ne_ii, eq_ss, ne_ss, lt_ii, le_ii, gt_ii, ge_ii, eq_bb, ne_bb, in_cs, tr_b, tr_i, ix_r, ix_t, ix_f, ix_s, sl_s, sl_r, set_r, len_s, len_r, len_f, len_t, abs_i, max_ii, min_ii, max_r, min_r, int_i, int_b, list_r, sum_r, all_r, isi_ii, isi_ib, isi_ss, aug_ii, aug_sub, sel_app, sel_index, sel_pop, sel_count, sel_join, app_r, count_s, wx_some, idx_r, wT_some, join_r, src_s, src_f, src_t, src_r, if_true, if_false, Bool.not_true, Bool.not_false, Bool.false_eq_true, decide_eq_true_eq]
    rw [show (1 + (i : Nat) : Int) = ((i + 1 : Nat) : Int) by omega, if_pos (line_of (by omega)), if_pos (line_of (by omega)), if_pos ⟨by omega, log_small (by omega)⟩, cut_to, ← Int.natCast_ediv, Int.toNat_natCast]
    have hd := Nat.div_le_self cs.length (i + 1)
    have ht : (cs.take (i + 1)).length ≤ 1000 := by rw [List.length_take]; omega
    have hm : (cs.take (i + 1)).length * (cs.length / (i + 1)) ≤ 1000 * 1000 := Nat.mul_le_mul ht (by omega)
    rw [if_pos ⟨Int.natCast_nonneg _, Int.le_trans (Int.ofNat_le.mpr (Nat.le_trans hd h2)) (by decide), by omega, by show _ ≤ 16777216; omega⟩]
    exact ⟨rfl, List.prefix_refl _, fun _ => ⟨trivial, List.prefix_refl _⟩⟩
  · simp only [hl, we_c, we_v, we_bin, we_neg, we_cmp, we_chn, we_no, we_and, we_or, we_ife, we_tup, we_lst, we_ix, we_sl, we_bi, we_mt, we_call, we_lrg1, we_lrg2, we_lc, ws_nil, ws_cons, wo_nil, wo_cons, wt_nil, wt_cons, wi_rng1, wi_rng2, wi_rng3, wi_of, wi_int, wS_asgN, wS_asgT, wS_asgS, wS_par2, wS_par3, wS_aug, wS_ex, wS_ret, wS_retN, wS_iff, wS_pass, wS_brk, wS_cont, wS_never, wS_nil, wS_cons, wS_for, wS_whl, wF_nx, wF_rt, wF_bk, wF_ct, wv_some, wb_some, wc_some, wm_some, wz_bl, wE_some, wN_some, wo_some, wo_none, wo_ite, List.getElem?_cons_zero, List.getElem?_cons_succ, List.set_cons_zero, List.set_cons_succ, List.map_cons, List.map_nil, List.cons_append, List.nil_append, List.append_nil, List.replicate_succ, List.replicate_zero, List.length_cons, List.length_nil, Bop.f, Cop.f, Bi.f, Im.f, wl_some, wj_some, wa_some, wbs_some, add_ii, add_ss, add_rr, sub_ii, mul_ii, mul_si, div_ii, mod_ii, pow_ii, neg_i, eq_ii, ne_ii, eq_ss, ne_ss, lt_ii, le_ii, gt_ii, ge_ii, eq_bb, ne_bb, in_cs, tr_b, tr_i, ix_r, ix_t, ix_f, ix_s, sl_s, sl_r, set_r, len_s, len_r, len_f, len_t, abs_i, max_ii, min_ii, max_r, min_r, int_i, int_b, list_r, sum_r, all_r, isi_ii, isi_ib, isi_ss, aug_ii, aug_sub, sel_app, sel_index, sel_pop, sel_count, sel_join, app_r, count_s, wx_some, idx_r, wT_some, join_r, src_s, src_f, src_t, src_r, if_true, if_false, Bool.not_true, Bool.not_false, Bool.false_eq_true]
    have e : ((rangeD 1 (((cs.length : Nat) : Int) + 1 - 1).toNat).filter (fun d => match d with | .int a => decide ((List.replicate (cs.length / a.toNat) (cs.take a.toNat)).flatten = cs) | _ => false)).map (fun d => d) = (parts cs).map fun s => D.int (s : Nat) := by
      unfold parts rangeD
      rw [show (((cs.length : Nat) : Int) + 1 - 1).toNat = cs.length by omega, List.filter_map, List.filter_map, List.map_map, List.map_map]
      congr 1
      · funext i
        show D.int _ = D.int _
        rw [show (1 + (i : Nat) : Int) = ((i + 1 : Nat) : Int) by omega]
      · congr 1
        funext i
        show decide _ = decide _
        rw [show (1 + (i : Nat) : Int).toNat = i + 1 by omega]
    rw [e]
    cases hq : parts cs with
    | nil => exact absurd hq (parts_last h1)
    | cons p r =>
      rw [show (0 : Int) = ((0 : Nat) : Int) from rfl, atI_nat]
      exact h T p r hp hq
theorem straight_ok (cs : List Nat) (h1 : 1 ≤ cs.length) (h2 : cs.length ≤ 1000) (h : ∀ T, S <+: T → Q (.bl (straightB cs)) T) : Wp (run ds (k + 2) 25 [.str cs] S) Q := by
  refine wp_run (d := d25) rfl rfl ?_
  simp only [d25, we_c, we_v, we_bin, we_neg, we_cmp, we_chn, we_no, we_and, we_or, we_ife, we_tup, we_lst, we_ix, we_sl, we_bi, we_mt, we_call, we_lrg1, we_lrg2, we_lc, ws_nil, ws_cons, wo_nil, wo_cons, wt_nil, wt_cons, wi_rng1, wi_rng2, wi_rng3, wi_of, wi_int, wS_asgN, wS_asgT, wS_asgS, wS_par2, wS_par3, wS_aug, wS_ex, wS_ret, wS_retN, wS_iff, wS_pass, wS_brk, wS_cont, wS_never, wS_nil, wS_cons, wS_for, wS_whl, wF_nx, wF_rt, wF_bk, wF_ct, wv_some, wb_some, wc_some, wm_some, wz_bl, wE_some, wN_some, wo_some, wo_none, wo_ite, List.getElem?_cons_zero, List.getElem?_cons_succ, List.set_cons_zero, List.set_cons_succ, List.map_cons, List.map_nil, List.cons_append, List.nil_append, List.append_nil, List.replicate_succ, List.replicate_zero, List.length_cons, List.length_nil, Bop.f, Cop.f, Bi.f, Im.f, wl_some, wj_some, wa_some, wbs_some, add_ii, add_ss, add_rr, sub_ii, mul_ii, mul_si, div_ii, mod_ii, pow_ii, neg_i, eq_ii, ne_ii, eq_ss, ne_ss, lt_ii, le_ii, gt_ii, ge_ii, eq_bb, ne_bb, in_cs, tr_b, tr_i, ix_r, ix_t, ix_f, ix_s, sl_s, sl_r, set_r, len_s, len_r, len_f, len_t, abs_i, max_ii, min_ii, max_r, min_r, int_i, int_b, list_r, sum_r, all_r, isi_ii, isi_ib, isi_ss, aug_ii, aug_sub, sel_app, sel_index, sel_pop, sel_count, sel_join, app_r, count_s, wx_some, idx_r, wT_some, join_r, src_s, src_f, src_t, src_r, if_true, if_false, Bool.not_true, Bool.not_false, Bool.false_eq_true, decide_eq_true_eq]
  refine law_is_round_ok cs h1 (by omega) fun T hp => ?_
  simp only [we_c, we_v, we_bin, we_neg, we_cmp, we_chn, we_no, we_and, we_or, we_ife, we_tup, we_lst, we_ix, we_sl, we_bi, we_mt, we_call, we_lrg1, we_lrg2, we_lc, ws_nil, ws_cons, wo_nil, wo_cons, wt_nil, wt_cons, wi_rng1, wi_rng2, wi_rng3, wi_of, wi_int, wS_asgN, wS_asgT, wS_asgS, wS_par2, wS_par3, wS_aug, wS_ex, wS_ret, wS_retN, wS_iff, wS_pass, wS_brk, wS_cont, wS_never, wS_nil, wS_cons, wS_for, wS_whl, wF_nx, wF_rt, wF_bk, wF_ct, wv_some, wb_some, wc_some, wm_some, wz_bl, wE_some, wN_some, wo_some, wo_none, wo_ite, List.getElem?_cons_zero, List.getElem?_cons_succ, List.set_cons_zero, List.set_cons_succ, List.map_cons, List.map_nil, List.cons_append, List.nil_append, List.append_nil, List.replicate_succ, List.replicate_zero, List.length_cons, List.length_nil, Bop.f, Cop.f, Bi.f, Im.f, wl_some, wj_some, wa_some, wbs_some, add_ii, add_ss, add_rr, sub_ii, mul_ii, mul_si, div_ii, mod_ii, pow_ii, neg_i, eq_ii, ne_ii, eq_ss, ne_ss, lt_ii, le_ii, gt_ii, ge_ii, eq_bb, ne_bb, in_cs, tr_b, tr_i, ix_r, ix_t, ix_f, ix_s, sl_s, sl_r, set_r, len_s, len_r, len_f, len_t, abs_i, max_ii, min_ii, max_r, min_r, int_i, int_b, list_r, sum_r, all_r, isi_ii, isi_ib, isi_ss, aug_ii, aug_sub, sel_app, sel_index, sel_pop, sel_count, sel_join, app_r, count_s, wx_some, idx_r, wT_some, join_r, src_s, src_f, src_t, src_r, if_true, if_false, Bool.not_true, Bool.not_false, Bool.false_eq_true]
  unfold straightB at h
  by_cases e : evenR cs = true
  · rw [if_pos e]
    refine part_ok cs h1 h2 fun T2 p r hp2 hq => ?_
    rw [if_pos (line_of (by omega)), eq_ii]
    rw [e, hq] at h
    have := h T2 (hp.trans hp2)
    rw [show decide ((p : Int) = (cs.length : Nat)) = (true && decide ((p :: r).head? = some cs.length)) by
      rw [Bool.true_and]
      show _ = decide (some p = some cs.length)
      by_cases q : p = cs.length
      · rw [q]; simp
      · rw [decide_eq_false (by omega), decide_eq_false (by intro z; exact q (Option.some.inj z))]]
    exact this
  · rw [if_neg e]
    have e' : evenR cs = false := by simpa using e
    rw [e'] at h ⊢
    exact h T hp
theorem roll_ok (n : Nat) (total : Int) (hd : Die S n) (h1 : 0 < total) (h2 : total < 1000000) (h : ∀ r T, 0 ≤ r → r < total → Rolled n S T → Q (.int r) T) : Wp (run ds (k + 1) 19 [.ref n, .int total] S) Q := by
  obtain ⟨g, s, t, hg, hl⟩ := hd
  refine wp_run (d := d19) rfl rfl ?_
  simp only [d19, we_c, we_v, we_bin, we_neg, we_cmp, we_chn, we_no, we_and, we_or, we_ife, we_tup, we_lst, we_ix, we_sl, we_bi, we_mt, we_call, we_lrg1, we_lrg2, we_lc, ws_nil, ws_cons, wo_nil, wo_cons, wt_nil, wt_cons, wi_rng1, wi_rng2, wi_rng3, wi_of, wi_int, wS_asgN, wS_asgT, wS_asgS, wS_par2, wS_par3, wS_aug, wS_ex, wS_ret, wS_retN, wS_iff, wS_pass, wS_brk, wS_cont, wS_never, wS_nil, wS_cons, wS_for, wS_whl, wF_nx, wF_rt, wF_bk, wF_ct, wv_some, wb_some, wc_some, wm_some, wz_bl, wE_some, wN_some, wo_some, wo_none, wo_ite, List.getElem?_cons_zero, List.getElem?_cons_succ, List.set_cons_zero, List.set_cons_succ, List.map_cons, List.map_nil, List.cons_append, List.nil_append, List.append_nil, List.replicate_succ, List.replicate_zero, List.length_cons, List.length_nil, Bop.f, Cop.f, Bi.f, Im.f, wl_some, wj_some, wa_some, wbs_some, add_ii, add_ss, add_rr, sub_ii, mul_ii, mul_si, div_ii, mod_ii, pow_ii, neg_i, eq_ii, ne_ii, eq_ss, ne_ss, lt_ii, le_ii, gt_ii, ge_ii, eq_bb, ne_bb, in_cs, tr_b, tr_i, ix_r, ix_t, ix_f, ix_s, sl_s, sl_r, set_r, len_s, len_r, len_f, len_t, abs_i, max_ii, min_ii, max_r, min_r, int_i, int_b, list_r, sum_r, all_r, isi_ii, isi_ib, isi_ss, aug_ii, aug_sub, sel_app, sel_index, sel_pop, sel_count, sel_join, app_r, count_s, wx_some, idx_r, wT_some, join_r, src_s, src_f, src_t, src_r, if_true, if_false, Bool.not_true, Bool.not_false, Bool.false_eq_true, hl, at3_0, at3_1, at3_2, decide_eq_true_eq, ix3_0, ix3_2]
  by_cases e : 0 < g
  · rw [if_pos e, if_pos h1, if_pos ⟨h1, log_small (by omega)⟩]
    exact h _ _ (Int.emod_nonneg _ (by omega)) (Int.emod_lt_of_pos _ h1) (rolled hl (Int.ediv_nonneg hg (by omega)))
  · rw [if_neg e]
    simp only [lst_set hl, at3_0, at3_1, at3_2, we_c, we_v, we_bin, we_neg, we_cmp, we_chn, we_no, we_and, we_or, we_ife, we_tup, we_lst, we_ix, we_sl, we_bi, we_mt, we_call, we_lrg1, we_lrg2, we_lc, ws_nil, ws_cons, wo_nil, wo_cons, wt_nil, wt_cons, wi_rng1, wi_rng2, wi_rng3, wi_of, wi_int, wS_asgN, wS_asgT, wS_asgS, wS_par2, wS_par3, wS_aug, wS_ex, wS_ret, wS_retN, wS_iff, wS_pass, wS_brk, wS_cont, wS_never, wS_nil, wS_cons, wS_for, wS_whl, wF_nx, wF_rt, wF_bk, wF_ct, wv_some, wb_some, wc_some, wm_some, wz_bl, wE_some, wN_some, wo_some, wo_none, wo_ite, List.getElem?_cons_zero, List.getElem?_cons_succ, List.set_cons_zero, List.set_cons_succ, List.map_cons, List.map_nil, List.cons_append, List.nil_append, List.append_nil, List.replicate_succ, List.replicate_zero, List.length_cons, List.length_nil, Bop.f, Cop.f, Bi.f, Im.f, wl_some, wj_some, wa_some, wbs_some, add_ii, add_ss, add_rr, sub_ii, mul_ii, mul_si, div_ii, mod_ii, pow_ii, neg_i, eq_ii, ne_ii, eq_ss, ne_ss, lt_ii, le_ii, gt_ii, ge_ii, eq_bb, ne_bb, in_cs, tr_b, tr_i, ix_r, ix_t, ix_f, ix_s, sl_s, sl_r, set_r, len_s, len_r, len_f, len_t, abs_i, max_ii, min_ii, max_r, min_r, int_i, int_b, list_r, sum_r, all_r, isi_ii, isi_ib, isi_ss, aug_ii, aug_sub, sel_app, sel_index, sel_pop, sel_count, sel_join, app_r, count_s, wx_some, idx_r, wT_some, join_r, src_s, src_f, src_t, src_r, if_true, if_false, Bool.not_true, Bool.not_false, Bool.false_eq_true]
    rw [show L2.ixN (0 + 1 + 1 + 1) 2 = some 2 from rfl]
    dsimp only [List.set]
    simp only [lst_set hl, at3_0, at3_1, at3_2, we_c, we_v, we_bin, we_neg, we_cmp, we_chn, we_no, we_and, we_or, we_ife, we_tup, we_lst, we_ix, we_sl, we_bi, we_mt, we_call, we_lrg1, we_lrg2, we_lc, ws_nil, ws_cons, wo_nil, wo_cons, wt_nil, wt_cons, wi_rng1, wi_rng2, wi_rng3, wi_of, wi_int, wS_asgN, wS_asgT, wS_asgS, wS_par2, wS_par3, wS_aug, wS_ex, wS_ret, wS_retN, wS_iff, wS_pass, wS_brk, wS_cont, wS_never, wS_nil, wS_cons, wS_for, wS_whl, wF_nx, wF_rt, wF_bk, wF_ct, wv_some, wb_some, wc_some, wm_some, wz_bl, wE_some, wN_some, wo_some, wo_none, wo_ite, List.getElem?_cons_zero, List.getElem?_cons_succ, List.set_cons_zero, List.set_cons_succ, List.map_cons, List.map_nil, List.cons_append, List.nil_append, List.append_nil, List.replicate_succ, List.replicate_zero, List.length_cons, List.length_nil, Bop.f, Cop.f, Bi.f, Im.f, wl_some, wj_some, wa_some, wbs_some, add_ii, add_ss, add_rr, sub_ii, mul_ii, mul_si, div_ii, mod_ii, pow_ii, neg_i, eq_ii, ne_ii, eq_ss, ne_ss, lt_ii, le_ii, gt_ii, ge_ii, eq_bb, ne_bb, in_cs, tr_b, tr_i, ix_r, ix_t, ix_f, ix_s, sl_s, sl_r, set_r, len_s, len_r, len_f, len_t, abs_i, max_ii, min_ii, max_r, min_r, int_i, int_b, list_r, sum_r, all_r, isi_ii, isi_ib, isi_ss, aug_ii, aug_sub, sel_app, sel_index, sel_pop, sel_count, sel_join, app_r, count_s, wx_some, idx_r, wT_some, join_r, src_s, src_f, src_t, src_r, if_true, if_false, Bool.not_true, Bool.not_false, Bool.false_eq_true]
    have hone : 0 ≤ (s + 86028157 * (t + 1)) % 2305843009213693951 ∧ (s + 86028157 * (t + 1)) % 2305843009213693951 < 2305843009213693951 := ⟨Int.emod_nonneg _ (by decide), Int.emod_lt_of_pos _ (by decide)⟩
    generalize (s + 86028157 * (t + 1)) % 2305843009213693951 = one at hone ⊢
    have htwo : 0 ≤ (one * one + 181 * (t + 1)) % 2305843009213693907 ∧ (one * one + 181 * (t + 1)) % 2305843009213693907 < 2305843009213693907 := ⟨Int.emod_nonneg _ (by decide), Int.emod_lt_of_pos _ (by decide)⟩
    generalize (one * one + 181 * (t + 1)) % 2305843009213693907 = two at htwo ⊢
    rw [if_pos (mulOk_small (by omega)), if_pos (by decide), if_pos (mulOk_small (by omega)), if_pos (mulOk_small (by omega)), if_pos (by decide), if_pos (mulOk_small (by omega)), if_pos ⟨by decide, by decide⟩, if_pos h1]
    exact h _ _ (Int.emod_nonneg _ (by omega)) (Int.emod_lt_of_pos _ h1) (rolled hl hg)
theorem dice_tail {F : Nat → List D → Mem → Out D} {R : Fl → Mem → Prop} (fl : D) (spot : Nat) (cell : Int) (hs : spot < 100) (h : ∀ T, Die T S.length → S <+: T → R (.rt (.ref S.length)) T) : WpS (evSs F (.cons (.asg (.n (.nm 3)) (.bin .mod (.bi .int (.cons (.bi .abs (.cons (.v 2) .nil)) .nil)) (.bin .pow (.bin .pow (.c (.int 10)) (.c (.int 54))) (.c (.int 6))))) (.cons (.asg (.n (.nm 4)) (.bin .add (.bin .add (.bin .add (.bin .mul (.bin .mod (.v 3) (.c (.int 2305843009213693921))) (.c (.int 71))) (.bin .mul (.c (.int 751)) (.v 1))) (.bin .mul (.c (.int 41)) (.bi .int (.cons (.cmp .lt (.v 2) (.c (.int 0))) .nil)))) (.c (.int 31)))) (.cons (.ret (.lst (.cons (.bi .max (.cons (.c (.int 0)) (.cons (.bin .sub (.v 3) (.bin .pow (.c (.int 10)) (.c (.int 16)))) .nil))) (.cons (.v 4) (.cons (.c (.int 0)) .nil))))) .nil))) [some fl, some (.int spot), some (.int cell), none, none] S) R := by
  simp only [we_c, we_v, we_bin, we_neg, we_cmp, we_chn, we_no, we_and, we_or, we_ife, we_tup, we_lst, we_ix, we_sl, we_bi, we_mt, we_call, we_lrg1, we_lrg2, we_lc, ws_nil, ws_cons, wo_nil, wo_cons, wt_nil, wt_cons, wi_rng1, wi_rng2, wi_rng3, wi_of, wi_int, wS_asgN, wS_asgT, wS_asgS, wS_par2, wS_par3, wS_aug, wS_ex, wS_ret, wS_retN, wS_iff, wS_pass, wS_brk, wS_cont, wS_never, wS_nil, wS_cons, wS_for, wS_whl, wF_nx, wF_rt, wF_bk, wF_ct, wv_some, wb_some, wc_some, wm_some, wz_bl, wE_some, wN_some, wo_some, wo_none, wo_ite, List.getElem?_cons_zero, List.getElem?_cons_succ, List.set_cons_zero, List.set_cons_succ, List.map_cons, List.map_nil, List.cons_append, List.nil_append, List.append_nil, List.replicate_succ, List.replicate_zero, List.length_cons, List.length_nil, Bop.f, Cop.f, Bi.f, Im.f, wl_some, wj_some, wa_some, wbs_some, add_ii, add_ss, add_rr, sub_ii, mul_ii, mul_si, div_ii, mod_ii, pow_ii, neg_i, eq_ii, ne_ii, eq_ss, ne_ss, lt_ii, le_ii, gt_ii, ge_ii, eq_bb, ne_bb, in_cs, tr_b, tr_i, ix_r, ix_t, ix_f, ix_s, sl_s, sl_r, set_r, len_s, len_r, len_f, len_t, abs_i, max_ii, min_ii, max_r, min_r, int_i, int_b, list_r, sum_r, all_r, isi_ii, isi_ib, isi_ss, aug_ii, aug_sub, sel_app, sel_index, sel_pop, sel_count, sel_join, app_r, count_s, wx_some, idx_r, wT_some, join_r, src_s, src_f, src_t, src_r, if_true, if_false, Bool.not_true, Bool.not_false, Bool.false_eq_true]
  have hp := big_pos
  have hl := big_log
  generalize ((10 : Int) ^ Int.toNat 54) ^ Int.toNat 6 = big at hp ⊢
  generalize hq : (10 : Int) ^ Int.toNat 54 = q at hl ⊢
  rw [if_pos (by decide), if_pos hl, if_pos hp, if_pos (by decide), if_pos (mulOk_right (by decide)), if_pos (mulOk_small (by decide)), if_pos (mulOk_small (by decide)), if_pos (by decide)]
  exact ⟨line_of (by decide), h _ ⟨_, _, _, max0 _, lst_new _ _⟩ (List.prefix_append _ _)⟩
theorem dice_ok (ns : List Int) (spot : Nat) (hs : spot < 100) (h : ∀ T, Die T S.length → S <+: T → Q (.ref S.length) T) : Wp (run ds (k + 1) 18 [.fl (ns.map D.int), .int spot] S) Q := by
  refine wp_run (d := d18) rfl rfl ?_
  show WpS (evSs (run ds k) (.cons (.asg (.n (.nm 2)) (.ife (.cmp .lt (.v 1) (.bi .len (.cons (.v 0) .nil))) (.bi .int (.cons (.ix (.v 0) (.v 1)) .nil)) (.bin .add (.bin .mul (.c (.int 151)) (.v 1)) (.c (.int 59))))) (.cons (.asg (.n (.nm 3)) (.bin .mod (.bi .int (.cons (.bi .abs (.cons (.v 2) .nil)) .nil)) (.bin .pow (.bin .pow (.c (.int 10)) (.c (.int 54))) (.c (.int 6))))) (.cons (.asg (.n (.nm 4)) (.bin .add (.bin .add (.bin .add (.bin .mul (.bin .mod (.v 3) (.c (.int 2305843009213693921))) (.c (.int 71))) (.bin .mul (.c (.int 751)) (.v 1))) (.bin .mul (.c (.int 41)) (.bi .int (.cons (.cmp .lt (.v 2) (.c (.int 0))) .nil)))) (.c (.int 31)))) (.cons (.ret (.lst (.cons (.bi .max (.cons (.c (.int 0)) (.cons (.bin .sub (.v 3) (.bin .pow (.c (.int 10)) (.c (.int 16)))) .nil))) (.cons (.v 4) (.cons (.c (.int 0)) .nil))))) .nil)))) [some (.fl (ns.map D.int)), some (.int spot), none, none, none] S) _
  rw [wS_cons, wS_asgN, we_ife]
  simp only [we_cmp, we_v, we_bi, ws_cons, ws_nil, we_ix, we_bin, we_c, wv_some, wb_some, wF_nx, List.getElem?_cons_zero, List.getElem?_cons_succ, List.set_cons_zero, List.set_cons_succ, decide_eq_true_eq, Bop.f, Cop.f, Bi.f, Im.f, wl_some, wj_some, wa_some, wbs_some, add_ii, add_ss, add_rr, sub_ii, mul_ii, mul_si, div_ii, mod_ii, pow_ii, neg_i, eq_ii, ne_ii, eq_ss, ne_ss, lt_ii, le_ii, gt_ii, ge_ii, eq_bb, ne_bb, in_cs, tr_b, tr_i, ix_r, ix_t, ix_f, ix_s, sl_s, sl_r, set_r, len_s, len_r, len_f, len_t, abs_i, max_ii, min_ii, max_r, min_r, int_i, int_b, list_r, sum_r, all_r, isi_ii, isi_ib, isi_ss, aug_ii, aug_sub, sel_app, sel_index, sel_pop, sel_count, sel_join, app_r, count_s, wx_some, idx_r, wT_some, join_r, src_s, src_f, src_t, src_r, if_true, if_false, Bool.not_true, Bool.not_false, Bool.false_eq_true, List.length_map]
  by_cases hlt : (spot : Int) < (ns.length : Nat)
  · rw [if_pos hlt, atI_nat, List.getElem?_map]
    have hlt' : spot < ns.length := by omega
    rw [List.getElem?_eq_getElem hlt']
    simp only [Option.map_some, wv_some, wb_some, wF_nx, List.getElem?_cons_zero, List.getElem?_cons_succ, List.set_cons_zero, List.set_cons_succ, decide_eq_true_eq, Bop.f, Cop.f, Bi.f, Im.f, wl_some, wj_some, wa_some, wbs_some, add_ii, add_ss, add_rr, sub_ii, mul_ii, mul_si, div_ii, mod_ii, pow_ii, neg_i, eq_ii, ne_ii, eq_ss, ne_ss, lt_ii, le_ii, gt_ii, ge_ii, eq_bb, ne_bb, in_cs, tr_b, tr_i, ix_r, ix_t, ix_f, ix_s, sl_s, sl_r, set_r, len_s, len_r, len_f, len_t, abs_i, max_ii, min_ii, max_r, min_r, int_i, int_b, list_r, sum_r, all_r, isi_ii, isi_ib, isi_ss, aug_ii, aug_sub, sel_app, sel_index, sel_pop, sel_count, sel_join, app_r, count_s, wx_some, idx_r, wT_some, join_r, src_s, src_f, src_t, src_r, if_true, if_false, Bool.not_true, Bool.not_false, Bool.false_eq_true]
    exact dice_tail _ spot _ hs h
  · rw [if_neg hlt, if_pos (mulOk_small (by decide))]
    exact dice_tail _ spot _ hs h
end K86

set_option Elab.async false
set_option linter.all false
set_option maxRecDepth 100000
set_option maxHeartbeats 1000000
namespace K86
open Mi
variable {k : Nat} {S : Mem} {Q : D → Mem → Prop}
theorem share_ok (a b : Nat) (hb : b ≤ 100000) (h : Q (.int (Nat.gcd a b)) S) : Wp (run ds (k + 1) 0 [.int a, .int b] S) Q := by
  refine wp_run (d := d0) rfl rfl ?_
  simp only [d0, we_c, we_v, we_bin, we_neg, we_cmp, we_chn, we_no, we_and, we_or, we_ife, we_tup, we_lst, we_ix, we_sl, we_bi, we_mt, we_call, we_lrg1, we_lrg2, we_lc, ws_nil, ws_cons, wo_nil, wo_cons, wt_nil, wt_cons, wi_rng1, wi_rng2, wi_rng3, wi_of, wi_int, wS_asgN, wS_asgT, wS_asgS, wS_par2, wS_par3, wS_aug, wS_ex, wS_ret, wS_retN, wS_iff, wS_pass, wS_brk, wS_cont, wS_never, wS_nil, wS_cons, wS_for, wS_whl, wF_nx, wF_rt, wF_bk, wF_ct, wv_some, wb_some, wc_some, wm_some, wz_bl, wE_some, wN_some, wo_some, wo_none, wo_ite, List.getElem?_cons_zero, List.getElem?_cons_succ, List.set_cons_zero, List.set_cons_succ, List.map_cons, List.map_nil, List.cons_append, List.nil_append, List.append_nil, List.replicate_succ, List.replicate_zero, List.length_cons, List.length_nil, Bop.f, Cop.f, Bi.f, Im.f, wl_some, wj_some, wa_some, wbs_some, add_ii, add_ss, add_rr, sub_ii, mul_ii, mul_si, div_ii, mod_ii, pow_ii, neg_i, eq_ii, ne_ii, eq_ss, ne_ss, lt_ii, le_ii, gt_ii, ge_ii, eq_bb, ne_bb, in_cs, tr_b, tr_i, ix_r, ix_t, ix_f, ix_s, sl_s, sl_r, set_r, len_s, len_r, len_f, len_t, abs_i, max_ii, min_ii, max_r, min_r, int_i, int_b, list_r, sum_r, all_r, isi_ii, isi_ib, isi_ss, aug_ii, aug_sub, sel_app, sel_index, sel_pop, sel_count, sel_join, app_r, count_s, wx_some, idx_r, wT_some, join_r, src_s, src_f, src_t, src_r, if_true, if_false, Bool.not_true, Bool.not_false, Bool.false_eq_true]
  refine wp_whiles (fun m e T => ∃ x y : Nat, m = y ∧ T = S ∧ e = [some (.int x), some (.int y)] ∧ Nat.gcd x y = Nat.gcd a b) (fun m e T hP => ?_) fuel b _ _ (by show _ < 1000000000; omega) ⟨a, b, rfl, rfl, rfl, rfl⟩
  obtain ⟨x, y, rfl, rfl, rfl, hg⟩ := hP
  simp only [we_c, we_v, we_bin, we_neg, we_cmp, we_chn, we_no, we_and, we_or, we_ife, we_tup, we_lst, we_ix, we_sl, we_bi, we_mt, we_call, we_lrg1, we_lrg2, we_lc, ws_nil, ws_cons, wo_nil, wo_cons, wt_nil, wt_cons, wi_rng1, wi_rng2, wi_rng3, wi_of, wi_int, wS_asgN, wS_asgT, wS_asgS, wS_par2, wS_par3, wS_aug, wS_ex, wS_ret, wS_retN, wS_iff, wS_pass, wS_brk, wS_cont, wS_never, wS_nil, wS_cons, wS_for, wS_whl, wF_nx, wF_rt, wF_bk, wF_ct, wv_some, wb_some, wc_some, wm_some, wz_bl, wE_some, wN_some, wo_some, wo_none, wo_ite, List.getElem?_cons_zero, List.getElem?_cons_succ, List.set_cons_zero, List.set_cons_succ, List.map_cons, List.map_nil, List.cons_append, List.nil_append, List.append_nil, List.replicate_succ, List.replicate_zero, List.length_cons, List.length_nil, Bop.f, Cop.f, Bi.f, Im.f, wl_some, wj_some, wa_some, wbs_some, add_ii, add_ss, add_rr, sub_ii, mul_ii, mul_si, div_ii, mod_ii, pow_ii, neg_i, eq_ii, ne_ii, eq_ss, ne_ss, lt_ii, le_ii, gt_ii, ge_ii, eq_bb, ne_bb, in_cs, tr_b, tr_i, ix_r, ix_t, ix_f, ix_s, sl_s, sl_r, set_r, len_s, len_r, len_f, len_t, abs_i, max_ii, min_ii, max_r, min_r, int_i, int_b, list_r, sum_r, all_r, isi_ii, isi_ib, isi_ss, aug_ii, aug_sub, sel_app, sel_index, sel_pop, sel_count, sel_join, app_r, count_s, wx_some, idx_r, wT_some, join_r, src_s, src_f, src_t, src_r, if_true, if_false, Bool.not_true, Bool.not_false, Bool.false_eq_true, w_tru]
  by_cases e : m = 0
  · subst e
    rw [Nat.gcd_zero_right] at hg
    rw [if_neg (by decide), hg]
    exact h
  · rw [if_pos (by simp; omega), if_pos (by omega)]
    refine ⟨x % m, Nat.mod_lt _ (by omega), m, x % m, rfl, trivial, by rw [← Int.natCast_emod], ?_⟩
    rw [← hg, Nat.gcd_comm x m, Nat.gcd_rec m x, Nat.gcd_comm]
/-! ### low words -/
open Lw in
theorem low_steps_ok (p q : Nat) (hp : p + q ≤ 10000) (h : ∀ T, S <+: T → lstAt T (S.length + 1) = some ((List.range (p + q)).map fun j => D.int (rest p q (j + 1) : Nat)) → Q (.tup [.str (lowR p q), .ref (S.length + 1)]) T) : Wp (run ds (k + 1) 1 [.int p, .int q] S) Q := by
  refine wp_run (d := d1) rfl rfl ?_
  simp only [d1, we_c, we_v, we_bin, we_neg, we_cmp, we_chn, we_no, we_and, we_or, we_ife, we_tup, we_lst, we_ix, we_sl, we_bi, we_mt, we_call, we_lrg1, we_lrg2, we_lc, ws_nil, ws_cons, wo_nil, wo_cons, wt_nil, wt_cons, wi_rng1, wi_rng2, wi_rng3, wi_of, wi_int, wS_asgN, wS_asgT, wS_asgS, wS_par2, wS_par3, wS_aug, wS_ex, wS_ret, wS_retN, wS_iff, wS_pass, wS_brk, wS_cont, wS_never, wS_nil, wS_cons, wS_for, wS_whl, wF_nx, wF_rt, wF_bk, wF_ct, wv_some, wb_some, wc_some, wm_some, wz_bl, wE_some, wN_some, wo_some, wo_none, wo_ite, List.getElem?_cons_zero, List.getElem?_cons_succ, List.set_cons_zero, List.set_cons_succ, List.map_cons, List.map_nil, List.cons_append, List.nil_append, List.append_nil, List.replicate_succ, List.replicate_zero, List.length_cons, List.length_nil, Bop.f, Cop.f, Bi.f, Im.f, wl_some, wj_some, wa_some, wbs_some, add_ii, add_ss, add_rr, sub_ii, mul_ii, mul_si, div_ii, mod_ii, pow_ii, neg_i, eq_ii, ne_ii, eq_ss, ne_ss, lt_ii, le_ii, gt_ii, ge_ii, eq_bb, ne_bb, in_cs, tr_b, tr_i, ix_r, ix_t, ix_f, ix_s, sl_s, sl_r, set_r, len_s, len_r, len_f, len_t, abs_i, max_ii, min_ii, max_r, min_r, int_i, int_b, list_r, sum_r, all_r, isi_ii, isi_ib, isi_ss, aug_ii, aug_sub, sel_app, sel_index, sel_pop, sel_count, sel_join, app_r, count_s, wx_some, idx_r, wT_some, join_r, src_s, src_f, src_t, src_r, if_true, if_false, Bool.not_true, Bool.not_false, Bool.false_eq_true]
  refine ⟨line_of (by decide), line_of (by decide), ?_⟩
  rw [rng_1 _ (by omega), show ((p : Int) + (q : Nat)) = ((p + q : Nat) : Int) by omega, Int.toNat_natCast]
  refine wp_turns (rangeD 0 (p + q)) (fun i e T => S <+: T ∧ lstAt T S.length = some ((List.range i).map fun j => D.str [letter p q j]) ∧ lstAt T (S.length + 1) = some ((List.range i).map fun j => D.int (rest p q (j + 1) : Nat)) ∧
    ∃ x, e = [some (.int p), some (.int q), some (.ref S.length), some (.ref (S.length + 1)), some (.int (rest p q i : Nat)), x]) (fun _ _ _ _ => rfl) (fun i d e T hx hP => ?_) (fun e T hP => ?_) fuel 0 _ _ (by rw [range_len]; show _ < 1000000000; omega) (Nat.zero_le _) ?_
  · obtain ⟨hp', hl1, hl2, x, rfl⟩ := hP
    obtain ⟨hi, rfl⟩ := range_get hx
    have h0 : 0 < p + q := by omega
    have rs := rest_succ h0 i
    have ne : S.length ≠ S.length + 1 := by omega
    simp only [setT, we_c, we_v, we_bin, we_neg, we_cmp, we_chn, we_no, we_and, we_or, we_ife, we_tup, we_lst, we_ix, we_sl, we_bi, we_mt, we_call, we_lrg1, we_lrg2, we_lc, ws_nil, ws_cons, wo_nil, wo_cons, wt_nil, wt_cons, wi_rng1, wi_rng2, wi_rng3, wi_of, wi_int, wS_asgN, wS_asgT, wS_asgS, wS_par2, wS_par3, wS_aug, wS_ex, wS_ret, wS_retN, wS_iff, wS_pass, wS_brk, wS_cont, wS_never, wS_nil, wS_cons, wS_for, wS_whl, wF_nx, wF_rt, wF_bk, wF_ct, wv_some, wb_some, wc_some, wm_some, wz_bl, wE_some, wN_some, wo_some, wo_none, wo_ite, List.getElem?_cons_zero, List.getElem?_cons_succ, List.set_cons_zero, List.set_cons_succ, List.map_cons, List.map_nil, List.cons_append, List.nil_append, List.append_nil, List.replicate_succ, List.replicate_zero, List.length_cons, List.length_nil, Bop.f, Cop.f, Bi.f, Im.f, wl_some, wj_some, wa_some, wbs_some, add_ii, add_ss, add_rr, sub_ii, mul_ii, mul_si, div_ii, mod_ii, pow_ii, neg_i, eq_ii, ne_ii, eq_ss, ne_ss, lt_ii, le_ii, gt_ii, ge_ii, eq_bb, ne_bb, in_cs, tr_b, tr_i, ix_r, ix_t, ix_f, ix_s, sl_s, sl_r, set_r, len_s, len_r, len_f, len_t, abs_i, max_ii, min_ii, max_r, min_r, int_i, int_b, list_r, sum_r, all_r, isi_ii, isi_ib, isi_ss, aug_ii, aug_sub, sel_app, sel_index, sel_pop, sel_count, sel_join, app_r, count_s, wx_some, idx_r, wT_some, join_r, src_s, src_f, src_t, src_r, if_true, if_false, Bool.not_true, Bool.not_false, Bool.false_eq_true, decide_eq_true_eq]
    by_cases c : rest p q i < p
    · rw [if_pos c] at rs
      rw [if_pos (by omega)]
      simp only [we_c, we_v, we_bin, we_neg, we_cmp, we_chn, we_no, we_and, we_or, we_ife, we_tup, we_lst, we_ix, we_sl, we_bi, we_mt, we_call, we_lrg1, we_lrg2, we_lc, ws_nil, ws_cons, wo_nil, wo_cons, wt_nil, wt_cons, wi_rng1, wi_rng2, wi_rng3, wi_of, wi_int, wS_asgN, wS_asgT, wS_asgS, wS_par2, wS_par3, wS_aug, wS_ex, wS_ret, wS_retN, wS_iff, wS_pass, wS_brk, wS_cont, wS_never, wS_nil, wS_cons, wS_for, wS_whl, wF_nx, wF_rt, wF_bk, wF_ct, wv_some, wb_some, wc_some, wm_some, wz_bl, wE_some, wN_some, wo_some, wo_none, wo_ite, List.getElem?_cons_zero, List.getElem?_cons_succ, List.set_cons_zero, List.set_cons_succ, List.map_cons, List.map_nil, List.cons_append, List.nil_append, List.append_nil, List.replicate_succ, List.replicate_zero, List.length_cons, List.length_nil, Bop.f, Cop.f, Bi.f, Im.f, wl_some, wj_some, wa_some, wbs_some, add_ii, add_ss, add_rr, sub_ii, mul_ii, mul_si, div_ii, mod_ii, pow_ii, neg_i, eq_ii, ne_ii, eq_ss, ne_ss, lt_ii, le_ii, gt_ii, ge_ii, eq_bb, ne_bb, in_cs, tr_b, tr_i, ix_r, ix_t, ix_f, ix_s, sl_s, sl_r, set_r, len_s, len_r, len_f, len_t, abs_i, max_ii, min_ii, max_r, min_r, int_i, int_b, list_r, sum_r, all_r, isi_ii, isi_ib, isi_ss, aug_ii, aug_sub, sel_app, sel_index, sel_pop, sel_count, sel_join, app_r, count_s, wx_some, idx_r, wT_some, join_r, src_s, src_f, src_t, src_r, if_true, if_false, Bool.not_true, Bool.not_false, Bool.false_eq_true, hl1]
      rw [if_pos (by rw [List.length_map, List.length_range]; show _ < 16777216; omega)]
      simp only [lst_set_ne ne, hl2, we_c, we_v, we_bin, we_neg, we_cmp, we_chn, we_no, we_and, we_or, we_ife, we_tup, we_lst, we_ix, we_sl, we_bi, we_mt, we_call, we_lrg1, we_lrg2, we_lc, ws_nil, ws_cons, wo_nil, wo_cons, wt_nil, wt_cons, wi_rng1, wi_rng2, wi_rng3, wi_of, wi_int, wS_asgN, wS_asgT, wS_asgS, wS_par2, wS_par3, wS_aug, wS_ex, wS_ret, wS_retN, wS_iff, wS_pass, wS_brk, wS_cont, wS_never, wS_nil, wS_cons, wS_for, wS_whl, wF_nx, wF_rt, wF_bk, wF_ct, wv_some, wb_some, wc_some, wm_some, wz_bl, wE_some, wN_some, wo_some, wo_none, wo_ite, List.getElem?_cons_zero, List.getElem?_cons_succ, List.set_cons_zero, List.set_cons_succ, List.map_cons, List.map_nil, List.cons_append, List.nil_append, List.append_nil, List.replicate_succ, List.replicate_zero, List.length_cons, List.length_nil, Bop.f, Cop.f, Bi.f, Im.f, wl_some, wj_some, wa_some, wbs_some, add_ii, add_ss, add_rr, sub_ii, mul_ii, mul_si, div_ii, mod_ii, pow_ii, neg_i, eq_ii, ne_ii, eq_ss, ne_ss, lt_ii, le_ii, gt_ii, ge_ii, eq_bb, ne_bb, in_cs, tr_b, tr_i, ix_r, ix_t, ix_f, ix_s, sl_s, sl_r, set_r, len_s, len_r, len_f, len_t, abs_i, max_ii, min_ii, max_r, min_r, int_i, int_b, list_r, sum_r, all_r, isi_ii, isi_ib, isi_ss, aug_ii, aug_sub, sel_app, sel_index, sel_pop, sel_count, sel_join, app_r, count_s, wx_some, idx_r, wT_some, join_r, src_s, src_f, src_t, src_r, if_true, if_false, Bool.not_true, Bool.not_false, Bool.false_eq_true]
      rw [if_pos (by rw [List.length_map, List.length_range]; show _ < 16777216; omega)]
      refine ⟨pre_set (pre_set hp' (Nat.le_refl _)) (by omega), ?_, ?_, some (.int (0 + (i : Nat))), ?_⟩
      · rw [lst_set_ne (Ne.symm ne), lst_set hl1, List.range_succ, List.map_append]
        have : letter p q i = 114 := by unfold letter; rw [if_pos c]
        simp [this]
      · rw [lst_set (xs := (List.range i).map fun j => D.int (rest p q (j + 1) : Nat)) (by rw [lst_set_ne ne]; exact hl2), List.range_succ, List.map_append, show (List.map (fun j => D.int (rest p q (j + 1) : Nat)) [i]) = [D.int (rest p q (i + 1) : Nat)] from rfl, rs]
        rfl
      · rw [rs]; rfl
    · rw [if_neg c] at rs
      rw [if_neg (by omega)]
      simp only [we_c, we_v, we_bin, we_neg, we_cmp, we_chn, we_no, we_and, we_or, we_ife, we_tup, we_lst, we_ix, we_sl, we_bi, we_mt, we_call, we_lrg1, we_lrg2, we_lc, ws_nil, ws_cons, wo_nil, wo_cons, wt_nil, wt_cons, wi_rng1, wi_rng2, wi_rng3, wi_of, wi_int, wS_asgN, wS_asgT, wS_asgS, wS_par2, wS_par3, wS_aug, wS_ex, wS_ret, wS_retN, wS_iff, wS_pass, wS_brk, wS_cont, wS_never, wS_nil, wS_cons, wS_for, wS_whl, wF_nx, wF_rt, wF_bk, wF_ct, wv_some, wb_some, wc_some, wm_some, wz_bl, wE_some, wN_some, wo_some, wo_none, wo_ite, List.getElem?_cons_zero, List.getElem?_cons_succ, List.set_cons_zero, List.set_cons_succ, List.map_cons, List.map_nil, List.cons_append, List.nil_append, List.append_nil, List.replicate_succ, List.replicate_zero, List.length_cons, List.length_nil, Bop.f, Cop.f, Bi.f, Im.f, wl_some, wj_some, wa_some, wbs_some, add_ii, add_ss, add_rr, sub_ii, mul_ii, mul_si, div_ii, mod_ii, pow_ii, neg_i, eq_ii, ne_ii, eq_ss, ne_ss, lt_ii, le_ii, gt_ii, ge_ii, eq_bb, ne_bb, in_cs, tr_b, tr_i, ix_r, ix_t, ix_f, ix_s, sl_s, sl_r, set_r, len_s, len_r, len_f, len_t, abs_i, max_ii, min_ii, max_r, min_r, int_i, int_b, list_r, sum_r, all_r, isi_ii, isi_ib, isi_ss, aug_ii, aug_sub, sel_app, sel_index, sel_pop, sel_count, sel_join, app_r, count_s, wx_some, idx_r, wT_some, join_r, src_s, src_f, src_t, src_r, if_true, if_false, Bool.not_true, Bool.not_false, Bool.false_eq_true, hl1]
      rw [if_pos (by rw [List.length_map, List.length_range]; show _ < 16777216; omega)]
      simp only [lst_set_ne ne, hl2, we_c, we_v, we_bin, we_neg, we_cmp, we_chn, we_no, we_and, we_or, we_ife, we_tup, we_lst, we_ix, we_sl, we_bi, we_mt, we_call, we_lrg1, we_lrg2, we_lc, ws_nil, ws_cons, wo_nil, wo_cons, wt_nil, wt_cons, wi_rng1, wi_rng2, wi_rng3, wi_of, wi_int, wS_asgN, wS_asgT, wS_asgS, wS_par2, wS_par3, wS_aug, wS_ex, wS_ret, wS_retN, wS_iff, wS_pass, wS_brk, wS_cont, wS_never, wS_nil, wS_cons, wS_for, wS_whl, wF_nx, wF_rt, wF_bk, wF_ct, wv_some, wb_some, wc_some, wm_some, wz_bl, wE_some, wN_some, wo_some, wo_none, wo_ite, List.getElem?_cons_zero, List.getElem?_cons_succ, List.set_cons_zero, List.set_cons_succ, List.map_cons, List.map_nil, List.cons_append, List.nil_append, List.append_nil, List.replicate_succ, List.replicate_zero, List.length_cons, List.length_nil, Bop.f, Cop.f, Bi.f, Im.f, wl_some, wj_some, wa_some, wbs_some, add_ii, add_ss, add_rr, sub_ii, mul_ii, mul_si, div_ii, mod_ii, pow_ii, neg_i, eq_ii, ne_ii, eq_ss, ne_ss, lt_ii, le_ii, gt_ii, ge_ii, eq_bb, ne_bb, in_cs, tr_b, tr_i, ix_r, ix_t, ix_f, ix_s, sl_s, sl_r, set_r, len_s, len_r, len_f, len_t, abs_i, max_ii, min_ii, max_r, min_r, int_i, int_b, list_r, sum_r, all_r, isi_ii, isi_ib, isi_ss, aug_ii, aug_sub, sel_app, sel_index, sel_pop, sel_count, sel_join, app_r, count_s, wx_some, idx_r, wT_some, join_r, src_s, src_f, src_t, src_r, if_true, if_false, Bool.not_true, Bool.not_false, Bool.false_eq_true]
      rw [if_pos (by rw [List.length_map, List.length_range]; show _ < 16777216; omega)]
      have sub : ((rest p q i : Nat) : Int) - (p : Nat) = ((rest p q i - p : Nat) : Int) := by omega
      refine ⟨pre_set (pre_set hp' (Nat.le_refl _)) (by omega), ?_, ?_, some (.int (0 + (i : Nat))), ?_⟩
      · rw [lst_set_ne (Ne.symm ne), lst_set hl1, List.range_succ, List.map_append]
        have : letter p q i = 117 := by unfold letter; rw [if_neg c]
        simp [this]
      · rw [lst_set (xs := (List.range i).map fun j => D.int (rest p q (j + 1) : Nat)) (by rw [lst_set_ne ne]; exact hl2), List.range_succ, List.map_append, show (List.map (fun j => D.int (rest p q (j + 1) : Nat)) [i]) = [D.int (rest p q (i + 1) : Nat)] from rfl, rs, sub]
      · rw [rs, sub]
  · obtain ⟨hp', hl1, hl2, x, rfl⟩ := hP
    rw [range_len] at hl1 hl2
    simp only [we_c, we_v, we_bin, we_neg, we_cmp, we_chn, we_no, we_and, we_or, we_ife, we_tup, we_lst, we_ix, we_sl, we_bi, we_mt, we_call, we_lrg1, we_lrg2, we_lc, ws_nil, ws_cons, wo_nil, wo_cons, wt_nil, wt_cons, wi_rng1, wi_rng2, wi_rng3, wi_of, wi_int, wS_asgN, wS_asgT, wS_asgS, wS_par2, wS_par3, wS_aug, wS_ex, wS_ret, wS_retN, wS_iff, wS_pass, wS_brk, wS_cont, wS_never, wS_nil, wS_cons, wS_for, wS_whl, wF_nx, wF_rt, wF_bk, wF_ct, wv_some, wb_some, wc_some, wm_some, wz_bl, wE_some, wN_some, wo_some, wo_none, wo_ite, List.getElem?_cons_zero, List.getElem?_cons_succ, List.set_cons_zero, List.set_cons_succ, List.map_cons, List.map_nil, List.cons_append, List.nil_append, List.append_nil, List.replicate_succ, List.replicate_zero, List.length_cons, List.length_nil, Bop.f, Cop.f, Bi.f, Im.f, wl_some, wj_some, wa_some, wbs_some, add_ii, add_ss, add_rr, sub_ii, mul_ii, mul_si, div_ii, mod_ii, pow_ii, neg_i, eq_ii, ne_ii, eq_ss, ne_ss, lt_ii, le_ii, gt_ii, ge_ii, eq_bb, ne_bb, in_cs, tr_b, tr_i, ix_r, ix_t, ix_f, ix_s, sl_s, sl_r, set_r, len_s, len_r, len_f, len_t, abs_i, max_ii, min_ii, max_r, min_r, int_i, int_b, list_r, sum_r, all_r, isi_ii, isi_ib, isi_ss, aug_ii, aug_sub, sel_app, sel_index, sel_pop, sel_count, sel_join, app_r, count_s, wx_some, idx_r, wT_some, join_r, src_s, src_f, src_t, src_r, if_true, if_false, Bool.not_true, Bool.not_false, Bool.false_eq_true]
    have e : (List.range (p + q)).map (fun j => D.str [letter p q j]) = (lowR p q).map fun c => D.str [c] := by unfold lowR; rw [List.map_map]; rfl
    rw [e] at hl1
    rw [hl1, wl_some, strs_ones, wT_some, if_pos (by rw [sum_ones]; exact line_of (by unfold lowR; rw [List.length_map, List.length_range]; omega)), joinL_nil, flat_ones]
    exact ⟨line_of (by decide), h T hp' hl2⟩
  · refine ⟨(List.prefix_append _ _).trans (List.prefix_append _ _), ?_, ?_, none, ?_⟩
    · rw [lst_pre (List.prefix_append _ _) (lst_new S [])]; rfl
    · have := lst_new (S ++ [Cell.lst []]) []
      rw [List.length_append] at this
      exact this
    · rw [rest_zero]
      simp
end K86

set_option Elab.async false
set_option linter.all false
set_option maxRecDepth 100000
set_option maxHeartbeats 1000000
namespace K86
open Mi Lw
variable {k : Nat} {S : Mem} {Q : D → Mem → Prop}
theorem at2_0 (a b : D) : L2.atI [a, b] 0 = some a := rfl
theorem low_in_ok (p q : Nat) (hp : p + q ≤ 10000) (h : ∀ T, S <+: T → Q (.str (lowR p q)) T) : Wp (run ds (k + 2) 2 [.int p, .int q] S) Q := by
  refine wp_run (d := d2) rfl rfl ?_
  simp only [d2, we_c, we_v, we_bin, we_neg, we_cmp, we_chn, we_no, we_and, we_or, we_ife, we_tup, we_lst, we_ix, we_sl, we_bi, we_mt, we_call, we_lrg1, we_lrg2, we_lc, ws_nil, ws_cons, wo_nil, wo_cons, wt_nil, wt_cons, wi_rng1, wi_rng2, wi_rng3, wi_of, wi_int, wS_asgN, wS_asgT, wS_asgS, wS_par2, wS_par3, wS_aug, wS_ex, wS_ret, wS_retN, wS_iff, wS_pass, wS_brk, wS_cont, wS_never, wS_nil, wS_cons, wS_for, wS_whl, wF_nx, wF_rt, wF_bk, wF_ct, wv_some, wb_some, wc_some, wm_some, wz_bl, wE_some, wN_some, wo_some, wo_none, wo_ite, List.getElem?_cons_zero, List.getElem?_cons_succ, List.set_cons_zero, List.set_cons_succ, List.map_cons, List.map_nil, List.cons_append, List.nil_append, List.append_nil, List.replicate_succ, List.replicate_zero, List.length_cons, List.length_nil, Bop.f, Cop.f, Bi.f, Im.f, wl_some, wj_some, wa_some, wbs_some, add_ii, add_ss, add_rr, sub_ii, mul_ii, mul_si, div_ii, mod_ii, pow_ii, neg_i, eq_ii, ne_ii, eq_ss, ne_ss, lt_ii, le_ii, gt_ii, ge_ii, eq_bb, ne_bb, in_cs, tr_b, tr_i, ix_r, ix_t, ix_f, ix_s, sl_s, sl_r, set_r, len_s, len_r, len_f, len_t, abs_i, max_ii, min_ii, max_r, min_r, int_i, int_b, list_r, sum_r, all_r, isi_ii, isi_ib, isi_ss, aug_ii, aug_sub, sel_app, sel_index, sel_pop, sel_count, sel_join, app_r, count_s, wx_some, idx_r, wT_some, join_r, src_s, src_f, src_t, src_r, if_true, if_false, Bool.not_true, Bool.not_false, Bool.false_eq_true]
  refine low_steps_ok p q hp fun T hT hl => ?_
  rw [ix_t, at2_0, wa_some]
  exact h T hT
/-- how many letters are r -/
theorem filter_r (cs : List Nat) : (((cs.map fun c => D.str [c]).filter (onS fun w => decide (w = [114]))).map fun d => d).length = cs.count 114 := by
  rw [List.map_id', List.filter_map, List.length_map, List.count_eq_length_filter]
  congr 1
  apply List.filter_congr
  intro c _
  show decide ([c] = [114]) = (c == 114)
  by_cases e : c = 114
  · rw [e]; rfl
  · rw [decide_eq_false (by intro z; exact e (List.cons.inj z).1)]; simp [e]
theorem counts_ok (cs : List Nat) (hl : cs.length ≤ 10000) (h : ∀ T, S <+: T → Q (.tup [.int (cs.count 114 : Nat), .int (cs.length - cs.count 114 : Nat)]) T) : Wp (run ds (k + 1) 3 [.str cs] S) Q := by
  refine wp_run (d := d3) rfl rfl ?_
  simp only [d3, we_c, we_v, we_bin, we_neg, we_cmp, we_chn, we_no, we_and, we_or, we_ife, we_tup, we_lst, we_ix, we_sl, we_bi, we_mt, we_call, we_lrg1, we_lrg2, we_lc, ws_nil, ws_cons, wo_nil, wo_cons, wt_nil, wt_cons, wi_rng1, wi_rng2, wi_rng3, wi_of, wi_int, wS_asgN, wS_asgT, wS_asgS, wS_par2, wS_par3, wS_aug, wS_ex, wS_ret, wS_retN, wS_iff, wS_pass, wS_brk, wS_cont, wS_never, wS_nil, wS_cons, wS_for, wS_whl, wF_nx, wF_rt, wF_bk, wF_ct, wv_some, wb_some, wc_some, wm_some, wz_bl, wE_some, wN_some, wo_some, wo_none, wo_ite, List.getElem?_cons_zero, List.getElem?_cons_succ, List.set_cons_zero, List.set_cons_succ, List.map_cons, List.map_nil, List.cons_append, List.nil_append, List.append_nil, List.replicate_succ, List.replicate_zero, List.length_cons, List.length_nil, Bop.f, Cop.f, Bi.f, Im.f, wl_some, wj_some, wa_some, wbs_some, add_ii, add_ss, add_rr, sub_ii, mul_ii, mul_si, div_ii, mod_ii, pow_ii, neg_i, eq_ii, ne_ii, eq_ss, ne_ss, lt_ii, le_ii, gt_ii, ge_ii, eq_bb, ne_bb, in_cs, tr_b, tr_i, ix_r, ix_t, ix_f, ix_s, sl_s, sl_r, set_r, len_s, len_r, len_f, len_t, abs_i, max_ii, min_ii, max_r, min_r, int_i, int_b, list_r, sum_r, all_r, isi_ii, isi_ib, isi_ss, aug_ii, aug_sub, sel_app, sel_index, sel_pop, sel_count, sel_join, app_r, count_s, wx_some, idx_r, wT_some, join_r, src_s, src_f, src_t, src_r, if_true, if_false, Bool.not_true, Bool.not_false, Bool.false_eq_true]
  refine wp_filter (onS fun w => decide (w = [114])) (fun d => d) (at_items _ _) (by rw [List.length_map]; exact line_of (by omega)) (fun d T hd hp => ?_) (fun T hp hl2 => ?_)
  · obtain ⟨c, h3, rfl⟩ := mem_str hd
    simp only [setT, wipeE, we_c, we_v, we_bin, we_neg, we_cmp, we_chn, we_no, we_and, we_or, we_ife, we_tup, we_lst, we_ix, we_sl, we_bi, we_mt, we_call, we_lrg1, we_lrg2, we_lc, ws_nil, ws_cons, wo_nil, wo_cons, wt_nil, wt_cons, wi_rng1, wi_rng2, wi_rng3, wi_of, wi_int, wS_asgN, wS_asgT, wS_asgS, wS_par2, wS_par3, wS_aug, wS_ex, wS_ret, wS_retN, wS_iff, wS_pass, wS_brk, wS_cont, wS_never, wS_nil, wS_cons, wS_for, wS_whl, wF_nx, wF_rt, wF_bk, wF_ct, wv_some, wb_some, wc_some, wm_some, wz_bl, wE_some, wN_some, wo_some, wo_none, wo_ite, List.getElem?_cons_zero, List.getElem?_cons_succ, List.set_cons_zero, List.set_cons_succ, List.map_cons, List.map_nil, List.cons_append, List.nil_append, List.append_nil, List.replicate_succ, List.replicate_zero, List.length_cons, List.length_nil, Bop.f, Cop.f, Bi.f, Im.f, wl_some, wj_some, wa_some, wbs_some, add_ii, add_ss, add_rr, sub_ii, mul_ii, mul_si, div_ii, mod_ii, pow_ii, neg_i, eq_ii, ne_ii, eq_ss, ne_ss, lt_ii, le_ii, gt_ii, ge_ii, eq_bb, ne_bb, in_cs, tr_b, tr_i, ix_r, ix_t, ix_f, ix_s, sl_s, sl_r, set_r, len_s, len_r, len_f, len_t, abs_i, max_ii, min_ii, max_r, min_r, int_i, int_b, list_r, sum_r, all_r, isi_ii, isi_ib, isi_ss, aug_ii, aug_sub, sel_app, sel_index, sel_pop, sel_count, sel_join, app_r, count_s, wx_some, idx_r, wT_some, join_r, src_s, src_f, src_t, src_r, if_true, if_false, Bool.not_true, Bool.not_false, Bool.false_eq_true]
    exact ⟨rfl, List.prefix_refl _, fun _ => ⟨trivial, List.prefix_refl _⟩⟩
  · rw [hl2, wl_some, filter_r]
    rw [if_pos (line_of (by omega))]
    have hc := List.count_le_length (a := 114) (l := cs)
    rw [show ((cs.length : Nat) : Int) - (cs.count 114 : Nat) = ((cs.length - cs.count 114 : Nat) : Int) by omega]
    exact ⟨line_of (by decide), h T hp⟩
/-- the first letter from which w is the low word -/
def firstO (w : List Nat) : Option Nat := if Nat.gcd (w.count 114) (w.length - w.count 114) = 1 then (List.range w.length).find? fun a => decide (((w ++ w).drop a).take w.length = lowR (w.count 114) (w.length - w.count 114)) else none
def optI : Option Nat → D
  | none => .non
  | some n => .int n
theorem first_ok (cs : List Nat) (h1 : 1 ≤ cs.length) (hl : cs.length ≤ 4000) (h : ∀ T, S <+: T → Q (optI (firstO cs)) T) : Wp (run ds (k + 3) 4 [.str cs] S) Q := by
  refine wp_run (d := d4) rfl rfl ?_
  simp only [d4, we_c, we_v, we_bin, we_neg, we_cmp, we_chn, we_no, we_and, we_or, we_ife, we_tup, we_lst, we_ix, we_sl, we_bi, we_mt, we_call, we_lrg1, we_lrg2, we_lc, ws_nil, ws_cons, wo_nil, wo_cons, wt_nil, wt_cons, wi_rng1, wi_rng2, wi_rng3, wi_of, wi_int, wS_asgN, wS_asgT, wS_asgS, wS_par2, wS_par3, wS_aug, wS_ex, wS_ret, wS_retN, wS_iff, wS_pass, wS_brk, wS_cont, wS_never, wS_nil, wS_cons, wS_for, wS_whl, wF_nx, wF_rt, wF_bk, wF_ct, wv_some, wb_some, wc_some, wm_some, wz_bl, wE_some, wN_some, wo_some, wo_none, wo_ite, List.getElem?_cons_zero, List.getElem?_cons_succ, List.set_cons_zero, List.set_cons_succ, List.map_cons, List.map_nil, List.cons_append, List.nil_append, List.append_nil, List.replicate_succ, List.replicate_zero, List.length_cons, List.length_nil, Bop.f, Cop.f, Bi.f, Im.f, wl_some, wj_some, wa_some, wbs_some, add_ii, add_ss, add_rr, sub_ii, mul_ii, mul_si, div_ii, mod_ii, pow_ii, neg_i, eq_ii, ne_ii, eq_ss, ne_ss, lt_ii, le_ii, gt_ii, ge_ii, eq_bb, ne_bb, in_cs, tr_b, tr_i, ix_r, ix_t, ix_f, ix_s, sl_s, sl_r, set_r, len_s, len_r, len_f, len_t, abs_i, max_ii, min_ii, max_r, min_r, int_i, int_b, list_r, sum_r, all_r, isi_ii, isi_ib, isi_ss, aug_ii, aug_sub, sel_app, sel_index, sel_pop, sel_count, sel_join, app_r, count_s, wx_some, idx_r, wT_some, join_r, src_s, src_f, src_t, src_r, if_true, if_false, Bool.not_true, Bool.not_false, Bool.false_eq_true]
  refine counts_ok cs (by omega) fun T hp => ?_
  have hc := List.count_le_length (a := 114) (l := cs)
  simp only [setT, setTs, we_c, we_v, we_bin, we_neg, we_cmp, we_chn, we_no, we_and, we_or, we_ife, we_tup, we_lst, we_ix, we_sl, we_bi, we_mt, we_call, we_lrg1, we_lrg2, we_lc, ws_nil, ws_cons, wo_nil, wo_cons, wt_nil, wt_cons, wi_rng1, wi_rng2, wi_rng3, wi_of, wi_int, wS_asgN, wS_asgT, wS_asgS, wS_par2, wS_par3, wS_aug, wS_ex, wS_ret, wS_retN, wS_iff, wS_pass, wS_brk, wS_cont, wS_never, wS_nil, wS_cons, wS_for, wS_whl, wF_nx, wF_rt, wF_bk, wF_ct, wv_some, wb_some, wc_some, wm_some, wz_bl, wE_some, wN_some, wo_some, wo_none, wo_ite, List.getElem?_cons_zero, List.getElem?_cons_succ, List.set_cons_zero, List.set_cons_succ, List.map_cons, List.map_nil, List.cons_append, List.nil_append, List.append_nil, List.replicate_succ, List.replicate_zero, List.length_cons, List.length_nil, Bop.f, Cop.f, Bi.f, Im.f, wl_some, wj_some, wa_some, wbs_some, add_ii, add_ss, add_rr, sub_ii, mul_ii, mul_si, div_ii, mod_ii, pow_ii, neg_i, eq_ii, ne_ii, eq_ss, ne_ss, lt_ii, le_ii, gt_ii, ge_ii, eq_bb, ne_bb, in_cs, tr_b, tr_i, ix_r, ix_t, ix_f, ix_s, sl_s, sl_r, set_r, len_s, len_r, len_f, len_t, abs_i, max_ii, min_ii, max_r, min_r, int_i, int_b, list_r, sum_r, all_r, isi_ii, isi_ib, isi_ss, aug_ii, aug_sub, sel_app, sel_index, sel_pop, sel_count, sel_join, app_r, count_s, wx_some, idx_r, wT_some, join_r, src_s, src_f, src_t, src_r, if_true, if_false, Bool.not_true, Bool.not_false, Bool.false_eq_true]
  refine share_ok _ _ (by omega) ?_
  unfold firstO at h
  rw [ne_ii, tr_b, wb_some]
  by_cases hg : Nat.gcd (cs.count 114) (cs.length - cs.count 114) = 1
  · rw [if_pos hg] at h
    rw [if_neg (by rw [hg]; simp)]
    refine low_in_ok _ _ (by omega) fun T2 hp2 => ?_
    rw [if_pos (line_of (by omega)), if_pos (line_of (by omega)), rng_1 _ (by omega), Int.toNat_natCast]
    refine wp_turns (rangeD 0 cs.length) (fun i e U => U = T2 ∧ (∀ j, j < i → ¬ ((cs ++ cs).drop j).take cs.length = lowR (cs.count 114) (cs.length - cs.count 114)) ∧ ∃ x, e = [some (.str cs), some (.int (cs.count 114 : Nat)), some (.int (cs.length - cs.count 114 : Nat)), some (.str (lowR (cs.count 114) (cs.length - cs.count 114))), some (.str (cs ++ cs)), x]) (fun _ _ _ _ => rfl) (fun i d e U hx hP => ?_) (fun e U hP => ?_) fuel 0 _ _ (by rw [range_len]; show _ < 1000000000; omega) (Nat.zero_le _) ⟨rfl, fun j hj => by omega, _, rfl⟩
    · obtain ⟨rfl, ha, x, rfl⟩ := hP
      obtain ⟨hi, rfl⟩ := range_get hx
      simp only [setT, we_c, we_v, we_bin, we_neg, we_cmp, we_chn, we_no, we_and, we_or, we_ife, we_tup, we_lst, we_ix, we_sl, we_bi, we_mt, we_call, we_lrg1, we_lrg2, we_lc, ws_nil, ws_cons, wo_nil, wo_cons, wt_nil, wt_cons, wi_rng1, wi_rng2, wi_rng3, wi_of, wi_int, wS_asgN, wS_asgT, wS_asgS, wS_par2, wS_par3, wS_aug, wS_ex, wS_ret, wS_retN, wS_iff, wS_pass, wS_brk, wS_cont, wS_never, wS_nil, wS_cons, wS_for, wS_whl, wF_nx, wF_rt, wF_bk, wF_ct, wv_some, wb_some, wc_some, wm_some, wz_bl, wE_some, wN_some, wo_some, wo_none, wo_ite, List.getElem?_cons_zero, List.getElem?_cons_succ, List.set_cons_zero, List.set_cons_succ, List.map_cons, List.map_nil, List.cons_append, List.nil_append, List.append_nil, List.replicate_succ, List.replicate_zero, List.length_cons, List.length_nil, Bop.f, Cop.f, Bi.f, Im.f, wl_some, wj_some, wa_some, wbs_some, add_ii, add_ss, add_rr, sub_ii, mul_ii, mul_si, div_ii, mod_ii, pow_ii, neg_i, eq_ii, ne_ii, eq_ss, ne_ss, lt_ii, le_ii, gt_ii, ge_ii, eq_bb, ne_bb, in_cs, tr_b, tr_i, ix_r, ix_t, ix_f, ix_s, sl_s, sl_r, set_r, len_s, len_r, len_f, len_t, abs_i, max_ii, min_ii, max_r, min_r, int_i, int_b, list_r, sum_r, all_r, isi_ii, isi_ib, isi_ss, aug_ii, aug_sub, sel_app, sel_index, sel_pop, sel_count, sel_join, app_r, count_s, wx_some, idx_r, wT_some, join_r, src_s, src_f, src_t, src_r, if_true, if_false, Bool.not_true, Bool.not_false, Bool.false_eq_true, decide_eq_true_eq]
      rw [if_pos (line_of (by omega))]
      rw [if_pos (line_of (by rw [List.length_append]; omega)), show (0 + (i : Nat) : Int) = ((i : Nat) : Int) by omega, show ((i : Nat) : Int) + (cs.length : Nat) = ((i + cs.length : Nat) : Int) by omega, cut_nat, show i + cs.length - i = cs.length by omega]
      by_cases c : ((cs ++ cs).drop i).take cs.length = lowR (cs.count 114) (cs.length - cs.count 114)
      · rw [if_pos c]
        have e : (List.range cs.length).find? (fun a => decide (((cs ++ cs).drop a).take cs.length = lowR (cs.count 114) (cs.length - cs.count 114))) = some i := by
          rw [List.find?_range_eq_some]
          exact ⟨decide_eq_true c, List.mem_range.mpr hi, fun j hj => by rw [Bool.not_eq_true', decide_eq_false_iff_not]; exact ha j hj⟩
        rw [e] at h
        exact h U (hp.trans hp2)
      · rw [if_neg c]
        refine ⟨trivial, fun j hj => ?_, _, rfl⟩
        by_cases e : j = i
        · rw [e]; exact c
        · exact ha j (by omega)
    · obtain ⟨rfl, ha, x, rfl⟩ := hP
      rw [range_len] at ha
      have e : (List.range cs.length).find? (fun a => decide (((cs ++ cs).drop a).take cs.length = lowR (cs.count 114) (cs.length - cs.count 114))) = none := by
        rw [List.find?_eq_none]
        intro a hm
        rw [decide_eq_true_eq]
        exact ha a (List.mem_range.mp hm)
      rw [e] at h
      simp only [we_c, we_v, we_bin, we_neg, we_cmp, we_chn, we_no, we_and, we_or, we_ife, we_tup, we_lst, we_ix, we_sl, we_bi, we_mt, we_call, we_lrg1, we_lrg2, we_lc, ws_nil, ws_cons, wo_nil, wo_cons, wt_nil, wt_cons, wi_rng1, wi_rng2, wi_rng3, wi_of, wi_int, wS_asgN, wS_asgT, wS_asgS, wS_par2, wS_par3, wS_aug, wS_ex, wS_ret, wS_retN, wS_iff, wS_pass, wS_brk, wS_cont, wS_never, wS_nil, wS_cons, wS_for, wS_whl, wF_nx, wF_rt, wF_bk, wF_ct, wv_some, wb_some, wc_some, wm_some, wz_bl, wE_some, wN_some, wo_some, wo_none, wo_ite, List.getElem?_cons_zero, List.getElem?_cons_succ, List.set_cons_zero, List.set_cons_succ, List.map_cons, List.map_nil, List.cons_append, List.nil_append, List.append_nil, List.replicate_succ, List.replicate_zero, List.length_cons, List.length_nil, Bop.f, Cop.f, Bi.f, Im.f, wl_some, wj_some, wa_some, wbs_some, add_ii, add_ss, add_rr, sub_ii, mul_ii, mul_si, div_ii, mod_ii, pow_ii, neg_i, eq_ii, ne_ii, eq_ss, ne_ss, lt_ii, le_ii, gt_ii, ge_ii, eq_bb, ne_bb, in_cs, tr_b, tr_i, ix_r, ix_t, ix_f, ix_s, sl_s, sl_r, set_r, len_s, len_r, len_f, len_t, abs_i, max_ii, min_ii, max_r, min_r, int_i, int_b, list_r, sum_r, all_r, isi_ii, isi_ib, isi_ss, aug_ii, aug_sub, sel_app, sel_index, sel_pop, sel_count, sel_join, app_r, count_s, wx_some, idx_r, wT_some, join_r, src_s, src_f, src_t, src_r, if_true, if_false, Bool.not_true, Bool.not_false, Bool.false_eq_true]
      exact h U (hp.trans hp2)
  · rw [if_neg hg] at h
    rw [if_pos (by simp; omega)]
    exact h T hp
end K86

set_option Elab.async false
set_option linter.all false
set_option maxRecDepth 100000
set_option maxHeartbeats 1000000
namespace K86
open Mi Lw
variable {k : Nat} {S : Mem} {Q : D → Mem → Prop}
def wG (w : List Nat) (size many : Nat) : List Int := (List.range many).map fun a => pre w (a + size) - pre w a
theorem wG_len (w : List Nat) (size many : Nat) : (wG w size many).length = many := by unfold wG; rw [List.length_map, List.length_range]
theorem wG_get {w : List Nat} {size many i : Nat} {x : Int} (h : (wG w size many)[i]? = some x) : i < many ∧ x = pre w (i + size) - pre w i := by
  have hi : i < many := by
    have := (List.getElem?_eq_some_iff.mp h).1
    rw [wG_len] at this
    exact this
  unfold wG at h
  rw [List.getElem?_map, List.getElem?_range hi] at h
  exact ⟨hi, (Option.some.inj h).symm⟩
theorem first_at {i : Int} {is : List Int} {m : Nat} (h : firstAt (.int i) (is.map D.int) 0 = some m) : is[m]? = some i := by
  obtain ⟨m', e, ⟨z, h1, h2⟩, _⟩ := firstAt_spec _ _ _ _ h
  rw [Nat.zero_add] at e
  subst e
  rw [List.getElem?_map] at h1
  cases e : is[m]? with
  | none => rw [e] at h1; cases h1
  | some x =>
    rw [e] at h1
    cases h1
    have : (x == i) = true := h2
    rw [eq_of_beq this]
theorem extremes_gen (w : List Nat) (n size many : Nat) (h0 : 1 ≤ many) (h1 : size + many ≤ w.length + 1) (h2 : w.length ≤ 10000) (hl : lstAt S n = some (preL w (w.length + 1)))
    (h : ∀ T i j, S <+: T → i < many → j < many → (pre w (j + size) - pre w j) - (pre w (i + size) - pre w i) = spread (wG w size many) → Q (.tup [.int (spread (wG w size many)), .int (i : Nat), .int (j : Nat)]) T) :
    Wp (run ds (k + 1) 6 [.ref n, .int size, .int many] S) Q := by
  refine wp_run (d := d6) rfl rfl ?_
  simp only [d6, we_c, we_v, we_bin, we_neg, we_cmp, we_chn, we_no, we_and, we_or, we_ife, we_tup, we_lst, we_ix, we_sl, we_bi, we_mt, we_call, we_lrg1, we_lrg2, we_lc, ws_nil, ws_cons, wo_nil, wo_cons, wt_nil, wt_cons, wi_rng1, wi_rng2, wi_rng3, wi_of, wi_int, wS_asgN, wS_asgT, wS_asgS, wS_par2, wS_par3, wS_aug, wS_ex, wS_ret, wS_retN, wS_iff, wS_pass, wS_brk, wS_cont, wS_never, wS_nil, wS_cons, wS_for, wS_whl, wF_nx, wF_rt, wF_bk, wF_ct, wv_some, wb_some, wc_some, wm_some, wz_bl, wE_some, wN_some, wo_some, wo_none, wo_ite, List.getElem?_cons_zero, List.getElem?_cons_succ, List.set_cons_zero, List.set_cons_succ, List.map_cons, List.map_nil, List.cons_append, List.nil_append, List.append_nil, List.replicate_succ, List.replicate_zero, List.length_cons, List.length_nil, Bop.f, Cop.f, Bi.f, Im.f, wl_some, wj_some, wa_some, wbs_some, add_ii, add_ss, add_rr, sub_ii, mul_ii, mul_si, div_ii, mod_ii, pow_ii, neg_i, eq_ii, ne_ii, eq_ss, ne_ss, lt_ii, le_ii, gt_ii, ge_ii, eq_bb, ne_bb, in_cs, tr_b, tr_i, ix_r, ix_t, ix_f, ix_s, sl_s, sl_r, set_r, len_s, len_r, len_f, len_t, abs_i, max_ii, min_ii, max_r, min_r, int_i, int_b, list_r, sum_r, all_r, isi_ii, isi_ib, isi_ss, aug_ii, aug_sub, sel_app, sel_index, sel_pop, sel_count, sel_join, app_r, count_s, wx_some, idx_r, wT_some, join_r, src_s, src_f, src_t, src_r, if_true, if_false, Bool.not_true, Bool.not_false, Bool.false_eq_true, decide_eq_true_eq]
  rw [rng_1 _ (by omega), Int.toNat_natCast]
  refine wp_map (onI fun a => .int (pre w (a.toNat + size) - pre w a.toNat)) (at_items _ _) (by rw [range_len]; exact line_of (by omega)) (fun d T hd hp => ?_) (fun T hp hl2 => ?_)
  · obtain ⟨i, hi, rfl⟩ := mem_range hd
    simp only [setT, wipeE, we_c, we_v, we_bin, we_neg, we_cmp, we_chn, we_no, we_and, we_or, we_ife, we_tup, we_lst, we_ix, we_sl, we_bi, we_mt, we_call, we_lrg1, we_lrg2, we_lc, ws_nil, ws_cons, wo_nil, wo_cons, wt_nil, wt_cons, wi_rng1, wi_rng2, wi_rng3, wi_of, wi_int, wS_asgN, wS_asgT, wS_asgS, wS_par2, wS_par3, wS_aug, wS_ex, wS_ret, wS_retN, wS_iff, wS_pass, wS_brk, wS_cont, wS_never, wS_nil, wS_cons, wS_for, wS_whl, wF_nx, wF_rt, wF_bk, wF_ct, wv_some, wb_some, wc_some, wm_some, wz_bl, wE_some, wN_some, wo_some, wo_none, wo_ite, List.getElem?_cons_zero, List.getElem?_cons_succ, List.set_cons_zero, List.set_cons_succ, List.map_cons, List.map_nil, List.cons_append, List.nil_append, List.append_nil, List.replicate_succ, List.replicate_zero, List.length_cons, List.length_nil, Bop.f, Cop.f, Bi.f, Im.f, wl_some, wj_some, wa_some, wbs_some, add_ii, add_ss, add_rr, sub_ii, mul_ii, mul_si, div_ii, mod_ii, pow_ii, neg_i, eq_ii, ne_ii, eq_ss, ne_ss, lt_ii, le_ii, gt_ii, ge_ii, eq_bb, ne_bb, in_cs, tr_b, tr_i, ix_r, ix_t, ix_f, ix_s, sl_s, sl_r, set_r, len_s, len_r, len_f, len_t, abs_i, max_ii, min_ii, max_r, min_r, int_i, int_b, list_r, sum_r, all_r, isi_ii, isi_ib, isi_ss, aug_ii, aug_sub, sel_app, sel_index, sel_pop, sel_count, sel_join, app_r, count_s, wx_some, idx_r, wT_some, join_r, src_s, src_f, src_t, src_r, if_true, if_false, Bool.not_true, Bool.not_false, Bool.false_eq_true, lst_pre hp hl, decide_eq_true_eq]
    rw [show (0 + (i : Nat) : Int) + (size : Nat) = ((i + size : Nat) : Int) by omega, show (0 + (i : Nat) : Int) = ((i : Nat) : Int) by omega, atI_nat, atI_nat, preL_get (by omega), preL_get (by omega)]
    simp only [we_c, we_v, we_bin, we_neg, we_cmp, we_chn, we_no, we_and, we_or, we_ife, we_tup, we_lst, we_ix, we_sl, we_bi, we_mt, we_call, we_lrg1, we_lrg2, we_lc, ws_nil, ws_cons, wo_nil, wo_cons, wt_nil, wt_cons, wi_rng1, wi_rng2, wi_rng3, wi_of, wi_int, wS_asgN, wS_asgT, wS_asgS, wS_par2, wS_par3, wS_aug, wS_ex, wS_ret, wS_retN, wS_iff, wS_pass, wS_brk, wS_cont, wS_never, wS_nil, wS_cons, wS_for, wS_whl, wF_nx, wF_rt, wF_bk, wF_ct, wv_some, wb_some, wc_some, wm_some, wz_bl, wE_some, wN_some, wo_some, wo_none, wo_ite, List.getElem?_cons_zero, List.getElem?_cons_succ, List.set_cons_zero, List.set_cons_succ, List.map_cons, List.map_nil, List.cons_append, List.nil_append, List.append_nil, List.replicate_succ, List.replicate_zero, List.length_cons, List.length_nil, Bop.f, Cop.f, Bi.f, Im.f, wl_some, wj_some, wa_some, wbs_some, add_ii, add_ss, add_rr, sub_ii, mul_ii, mul_si, div_ii, mod_ii, pow_ii, neg_i, eq_ii, ne_ii, eq_ss, ne_ss, lt_ii, le_ii, gt_ii, ge_ii, eq_bb, ne_bb, in_cs, tr_b, tr_i, ix_r, ix_t, ix_f, ix_s, sl_s, sl_r, set_r, len_s, len_r, len_f, len_t, abs_i, max_ii, min_ii, max_r, min_r, int_i, int_b, list_r, sum_r, all_r, isi_ii, isi_ib, isi_ss, aug_ii, aug_sub, sel_app, sel_index, sel_pop, sel_count, sel_join, app_r, count_s, wx_some, idx_r, wT_some, join_r, src_s, src_f, src_t, src_r, if_true, if_false, Bool.not_true, Bool.not_false, Bool.false_eq_true]
    exact ⟨by show _ = D.int _; rw [Int.toNat_natCast], List.prefix_refl _⟩
  · have hw : (rangeD 0 many).map (onI fun a => .int (pre w (a.toNat + size) - pre w a.toNat)) = (wG w size many).map D.int := by
      rw [range_map]
      unfold wG
      rw [List.map_map]
      apply List.map_congr_left
      intro i _
      show D.int _ = D.int _
      rw [show (0 + (i : Nat) : Int).toNat = i by omega]
    rw [hw] at hl2
    simp only [hl2, we_c, we_v, we_bin, we_neg, we_cmp, we_chn, we_no, we_and, we_or, we_ife, we_tup, we_lst, we_ix, we_sl, we_bi, we_mt, we_call, we_lrg1, we_lrg2, we_lc, ws_nil, ws_cons, wo_nil, wo_cons, wt_nil, wt_cons, wi_rng1, wi_rng2, wi_rng3, wi_of, wi_int, wS_asgN, wS_asgT, wS_asgS, wS_par2, wS_par3, wS_aug, wS_ex, wS_ret, wS_retN, wS_iff, wS_pass, wS_brk, wS_cont, wS_never, wS_nil, wS_cons, wS_for, wS_whl, wF_nx, wF_rt, wF_bk, wF_ct, wv_some, wb_some, wc_some, wm_some, wz_bl, wE_some, wN_some, wo_some, wo_none, wo_ite, List.getElem?_cons_zero, List.getElem?_cons_succ, List.set_cons_zero, List.set_cons_succ, List.map_cons, List.map_nil, List.cons_append, List.nil_append, List.append_nil, List.replicate_succ, List.replicate_zero, List.length_cons, List.length_nil, Bop.f, Cop.f, Bi.f, Im.f, wl_some, wj_some, wa_some, wbs_some, add_ii, add_ss, add_rr, sub_ii, mul_ii, mul_si, div_ii, mod_ii, pow_ii, neg_i, eq_ii, ne_ii, eq_ss, ne_ss, lt_ii, le_ii, gt_ii, ge_ii, eq_bb, ne_bb, in_cs, tr_b, tr_i, ix_r, ix_t, ix_f, ix_s, sl_s, sl_r, set_r, len_s, len_r, len_f, len_t, abs_i, max_ii, min_ii, max_r, min_r, int_i, int_b, list_r, sum_r, all_r, isi_ii, isi_ib, isi_ss, aug_ii, aug_sub, sel_app, sel_index, sel_pop, sel_count, sel_join, app_r, count_s, wx_some, idx_r, wT_some, join_r, src_s, src_f, src_t, src_r, if_true, if_false, Bool.not_true, Bool.not_false, Bool.false_eq_true, intsD_map]
    have hne : wG w size many ≠ [] := by
      intro e
      have := congrArg List.length e
      rw [wG_len] at this
      simp at this
      omega
    refine hd_spread hne fun a b ha hb hab => ?_
    obtain ⟨m1, e1⟩ := first_int a _ 0 ha
    obtain ⟨m2, e2⟩ := first_int b _ 0 hb
    obtain ⟨i1, i2⟩ := wG_get (first_at e1)
    obtain ⟨j1, j2⟩ := wG_get (first_at e2)
    rw [if_pos ⟨rfl, flat_ints _⟩, e1]
    simp only [hl2, we_c, we_v, we_bin, we_neg, we_cmp, we_chn, we_no, we_and, we_or, we_ife, we_tup, we_lst, we_ix, we_sl, we_bi, we_mt, we_call, we_lrg1, we_lrg2, we_lc, ws_nil, ws_cons, wo_nil, wo_cons, wt_nil, wt_cons, wi_rng1, wi_rng2, wi_rng3, wi_of, wi_int, wS_asgN, wS_asgT, wS_asgS, wS_par2, wS_par3, wS_aug, wS_ex, wS_ret, wS_retN, wS_iff, wS_pass, wS_brk, wS_cont, wS_never, wS_nil, wS_cons, wS_for, wS_whl, wF_nx, wF_rt, wF_bk, wF_ct, wv_some, wb_some, wc_some, wm_some, wz_bl, wE_some, wN_some, wo_some, wo_none, wo_ite, List.getElem?_cons_zero, List.getElem?_cons_succ, List.set_cons_zero, List.set_cons_succ, List.map_cons, List.map_nil, List.cons_append, List.nil_append, List.append_nil, List.replicate_succ, List.replicate_zero, List.length_cons, List.length_nil, Bop.f, Cop.f, Bi.f, Im.f, wl_some, wj_some, wa_some, wbs_some, add_ii, add_ss, add_rr, sub_ii, mul_ii, mul_si, div_ii, mod_ii, pow_ii, neg_i, eq_ii, ne_ii, eq_ss, ne_ss, lt_ii, le_ii, gt_ii, ge_ii, eq_bb, ne_bb, in_cs, tr_b, tr_i, ix_r, ix_t, ix_f, ix_s, sl_s, sl_r, set_r, len_s, len_r, len_f, len_t, abs_i, max_ii, min_ii, max_r, min_r, int_i, int_b, list_r, sum_r, all_r, isi_ii, isi_ib, isi_ss, aug_ii, aug_sub, sel_app, sel_index, sel_pop, sel_count, sel_join, app_r, count_s, wx_some, idx_r, wT_some, join_r, src_s, src_f, src_t, src_r, if_true, if_false, Bool.not_true, Bool.not_false, Bool.false_eq_true]
    rw [if_pos ⟨rfl, flat_ints _⟩, e2]
    simp only [we_c, we_v, we_bin, we_neg, we_cmp, we_chn, we_no, we_and, we_or, we_ife, we_tup, we_lst, we_ix, we_sl, we_bi, we_mt, we_call, we_lrg1, we_lrg2, we_lc, ws_nil, ws_cons, wo_nil, wo_cons, wt_nil, wt_cons, wi_rng1, wi_rng2, wi_rng3, wi_of, wi_int, wS_asgN, wS_asgT, wS_asgS, wS_par2, wS_par3, wS_aug, wS_ex, wS_ret, wS_retN, wS_iff, wS_pass, wS_brk, wS_cont, wS_never, wS_nil, wS_cons, wS_for, wS_whl, wF_nx, wF_rt, wF_bk, wF_ct, wv_some, wb_some, wc_some, wm_some, wz_bl, wE_some, wN_some, wo_some, wo_none, wo_ite, List.getElem?_cons_zero, List.getElem?_cons_succ, List.set_cons_zero, List.set_cons_succ, List.map_cons, List.map_nil, List.cons_append, List.nil_append, List.append_nil, List.replicate_succ, List.replicate_zero, List.length_cons, List.length_nil, Bop.f, Cop.f, Bi.f, Im.f, wl_some, wj_some, wa_some, wbs_some, add_ii, add_ss, add_rr, sub_ii, mul_ii, mul_si, div_ii, mod_ii, pow_ii, neg_i, eq_ii, ne_ii, eq_ss, ne_ss, lt_ii, le_ii, gt_ii, ge_ii, eq_bb, ne_bb, in_cs, tr_b, tr_i, ix_r, ix_t, ix_f, ix_s, sl_s, sl_r, set_r, len_s, len_r, len_f, len_t, abs_i, max_ii, min_ii, max_r, min_r, int_i, int_b, list_r, sum_r, all_r, isi_ii, isi_ib, isi_ss, aug_ii, aug_sub, sel_app, sel_index, sel_pop, sel_count, sel_join, app_r, count_s, wx_some, idx_r, wT_some, join_r, src_s, src_f, src_t, src_r, if_true, if_false, Bool.not_true, Bool.not_false, Bool.false_eq_true, hab]
    exact ⟨line_of (by decide), h T m1 m2 hp i1 j1 (by rw [← i2, ← j2]; exact hab)⟩
/-- every size's windows, read round, differ by one at most -/
def evenTo (w : List Nat) (n : Nat) : Prop := ∀ s, 1 ≤ s → s ≤ n → ¬ 1 < spread (wG (w ++ w) s w.length)
theorem uneven_ok (w : List Nat) (h1 : 1 ≤ w.length) (h2 : w.length ≤ 1000) (hno : evenTo w w.length → ∀ T, S <+: T → Q .non T)
    (h : ∀ T i j s, S <+: T → i < w.length → j < w.length → 1 ≤ s → s ≤ w.length → 1 < (pre (w ++ w) (j + s) - pre (w ++ w) j) - (pre (w ++ w) (i + s) - pre (w ++ w) i) → Q (.tup [.int (i : Nat), .int (j : Nat), .int (s : Nat)]) T) :
    Wp (run ds (k + 2) 7 [.str w] S) Q := by
  refine wp_run (d := d7) rfl rfl ?_
  simp only [d7, we_c, we_v, we_bin, we_neg, we_cmp, we_chn, we_no, we_and, we_or, we_ife, we_tup, we_lst, we_ix, we_sl, we_bi, we_mt, we_call, we_lrg1, we_lrg2, we_lc, ws_nil, ws_cons, wo_nil, wo_cons, wt_nil, wt_cons, wi_rng1, wi_rng2, wi_rng3, wi_of, wi_int, wS_asgN, wS_asgT, wS_asgS, wS_par2, wS_par3, wS_aug, wS_ex, wS_ret, wS_retN, wS_iff, wS_pass, wS_brk, wS_cont, wS_never, wS_nil, wS_cons, wS_for, wS_whl, wF_nx, wF_rt, wF_bk, wF_ct, wv_some, wb_some, wc_some, wm_some, wz_bl, wE_some, wN_some, wo_some, wo_none, wo_ite, List.getElem?_cons_zero, List.getElem?_cons_succ, List.set_cons_zero, List.set_cons_succ, List.map_cons, List.map_nil, List.cons_append, List.nil_append, List.append_nil, List.replicate_succ, List.replicate_zero, List.length_cons, List.length_nil, Bop.f, Cop.f, Bi.f, Im.f, wl_some, wj_some, wa_some, wbs_some, add_ii, add_ss, add_rr, sub_ii, mul_ii, mul_si, div_ii, mod_ii, pow_ii, neg_i, eq_ii, ne_ii, eq_ss, ne_ss, lt_ii, le_ii, gt_ii, ge_ii, eq_bb, ne_bb, in_cs, tr_b, tr_i, ix_r, ix_t, ix_f, ix_s, sl_s, sl_r, set_r, len_s, len_r, len_f, len_t, abs_i, max_ii, min_ii, max_r, min_r, int_i, int_b, list_r, sum_r, all_r, isi_ii, isi_ib, isi_ss, aug_ii, aug_sub, sel_app, sel_index, sel_pop, sel_count, sel_join, app_r, count_s, wx_some, idx_r, wT_some, join_r, src_s, src_f, src_t, src_r, if_true, if_false, Bool.not_true, Bool.not_false, Bool.false_eq_true]
  rw [if_pos (line_of (by omega))]
  refine sums_in_ok (w ++ w) (by rw [List.length_append]; omega) fun T hp _ hl => ?_
  rw [if_pos (line_of (by omega)), rng_2 _ _ (by omega)]
  refine wp_turns (rangeD 1 (((w.length : Nat) : Int) + 1 - 1).toNat) (fun i e U => T <+: U ∧ evenTo w i ∧ ∃ x2 x3 x4 x5, e = [some (.str w), some (.ref S.length), x2, x3, x4, x5]) (fun _ _ _ _ => rfl) (fun i d e U hx hP => ?_) (fun e U hP => ?_) fuel 0 _ _ (by rw [range_len]; show _ < 1000000000; omega) (Nat.zero_le _) ⟨List.prefix_refl _, fun s a b => by omega, _, _, _, _, rfl⟩
  · obtain ⟨hpU, he, x2, x3, x4, x5, rfl⟩ := hP
    obtain ⟨hi, rfl⟩ := range_get hx
    simp only [setT, we_c, we_v, we_bin, we_neg, we_cmp, we_chn, we_no, we_and, we_or, we_ife, we_tup, we_lst, we_ix, we_sl, we_bi, we_mt, we_call, we_lrg1, we_lrg2, we_lc, ws_nil, ws_cons, wo_nil, wo_cons, wt_nil, wt_cons, wi_rng1, wi_rng2, wi_rng3, wi_of, wi_int, wS_asgN, wS_asgT, wS_asgS, wS_par2, wS_par3, wS_aug, wS_ex, wS_ret, wS_retN, wS_iff, wS_pass, wS_brk, wS_cont, wS_never, wS_nil, wS_cons, wS_for, wS_whl, wF_nx, wF_rt, wF_bk, wF_ct, wv_some, wb_some, wc_some, wm_some, wz_bl, wE_some, wN_some, wo_some, wo_none, wo_ite, List.getElem?_cons_zero, List.getElem?_cons_succ, List.set_cons_zero, List.set_cons_succ, List.map_cons, List.map_nil, List.cons_append, List.nil_append, List.append_nil, List.replicate_succ, List.replicate_zero, List.length_cons, List.length_nil, Bop.f, Cop.f, Bi.f, Im.f, wl_some, wj_some, wa_some, wbs_some, add_ii, add_ss, add_rr, sub_ii, mul_ii, mul_si, div_ii, mod_ii, pow_ii, neg_i, eq_ii, ne_ii, eq_ss, ne_ss, lt_ii, le_ii, gt_ii, ge_ii, eq_bb, ne_bb, in_cs, tr_b, tr_i, ix_r, ix_t, ix_f, ix_s, sl_s, sl_r, set_r, len_s, len_r, len_f, len_t, abs_i, max_ii, min_ii, max_r, min_r, int_i, int_b, list_r, sum_r, all_r, isi_ii, isi_ib, isi_ss, aug_ii, aug_sub, sel_app, sel_index, sel_pop, sel_count, sel_join, app_r, count_s, wx_some, idx_r, wT_some, join_r, src_s, src_f, src_t, src_r, if_true, if_false, Bool.not_true, Bool.not_false, Bool.false_eq_true]
    rw [if_pos (line_of (by omega)), show (1 + (i : Nat) : Int) = ((i + 1 : Nat) : Int) by omega]
    refine extremes_gen (w ++ w) _ (i + 1) w.length h1 (by rw [List.length_append]; omega) (by rw [List.length_append]; omega) (lst_pre hpU hl) fun V a b hpV ha hb hab => ?_
    simp only [setT, setTs, we_c, we_v, we_bin, we_neg, we_cmp, we_chn, we_no, we_and, we_or, we_ife, we_tup, we_lst, we_ix, we_sl, we_bi, we_mt, we_call, we_lrg1, we_lrg2, we_lc, ws_nil, ws_cons, wo_nil, wo_cons, wt_nil, wt_cons, wi_rng1, wi_rng2, wi_rng3, wi_of, wi_int, wS_asgN, wS_asgT, wS_asgS, wS_par2, wS_par3, wS_aug, wS_ex, wS_ret, wS_retN, wS_iff, wS_pass, wS_brk, wS_cont, wS_never, wS_nil, wS_cons, wS_for, wS_whl, wF_nx, wF_rt, wF_bk, wF_ct, wv_some, wb_some, wc_some, wm_some, wz_bl, wE_some, wN_some, wo_some, wo_none, wo_ite, List.getElem?_cons_zero, List.getElem?_cons_succ, List.set_cons_zero, List.set_cons_succ, List.map_cons, List.map_nil, List.cons_append, List.nil_append, List.append_nil, List.replicate_succ, List.replicate_zero, List.length_cons, List.length_nil, Bop.f, Cop.f, Bi.f, Im.f, wl_some, wj_some, wa_some, wbs_some, add_ii, add_ss, add_rr, sub_ii, mul_ii, mul_si, div_ii, mod_ii, pow_ii, neg_i, eq_ii, ne_ii, eq_ss, ne_ss, lt_ii, le_ii, gt_ii, ge_ii, eq_bb, ne_bb, in_cs, tr_b, tr_i, ix_r, ix_t, ix_f, ix_s, sl_s, sl_r, set_r, len_s, len_r, len_f, len_t, abs_i, max_ii, min_ii, max_r, min_r, int_i, int_b, list_r, sum_r, all_r, isi_ii, isi_ib, isi_ss, aug_ii, aug_sub, sel_app, sel_index, sel_pop, sel_count, sel_join, app_r, count_s, wx_some, idx_r, wT_some, join_r, src_s, src_f, src_t, src_r, if_true, if_false, Bool.not_true, Bool.not_false, Bool.false_eq_true, decide_eq_true_eq]
    by_cases c : 1 < spread (wG (w ++ w) (i + 1) w.length)
    · rw [if_pos c]
      exact ⟨line_of (by decide), h V a b (i + 1) (hp.trans (hpU.trans hpV)) ha hb (by omega) (by omega) (by rw [hab]; exact c)⟩
    · rw [if_neg c]
      refine ⟨hpU.trans hpV, fun s s1 s2 => ?_, _, _, _, _, rfl⟩
      by_cases e : s = i + 1
      · rw [e]; exact c
      · exact he s s1 (by omega)
  · obtain ⟨hpU, he, x2, x3, x4, x5, rfl⟩ := hP
    rw [range_len, show (((w.length : Nat) : Int) + 1 - 1).toNat = w.length by omega] at he
    simp only [we_c, we_v, we_bin, we_neg, we_cmp, we_chn, we_no, we_and, we_or, we_ife, we_tup, we_lst, we_ix, we_sl, we_bi, we_mt, we_call, we_lrg1, we_lrg2, we_lc, ws_nil, ws_cons, wo_nil, wo_cons, wt_nil, wt_cons, wi_rng1, wi_rng2, wi_rng3, wi_of, wi_int, wS_asgN, wS_asgT, wS_asgS, wS_par2, wS_par3, wS_aug, wS_ex, wS_ret, wS_retN, wS_iff, wS_pass, wS_brk, wS_cont, wS_never, wS_nil, wS_cons, wS_for, wS_whl, wF_nx, wF_rt, wF_bk, wF_ct, wv_some, wb_some, wc_some, wm_some, wz_bl, wE_some, wN_some, wo_some, wo_none, wo_ite, List.getElem?_cons_zero, List.getElem?_cons_succ, List.set_cons_zero, List.set_cons_succ, List.map_cons, List.map_nil, List.cons_append, List.nil_append, List.append_nil, List.replicate_succ, List.replicate_zero, List.length_cons, List.length_nil, Bop.f, Cop.f, Bi.f, Im.f, wl_some, wj_some, wa_some, wbs_some, add_ii, add_ss, add_rr, sub_ii, mul_ii, mul_si, div_ii, mod_ii, pow_ii, neg_i, eq_ii, ne_ii, eq_ss, ne_ss, lt_ii, le_ii, gt_ii, ge_ii, eq_bb, ne_bb, in_cs, tr_b, tr_i, ix_r, ix_t, ix_f, ix_s, sl_s, sl_r, set_r, len_s, len_r, len_f, len_t, abs_i, max_ii, min_ii, max_r, min_r, int_i, int_b, list_r, sum_r, all_r, isi_ii, isi_ib, isi_ss, aug_ii, aug_sub, sel_app, sel_index, sel_pop, sel_count, sel_join, app_r, count_s, wx_some, idx_r, wT_some, join_r, src_s, src_f, src_t, src_r, if_true, if_false, Bool.not_true, Bool.not_false, Bool.false_eq_true]
    exact hno he U (hp.trans hpU)
end K86

set_option Elab.async false
set_option linter.all false
set_option maxRecDepth 100000
set_option maxHeartbeats 1000000
namespace K86
open Mi Lw
variable {k : Nat} {S : Mem} {Q : D → Mem → Prop}
theorem isn_opt (o : Option Nat) : WpO (fIsn (optI o) .non S) Q = Q (.bl o.isSome) S := by cases o <;> rfl
theorem is_opt (o : Option Nat) : WpO (fIs (optI o) .non S) Q = Q (.bl o.isNone) S := by cases o <;> rfl
theorem is_straight_ok (w : List Nat) (h1 : 1 ≤ w.length) (h2 : w.length ≤ 1000) (hr : Ru w) (h : ∀ T, S <+: T → Q (.bl (firstO w).isSome) T) : Wp (run ds (k + 4) 14 [.str w] S) Q := by
  refine wp_run (d := d14) rfl rfl ?_
  simp only [d14, we_c, we_v, we_bin, we_neg, we_cmp, we_chn, we_no, we_and, we_or, we_ife, we_tup, we_lst, we_ix, we_sl, we_bi, we_mt, we_call, we_lrg1, we_lrg2, we_lc, ws_nil, ws_cons, wo_nil, wo_cons, wt_nil, wt_cons, wi_rng1, wi_rng2, wi_rng3, wi_of, wi_int, wS_asgN, wS_asgT, wS_asgS, wS_par2, wS_par3, wS_aug, wS_ex, wS_ret, wS_retN, wS_iff, wS_pass, wS_brk, wS_cont, wS_never, wS_nil, wS_cons, wS_for, wS_whl, wF_nx, wF_rt, wF_bk, wF_ct, wv_some, wb_some, wc_some, wm_some, wz_bl, wE_some, wN_some, wo_some, wo_none, wo_ite, List.getElem?_cons_zero, List.getElem?_cons_succ, List.set_cons_zero, List.set_cons_succ, List.map_cons, List.map_nil, List.cons_append, List.nil_append, List.append_nil, List.replicate_succ, List.replicate_zero, List.length_cons, List.length_nil, Bop.f, Cop.f, Bi.f, Im.f, wl_some, wj_some, wa_some, wbs_some, add_ii, add_ss, add_rr, sub_ii, mul_ii, mul_si, div_ii, mod_ii, pow_ii, neg_i, eq_ii, ne_ii, eq_ss, ne_ss, lt_ii, le_ii, gt_ii, ge_ii, eq_bb, ne_bb, in_cs, tr_b, tr_i, ix_r, ix_t, ix_f, ix_s, sl_s, sl_r, set_r, len_s, len_r, len_f, len_t, abs_i, max_ii, min_ii, max_r, min_r, int_i, int_b, list_r, sum_r, all_r, isi_ii, isi_ib, isi_ss, aug_ii, aug_sub, sel_app, sel_index, sel_pop, sel_count, sel_join, app_r, count_s, wx_some, idx_r, wT_some, join_r, src_s, src_f, src_t, src_r, if_true, if_false, Bool.not_true, Bool.not_false, Bool.false_eq_true]
  refine require_step_word_ok w h1 (by omega) hr fun T hp => ?_
  refine first_ok w h1 (by omega) fun T2 hp2 => ?_
  rw [isn_opt]
  exact h T2 (hp.trans hp2)
theorem slope_of_ok (w : List Nat) (h1 : 1 ≤ w.length) (h2 : w.length ≤ 1000) (hr : Ru w) (hs : (firstO w).isSome = true) (h : ∀ T, S <+: T → Q (.tup [.int (w.count 114 : Nat), .int (w.length - w.count 114 : Nat)]) T) : Wp (run ds (k + 4) 15 [.str w] S) Q := by
  refine wp_run (d := d15) rfl rfl ?_
  simp only [d15, we_c, we_v, we_bin, we_neg, we_cmp, we_chn, we_no, we_and, we_or, we_ife, we_tup, we_lst, we_ix, we_sl, we_bi, we_mt, we_call, we_lrg1, we_lrg2, we_lc, ws_nil, ws_cons, wo_nil, wo_cons, wt_nil, wt_cons, wi_rng1, wi_rng2, wi_rng3, wi_of, wi_int, wS_asgN, wS_asgT, wS_asgS, wS_par2, wS_par3, wS_aug, wS_ex, wS_ret, wS_retN, wS_iff, wS_pass, wS_brk, wS_cont, wS_never, wS_nil, wS_cons, wS_for, wS_whl, wF_nx, wF_rt, wF_bk, wF_ct, wv_some, wb_some, wc_some, wm_some, wz_bl, wE_some, wN_some, wo_some, wo_none, wo_ite, List.getElem?_cons_zero, List.getElem?_cons_succ, List.set_cons_zero, List.set_cons_succ, List.map_cons, List.map_nil, List.cons_append, List.nil_append, List.append_nil, List.replicate_succ, List.replicate_zero, List.length_cons, List.length_nil, Bop.f, Cop.f, Bi.f, Im.f, wl_some, wj_some, wa_some, wbs_some, add_ii, add_ss, add_rr, sub_ii, mul_ii, mul_si, div_ii, mod_ii, pow_ii, neg_i, eq_ii, ne_ii, eq_ss, ne_ss, lt_ii, le_ii, gt_ii, ge_ii, eq_bb, ne_bb, in_cs, tr_b, tr_i, ix_r, ix_t, ix_f, ix_s, sl_s, sl_r, set_r, len_s, len_r, len_f, len_t, abs_i, max_ii, min_ii, max_r, min_r, int_i, int_b, list_r, sum_r, all_r, isi_ii, isi_ib, isi_ss, aug_ii, aug_sub, sel_app, sel_index, sel_pop, sel_count, sel_join, app_r, count_s, wx_some, idx_r, wT_some, join_r, src_s, src_f, src_t, src_r, if_true, if_false, Bool.not_true, Bool.not_false, Bool.false_eq_true]
  refine require_step_word_ok w h1 (by omega) hr fun T hp => ?_
  refine first_ok w h1 (by omega) fun T2 hp2 => ?_
  have hn : (firstO w).isNone = false := by cases e : firstO w with | none => rw [e] at hs; cases hs | some n => rfl
  rw [is_opt, hn, tr_b, wb_some, if_neg (by decide)]
  refine counts_ok w (by omega) fun T3 hp3 => ?_
  exact h T3 (hp.trans (hp2.trans hp3))
theorem slope_of_exc (w : List Nat) (h1 : 1 ≤ w.length) (h2 : w.length ≤ 1000) (hr : Ru w) (hs : (firstO w).isSome = false) {R : Xn → Mem → Prop} (h : ∀ T, S <+: T → R ⟨"InvalidOperation", []⟩ T) : Wx (run ds (k + 4) 15 [.str w] S) R := by
  refine wx_run (d := d15) rfl rfl ?_
  have hn : (firstO w).isNone = true := by cases e : firstO w with | none => rfl | some n => rw [e] at hs; cases hs
  refine wx_later ?_
  rw [wS_ex]
  simp only [we_call, ws_cons, ws_nil, we_v, List.map_cons, List.map_nil, List.cons_append, List.nil_append, List.getElem?_cons_zero, wv_some]
  refine require_step_word_ok w h1 (by omega) hr fun T hp => ⟨_, rfl, ?_⟩
  refine wx_here (wx_iff ?_)
  simp only [we_cmp, we_call, ws_cons, ws_nil, we_v, we_c, List.map_cons, List.map_nil, List.cons_append, List.nil_append, List.getElem?_cons_zero, wv_some, Cop.f]
  refine first_ok w h1 (by omega) fun T2 hp2 => ?_
  rw [is_opt, hn]
  exact ⟨rfl, wx_here (wx_rai (h T2 (hp.trans hp2)))⟩
def partO (w : List Nat) : Option Nat := ((List.range (w.length - 1)).map (· + 1)).find? fun s => decide (w.length % s = 0 ∧ w = (List.replicate (w.length / s) (w.take s)).flatten)
theorem part_again_ok (w : List Nat) (h1 : 1 ≤ w.length) (h2 : w.length ≤ 1000) (h : ∀ T, S <+: T → Q (optI (partO w)) T) : Wp (run ds (k + 1) 8 [.str w] S) Q := by
  refine wp_run (d := d8) rfl rfl ?_
  simp only [d8, we_c, we_v, we_bin, we_neg, we_cmp, we_chn, we_no, we_and, we_or, we_ife, we_tup, we_lst, we_ix, we_sl, we_bi, we_mt, we_call, we_lrg1, we_lrg2, we_lc, ws_nil, ws_cons, wo_nil, wo_cons, wt_nil, wt_cons, wi_rng1, wi_rng2, wi_rng3, wi_of, wi_int, wS_asgN, wS_asgT, wS_asgS, wS_par2, wS_par3, wS_aug, wS_ex, wS_ret, wS_retN, wS_iff, wS_pass, wS_brk, wS_cont, wS_never, wS_nil, wS_cons, wS_for, wS_whl, wF_nx, wF_rt, wF_bk, wF_ct, wv_some, wb_some, wc_some, wm_some, wz_bl, wE_some, wN_some, wo_some, wo_none, wo_ite, List.getElem?_cons_zero, List.getElem?_cons_succ, List.set_cons_zero, List.set_cons_succ, List.map_cons, List.map_nil, List.cons_append, List.nil_append, List.append_nil, List.replicate_succ, List.replicate_zero, List.length_cons, List.length_nil, Bop.f, Cop.f, Bi.f, Im.f, wl_some, wj_some, wa_some, wbs_some, add_ii, add_ss, add_rr, sub_ii, mul_ii, mul_si, div_ii, mod_ii, pow_ii, neg_i, eq_ii, ne_ii, eq_ss, ne_ss, lt_ii, le_ii, gt_ii, ge_ii, eq_bb, ne_bb, in_cs, tr_b, tr_i, ix_r, ix_t, ix_f, ix_s, sl_s, sl_r, set_r, len_s, len_r, len_f, len_t, abs_i, max_ii, min_ii, max_r, min_r, int_i, int_b, list_r, sum_r, all_r, isi_ii, isi_ib, isi_ss, aug_ii, aug_sub, sel_app, sel_index, sel_pop, sel_count, sel_join, app_r, count_s, wx_some, idx_r, wT_some, join_r, src_s, src_f, src_t, src_r, if_true, if_false, Bool.not_true, Bool.not_false, Bool.false_eq_true]
  rw [if_pos (line_of (by omega)), rng_2 _ _ (by omega)]
  unfold partO at h
  refine wp_turns (rangeD 1 ((w.length : Int) - 1).toNat) (fun i e U => U = S ∧ (∀ j, j < i → ¬ (w.length % (j + 1) = 0 ∧ w = (List.replicate (w.length / (j + 1)) (w.take (j + 1))).flatten)) ∧ ∃ x, e = [some (.str w), x]) (fun _ _ _ _ => rfl) (fun i d e U hx hP => ?_) (fun e U hP => ?_) fuel 0 _ _ (by rw [range_len]; show _ < 1000000000; omega) (Nat.zero_le _) ⟨rfl, fun j hj => by omega, _, rfl⟩
  · obtain ⟨rfl, ha, x, rfl⟩ := hP
    obtain ⟨hi, rfl⟩ := range_get hx
    rw [show (1 + (i : Nat) : Int) = ((i + 1 : Nat) : Int) by omega]
    simp only [setT, we_c, we_v, we_bin, we_neg, we_cmp, we_chn, we_no, we_and, we_or, we_ife, we_tup, we_lst, we_ix, we_sl, we_bi, we_mt, we_call, we_lrg1, we_lrg2, we_lc, ws_nil, ws_cons, wo_nil, wo_cons, wt_nil, wt_cons, wi_rng1, wi_rng2, wi_rng3, wi_of, wi_int, wS_asgN, wS_asgT, wS_asgS, wS_par2, wS_par3, wS_aug, wS_ex, wS_ret, wS_retN, wS_iff, wS_pass, wS_brk, wS_cont, wS_never, wS_nil, wS_cons, wS_for, wS_whl, wF_nx, wF_rt, wF_bk, wF_ct, wv_some, wb_some, wc_some, wm_some, wz_bl, wE_some, wN_some, wo_some, wo_none, wo_ite, List.getElem?_cons_zero, List.getElem?_cons_succ, List.set_cons_zero, List.set_cons_succ, List.map_cons, List.map_nil, List.cons_append, List.nil_append, List.append_nil, List.replicate_succ, List.replicate_zero, List.length_cons, List.length_nil, Bop.f, Cop.f, Bi.f, Im.f, wl_some, wj_some, wa_some, wbs_some, add_ii, add_ss, add_rr, sub_ii, mul_ii, mul_si, div_ii, mod_ii, pow_ii, neg_i, eq_ii, ne_ii, eq_ss, ne_ss, lt_ii, le_ii, gt_ii, ge_ii, eq_bb, ne_bb, in_cs, tr_b, tr_i, ix_r, ix_t, ix_f, ix_s, sl_s, sl_r, set_r, len_s, len_r, len_f, len_t, abs_i, max_ii, min_ii, max_r, min_r, int_i, int_b, list_r, sum_r, all_r, isi_ii, isi_ib, isi_ss, aug_ii, aug_sub, sel_app, sel_index, sel_pop, sel_count, sel_join, app_r, count_s, wx_some, idx_r, wT_some, join_r, src_s, src_f, src_t, src_r, if_true, if_false, Bool.not_true, Bool.not_false, Bool.false_eq_true, decide_eq_true_eq]
    rw [if_pos (line_of (by omega)), if_pos (by omega)]
    have keep : ¬ (w.length % (i + 1) = 0 ∧ w = (List.replicate (w.length / (i + 1)) (w.take (i + 1))).flatten) → ∀ j, j < i + 1 → ¬ (w.length % (j + 1) = 0 ∧ w = (List.replicate (w.length / (j + 1)) (w.take (j + 1))).flatten) := fun c j hj => by
      by_cases e : j = i
      · rw [e]; exact c
      · exact ha j (by omega)
    by_cases c1 : w.length % (i + 1) = 0
    · rw [if_pos (by omega)]
      have hd := Nat.div_le_self w.length (i + 1)
      have ht : (w.take (i + 1)).length ≤ 1000 := by rw [List.length_take]; omega
      have hm : (w.take (i + 1)).length * (w.length / (i + 1)) ≤ 1000 * 1000 := Nat.mul_le_mul ht (by omega)
      rw [if_pos (line_of (by omega)), if_pos (line_of (by omega)), if_pos ⟨by omega, log_small (by omega)⟩, cut_to, ← Int.natCast_ediv, Int.toNat_natCast]
      rw [if_pos ⟨Int.natCast_nonneg _, Int.le_trans (Int.ofNat_le.mpr (Nat.le_trans hd h2)) (by decide), by omega, by show _ ≤ 16777216; omega⟩]
      by_cases c2 : w = (List.replicate (w.length / (i + 1)) (w.take (i + 1))).flatten
      · rw [if_pos c2]
        have e : ((List.range (w.length - 1)).map (· + 1)).find? (fun s => decide (w.length % s = 0 ∧ w = (List.replicate (w.length / s) (w.take s)).flatten)) = some (i + 1) := by
          rw [List.find?_map]
          have : (List.range (w.length - 1)).find? ((fun s => decide (w.length % s = 0 ∧ w = (List.replicate (w.length / s) (w.take s)).flatten)) ∘ (· + 1)) = some i := by
            rw [List.find?_range_eq_some]
            exact ⟨decide_eq_true ⟨c1, c2⟩, List.mem_range.mpr (by omega), fun j hj => by
              show (!decide _) = true
              rw [Bool.not_eq_true', decide_eq_false_iff_not]
              exact ha j hj⟩
          rw [this]; rfl
        rw [e] at h
        exact h U (List.prefix_refl _)
      · rw [if_neg c2]
        exact ⟨trivial, keep (fun z => c2 z.2), _, rfl⟩
    · have cx : ¬ ((w.length : Int) % ((i + 1 : Nat) : Int) = 0) := by rw [← Int.natCast_emod]; omega
      rw [if_neg cx, if_neg cx]
      exact ⟨trivial, keep (fun z => c1 z.1), _, rfl⟩
  · obtain ⟨rfl, ha, x, rfl⟩ := hP
    rw [range_len] at ha
    have e : ((List.range (w.length - 1)).map (· + 1)).find? (fun s => decide (w.length % s = 0 ∧ w = (List.replicate (w.length / s) (w.take s)).flatten)) = none := by
      rw [List.find?_eq_none]
      intro s hs
      obtain ⟨j, hj, rfl⟩ := List.mem_map.mp hs
      rw [decide_eq_true_eq]
      exact ha j (by have := List.mem_range.mp hj; omega)
    rw [e] at h
    simp only [we_c, we_v, we_bin, we_neg, we_cmp, we_chn, we_no, we_and, we_or, we_ife, we_tup, we_lst, we_ix, we_sl, we_bi, we_mt, we_call, we_lrg1, we_lrg2, we_lc, ws_nil, ws_cons, wo_nil, wo_cons, wt_nil, wt_cons, wi_rng1, wi_rng2, wi_rng3, wi_of, wi_int, wS_asgN, wS_asgT, wS_asgS, wS_par2, wS_par3, wS_aug, wS_ex, wS_ret, wS_retN, wS_iff, wS_pass, wS_brk, wS_cont, wS_never, wS_nil, wS_cons, wS_for, wS_whl, wF_nx, wF_rt, wF_bk, wF_ct, wv_some, wb_some, wc_some, wm_some, wz_bl, wE_some, wN_some, wo_some, wo_none, wo_ite, List.getElem?_cons_zero, List.getElem?_cons_succ, List.set_cons_zero, List.set_cons_succ, List.map_cons, List.map_nil, List.cons_append, List.nil_append, List.append_nil, List.replicate_succ, List.replicate_zero, List.length_cons, List.length_nil, Bop.f, Cop.f, Bi.f, Im.f, wl_some, wj_some, wa_some, wbs_some, add_ii, add_ss, add_rr, sub_ii, mul_ii, mul_si, div_ii, mod_ii, pow_ii, neg_i, eq_ii, ne_ii, eq_ss, ne_ss, lt_ii, le_ii, gt_ii, ge_ii, eq_bb, ne_bb, in_cs, tr_b, tr_i, ix_r, ix_t, ix_f, ix_s, sl_s, sl_r, set_r, len_s, len_r, len_f, len_t, abs_i, max_ii, min_ii, max_r, min_r, int_i, int_b, list_r, sum_r, all_r, isi_ii, isi_ib, isi_ss, aug_ii, aug_sub, sel_app, sel_index, sel_pop, sel_count, sel_join, app_r, count_s, wx_some, idx_r, wT_some, join_r, src_s, src_f, src_t, src_r, if_true, if_false, Bool.not_true, Bool.not_false, Bool.false_eq_true]
    exact h U (List.prefix_refl _)
/-- what a paper of w is -/
inductive Paper (w : List Nat) : D → Prop
  | straight (a : Nat) : firstO w = some a → Paper w (.tup [.str [115, 116, 114, 97, 105, 103, 104, 116], .int a])
  | again (s : Nat) : firstO w = none → partO w = some s → Paper w (.tup [.str [97, 103, 97, 105, 110], .int s])
  | uneven (i j s : Nat) : firstO w = none → partO w = none → i < w.length → j < w.length → 1 ≤ s → s ≤ w.length → 1 < (pre (w ++ w) (j + s) - pre (w ++ w) j) - (pre (w ++ w) (i + s) - pre (w ++ w) i) → Paper w (.tup [.str [117, 110, 101, 118, 101, 110], .int i, .int j, .int s])
theorem straight_paper_ok (w : List Nat) (h1 : 1 ≤ w.length) (h2 : w.length ≤ 1000) (hr : Ru w) (hno : firstO w = none → partO w = none → ¬ evenTo w w.length) (h : ∀ T d, S <+: T → Paper w d → Q d T) : Wp (run ds (k + 4) 16 [.str w] S) Q := by
  refine wp_run (d := d16) rfl rfl ?_
  simp only [d16, we_c, we_v, we_bin, we_neg, we_cmp, we_chn, we_no, we_and, we_or, we_ife, we_tup, we_lst, we_ix, we_sl, we_bi, we_mt, we_call, we_lrg1, we_lrg2, we_lc, ws_nil, ws_cons, wo_nil, wo_cons, wt_nil, wt_cons, wi_rng1, wi_rng2, wi_rng3, wi_of, wi_int, wS_asgN, wS_asgT, wS_asgS, wS_par2, wS_par3, wS_aug, wS_ex, wS_ret, wS_retN, wS_iff, wS_pass, wS_brk, wS_cont, wS_never, wS_nil, wS_cons, wS_for, wS_whl, wF_nx, wF_rt, wF_bk, wF_ct, wv_some, wb_some, wc_some, wm_some, wz_bl, wE_some, wN_some, wo_some, wo_none, wo_ite, List.getElem?_cons_zero, List.getElem?_cons_succ, List.set_cons_zero, List.set_cons_succ, List.map_cons, List.map_nil, List.cons_append, List.nil_append, List.append_nil, List.replicate_succ, List.replicate_zero, List.length_cons, List.length_nil, Bop.f, Cop.f, Bi.f, Im.f, wl_some, wj_some, wa_some, wbs_some, add_ii, add_ss, add_rr, sub_ii, mul_ii, mul_si, div_ii, mod_ii, pow_ii, neg_i, eq_ii, ne_ii, eq_ss, ne_ss, lt_ii, le_ii, gt_ii, ge_ii, eq_bb, ne_bb, in_cs, tr_b, tr_i, ix_r, ix_t, ix_f, ix_s, sl_s, sl_r, set_r, len_s, len_r, len_f, len_t, abs_i, max_ii, min_ii, max_r, min_r, int_i, int_b, list_r, sum_r, all_r, isi_ii, isi_ib, isi_ss, aug_ii, aug_sub, sel_app, sel_index, sel_pop, sel_count, sel_join, app_r, count_s, wx_some, idx_r, wT_some, join_r, src_s, src_f, src_t, src_r, if_true, if_false, Bool.not_true, Bool.not_false, Bool.false_eq_true]
  refine require_step_word_ok w h1 (by omega) hr fun T hp => ?_
  refine first_ok w h1 (by omega) fun T2 hp2 => ?_
  refine part_again_ok w h1 h2 fun T3 hp3 => ?_
  rw [isn_opt]
  cases e1 : firstO w with
  | some a =>
    simp only [Option.isSome, we_c, we_v, we_bin, we_neg, we_cmp, we_chn, we_no, we_and, we_or, we_ife, we_tup, we_lst, we_ix, we_sl, we_bi, we_mt, we_call, we_lrg1, we_lrg2, we_lc, ws_nil, ws_cons, wo_nil, wo_cons, wt_nil, wt_cons, wi_rng1, wi_rng2, wi_rng3, wi_of, wi_int, wS_asgN, wS_asgT, wS_asgS, wS_par2, wS_par3, wS_aug, wS_ex, wS_ret, wS_retN, wS_iff, wS_pass, wS_brk, wS_cont, wS_never, wS_nil, wS_cons, wS_for, wS_whl, wF_nx, wF_rt, wF_bk, wF_ct, wv_some, wb_some, wc_some, wm_some, wz_bl, wE_some, wN_some, wo_some, wo_none, wo_ite, List.getElem?_cons_zero, List.getElem?_cons_succ, List.set_cons_zero, List.set_cons_succ, List.map_cons, List.map_nil, List.cons_append, List.nil_append, List.append_nil, List.replicate_succ, List.replicate_zero, List.length_cons, List.length_nil, Bop.f, Cop.f, Bi.f, Im.f, wl_some, wj_some, wa_some, wbs_some, add_ii, add_ss, add_rr, sub_ii, mul_ii, mul_si, div_ii, mod_ii, pow_ii, neg_i, eq_ii, ne_ii, eq_ss, ne_ss, lt_ii, le_ii, gt_ii, ge_ii, eq_bb, ne_bb, in_cs, tr_b, tr_i, ix_r, ix_t, ix_f, ix_s, sl_s, sl_r, set_r, len_s, len_r, len_f, len_t, abs_i, max_ii, min_ii, max_r, min_r, int_i, int_b, list_r, sum_r, all_r, isi_ii, isi_ib, isi_ss, aug_ii, aug_sub, sel_app, sel_index, sel_pop, sel_count, sel_join, app_r, count_s, wx_some, idx_r, wT_some, join_r, src_s, src_f, src_t, src_r, if_true, if_false, Bool.not_true, Bool.not_false, Bool.false_eq_true]
    exact ⟨line_of (by decide), h T3 _ (hp.trans (hp2.trans hp3)) (.straight a e1)⟩
  | none =>
    simp only [Option.isSome, we_c, we_v, we_bin, we_neg, we_cmp, we_chn, we_no, we_and, we_or, we_ife, we_tup, we_lst, we_ix, we_sl, we_bi, we_mt, we_call, we_lrg1, we_lrg2, we_lc, ws_nil, ws_cons, wo_nil, wo_cons, wt_nil, wt_cons, wi_rng1, wi_rng2, wi_rng3, wi_of, wi_int, wS_asgN, wS_asgT, wS_asgS, wS_par2, wS_par3, wS_aug, wS_ex, wS_ret, wS_retN, wS_iff, wS_pass, wS_brk, wS_cont, wS_never, wS_nil, wS_cons, wS_for, wS_whl, wF_nx, wF_rt, wF_bk, wF_ct, wv_some, wb_some, wc_some, wm_some, wz_bl, wE_some, wN_some, wo_some, wo_none, wo_ite, List.getElem?_cons_zero, List.getElem?_cons_succ, List.set_cons_zero, List.set_cons_succ, List.map_cons, List.map_nil, List.cons_append, List.nil_append, List.append_nil, List.replicate_succ, List.replicate_zero, List.length_cons, List.length_nil, Bop.f, Cop.f, Bi.f, Im.f, wl_some, wj_some, wa_some, wbs_some, add_ii, add_ss, add_rr, sub_ii, mul_ii, mul_si, div_ii, mod_ii, pow_ii, neg_i, eq_ii, ne_ii, eq_ss, ne_ss, lt_ii, le_ii, gt_ii, ge_ii, eq_bb, ne_bb, in_cs, tr_b, tr_i, ix_r, ix_t, ix_f, ix_s, sl_s, sl_r, set_r, len_s, len_r, len_f, len_t, abs_i, max_ii, min_ii, max_r, min_r, int_i, int_b, list_r, sum_r, all_r, isi_ii, isi_ib, isi_ss, aug_ii, aug_sub, sel_app, sel_index, sel_pop, sel_count, sel_join, app_r, count_s, wx_some, idx_r, wT_some, join_r, src_s, src_f, src_t, src_r, if_true, if_false, Bool.not_true, Bool.not_false, Bool.false_eq_true]
    rw [isn_opt]
    cases e2 : partO w with
    | some s =>
      simp only [Option.isSome, we_c, we_v, we_bin, we_neg, we_cmp, we_chn, we_no, we_and, we_or, we_ife, we_tup, we_lst, we_ix, we_sl, we_bi, we_mt, we_call, we_lrg1, we_lrg2, we_lc, ws_nil, ws_cons, wo_nil, wo_cons, wt_nil, wt_cons, wi_rng1, wi_rng2, wi_rng3, wi_of, wi_int, wS_asgN, wS_asgT, wS_asgS, wS_par2, wS_par3, wS_aug, wS_ex, wS_ret, wS_retN, wS_iff, wS_pass, wS_brk, wS_cont, wS_never, wS_nil, wS_cons, wS_for, wS_whl, wF_nx, wF_rt, wF_bk, wF_ct, wv_some, wb_some, wc_some, wm_some, wz_bl, wE_some, wN_some, wo_some, wo_none, wo_ite, List.getElem?_cons_zero, List.getElem?_cons_succ, List.set_cons_zero, List.set_cons_succ, List.map_cons, List.map_nil, List.cons_append, List.nil_append, List.append_nil, List.replicate_succ, List.replicate_zero, List.length_cons, List.length_nil, Bop.f, Cop.f, Bi.f, Im.f, wl_some, wj_some, wa_some, wbs_some, add_ii, add_ss, add_rr, sub_ii, mul_ii, mul_si, div_ii, mod_ii, pow_ii, neg_i, eq_ii, ne_ii, eq_ss, ne_ss, lt_ii, le_ii, gt_ii, ge_ii, eq_bb, ne_bb, in_cs, tr_b, tr_i, ix_r, ix_t, ix_f, ix_s, sl_s, sl_r, set_r, len_s, len_r, len_f, len_t, abs_i, max_ii, min_ii, max_r, min_r, int_i, int_b, list_r, sum_r, all_r, isi_ii, isi_ib, isi_ss, aug_ii, aug_sub, sel_app, sel_index, sel_pop, sel_count, sel_join, app_r, count_s, wx_some, idx_r, wT_some, join_r, src_s, src_f, src_t, src_r, if_true, if_false, Bool.not_true, Bool.not_false, Bool.false_eq_true]
      exact ⟨line_of (by decide), h T3 _ (hp.trans (hp2.trans hp3)) (.again s e1 e2)⟩
    | none =>
      simp only [Option.isSome, we_c, we_v, we_bin, we_neg, we_cmp, we_chn, we_no, we_and, we_or, we_ife, we_tup, we_lst, we_ix, we_sl, we_bi, we_mt, we_call, we_lrg1, we_lrg2, we_lc, ws_nil, ws_cons, wo_nil, wo_cons, wt_nil, wt_cons, wi_rng1, wi_rng2, wi_rng3, wi_of, wi_int, wS_asgN, wS_asgT, wS_asgS, wS_par2, wS_par3, wS_aug, wS_ex, wS_ret, wS_retN, wS_iff, wS_pass, wS_brk, wS_cont, wS_never, wS_nil, wS_cons, wS_for, wS_whl, wF_nx, wF_rt, wF_bk, wF_ct, wv_some, wb_some, wc_some, wm_some, wz_bl, wE_some, wN_some, wo_some, wo_none, wo_ite, List.getElem?_cons_zero, List.getElem?_cons_succ, List.set_cons_zero, List.set_cons_succ, List.map_cons, List.map_nil, List.cons_append, List.nil_append, List.append_nil, List.replicate_succ, List.replicate_zero, List.length_cons, List.length_nil, Bop.f, Cop.f, Bi.f, Im.f, wl_some, wj_some, wa_some, wbs_some, add_ii, add_ss, add_rr, sub_ii, mul_ii, mul_si, div_ii, mod_ii, pow_ii, neg_i, eq_ii, ne_ii, eq_ss, ne_ss, lt_ii, le_ii, gt_ii, ge_ii, eq_bb, ne_bb, in_cs, tr_b, tr_i, ix_r, ix_t, ix_f, ix_s, sl_s, sl_r, set_r, len_s, len_r, len_f, len_t, abs_i, max_ii, min_ii, max_r, min_r, int_i, int_b, list_r, sum_r, all_r, isi_ii, isi_ib, isi_ss, aug_ii, aug_sub, sel_app, sel_index, sel_pop, sel_count, sel_join, app_r, count_s, wx_some, idx_r, wT_some, join_r, src_s, src_f, src_t, src_r, if_true, if_false, Bool.not_true, Bool.not_false, Bool.false_eq_true, ws_star]
      refine uneven_ok w h1 h2 (fun z => absurd z (hno e1 e2)) fun T4 i j s hp4 hi hj hs1 hs2 hd => ?_
      exact ⟨line_of (by simp), h T4 _ (hp.trans (hp2.trans (hp3.trans hp4))) (.uneven i j s e1 e2 hi hj hs1 hs2 hd)⟩
end K86

set_option Elab.async false
set_option linter.all false
set_option maxRecDepth 100000
set_option maxHeartbeats 1000000
namespace K86
open Mi Lw
variable {k : Nat} {S : Mem} {Q : D → Mem → Prop}
/-- a value that may stand in a paper -/
def small : D → Bool
  | .int _ => true
  | .bl _ => true
  | .non => true
  | .str _ => true
  | _ => false
def isIx (d : D) (m : Int) : Bool := match d with
  | .int i => decide (0 ≤ i ∧ i < m)
  | _ => false
theorem isi_bi : ∀ b : Bool, WpO (fIsi [.bl b, .ty "int"] S) Q = Q (.bl true) S := fun _ => rfl
theorem isi_bb : ∀ b : Bool, WpO (fIsi [.bl b, .ty "bool"] S) Q = Q (.bl true) S := fun _ => rfl
theorem isi_ni : WpO (fIsi [.non, .ty "int"] S) Q = Q (.bl false) S := rfl
theorem isi_si : ∀ s : List Nat, WpO (fIsi [.str s, .ty "int"] S) Q = Q (.bl false) S := fun _ => rfl
theorem is_index_any (d : D) (m : Int) (hd : small d = true) (h : Q (.bl (isIx d m)) S) : Wp (run ds (k + 1) 9 [d, .int m] S) Q := by
  cases d with
  | int i => exact is_index_ok i m h
  | bl b =>
    refine wp_run (d := d9) rfl rfl ?_
    simp only [d9, we_c, we_v, we_bin, we_neg, we_cmp, we_chn, we_no, we_and, we_or, we_ife, we_tup, we_lst, we_ix, we_sl, we_bi, we_mt, we_call, we_lrg1, we_lrg2, we_lc, ws_nil, ws_cons, wo_nil, wo_cons, wt_nil, wt_cons, wi_rng1, wi_rng2, wi_rng3, wi_of, wi_int, wS_asgN, wS_asgT, wS_asgS, wS_par2, wS_par3, wS_aug, wS_ex, wS_ret, wS_retN, wS_iff, wS_pass, wS_brk, wS_cont, wS_never, wS_nil, wS_cons, wS_for, wS_whl, wF_nx, wF_rt, wF_bk, wF_ct, wv_some, wb_some, wc_some, wm_some, wz_bl, wE_some, wN_some, wo_some, wo_none, wo_ite, List.getElem?_cons_zero, List.getElem?_cons_succ, List.set_cons_zero, List.set_cons_succ, List.map_cons, List.map_nil, List.cons_append, List.nil_append, List.append_nil, List.replicate_succ, List.replicate_zero, List.length_cons, List.length_nil, Bop.f, Cop.f, Bi.f, Im.f, wl_some, wj_some, wa_some, wbs_some, add_ii, add_ss, add_rr, sub_ii, mul_ii, mul_si, div_ii, mod_ii, pow_ii, neg_i, eq_ii, ne_ii, eq_ss, ne_ss, lt_ii, le_ii, gt_ii, ge_ii, eq_bb, ne_bb, in_cs, tr_b, tr_i, ix_r, ix_t, ix_f, ix_s, sl_s, sl_r, set_r, len_s, len_r, len_f, len_t, abs_i, max_ii, min_ii, max_r, min_r, int_i, int_b, list_r, sum_r, all_r, isi_ii, isi_ib, isi_ss, aug_ii, aug_sub, sel_app, sel_index, sel_pop, sel_count, sel_join, app_r, count_s, wx_some, idx_r, wT_some, join_r, src_s, src_f, src_t, src_r, if_true, if_false, Bool.not_true, Bool.not_false, Bool.false_eq_true, isi_bi, isi_bb]
    exact h
  | non =>
    refine wp_run (d := d9) rfl rfl ?_
    simp only [d9, we_c, we_v, we_bin, we_neg, we_cmp, we_chn, we_no, we_and, we_or, we_ife, we_tup, we_lst, we_ix, we_sl, we_bi, we_mt, we_call, we_lrg1, we_lrg2, we_lc, ws_nil, ws_cons, wo_nil, wo_cons, wt_nil, wt_cons, wi_rng1, wi_rng2, wi_rng3, wi_of, wi_int, wS_asgN, wS_asgT, wS_asgS, wS_par2, wS_par3, wS_aug, wS_ex, wS_ret, wS_retN, wS_iff, wS_pass, wS_brk, wS_cont, wS_never, wS_nil, wS_cons, wS_for, wS_whl, wF_nx, wF_rt, wF_bk, wF_ct, wv_some, wb_some, wc_some, wm_some, wz_bl, wE_some, wN_some, wo_some, wo_none, wo_ite, List.getElem?_cons_zero, List.getElem?_cons_succ, List.set_cons_zero, List.set_cons_succ, List.map_cons, List.map_nil, List.cons_append, List.nil_append, List.append_nil, List.replicate_succ, List.replicate_zero, List.length_cons, List.length_nil, Bop.f, Cop.f, Bi.f, Im.f, wl_some, wj_some, wa_some, wbs_some, add_ii, add_ss, add_rr, sub_ii, mul_ii, mul_si, div_ii, mod_ii, pow_ii, neg_i, eq_ii, ne_ii, eq_ss, ne_ss, lt_ii, le_ii, gt_ii, ge_ii, eq_bb, ne_bb, in_cs, tr_b, tr_i, ix_r, ix_t, ix_f, ix_s, sl_s, sl_r, set_r, len_s, len_r, len_f, len_t, abs_i, max_ii, min_ii, max_r, min_r, int_i, int_b, list_r, sum_r, all_r, isi_ii, isi_ib, isi_ss, aug_ii, aug_sub, sel_app, sel_index, sel_pop, sel_count, sel_join, app_r, count_s, wx_some, idx_r, wT_some, join_r, src_s, src_f, src_t, src_r, if_true, if_false, Bool.not_true, Bool.not_false, Bool.false_eq_true, isi_ni]
    exact h
  | str s =>
    refine wp_run (d := d9) rfl rfl ?_
    simp only [d9, we_c, we_v, we_bin, we_neg, we_cmp, we_chn, we_no, we_and, we_or, we_ife, we_tup, we_lst, we_ix, we_sl, we_bi, we_mt, we_call, we_lrg1, we_lrg2, we_lc, ws_nil, ws_cons, wo_nil, wo_cons, wt_nil, wt_cons, wi_rng1, wi_rng2, wi_rng3, wi_of, wi_int, wS_asgN, wS_asgT, wS_asgS, wS_par2, wS_par3, wS_aug, wS_ex, wS_ret, wS_retN, wS_iff, wS_pass, wS_brk, wS_cont, wS_never, wS_nil, wS_cons, wS_for, wS_whl, wF_nx, wF_rt, wF_bk, wF_ct, wv_some, wb_some, wc_some, wm_some, wz_bl, wE_some, wN_some, wo_some, wo_none, wo_ite, List.getElem?_cons_zero, List.getElem?_cons_succ, List.set_cons_zero, List.set_cons_succ, List.map_cons, List.map_nil, List.cons_append, List.nil_append, List.append_nil, List.replicate_succ, List.replicate_zero, List.length_cons, List.length_nil, Bop.f, Cop.f, Bi.f, Im.f, wl_some, wj_some, wa_some, wbs_some, add_ii, add_ss, add_rr, sub_ii, mul_ii, mul_si, div_ii, mod_ii, pow_ii, neg_i, eq_ii, ne_ii, eq_ss, ne_ss, lt_ii, le_ii, gt_ii, ge_ii, eq_bb, ne_bb, in_cs, tr_b, tr_i, ix_r, ix_t, ix_f, ix_s, sl_s, sl_r, set_r, len_s, len_r, len_f, len_t, abs_i, max_ii, min_ii, max_r, min_r, int_i, int_b, list_r, sum_r, all_r, isi_ii, isi_ib, isi_ss, aug_ii, aug_sub, sel_app, sel_index, sel_pop, sel_count, sel_join, app_r, count_s, wx_some, idx_r, wT_some, join_r, src_s, src_f, src_t, src_r, if_true, if_false, Bool.not_true, Bool.not_false, Bool.false_eq_true, isi_si]
    exact h
  | _ => cases hd
def againN (w : List Nat) (s : Nat) : Bool := decide (s ≠ 0 ∧ w.length % s = 0 ∧ w = (List.replicate (w.length / s) (w.take s)).flatten)
def againB (w : List Nat) (d : D) : Bool := isIx d w.length && (match d with
  | .int i => againN w i.toNat
  | _ => false)
theorem is_again_ok (w : List Nat) (d : D) (hd : small d = true) (h2 : w.length ≤ 1000) (h : ∀ T, S <+: T → Q (.bl (againB w d)) T) : Wp (run ds (k + 2) 11 [.str w, d] S) Q := by
  refine wp_run (d := d11) rfl rfl ?_
  simp only [d11, we_c, we_v, we_bin, we_neg, we_cmp, we_chn, we_no, we_and, we_or, we_ife, we_tup, we_lst, we_ix, we_sl, we_bi, we_mt, we_call, we_lrg1, we_lrg2, we_lc, ws_nil, ws_cons, wo_nil, wo_cons, wt_nil, wt_cons, wi_rng1, wi_rng2, wi_rng3, wi_of, wi_int, wS_asgN, wS_asgT, wS_asgS, wS_par2, wS_par3, wS_aug, wS_ex, wS_ret, wS_retN, wS_iff, wS_pass, wS_brk, wS_cont, wS_never, wS_nil, wS_cons, wS_for, wS_whl, wF_nx, wF_rt, wF_bk, wF_ct, wv_some, wb_some, wc_some, wm_some, wz_bl, wE_some, wN_some, wo_some, wo_none, wo_ite, List.getElem?_cons_zero, List.getElem?_cons_succ, List.set_cons_zero, List.set_cons_succ, List.map_cons, List.map_nil, List.cons_append, List.nil_append, List.append_nil, List.replicate_succ, List.replicate_zero, List.length_cons, List.length_nil, Bop.f, Cop.f, Bi.f, Im.f, wl_some, wj_some, wa_some, wbs_some, add_ii, add_ss, add_rr, sub_ii, mul_ii, mul_si, div_ii, mod_ii, pow_ii, neg_i, eq_ii, ne_ii, eq_ss, ne_ss, lt_ii, le_ii, gt_ii, ge_ii, eq_bb, ne_bb, in_cs, tr_b, tr_i, ix_r, ix_t, ix_f, ix_s, sl_s, sl_r, set_r, len_s, len_r, len_f, len_t, abs_i, max_ii, min_ii, max_r, min_r, int_i, int_b, list_r, sum_r, all_r, isi_ii, isi_ib, isi_ss, aug_ii, aug_sub, sel_app, sel_index, sel_pop, sel_count, sel_join, app_r, count_s, wx_some, idx_r, wT_some, join_r, src_s, src_f, src_t, src_r, if_true, if_false, Bool.not_true, Bool.not_false, Bool.false_eq_true]
  rw [if_pos (line_of (by omega))]
  refine is_index_any d _ hd ?_
  unfold againB at h
  cases e : isIx d w.length with
  | false =>
    rw [e] at h
    simp only [we_c, we_v, we_bin, we_neg, we_cmp, we_chn, we_no, we_and, we_or, we_ife, we_tup, we_lst, we_ix, we_sl, we_bi, we_mt, we_call, we_lrg1, we_lrg2, we_lc, ws_nil, ws_cons, wo_nil, wo_cons, wt_nil, wt_cons, wi_rng1, wi_rng2, wi_rng3, wi_of, wi_int, wS_asgN, wS_asgT, wS_asgS, wS_par2, wS_par3, wS_aug, wS_ex, wS_ret, wS_retN, wS_iff, wS_pass, wS_brk, wS_cont, wS_never, wS_nil, wS_cons, wS_for, wS_whl, wF_nx, wF_rt, wF_bk, wF_ct, wv_some, wb_some, wc_some, wm_some, wz_bl, wE_some, wN_some, wo_some, wo_none, wo_ite, List.getElem?_cons_zero, List.getElem?_cons_succ, List.set_cons_zero, List.set_cons_succ, List.map_cons, List.map_nil, List.cons_append, List.nil_append, List.append_nil, List.replicate_succ, List.replicate_zero, List.length_cons, List.length_nil, Bop.f, Cop.f, Bi.f, Im.f, wl_some, wj_some, wa_some, wbs_some, add_ii, add_ss, add_rr, sub_ii, mul_ii, mul_si, div_ii, mod_ii, pow_ii, neg_i, eq_ii, ne_ii, eq_ss, ne_ss, lt_ii, le_ii, gt_ii, ge_ii, eq_bb, ne_bb, in_cs, tr_b, tr_i, ix_r, ix_t, ix_f, ix_s, sl_s, sl_r, set_r, len_s, len_r, len_f, len_t, abs_i, max_ii, min_ii, max_r, min_r, int_i, int_b, list_r, sum_r, all_r, isi_ii, isi_ib, isi_ss, aug_ii, aug_sub, sel_app, sel_index, sel_pop, sel_count, sel_join, app_r, count_s, wx_some, idx_r, wT_some, join_r, src_s, src_f, src_t, src_r, if_true, if_false, Bool.not_true, Bool.not_false, Bool.false_eq_true]
    exact h S (List.prefix_refl _)
  | true =>
    rw [e, Bool.true_and] at h
    cases d with
    | int i =>
      have hi : 0 ≤ i ∧ i < (w.length : Nat) := of_decide_eq_true e
      obtain ⟨n, rfl⟩ : ∃ n : Nat, i = n := ⟨i.toNat, by omega⟩
      have h' : ∀ T, S <+: T → Q (.bl (againN w n)) T := h
      simp only [we_c, we_v, we_bin, we_neg, we_cmp, we_chn, we_no, we_and, we_or, we_ife, we_tup, we_lst, we_ix, we_sl, we_bi, we_mt, we_call, we_lrg1, we_lrg2, we_lc, ws_nil, ws_cons, wo_nil, wo_cons, wt_nil, wt_cons, wi_rng1, wi_rng2, wi_rng3, wi_of, wi_int, wS_asgN, wS_asgT, wS_asgS, wS_par2, wS_par3, wS_aug, wS_ex, wS_ret, wS_retN, wS_iff, wS_pass, wS_brk, wS_cont, wS_never, wS_nil, wS_cons, wS_for, wS_whl, wF_nx, wF_rt, wF_bk, wF_ct, wv_some, wb_some, wc_some, wm_some, wz_bl, wE_some, wN_some, wo_some, wo_none, wo_ite, List.getElem?_cons_zero, List.getElem?_cons_succ, List.set_cons_zero, List.set_cons_succ, List.map_cons, List.map_nil, List.cons_append, List.nil_append, List.append_nil, List.replicate_succ, List.replicate_zero, List.length_cons, List.length_nil, Bop.f, Cop.f, Bi.f, Im.f, wl_some, wj_some, wa_some, wbs_some, add_ii, add_ss, add_rr, sub_ii, mul_ii, mul_si, div_ii, mod_ii, pow_ii, neg_i, eq_ii, ne_ii, eq_ss, ne_ss, lt_ii, le_ii, gt_ii, ge_ii, eq_bb, ne_bb, in_cs, tr_b, tr_i, ix_r, ix_t, ix_f, ix_s, sl_s, sl_r, set_r, len_s, len_r, len_f, len_t, abs_i, max_ii, min_ii, max_r, min_r, int_i, int_b, list_r, sum_r, all_r, isi_ii, isi_ib, isi_ss, aug_ii, aug_sub, sel_app, sel_index, sel_pop, sel_count, sel_join, app_r, count_s, wx_some, idx_r, wT_some, join_r, src_s, src_f, src_t, src_r, if_true, if_false, Bool.not_true, Bool.not_false, Bool.false_eq_true, decide_eq_true_eq]
      unfold againN at h'
      by_cases c0 : n = 0
      · rw [if_pos (by omega)]
        rw [decide_eq_false (fun z => z.1 c0)] at h'
        subst c0
        exact h' S (List.prefix_refl _)
      · rw [if_neg (by omega), if_pos (line_of (by omega)), if_pos (show (0 : Int) < (n : Nat) by omega)]
        simp only [we_c, we_v, we_bin, we_neg, we_cmp, we_chn, we_no, we_and, we_or, we_ife, we_tup, we_lst, we_ix, we_sl, we_bi, we_mt, we_call, we_lrg1, we_lrg2, we_lc, ws_nil, ws_cons, wo_nil, wo_cons, wt_nil, wt_cons, wi_rng1, wi_rng2, wi_rng3, wi_of, wi_int, wS_asgN, wS_asgT, wS_asgS, wS_par2, wS_par3, wS_aug, wS_ex, wS_ret, wS_retN, wS_iff, wS_pass, wS_brk, wS_cont, wS_never, wS_nil, wS_cons, wS_for, wS_whl, wF_nx, wF_rt, wF_bk, wF_ct, wv_some, wb_some, wc_some, wm_some, wz_bl, wE_some, wN_some, wo_some, wo_none, wo_ite, List.getElem?_cons_zero, List.getElem?_cons_succ, List.set_cons_zero, List.set_cons_succ, List.map_cons, List.map_nil, List.cons_append, List.nil_append, List.append_nil, List.replicate_succ, List.replicate_zero, List.length_cons, List.length_nil, Bop.f, Cop.f, Bi.f, Im.f, wl_some, wj_some, wa_some, wbs_some, add_ii, add_ss, add_rr, sub_ii, mul_ii, mul_si, div_ii, mod_ii, pow_ii, neg_i, eq_ii, ne_ii, eq_ss, ne_ss, lt_ii, le_ii, gt_ii, ge_ii, eq_bb, ne_bb, in_cs, tr_b, tr_i, ix_r, ix_t, ix_f, ix_s, sl_s, sl_r, set_r, len_s, len_r, len_f, len_t, abs_i, max_ii, min_ii, max_r, min_r, int_i, int_b, list_r, sum_r, all_r, isi_ii, isi_ib, isi_ss, aug_ii, aug_sub, sel_app, sel_index, sel_pop, sel_count, sel_join, app_r, count_s, wx_some, idx_r, wT_some, join_r, src_s, src_f, src_t, src_r, if_true, if_false, Bool.not_true, Bool.not_false, Bool.false_eq_true, decide_eq_true_eq, Bool.not_eq_true', decide_eq_false_iff_not]
        have hd' := Nat.div_le_self w.length n
        have ht : (w.take n).length ≤ 1000 := by rw [List.length_take]; omega
        have hm : (w.take n).length * (w.length / n) ≤ 1000 * 1000 := Nat.mul_le_mul ht (by omega)
        by_cases c1 : w.length % n = 0
        · have cx : ¬ ¬ (w.length : Int) % (n : Nat) = 0 := fun z => z (by rw [← Int.natCast_emod]; omega)
          rw [if_neg cx, if_pos (line_of (by omega)), if_pos (line_of (by omega)), if_pos ⟨by omega, log_small (by omega)⟩, cut_to, ← Int.natCast_ediv, Int.toNat_natCast]
          rw [if_pos ⟨Int.natCast_nonneg _, Int.le_trans (Int.ofNat_le.mpr (Nat.le_trans hd' h2)) (by decide), by omega, by show _ ≤ 16777216; omega⟩]
          have := h' S (List.prefix_refl _)
          have e2 : decide (n ≠ 0 ∧ w.length % n = 0 ∧ w = (List.replicate (w.length / n) (w.take n)).flatten) = decide (w = (List.replicate (w.length / n) (w.take n)).flatten) := by
            by_cases z : w = (List.replicate (w.length / n) (w.take n)).flatten
            · rw [decide_eq_true ⟨c0, c1, z⟩, decide_eq_true z]
            · rw [decide_eq_false fun y => z y.2.2, decide_eq_false z]
          rw [e2] at this
          exact this
        · have cx : ¬ (w.length : Int) % (n : Nat) = 0 := by rw [← Int.natCast_emod]; omega
          rw [if_pos cx]
          have := h' S (List.prefix_refl _)
          rw [decide_eq_false fun y => c1 y.2.1] at this
          exact this
    | _ => cases e
end K86

set_option Elab.async false
set_option linter.all false
set_option maxRecDepth 100000
set_option maxHeartbeats 1000000
namespace K86
open Mi Lw
variable {k : Nat} {S : Mem} {Q : D → Mem → Prop}
theorem cut_from {α : Type} (xs : List α) (a : Nat) : cutL xs (some (a : Int)) none = xs.drop a := by
  unfold cutL
  rw [HT.sIx_none, HT.sIx_nat]
  by_cases h : a ≤ xs.length
  · rw [Nat.min_eq_left h, List.take_of_length_le (by rw [List.length_drop]; omega)]
  · rw [Nat.min_eq_right (show xs.length ≤ a by omega), List.drop_of_length_le (Nat.le_refl _), List.drop_of_length_le (show xs.length ≤ a by omega)]
    simp
def lowFromN (w : List Nat) (n : Nat) : Bool := decide (Nat.gcd (w.count 114) (w.length - w.count 114) = 1 ∧ w.drop n ++ w.take n = lowR (w.count 114) (w.length - w.count 114))
def lowFromB (w : List Nat) (d : D) : Bool := isIx d w.length && (match d with
  | .int i => lowFromN w i.toNat
  | _ => false)
theorem is_low_from_ok (w : List Nat) (d : D) (hd : small d = true) (h2 : w.length ≤ 1000) (h : ∀ T, S <+: T → Q (.bl (lowFromB w d)) T) : Wp (run ds (k + 3) 12 [.str w, d] S) Q := by
  refine wp_run (d := d12) rfl rfl ?_
  simp only [d12, we_c, we_v, we_bin, we_neg, we_cmp, we_chn, we_no, we_and, we_or, we_ife, we_tup, we_lst, we_ix, we_sl, we_bi, we_mt, we_call, we_lrg1, we_lrg2, we_lc, ws_nil, ws_cons, wo_nil, wo_cons, wt_nil, wt_cons, wi_rng1, wi_rng2, wi_rng3, wi_of, wi_int, wS_asgN, wS_asgT, wS_asgS, wS_par2, wS_par3, wS_aug, wS_ex, wS_ret, wS_retN, wS_iff, wS_pass, wS_brk, wS_cont, wS_never, wS_nil, wS_cons, wS_for, wS_whl, wF_nx, wF_rt, wF_bk, wF_ct, wv_some, wb_some, wc_some, wm_some, wz_bl, wE_some, wN_some, wo_some, wo_none, wo_ite, List.getElem?_cons_zero, List.getElem?_cons_succ, List.set_cons_zero, List.set_cons_succ, List.map_cons, List.map_nil, List.cons_append, List.nil_append, List.append_nil, List.replicate_succ, List.replicate_zero, List.length_cons, List.length_nil, Bop.f, Cop.f, Bi.f, Im.f, wl_some, wj_some, wa_some, wbs_some, add_ii, add_ss, add_rr, sub_ii, mul_ii, mul_si, div_ii, mod_ii, pow_ii, neg_i, eq_ii, ne_ii, eq_ss, ne_ss, lt_ii, le_ii, gt_ii, ge_ii, eq_bb, ne_bb, in_cs, tr_b, tr_i, ix_r, ix_t, ix_f, ix_s, sl_s, sl_r, set_r, len_s, len_r, len_f, len_t, abs_i, max_ii, min_ii, max_r, min_r, int_i, int_b, list_r, sum_r, all_r, isi_ii, isi_ib, isi_ss, aug_ii, aug_sub, sel_app, sel_index, sel_pop, sel_count, sel_join, app_r, count_s, wx_some, idx_r, wT_some, join_r, src_s, src_f, src_t, src_r, if_true, if_false, Bool.not_true, Bool.not_false, Bool.false_eq_true]
  refine counts_ok w (by omega) fun T hp => ?_
  simp only [setT, setTs, we_c, we_v, we_bin, we_neg, we_cmp, we_chn, we_no, we_and, we_or, we_ife, we_tup, we_lst, we_ix, we_sl, we_bi, we_mt, we_call, we_lrg1, we_lrg2, we_lc, ws_nil, ws_cons, wo_nil, wo_cons, wt_nil, wt_cons, wi_rng1, wi_rng2, wi_rng3, wi_of, wi_int, wS_asgN, wS_asgT, wS_asgS, wS_par2, wS_par3, wS_aug, wS_ex, wS_ret, wS_retN, wS_iff, wS_pass, wS_brk, wS_cont, wS_never, wS_nil, wS_cons, wS_for, wS_whl, wF_nx, wF_rt, wF_bk, wF_ct, wv_some, wb_some, wc_some, wm_some, wz_bl, wE_some, wN_some, wo_some, wo_none, wo_ite, List.getElem?_cons_zero, List.getElem?_cons_succ, List.set_cons_zero, List.set_cons_succ, List.map_cons, List.map_nil, List.cons_append, List.nil_append, List.append_nil, List.replicate_succ, List.replicate_zero, List.length_cons, List.length_nil, Bop.f, Cop.f, Bi.f, Im.f, wl_some, wj_some, wa_some, wbs_some, add_ii, add_ss, add_rr, sub_ii, mul_ii, mul_si, div_ii, mod_ii, pow_ii, neg_i, eq_ii, ne_ii, eq_ss, ne_ss, lt_ii, le_ii, gt_ii, ge_ii, eq_bb, ne_bb, in_cs, tr_b, tr_i, ix_r, ix_t, ix_f, ix_s, sl_s, sl_r, set_r, len_s, len_r, len_f, len_t, abs_i, max_ii, min_ii, max_r, min_r, int_i, int_b, list_r, sum_r, all_r, isi_ii, isi_ib, isi_ss, aug_ii, aug_sub, sel_app, sel_index, sel_pop, sel_count, sel_join, app_r, count_s, wx_some, idx_r, wT_some, join_r, src_s, src_f, src_t, src_r, if_true, if_false, Bool.not_true, Bool.not_false, Bool.false_eq_true]
  rw [if_pos (line_of (by omega))]
  refine is_index_any d _ hd ?_
  unfold lowFromB at h
  cases e : isIx d w.length with
  | false =>
    rw [e] at h
    simp only [we_c, we_v, we_bin, we_neg, we_cmp, we_chn, we_no, we_and, we_or, we_ife, we_tup, we_lst, we_ix, we_sl, we_bi, we_mt, we_call, we_lrg1, we_lrg2, we_lc, ws_nil, ws_cons, wo_nil, wo_cons, wt_nil, wt_cons, wi_rng1, wi_rng2, wi_rng3, wi_of, wi_int, wS_asgN, wS_asgT, wS_asgS, wS_par2, wS_par3, wS_aug, wS_ex, wS_ret, wS_retN, wS_iff, wS_pass, wS_brk, wS_cont, wS_never, wS_nil, wS_cons, wS_for, wS_whl, wF_nx, wF_rt, wF_bk, wF_ct, wv_some, wb_some, wc_some, wm_some, wz_bl, wE_some, wN_some, wo_some, wo_none, wo_ite, List.getElem?_cons_zero, List.getElem?_cons_succ, List.set_cons_zero, List.set_cons_succ, List.map_cons, List.map_nil, List.cons_append, List.nil_append, List.append_nil, List.replicate_succ, List.replicate_zero, List.length_cons, List.length_nil, Bop.f, Cop.f, Bi.f, Im.f, wl_some, wj_some, wa_some, wbs_some, add_ii, add_ss, add_rr, sub_ii, mul_ii, mul_si, div_ii, mod_ii, pow_ii, neg_i, eq_ii, ne_ii, eq_ss, ne_ss, lt_ii, le_ii, gt_ii, ge_ii, eq_bb, ne_bb, in_cs, tr_b, tr_i, ix_r, ix_t, ix_f, ix_s, sl_s, sl_r, set_r, len_s, len_r, len_f, len_t, abs_i, max_ii, min_ii, max_r, min_r, int_i, int_b, list_r, sum_r, all_r, isi_ii, isi_ib, isi_ss, aug_ii, aug_sub, sel_app, sel_index, sel_pop, sel_count, sel_join, app_r, count_s, wx_some, idx_r, wT_some, join_r, src_s, src_f, src_t, src_r, if_true, if_false, Bool.not_true, Bool.not_false, Bool.false_eq_true]
    exact h T hp
  | true =>
    rw [e, Bool.true_and] at h
    cases d with
    | int i =>
      have hi : 0 ≤ i ∧ i < (w.length : Nat) := of_decide_eq_true e
      obtain ⟨n, rfl⟩ : ∃ n : Nat, i = n := ⟨i.toNat, by omega⟩
      have h' : ∀ T, S <+: T → Q (.bl (lowFromN w n)) T := h
      have hc := List.count_le_length (a := 114) (l := w)
      simp only [we_c, we_v, we_bin, we_neg, we_cmp, we_chn, we_no, we_and, we_or, we_ife, we_tup, we_lst, we_ix, we_sl, we_bi, we_mt, we_call, we_lrg1, we_lrg2, we_lc, ws_nil, ws_cons, wo_nil, wo_cons, wt_nil, wt_cons, wi_rng1, wi_rng2, wi_rng3, wi_of, wi_int, wS_asgN, wS_asgT, wS_asgS, wS_par2, wS_par3, wS_aug, wS_ex, wS_ret, wS_retN, wS_iff, wS_pass, wS_brk, wS_cont, wS_never, wS_nil, wS_cons, wS_for, wS_whl, wF_nx, wF_rt, wF_bk, wF_ct, wv_some, wb_some, wc_some, wm_some, wz_bl, wE_some, wN_some, wo_some, wo_none, wo_ite, List.getElem?_cons_zero, List.getElem?_cons_succ, List.set_cons_zero, List.set_cons_succ, List.map_cons, List.map_nil, List.cons_append, List.nil_append, List.append_nil, List.replicate_succ, List.replicate_zero, List.length_cons, List.length_nil, Bop.f, Cop.f, Bi.f, Im.f, wl_some, wj_some, wa_some, wbs_some, add_ii, add_ss, add_rr, sub_ii, mul_ii, mul_si, div_ii, mod_ii, pow_ii, neg_i, eq_ii, ne_ii, eq_ss, ne_ss, lt_ii, le_ii, gt_ii, ge_ii, eq_bb, ne_bb, in_cs, tr_b, tr_i, ix_r, ix_t, ix_f, ix_s, sl_s, sl_r, set_r, len_s, len_r, len_f, len_t, abs_i, max_ii, min_ii, max_r, min_r, int_i, int_b, list_r, sum_r, all_r, isi_ii, isi_ib, isi_ss, aug_ii, aug_sub, sel_app, sel_index, sel_pop, sel_count, sel_join, app_r, count_s, wx_some, idx_r, wT_some, join_r, src_s, src_f, src_t, src_r, if_true, if_false, Bool.not_true, Bool.not_false, Bool.false_eq_true]
      refine share_ok _ _ (by omega) ?_
      unfold lowFromN at h'
      simp only [we_c, we_v, we_bin, we_neg, we_cmp, we_chn, we_no, we_and, we_or, we_ife, we_tup, we_lst, we_ix, we_sl, we_bi, we_mt, we_call, we_lrg1, we_lrg2, we_lc, ws_nil, ws_cons, wo_nil, wo_cons, wt_nil, wt_cons, wi_rng1, wi_rng2, wi_rng3, wi_of, wi_int, wS_asgN, wS_asgT, wS_asgS, wS_par2, wS_par3, wS_aug, wS_ex, wS_ret, wS_retN, wS_iff, wS_pass, wS_brk, wS_cont, wS_never, wS_nil, wS_cons, wS_for, wS_whl, wF_nx, wF_rt, wF_bk, wF_ct, wv_some, wb_some, wc_some, wm_some, wz_bl, wE_some, wN_some, wo_some, wo_none, wo_ite, List.getElem?_cons_zero, List.getElem?_cons_succ, List.set_cons_zero, List.set_cons_succ, List.map_cons, List.map_nil, List.cons_append, List.nil_append, List.append_nil, List.replicate_succ, List.replicate_zero, List.length_cons, List.length_nil, Bop.f, Cop.f, Bi.f, Im.f, wl_some, wj_some, wa_some, wbs_some, add_ii, add_ss, add_rr, sub_ii, mul_ii, mul_si, div_ii, mod_ii, pow_ii, neg_i, eq_ii, ne_ii, eq_ss, ne_ss, lt_ii, le_ii, gt_ii, ge_ii, eq_bb, ne_bb, in_cs, tr_b, tr_i, ix_r, ix_t, ix_f, ix_s, sl_s, sl_r, set_r, len_s, len_r, len_f, len_t, abs_i, max_ii, min_ii, max_r, min_r, int_i, int_b, list_r, sum_r, all_r, isi_ii, isi_ib, isi_ss, aug_ii, aug_sub, sel_app, sel_index, sel_pop, sel_count, sel_join, app_r, count_s, wx_some, idx_r, wT_some, join_r, src_s, src_f, src_t, src_r, if_true, if_false, Bool.not_true, Bool.not_false, Bool.false_eq_true]
      by_cases hg : Nat.gcd (w.count 114) (w.length - w.count 114) = 1
      · rw [if_neg (by rw [hg]; simp), if_pos (line_of (by omega)), if_pos (line_of (by omega)), cut_from, cut_to, if_pos (line_of (by rw [List.length_drop, List.length_take]; omega))]
        refine low_in_ok _ _ (by omega) fun T2 hp2 => ?_
        rw [eq_ss]
        have := h' T2 (hp.trans hp2)
        have e2 : decide (Nat.gcd (w.count 114) (w.length - w.count 114) = 1 ∧ w.drop n ++ w.take n = lowR (w.count 114) (w.length - w.count 114)) = decide (w.drop n ++ w.take n = lowR (w.count 114) (w.length - w.count 114)) := by
          by_cases z : w.drop n ++ w.take n = lowR (w.count 114) (w.length - w.count 114)
          · rw [decide_eq_true ⟨hg, z⟩, decide_eq_true z]
          · rw [decide_eq_false fun y => z y.2, decide_eq_false z]
        rw [e2] at this
        exact this
      · rw [if_pos (by simp; omega)]
        have := h' T hp
        rw [decide_eq_false fun y => hg y.1] at this
        exact this
    | _ => cases e
end K86

set_option Elab.async false
set_option linter.all false
set_option maxRecDepth 100000
set_option maxHeartbeats 1000000
namespace K86
open Mi Lw
variable {k : Nat} {S : Mem} {Q : D → Mem → Prop}
def unevenN (w : List Nat) (i j s : Nat) : Bool := decide (s ≠ 0 ∧ 1 < (if pre (w ++ w) (i + s) - pre (w ++ w) i - pre (w ++ w) (j + s) + pre (w ++ w) j < 0 then -(pre (w ++ w) (i + s) - pre (w ++ w) i - pre (w ++ w) (j + s) + pre (w ++ w) j) else pre (w ++ w) (i + s) - pre (w ++ w) i - pre (w ++ w) (j + s) + pre (w ++ w) j))
def unevenB (w : List Nat) (a b c : D) : Bool := isIx a w.length && (isIx b w.length && (isIx c ((w.length : Int) + 1) && (match a, b, c with
  | .int i, .int j, .int s => unevenN w i.toNat j.toNat s.toNat
  | _, _, _ => false)))
theorem is_uneven_ok (w : List Nat) (a b c : D) (ha : small a = true) (hb : small b = true) (hc : small c = true) (h2 : w.length ≤ 1000) (h : ∀ T, S <+: T → Q (.bl (unevenB w a b c)) T) : Wp (run ds (k + 2) 10 [.str w, a, b, c] S) Q := by
  refine wp_run (d := d10) rfl rfl ?_
  simp only [d10, we_c, we_v, we_bin, we_neg, we_cmp, we_chn, we_no, we_and, we_or, we_ife, we_tup, we_lst, we_ix, we_sl, we_bi, we_mt, we_call, we_lrg1, we_lrg2, we_lc, ws_nil, ws_cons, wo_nil, wo_cons, wt_nil, wt_cons, wi_rng1, wi_rng2, wi_rng3, wi_of, wi_int, wS_asgN, wS_asgT, wS_asgS, wS_par2, wS_par3, wS_aug, wS_ex, wS_ret, wS_retN, wS_iff, wS_pass, wS_brk, wS_cont, wS_never, wS_nil, wS_cons, wS_for, wS_whl, wF_nx, wF_rt, wF_bk, wF_ct, wv_some, wb_some, wc_some, wm_some, wz_bl, wE_some, wN_some, wo_some, wo_none, wo_ite, List.getElem?_cons_zero, List.getElem?_cons_succ, List.set_cons_zero, List.set_cons_succ, List.map_cons, List.map_nil, List.cons_append, List.nil_append, List.append_nil, List.replicate_succ, List.replicate_zero, List.length_cons, List.length_nil, Bop.f, Cop.f, Bi.f, Im.f, wl_some, wj_some, wa_some, wbs_some, add_ii, add_ss, add_rr, sub_ii, mul_ii, mul_si, div_ii, mod_ii, pow_ii, neg_i, eq_ii, ne_ii, eq_ss, ne_ss, lt_ii, le_ii, gt_ii, ge_ii, eq_bb, ne_bb, in_cs, tr_b, tr_i, ix_r, ix_t, ix_f, ix_s, sl_s, sl_r, set_r, len_s, len_r, len_f, len_t, abs_i, max_ii, min_ii, max_r, min_r, int_i, int_b, list_r, sum_r, all_r, isi_ii, isi_ib, isi_ss, aug_ii, aug_sub, sel_app, sel_index, sel_pop, sel_count, sel_join, app_r, count_s, wx_some, idx_r, wT_some, join_r, src_s, src_f, src_t, src_r, if_true, if_false, Bool.not_true, Bool.not_false, Bool.false_eq_true]
  rw [if_pos (line_of (by omega))]
  refine is_index_any a _ ha ?_
  unfold unevenB at h
  cases e1 : isIx a w.length with
  | false =>
    rw [e1] at h
    simp only [we_c, we_v, we_bin, we_neg, we_cmp, we_chn, we_no, we_and, we_or, we_ife, we_tup, we_lst, we_ix, we_sl, we_bi, we_mt, we_call, we_lrg1, we_lrg2, we_lc, ws_nil, ws_cons, wo_nil, wo_cons, wt_nil, wt_cons, wi_rng1, wi_rng2, wi_rng3, wi_of, wi_int, wS_asgN, wS_asgT, wS_asgS, wS_par2, wS_par3, wS_aug, wS_ex, wS_ret, wS_retN, wS_iff, wS_pass, wS_brk, wS_cont, wS_never, wS_nil, wS_cons, wS_for, wS_whl, wF_nx, wF_rt, wF_bk, wF_ct, wv_some, wb_some, wc_some, wm_some, wz_bl, wE_some, wN_some, wo_some, wo_none, wo_ite, List.getElem?_cons_zero, List.getElem?_cons_succ, List.set_cons_zero, List.set_cons_succ, List.map_cons, List.map_nil, List.cons_append, List.nil_append, List.append_nil, List.replicate_succ, List.replicate_zero, List.length_cons, List.length_nil, Bop.f, Cop.f, Bi.f, Im.f, wl_some, wj_some, wa_some, wbs_some, add_ii, add_ss, add_rr, sub_ii, mul_ii, mul_si, div_ii, mod_ii, pow_ii, neg_i, eq_ii, ne_ii, eq_ss, ne_ss, lt_ii, le_ii, gt_ii, ge_ii, eq_bb, ne_bb, in_cs, tr_b, tr_i, ix_r, ix_t, ix_f, ix_s, sl_s, sl_r, set_r, len_s, len_r, len_f, len_t, abs_i, max_ii, min_ii, max_r, min_r, int_i, int_b, list_r, sum_r, all_r, isi_ii, isi_ib, isi_ss, aug_ii, aug_sub, sel_app, sel_index, sel_pop, sel_count, sel_join, app_r, count_s, wx_some, idx_r, wT_some, join_r, src_s, src_f, src_t, src_r, if_true, if_false, Bool.not_true, Bool.not_false, Bool.false_eq_true]
    exact h S (List.prefix_refl _)
  | true =>
    rw [e1, Bool.true_and] at h
    simp only [we_c, we_v, we_bin, we_neg, we_cmp, we_chn, we_no, we_and, we_or, we_ife, we_tup, we_lst, we_ix, we_sl, we_bi, we_mt, we_call, we_lrg1, we_lrg2, we_lc, ws_nil, ws_cons, wo_nil, wo_cons, wt_nil, wt_cons, wi_rng1, wi_rng2, wi_rng3, wi_of, wi_int, wS_asgN, wS_asgT, wS_asgS, wS_par2, wS_par3, wS_aug, wS_ex, wS_ret, wS_retN, wS_iff, wS_pass, wS_brk, wS_cont, wS_never, wS_nil, wS_cons, wS_for, wS_whl, wF_nx, wF_rt, wF_bk, wF_ct, wv_some, wb_some, wc_some, wm_some, wz_bl, wE_some, wN_some, wo_some, wo_none, wo_ite, List.getElem?_cons_zero, List.getElem?_cons_succ, List.set_cons_zero, List.set_cons_succ, List.map_cons, List.map_nil, List.cons_append, List.nil_append, List.append_nil, List.replicate_succ, List.replicate_zero, List.length_cons, List.length_nil, Bop.f, Cop.f, Bi.f, Im.f, wl_some, wj_some, wa_some, wbs_some, add_ii, add_ss, add_rr, sub_ii, mul_ii, mul_si, div_ii, mod_ii, pow_ii, neg_i, eq_ii, ne_ii, eq_ss, ne_ss, lt_ii, le_ii, gt_ii, ge_ii, eq_bb, ne_bb, in_cs, tr_b, tr_i, ix_r, ix_t, ix_f, ix_s, sl_s, sl_r, set_r, len_s, len_r, len_f, len_t, abs_i, max_ii, min_ii, max_r, min_r, int_i, int_b, list_r, sum_r, all_r, isi_ii, isi_ib, isi_ss, aug_ii, aug_sub, sel_app, sel_index, sel_pop, sel_count, sel_join, app_r, count_s, wx_some, idx_r, wT_some, join_r, src_s, src_f, src_t, src_r, if_true, if_false, Bool.not_true, Bool.not_false, Bool.false_eq_true]
    refine is_index_any b _ hb ?_
    cases e2 : isIx b w.length with
    | false =>
      rw [e2] at h
      simp only [we_c, we_v, we_bin, we_neg, we_cmp, we_chn, we_no, we_and, we_or, we_ife, we_tup, we_lst, we_ix, we_sl, we_bi, we_mt, we_call, we_lrg1, we_lrg2, we_lc, ws_nil, ws_cons, wo_nil, wo_cons, wt_nil, wt_cons, wi_rng1, wi_rng2, wi_rng3, wi_of, wi_int, wS_asgN, wS_asgT, wS_asgS, wS_par2, wS_par3, wS_aug, wS_ex, wS_ret, wS_retN, wS_iff, wS_pass, wS_brk, wS_cont, wS_never, wS_nil, wS_cons, wS_for, wS_whl, wF_nx, wF_rt, wF_bk, wF_ct, wv_some, wb_some, wc_some, wm_some, wz_bl, wE_some, wN_some, wo_some, wo_none, wo_ite, List.getElem?_cons_zero, List.getElem?_cons_succ, List.set_cons_zero, List.set_cons_succ, List.map_cons, List.map_nil, List.cons_append, List.nil_append, List.append_nil, List.replicate_succ, List.replicate_zero, List.length_cons, List.length_nil, Bop.f, Cop.f, Bi.f, Im.f, wl_some, wj_some, wa_some, wbs_some, add_ii, add_ss, add_rr, sub_ii, mul_ii, mul_si, div_ii, mod_ii, pow_ii, neg_i, eq_ii, ne_ii, eq_ss, ne_ss, lt_ii, le_ii, gt_ii, ge_ii, eq_bb, ne_bb, in_cs, tr_b, tr_i, ix_r, ix_t, ix_f, ix_s, sl_s, sl_r, set_r, len_s, len_r, len_f, len_t, abs_i, max_ii, min_ii, max_r, min_r, int_i, int_b, list_r, sum_r, all_r, isi_ii, isi_ib, isi_ss, aug_ii, aug_sub, sel_app, sel_index, sel_pop, sel_count, sel_join, app_r, count_s, wx_some, idx_r, wT_some, join_r, src_s, src_f, src_t, src_r, if_true, if_false, Bool.not_true, Bool.not_false, Bool.false_eq_true]
      exact h S (List.prefix_refl _)
    | true =>
      rw [e2, Bool.true_and] at h
      simp only [we_c, we_v, we_bin, we_neg, we_cmp, we_chn, we_no, we_and, we_or, we_ife, we_tup, we_lst, we_ix, we_sl, we_bi, we_mt, we_call, we_lrg1, we_lrg2, we_lc, ws_nil, ws_cons, wo_nil, wo_cons, wt_nil, wt_cons, wi_rng1, wi_rng2, wi_rng3, wi_of, wi_int, wS_asgN, wS_asgT, wS_asgS, wS_par2, wS_par3, wS_aug, wS_ex, wS_ret, wS_retN, wS_iff, wS_pass, wS_brk, wS_cont, wS_never, wS_nil, wS_cons, wS_for, wS_whl, wF_nx, wF_rt, wF_bk, wF_ct, wv_some, wb_some, wc_some, wm_some, wz_bl, wE_some, wN_some, wo_some, wo_none, wo_ite, List.getElem?_cons_zero, List.getElem?_cons_succ, List.set_cons_zero, List.set_cons_succ, List.map_cons, List.map_nil, List.cons_append, List.nil_append, List.append_nil, List.replicate_succ, List.replicate_zero, List.length_cons, List.length_nil, Bop.f, Cop.f, Bi.f, Im.f, wl_some, wj_some, wa_some, wbs_some, add_ii, add_ss, add_rr, sub_ii, mul_ii, mul_si, div_ii, mod_ii, pow_ii, neg_i, eq_ii, ne_ii, eq_ss, ne_ss, lt_ii, le_ii, gt_ii, ge_ii, eq_bb, ne_bb, in_cs, tr_b, tr_i, ix_r, ix_t, ix_f, ix_s, sl_s, sl_r, set_r, len_s, len_r, len_f, len_t, abs_i, max_ii, min_ii, max_r, min_r, int_i, int_b, list_r, sum_r, all_r, isi_ii, isi_ib, isi_ss, aug_ii, aug_sub, sel_app, sel_index, sel_pop, sel_count, sel_join, app_r, count_s, wx_some, idx_r, wT_some, join_r, src_s, src_f, src_t, src_r, if_true, if_false, Bool.not_true, Bool.not_false, Bool.false_eq_true]
      refine is_index_any c _ hc ?_
      cases e3 : isIx c ((w.length : Int) + 1) with
      | false =>
        rw [e3] at h
        simp only [we_c, we_v, we_bin, we_neg, we_cmp, we_chn, we_no, we_and, we_or, we_ife, we_tup, we_lst, we_ix, we_sl, we_bi, we_mt, we_call, we_lrg1, we_lrg2, we_lc, ws_nil, ws_cons, wo_nil, wo_cons, wt_nil, wt_cons, wi_rng1, wi_rng2, wi_rng3, wi_of, wi_int, wS_asgN, wS_asgT, wS_asgS, wS_par2, wS_par3, wS_aug, wS_ex, wS_ret, wS_retN, wS_iff, wS_pass, wS_brk, wS_cont, wS_never, wS_nil, wS_cons, wS_for, wS_whl, wF_nx, wF_rt, wF_bk, wF_ct, wv_some, wb_some, wc_some, wm_some, wz_bl, wE_some, wN_some, wo_some, wo_none, wo_ite, List.getElem?_cons_zero, List.getElem?_cons_succ, List.set_cons_zero, List.set_cons_succ, List.map_cons, List.map_nil, List.cons_append, List.nil_append, List.append_nil, List.replicate_succ, List.replicate_zero, List.length_cons, List.length_nil, Bop.f, Cop.f, Bi.f, Im.f, wl_some, wj_some, wa_some, wbs_some, add_ii, add_ss, add_rr, sub_ii, mul_ii, mul_si, div_ii, mod_ii, pow_ii, neg_i, eq_ii, ne_ii, eq_ss, ne_ss, lt_ii, le_ii, gt_ii, ge_ii, eq_bb, ne_bb, in_cs, tr_b, tr_i, ix_r, ix_t, ix_f, ix_s, sl_s, sl_r, set_r, len_s, len_r, len_f, len_t, abs_i, max_ii, min_ii, max_r, min_r, int_i, int_b, list_r, sum_r, all_r, isi_ii, isi_ib, isi_ss, aug_ii, aug_sub, sel_app, sel_index, sel_pop, sel_count, sel_join, app_r, count_s, wx_some, idx_r, wT_some, join_r, src_s, src_f, src_t, src_r, if_true, if_false, Bool.not_true, Bool.not_false, Bool.false_eq_true]
        exact h S (List.prefix_refl _)
      | true =>
        rw [e3, Bool.true_and] at h
        cases a with
        | int i =>
          cases b with
          | int j =>
            cases c with
            | int s =>
              have hi : 0 ≤ i ∧ i < (w.length : Nat) := of_decide_eq_true e1
              have hj : 0 ≤ j ∧ j < (w.length : Nat) := of_decide_eq_true e2
              have hs : 0 ≤ s ∧ s < (w.length : Nat) + 1 := of_decide_eq_true e3
              obtain ⟨i, rfl⟩ : ∃ n : Nat, i = n := ⟨i.toNat, by omega⟩
              obtain ⟨j, rfl⟩ : ∃ n : Nat, j = n := ⟨j.toNat, by omega⟩
              obtain ⟨s, rfl⟩ : ∃ n : Nat, s = n := ⟨s.toNat, by omega⟩
              have h' : ∀ T, S <+: T → Q (.bl (unevenN w i j s)) T := h
              unfold unevenN at h'
              simp only [we_c, we_v, we_bin, we_neg, we_cmp, we_chn, we_no, we_and, we_or, we_ife, we_tup, we_lst, we_ix, we_sl, we_bi, we_mt, we_call, we_lrg1, we_lrg2, we_lc, ws_nil, ws_cons, wo_nil, wo_cons, wt_nil, wt_cons, wi_rng1, wi_rng2, wi_rng3, wi_of, wi_int, wS_asgN, wS_asgT, wS_asgS, wS_par2, wS_par3, wS_aug, wS_ex, wS_ret, wS_retN, wS_iff, wS_pass, wS_brk, wS_cont, wS_never, wS_nil, wS_cons, wS_for, wS_whl, wF_nx, wF_rt, wF_bk, wF_ct, wv_some, wb_some, wc_some, wm_some, wz_bl, wE_some, wN_some, wo_some, wo_none, wo_ite, List.getElem?_cons_zero, List.getElem?_cons_succ, List.set_cons_zero, List.set_cons_succ, List.map_cons, List.map_nil, List.cons_append, List.nil_append, List.append_nil, List.replicate_succ, List.replicate_zero, List.length_cons, List.length_nil, Bop.f, Cop.f, Bi.f, Im.f, wl_some, wj_some, wa_some, wbs_some, add_ii, add_ss, add_rr, sub_ii, mul_ii, mul_si, div_ii, mod_ii, pow_ii, neg_i, eq_ii, ne_ii, eq_ss, ne_ss, lt_ii, le_ii, gt_ii, ge_ii, eq_bb, ne_bb, in_cs, tr_b, tr_i, ix_r, ix_t, ix_f, ix_s, sl_s, sl_r, set_r, len_s, len_r, len_f, len_t, abs_i, max_ii, min_ii, max_r, min_r, int_i, int_b, list_r, sum_r, all_r, isi_ii, isi_ib, isi_ss, aug_ii, aug_sub, sel_app, sel_index, sel_pop, sel_count, sel_join, app_r, count_s, wx_some, idx_r, wT_some, join_r, src_s, src_f, src_t, src_r, if_true, if_false, Bool.not_true, Bool.not_false, Bool.false_eq_true, decide_eq_true_eq]
              by_cases c0 : s = 0
              · rw [if_pos (by omega)]
                have := h' S (List.prefix_refl _)
                rw [decide_eq_false fun y => y.1 c0] at this
                exact this
              · rw [if_neg (by omega), if_pos (line_of (by omega))]
                refine sums_in_ok (w ++ w) (by rw [List.length_append]; omega) fun T hp _ hl => ?_
                have hwl : (w ++ w).length = w.length + w.length := List.length_append
                have e1 : L2.atI (preL (w ++ w) ((w ++ w).length + 1)) ((i : Nat) + (s : Nat) : Int) = some (.int (pre (w ++ w) (i + s))) := by
                  rw [show ((i : Nat) + (s : Nat) : Int) = ((i + s : Nat) : Int) by omega, atI_nat, preL_get (by omega)]
                have e2 : L2.atI (preL (w ++ w) ((w ++ w).length + 1)) ((i : Nat) : Int) = some (.int (pre (w ++ w) i)) := by rw [atI_nat, preL_get (by omega)]
                have e3 : L2.atI (preL (w ++ w) ((w ++ w).length + 1)) ((j : Nat) + (s : Nat) : Int) = some (.int (pre (w ++ w) (j + s))) := by
                  rw [show ((j : Nat) + (s : Nat) : Int) = ((j + s : Nat) : Int) by omega, atI_nat, preL_get (by omega)]
                have e4 : L2.atI (preL (w ++ w) ((w ++ w).length + 1)) ((j : Nat) : Int) = some (.int (pre (w ++ w) j)) := by rw [atI_nat, preL_get (by omega)]
                simp only [we_c, we_v, we_bin, we_neg, we_cmp, we_chn, we_no, we_and, we_or, we_ife, we_tup, we_lst, we_ix, we_sl, we_bi, we_mt, we_call, we_lrg1, we_lrg2, we_lc, ws_nil, ws_cons, wo_nil, wo_cons, wt_nil, wt_cons, wi_rng1, wi_rng2, wi_rng3, wi_of, wi_int, wS_asgN, wS_asgT, wS_asgS, wS_par2, wS_par3, wS_aug, wS_ex, wS_ret, wS_retN, wS_iff, wS_pass, wS_brk, wS_cont, wS_never, wS_nil, wS_cons, wS_for, wS_whl, wF_nx, wF_rt, wF_bk, wF_ct, wv_some, wb_some, wc_some, wm_some, wz_bl, wE_some, wN_some, wo_some, wo_none, wo_ite, List.getElem?_cons_zero, List.getElem?_cons_succ, List.set_cons_zero, List.set_cons_succ, List.map_cons, List.map_nil, List.cons_append, List.nil_append, List.append_nil, List.replicate_succ, List.replicate_zero, List.length_cons, List.length_nil, Bop.f, Cop.f, Bi.f, Im.f, wl_some, wj_some, wa_some, wbs_some, add_ii, add_ss, add_rr, sub_ii, mul_ii, mul_si, div_ii, mod_ii, pow_ii, neg_i, eq_ii, ne_ii, eq_ss, ne_ss, lt_ii, le_ii, gt_ii, ge_ii, eq_bb, ne_bb, in_cs, tr_b, tr_i, ix_r, ix_t, ix_f, ix_s, sl_s, sl_r, set_r, len_s, len_r, len_f, len_t, abs_i, max_ii, min_ii, max_r, min_r, int_i, int_b, list_r, sum_r, all_r, isi_ii, isi_ib, isi_ss, aug_ii, aug_sub, sel_app, sel_index, sel_pop, sel_count, sel_join, app_r, count_s, wx_some, idx_r, wT_some, join_r, src_s, src_f, src_t, src_r, if_true, if_false, Bool.not_true, Bool.not_false, Bool.false_eq_true, hl, e1, e2, e3, e4]
                have := h' T hp
                rw [show decide (s ≠ 0 ∧ 1 < (if pre (w ++ w) (i + s) - pre (w ++ w) i - pre (w ++ w) (j + s) + pre (w ++ w) j < 0 then -(pre (w ++ w) (i + s) - pre (w ++ w) i - pre (w ++ w) (j + s) + pre (w ++ w) j) else pre (w ++ w) (i + s) - pre (w ++ w) i - pre (w ++ w) (j + s) + pre (w ++ w) j)) = decide (1 < (if pre (w ++ w) (i + s) - pre (w ++ w) i - pre (w ++ w) (j + s) + pre (w ++ w) j < 0 then -(pre (w ++ w) (i + s) - pre (w ++ w) i - pre (w ++ w) (j + s) + pre (w ++ w) j) else pre (w ++ w) (i + s) - pre (w ++ w) i - pre (w ++ w) (j + s) + pre (w ++ w) j)) by
                  apply decide_eq_decide.mpr
                  exact ⟨fun z => z.2, fun z => ⟨c0, z⟩⟩] at this
                exact this
            | _ => cases e3
          | _ => cases e2
        | _ => cases e1
/-! ### is_straight_paper -/
theorem dupP {p : Prop} [Decidable p] {A B : Prop} (h : if p then A else B) : if p then A else if p then A else B := by
  by_cases c : p
  · rw [if_pos c] at h ⊢; exact h
  · rw [if_neg c] at h ⊢; rw [if_neg c]; exact h
/-- what is_straight_paper says -/
def jB (w : List Nat) : D → Bool
  | .tup [.str s, a] => if s = [97, 103, 97, 105, 110] then againB w a else decide (s = [115, 116, 114, 97, 105, 103, 104, 116]) && lowFromB w a
  | .tup [.str s, a, b, c] => decide (s = [117, 110, 101, 118, 101, 110]) && unevenB w a b c
  | _ => false
theorem isi_tup (xs : List D) : WpO (fIsi [.tup xs, .ty "tuple"] S) Q = Q (.bl true) S := rfl
theorem isi_nt : WpO (fIsi [.non, .ty "tuple"] S) Q = Q (.bl false) S := rfl
theorem isi_st (s : List Nat) : WpO (fIsi [.str s, .ty "tuple"] S) Q = Q (.bl false) S := rfl
theorem isi_rt {n : Nat} {xs : List D} (h : lstAt S n = some xs) : WpO (fIsi [.ref n, .ty "tuple"] S) Q = Q (.bl false) S := by
  have e : tyName S (.ref n) = some "list" := by
    show (match S[n]? with
      | some (.lst _) => some "list"
      | some (.dK _) => some "dict"
      | _ => none) = _
    rw [lstAt_eq h]
  show WpO (match tyName S (.ref n) with
    | some a => if "tuple" ∈ ["bool", "int", "str", "tuple", "list", "dict"] then some (.bl (isTy a "tuple"), S) else none
    | none => none) Q = _
  rw [e]
  rfl
theorem nin_0 : WpO (fNin (.int ((0 : Nat) : Int)) (.tup [.int 2, .int 4]) S) Q = Q (.bl true) S := rfl
theorem nin_1 : WpO (fNin (.int ((0 + 1 : Nat) : Int)) (.tup [.int 2, .int 4]) S) Q = Q (.bl true) S := rfl
theorem nin_2 : WpO (fNin (.int ((0 + 1 + 1 : Nat) : Int)) (.tup [.int 2, .int 4]) S) Q = Q (.bl false) S := rfl
theorem nin_3 : WpO (fNin (.int ((0 + 1 + 1 + 1 : Nat) : Int)) (.tup [.int 2, .int 4]) S) Q = Q (.bl true) S := rfl
theorem nin_4 : WpO (fNin (.int ((0 + 1 + 1 + 1 + 1 : Nat) : Int)) (.tup [.int 2, .int 4]) S) Q = Q (.bl false) S := rfl
theorem nin_5 : WpO (fNin (.int ((0 + 1 + 1 + 1 + 1 + 1 : Nat) : Int)) (.tup [.int 2, .int 4]) S) Q = Q (.bl true) S := rfl
theorem at_0 (a : D) (r : List D) : L2.atI (a :: r) 0 = some a := by
  rw [show (0 : Int) = ((0 : Nat) : Int) from rfl, atI_nat]; rfl
theorem at_1 (a b : D) (r : List D) : L2.atI (a :: b :: r) 1 = some b := by
  rw [show (1 : Int) = ((1 : Nat) : Int) from rfl, atI_nat]; rfl
theorem at_2 (a b c : D) (r : List D) : L2.atI (a :: b :: c :: r) 2 = some c := by
  rw [show (2 : Int) = ((2 : Nat) : Int) from rfl, atI_nat]; rfl
theorem at_3 (a b c d : D) (r : List D) : L2.atI (a :: b :: c :: d :: r) 3 = some d := by
  rw [show (3 : Int) = ((3 : Nat) : Int) from rfl, atI_nat]; rfl
def tl : D → Bool
  | .int _ => true
  | .bl _ => true
  | .non => true
  | _ => false
theorem tl_small {d : D} (h : tl d = true) : small d = true := by cases d <;> first | rfl | cases h
/-- a text that may head a paper -/
def okS (s : List Nat) : Prop := s = [115, 116, 114, 97, 105, 103, 104, 116] ∨ s = [97, 103, 97, 105, 110] ∨ s = [117, 110, 101, 118, 101, 110] ∨ s = [101, 118, 101, 110]
/-- a value near a paper; lists lie in the memory -/
inductive Near (S : Mem) : D → Prop
  | lst (r : Nat) (xs : List D) : lstAt S r = some xs → Near S (.ref r)
  | non : Near S .non
  | txt (s : List Nat) : Near S (.str s)
  | emp : Near S (.tup [])
  | one (s : List Nat) : okS s → Near S (.tup [.str s])
  | two (s : List Nat) (a : D) : okS s → tl a = true → Near S (.tup [.str s, a])
  | three (s : List Nat) (a b : Int) : okS s → Near S (.tup [.str s, .int a, .int b])
  | four (s : List Nat) (a b c : Nat) : okS s → Near S (.tup [.str s, .int a, .int b, .int c])
  | five (s : List Nat) (a b c d : Int) : okS s → Near S (.tup [.str s, .int a, .int b, .int c, .int d])
theorem Near.pre {S T : Mem} (p : S <+: T) {d : D} (h : Near S d) : Near T d := by
  cases h with
  | lst r xs h => exact .lst r xs (lst_pre p h)
  | non => exact .non
  | txt s => exact .txt s
  | emp => exact .emp
  | one s hs => exact .one s hs
  | two s a hs h => exact .two s a hs h
  | three s a b hs => exact .three s a b hs
  | four s a b c hs => exact .four s a b c hs
  | five s a b c d hs => exact .five s a b c d hs
theorem is_straight_paper_ok (w : List Nat) (d : D) (h1 : 1 ≤ w.length) (h2 : w.length ≤ 1000) (hr : Ru w) (hd : Near S d) (h : ∀ T, S <+: T → Q (.bl (jB w d)) T) : Wp (run ds (k + 4) 17 [.str w, d] S) Q := by
  refine wp_run (d := d17) rfl rfl ?_
  simp only [d17, we_c, we_v, we_bin, we_neg, we_cmp, we_chn, we_no, we_and, we_or, we_ife, we_tup, we_lst, we_ix, we_sl, we_bi, we_mt, we_call, we_lrg1, we_lrg2, we_lc, ws_nil, ws_cons, wo_nil, wo_cons, wt_nil, wt_cons, wi_rng1, wi_rng2, wi_rng3, wi_of, wi_int, wS_asgN, wS_asgT, wS_asgS, wS_par2, wS_par3, wS_aug, wS_ex, wS_ret, wS_retN, wS_iff, wS_pass, wS_brk, wS_cont, wS_never, wS_nil, wS_cons, wS_for, wS_whl, wF_nx, wF_rt, wF_bk, wF_ct, wv_some, wb_some, wc_some, wm_some, wz_bl, wE_some, wN_some, wo_some, wo_none, wo_ite, List.getElem?_cons_zero, List.getElem?_cons_succ, List.set_cons_zero, List.set_cons_succ, List.map_cons, List.map_nil, List.cons_append, List.nil_append, List.append_nil, List.replicate_succ, List.replicate_zero, List.length_cons, List.length_nil, Bop.f, Cop.f, Bi.f, Im.f, wl_some, wj_some, wa_some, wbs_some, add_ii, add_ss, add_rr, sub_ii, mul_ii, mul_si, div_ii, mod_ii, pow_ii, neg_i, eq_ii, ne_ii, eq_ss, ne_ss, lt_ii, le_ii, gt_ii, ge_ii, eq_bb, ne_bb, in_cs, tr_b, tr_i, ix_r, ix_t, ix_f, ix_s, sl_s, sl_r, set_r, len_s, len_r, len_f, len_t, abs_i, max_ii, min_ii, max_r, min_r, int_i, int_b, list_r, sum_r, all_r, isi_ii, isi_ib, isi_ss, aug_ii, aug_sub, sel_app, sel_index, sel_pop, sel_count, sel_join, app_r, count_s, wx_some, idx_r, wT_some, join_r, src_s, src_f, src_t, src_r, if_true, if_false, Bool.not_true, Bool.not_false, Bool.false_eq_true]
  refine require_step_word_ok w h1 (by omega) hr fun T hp => ?_
  replace hd := hd.pre hp
  cases hd with
  | lst r xs hl =>
    simp only [we_c, we_v, we_bin, we_neg, we_cmp, we_chn, we_no, we_and, we_or, we_ife, we_tup, we_lst, we_ix, we_sl, we_bi, we_mt, we_call, we_lrg1, we_lrg2, we_lc, ws_nil, ws_cons, wo_nil, wo_cons, wt_nil, wt_cons, wi_rng1, wi_rng2, wi_rng3, wi_of, wi_int, wS_asgN, wS_asgT, wS_asgS, wS_par2, wS_par3, wS_aug, wS_ex, wS_ret, wS_retN, wS_iff, wS_pass, wS_brk, wS_cont, wS_never, wS_nil, wS_cons, wS_for, wS_whl, wF_nx, wF_rt, wF_bk, wF_ct, wv_some, wb_some, wc_some, wm_some, wz_bl, wE_some, wN_some, wo_some, wo_none, wo_ite, List.getElem?_cons_zero, List.getElem?_cons_succ, List.set_cons_zero, List.set_cons_succ, List.map_cons, List.map_nil, List.cons_append, List.nil_append, List.append_nil, List.replicate_succ, List.replicate_zero, List.length_cons, List.length_nil, Bop.f, Cop.f, Bi.f, Im.f, wl_some, wj_some, wa_some, wbs_some, add_ii, add_ss, add_rr, sub_ii, mul_ii, mul_si, div_ii, mod_ii, pow_ii, neg_i, eq_ii, ne_ii, eq_ss, ne_ss, lt_ii, le_ii, gt_ii, ge_ii, eq_bb, ne_bb, in_cs, tr_b, tr_i, ix_r, ix_t, ix_f, ix_s, sl_s, sl_r, set_r, len_s, len_r, len_f, len_t, abs_i, max_ii, min_ii, max_r, min_r, int_i, int_b, list_r, sum_r, all_r, isi_ii, isi_ib, isi_ss, aug_ii, aug_sub, sel_app, sel_index, sel_pop, sel_count, sel_join, app_r, count_s, wx_some, idx_r, wT_some, join_r, src_s, src_f, src_t, src_r, if_true, if_false, Bool.not_true, Bool.not_false, Bool.false_eq_true, isi_rt hl]
    exact h T hp
  | non =>
    simp only [we_c, we_v, we_bin, we_neg, we_cmp, we_chn, we_no, we_and, we_or, we_ife, we_tup, we_lst, we_ix, we_sl, we_bi, we_mt, we_call, we_lrg1, we_lrg2, we_lc, ws_nil, ws_cons, wo_nil, wo_cons, wt_nil, wt_cons, wi_rng1, wi_rng2, wi_rng3, wi_of, wi_int, wS_asgN, wS_asgT, wS_asgS, wS_par2, wS_par3, wS_aug, wS_ex, wS_ret, wS_retN, wS_iff, wS_pass, wS_brk, wS_cont, wS_never, wS_nil, wS_cons, wS_for, wS_whl, wF_nx, wF_rt, wF_bk, wF_ct, wv_some, wb_some, wc_some, wm_some, wz_bl, wE_some, wN_some, wo_some, wo_none, wo_ite, List.getElem?_cons_zero, List.getElem?_cons_succ, List.set_cons_zero, List.set_cons_succ, List.map_cons, List.map_nil, List.cons_append, List.nil_append, List.append_nil, List.replicate_succ, List.replicate_zero, List.length_cons, List.length_nil, Bop.f, Cop.f, Bi.f, Im.f, wl_some, wj_some, wa_some, wbs_some, add_ii, add_ss, add_rr, sub_ii, mul_ii, mul_si, div_ii, mod_ii, pow_ii, neg_i, eq_ii, ne_ii, eq_ss, ne_ss, lt_ii, le_ii, gt_ii, ge_ii, eq_bb, ne_bb, in_cs, tr_b, tr_i, ix_r, ix_t, ix_f, ix_s, sl_s, sl_r, set_r, len_s, len_r, len_f, len_t, abs_i, max_ii, min_ii, max_r, min_r, int_i, int_b, list_r, sum_r, all_r, isi_ii, isi_ib, isi_ss, aug_ii, aug_sub, sel_app, sel_index, sel_pop, sel_count, sel_join, app_r, count_s, wx_some, idx_r, wT_some, join_r, src_s, src_f, src_t, src_r, if_true, if_false, Bool.not_true, Bool.not_false, Bool.false_eq_true, isi_nt]
    exact h T hp
  | txt s =>
    simp only [we_c, we_v, we_bin, we_neg, we_cmp, we_chn, we_no, we_and, we_or, we_ife, we_tup, we_lst, we_ix, we_sl, we_bi, we_mt, we_call, we_lrg1, we_lrg2, we_lc, ws_nil, ws_cons, wo_nil, wo_cons, wt_nil, wt_cons, wi_rng1, wi_rng2, wi_rng3, wi_of, wi_int, wS_asgN, wS_asgT, wS_asgS, wS_par2, wS_par3, wS_aug, wS_ex, wS_ret, wS_retN, wS_iff, wS_pass, wS_brk, wS_cont, wS_never, wS_nil, wS_cons, wS_for, wS_whl, wF_nx, wF_rt, wF_bk, wF_ct, wv_some, wb_some, wc_some, wm_some, wz_bl, wE_some, wN_some, wo_some, wo_none, wo_ite, List.getElem?_cons_zero, List.getElem?_cons_succ, List.set_cons_zero, List.set_cons_succ, List.map_cons, List.map_nil, List.cons_append, List.nil_append, List.append_nil, List.replicate_succ, List.replicate_zero, List.length_cons, List.length_nil, Bop.f, Cop.f, Bi.f, Im.f, wl_some, wj_some, wa_some, wbs_some, add_ii, add_ss, add_rr, sub_ii, mul_ii, mul_si, div_ii, mod_ii, pow_ii, neg_i, eq_ii, ne_ii, eq_ss, ne_ss, lt_ii, le_ii, gt_ii, ge_ii, eq_bb, ne_bb, in_cs, tr_b, tr_i, ix_r, ix_t, ix_f, ix_s, sl_s, sl_r, set_r, len_s, len_r, len_f, len_t, abs_i, max_ii, min_ii, max_r, min_r, int_i, int_b, list_r, sum_r, all_r, isi_ii, isi_ib, isi_ss, aug_ii, aug_sub, sel_app, sel_index, sel_pop, sel_count, sel_join, app_r, count_s, wx_some, idx_r, wT_some, join_r, src_s, src_f, src_t, src_r, if_true, if_false, Bool.not_true, Bool.not_false, Bool.false_eq_true, isi_st]
    exact h T hp
  | emp =>
    simp only [we_c, we_v, we_bin, we_neg, we_cmp, we_chn, we_no, we_and, we_or, we_ife, we_tup, we_lst, we_ix, we_sl, we_bi, we_mt, we_call, we_lrg1, we_lrg2, we_lc, ws_nil, ws_cons, wo_nil, wo_cons, wt_nil, wt_cons, wi_rng1, wi_rng2, wi_rng3, wi_of, wi_int, wS_asgN, wS_asgT, wS_asgS, wS_par2, wS_par3, wS_aug, wS_ex, wS_ret, wS_retN, wS_iff, wS_pass, wS_brk, wS_cont, wS_never, wS_nil, wS_cons, wS_for, wS_whl, wF_nx, wF_rt, wF_bk, wF_ct, wv_some, wb_some, wc_some, wm_some, wz_bl, wE_some, wN_some, wo_some, wo_none, wo_ite, List.getElem?_cons_zero, List.getElem?_cons_succ, List.set_cons_zero, List.set_cons_succ, List.map_cons, List.map_nil, List.cons_append, List.nil_append, List.append_nil, List.replicate_succ, List.replicate_zero, List.length_cons, List.length_nil, Bop.f, Cop.f, Bi.f, Im.f, wl_some, wj_some, wa_some, wbs_some, add_ii, add_ss, add_rr, sub_ii, mul_ii, mul_si, div_ii, mod_ii, pow_ii, neg_i, eq_ii, ne_ii, eq_ss, ne_ss, lt_ii, le_ii, gt_ii, ge_ii, eq_bb, ne_bb, in_cs, tr_b, tr_i, ix_r, ix_t, ix_f, ix_s, sl_s, sl_r, set_r, len_s, len_r, len_f, len_t, abs_i, max_ii, min_ii, max_r, min_r, int_i, int_b, list_r, sum_r, all_r, isi_ii, isi_ib, isi_ss, aug_ii, aug_sub, sel_app, sel_index, sel_pop, sel_count, sel_join, app_r, count_s, wx_some, idx_r, wT_some, join_r, src_s, src_f, src_t, src_r, if_true, if_false, Bool.not_true, Bool.not_false, Bool.false_eq_true, isi_tup, nin_0]
    exact ⟨line_of (by decide), h T hp⟩
  | one s hs =>
    simp only [we_c, we_v, we_bin, we_neg, we_cmp, we_chn, we_no, we_and, we_or, we_ife, we_tup, we_lst, we_ix, we_sl, we_bi, we_mt, we_call, we_lrg1, we_lrg2, we_lc, ws_nil, ws_cons, wo_nil, wo_cons, wt_nil, wt_cons, wi_rng1, wi_rng2, wi_rng3, wi_of, wi_int, wS_asgN, wS_asgT, wS_asgS, wS_par2, wS_par3, wS_aug, wS_ex, wS_ret, wS_retN, wS_iff, wS_pass, wS_brk, wS_cont, wS_never, wS_nil, wS_cons, wS_for, wS_whl, wF_nx, wF_rt, wF_bk, wF_ct, wv_some, wb_some, wc_some, wm_some, wz_bl, wE_some, wN_some, wo_some, wo_none, wo_ite, List.getElem?_cons_zero, List.getElem?_cons_succ, List.set_cons_zero, List.set_cons_succ, List.map_cons, List.map_nil, List.cons_append, List.nil_append, List.append_nil, List.replicate_succ, List.replicate_zero, List.length_cons, List.length_nil, Bop.f, Cop.f, Bi.f, Im.f, wl_some, wj_some, wa_some, wbs_some, add_ii, add_ss, add_rr, sub_ii, mul_ii, mul_si, div_ii, mod_ii, pow_ii, neg_i, eq_ii, ne_ii, eq_ss, ne_ss, lt_ii, le_ii, gt_ii, ge_ii, eq_bb, ne_bb, in_cs, tr_b, tr_i, ix_r, ix_t, ix_f, ix_s, sl_s, sl_r, set_r, len_s, len_r, len_f, len_t, abs_i, max_ii, min_ii, max_r, min_r, int_i, int_b, list_r, sum_r, all_r, isi_ii, isi_ib, isi_ss, aug_ii, aug_sub, sel_app, sel_index, sel_pop, sel_count, sel_join, app_r, count_s, wx_some, idx_r, wT_some, join_r, src_s, src_f, src_t, src_r, if_true, if_false, Bool.not_true, Bool.not_false, Bool.false_eq_true, isi_tup, nin_1]
    exact ⟨line_of (by decide), h T hp⟩
  | three s a b hs =>
    simp only [we_c, we_v, we_bin, we_neg, we_cmp, we_chn, we_no, we_and, we_or, we_ife, we_tup, we_lst, we_ix, we_sl, we_bi, we_mt, we_call, we_lrg1, we_lrg2, we_lc, ws_nil, ws_cons, wo_nil, wo_cons, wt_nil, wt_cons, wi_rng1, wi_rng2, wi_rng3, wi_of, wi_int, wS_asgN, wS_asgT, wS_asgS, wS_par2, wS_par3, wS_aug, wS_ex, wS_ret, wS_retN, wS_iff, wS_pass, wS_brk, wS_cont, wS_never, wS_nil, wS_cons, wS_for, wS_whl, wF_nx, wF_rt, wF_bk, wF_ct, wv_some, wb_some, wc_some, wm_some, wz_bl, wE_some, wN_some, wo_some, wo_none, wo_ite, List.getElem?_cons_zero, List.getElem?_cons_succ, List.set_cons_zero, List.set_cons_succ, List.map_cons, List.map_nil, List.cons_append, List.nil_append, List.append_nil, List.replicate_succ, List.replicate_zero, List.length_cons, List.length_nil, Bop.f, Cop.f, Bi.f, Im.f, wl_some, wj_some, wa_some, wbs_some, add_ii, add_ss, add_rr, sub_ii, mul_ii, mul_si, div_ii, mod_ii, pow_ii, neg_i, eq_ii, ne_ii, eq_ss, ne_ss, lt_ii, le_ii, gt_ii, ge_ii, eq_bb, ne_bb, in_cs, tr_b, tr_i, ix_r, ix_t, ix_f, ix_s, sl_s, sl_r, set_r, len_s, len_r, len_f, len_t, abs_i, max_ii, min_ii, max_r, min_r, int_i, int_b, list_r, sum_r, all_r, isi_ii, isi_ib, isi_ss, aug_ii, aug_sub, sel_app, sel_index, sel_pop, sel_count, sel_join, app_r, count_s, wx_some, idx_r, wT_some, join_r, src_s, src_f, src_t, src_r, if_true, if_false, Bool.not_true, Bool.not_false, Bool.false_eq_true, isi_tup, nin_3]
    exact ⟨line_of (by decide), h T hp⟩
  | five s a b c d hs =>
    simp only [we_c, we_v, we_bin, we_neg, we_cmp, we_chn, we_no, we_and, we_or, we_ife, we_tup, we_lst, we_ix, we_sl, we_bi, we_mt, we_call, we_lrg1, we_lrg2, we_lc, ws_nil, ws_cons, wo_nil, wo_cons, wt_nil, wt_cons, wi_rng1, wi_rng2, wi_rng3, wi_of, wi_int, wS_asgN, wS_asgT, wS_asgS, wS_par2, wS_par3, wS_aug, wS_ex, wS_ret, wS_retN, wS_iff, wS_pass, wS_brk, wS_cont, wS_never, wS_nil, wS_cons, wS_for, wS_whl, wF_nx, wF_rt, wF_bk, wF_ct, wv_some, wb_some, wc_some, wm_some, wz_bl, wE_some, wN_some, wo_some, wo_none, wo_ite, List.getElem?_cons_zero, List.getElem?_cons_succ, List.set_cons_zero, List.set_cons_succ, List.map_cons, List.map_nil, List.cons_append, List.nil_append, List.append_nil, List.replicate_succ, List.replicate_zero, List.length_cons, List.length_nil, Bop.f, Cop.f, Bi.f, Im.f, wl_some, wj_some, wa_some, wbs_some, add_ii, add_ss, add_rr, sub_ii, mul_ii, mul_si, div_ii, mod_ii, pow_ii, neg_i, eq_ii, ne_ii, eq_ss, ne_ss, lt_ii, le_ii, gt_ii, ge_ii, eq_bb, ne_bb, in_cs, tr_b, tr_i, ix_r, ix_t, ix_f, ix_s, sl_s, sl_r, set_r, len_s, len_r, len_f, len_t, abs_i, max_ii, min_ii, max_r, min_r, int_i, int_b, list_r, sum_r, all_r, isi_ii, isi_ib, isi_ss, aug_ii, aug_sub, sel_app, sel_index, sel_pop, sel_count, sel_join, app_r, count_s, wx_some, idx_r, wT_some, join_r, src_s, src_f, src_t, src_r, if_true, if_false, Bool.not_true, Bool.not_false, Bool.false_eq_true, isi_tup, nin_5]
    exact ⟨line_of (by decide), h T hp⟩
  | two s a hs ha =>
    replace ha := tl_small ha
    have d4 : decide (((0 + 1 + 1 : Nat) : Int) = 4) = false := rfl
    have d2 : decide (((0 + 1 + 1 : Nat) : Int) = 2) = true := rfl
    simp only [we_c, we_v, we_bin, we_neg, we_cmp, we_chn, we_no, we_and, we_or, we_ife, we_tup, we_lst, we_ix, we_sl, we_bi, we_mt, we_call, we_lrg1, we_lrg2, we_lc, ws_nil, ws_cons, wo_nil, wo_cons, wt_nil, wt_cons, wi_rng1, wi_rng2, wi_rng3, wi_of, wi_int, wS_asgN, wS_asgT, wS_asgS, wS_par2, wS_par3, wS_aug, wS_ex, wS_ret, wS_retN, wS_iff, wS_pass, wS_brk, wS_cont, wS_never, wS_nil, wS_cons, wS_for, wS_whl, wF_nx, wF_rt, wF_bk, wF_ct, wv_some, wb_some, wc_some, wm_some, wz_bl, wE_some, wN_some, wo_some, wo_none, wo_ite, List.getElem?_cons_zero, List.getElem?_cons_succ, List.set_cons_zero, List.set_cons_succ, List.map_cons, List.map_nil, List.cons_append, List.nil_append, List.append_nil, List.replicate_succ, List.replicate_zero, List.length_cons, List.length_nil, Bop.f, Cop.f, Bi.f, Im.f, wl_some, wj_some, wa_some, wbs_some, add_ii, add_ss, add_rr, sub_ii, mul_ii, mul_si, div_ii, mod_ii, pow_ii, neg_i, eq_ii, ne_ii, eq_ss, ne_ss, lt_ii, le_ii, gt_ii, ge_ii, eq_bb, ne_bb, in_cs, tr_b, tr_i, ix_r, ix_t, ix_f, ix_s, sl_s, sl_r, set_r, len_s, len_r, len_f, len_t, abs_i, max_ii, min_ii, max_r, min_r, int_i, int_b, list_r, sum_r, all_r, isi_ii, isi_ib, isi_ss, aug_ii, aug_sub, sel_app, sel_index, sel_pop, sel_count, sel_join, app_r, count_s, wx_some, idx_r, wT_some, join_r, src_s, src_f, src_t, src_r, if_true, if_false, Bool.not_true, Bool.not_false, Bool.false_eq_true, isi_tup, nin_2, at_0, at_1, d4, d2]
    refine ⟨line_of (by decide), ?_⟩
    have e : jB w (.tup [.str s, a]) = if s = [97, 103, 97, 105, 110] then againB w a else decide (s = [115, 116, 114, 97, 105, 103, 104, 116]) && lowFromB w a := rfl
    rw [e] at h
    have go : (if decide (s = [97, 103, 97, 105, 110]) = true then Wp (run ds (k + 3) 11 [D.str w, a] T) fun d S1 => Q d S1
        else if decide (s = [115, 116, 114, 97, 105, 103, 104, 116]) = true then Wp (run ds (k + 3) 12 [D.str w, a] T) fun d S1 => Q d S1
          else Q (D.bl (decide (s = [115, 116, 114, 97, 105, 103, 104, 116]))) T) := by
      by_cases c1 : s = [97, 103, 97, 105, 110]
      · rw [if_pos c1] at h
        rw [if_pos (decide_eq_true c1)]
        exact is_again_ok (k := k + 1) w a ha h2 fun T2 hp2 => h T2 (hp.trans hp2)
      · rw [if_neg c1] at h
        rw [if_neg (by rw [decide_eq_true_eq]; exact c1)]
        by_cases c2 : s = [115, 116, 114, 97, 105, 103, 104, 116]
        · rw [decide_eq_true c2, Bool.true_and] at h
          rw [if_pos (decide_eq_true c2)]
          exact is_low_from_ok w a ha h2 fun T2 hp2 => h T2 (hp.trans hp2)
        · rw [decide_eq_false c2, Bool.false_and] at h
          rw [if_neg (by rw [decide_eq_true_eq]; exact c2), show decide (s = [115, 116, 114, 97, 105, 103, 104, 116]) = false from decide_eq_false c2]
          exact h T hp
    by_cases c0 : s = [117, 110, 101, 118, 101, 110]
    · rw [if_pos (decide_eq_true c0)]; exact dupP go
    · rw [if_neg (by rw [decide_eq_true_eq]; exact c0), if_neg (by rw [decide_eq_true_eq]; exact c0)]; exact dupP go
  | four s a b c hs =>
    have d4 : decide (((0 + 1 + 1 + 1 + 1 : Nat) : Int) = 4) = true := rfl
    have d2 : decide (((0 + 1 + 1 + 1 + 1 : Nat) : Int) = 2) = false := rfl
    simp only [we_c, we_v, we_bin, we_neg, we_cmp, we_chn, we_no, we_and, we_or, we_ife, we_tup, we_lst, we_ix, we_sl, we_bi, we_mt, we_call, we_lrg1, we_lrg2, we_lc, ws_nil, ws_cons, wo_nil, wo_cons, wt_nil, wt_cons, wi_rng1, wi_rng2, wi_rng3, wi_of, wi_int, wS_asgN, wS_asgT, wS_asgS, wS_par2, wS_par3, wS_aug, wS_ex, wS_ret, wS_retN, wS_iff, wS_pass, wS_brk, wS_cont, wS_never, wS_nil, wS_cons, wS_for, wS_whl, wF_nx, wF_rt, wF_bk, wF_ct, wv_some, wb_some, wc_some, wm_some, wz_bl, wE_some, wN_some, wo_some, wo_none, wo_ite, List.getElem?_cons_zero, List.getElem?_cons_succ, List.set_cons_zero, List.set_cons_succ, List.map_cons, List.map_nil, List.cons_append, List.nil_append, List.append_nil, List.replicate_succ, List.replicate_zero, List.length_cons, List.length_nil, Bop.f, Cop.f, Bi.f, Im.f, wl_some, wj_some, wa_some, wbs_some, add_ii, add_ss, add_rr, sub_ii, mul_ii, mul_si, div_ii, mod_ii, pow_ii, neg_i, eq_ii, ne_ii, eq_ss, ne_ss, lt_ii, le_ii, gt_ii, ge_ii, eq_bb, ne_bb, in_cs, tr_b, tr_i, ix_r, ix_t, ix_f, ix_s, sl_s, sl_r, set_r, len_s, len_r, len_f, len_t, abs_i, max_ii, min_ii, max_r, min_r, int_i, int_b, list_r, sum_r, all_r, isi_ii, isi_ib, isi_ss, aug_ii, aug_sub, sel_app, sel_index, sel_pop, sel_count, sel_join, app_r, count_s, wx_some, idx_r, wT_some, join_r, src_s, src_f, src_t, src_r, if_true, if_false, Bool.not_true, Bool.not_false, Bool.false_eq_true, isi_tup, nin_4, at_0, at_1, at_2, at_3, d4, d2]
    refine ⟨line_of (by decide), ?_⟩
    have e : jB w (.tup [.str s, .int a, .int b, .int c]) = (decide (s = [117, 110, 101, 118, 101, 110]) && unevenB w (.int a) (.int b) (.int c)) := rfl
    rw [e] at h
    by_cases c0 : s = [117, 110, 101, 118, 101, 110]
    · rw [if_pos (decide_eq_true c0)]
      rw [decide_eq_true c0, Bool.true_and] at h
      exact is_uneven_ok (k := k + 1) w _ _ _ rfl rfl rfl h2 fun T2 hp2 => h T2 (hp.trans hp2)
    · rw [if_neg (by rw [decide_eq_true_eq]; exact c0), if_neg (by rw [decide_eq_true_eq]; exact c0)]
      rw [decide_eq_false c0, Bool.false_and] at h
      have hf := h T hp
      have hs : (if decide (s = [115, 116, 114, 97, 105, 103, 104, 116]) = true then Q (D.bl false) T else Q (D.bl (decide (s = [115, 116, 114, 97, 105, 103, 104, 116]))) T) := by
        by_cases c2 : s = [115, 116, 114, 97, 105, 103, 104, 116]
        · rw [if_pos (decide_eq_true c2)]; exact hf
        · rw [if_neg (by rw [decide_eq_true_eq]; exact c2), decide_eq_false c2]; exact hf
      by_cases c1 : s = [97, 103, 97, 105, 110]
      · rw [if_pos (decide_eq_true c1)]; exact hs
      · rw [if_neg (by rw [decide_eq_true_eq]; exact c1), if_neg (by rw [decide_eq_true_eq]; exact c1)]; exact hs
end K86

set_option Elab.async false
set_option linter.all false
set_option maxRecDepth 100000
set_option maxHeartbeats 1000000
namespace K86
open Mi Lw
variable {k : Nat} {S : Mem} {Q : D → Mem → Prop}
/-- the memory has grown, the die at n has been rolled -/
structure Gr (n : Nat) (S T : Mem) : Prop where
  die : Die T n
  len : S.length ≤ T.length
  keep : ∀ m xs, m ≠ n → lstAt S m = some xs → lstAt T m = some xs
theorem die_lt {T : Mem} {n : Nat} (h : Die T n) : n < T.length := by
  obtain ⟨g, s, t, _, hl⟩ := h
  exact lst_lt hl
theorem Gr.refl {n : Nat} {S : Mem} (h : Die S n) : Gr n S S := ⟨h, Nat.le_refl _, fun _ _ _ e => e⟩
theorem Gr.trans {n : Nat} {S T U : Mem} (a : Gr n S T) (b : Gr n T U) : Gr n S U := ⟨b.die, Nat.le_trans a.len b.len, fun m xs hm e => b.keep m xs hm (a.keep m xs hm e)⟩
theorem Gr.pre {n : Nat} {S T U : Mem} (a : Gr n S T) (p : T <+: U) : Gr n S U := ⟨a.die.pre p, Nat.le_trans a.len p.length_le, fun m xs hm e => lst_pre p (a.keep m xs hm e)⟩
theorem Gr.roll {n : Nat} {S T U : Mem} (a : Gr n S T) (r : Rolled n T U) : Gr n S U := ⟨r.die, by rw [r.len]; exact a.len, fun m xs hm e => r.lst hm (a.keep m xs hm e)⟩
theorem gcd_ok (a b : Nat) (hb : b ≤ 100000) (h : Q (.int (Nat.gcd a b)) S) : Wp (run ds (k + 1) 22 [.int a, .int b] S) Q := by
  refine wp_run (d := d22) rfl rfl ?_
  simp only [d22, we_c, we_v, we_bin, we_neg, we_cmp, we_chn, we_no, we_and, we_or, we_ife, we_tup, we_lst, we_ix, we_sl, we_bi, we_mt, we_call, we_lrg1, we_lrg2, we_lc, ws_nil, ws_cons, wo_nil, wo_cons, wt_nil, wt_cons, wi_rng1, wi_rng2, wi_rng3, wi_of, wi_int, wS_asgN, wS_asgT, wS_asgS, wS_par2, wS_par3, wS_aug, wS_ex, wS_ret, wS_retN, wS_iff, wS_pass, wS_brk, wS_cont, wS_never, wS_nil, wS_cons, wS_for, wS_whl, wF_nx, wF_rt, wF_bk, wF_ct, wv_some, wb_some, wc_some, wm_some, wz_bl, wE_some, wN_some, wo_some, wo_none, wo_ite, List.getElem?_cons_zero, List.getElem?_cons_succ, List.set_cons_zero, List.set_cons_succ, List.map_cons, List.map_nil, List.cons_append, List.nil_append, List.append_nil, List.replicate_succ, List.replicate_zero, List.length_cons, List.length_nil, Bop.f, Cop.f, Bi.f, Im.f, wl_some, wj_some, wa_some, wbs_some, add_ii, add_ss, add_rr, sub_ii, mul_ii, mul_si, div_ii, mod_ii, pow_ii, neg_i, eq_ii, ne_ii, eq_ss, ne_ss, lt_ii, le_ii, gt_ii, ge_ii, eq_bb, ne_bb, in_cs, tr_b, tr_i, ix_r, ix_t, ix_f, ix_s, sl_s, sl_r, set_r, len_s, len_r, len_f, len_t, abs_i, max_ii, min_ii, max_r, min_r, int_i, int_b, list_r, sum_r, all_r, isi_ii, isi_ib, isi_ss, aug_ii, aug_sub, sel_app, sel_index, sel_pop, sel_count, sel_join, app_r, count_s, wx_some, idx_r, wT_some, join_r, src_s, src_f, src_t, src_r, if_true, if_false, Bool.not_true, Bool.not_false, Bool.false_eq_true]
  refine wp_whiles (fun m e T => ∃ x y : Nat, m = y ∧ T = S ∧ e = [some (.int x), some (.int y)] ∧ Nat.gcd x y = Nat.gcd a b) (fun m e T hP => ?_) fuel b _ _ (by show _ < 1000000000; omega) ⟨a, b, rfl, rfl, rfl, rfl⟩
  obtain ⟨x, y, rfl, rfl, rfl, hg⟩ := hP
  simp only [we_c, we_v, we_bin, we_neg, we_cmp, we_chn, we_no, we_and, we_or, we_ife, we_tup, we_lst, we_ix, we_sl, we_bi, we_mt, we_call, we_lrg1, we_lrg2, we_lc, ws_nil, ws_cons, wo_nil, wo_cons, wt_nil, wt_cons, wi_rng1, wi_rng2, wi_rng3, wi_of, wi_int, wS_asgN, wS_asgT, wS_asgS, wS_par2, wS_par3, wS_aug, wS_ex, wS_ret, wS_retN, wS_iff, wS_pass, wS_brk, wS_cont, wS_never, wS_nil, wS_cons, wS_for, wS_whl, wF_nx, wF_rt, wF_bk, wF_ct, wv_some, wb_some, wc_some, wm_some, wz_bl, wE_some, wN_some, wo_some, wo_none, wo_ite, List.getElem?_cons_zero, List.getElem?_cons_succ, List.set_cons_zero, List.set_cons_succ, List.map_cons, List.map_nil, List.cons_append, List.nil_append, List.append_nil, List.replicate_succ, List.replicate_zero, List.length_cons, List.length_nil, Bop.f, Cop.f, Bi.f, Im.f, wl_some, wj_some, wa_some, wbs_some, add_ii, add_ss, add_rr, sub_ii, mul_ii, mul_si, div_ii, mod_ii, pow_ii, neg_i, eq_ii, ne_ii, eq_ss, ne_ss, lt_ii, le_ii, gt_ii, ge_ii, eq_bb, ne_bb, in_cs, tr_b, tr_i, ix_r, ix_t, ix_f, ix_s, sl_s, sl_r, set_r, len_s, len_r, len_f, len_t, abs_i, max_ii, min_ii, max_r, min_r, int_i, int_b, list_r, sum_r, all_r, isi_ii, isi_ib, isi_ss, aug_ii, aug_sub, sel_app, sel_index, sel_pop, sel_count, sel_join, app_r, count_s, wx_some, idx_r, wT_some, join_r, src_s, src_f, src_t, src_r, if_true, if_false, Bool.not_true, Bool.not_false, Bool.false_eq_true, w_tru]
  by_cases e : m = 0
  · subst e
    rw [Nat.gcd_zero_right] at hg
    rw [if_neg (by decide), if_neg (by omega), hg]
    exact h
  · rw [if_pos (by simp; omega), if_pos (by omega)]
    refine ⟨x % m, Nat.mod_lt _ (by omega), m, x % m, rfl, trivial, by rw [← Int.natCast_emod], ?_⟩
    rw [← hg, Nat.gcd_comm x m, Nat.gcd_rec m x, Nat.gcd_comm]
theorem law_low_ok (p q : Nat) (hp : p + q ≤ 10000) (h : ∀ T, S <+: T → Q (.str (lowR p q)) T) : Wp (run ds (k + 1) 23 [.int p, .int q] S) Q := by
  refine wp_run (d := d23) rfl rfl ?_
  simp only [d23, we_c, we_v, we_bin, we_neg, we_cmp, we_chn, we_no, we_and, we_or, we_ife, we_tup, we_lst, we_ix, we_sl, we_bi, we_mt, we_call, we_lrg1, we_lrg2, we_lc, ws_nil, ws_cons, wo_nil, wo_cons, wt_nil, wt_cons, wi_rng1, wi_rng2, wi_rng3, wi_of, wi_int, wS_asgN, wS_asgT, wS_asgS, wS_par2, wS_par3, wS_aug, wS_ex, wS_ret, wS_retN, wS_iff, wS_pass, wS_brk, wS_cont, wS_never, wS_nil, wS_cons, wS_for, wS_whl, wF_nx, wF_rt, wF_bk, wF_ct, wv_some, wb_some, wc_some, wm_some, wz_bl, wE_some, wN_some, wo_some, wo_none, wo_ite, List.getElem?_cons_zero, List.getElem?_cons_succ, List.set_cons_zero, List.set_cons_succ, List.map_cons, List.map_nil, List.cons_append, List.nil_append, List.append_nil, List.replicate_succ, List.replicate_zero, List.length_cons, List.length_nil, Bop.f, Cop.f, Bi.f, Im.f, wl_some, wj_some, wa_some, wbs_some, add_ii, add_ss, add_rr, sub_ii, mul_ii, mul_si, div_ii, mod_ii, pow_ii, neg_i, eq_ii, ne_ii, eq_ss, ne_ss, lt_ii, le_ii, gt_ii, ge_ii, eq_bb, ne_bb, in_cs, tr_b, tr_i, ix_r, ix_t, ix_f, ix_s, sl_s, sl_r, set_r, len_s, len_r, len_f, len_t, abs_i, max_ii, min_ii, max_r, min_r, int_i, int_b, list_r, sum_r, all_r, isi_ii, isi_ib, isi_ss, aug_ii, aug_sub, sel_app, sel_index, sel_pop, sel_count, sel_join, app_r, count_s, wx_some, idx_r, wT_some, join_r, src_s, src_f, src_t, src_r, if_true, if_false, Bool.not_true, Bool.not_false, Bool.false_eq_true]
  rw [rng_1 _ (by omega), show ((p : Int) + (q : Nat)) = ((p + q : Nat) : Int) by omega, Int.toNat_natCast]
  refine wp_map (onI fun a => .str [letter p q a.toNat]) (at_items _ _) (by rw [range_len]; exact line_of (by omega)) (fun d T hd hp' => ?_) (fun T hp' hl => ?_)
  · obtain ⟨i, hi, rfl⟩ := mem_range hd
    simp only [setT, wipeE, we_c, we_v, we_bin, we_neg, we_cmp, we_chn, we_no, we_and, we_or, we_ife, we_tup, we_lst, we_ix, we_sl, we_bi, we_mt, we_call, we_lrg1, we_lrg2, we_lc, ws_nil, ws_cons, wo_nil, wo_cons, wt_nil, wt_cons, wi_rng1, wi_rng2, wi_rng3, wi_of, wi_int, wS_asgN, wS_asgT, wS_asgS, wS_par2, wS_par3, wS_aug, wS_ex, wS_ret, wS_retN, wS_iff, wS_pass, wS_brk, wS_cont, wS_never, wS_nil, wS_cons, wS_for, wS_whl, wF_nx, wF_rt, wF_bk, wF_ct, wv_some, wb_some, wc_some, wm_some, wz_bl, wE_some, wN_some, wo_some, wo_none, wo_ite, List.getElem?_cons_zero, List.getElem?_cons_succ, List.set_cons_zero, List.set_cons_succ, List.map_cons, List.map_nil, List.cons_append, List.nil_append, List.append_nil, List.replicate_succ, List.replicate_zero, List.length_cons, List.length_nil, Bop.f, Cop.f, Bi.f, Im.f, wl_some, wj_some, wa_some, wbs_some, add_ii, add_ss, add_rr, sub_ii, mul_ii, mul_si, div_ii, mod_ii, pow_ii, neg_i, eq_ii, ne_ii, eq_ss, ne_ss, lt_ii, le_ii, gt_ii, ge_ii, eq_bb, ne_bb, in_cs, tr_b, tr_i, ix_r, ix_t, ix_f, ix_s, sl_s, sl_r, set_r, len_s, len_r, len_f, len_t, abs_i, max_ii, min_ii, max_r, min_r, int_i, int_b, list_r, sum_r, all_r, isi_ii, isi_ib, isi_ss, aug_ii, aug_sub, sel_app, sel_index, sel_pop, sel_count, sel_join, app_r, count_s, wx_some, idx_r, wT_some, join_r, src_s, src_f, src_t, src_r, if_true, if_false, Bool.not_true, Bool.not_false, Bool.false_eq_true, decide_eq_true_eq]
    rw [if_pos (mulOk_small (by omega)), if_pos (by omega), show (0 + (i : Nat) : Int) * (q : Nat) = ((i * q : Nat) : Int) by rw [Int.zero_add, Int.natCast_mul], ← Int.natCast_emod]
    have e : onI (fun a => .str [letter p q a.toNat]) (.int (0 + (i : Nat))) = .str [letter p q i] := by
      show D.str [letter p q (0 + (i : Nat) : Int).toNat] = _
      rw [show (0 + (i : Nat) : Int).toNat = i by omega]
    rw [e]
    unfold letter rest
    by_cases c : i * q % (p + q) < p
    · rw [if_pos (by omega), if_pos c]
      exact ⟨rfl, List.prefix_refl _⟩
    · rw [if_neg (by omega), if_neg c]
      exact ⟨rfl, List.prefix_refl _⟩
  · have hw : (rangeD 0 (p + q)).map (onI fun a => .str [letter p q a.toNat]) = (lowR p q).map fun c => D.str [c] := by
      rw [range_map]
      unfold lowR
      rw [List.map_map]
      apply List.map_congr_left
      intro i _
      show D.str _ = D.str _
      rw [show (0 + (i : Nat) : Int).toNat = i by omega]
    rw [hw] at hl
    rw [join_ones2 _ _ hl (by unfold lowR; rw [List.length_map, List.length_range]; omega)]
    exact h T hp'
/-- a number without a common divisor comes soon -/
theorem next_free (p q : Nat) (hq : 0 < q) : ∃ z, p ≤ z ∧ z ≤ p + q + 1 ∧ Nat.gcd z q = 1 := by
  have hd := Nat.div_add_mod p q
  have hm := Nat.mod_lt p hq
  refine ⟨q * (p / q) + q + 1, by omega, by omega, ?_⟩
  have e : Nat.gcd (q * (p / q) + q + 1) q = Nat.gcd 1 q := by
    rw [Nat.gcd_comm, Nat.gcd_rec, show q * (p / q) + q + 1 = 1 + q * (p / q + 1) by rw [Nat.mul_add]; omega, Nat.add_mul_mod_self_left, ← Nat.gcd_rec, Nat.gcd_comm]
  rw [e, Nat.gcd_one_left]
theorem wd_slope_ok (n most : Nat) (hd : Die S n) (h1 : 1 ≤ most) (h2 : most ≤ 1000) (h : ∀ p q T, Nat.gcd p q = 1 → p ≤ 2 * most → q ≤ most → Gr n S T → Q (.tup [.int (p : Nat), .int (q : Nat)]) T) : Wp (run ds (k + 2) 26 [.ref n, .int most] S) Q := by
  refine wp_run (d := d26) rfl rfl ?_
  simp only [d26, we_c, we_v, we_bin, we_neg, we_cmp, we_chn, we_no, we_and, we_or, we_ife, we_tup, we_lst, we_ix, we_sl, we_bi, we_mt, we_call, we_lrg1, we_lrg2, we_lc, ws_nil, ws_cons, wo_nil, wo_cons, wt_nil, wt_cons, wi_rng1, wi_rng2, wi_rng3, wi_of, wi_int, wS_asgN, wS_asgT, wS_asgS, wS_par2, wS_par3, wS_aug, wS_ex, wS_ret, wS_retN, wS_iff, wS_pass, wS_brk, wS_cont, wS_never, wS_nil, wS_cons, wS_for, wS_whl, wF_nx, wF_rt, wF_bk, wF_ct, wv_some, wb_some, wc_some, wm_some, wz_bl, wE_some, wN_some, wo_some, wo_none, wo_ite, List.getElem?_cons_zero, List.getElem?_cons_succ, List.set_cons_zero, List.set_cons_succ, List.map_cons, List.map_nil, List.cons_append, List.nil_append, List.append_nil, List.replicate_succ, List.replicate_zero, List.length_cons, List.length_nil, Bop.f, Cop.f, Bi.f, Im.f, wl_some, wj_some, wa_some, wbs_some, add_ii, add_ss, add_rr, sub_ii, mul_ii, mul_si, div_ii, mod_ii, pow_ii, neg_i, eq_ii, ne_ii, eq_ss, ne_ss, lt_ii, le_ii, gt_ii, ge_ii, eq_bb, ne_bb, in_cs, tr_b, tr_i, ix_r, ix_t, ix_f, ix_s, sl_s, sl_r, set_r, len_s, len_r, len_f, len_t, abs_i, max_ii, min_ii, max_r, min_r, int_i, int_b, list_r, sum_r, all_r, isi_ii, isi_ib, isi_ss, aug_ii, aug_sub, sel_app, sel_index, sel_pop, sel_count, sel_join, app_r, count_s, wx_some, idx_r, wT_some, join_r, src_s, src_f, src_t, src_r, if_true, if_false, Bool.not_true, Bool.not_false, Bool.false_eq_true]
  refine roll_ok n _ hd (by omega) (by omega) fun a T ha1 ha2 hr => ?_
  refine roll_ok n _ hr.die (by omega) (by omega) fun b U hb1 hb2 hr2 => ?_
  obtain ⟨a, rfl⟩ : ∃ x : Nat, a = x := ⟨a.toNat, by omega⟩
  obtain ⟨b, rfl⟩ : ∃ x : Nat, b = x := ⟨b.toNat, by omega⟩
  have g : Gr n S U := ((Gr.refl hd).roll hr).roll hr2
  simp only [we_c, we_v, we_bin, we_neg, we_cmp, we_chn, we_no, we_and, we_or, we_ife, we_tup, we_lst, we_ix, we_sl, we_bi, we_mt, we_call, we_lrg1, we_lrg2, we_lc, ws_nil, ws_cons, wo_nil, wo_cons, wt_nil, wt_cons, wi_rng1, wi_rng2, wi_rng3, wi_of, wi_int, wS_asgN, wS_asgT, wS_asgS, wS_par2, wS_par3, wS_aug, wS_ex, wS_ret, wS_retN, wS_iff, wS_pass, wS_brk, wS_cont, wS_never, wS_nil, wS_cons, wS_for, wS_whl, wF_nx, wF_rt, wF_bk, wF_ct, wv_some, wb_some, wc_some, wm_some, wz_bl, wE_some, wN_some, wo_some, wo_none, wo_ite, List.getElem?_cons_zero, List.getElem?_cons_succ, List.set_cons_zero, List.set_cons_succ, List.map_cons, List.map_nil, List.cons_append, List.nil_append, List.append_nil, List.replicate_succ, List.replicate_zero, List.length_cons, List.length_nil, Bop.f, Cop.f, Bi.f, Im.f, wl_some, wj_some, wa_some, wbs_some, add_ii, add_ss, add_rr, sub_ii, mul_ii, mul_si, div_ii, mod_ii, pow_ii, neg_i, eq_ii, ne_ii, eq_ss, ne_ss, lt_ii, le_ii, gt_ii, ge_ii, eq_bb, ne_bb, in_cs, tr_b, tr_i, ix_r, ix_t, ix_f, ix_s, sl_s, sl_r, set_r, len_s, len_r, len_f, len_t, abs_i, max_ii, min_ii, max_r, min_r, int_i, int_b, list_r, sum_r, all_r, isi_ii, isi_ib, isi_ss, aug_ii, aug_sub, sel_app, sel_index, sel_pop, sel_count, sel_join, app_r, count_s, wx_some, idx_r, wT_some, join_r, src_s, src_f, src_t, src_r, if_true, if_false, Bool.not_true, Bool.not_false, Bool.false_eq_true, decide_eq_true_eq]
  by_cases c : b = 0
  · subst c
    rw [if_pos (by rfl)]
    exact ⟨line_of (by decide), h 1 0 U rfl (by omega) (by omega) g⟩
  · rw [if_neg (by omega)]
    obtain ⟨z, z1, z2, z3⟩ := next_free a b (by omega)
    refine wp_whiles (fun m e V => ∃ x : Nat, m = z - x ∧ V = U ∧ x ≤ z ∧ e = [some (.ref n), some (.int most), some (.int x), some (.int b)]) (fun m e V hP => ?_) fuel (z - a) _ _ (by show _ < 1000000000; omega) ⟨a, rfl, rfl, z1, rfl⟩
    obtain ⟨x, rfl, rfl, hx, rfl⟩ := hP
    simp only [we_c, we_v, we_bin, we_neg, we_cmp, we_chn, we_no, we_and, we_or, we_ife, we_tup, we_lst, we_ix, we_sl, we_bi, we_mt, we_call, we_lrg1, we_lrg2, we_lc, ws_nil, ws_cons, wo_nil, wo_cons, wt_nil, wt_cons, wi_rng1, wi_rng2, wi_rng3, wi_of, wi_int, wS_asgN, wS_asgT, wS_asgS, wS_par2, wS_par3, wS_aug, wS_ex, wS_ret, wS_retN, wS_iff, wS_pass, wS_brk, wS_cont, wS_never, wS_nil, wS_cons, wS_for, wS_whl, wF_nx, wF_rt, wF_bk, wF_ct, wv_some, wb_some, wc_some, wm_some, wz_bl, wE_some, wN_some, wo_some, wo_none, wo_ite, List.getElem?_cons_zero, List.getElem?_cons_succ, List.set_cons_zero, List.set_cons_succ, List.map_cons, List.map_nil, List.cons_append, List.nil_append, List.append_nil, List.replicate_succ, List.replicate_zero, List.length_cons, List.length_nil, Bop.f, Cop.f, Bi.f, Im.f, wl_some, wj_some, wa_some, wbs_some, add_ii, add_ss, add_rr, sub_ii, mul_ii, mul_si, div_ii, mod_ii, pow_ii, neg_i, eq_ii, ne_ii, eq_ss, ne_ss, lt_ii, le_ii, gt_ii, ge_ii, eq_bb, ne_bb, in_cs, tr_b, tr_i, ix_r, ix_t, ix_f, ix_s, sl_s, sl_r, set_r, len_s, len_r, len_f, len_t, abs_i, max_ii, min_ii, max_r, min_r, int_i, int_b, list_r, sum_r, all_r, isi_ii, isi_ib, isi_ss, aug_ii, aug_sub, sel_app, sel_index, sel_pop, sel_count, sel_join, app_r, count_s, wx_some, idx_r, wT_some, join_r, src_s, src_f, src_t, src_r, if_true, if_false, Bool.not_true, Bool.not_false, Bool.false_eq_true, w_tru]
    refine gcd_ok x b (by omega) ?_
    simp only [we_c, we_v, we_bin, we_neg, we_cmp, we_chn, we_no, we_and, we_or, we_ife, we_tup, we_lst, we_ix, we_sl, we_bi, we_mt, we_call, we_lrg1, we_lrg2, we_lc, ws_nil, ws_cons, wo_nil, wo_cons, wt_nil, wt_cons, wi_rng1, wi_rng2, wi_rng3, wi_of, wi_int, wS_asgN, wS_asgT, wS_asgS, wS_par2, wS_par3, wS_aug, wS_ex, wS_ret, wS_retN, wS_iff, wS_pass, wS_brk, wS_cont, wS_never, wS_nil, wS_cons, wS_for, wS_whl, wF_nx, wF_rt, wF_bk, wF_ct, wv_some, wb_some, wc_some, wm_some, wz_bl, wE_some, wN_some, wo_some, wo_none, wo_ite, List.getElem?_cons_zero, List.getElem?_cons_succ, List.set_cons_zero, List.set_cons_succ, List.map_cons, List.map_nil, List.cons_append, List.nil_append, List.append_nil, List.replicate_succ, List.replicate_zero, List.length_cons, List.length_nil, Bop.f, Cop.f, Bi.f, Im.f, wl_some, wj_some, wa_some, wbs_some, add_ii, add_ss, add_rr, sub_ii, mul_ii, mul_si, div_ii, mod_ii, pow_ii, neg_i, eq_ii, ne_ii, eq_ss, ne_ss, lt_ii, le_ii, gt_ii, ge_ii, eq_bb, ne_bb, in_cs, tr_b, tr_i, ix_r, ix_t, ix_f, ix_s, sl_s, sl_r, set_r, len_s, len_r, len_f, len_t, abs_i, max_ii, min_ii, max_r, min_r, int_i, int_b, list_r, sum_r, all_r, isi_ii, isi_ib, isi_ss, aug_ii, aug_sub, sel_app, sel_index, sel_pop, sel_count, sel_join, app_r, count_s, wx_some, idx_r, wT_some, join_r, src_s, src_f, src_t, src_r, if_true, if_false, Bool.not_true, Bool.not_false, Bool.false_eq_true]
    by_cases e : Nat.gcd x b = 1
    · rw [if_neg (by rw [e]; decide)]
      exact ⟨line_of (by decide), h x b V e (by omega) (by omega) g⟩
    · have hne : x ≠ z := fun q => e (by rw [q]; exact z3)
      rw [if_pos (by simp; omega)]
      exact ⟨z - (x + 1), by omega, x + 1, rfl, trivial, by omega, by rw [show ((x : Nat) : Int) + 1 = ((x + 1 : Nat) : Int) by omega]⟩
end K86

set_option Elab.async false
set_option linter.all false
set_option maxRecDepth 100000
set_option maxHeartbeats 1000000
namespace K86
open Mi Lw
variable {k : Nat} {S : Mem} {Q : D → Mem → Prop}
theorem at2 {a b : D} {r : Int} (h0 : 0 ≤ r) (h1 : r < 2) : ∃ d, d ∈ [a, b] ∧ L2.atI [a, b] r = some d := by
  have : r = 0 ∨ r = 1 := by omega
  rcases this with e | e
  · exact ⟨a, by simp, by rw [e]; exact at_0 _ _⟩
  · exact ⟨b, by simp, by rw [e]; exact at_1 _ _ _⟩
theorem pick2_ok (n m : Nat) (a b : D) (hd : Die S n) (hl : lstAt S m = some [a, b]) (hm : m ≠ n) (h : ∀ d T, d ∈ [a, b] → Rolled n S T → Q d T) : Wp (run ds (k + 2) 20 [.ref n, .ref m] S) Q := by
  refine wp_run (d := d20) rfl rfl ?_
  simp only [d20, we_c, we_v, we_bin, we_neg, we_cmp, we_chn, we_no, we_and, we_or, we_ife, we_tup, we_lst, we_ix, we_sl, we_bi, we_mt, we_call, we_lrg1, we_lrg2, we_lc, ws_nil, ws_cons, wo_nil, wo_cons, wt_nil, wt_cons, wi_rng1, wi_rng2, wi_rng3, wi_of, wi_int, wS_asgN, wS_asgT, wS_asgS, wS_par2, wS_par3, wS_aug, wS_ex, wS_ret, wS_retN, wS_iff, wS_pass, wS_brk, wS_cont, wS_never, wS_nil, wS_cons, wS_for, wS_whl, wF_nx, wF_rt, wF_bk, wF_ct, wv_some, wb_some, wc_some, wm_some, wz_bl, wE_some, wN_some, wo_some, wo_none, wo_ite, List.getElem?_cons_zero, List.getElem?_cons_succ, List.set_cons_zero, List.set_cons_succ, List.map_cons, List.map_nil, List.cons_append, List.nil_append, List.append_nil, List.replicate_succ, List.replicate_zero, List.length_cons, List.length_nil, Bop.f, Cop.f, Bi.f, Im.f, wl_some, wj_some, wa_some, wbs_some, add_ii, add_ss, add_rr, sub_ii, mul_ii, mul_si, div_ii, mod_ii, pow_ii, neg_i, eq_ii, ne_ii, eq_ss, ne_ss, lt_ii, le_ii, gt_ii, ge_ii, eq_bb, ne_bb, in_cs, tr_b, tr_i, ix_r, ix_t, ix_f, ix_s, sl_s, sl_r, set_r, len_s, len_r, len_f, len_t, abs_i, max_ii, min_ii, max_r, min_r, int_i, int_b, list_r, sum_r, all_r, isi_ii, isi_ib, isi_ss, aug_ii, aug_sub, sel_app, sel_index, sel_pop, sel_count, sel_join, app_r, count_s, wx_some, idx_r, wT_some, join_r, src_s, src_f, src_t, src_r, if_true, if_false, Bool.not_true, Bool.not_false, Bool.false_eq_true, hl]
  refine roll_ok n _ hd (by decide) (by decide) fun r T h0 h1 hr => ?_
  simp only [we_c, we_v, we_bin, we_neg, we_cmp, we_chn, we_no, we_and, we_or, we_ife, we_tup, we_lst, we_ix, we_sl, we_bi, we_mt, we_call, we_lrg1, we_lrg2, we_lc, ws_nil, ws_cons, wo_nil, wo_cons, wt_nil, wt_cons, wi_rng1, wi_rng2, wi_rng3, wi_of, wi_int, wS_asgN, wS_asgT, wS_asgS, wS_par2, wS_par3, wS_aug, wS_ex, wS_ret, wS_retN, wS_iff, wS_pass, wS_brk, wS_cont, wS_never, wS_nil, wS_cons, wS_for, wS_whl, wF_nx, wF_rt, wF_bk, wF_ct, wv_some, wb_some, wc_some, wm_some, wz_bl, wE_some, wN_some, wo_some, wo_none, wo_ite, List.getElem?_cons_zero, List.getElem?_cons_succ, List.set_cons_zero, List.set_cons_succ, List.map_cons, List.map_nil, List.cons_append, List.nil_append, List.append_nil, List.replicate_succ, List.replicate_zero, List.length_cons, List.length_nil, Bop.f, Cop.f, Bi.f, Im.f, wl_some, wj_some, wa_some, wbs_some, add_ii, add_ss, add_rr, sub_ii, mul_ii, mul_si, div_ii, mod_ii, pow_ii, neg_i, eq_ii, ne_ii, eq_ss, ne_ss, lt_ii, le_ii, gt_ii, ge_ii, eq_bb, ne_bb, in_cs, tr_b, tr_i, ix_r, ix_t, ix_f, ix_s, sl_s, sl_r, set_r, len_s, len_r, len_f, len_t, abs_i, max_ii, min_ii, max_r, min_r, int_i, int_b, list_r, sum_r, all_r, isi_ii, isi_ib, isi_ss, aug_ii, aug_sub, sel_app, sel_index, sel_pop, sel_count, sel_join, app_r, count_s, wx_some, idx_r, wT_some, join_r, src_s, src_f, src_t, src_r, if_true, if_false, Bool.not_true, Bool.not_false, Bool.false_eq_true, hr.lst hm hl]
  obtain ⟨d, hd1, hd2⟩ := at2 (a := a) (b := b) h0 (show r < 2 from h1)
  rw [hd2]
  exact h d T hd1 hr
theorem ru_low (p q : Nat) : Ru (lowR p q) := by
  intro c hc
  unfold lowR at hc
  obtain ⟨i, _, rfl⟩ := List.mem_map.mp hc
  unfold letter
  split
  · exact .inl rfl
  · exact .inr rfl
theorem low_length (p q : Nat) : (lowR p q).length = p + q := by unfold lowR; rw [List.length_map, List.length_range]
theorem ru_app {a b : List Nat} (ha : Ru a) (hb : Ru b) : Ru (a ++ b) := fun c hc => (List.mem_append.mp hc).elim (ha c) (hb c)
theorem ru_drop {w : List Nat} (h : Ru w) (a : Nat) : Ru (w.drop a) := fun c hc => h c (List.mem_of_mem_drop hc)
theorem ru_take {w : List Nat} (h : Ru w) (a : Nat) : Ru (w.take a) := fun c hc => h c (List.mem_of_mem_take hc)
theorem ru_one {w : List Nat} (h : Ru w) {i c : Nat} (e : w[i]? = some c) : Ru [c] := fun x hx => by
  rw [List.mem_singleton.mp hx]; exact h c (List.mem_of_getElem? e)
theorem ru_flat {w : List Nat} (h : Ru w) (n : Nat) : Ru (List.replicate n w).flatten := by
  intro c hc
  obtain ⟨l, h1, h2⟩ := List.mem_flatten.mp hc
  rw [List.eq_of_mem_replicate h1] at h2
  exact h c h2
theorem some_ok (n : Nat) (hd : Die S n) (h : ∀ w T, 1 ≤ w.length → w.length ≤ 200 → Ru w → Gr n S T → Q (.str w) T) : Wp (run ds (k + 3) 28 [.ref n] S) Q := by
  refine wp_run (d := d28) rfl rfl ?_
  simp only [d28, we_c, we_v, we_bin, we_neg, we_cmp, we_chn, we_no, we_and, we_or, we_ife, we_tup, we_lst, we_ix, we_sl, we_bi, we_mt, we_call, we_lrg1, we_lrg2, we_lc, ws_nil, ws_cons, wo_nil, wo_cons, wt_nil, wt_cons, wi_rng1, wi_rng2, wi_rng3, wi_of, wi_int, wS_asgN, wS_asgT, wS_asgS, wS_par2, wS_par3, wS_aug, wS_ex, wS_ret, wS_retN, wS_iff, wS_pass, wS_brk, wS_cont, wS_never, wS_nil, wS_cons, wS_for, wS_whl, wF_nx, wF_rt, wF_bk, wF_ct, wv_some, wb_some, wc_some, wm_some, wz_bl, wE_some, wN_some, wo_some, wo_none, wo_ite, List.getElem?_cons_zero, List.getElem?_cons_succ, List.set_cons_zero, List.set_cons_succ, List.map_cons, List.map_nil, List.cons_append, List.nil_append, List.append_nil, List.replicate_succ, List.replicate_zero, List.length_cons, List.length_nil, Bop.f, Cop.f, Bi.f, Im.f, wl_some, wj_some, wa_some, wbs_some, add_ii, add_ss, add_rr, sub_ii, mul_ii, mul_si, div_ii, mod_ii, pow_ii, neg_i, eq_ii, ne_ii, eq_ss, ne_ss, lt_ii, le_ii, gt_ii, ge_ii, eq_bb, ne_bb, in_cs, tr_b, tr_i, ix_r, ix_t, ix_f, ix_s, sl_s, sl_r, set_r, len_s, len_r, len_f, len_t, abs_i, max_ii, min_ii, max_r, min_r, int_i, int_b, list_r, sum_r, all_r, isi_ii, isi_ib, isi_ss, aug_ii, aug_sub, sel_app, sel_index, sel_pop, sel_count, sel_join, app_r, count_s, wx_some, idx_r, wT_some, join_r, src_s, src_f, src_t, src_r, if_true, if_false, Bool.not_true, Bool.not_false, Bool.false_eq_true]
  refine roll_ok n _ hd (by omega) (by omega) fun r T hr0 hr1 hr => ?_
  have g : Gr n S T := (Gr.refl hd).roll hr
  simp only [we_c, we_v, we_bin, we_neg, we_cmp, we_chn, we_no, we_and, we_or, we_ife, we_tup, we_lst, we_ix, we_sl, we_bi, we_mt, we_call, we_lrg1, we_lrg2, we_lc, ws_nil, ws_cons, wo_nil, wo_cons, wt_nil, wt_cons, wi_rng1, wi_rng2, wi_rng3, wi_of, wi_int, wS_asgN, wS_asgT, wS_asgS, wS_par2, wS_par3, wS_aug, wS_ex, wS_ret, wS_retN, wS_iff, wS_pass, wS_brk, wS_cont, wS_never, wS_nil, wS_cons, wS_for, wS_whl, wF_nx, wF_rt, wF_bk, wF_ct, wv_some, wb_some, wc_some, wm_some, wz_bl, wE_some, wN_some, wo_some, wo_none, wo_ite, List.getElem?_cons_zero, List.getElem?_cons_succ, List.set_cons_zero, List.set_cons_succ, List.map_cons, List.map_nil, List.cons_append, List.nil_append, List.append_nil, List.replicate_succ, List.replicate_zero, List.length_cons, List.length_nil, Bop.f, Cop.f, Bi.f, Im.f, wl_some, wj_some, wa_some, wbs_some, add_ii, add_ss, add_rr, sub_ii, mul_ii, mul_si, div_ii, mod_ii, pow_ii, neg_i, eq_ii, ne_ii, eq_ss, ne_ss, lt_ii, le_ii, gt_ii, ge_ii, eq_bb, ne_bb, in_cs, tr_b, tr_i, ix_r, ix_t, ix_f, ix_s, sl_s, sl_r, set_r, len_s, len_r, len_f, len_t, abs_i, max_ii, min_ii, max_r, min_r, int_i, int_b, list_r, sum_r, all_r, isi_ii, isi_ib, isi_ss, aug_ii, aug_sub, sel_app, sel_index, sel_pop, sel_count, sel_join, app_r, count_s, wx_some, idx_r, wT_some, join_r, src_s, src_f, src_t, src_r, if_true, if_false, Bool.not_true, Bool.not_false, Bool.false_eq_true, decide_eq_true_eq]
  by_cases c : r = 0
  · rw [if_pos c]
    refine roll_ok n _ hr.die (by omega) (by omega) fun r2 T2 hr20 hr21 hr2 => ?_
    have g2 := g.roll hr2
    obtain ⟨r2, rfl⟩ : ∃ x : Nat, r2 = x := ⟨r2.toNat, by omega⟩
    simp only [we_c, we_v, we_bin, we_neg, we_cmp, we_chn, we_no, we_and, we_or, we_ife, we_tup, we_lst, we_ix, we_sl, we_bi, we_mt, we_call, we_lrg1, we_lrg2, we_lc, ws_nil, ws_cons, wo_nil, wo_cons, wt_nil, wt_cons, wi_rng1, wi_rng2, wi_rng3, wi_of, wi_int, wS_asgN, wS_asgT, wS_asgS, wS_par2, wS_par3, wS_aug, wS_ex, wS_ret, wS_retN, wS_iff, wS_pass, wS_brk, wS_cont, wS_never, wS_nil, wS_cons, wS_for, wS_whl, wF_nx, wF_rt, wF_bk, wF_ct, wv_some, wb_some, wc_some, wm_some, wz_bl, wE_some, wN_some, wo_some, wo_none, wo_ite, List.getElem?_cons_zero, List.getElem?_cons_succ, List.set_cons_zero, List.set_cons_succ, List.map_cons, List.map_nil, List.cons_append, List.nil_append, List.append_nil, List.replicate_succ, List.replicate_zero, List.length_cons, List.length_nil, Bop.f, Cop.f, Bi.f, Im.f, wl_some, wj_some, wa_some, wbs_some, add_ii, add_ss, add_rr, sub_ii, mul_ii, mul_si, div_ii, mod_ii, pow_ii, neg_i, eq_ii, ne_ii, eq_ss, ne_ss, lt_ii, le_ii, gt_ii, ge_ii, eq_bb, ne_bb, in_cs, tr_b, tr_i, ix_r, ix_t, ix_f, ix_s, sl_s, sl_r, set_r, len_s, len_r, len_f, len_t, abs_i, max_ii, min_ii, max_r, min_r, int_i, int_b, list_r, sum_r, all_r, isi_ii, isi_ib, isi_ss, aug_ii, aug_sub, sel_app, sel_index, sel_pop, sel_count, sel_join, app_r, count_s, wx_some, idx_r, wT_some, join_r, src_s, src_f, src_t, src_r, if_true, if_false, Bool.not_true, Bool.not_false, Bool.false_eq_true]
    rw [rng_1 _ (by omega)]
    have hlt := die_lt g2.die
    refine wp_comps (rangeD 0 (1 + (r2 : Int)).toNat) (fun i acc U => Gr n S U ∧ T2.length < U.length ∧ ∃ cs : List Nat, cs.length = i ∧ Ru cs ∧ acc = cs.map fun c => D.str [c]) (fun _ _ _ _ => rfl) (fun i d acc U hx hl ⟨hi, hu, cs, hc1, hc2, hc3⟩ => ?_) (fun acc U hl ⟨hi, hu, cs, hc1, hc2, hc3⟩ => ?_) fuel 0 [] _ (by rw [range_len]; show _ < 1000000000; omega) (Nat.zero_le _) (lst_new _ _) ⟨g2.pre (List.prefix_append _ _), by rw [List.length_append]; simp, [], rfl, (by intro c h; cases h), rfl⟩
    · obtain ⟨hi', rfl⟩ := range_get hx
      simp only [setT, wipeE, we_c, we_v, we_bin, we_neg, we_cmp, we_chn, we_no, we_and, we_or, we_ife, we_tup, we_lst, we_ix, we_sl, we_bi, we_mt, we_call, we_lrg1, we_lrg2, we_lc, ws_nil, ws_cons, wo_nil, wo_cons, wt_nil, wt_cons, wi_rng1, wi_rng2, wi_rng3, wi_of, wi_int, wS_asgN, wS_asgT, wS_asgS, wS_par2, wS_par3, wS_aug, wS_ex, wS_ret, wS_retN, wS_iff, wS_pass, wS_brk, wS_cont, wS_never, wS_nil, wS_cons, wS_for, wS_whl, wF_nx, wF_rt, wF_bk, wF_ct, wv_some, wb_some, wc_some, wm_some, wz_bl, wE_some, wN_some, wo_some, wo_none, wo_ite, List.getElem?_cons_zero, List.getElem?_cons_succ, List.set_cons_zero, List.set_cons_succ, List.map_cons, List.map_nil, List.cons_append, List.nil_append, List.append_nil, List.replicate_succ, List.replicate_zero, List.length_cons, List.length_nil, if_true]
      refine ⟨line_of (by decide), ?_⟩
      have hp : U <+: U ++ [Cell.lst [D.str [114], D.str [117]]] := List.prefix_append _ _
      have hi2 := hi.pre hp
      have hl2 := lst_pre hp hl
      have hn1 := die_lt hi.die
      have hne : T2.length ≠ n := by omega
      refine pick2_ok n U.length _ _ hi2.die (lst_new _ _) (by omega) fun d V hd hr => ?_
      have hlV := hr.lst hne hl2
      have hiV := hi2.roll hr
      have hacc : acc.length = i := by rw [hc3, List.length_map, hc1]
      obtain ⟨c, hc, rfl⟩ : ∃ c, (c = 114 ∨ c = 117) ∧ d = .str [c] := by
        rcases List.mem_cons.mp hd with e | e
        · exact ⟨114, .inl rfl, e⟩
        · exact ⟨117, .inr rfl, List.mem_singleton.mp e⟩
      have hsl : S.length ≤ T2.length := g2.len
      refine ⟨hlV, by rw [hacc]; show _ < 16777216; omega, ⟨?_, by rw [List.length_set]; exact hiV.len, fun m xs hm e => ?_⟩, ?_, cs ++ [c], by rw [List.length_append, hc1]; rfl, ?_, by rw [hc3, List.map_append]; rfl⟩
      · obtain ⟨g, s, t, h1, h2⟩ := hiV.die
        exact ⟨g, s, t, h1, by rw [lst_set_ne hne]; exact h2⟩
      · have := lst_lt e
        rw [lst_set_ne (by omega)]
        exact hiV.keep m xs hm e
      · rw [List.length_set, hr.len, List.length_append]; simp; omega
      · intro c' h'
        rcases List.mem_append.mp h' with e | e
        · exact hc2 c' e
        · rw [List.mem_singleton.mp e]; exact hc
    · rw [range_len] at hc1
      rw [hc3] at hl
      rw [join_ones2 _ _ hl (by omega)]
      exact h cs U (by omega) (by omega) hc2 hi
  · rw [if_neg c]
    refine wd_slope_ok (k := k) n 9 hr.die (by decide) (by decide) fun p q T2 hg hp hq g2 => ?_
    simp only [setT, setTs, we_c, we_v, we_bin, we_neg, we_cmp, we_chn, we_no, we_and, we_or, we_ife, we_tup, we_lst, we_ix, we_sl, we_bi, we_mt, we_call, we_lrg1, we_lrg2, we_lc, ws_nil, ws_cons, wo_nil, wo_cons, wt_nil, wt_cons, wi_rng1, wi_rng2, wi_rng3, wi_of, wi_int, wS_asgN, wS_asgT, wS_asgS, wS_par2, wS_par3, wS_aug, wS_ex, wS_ret, wS_retN, wS_iff, wS_pass, wS_brk, wS_cont, wS_never, wS_nil, wS_cons, wS_for, wS_whl, wF_nx, wF_rt, wF_bk, wF_ct, wv_some, wb_some, wc_some, wm_some, wz_bl, wE_some, wN_some, wo_some, wo_none, wo_ite, List.getElem?_cons_zero, List.getElem?_cons_succ, List.set_cons_zero, List.set_cons_succ, List.map_cons, List.map_nil, List.cons_append, List.nil_append, List.append_nil, List.replicate_succ, List.replicate_zero, List.length_cons, List.length_nil, Bop.f, Cop.f, Bi.f, Im.f, wl_some, wj_some, wa_some, wbs_some, add_ii, add_ss, add_rr, sub_ii, mul_ii, mul_si, div_ii, mod_ii, pow_ii, neg_i, eq_ii, ne_ii, eq_ss, ne_ss, lt_ii, le_ii, gt_ii, ge_ii, eq_bb, ne_bb, in_cs, tr_b, tr_i, ix_r, ix_t, ix_f, ix_s, sl_s, sl_r, set_r, len_s, len_r, len_f, len_t, abs_i, max_ii, min_ii, max_r, min_r, int_i, int_b, list_r, sum_r, all_r, isi_ii, isi_ib, isi_ss, aug_ii, aug_sub, sel_app, sel_index, sel_pop, sel_count, sel_join, app_r, count_s, wx_some, idx_r, wT_some, join_r, src_s, src_f, src_t, src_r, if_true, if_false, Bool.not_true, Bool.not_false, Bool.false_eq_true]
    refine law_low_ok p q (by omega) fun T3 hp3 => ?_
    have hpq : 1 ≤ p + q := by
      rcases Nat.eq_zero_or_pos (p + q) with e | e
      · rw [show p = 0 by omega, show q = 0 by omega] at hg; cases hg
      · exact e
    have g3 : Gr n S T3 := (g.trans g2).pre hp3
    simp only [we_c, we_v, we_bin, we_neg, we_cmp, we_chn, we_no, we_and, we_or, we_ife, we_tup, we_lst, we_ix, we_sl, we_bi, we_mt, we_call, we_lrg1, we_lrg2, we_lc, ws_nil, ws_cons, wo_nil, wo_cons, wt_nil, wt_cons, wi_rng1, wi_rng2, wi_rng3, wi_of, wi_int, wS_asgN, wS_asgT, wS_asgS, wS_par2, wS_par3, wS_aug, wS_ex, wS_ret, wS_retN, wS_iff, wS_pass, wS_brk, wS_cont, wS_never, wS_nil, wS_cons, wS_for, wS_whl, wF_nx, wF_rt, wF_bk, wF_ct, wv_some, wb_some, wc_some, wm_some, wz_bl, wE_some, wN_some, wo_some, wo_none, wo_ite, List.getElem?_cons_zero, List.getElem?_cons_succ, List.set_cons_zero, List.set_cons_succ, List.map_cons, List.map_nil, List.cons_append, List.nil_append, List.append_nil, List.replicate_succ, List.replicate_zero, List.length_cons, List.length_nil, Bop.f, Cop.f, Bi.f, Im.f, wl_some, wj_some, wa_some, wbs_some, add_ii, add_ss, add_rr, sub_ii, mul_ii, mul_si, div_ii, mod_ii, pow_ii, neg_i, eq_ii, ne_ii, eq_ss, ne_ss, lt_ii, le_ii, gt_ii, ge_ii, eq_bb, ne_bb, in_cs, tr_b, tr_i, ix_r, ix_t, ix_f, ix_s, sl_s, sl_r, set_r, len_s, len_r, len_f, len_t, abs_i, max_ii, min_ii, max_r, min_r, int_i, int_b, list_r, sum_r, all_r, isi_ii, isi_ib, isi_ss, aug_ii, aug_sub, sel_app, sel_index, sel_pop, sel_count, sel_join, app_r, count_s, wx_some, idx_r, wT_some, join_r, src_s, src_f, src_t, src_r, if_true, if_false, Bool.not_true, Bool.not_false, Bool.false_eq_true, low_length]
    rw [if_pos (line_of (by omega))]
    refine roll_ok n _ g3.die (by omega) (by omega) fun a T4 ha0 ha1 hr4 => ?_
    have g4 := g3.roll hr4
    obtain ⟨a, rfl⟩ : ∃ x : Nat, a = x := ⟨a.toNat, by omega⟩
    simp only [we_c, we_v, we_bin, we_neg, we_cmp, we_chn, we_no, we_and, we_or, we_ife, we_tup, we_lst, we_ix, we_sl, we_bi, we_mt, we_call, we_lrg1, we_lrg2, we_lc, ws_nil, ws_cons, wo_nil, wo_cons, wt_nil, wt_cons, wi_rng1, wi_rng2, wi_rng3, wi_of, wi_int, wS_asgN, wS_asgT, wS_asgS, wS_par2, wS_par3, wS_aug, wS_ex, wS_ret, wS_retN, wS_iff, wS_pass, wS_brk, wS_cont, wS_never, wS_nil, wS_cons, wS_for, wS_whl, wF_nx, wF_rt, wF_bk, wF_ct, wv_some, wb_some, wc_some, wm_some, wz_bl, wE_some, wN_some, wo_some, wo_none, wo_ite, List.getElem?_cons_zero, List.getElem?_cons_succ, List.set_cons_zero, List.set_cons_succ, List.map_cons, List.map_nil, List.cons_append, List.nil_append, List.append_nil, List.replicate_succ, List.replicate_zero, List.length_cons, List.length_nil, Bop.f, Cop.f, Bi.f, Im.f, wl_some, wj_some, wa_some, wbs_some, add_ii, add_ss, add_rr, sub_ii, mul_ii, mul_si, div_ii, mod_ii, pow_ii, neg_i, eq_ii, ne_ii, eq_ss, ne_ss, lt_ii, le_ii, gt_ii, ge_ii, eq_bb, ne_bb, in_cs, tr_b, tr_i, ix_r, ix_t, ix_f, ix_s, sl_s, sl_r, set_r, len_s, len_r, len_f, len_t, abs_i, max_ii, min_ii, max_r, min_r, int_i, int_b, list_r, sum_r, all_r, isi_ii, isi_ib, isi_ss, aug_ii, aug_sub, sel_app, sel_index, sel_pop, sel_count, sel_join, app_r, count_s, wx_some, idx_r, wT_some, join_r, src_s, src_f, src_t, src_r, if_true, if_false, Bool.not_true, Bool.not_false, Bool.false_eq_true, low_length, cut_from, cut_to, decide_eq_true_eq]
    have hL : ((lowR p q).drop a ++ (lowR p q).take a).length = p + q := by rw [List.length_append, List.length_drop, List.length_take, low_length]; omega
    have rL : Ru ((lowR p q).drop a ++ (lowR p q).take a) := ru_app (ru_drop (ru_low p q) a) (ru_take (ru_low p q) a)
    have hs : (List.drop a (lowR p q)).length + (List.take a (lowR p q)).length ≤ line := by rw [List.length_drop, List.length_take, low_length]; exact line_of (by omega)
    rw [if_pos (line_of (by omega)), if_pos (line_of (by omega)), if_pos hs]
    generalize (lowR p q).drop a ++ (lowR p q).take a = L at hL rL ⊢
    have hLl : L.length ≤ line := line_of (by omega)
    have last : (if r = 2 then Wp (run ds (k + 2) 19 [D.ref n, D.int 3] T4) fun y S2 => WpO (fAdd (D.int 1) y S2) fun y S2 => WpO (fMul (D.str L) y S2) fun d S1 => Q d S1 else Q (D.str L) T4) := by
      by_cases c2 : r = 2
      · rw [if_pos c2]
        refine roll_ok (k := k + 1) n _ hr4.die (by omega) (by omega) fun b T5 hb0 hb1 hr5 => ?_
        have g5 := g4.roll hr5
        obtain ⟨b, rfl⟩ : ∃ x : Nat, b = x := ⟨b.toNat, by omega⟩
        rw [add_ii, mul_si, show (1 : Int) + (b : Nat) = ((b + 1 : Nat) : Int) by omega, Int.toNat_natCast]
        have hm : L.length * (b + 1) ≤ 27 * 3 := Nat.mul_le_mul (by omega) (by omega)
        have hm2 : L.length * 1 ≤ L.length * (b + 1) := Nat.mul_le_mul (Nat.le_refl _) (by omega)
        have hf : (List.replicate (b + 1) L).flatten.length = L.length * (b + 1) := by rw [List.length_flatten, List.map_replicate, List.sum_replicate_nat, Nat.mul_comm]
        rw [if_pos ⟨by omega, by omega, by omega, by show _ ≤ 16777216; omega⟩]
        exact h _ T5 (by rw [hf]; omega) (by rw [hf]; omega) (ru_flat rL _) g5
      · rw [if_neg c2]
        exact h L T4 (by omega) (by omega) rL g4
    by_cases c1 : r = 1
    · rw [if_pos c1, if_pos hLl]
      by_cases c3 : 1 < L.length
      · rw [if_pos (by omega), if_pos hLl]
        refine roll_ok (k := k + 1) n _ hr4.die (by omega) (by omega) fun b T5 hb0 hb1 hr5 => ?_
        have g5 := g4.roll hr5
        obtain ⟨b, rfl⟩ : ∃ x : Nat, b = x := ⟨b.toNat, by omega⟩
        rw [wi_int, if_pos hLl, add_ii, ix_s, if_pos hLl, show ((b : Nat) : Int) + 1 = ((b + 1 : Nat) : Int) by omega, atI_nat]
        have hb2 : b + 1 < L.length := by omega
        rw [List.getElem?_eq_getElem hb2, Option.map_some, wa_some, add_ss, cut_to, ix_s, if_pos hLl, atI_nat, List.getElem?_eq_getElem (show b < L.length by omega), Option.map_some]
        rw [if_pos (by rw [List.length_take]; show _ ≤ 16777216; simp; omega), wa_some, add_ss, if_pos (by rw [List.length_append, List.length_take]; show _ ≤ 16777216; simp; omega), add_ii, wi_int, if_pos hLl, show ((b : Nat) : Int) + 2 = ((b + 2 : Nat) : Int) by omega, cut_from, add_ss]
        rw [if_pos (by simp only [List.length_append, List.length_take, List.length_drop, List.length_singleton]; show _ ≤ 16777216; omega)]
        refine h _ T5 ?_ ?_ ?_ g5
        · simp only [List.length_append, List.length_take, List.length_drop, List.length_singleton]; omega
        · simp only [List.length_append, List.length_take, List.length_drop, List.length_singleton]; omega
        · exact ru_app (ru_app (ru_app (ru_take rL _) (ru_one rL (List.getElem?_eq_getElem hb2))) (ru_one rL (List.getElem?_eq_getElem (show b < L.length by omega)))) (ru_drop rL _)
      · rw [if_neg (by omega)]
        exact last
    · rw [if_neg c1, if_neg c1]
      exact last
end K86

set_option Elab.async false
set_option linter.all false
set_option maxRecDepth 100000
set_option maxHeartbeats 1000000
namespace K86
open Mi Lw
variable {k : Nat} {S : Mem} {Q : D → Mem → Prop}
def isI : D → Bool
  | .int _ => true
  | _ => false
theorem law_is_int_ok (d : D) (hd : tl d = true) (h : Q (.bl (isI d)) S) : Wp (run ds (k + 1) 21 [d] S) Q := by
  cases d with
  | int i =>
    refine wp_run (d := d21) rfl rfl ?_
    simp only [d21, we_c, we_v, we_bin, we_neg, we_cmp, we_chn, we_no, we_and, we_or, we_ife, we_tup, we_lst, we_ix, we_sl, we_bi, we_mt, we_call, we_lrg1, we_lrg2, we_lc, ws_nil, ws_cons, wo_nil, wo_cons, wt_nil, wt_cons, wi_rng1, wi_rng2, wi_rng3, wi_of, wi_int, wS_asgN, wS_asgT, wS_asgS, wS_par2, wS_par3, wS_aug, wS_ex, wS_ret, wS_retN, wS_iff, wS_pass, wS_brk, wS_cont, wS_never, wS_nil, wS_cons, wS_for, wS_whl, wF_nx, wF_rt, wF_bk, wF_ct, wv_some, wb_some, wc_some, wm_some, wz_bl, wE_some, wN_some, wo_some, wo_none, wo_ite, List.getElem?_cons_zero, List.getElem?_cons_succ, List.set_cons_zero, List.set_cons_succ, List.map_cons, List.map_nil, List.cons_append, List.nil_append, List.append_nil, List.replicate_succ, List.replicate_zero, List.length_cons, List.length_nil, Bop.f, Cop.f, Bi.f, Im.f, wl_some, wj_some, wa_some, wbs_some, add_ii, add_ss, add_rr, sub_ii, mul_ii, mul_si, div_ii, mod_ii, pow_ii, neg_i, eq_ii, ne_ii, eq_ss, ne_ss, lt_ii, le_ii, gt_ii, ge_ii, eq_bb, ne_bb, in_cs, tr_b, tr_i, ix_r, ix_t, ix_f, ix_s, sl_s, sl_r, set_r, len_s, len_r, len_f, len_t, abs_i, max_ii, min_ii, max_r, min_r, int_i, int_b, list_r, sum_r, all_r, isi_ii, isi_ib, isi_ss, aug_ii, aug_sub, sel_app, sel_index, sel_pop, sel_count, sel_join, app_r, count_s, wx_some, idx_r, wT_some, join_r, src_s, src_f, src_t, src_r, if_true, if_false, Bool.not_true, Bool.not_false, Bool.false_eq_true]
    exact h
  | bl b =>
    refine wp_run (d := d21) rfl rfl ?_
    simp only [d21, we_c, we_v, we_bin, we_neg, we_cmp, we_chn, we_no, we_and, we_or, we_ife, we_tup, we_lst, we_ix, we_sl, we_bi, we_mt, we_call, we_lrg1, we_lrg2, we_lc, ws_nil, ws_cons, wo_nil, wo_cons, wt_nil, wt_cons, wi_rng1, wi_rng2, wi_rng3, wi_of, wi_int, wS_asgN, wS_asgT, wS_asgS, wS_par2, wS_par3, wS_aug, wS_ex, wS_ret, wS_retN, wS_iff, wS_pass, wS_brk, wS_cont, wS_never, wS_nil, wS_cons, wS_for, wS_whl, wF_nx, wF_rt, wF_bk, wF_ct, wv_some, wb_some, wc_some, wm_some, wz_bl, wE_some, wN_some, wo_some, wo_none, wo_ite, List.getElem?_cons_zero, List.getElem?_cons_succ, List.set_cons_zero, List.set_cons_succ, List.map_cons, List.map_nil, List.cons_append, List.nil_append, List.append_nil, List.replicate_succ, List.replicate_zero, List.length_cons, List.length_nil, Bop.f, Cop.f, Bi.f, Im.f, wl_some, wj_some, wa_some, wbs_some, add_ii, add_ss, add_rr, sub_ii, mul_ii, mul_si, div_ii, mod_ii, pow_ii, neg_i, eq_ii, ne_ii, eq_ss, ne_ss, lt_ii, le_ii, gt_ii, ge_ii, eq_bb, ne_bb, in_cs, tr_b, tr_i, ix_r, ix_t, ix_f, ix_s, sl_s, sl_r, set_r, len_s, len_r, len_f, len_t, abs_i, max_ii, min_ii, max_r, min_r, int_i, int_b, list_r, sum_r, all_r, isi_ii, isi_ib, isi_ss, aug_ii, aug_sub, sel_app, sel_index, sel_pop, sel_count, sel_join, app_r, count_s, wx_some, idx_r, wT_some, join_r, src_s, src_f, src_t, src_r, if_true, if_false, Bool.not_true, Bool.not_false, Bool.false_eq_true, isi_bi, isi_bb]
    exact h
  | non =>
    refine wp_run (d := d21) rfl rfl ?_
    simp only [d21, we_c, we_v, we_bin, we_neg, we_cmp, we_chn, we_no, we_and, we_or, we_ife, we_tup, we_lst, we_ix, we_sl, we_bi, we_mt, we_call, we_lrg1, we_lrg2, we_lc, ws_nil, ws_cons, wo_nil, wo_cons, wt_nil, wt_cons, wi_rng1, wi_rng2, wi_rng3, wi_of, wi_int, wS_asgN, wS_asgT, wS_asgS, wS_par2, wS_par3, wS_aug, wS_ex, wS_ret, wS_retN, wS_iff, wS_pass, wS_brk, wS_cont, wS_never, wS_nil, wS_cons, wS_for, wS_whl, wF_nx, wF_rt, wF_bk, wF_ct, wv_some, wb_some, wc_some, wm_some, wz_bl, wE_some, wN_some, wo_some, wo_none, wo_ite, List.getElem?_cons_zero, List.getElem?_cons_succ, List.set_cons_zero, List.set_cons_succ, List.map_cons, List.map_nil, List.cons_append, List.nil_append, List.append_nil, List.replicate_succ, List.replicate_zero, List.length_cons, List.length_nil, Bop.f, Cop.f, Bi.f, Im.f, wl_some, wj_some, wa_some, wbs_some, add_ii, add_ss, add_rr, sub_ii, mul_ii, mul_si, div_ii, mod_ii, pow_ii, neg_i, eq_ii, ne_ii, eq_ss, ne_ss, lt_ii, le_ii, gt_ii, ge_ii, eq_bb, ne_bb, in_cs, tr_b, tr_i, ix_r, ix_t, ix_f, ix_s, sl_s, sl_r, set_r, len_s, len_r, len_f, len_t, abs_i, max_ii, min_ii, max_r, min_r, int_i, int_b, list_r, sum_r, all_r, isi_ii, isi_ib, isi_ss, aug_ii, aug_sub, sel_app, sel_index, sel_pop, sel_count, sel_join, app_r, count_s, wx_some, idx_r, wT_some, join_r, src_s, src_f, src_t, src_r, if_true, if_false, Bool.not_true, Bool.not_false, Bool.false_eq_true, isi_ni]
    exact h
  | _ => cases hd
theorem ne_mt {a b : Nat} (ha : lstAt S a = some []) (hb : lstAt S b = some []) : WpO (fNe (.ref a) (.ref b) S) Q = Q (.bl false) S := by
  have e : eqB S (.ref a) (.ref b) = some true := by
    show (match toPy S 60 (.ref a), toPy S 60 (.ref b) with
      | some d, some e => some (PySem.PyData.eqv d e)
      | _, _ => none) = _
    have e1 : ∀ n, lstAt S n = some [] → toPy S 60 (.ref n) = some (.list []) := fun n h => by
      show (match lstAt S n with
        | some xs => (match mapO (toPy S 59) xs with
          | some ds => some (PySem.PyData.list ds)
          | none => none)
        | none => none) = _
      rw [h]; rfl
    rw [e1 a ha, e1 b hb]
    rfl
  unfold fNe
  rw [e]
  rfl
theorem ne_one {a b : Nat} {d : D} (hd : tl d = true) (ha : lstAt S a = some [d]) (hb : lstAt S b = some []) : WpO (fNe (.ref a) (.ref b) S) Q = Q (.bl true) S := by
  have e : eqB S (.ref a) (.ref b) = some false := by
    show (match toPy S 60 (.ref a), toPy S 60 (.ref b) with
      | some d, some e => some (PySem.PyData.eqv d e)
      | _, _ => none) = _
    have e1 : toPy S 60 (.ref b) = some (.list []) := by
      show (match lstAt S b with
        | some xs => (match mapO (toPy S 59) xs with
          | some ds => some (PySem.PyData.list ds)
          | none => none)
        | none => none) = _
      rw [hb]; rfl
    have e2 : ∃ p, toPy S 60 (.ref a) = some (.list [p]) := by
      show ∃ p, (match lstAt S a with
        | some xs => (match mapO (toPy S 59) xs with
          | some ds => some (PySem.PyData.list ds)
          | none => none)
        | none => none) = _
      rw [ha]
      cases d <;> first | (cases hd; done) | exact ⟨_, rfl⟩
    obtain ⟨p, e2⟩ := e2
    rw [e1, e2]
    rfl
  unfold fNe
  rw [e]
  rfl
theorem okS_py {s : List Nat} (h : okS s) : PySem.PyData.strOk ⟨s.toArray⟩ = true := by
  rcases h with h | h | h | h <;> (subst h; decide +kernel)
theorem toPy_str (j : Nat) (cs : List Nat) : toPy S (j + 1) (.str cs) = if PySem.PyData.strOk ⟨cs.toArray⟩ = true then some (.str ⟨cs.toArray⟩) else none := rfl
theorem toPy_tup (j : Nat) (xs : List D) : toPy S (j + 1) (.tup xs) = (match mapO (toPy S j) xs with
  | some ds => some (.tuple ds)
  | none => none) := rfl
theorem mapO_cons {α β : Type} (f : α → Option β) (x : α) (xs : List α) : mapO f (x :: xs) = (match f x with
  | some y => (match mapO f xs with
    | some ys => some (y :: ys)
    | none => none)
  | none => none) := rfl
theorem eq_emp_0 : WpO (fEq (.tup []) (.tup []) S) Q = Q (.bl true) S := rfl
theorem eq_emp {s : List Nat} {r : List D} (hs : okS s) (hr : ∃ ps, mapO (toPy S 59) r = some ps) : WpO (fEq (.tup (.str s :: r)) (.tup []) S) Q = Q (.bl false) S := by
  obtain ⟨ps, e⟩ := hr
  have e1 : toPy S 60 (.tup (.str s :: r)) = some (.tuple (.str ⟨s.toArray⟩ :: ps)) := by
    have e0 : toPy S 59 (.str s) = some (.str ⟨s.toArray⟩) := by
      rw [show (59 : Nat) = 58 + 1 from rfl, toPy_str, if_pos (okS_py hs)]
    rw [show (60 : Nat) = 59 + 1 from rfl, toPy_tup, mapO_cons, e0, e]
  unfold fEq
  have e2 : eqB S (.tup (.str s :: r)) (.tup []) = some false := by
    show (match toPy S 60 (.tup (.str s :: r)), toPy S 60 (.tup []) with
      | some d, some e => some (PySem.PyData.eqv d e)
      | _, _ => none) = _
    rw [e1]
    rfl
  rw [e2]
  rfl
theorem tl_py {d : D} (h : tl d = true) : ∃ ps, mapO (toPy S 59) [d] = some ps := by
  cases d <;> first | (cases h; done) | exact ⟨_, rfl⟩
/-- what the law's _law_is_paper says -/
def lB (w : List Nat) : D → Bool
  | .tup [.str s, .int i] => if s = [115, 116, 114, 97, 105, 103, 104, 116] then decide (0 ≤ i ∧ i < (w.length : Nat)) && (straightB w && decide (w.drop i.toNat ++ w.take i.toNat = lowR (w.count 114) (w.count 117)))
    else if s = [97, 103, 97, 105, 110] then decide (0 < i ∧ i < (w.length : Nat)) && (decide (w.length % i.toNat = 0) && decide ((List.replicate (w.length / i.toNat) (w.take i.toNat)).flatten = w)) else false
  | .tup [.str s, .int i, .int j, .int c] => decide (s = [117, 110, 101, 118, 101, 110]) && (decide (i.toNat < w.length) && (decide (j.toNat < w.length) && (decide (1 ≤ c.toNat ∧ c.toNat ≤ w.length) && decide (1 < (if ((((w ++ w).drop i.toNat).take c.toNat).count 114 : Int) - (((w ++ w).drop j.toNat).take c.toNat).count 114 < 0 then -(((((w ++ w).drop i.toNat).take c.toNat).count 114 : Int) - (((w ++ w).drop j.toNat).take c.toNat).count 114) else ((((w ++ w).drop i.toNat).take c.toNat).count 114 : Int) - (((w ++ w).drop j.toNat).take c.toNat).count 114)))))
  | _ => false
theorem cut1 (a : D) (r : List D) : cutL (a :: r) (some 1) none = r := by
  rw [show (1 : Int) = ((1 : Nat) : Int) from rfl, cut_from]; rfl
theorem sl_t (xs : List D) (lo hi : Option Int) : WpO (fSl (.tup xs) lo hi S) Q = Q (.tup (cutL xs lo hi)) S := rfl
def ip0 : Sm := (.iff (.or (.no (.bi .isi (.cons (.v 1) (.cons (.c (.ty "tuple")) .nil)))) (.or (.cmp .eq (.v 1) (.tup .nil)) (.no (.bi .isi (.cons (.ix (.v 1) (.c (.int 0))) (.cons (.c (.ty "str")) .nil)))))) (.cons (.ret (.c (.bl false))) .nil) .nil)
def ip1 : Sm := (.asg (.n (.nm 2)) (.bi .len (.cons (.v 0) .nil)))
def ip2 : Sm := (.iff (.cmp .ne (.lc (.nm 6) (.of (.sl (.v 1) (.cons (.c (.int 1)) .nil) .nil)) (.cons (.no (.call 21 (.cons (.v 6) .nil))) .nil) (.v 6) [5, 6]) (.lst .nil)) (.cons (.ret (.c (.bl false))) .nil) .nil)
def ip3 : Sm := (.iff (.and (.cmp .eq (.ix (.v 1) (.c (.int 0))) (.c (.str [115, 116, 114, 97, 105, 103, 104, 116]))) (.and (.cmp .eq (.bi .len (.cons (.v 1) .nil)) (.c (.int 2))) (.chn .le .lt (.c (.int 0)) (.ix (.v 1) (.c (.int 1))) (.v 2)))) (.cons (.asg (.n (.nm 3)) (.bin .add (.sl (.v 0) (.cons (.ix (.v 1) (.c (.int 1))) .nil) .nil) (.sl (.v 0) .nil (.cons (.ix (.v 1) (.c (.int 1))) .nil)))) (.cons (.ret (.and (.call 25 (.cons (.v 0) .nil)) (.cmp .eq (.v 3) (.call 23 (.cons (.mt .count (.v 0) (.cons (.c (.str [114])) .nil)) (.cons (.mt .count (.v 0) (.cons (.c (.str [117])) .nil)) .nil)))))) .nil)) .nil)
def ip4 : Sm := (.iff (.and (.cmp .eq (.ix (.v 1) (.c (.int 0))) (.c (.str [97, 103, 97, 105, 110]))) (.and (.cmp .eq (.bi .len (.cons (.v 1) .nil)) (.c (.int 2))) (.chn .lt .lt (.c (.int 0)) (.ix (.v 1) (.c (.int 1))) (.v 2)))) (.cons (.ret (.and (.cmp .eq (.bin .mod (.v 2) (.ix (.v 1) (.c (.int 1)))) (.c (.int 0))) (.cmp .eq (.bin .mul (.sl (.v 0) .nil (.cons (.ix (.v 1) (.c (.int 1))) .nil)) (.bin .div (.v 2) (.ix (.v 1) (.c (.int 1))))) (.v 0)))) .nil) .nil)
def ip5 : Sm := (.iff (.or (.cmp .ne (.ix (.v 1) (.c (.int 0))) (.c (.str [117, 110, 101, 118, 101, 110]))) (.or (.cmp .ne (.bi .len (.cons (.v 1) .nil)) (.c (.int 4))) (.or (.no (.chn .le .lt (.c (.int 0)) (.ix (.v 1) (.c (.int 1))) (.v 2))) (.no (.chn .le .lt (.c (.int 0)) (.ix (.v 1) (.c (.int 2))) (.v 2)))))) (.cons (.ret (.c (.bl false))) .nil) .nil)
def ip6 : Sm := (.asg (.n (.nm 4)) (.lc (.nm 7) (.of (.sl (.v 1) (.cons (.c (.int 1)) .nil) (.cons (.c (.int 3)) .nil))) .nil (.mt .count (.sl (.bin .add (.v 0) (.v 0)) (.cons (.v 7) .nil) (.cons (.bin .add (.v 7) (.ix (.v 1) (.c (.int 3)))) .nil)) (.cons (.c (.str [114])) .nil)) [5, 7]))
def ip7 : Sm := (.ret (.and (.chn .le .le (.c (.int 1)) (.ix (.v 1) (.c (.int 3))) (.v 2)) (.cmp .gt (.bi .abs (.cons (.bin .sub (.ix (.v 4) (.c (.int 0))) (.ix (.v 4) (.c (.int 1)))) .nil)) (.c (.int 1)))))
theorem ipbody : d29.body = (.cons ip0 (.cons ip1 (.cons ip2 (.cons ip3 (.cons ip4 (.cons ip5 (.cons ip6 (.cons ip7 .nil)))))))) := rfl
section
variable {R : Fl → Mem → Prop} {x2 x3 x4 x5 x6 x7 : Option D}
theorem ip0_ok (w : List Nat) (s : List Nat) (r : List D) (hs : okS s) (hp : ∃ ps, mapO (toPy S 59) r = some ps) (h : R (.nx [some (.str w), some (.tup (.str s :: r)), x2, x3, x4, x5, x6, x7]) S) :
    WpS (evS (run ds (k + 2)) ip0 [some (.str w), some (.tup (.str s :: r)), x2, x3, x4, x5, x6, x7] S) R := by
  simp only [ip0, we_c, we_v, we_bin, we_neg, we_cmp, we_chn, we_no, we_and, we_or, we_ife, we_tup, we_lst, we_ix, we_sl, we_bi, we_mt, we_call, we_lrg1, we_lrg2, we_lc, ws_nil, ws_cons, wo_nil, wo_cons, wt_nil, wt_cons, wi_rng1, wi_rng2, wi_rng3, wi_of, wi_int, wS_asgN, wS_asgT, wS_asgS, wS_par2, wS_par3, wS_aug, wS_ex, wS_ret, wS_retN, wS_iff, wS_pass, wS_brk, wS_cont, wS_never, wS_nil, wS_cons, wS_for, wS_whl, wF_nx, wF_rt, wF_bk, wF_ct, wv_some, wb_some, wc_some, wm_some, wz_bl, wE_some, wN_some, wo_some, wo_none, wo_ite, List.getElem?_cons_zero, List.getElem?_cons_succ, List.set_cons_zero, List.set_cons_succ, List.map_cons, List.map_nil, List.cons_append, List.nil_append, List.append_nil, List.replicate_succ, List.replicate_zero, List.length_cons, List.length_nil, Bop.f, Cop.f, Bi.f, Im.f, wl_some, wj_some, wa_some, wbs_some, add_ii, add_ss, add_rr, sub_ii, mul_ii, mul_si, div_ii, mod_ii, pow_ii, neg_i, eq_ii, ne_ii, eq_ss, ne_ss, lt_ii, le_ii, gt_ii, ge_ii, eq_bb, ne_bb, in_cs, tr_b, tr_i, ix_r, ix_t, ix_f, ix_s, sl_s, sl_r, set_r, len_s, len_r, len_f, len_t, abs_i, max_ii, min_ii, max_r, min_r, int_i, int_b, list_r, sum_r, all_r, isi_ii, isi_ib, isi_ss, aug_ii, aug_sub, sel_app, sel_index, sel_pop, sel_count, sel_join, app_r, count_s, wx_some, idx_r, wT_some, join_r, src_s, src_f, src_t, src_r, if_true, if_false, Bool.not_true, Bool.not_false, Bool.false_eq_true, isi_tup, eq_emp hs hp, at_0]
  exact ⟨line_of (by decide), h⟩
theorem ip1_ok (w : List Nat) (d : Option D) (h2 : w.length ≤ 1000) (h : R (.nx [some (.str w), d, some (.int w.length), x3, x4, x5, x6, x7]) S) :
    WpS (evS (run ds (k + 2)) ip1 [some (.str w), d, x2, x3, x4, x5, x6, x7] S) R := by
  simp only [ip1, we_c, we_v, we_bin, we_neg, we_cmp, we_chn, we_no, we_and, we_or, we_ife, we_tup, we_lst, we_ix, we_sl, we_bi, we_mt, we_call, we_lrg1, we_lrg2, we_lc, ws_nil, ws_cons, wo_nil, wo_cons, wt_nil, wt_cons, wi_rng1, wi_rng2, wi_rng3, wi_of, wi_int, wS_asgN, wS_asgT, wS_asgS, wS_par2, wS_par3, wS_aug, wS_ex, wS_ret, wS_retN, wS_iff, wS_pass, wS_brk, wS_cont, wS_never, wS_nil, wS_cons, wS_for, wS_whl, wF_nx, wF_rt, wF_bk, wF_ct, wv_some, wb_some, wc_some, wm_some, wz_bl, wE_some, wN_some, wo_some, wo_none, wo_ite, List.getElem?_cons_zero, List.getElem?_cons_succ, List.set_cons_zero, List.set_cons_succ, List.map_cons, List.map_nil, List.cons_append, List.nil_append, List.append_nil, List.replicate_succ, List.replicate_zero, List.length_cons, List.length_nil, Bop.f, Cop.f, Bi.f, Im.f, wl_some, wj_some, wa_some, wbs_some, add_ii, add_ss, add_rr, sub_ii, mul_ii, mul_si, div_ii, mod_ii, pow_ii, neg_i, eq_ii, ne_ii, eq_ss, ne_ss, lt_ii, le_ii, gt_ii, ge_ii, eq_bb, ne_bb, in_cs, tr_b, tr_i, ix_r, ix_t, ix_f, ix_s, sl_s, sl_r, set_r, len_s, len_r, len_f, len_t, abs_i, max_ii, min_ii, max_r, min_r, int_i, int_b, list_r, sum_r, all_r, isi_ii, isi_ib, isi_ss, aug_ii, aug_sub, sel_app, sel_index, sel_pop, sel_count, sel_join, app_r, count_s, wx_some, idx_r, wT_some, join_r, src_s, src_f, src_t, src_r, if_true, if_false, Bool.not_true, Bool.not_false, Bool.false_eq_true]
  rw [if_pos (line_of (by omega))]
  exact h
theorem ip2_ok (w : List Nat) (s : List Nat) (r : List D) (hr : r.length ≤ 4) (ht : ∀ d ∈ r, tl d = true) (hf : r.filter (fun d => !isI d) = [] ∨ ∃ d, tl d = true ∧ r.filter (fun d => !isI d) = [d])
    (h0 : r.filter (fun d => !isI d) ≠ [] → ∀ T, S <+: T → R (.rt (.bl false)) T)
    (h : r.filter (fun d => !isI d) = [] → ∀ T, S <+: T → R (.nx [some (.str w), some (.tup (.str s :: r)), x2, x3, x4, none, none, x7]) T) :
    WpS (evS (run ds (k + 2)) ip2 [some (.str w), some (.tup (.str s :: r)), x2, x3, x4, none, none, x7] S) R := by
  simp only [ip2, we_c, we_v, we_bin, we_neg, we_cmp, we_chn, we_no, we_and, we_or, we_ife, we_tup, we_lst, we_ix, we_sl, we_bi, we_mt, we_call, we_lrg1, we_lrg2, we_lc, ws_nil, ws_cons, wo_nil, wo_cons, wt_nil, wt_cons, wi_rng1, wi_rng2, wi_rng3, wi_of, wi_int, wS_asgN, wS_asgT, wS_asgS, wS_par2, wS_par3, wS_aug, wS_ex, wS_ret, wS_retN, wS_iff, wS_pass, wS_brk, wS_cont, wS_never, wS_nil, wS_cons, wS_for, wS_whl, wF_nx, wF_rt, wF_bk, wF_ct, wv_some, wb_some, wc_some, wm_some, wz_bl, wE_some, wN_some, wo_some, wo_none, wo_ite, List.getElem?_cons_zero, List.getElem?_cons_succ, List.set_cons_zero, List.set_cons_succ, List.map_cons, List.map_nil, List.cons_append, List.nil_append, List.append_nil, List.replicate_succ, List.replicate_zero, List.length_cons, List.length_nil, Bop.f, Cop.f, Bi.f, Im.f, wl_some, wj_some, wa_some, wbs_some, add_ii, add_ss, add_rr, sub_ii, mul_ii, mul_si, div_ii, mod_ii, pow_ii, neg_i, eq_ii, ne_ii, eq_ss, ne_ss, lt_ii, le_ii, gt_ii, ge_ii, eq_bb, ne_bb, in_cs, tr_b, tr_i, ix_r, ix_t, ix_f, ix_s, sl_s, sl_r, set_r, len_s, len_r, len_f, len_t, abs_i, max_ii, min_ii, max_r, min_r, int_i, int_b, list_r, sum_r, all_r, isi_ii, isi_ib, isi_ss, aug_ii, aug_sub, sel_app, sel_index, sel_pop, sel_count, sel_join, app_r, count_s, wx_some, idx_r, wT_some, join_r, src_s, src_f, src_t, src_r, if_true, if_false, Bool.not_true, Bool.not_false, Bool.false_eq_true, sl_t, cut1]
  refine wp_filter (fun d => !isI d) (fun d => d) (at_items _ _) (line_of (by omega)) (fun d T hd hp => ?_) (fun T hp hl => ?_)
  · simp only [setT, wipeE, we_c, we_v, we_bin, we_neg, we_cmp, we_chn, we_no, we_and, we_or, we_ife, we_tup, we_lst, we_ix, we_sl, we_bi, we_mt, we_call, we_lrg1, we_lrg2, we_lc, ws_nil, ws_cons, wo_nil, wo_cons, wt_nil, wt_cons, wi_rng1, wi_rng2, wi_rng3, wi_of, wi_int, wS_asgN, wS_asgT, wS_asgS, wS_par2, wS_par3, wS_aug, wS_ex, wS_ret, wS_retN, wS_iff, wS_pass, wS_brk, wS_cont, wS_never, wS_nil, wS_cons, wS_for, wS_whl, wF_nx, wF_rt, wF_bk, wF_ct, wv_some, wb_some, wc_some, wm_some, wz_bl, wE_some, wN_some, wo_some, wo_none, wo_ite, List.getElem?_cons_zero, List.getElem?_cons_succ, List.set_cons_zero, List.set_cons_succ, List.map_cons, List.map_nil, List.cons_append, List.nil_append, List.append_nil, List.replicate_succ, List.replicate_zero, List.length_cons, List.length_nil, Bop.f, Cop.f, Bi.f, Im.f, wl_some, wj_some, wa_some, wbs_some, add_ii, add_ss, add_rr, sub_ii, mul_ii, mul_si, div_ii, mod_ii, pow_ii, neg_i, eq_ii, ne_ii, eq_ss, ne_ss, lt_ii, le_ii, gt_ii, ge_ii, eq_bb, ne_bb, in_cs, tr_b, tr_i, ix_r, ix_t, ix_f, ix_s, sl_s, sl_r, set_r, len_s, len_r, len_f, len_t, abs_i, max_ii, min_ii, max_r, min_r, int_i, int_b, list_r, sum_r, all_r, isi_ii, isi_ib, isi_ss, aug_ii, aug_sub, sel_app, sel_index, sel_pop, sel_count, sel_join, app_r, count_s, wx_some, idx_r, wT_some, join_r, src_s, src_f, src_t, src_r, if_true, if_false, Bool.not_true, Bool.not_false, Bool.false_eq_true]
    refine law_is_int_ok d (ht d hd) ?_
    simp only [we_c, we_v, we_bin, we_neg, we_cmp, we_chn, we_no, we_and, we_or, we_ife, we_tup, we_lst, we_ix, we_sl, we_bi, we_mt, we_call, we_lrg1, we_lrg2, we_lc, ws_nil, ws_cons, wo_nil, wo_cons, wt_nil, wt_cons, wi_rng1, wi_rng2, wi_rng3, wi_of, wi_int, wS_asgN, wS_asgT, wS_asgS, wS_par2, wS_par3, wS_aug, wS_ex, wS_ret, wS_retN, wS_iff, wS_pass, wS_brk, wS_cont, wS_never, wS_nil, wS_cons, wS_for, wS_whl, wF_nx, wF_rt, wF_bk, wF_ct, wv_some, wb_some, wc_some, wm_some, wz_bl, wE_some, wN_some, wo_some, wo_none, wo_ite, List.getElem?_cons_zero, List.getElem?_cons_succ, List.set_cons_zero, List.set_cons_succ, List.map_cons, List.map_nil, List.cons_append, List.nil_append, List.append_nil, List.replicate_succ, List.replicate_zero, List.length_cons, List.length_nil, Bop.f, Cop.f, Bi.f, Im.f, wl_some, wj_some, wa_some, wbs_some, add_ii, add_ss, add_rr, sub_ii, mul_ii, mul_si, div_ii, mod_ii, pow_ii, neg_i, eq_ii, ne_ii, eq_ss, ne_ss, lt_ii, le_ii, gt_ii, ge_ii, eq_bb, ne_bb, in_cs, tr_b, tr_i, ix_r, ix_t, ix_f, ix_s, sl_s, sl_r, set_r, len_s, len_r, len_f, len_t, abs_i, max_ii, min_ii, max_r, min_r, int_i, int_b, list_r, sum_r, all_r, isi_ii, isi_ib, isi_ss, aug_ii, aug_sub, sel_app, sel_index, sel_pop, sel_count, sel_join, app_r, count_s, wx_some, idx_r, wT_some, join_r, src_s, src_f, src_t, src_r, if_true, if_false, Bool.not_true, Bool.not_false, Bool.false_eq_true]
    exact ⟨trivial, List.prefix_refl _, fun _ => ⟨trivial, List.prefix_refl _⟩⟩
  · rw [List.map_id'] at hl
    refine ⟨line_of (by decide), ?_⟩
    have hp1 : T <+: T ++ [Cell.lst []] := List.prefix_append _ _
    have hl1 := lst_pre hp1 hl
    rcases hf with e | ⟨d, hd, e⟩
    · rw [e] at hl1
      rw [ne_mt hl1 (lst_new _ _)]
      simp only [we_c, we_v, we_bin, we_neg, we_cmp, we_chn, we_no, we_and, we_or, we_ife, we_tup, we_lst, we_ix, we_sl, we_bi, we_mt, we_call, we_lrg1, we_lrg2, we_lc, ws_nil, ws_cons, wo_nil, wo_cons, wt_nil, wt_cons, wi_rng1, wi_rng2, wi_rng3, wi_of, wi_int, wS_asgN, wS_asgT, wS_asgS, wS_par2, wS_par3, wS_aug, wS_ex, wS_ret, wS_retN, wS_iff, wS_pass, wS_brk, wS_cont, wS_never, wS_nil, wS_cons, wS_for, wS_whl, wF_nx, wF_rt, wF_bk, wF_ct, wv_some, wb_some, wc_some, wm_some, wz_bl, wE_some, wN_some, wo_some, wo_none, wo_ite, List.getElem?_cons_zero, List.getElem?_cons_succ, List.set_cons_zero, List.set_cons_succ, List.map_cons, List.map_nil, List.cons_append, List.nil_append, List.append_nil, List.replicate_succ, List.replicate_zero, List.length_cons, List.length_nil, Bop.f, Cop.f, Bi.f, Im.f, wl_some, wj_some, wa_some, wbs_some, add_ii, add_ss, add_rr, sub_ii, mul_ii, mul_si, div_ii, mod_ii, pow_ii, neg_i, eq_ii, ne_ii, eq_ss, ne_ss, lt_ii, le_ii, gt_ii, ge_ii, eq_bb, ne_bb, in_cs, tr_b, tr_i, ix_r, ix_t, ix_f, ix_s, sl_s, sl_r, set_r, len_s, len_r, len_f, len_t, abs_i, max_ii, min_ii, max_r, min_r, int_i, int_b, list_r, sum_r, all_r, isi_ii, isi_ib, isi_ss, aug_ii, aug_sub, sel_app, sel_index, sel_pop, sel_count, sel_join, app_r, count_s, wx_some, idx_r, wT_some, join_r, src_s, src_f, src_t, src_r, if_true, if_false, Bool.not_true, Bool.not_false, Bool.false_eq_true]
      exact h e _ (hp.trans hp1)
    · rw [e] at hl1
      rw [ne_one hd hl1 (lst_new _ _)]
      simp only [we_c, we_v, we_bin, we_neg, we_cmp, we_chn, we_no, we_and, we_or, we_ife, we_tup, we_lst, we_ix, we_sl, we_bi, we_mt, we_call, we_lrg1, we_lrg2, we_lc, ws_nil, ws_cons, wo_nil, wo_cons, wt_nil, wt_cons, wi_rng1, wi_rng2, wi_rng3, wi_of, wi_int, wS_asgN, wS_asgT, wS_asgS, wS_par2, wS_par3, wS_aug, wS_ex, wS_ret, wS_retN, wS_iff, wS_pass, wS_brk, wS_cont, wS_never, wS_nil, wS_cons, wS_for, wS_whl, wF_nx, wF_rt, wF_bk, wF_ct, wv_some, wb_some, wc_some, wm_some, wz_bl, wE_some, wN_some, wo_some, wo_none, wo_ite, List.getElem?_cons_zero, List.getElem?_cons_succ, List.set_cons_zero, List.set_cons_succ, List.map_cons, List.map_nil, List.cons_append, List.nil_append, List.append_nil, List.replicate_succ, List.replicate_zero, List.length_cons, List.length_nil, Bop.f, Cop.f, Bi.f, Im.f, wl_some, wj_some, wa_some, wbs_some, add_ii, add_ss, add_rr, sub_ii, mul_ii, mul_si, div_ii, mod_ii, pow_ii, neg_i, eq_ii, ne_ii, eq_ss, ne_ss, lt_ii, le_ii, gt_ii, ge_ii, eq_bb, ne_bb, in_cs, tr_b, tr_i, ix_r, ix_t, ix_f, ix_s, sl_s, sl_r, set_r, len_s, len_r, len_f, len_t, abs_i, max_ii, min_ii, max_r, min_r, int_i, int_b, list_r, sum_r, all_r, isi_ii, isi_ib, isi_ss, aug_ii, aug_sub, sel_app, sel_index, sel_pop, sel_count, sel_join, app_r, count_s, wx_some, idx_r, wT_some, join_r, src_s, src_f, src_t, src_r, if_true, if_false, Bool.not_true, Bool.not_false, Bool.false_eq_true]
      exact h0 (by rw [e]; simp) _ (hp.trans hp1)
theorem ip3_two (w : List Nat) (s : List Nat) (i : Int) (h1 : 1 ≤ w.length) (h2 : w.length ≤ 1000)
    (h : ¬ (s = [115, 116, 114, 97, 105, 103, 104, 116] ∧ 0 ≤ i ∧ i < (w.length : Nat)) → R (.nx [some (.str w), some (.tup [.str s, .int i]), some (.int w.length), x3, x4, x5, x6, x7]) S)
    (h' : s = [115, 116, 114, 97, 105, 103, 104, 116] → ∀ T, S <+: T → 0 ≤ i → i < (w.length : Nat) → R (.rt (.bl (straightB w && decide (w.drop i.toNat ++ w.take i.toNat = lowR (w.count 114) (w.count 117))))) T) :
    WpS (evS (run ds (k + 2)) ip3 [some (.str w), some (.tup [.str s, .int i]), some (.int w.length), x3, x4, x5, x6, x7] S) R := by
  simp only [ip3, we_c, we_v, we_bin, we_neg, we_cmp, we_chn, we_no, we_and, we_or, we_ife, we_tup, we_lst, we_ix, we_sl, we_bi, we_mt, we_call, we_lrg1, we_lrg2, we_lc, ws_nil, ws_cons, wo_nil, wo_cons, wt_nil, wt_cons, wi_rng1, wi_rng2, wi_rng3, wi_of, wi_int, wS_asgN, wS_asgT, wS_asgS, wS_par2, wS_par3, wS_aug, wS_ex, wS_ret, wS_retN, wS_iff, wS_pass, wS_brk, wS_cont, wS_never, wS_nil, wS_cons, wS_for, wS_whl, wF_nx, wF_rt, wF_bk, wF_ct, wv_some, wb_some, wc_some, wm_some, wz_bl, wE_some, wN_some, wo_some, wo_none, wo_ite, List.getElem?_cons_zero, List.getElem?_cons_succ, List.set_cons_zero, List.set_cons_succ, List.map_cons, List.map_nil, List.cons_append, List.nil_append, List.append_nil, List.replicate_succ, List.replicate_zero, List.length_cons, List.length_nil, Bop.f, Cop.f, Bi.f, Im.f, wl_some, wj_some, wa_some, wbs_some, add_ii, add_ss, add_rr, sub_ii, mul_ii, mul_si, div_ii, mod_ii, pow_ii, neg_i, eq_ii, ne_ii, eq_ss, ne_ss, lt_ii, le_ii, gt_ii, ge_ii, eq_bb, ne_bb, in_cs, tr_b, tr_i, ix_r, ix_t, ix_f, ix_s, sl_s, sl_r, set_r, len_s, len_r, len_f, len_t, abs_i, max_ii, min_ii, max_r, min_r, int_i, int_b, list_r, sum_r, all_r, isi_ii, isi_ib, isi_ss, aug_ii, aug_sub, sel_app, sel_index, sel_pop, sel_count, sel_join, app_r, count_s, wx_some, idx_r, wT_some, join_r, src_s, src_f, src_t, src_r, if_true, if_false, Bool.not_true, Bool.not_false, Bool.false_eq_true, at_0, at_1]
  have d2 : decide (((0 + 1 + 1 : Nat) : Int) = 2) = true := rfl
  by_cases c : s = [115, 116, 114, 97, 105, 103, 104, 116]
  · rw [if_pos (decide_eq_true c), if_pos d2]
    by_cases c1 : 0 ≤ i
    · rw [if_pos (decide_eq_true c1)]
      by_cases c2 : i < (w.length : Nat)
      · obtain ⟨i, rfl⟩ : ∃ n : Nat, i = n := ⟨i.toNat, by omega⟩
        have hh := h' c
        rw [if_pos (decide_eq_true c2), if_pos (line_of (by omega)), if_pos (line_of (by omega)), cut_from, cut_to, if_pos (by rw [List.length_drop, List.length_take]; exact line_of (by omega))]
        refine straight_ok w h1 h2 fun T hp => ?_
        rw [tr_b, wb_some]
        have := hh T hp c1 c2
        rw [Int.toNat_natCast] at this
        by_cases e : straightB w = true
        · rw [if_pos e]
          refine law_low_ok _ _ (by have := List.count_le_length (a := 114) (l := w); have := List.count_le_length (a := 117) (l := w); omega) fun T2 hp2 => ?_
          rw [eq_ss]
          have := hh T2 (hp.trans hp2) c1 c2
          rw [Int.toNat_natCast, e, Bool.true_and] at this
          exact this
        · rw [if_neg e]
          have e' : straightB w = false := by simpa using e
          rw [e'] at this ⊢
          exact this
      · rw [if_neg (by rw [decide_eq_true_eq]; exact c2)]
        exact h fun z => c2 z.2.2
    · rw [if_neg (by rw [decide_eq_true_eq]; exact c1)]
      exact h fun z => c1 z.2.1
  · have c' : ¬ decide (s = [115, 116, 114, 97, 105, 103, 104, 116]) = true := by rw [decide_eq_true_eq]; exact c
    rw [if_neg c', if_neg c']
    exact h fun z => c z.1
theorem ip3_skip (w : List Nat) (s : List Nat) (r : List D) (hr : r.length ≠ 1) (h : R (.nx [some (.str w), some (.tup (.str s :: r)), some (.int w.length), x3, x4, x5, x6, x7]) S) :
    WpS (evS (run ds (k + 2)) ip3 [some (.str w), some (.tup (.str s :: r)), some (.int w.length), x3, x4, x5, x6, x7] S) R := by
  simp only [ip3, we_c, we_v, we_bin, we_neg, we_cmp, we_chn, we_no, we_and, we_or, we_ife, we_tup, we_lst, we_ix, we_sl, we_bi, we_mt, we_call, we_lrg1, we_lrg2, we_lc, ws_nil, ws_cons, wo_nil, wo_cons, wt_nil, wt_cons, wi_rng1, wi_rng2, wi_rng3, wi_of, wi_int, wS_asgN, wS_asgT, wS_asgS, wS_par2, wS_par3, wS_aug, wS_ex, wS_ret, wS_retN, wS_iff, wS_pass, wS_brk, wS_cont, wS_never, wS_nil, wS_cons, wS_for, wS_whl, wF_nx, wF_rt, wF_bk, wF_ct, wv_some, wb_some, wc_some, wm_some, wz_bl, wE_some, wN_some, wo_some, wo_none, wo_ite, List.getElem?_cons_zero, List.getElem?_cons_succ, List.set_cons_zero, List.set_cons_succ, List.map_cons, List.map_nil, List.cons_append, List.nil_append, List.append_nil, List.replicate_succ, List.replicate_zero, List.length_cons, List.length_nil, Bop.f, Cop.f, Bi.f, Im.f, wl_some, wj_some, wa_some, wbs_some, add_ii, add_ss, add_rr, sub_ii, mul_ii, mul_si, div_ii, mod_ii, pow_ii, neg_i, eq_ii, ne_ii, eq_ss, ne_ss, lt_ii, le_ii, gt_ii, ge_ii, eq_bb, ne_bb, in_cs, tr_b, tr_i, ix_r, ix_t, ix_f, ix_s, sl_s, sl_r, set_r, len_s, len_r, len_f, len_t, abs_i, max_ii, min_ii, max_r, min_r, int_i, int_b, list_r, sum_r, all_r, isi_ii, isi_ib, isi_ss, aug_ii, aug_sub, sel_app, sel_index, sel_pop, sel_count, sel_join, app_r, count_s, wx_some, idx_r, wT_some, join_r, src_s, src_f, src_t, src_r, if_true, if_false, Bool.not_true, Bool.not_false, Bool.false_eq_true, at_0]
  have d2 : ¬ decide (((r.length + 1 : Nat) : Int) = 2) = true := by rw [decide_eq_true_eq]; omega
  by_cases c : s = [115, 116, 114, 97, 105, 103, 104, 116]
  · rw [if_pos (decide_eq_true c), if_neg d2, if_neg d2]
    exact h
  · have c' : ¬ decide (s = [115, 116, 114, 97, 105, 103, 104, 116]) = true := by rw [decide_eq_true_eq]; exact c
    rw [if_neg c', if_neg c']
    exact h
theorem ip4_skip (w : List Nat) (s : List Nat) (r : List D) (hr : r.length ≠ 1) (h : R (.nx [some (.str w), some (.tup (.str s :: r)), some (.int w.length), x3, x4, x5, x6, x7]) S) :
    WpS (evS (run ds (k + 2)) ip4 [some (.str w), some (.tup (.str s :: r)), some (.int w.length), x3, x4, x5, x6, x7] S) R := by
  simp only [ip4, we_c, we_v, we_bin, we_neg, we_cmp, we_chn, we_no, we_and, we_or, we_ife, we_tup, we_lst, we_ix, we_sl, we_bi, we_mt, we_call, we_lrg1, we_lrg2, we_lc, ws_nil, ws_cons, wo_nil, wo_cons, wt_nil, wt_cons, wi_rng1, wi_rng2, wi_rng3, wi_of, wi_int, wS_asgN, wS_asgT, wS_asgS, wS_par2, wS_par3, wS_aug, wS_ex, wS_ret, wS_retN, wS_iff, wS_pass, wS_brk, wS_cont, wS_never, wS_nil, wS_cons, wS_for, wS_whl, wF_nx, wF_rt, wF_bk, wF_ct, wv_some, wb_some, wc_some, wm_some, wz_bl, wE_some, wN_some, wo_some, wo_none, wo_ite, List.getElem?_cons_zero, List.getElem?_cons_succ, List.set_cons_zero, List.set_cons_succ, List.map_cons, List.map_nil, List.cons_append, List.nil_append, List.append_nil, List.replicate_succ, List.replicate_zero, List.length_cons, List.length_nil, Bop.f, Cop.f, Bi.f, Im.f, wl_some, wj_some, wa_some, wbs_some, add_ii, add_ss, add_rr, sub_ii, mul_ii, mul_si, div_ii, mod_ii, pow_ii, neg_i, eq_ii, ne_ii, eq_ss, ne_ss, lt_ii, le_ii, gt_ii, ge_ii, eq_bb, ne_bb, in_cs, tr_b, tr_i, ix_r, ix_t, ix_f, ix_s, sl_s, sl_r, set_r, len_s, len_r, len_f, len_t, abs_i, max_ii, min_ii, max_r, min_r, int_i, int_b, list_r, sum_r, all_r, isi_ii, isi_ib, isi_ss, aug_ii, aug_sub, sel_app, sel_index, sel_pop, sel_count, sel_join, app_r, count_s, wx_some, idx_r, wT_some, join_r, src_s, src_f, src_t, src_r, if_true, if_false, Bool.not_true, Bool.not_false, Bool.false_eq_true, at_0]
  have d2 : ¬ decide (((r.length + 1 : Nat) : Int) = 2) = true := by rw [decide_eq_true_eq]; omega
  by_cases c : s = [97, 103, 97, 105, 110]
  · rw [if_pos (decide_eq_true c), if_neg d2, if_neg d2]
    exact h
  · have c' : ¬ decide (s = [97, 103, 97, 105, 110]) = true := by rw [decide_eq_true_eq]; exact c
    rw [if_neg c', if_neg c']
    exact h
theorem ip4_two (w : List Nat) (s : List Nat) (i : Int) (h1 : 1 ≤ w.length) (h2 : w.length ≤ 1000)
    (h : ¬ (s = [97, 103, 97, 105, 110] ∧ 0 < i ∧ i < (w.length : Nat)) → R (.nx [some (.str w), some (.tup [.str s, .int i]), some (.int w.length), x3, x4, x5, x6, x7]) S)
    (h' : s = [97, 103, 97, 105, 110] → 0 < i → i < (w.length : Nat) → R (.rt (.bl (decide (w.length % i.toNat = 0) && decide ((List.replicate (w.length / i.toNat) (w.take i.toNat)).flatten = w)))) S) :
    WpS (evS (run ds (k + 2)) ip4 [some (.str w), some (.tup [.str s, .int i]), some (.int w.length), x3, x4, x5, x6, x7] S) R := by
  simp only [ip4, we_c, we_v, we_bin, we_neg, we_cmp, we_chn, we_no, we_and, we_or, we_ife, we_tup, we_lst, we_ix, we_sl, we_bi, we_mt, we_call, we_lrg1, we_lrg2, we_lc, ws_nil, ws_cons, wo_nil, wo_cons, wt_nil, wt_cons, wi_rng1, wi_rng2, wi_rng3, wi_of, wi_int, wS_asgN, wS_asgT, wS_asgS, wS_par2, wS_par3, wS_aug, wS_ex, wS_ret, wS_retN, wS_iff, wS_pass, wS_brk, wS_cont, wS_never, wS_nil, wS_cons, wS_for, wS_whl, wF_nx, wF_rt, wF_bk, wF_ct, wv_some, wb_some, wc_some, wm_some, wz_bl, wE_some, wN_some, wo_some, wo_none, wo_ite, List.getElem?_cons_zero, List.getElem?_cons_succ, List.set_cons_zero, List.set_cons_succ, List.map_cons, List.map_nil, List.cons_append, List.nil_append, List.append_nil, List.replicate_succ, List.replicate_zero, List.length_cons, List.length_nil, Bop.f, Cop.f, Bi.f, Im.f, wl_some, wj_some, wa_some, wbs_some, add_ii, add_ss, add_rr, sub_ii, mul_ii, mul_si, div_ii, mod_ii, pow_ii, neg_i, eq_ii, ne_ii, eq_ss, ne_ss, lt_ii, le_ii, gt_ii, ge_ii, eq_bb, ne_bb, in_cs, tr_b, tr_i, ix_r, ix_t, ix_f, ix_s, sl_s, sl_r, set_r, len_s, len_r, len_f, len_t, abs_i, max_ii, min_ii, max_r, min_r, int_i, int_b, list_r, sum_r, all_r, isi_ii, isi_ib, isi_ss, aug_ii, aug_sub, sel_app, sel_index, sel_pop, sel_count, sel_join, app_r, count_s, wx_some, idx_r, wT_some, join_r, src_s, src_f, src_t, src_r, if_true, if_false, Bool.not_true, Bool.not_false, Bool.false_eq_true, at_0, at_1]
  have d2 : decide (((0 + 1 + 1 : Nat) : Int) = 2) = true := rfl
  by_cases c : s = [97, 103, 97, 105, 110]
  · rw [if_pos (decide_eq_true c), if_pos d2]
    by_cases c1 : 0 < i
    · rw [if_pos (decide_eq_true c1)]
      by_cases c2 : i < (w.length : Nat)
      · obtain ⟨i, rfl⟩ : ∃ n : Nat, i = n := ⟨i.toNat, by omega⟩
        have hh := h' c c1 c2
        rw [Int.toNat_natCast] at hh
        rw [if_pos (decide_eq_true c2), if_pos c1]
        have hd' := Nat.div_le_self w.length i
        have ht : (w.take i).length ≤ 1000 := by rw [List.length_take]; omega
        have hm : (w.take i).length * (w.length / i) ≤ 1000 * 1000 := Nat.mul_le_mul ht (by omega)
        by_cases c3 : w.length % i = 0
        · rw [if_pos (by rw [decide_eq_true_eq, ← Int.natCast_emod]; omega), if_pos (line_of (by omega)), cut_to, if_pos ⟨c1, log_small (by omega)⟩, ← Int.natCast_ediv, Int.toNat_natCast]
          rw [if_pos ⟨Int.natCast_nonneg _, Int.le_trans (Int.ofNat_le.mpr (Nat.le_trans hd' h2)) (by decide), by omega, by show _ ≤ 16777216; omega⟩]
          rw [decide_eq_true c3, Bool.true_and] at hh
          exact hh
        · have cx : ¬ decide (((w.length : Nat) : Int) % (i : Nat) = 0) = true := by rw [decide_eq_true_eq, ← Int.natCast_emod]; omega
          rw [if_neg cx]
          rw [decide_eq_false c3, Bool.false_and] at hh
          rw [show decide (((w.length : Nat) : Int) % (i : Nat) = 0) = false from by simpa using cx]
          exact hh
      · rw [if_neg (by rw [decide_eq_true_eq]; exact c2)]
        exact h fun z => c2 z.2.2
    · rw [if_neg (by rw [decide_eq_true_eq]; exact c1)]
      exact h fun z => c1 z.2.1
  · have c' : ¬ decide (s = [97, 103, 97, 105, 110]) = true := by rw [decide_eq_true_eq]; exact c
    rw [if_neg c', if_neg c']
    exact h fun z => c z.1
theorem ip5_skip (w : List Nat) (s : List Nat) (r : List D) (hr : r.length ≠ 3) (h : R (.rt (.bl false)) S) :
    WpS (evS (run ds (k + 2)) ip5 [some (.str w), some (.tup (.str s :: r)), some (.int w.length), x3, x4, x5, x6, x7] S) R := by
  simp only [ip5, we_c, we_v, we_bin, we_neg, we_cmp, we_chn, we_no, we_and, we_or, we_ife, we_tup, we_lst, we_ix, we_sl, we_bi, we_mt, we_call, we_lrg1, we_lrg2, we_lc, ws_nil, ws_cons, wo_nil, wo_cons, wt_nil, wt_cons, wi_rng1, wi_rng2, wi_rng3, wi_of, wi_int, wS_asgN, wS_asgT, wS_asgS, wS_par2, wS_par3, wS_aug, wS_ex, wS_ret, wS_retN, wS_iff, wS_pass, wS_brk, wS_cont, wS_never, wS_nil, wS_cons, wS_for, wS_whl, wF_nx, wF_rt, wF_bk, wF_ct, wv_some, wb_some, wc_some, wm_some, wz_bl, wE_some, wN_some, wo_some, wo_none, wo_ite, List.getElem?_cons_zero, List.getElem?_cons_succ, List.set_cons_zero, List.set_cons_succ, List.map_cons, List.map_nil, List.cons_append, List.nil_append, List.append_nil, List.replicate_succ, List.replicate_zero, List.length_cons, List.length_nil, Bop.f, Cop.f, Bi.f, Im.f, wl_some, wj_some, wa_some, wbs_some, add_ii, add_ss, add_rr, sub_ii, mul_ii, mul_si, div_ii, mod_ii, pow_ii, neg_i, eq_ii, ne_ii, eq_ss, ne_ss, lt_ii, le_ii, gt_ii, ge_ii, eq_bb, ne_bb, in_cs, tr_b, tr_i, ix_r, ix_t, ix_f, ix_s, sl_s, sl_r, set_r, len_s, len_r, len_f, len_t, abs_i, max_ii, min_ii, max_r, min_r, int_i, int_b, list_r, sum_r, all_r, isi_ii, isi_ib, isi_ss, aug_ii, aug_sub, sel_app, sel_index, sel_pop, sel_count, sel_join, app_r, count_s, wx_some, idx_r, wT_some, join_r, src_s, src_f, src_t, src_r, if_true, if_false, Bool.not_true, Bool.not_false, Bool.false_eq_true, at_0]
  have d2 : (!decide (((r.length + 1 : Nat) : Int) = 4)) = true := by rw [decide_eq_false (by omega)]; rfl
  by_cases c : s = [117, 110, 101, 118, 101, 110]
  · rw [if_neg (by rw [decide_eq_true c]; decide), if_pos d2, if_pos d2]
    exact h
  · have c' : (!decide (s = [117, 110, 101, 118, 101, 110])) = true := by rw [decide_eq_false c]; rfl
    rw [if_pos c', if_pos c']
    exact h
theorem ip5_four (w : List Nat) (s : List Nat) (a b c : Nat)
    (h : ¬ (s = [117, 110, 101, 118, 101, 110] ∧ a < w.length ∧ b < w.length) → R (.rt (.bl false)) S)
    (h' : s = [117, 110, 101, 118, 101, 110] → a < w.length → b < w.length → R (.nx [some (.str w), some (.tup [.str s, .int a, .int b, .int c]), some (.int w.length), x3, x4, x5, x6, x7]) S) :
    WpS (evS (run ds (k + 2)) ip5 [some (.str w), some (.tup [.str s, .int a, .int b, .int c]), some (.int w.length), x3, x4, x5, x6, x7] S) R := by
  simp only [ip5, we_c, we_v, we_bin, we_neg, we_cmp, we_chn, we_no, we_and, we_or, we_ife, we_tup, we_lst, we_ix, we_sl, we_bi, we_mt, we_call, we_lrg1, we_lrg2, we_lc, ws_nil, ws_cons, wo_nil, wo_cons, wt_nil, wt_cons, wi_rng1, wi_rng2, wi_rng3, wi_of, wi_int, wS_asgN, wS_asgT, wS_asgS, wS_par2, wS_par3, wS_aug, wS_ex, wS_ret, wS_retN, wS_iff, wS_pass, wS_brk, wS_cont, wS_never, wS_nil, wS_cons, wS_for, wS_whl, wF_nx, wF_rt, wF_bk, wF_ct, wv_some, wb_some, wc_some, wm_some, wz_bl, wE_some, wN_some, wo_some, wo_none, wo_ite, List.getElem?_cons_zero, List.getElem?_cons_succ, List.set_cons_zero, List.set_cons_succ, List.map_cons, List.map_nil, List.cons_append, List.nil_append, List.append_nil, List.replicate_succ, List.replicate_zero, List.length_cons, List.length_nil, Bop.f, Cop.f, Bi.f, Im.f, wl_some, wj_some, wa_some, wbs_some, add_ii, add_ss, add_rr, sub_ii, mul_ii, mul_si, div_ii, mod_ii, pow_ii, neg_i, eq_ii, ne_ii, eq_ss, ne_ss, lt_ii, le_ii, gt_ii, ge_ii, eq_bb, ne_bb, in_cs, tr_b, tr_i, ix_r, ix_t, ix_f, ix_s, sl_s, sl_r, set_r, len_s, len_r, len_f, len_t, abs_i, max_ii, min_ii, max_r, min_r, int_i, int_b, list_r, sum_r, all_r, isi_ii, isi_ib, isi_ss, aug_ii, aug_sub, sel_app, sel_index, sel_pop, sel_count, sel_join, app_r, count_s, wx_some, idx_r, wT_some, join_r, src_s, src_f, src_t, src_r, if_true, if_false, Bool.not_true, Bool.not_false, Bool.false_eq_true, at_0, at_1, at_2]
  have d4 : ¬ (!decide (((0 + 1 + 1 + 1 + 1 : Nat) : Int) = 4)) = true := by decide
  by_cases e : s = [117, 110, 101, 118, 101, 110]
  · rw [if_neg (by rw [decide_eq_true e]; decide), if_neg d4, if_pos (decide_eq_true (by omega))]
    by_cases ea : a < w.length
    · rw [if_neg (by rw [decide_eq_true (by omega)]; decide), if_pos (decide_eq_true (by omega))]
      by_cases eb : b < w.length
      · rw [if_neg (by rw [decide_eq_true (by omega)]; decide)]
        exact h' e ea eb
      · rw [if_pos (by rw [decide_eq_false (by omega)]; rfl)]
        exact h fun z => eb z.2.2
    · have ea' : (!decide (((a : Nat) : Int) < (w.length : Nat))) = true := by rw [decide_eq_false (by omega)]; rfl
      rw [if_pos ea', if_pos ea']
      exact h fun z => ea z.2.1
  · have c' : (!decide (s = [117, 110, 101, 118, 101, 110])) = true := by rw [decide_eq_false e]; rfl
    rw [if_pos c', if_pos c']
    exact h fun z => e z.1
theorem cut13 (a b c d : D) : cutL [a, b, c, d] (some 1) (some 3) = [b, c] := by
  rw [show (1 : Int) = ((1 : Nat) : Int) from rfl, show (3 : Int) = ((3 : Nat) : Int) from rfl, cut_nat]; rfl
def cntW (w : List Nat) (a c : Nat) : Int := (((w ++ w).drop a).take c).count 114
theorem ip6_ok (w : List Nat) (s : List Nat) (a b c : Nat) (h2 : w.length ≤ 1000)
    (h : ∀ T, S <+: T → lstAt T S.length = some [.int (cntW w a c), .int (cntW w b c)] → R (.nx [some (.str w), some (.tup [.str s, .int a, .int b, .int c]), some (.int w.length), x3, some (.ref S.length), none, x6, none]) T) :
    WpS (evS (run ds (k + 2)) ip6 [some (.str w), some (.tup [.str s, .int a, .int b, .int c]), some (.int w.length), x3, x4, none, x6, none] S) R := by
  simp only [ip6, we_c, we_v, we_bin, we_neg, we_cmp, we_chn, we_no, we_and, we_or, we_ife, we_tup, we_lst, we_ix, we_sl, we_bi, we_mt, we_call, we_lrg1, we_lrg2, we_lc, ws_nil, ws_cons, wo_nil, wo_cons, wt_nil, wt_cons, wi_rng1, wi_rng2, wi_rng3, wi_of, wi_int, wS_asgN, wS_asgT, wS_asgS, wS_par2, wS_par3, wS_aug, wS_ex, wS_ret, wS_retN, wS_iff, wS_pass, wS_brk, wS_cont, wS_never, wS_nil, wS_cons, wS_for, wS_whl, wF_nx, wF_rt, wF_bk, wF_ct, wv_some, wb_some, wc_some, wm_some, wz_bl, wE_some, wN_some, wo_some, wo_none, wo_ite, List.getElem?_cons_zero, List.getElem?_cons_succ, List.set_cons_zero, List.set_cons_succ, List.map_cons, List.map_nil, List.cons_append, List.nil_append, List.append_nil, List.replicate_succ, List.replicate_zero, List.length_cons, List.length_nil, Bop.f, Cop.f, Bi.f, Im.f, wl_some, wj_some, wa_some, wbs_some, add_ii, add_ss, add_rr, sub_ii, mul_ii, mul_si, div_ii, mod_ii, pow_ii, neg_i, eq_ii, ne_ii, eq_ss, ne_ss, lt_ii, le_ii, gt_ii, ge_ii, eq_bb, ne_bb, in_cs, tr_b, tr_i, ix_r, ix_t, ix_f, ix_s, sl_s, sl_r, set_r, len_s, len_r, len_f, len_t, abs_i, max_ii, min_ii, max_r, min_r, int_i, int_b, list_r, sum_r, all_r, isi_ii, isi_ib, isi_ss, aug_ii, aug_sub, sel_app, sel_index, sel_pop, sel_count, sel_join, app_r, count_s, wx_some, idx_r, wT_some, join_r, src_s, src_f, src_t, src_r, if_true, if_false, Bool.not_true, Bool.not_false, Bool.false_eq_true, sl_t, cut13]
  refine wp_map (onI fun x => .int (cntW w x.toNat c)) (at_items _ _) (line_of (by simp)) (fun d T hd hp => ?_) (fun T hp hl => ?_)
  · have go : ∀ i : Nat, d = .int (i : Nat) → WpE (setT (Tn.nm 7) d (wipeE [some (D.str w), some (D.tup [D.str s, D.int ↑a, D.int ↑b, D.int ↑c]), some (D.int ↑w.length), x3, x4, none, x6, none] [5, 7])) fun e => Wp (evE (run ds (k + 2)) (E.mt Mt.count (E.sl (E.bin Bop.add (E.v 0) (E.v 0)) (Es.cons (E.v 7) Es.nil) (Es.cons (E.bin Bop.add (E.v 7) (E.ix (E.v 1) (E.c (D.int 3)))) Es.nil)) (Es.cons (E.c (D.str [114])) Es.nil)) e T) fun y S2 => y = onI (fun x => D.int (cntW w x.toNat c)) d ∧ T <+: S2 := fun i e => by
      subst e
      simp only [setT, wipeE, we_c, we_v, we_bin, we_neg, we_cmp, we_chn, we_no, we_and, we_or, we_ife, we_tup, we_lst, we_ix, we_sl, we_bi, we_mt, we_call, we_lrg1, we_lrg2, we_lc, ws_nil, ws_cons, wo_nil, wo_cons, wt_nil, wt_cons, wi_rng1, wi_rng2, wi_rng3, wi_of, wi_int, wS_asgN, wS_asgT, wS_asgS, wS_par2, wS_par3, wS_aug, wS_ex, wS_ret, wS_retN, wS_iff, wS_pass, wS_brk, wS_cont, wS_never, wS_nil, wS_cons, wS_for, wS_whl, wF_nx, wF_rt, wF_bk, wF_ct, wv_some, wb_some, wc_some, wm_some, wz_bl, wE_some, wN_some, wo_some, wo_none, wo_ite, List.getElem?_cons_zero, List.getElem?_cons_succ, List.set_cons_zero, List.set_cons_succ, List.map_cons, List.map_nil, List.cons_append, List.nil_append, List.append_nil, List.replicate_succ, List.replicate_zero, List.length_cons, List.length_nil, Bop.f, Cop.f, Bi.f, Im.f, wl_some, wj_some, wa_some, wbs_some, add_ii, add_ss, add_rr, sub_ii, mul_ii, mul_si, div_ii, mod_ii, pow_ii, neg_i, eq_ii, ne_ii, eq_ss, ne_ss, lt_ii, le_ii, gt_ii, ge_ii, eq_bb, ne_bb, in_cs, tr_b, tr_i, ix_r, ix_t, ix_f, ix_s, sl_s, sl_r, set_r, len_s, len_r, len_f, len_t, abs_i, max_ii, min_ii, max_r, min_r, int_i, int_b, list_r, sum_r, all_r, isi_ii, isi_ib, isi_ss, aug_ii, aug_sub, sel_app, sel_index, sel_pop, sel_count, sel_join, app_r, count_s, wx_some, idx_r, wT_some, join_r, src_s, src_f, src_t, src_r, if_true, if_false, Bool.not_true, Bool.not_false, Bool.false_eq_true, at_3]
      rw [if_pos (line_of (by omega)), if_pos (line_of (by rw [List.length_append]; omega)), show ((i : Nat) : Int) + (c : Nat) = ((i + c : Nat) : Int) by omega, cut_nat, show i + c - i = c by omega]
      exact ⟨rfl, List.prefix_refl _⟩
    rcases List.mem_cons.mp hd with e | e
    · exact go a e
    · exact go b (List.mem_singleton.mp e)
  · exact h T hp hl
theorem ip7_ok (w : List Nat) (s : List Nat) (a b c n : Nat) (x y : Int) (hl : lstAt S n = some [.int x, .int y])
    (h : R (.rt (.bl (decide (1 ≤ c ∧ c ≤ w.length) && decide (1 < (if x - y < 0 then -(x - y) else x - y))))) S) :
    WpS (evS (run ds (k + 2)) ip7 [some (.str w), some (.tup [.str s, .int a, .int b, .int c]), some (.int w.length), x3, some (.ref n), x5, x6, x7] S) R := by
  simp only [ip7, we_c, we_v, we_bin, we_neg, we_cmp, we_chn, we_no, we_and, we_or, we_ife, we_tup, we_lst, we_ix, we_sl, we_bi, we_mt, we_call, we_lrg1, we_lrg2, we_lc, ws_nil, ws_cons, wo_nil, wo_cons, wt_nil, wt_cons, wi_rng1, wi_rng2, wi_rng3, wi_of, wi_int, wS_asgN, wS_asgT, wS_asgS, wS_par2, wS_par3, wS_aug, wS_ex, wS_ret, wS_retN, wS_iff, wS_pass, wS_brk, wS_cont, wS_never, wS_nil, wS_cons, wS_for, wS_whl, wF_nx, wF_rt, wF_bk, wF_ct, wv_some, wb_some, wc_some, wm_some, wz_bl, wE_some, wN_some, wo_some, wo_none, wo_ite, List.getElem?_cons_zero, List.getElem?_cons_succ, List.set_cons_zero, List.set_cons_succ, List.map_cons, List.map_nil, List.cons_append, List.nil_append, List.append_nil, List.replicate_succ, List.replicate_zero, List.length_cons, List.length_nil, Bop.f, Cop.f, Bi.f, Im.f, wl_some, wj_some, wa_some, wbs_some, add_ii, add_ss, add_rr, sub_ii, mul_ii, mul_si, div_ii, mod_ii, pow_ii, neg_i, eq_ii, ne_ii, eq_ss, ne_ss, lt_ii, le_ii, gt_ii, ge_ii, eq_bb, ne_bb, in_cs, tr_b, tr_i, ix_r, ix_t, ix_f, ix_s, sl_s, sl_r, set_r, len_s, len_r, len_f, len_t, abs_i, max_ii, min_ii, max_r, min_r, int_i, int_b, list_r, sum_r, all_r, isi_ii, isi_ib, isi_ss, aug_ii, aug_sub, sel_app, sel_index, sel_pop, sel_count, sel_join, app_r, count_s, wx_some, idx_r, wT_some, join_r, src_s, src_f, src_t, src_r, if_true, if_false, Bool.not_true, Bool.not_false, Bool.false_eq_true, at_0, at_1, at_3, hl]
  by_cases c1 : 1 ≤ c
  · rw [if_pos (decide_eq_true (by omega))]
    by_cases c2 : c ≤ w.length
    · rw [if_pos (decide_eq_true (by omega))]
      rw [decide_eq_true ⟨c1, c2⟩, Bool.true_and] at h
      exact h
    · rw [if_neg (by rw [decide_eq_true_eq]; omega), decide_eq_false (by omega)]
      rw [decide_eq_false (fun z => c2 z.2), Bool.false_and] at h
      exact h
  · rw [if_neg (by rw [decide_eq_true_eq]; omega)]
    rw [decide_eq_false (fun z => c1 z.1), Bool.false_and] at h
    exact h
end
section
variable {R : Fl → Mem → Prop}
theorem ip_tail (w : List Nat) (s : List Nat) (r : List D) (h2 : w.length ≤ 1000) (h : ∀ T, S <+: T → R (.rt (.bl (lB w (.tup (.str s :: r))))) T) (hs : okS s) (hr : r.length ≤ 4) (ht : ∀ d ∈ r, tl d = true) (hp : ∃ ps, mapO (toPy S 59) r = some ps) (hf : r.filter (fun d => !isI d) = [] ∨ ∃ d, tl d = true ∧ r.filter (fun d => !isI d) = [d]) (hb : r.filter (fun d => !isI d) ≠ [] → lB w (.tup (.str s :: r)) = false)
    (hn : r.filter (fun d => !isI d) = [] → ∀ T, S <+: T → WpS (evSs (run ds (k + 2)) (.cons ip3 (.cons ip4 (.cons ip5 (.cons ip6 (.cons ip7 .nil))))) [some (.str w), some (.tup (.str s :: r)), some (.int w.length), none, none, none, none, none] T) R) :
    WpS (evSs (run ds (k + 2)) (.cons ip0 (.cons ip1 (.cons ip2 (.cons ip3 (.cons ip4 (.cons ip5 (.cons ip6 (.cons ip7 .nil)))))))) [some (.str w), some (.tup (.str s :: r)), none, none, none, none, none, none] S) R := by
  rw [wS_cons]
  refine ip0_ok w s r hs hp ?_
  rw [wF_nx, wS_cons]
  refine ip1_ok w _ h2 ?_
  rw [wF_nx, wS_cons]
  refine ip2_ok w s r hr ht hf (fun e T hp => ?_) fun e T hp => ?_
  · rw [wF_rt]
    have := h T hp
    rw [hb e] at this
    exact this
  · rw [wF_nx]
    exact hn e T hp
theorem ip0_lst (w : List Nat) (r : Nat) (xs : List D) (hl : lstAt S r = some xs) {x2 x3 x4 x5 x6 x7 : Option D} (h : R (.rt (.bl false)) S) : WpS (evS (run ds (k + 2)) ip0 [some (.str w), some (.ref r), x2, x3, x4, x5, x6, x7] S) R := by
  simp only [ip0, we_c, we_v, we_bin, we_neg, we_cmp, we_chn, we_no, we_and, we_or, we_ife, we_tup, we_lst, we_ix, we_sl, we_bi, we_mt, we_call, we_lrg1, we_lrg2, we_lc, ws_nil, ws_cons, wo_nil, wo_cons, wt_nil, wt_cons, wi_rng1, wi_rng2, wi_rng3, wi_of, wi_int, wS_asgN, wS_asgT, wS_asgS, wS_par2, wS_par3, wS_aug, wS_ex, wS_ret, wS_retN, wS_iff, wS_pass, wS_brk, wS_cont, wS_never, wS_nil, wS_cons, wS_for, wS_whl, wF_nx, wF_rt, wF_bk, wF_ct, wv_some, wb_some, wc_some, wm_some, wz_bl, wE_some, wN_some, wo_some, wo_none, wo_ite, List.getElem?_cons_zero, List.getElem?_cons_succ, List.set_cons_zero, List.set_cons_succ, List.map_cons, List.map_nil, List.cons_append, List.nil_append, List.append_nil, List.replicate_succ, List.replicate_zero, List.length_cons, List.length_nil, Bop.f, Cop.f, Bi.f, Im.f, wl_some, wj_some, wa_some, wbs_some, add_ii, add_ss, add_rr, sub_ii, mul_ii, mul_si, div_ii, mod_ii, pow_ii, neg_i, eq_ii, ne_ii, eq_ss, ne_ss, lt_ii, le_ii, gt_ii, ge_ii, eq_bb, ne_bb, in_cs, tr_b, tr_i, ix_r, ix_t, ix_f, ix_s, sl_s, sl_r, set_r, len_s, len_r, len_f, len_t, abs_i, max_ii, min_ii, max_r, min_r, int_i, int_b, list_r, sum_r, all_r, isi_ii, isi_ib, isi_ss, aug_ii, aug_sub, sel_app, sel_index, sel_pop, sel_count, sel_join, app_r, count_s, wx_some, idx_r, wT_some, join_r, src_s, src_f, src_t, src_r, if_true, if_false, Bool.not_true, Bool.not_false, Bool.false_eq_true, isi_rt hl]
  exact h
theorem ip_lst (w : List Nat) (r : Nat) (xs : List D) (hl : lstAt S r = some xs) (h1 : 1 ≤ w.length) (h2 : w.length ≤ 1000) (h : ∀ T, S <+: T → R (.rt (.bl (lB w (.ref r)))) T) :
    WpS (evSs (run ds (k + 2)) (.cons ip0 (.cons ip1 (.cons ip2 (.cons ip3 (.cons ip4 (.cons ip5 (.cons ip6 (.cons ip7 .nil)))))))) [some (.str w), some (.ref r), none, none, none, none, none, none] S) R := by
  rw [wS_cons]
  refine ip0_lst w r xs hl ?_
  rw [wF_rt]
  exact h S (List.prefix_refl _)
theorem ip0_non (w : List Nat)  {x2 x3 x4 x5 x6 x7 : Option D} (h : R (.rt (.bl false)) S) : WpS (evS (run ds (k + 2)) ip0 [some (.str w), some (.non), x2, x3, x4, x5, x6, x7] S) R := by
  simp only [ip0, we_c, we_v, we_bin, we_neg, we_cmp, we_chn, we_no, we_and, we_or, we_ife, we_tup, we_lst, we_ix, we_sl, we_bi, we_mt, we_call, we_lrg1, we_lrg2, we_lc, ws_nil, ws_cons, wo_nil, wo_cons, wt_nil, wt_cons, wi_rng1, wi_rng2, wi_rng3, wi_of, wi_int, wS_asgN, wS_asgT, wS_asgS, wS_par2, wS_par3, wS_aug, wS_ex, wS_ret, wS_retN, wS_iff, wS_pass, wS_brk, wS_cont, wS_never, wS_nil, wS_cons, wS_for, wS_whl, wF_nx, wF_rt, wF_bk, wF_ct, wv_some, wb_some, wc_some, wm_some, wz_bl, wE_some, wN_some, wo_some, wo_none, wo_ite, List.getElem?_cons_zero, List.getElem?_cons_succ, List.set_cons_zero, List.set_cons_succ, List.map_cons, List.map_nil, List.cons_append, List.nil_append, List.append_nil, List.replicate_succ, List.replicate_zero, List.length_cons, List.length_nil, Bop.f, Cop.f, Bi.f, Im.f, wl_some, wj_some, wa_some, wbs_some, add_ii, add_ss, add_rr, sub_ii, mul_ii, mul_si, div_ii, mod_ii, pow_ii, neg_i, eq_ii, ne_ii, eq_ss, ne_ss, lt_ii, le_ii, gt_ii, ge_ii, eq_bb, ne_bb, in_cs, tr_b, tr_i, ix_r, ix_t, ix_f, ix_s, sl_s, sl_r, set_r, len_s, len_r, len_f, len_t, abs_i, max_ii, min_ii, max_r, min_r, int_i, int_b, list_r, sum_r, all_r, isi_ii, isi_ib, isi_ss, aug_ii, aug_sub, sel_app, sel_index, sel_pop, sel_count, sel_join, app_r, count_s, wx_some, idx_r, wT_some, join_r, src_s, src_f, src_t, src_r, if_true, if_false, Bool.not_true, Bool.not_false, Bool.false_eq_true, isi_nt]
  exact h
theorem ip_non (w : List Nat)  (h1 : 1 ≤ w.length) (h2 : w.length ≤ 1000) (h : ∀ T, S <+: T → R (.rt (.bl (lB w (.non)))) T) :
    WpS (evSs (run ds (k + 2)) (.cons ip0 (.cons ip1 (.cons ip2 (.cons ip3 (.cons ip4 (.cons ip5 (.cons ip6 (.cons ip7 .nil)))))))) [some (.str w), some (.non), none, none, none, none, none, none] S) R := by
  rw [wS_cons]
  refine ip0_non w  ?_
  rw [wF_rt]
  exact h S (List.prefix_refl _)
theorem ip0_txt (w : List Nat) (s : List Nat) {x2 x3 x4 x5 x6 x7 : Option D} (h : R (.rt (.bl false)) S) : WpS (evS (run ds (k + 2)) ip0 [some (.str w), some (.str s), x2, x3, x4, x5, x6, x7] S) R := by
  simp only [ip0, we_c, we_v, we_bin, we_neg, we_cmp, we_chn, we_no, we_and, we_or, we_ife, we_tup, we_lst, we_ix, we_sl, we_bi, we_mt, we_call, we_lrg1, we_lrg2, we_lc, ws_nil, ws_cons, wo_nil, wo_cons, wt_nil, wt_cons, wi_rng1, wi_rng2, wi_rng3, wi_of, wi_int, wS_asgN, wS_asgT, wS_asgS, wS_par2, wS_par3, wS_aug, wS_ex, wS_ret, wS_retN, wS_iff, wS_pass, wS_brk, wS_cont, wS_never, wS_nil, wS_cons, wS_for, wS_whl, wF_nx, wF_rt, wF_bk, wF_ct, wv_some, wb_some, wc_some, wm_some, wz_bl, wE_some, wN_some, wo_some, wo_none, wo_ite, List.getElem?_cons_zero, List.getElem?_cons_succ, List.set_cons_zero, List.set_cons_succ, List.map_cons, List.map_nil, List.cons_append, List.nil_append, List.append_nil, List.replicate_succ, List.replicate_zero, List.length_cons, List.length_nil, Bop.f, Cop.f, Bi.f, Im.f, wl_some, wj_some, wa_some, wbs_some, add_ii, add_ss, add_rr, sub_ii, mul_ii, mul_si, div_ii, mod_ii, pow_ii, neg_i, eq_ii, ne_ii, eq_ss, ne_ss, lt_ii, le_ii, gt_ii, ge_ii, eq_bb, ne_bb, in_cs, tr_b, tr_i, ix_r, ix_t, ix_f, ix_s, sl_s, sl_r, set_r, len_s, len_r, len_f, len_t, abs_i, max_ii, min_ii, max_r, min_r, int_i, int_b, list_r, sum_r, all_r, isi_ii, isi_ib, isi_ss, aug_ii, aug_sub, sel_app, sel_index, sel_pop, sel_count, sel_join, app_r, count_s, wx_some, idx_r, wT_some, join_r, src_s, src_f, src_t, src_r, if_true, if_false, Bool.not_true, Bool.not_false, Bool.false_eq_true, isi_st]
  exact h
theorem ip_txt (w : List Nat) (s : List Nat) (h1 : 1 ≤ w.length) (h2 : w.length ≤ 1000) (h : ∀ T, S <+: T → R (.rt (.bl (lB w (.str s)))) T) :
    WpS (evSs (run ds (k + 2)) (.cons ip0 (.cons ip1 (.cons ip2 (.cons ip3 (.cons ip4 (.cons ip5 (.cons ip6 (.cons ip7 .nil)))))))) [some (.str w), some (.str s), none, none, none, none, none, none] S) R := by
  rw [wS_cons]
  refine ip0_txt w s ?_
  rw [wF_rt]
  exact h S (List.prefix_refl _)
theorem ip0_emp (w : List Nat)  {x2 x3 x4 x5 x6 x7 : Option D} (h : R (.rt (.bl false)) S) : WpS (evS (run ds (k + 2)) ip0 [some (.str w), some (.tup []), x2, x3, x4, x5, x6, x7] S) R := by
  simp only [ip0, we_c, we_v, we_bin, we_neg, we_cmp, we_chn, we_no, we_and, we_or, we_ife, we_tup, we_lst, we_ix, we_sl, we_bi, we_mt, we_call, we_lrg1, we_lrg2, we_lc, ws_nil, ws_cons, wo_nil, wo_cons, wt_nil, wt_cons, wi_rng1, wi_rng2, wi_rng3, wi_of, wi_int, wS_asgN, wS_asgT, wS_asgS, wS_par2, wS_par3, wS_aug, wS_ex, wS_ret, wS_retN, wS_iff, wS_pass, wS_brk, wS_cont, wS_never, wS_nil, wS_cons, wS_for, wS_whl, wF_nx, wF_rt, wF_bk, wF_ct, wv_some, wb_some, wc_some, wm_some, wz_bl, wE_some, wN_some, wo_some, wo_none, wo_ite, List.getElem?_cons_zero, List.getElem?_cons_succ, List.set_cons_zero, List.set_cons_succ, List.map_cons, List.map_nil, List.cons_append, List.nil_append, List.append_nil, List.replicate_succ, List.replicate_zero, List.length_cons, List.length_nil, Bop.f, Cop.f, Bi.f, Im.f, wl_some, wj_some, wa_some, wbs_some, add_ii, add_ss, add_rr, sub_ii, mul_ii, mul_si, div_ii, mod_ii, pow_ii, neg_i, eq_ii, ne_ii, eq_ss, ne_ss, lt_ii, le_ii, gt_ii, ge_ii, eq_bb, ne_bb, in_cs, tr_b, tr_i, ix_r, ix_t, ix_f, ix_s, sl_s, sl_r, set_r, len_s, len_r, len_f, len_t, abs_i, max_ii, min_ii, max_r, min_r, int_i, int_b, list_r, sum_r, all_r, isi_ii, isi_ib, isi_ss, aug_ii, aug_sub, sel_app, sel_index, sel_pop, sel_count, sel_join, app_r, count_s, wx_some, idx_r, wT_some, join_r, src_s, src_f, src_t, src_r, if_true, if_false, Bool.not_true, Bool.not_false, Bool.false_eq_true, isi_tup, eq_emp_0]
  exact ⟨line_of (by decide), h⟩
theorem ip_emp (w : List Nat)  (h1 : 1 ≤ w.length) (h2 : w.length ≤ 1000) (h : ∀ T, S <+: T → R (.rt (.bl (lB w (.tup [])))) T) :
    WpS (evSs (run ds (k + 2)) (.cons ip0 (.cons ip1 (.cons ip2 (.cons ip3 (.cons ip4 (.cons ip5 (.cons ip6 (.cons ip7 .nil)))))))) [some (.str w), some (.tup []), none, none, none, none, none, none] S) R := by
  rw [wS_cons]
  refine ip0_emp w  ?_
  rw [wF_rt]
  exact h S (List.prefix_refl _)
theorem ip_one (w : List Nat) (s : List Nat) (hs : okS s) (h1 : 1 ≤ w.length) (h2 : w.length ≤ 1000) (h : ∀ T, S <+: T → R (.rt (.bl (lB w (.tup [.str s])))) T) :
    WpS (evSs (run ds (k + 2)) (.cons ip0 (.cons ip1 (.cons ip2 (.cons ip3 (.cons ip4 (.cons ip5 (.cons ip6 (.cons ip7 .nil)))))))) [some (.str w), some (.tup [.str s]), none, none, none, none, none, none] S) R := by
  refine ip_tail w s [] h2 h hs (by decide) (by intro d hd; cases hd) ⟨[], rfl⟩ (.inl rfl) (fun z => absurd rfl z) fun _ T hp => ?_
  rw [wS_cons]
  refine ip3_skip w s [] (by decide) ?_
  rw [wF_nx, wS_cons]
  refine ip4_skip w s [] (by decide) ?_
  rw [wF_nx, wS_cons]
  refine ip5_skip w s [] (by decide) ?_
  rw [wF_rt]
  exact h T hp
theorem ip_three (w : List Nat) (s : List Nat) (a b : Int) (hs : okS s) (h1 : 1 ≤ w.length) (h2 : w.length ≤ 1000) (h : ∀ T, S <+: T → R (.rt (.bl (lB w (.tup [.str s, .int a, .int b])))) T) :
    WpS (evSs (run ds (k + 2)) (.cons ip0 (.cons ip1 (.cons ip2 (.cons ip3 (.cons ip4 (.cons ip5 (.cons ip6 (.cons ip7 .nil)))))))) [some (.str w), some (.tup [.str s, .int a, .int b]), none, none, none, none, none, none] S) R := by
  refine ip_tail w s [.int a, .int b] h2 h hs (by simp) (by intro d hd; rcases List.mem_cons.mp hd with e | e; (rw [e]; rfl); rw [List.mem_singleton.mp e]; rfl) ⟨_, rfl⟩ (.inl rfl) (fun z => absurd rfl z) fun _ T hp => ?_
  rw [wS_cons]
  refine ip3_skip w s _ (by simp) ?_
  rw [wF_nx, wS_cons]
  refine ip4_skip w s _ (by simp) ?_
  rw [wF_nx, wS_cons]
  refine ip5_skip w s _ (by simp) ?_
  rw [wF_rt]
  exact h T hp
theorem ip_five (w : List Nat) (s : List Nat) (a b c d : Int) (hs : okS s) (h1 : 1 ≤ w.length) (h2 : w.length ≤ 1000) (h : ∀ T, S <+: T → R (.rt (.bl (lB w (.tup [.str s, .int a, .int b, .int c, .int d])))) T) :
    WpS (evSs (run ds (k + 2)) (.cons ip0 (.cons ip1 (.cons ip2 (.cons ip3 (.cons ip4 (.cons ip5 (.cons ip6 (.cons ip7 .nil)))))))) [some (.str w), some (.tup [.str s, .int a, .int b, .int c, .int d]), none, none, none, none, none, none] S) R := by
  refine ip_tail w s [.int a, .int b, .int c, .int d] h2 h hs (by simp) (by intro d hd; simp only [List.mem_cons, List.not_mem_nil, or_false] at hd; rcases hd with e | e | e | e <;> (rw [e]; rfl)) ⟨_, rfl⟩ (.inl rfl) (fun z => absurd rfl z) fun _ T hp => ?_
  rw [wS_cons]
  refine ip3_skip w s _ (by simp) ?_
  rw [wF_nx, wS_cons]
  refine ip4_skip w s _ (by simp) ?_
  rw [wF_nx, wS_cons]
  refine ip5_skip w s _ (by simp) ?_
  rw [wF_rt]
  exact h T hp
theorem ip_two (w : List Nat) (s : List Nat) (a : D) (hs : okS s) (ha : tl a = true) (h1 : 1 ≤ w.length) (h2 : w.length ≤ 1000) (h : ∀ T, S <+: T → R (.rt (.bl (lB w (.tup [.str s, a])))) T) :
    WpS (evSs (run ds (k + 2)) (.cons ip0 (.cons ip1 (.cons ip2 (.cons ip3 (.cons ip4 (.cons ip5 (.cons ip6 (.cons ip7 .nil)))))))) [some (.str w), some (.tup [.str s, a]), none, none, none, none, none, none] S) R := by
  refine ip_tail w s [a] h2 h hs (by simp) (by intro d hd; rw [List.mem_singleton.mp hd]; exact ha) (tl_py ha) (by cases a <;> first | (cases ha; done) | exact .inl rfl | exact .inr ⟨_, ha, rfl⟩) (by cases a <;> first | (cases ha; done) | exact fun z => absurd rfl z | exact fun _ => rfl) fun e T hp => ?_
  cases a with
  | int i =>
    rw [wS_cons]
    have e0 : lB w (.tup [.str s, .int i]) = (if s = [115, 116, 114, 97, 105, 103, 104, 116] then decide (0 ≤ i ∧ i < (w.length : Nat)) && (straightB w && decide (w.drop i.toNat ++ w.take i.toNat = lowR (w.count 114) (w.count 117)))
      else if s = [97, 103, 97, 105, 110] then decide (0 < i ∧ i < (w.length : Nat)) && (decide (w.length % i.toNat = 0) && decide ((List.replicate (w.length / i.toNat) (w.take i.toNat)).flatten = w)) else false) := rfl
    rw [e0] at h
    refine ip3_two w s i h1 h2 (fun c1 => ?_) (fun c1 T2 hp2 i0 i1 => ?_)
    · rw [wF_nx, wS_cons]
      refine ip4_two w s i h1 h2 (fun c2 => ?_) (fun c2 i0 i1 => ?_)
      · rw [wF_nx, wS_cons]
        refine ip5_skip w s _ (by simp) ?_
        rw [wF_rt]
        have := h T hp
        by_cases q1 : s = [115, 116, 114, 97, 105, 103, 104, 116]
        · rw [if_pos q1, decide_eq_false (fun z => c1 ⟨q1, z⟩), Bool.false_and] at this
          exact this
        · rw [if_neg q1] at this
          by_cases q2 : s = [97, 103, 97, 105, 110]
          · rw [if_pos q2, decide_eq_false (fun z => c2 ⟨q2, z⟩), Bool.false_and] at this
            exact this
          · rw [if_neg q2] at this
            exact this
      · rw [wF_rt]
        have := h T hp
        rw [if_neg (by rw [c2]; decide), if_pos c2, decide_eq_true ⟨i0, i1⟩, Bool.true_and] at this
        exact this
    · rw [wF_rt]
      have := h T2 (hp.trans hp2)
      rw [if_pos c1, decide_eq_true ⟨i0, i1⟩, Bool.true_and] at this
      exact this
  | bl b => cases e
  | non => cases e
  | _ => cases ha
theorem ip_four (w : List Nat) (s : List Nat) (a b c : Nat) (hs : okS s) (h1 : 1 ≤ w.length) (h2 : w.length ≤ 1000) (h : ∀ T, S <+: T → R (.rt (.bl (lB w (.tup [.str s, .int a, .int b, .int c])))) T) :
    WpS (evSs (run ds (k + 2)) (.cons ip0 (.cons ip1 (.cons ip2 (.cons ip3 (.cons ip4 (.cons ip5 (.cons ip6 (.cons ip7 .nil)))))))) [some (.str w), some (.tup [.str s, .int a, .int b, .int c]), none, none, none, none, none, none] S) R := by
  refine ip_tail w s [.int a, .int b, .int c] h2 h hs (by simp) (by intro d hd; simp only [List.mem_cons, List.not_mem_nil, or_false] at hd; rcases hd with e | e | e <;> (rw [e]; rfl)) ⟨_, rfl⟩ (.inl rfl) (fun z => absurd rfl z) fun _ T hp => ?_
  have e0 : lB w (.tup [.str s, .int a, .int b, .int c]) = (decide (s = [117, 110, 101, 118, 101, 110]) && (decide (a < w.length) && (decide (b < w.length) && (decide (1 ≤ c ∧ c ≤ w.length) && decide (1 < (if cntW w a c - cntW w b c < 0 then -(cntW w a c - cntW w b c) else cntW w a c - cntW w b c)))))) := rfl
  rw [e0] at h
  rw [wS_cons]
  refine ip3_skip w s _ (by simp) ?_
  rw [wF_nx, wS_cons]
  refine ip4_skip w s _ (by simp) ?_
  rw [wF_nx, wS_cons]
  refine ip5_four w s a b c (fun c1 => ?_) (fun q1 q2 q3 => ?_)
  · rw [wF_rt]
    have := h T hp
    by_cases q1 : s = [117, 110, 101, 118, 101, 110]
    · by_cases q2 : a < w.length
      · have q3 : ¬ b < w.length := fun z => c1 ⟨q1, q2, z⟩
        rw [decide_eq_false q3, Bool.false_and, Bool.and_false, Bool.and_false] at this
        exact this
      · rw [decide_eq_false q2, Bool.false_and, Bool.and_false] at this
        exact this
    · rw [decide_eq_false q1, Bool.false_and] at this
      exact this
  · rw [wF_nx, wS_cons]
    refine ip6_ok w s a b c h2 fun T2 hp2 hl => ?_
    rw [wF_nx, wS_cons]
    refine ip7_ok w s a b c _ _ _ hl ?_
    rw [wF_rt]
    have := h T2 (hp.trans hp2)
    rw [decide_eq_true q1, decide_eq_true q2, decide_eq_true q3, Bool.true_and, Bool.true_and, Bool.true_and] at this
    exact this
end
theorem law_is_paper_ok (w : List Nat) (d : D) (h1 : 1 ≤ w.length) (h2 : w.length ≤ 1000) (hd : Near S d) (h : ∀ T, S <+: T → Q (.bl (lB w d)) T) : Wp (run ds (k + 3) 29 [.str w, d] S) Q := by
  refine wp_run (d := d29) rfl rfl ?_
  rw [ipbody]
  cases hd with
  | lst r xs hl => exact ip_lst w r xs hl h1 h2 h
  | non => exact ip_non w  h1 h2 h
  | txt s => exact ip_txt w s h1 h2 h
  | emp => exact ip_emp w  h1 h2 h
  | one s hs => exact ip_one w s hs h1 h2 h
  | three s a b hs => exact ip_three w s a b hs h1 h2 h
  | five s a b c d hs => exact ip_five w s a b c d hs h1 h2 h
  | two s a hs ha => exact ip_two w s a hs ha h1 h2 h
  | four s a b c hs => exact ip_four w s a b c hs h1 h2 h
end K86

set_option Elab.async false
set_option linter.all false
set_option maxRecDepth 100000
set_option maxHeartbeats 1000000
namespace K86
open Mi Lw
theorem ru_count {w : List Nat} (h : Ru w) : w.count 117 = w.length - w.count 114 := by
  induction w with
  | nil => rfl
  | cons c r ih =>
    have ih' := ih fun x hx => h x (List.mem_cons_of_mem _ hx)
    have hl := List.count_le_length (a := 114) (l := r)
    rcases h c List.mem_cons_self with e | e <;> subst e <;> simp [List.count_cons, ih'] <;> omega
theorem turn_eq {w : List Nat} {a : Nat} (h : a ≤ w.length) : ((w ++ w).drop a).take w.length = w.drop a ++ w.take a := by
  rw [List.drop_append_of_le_length h, List.take_append, List.length_drop, List.take_of_length_le (by rw [List.length_drop]; omega), show w.length - (w.length - a) = a by omega]
theorem lowOf_eq {w : List Nat} (h : 1 ≤ w.length) : lowOf w = lowR (w.count 114) (w.length - w.count 114) := low_eq (by have := List.count_le_length (a := 114) (l := w); omega)
theorem first_iff {w : List Nat} (h : 1 ≤ w.length) (hr : Ru w) : (firstO w).isSome = straightB w := by
  apply Bool.eq_iff_iff.mpr
  rw [straight_iff h hr]
  unfold firstO Str1
  by_cases g : Nat.gcd (w.count 114) (w.length - w.count 114) = 1
  · rw [if_pos g, List.find?_isSome]
    constructor
    · rintro ⟨a, ha, e⟩
      exact ⟨g, a, List.mem_range.mp ha, by rw [lowOf_eq h]; exact of_decide_eq_true e⟩
    · rintro ⟨_, a, ha, e⟩
      rw [lowOf_eq h] at e
      exact ⟨a, List.mem_range.mpr ha, decide_eq_true e⟩
  · rw [if_neg g]
    constructor
    · intro z; cases z
    · rintro ⟨z, _⟩; exact absurd z g
theorem wg_eq (w : List Nat) (s n : Nat) : wG w s n = winsB w n s := List.map_congr_left fun a _ => win_eq w a s
theorem no_paper {w : List Nat} (h : 1 ≤ w.length) (hr : Ru w) (h1 : firstO w = none) (h2 : partO w = none) : ¬ evenTo w w.length := by
  intro he
  have hs : straightB w = true := by
    unfold straightB
    rw [Bool.and_eq_true]
    constructor
    · unfold evenR
      refine all_upto fun i hi => decide_eq_true ?_
      have := he (i + 1) (by omega) (by omega)
      rw [wg_eq] at this
      omega
    · refine decide_eq_true ((parts_head h).mpr fun s s1 s2 e => ?_)
      unfold partO at h2
      rw [List.find?_eq_none] at h2
      refine h2 s (List.mem_map.mpr ⟨s - 1, List.mem_range.mpr (by omega), by omega⟩) (decide_eq_true ⟨?_, e.symm⟩)
      have hl := congrArg List.length e
      rw [List.length_flatten, List.map_replicate, List.sum_replicate_nat, List.length_take, Nat.min_eq_left (by omega)] at hl
      rw [← hl, Nat.mul_mod_left]
  rw [← first_iff h hr, h1] at hs
  cases hs
theorem two_eq {w : List Nat} (h : 1 ≤ w.length) (hr : Ru w) (s : List Nat) (a : D) : jB w (.tup [.str s, a]) = lB w (.tup [.str s, a]) := by
  have e0 : jB w (.tup [.str s, a]) = if s = [97, 103, 97, 105, 110] then againB w a else decide (s = [115, 116, 114, 97, 105, 103, 104, 116]) && lowFromB w a := rfl
  rw [e0]
  cases a with
  | int i =>
    have e1 : lB w (.tup [.str s, .int i]) = (if s = [115, 116, 114, 97, 105, 103, 104, 116] then decide (0 ≤ i ∧ i < (w.length : Nat)) && (straightB w && decide (w.drop i.toNat ++ w.take i.toNat = lowR (w.count 114) (w.count 117)))
        else if s = [97, 103, 97, 105, 110] then decide (0 < i ∧ i < (w.length : Nat)) && (decide (w.length % i.toNat = 0) && decide ((List.replicate (w.length / i.toNat) (w.take i.toNat)).flatten = w)) else false) := rfl
    rw [e1]
    by_cases c1 : s = [97, 103, 97, 105, 110]
    · rw [if_pos c1, if_neg (by rw [c1]; decide), if_pos c1]
      have e2 : againB w (.int i) = (decide (0 ≤ i ∧ i < (w.length : Nat)) && decide (i.toNat ≠ 0 ∧ w.length % i.toNat = 0 ∧ w = (List.replicate (w.length / i.toNat) (w.take i.toNat)).flatten)) := rfl
      rw [e2]
      apply Bool.eq_iff_iff.mpr
      simp only [Bool.and_eq_true, decide_eq_true_eq]
      constructor
      · rintro ⟨⟨a1, a2⟩, a3, a4, a5⟩
        exact ⟨⟨by omega, a2⟩, a4, a5.symm⟩
      · rintro ⟨⟨a1, a2⟩, a4, a5⟩
        exact ⟨⟨by omega, a2⟩, by omega, a4, a5.symm⟩
    · rw [if_neg c1]
      by_cases c2 : s = [115, 116, 114, 97, 105, 103, 104, 116]
      · rw [if_pos c2, decide_eq_true c2, Bool.true_and]
        have e2 : lowFromB w (.int i) = (decide (0 ≤ i ∧ i < (w.length : Nat)) && decide (Nat.gcd (w.count 114) (w.length - w.count 114) = 1 ∧ w.drop i.toNat ++ w.take i.toNat = lowR (w.count 114) (w.length - w.count 114))) := rfl
        rw [e2, ru_count hr]
        apply Bool.eq_iff_iff.mpr
        simp only [Bool.and_eq_true, decide_eq_true_eq]
        constructor
        · rintro ⟨⟨a1, a2⟩, a3, a4⟩
          refine ⟨⟨a1, a2⟩, (straight_iff h hr).mpr ⟨a3, i.toNat, by omega, ?_⟩, a4⟩
          rw [turn_eq (by omega), a4, lowOf_eq h]
        · rintro ⟨⟨a1, a2⟩, a3, a4⟩
          exact ⟨⟨a1, a2⟩, ((straight_iff h hr).mp a3).1, a4⟩
      · rw [decide_eq_false c2, if_neg c2, if_neg c1, Bool.false_and]
  | _ =>
    show _ = false
    split
    · rfl
    · exact Bool.and_false _
theorem four_eq {w : List Nat} (s : List Nat) (a b c : Nat) : jB w (.tup [.str s, .int a, .int b, .int c]) = lB w (.tup [.str s, .int a, .int b, .int c]) := by
  have e0 : jB w (.tup [.str s, .int a, .int b, .int c]) = (decide (s = [117, 110, 101, 118, 101, 110]) && (decide ((0 : Int) ≤ a ∧ (a : Int) < (w.length : Nat)) && (decide ((0 : Int) ≤ b ∧ (b : Int) < (w.length : Nat)) && (decide ((0 : Int) ≤ c ∧ (c : Int) < (w.length : Nat) + 1) && decide (c ≠ 0 ∧ 1 < (if pre (w ++ w) (a + c) - pre (w ++ w) a - pre (w ++ w) (b + c) + pre (w ++ w) b < 0 then -(pre (w ++ w) (a + c) - pre (w ++ w) a - pre (w ++ w) (b + c) + pre (w ++ w) b) else pre (w ++ w) (a + c) - pre (w ++ w) a - pre (w ++ w) (b + c) + pre (w ++ w) b)))))) := rfl
  have e1 : lB w (.tup [.str s, .int a, .int b, .int c]) = (decide (s = [117, 110, 101, 118, 101, 110]) && (decide (a < w.length) && (decide (b < w.length) && (decide (1 ≤ c ∧ c ≤ w.length) && decide (1 < (if cntW w a c - cntW w b c < 0 then -(cntW w a c - cntW w b c) else cntW w a c - cntW w b c)))))) := rfl
  rw [e0, e1]
  have e2 : cntW w a c - cntW w b c = pre (w ++ w) (a + c) - pre (w ++ w) a - pre (w ++ w) (b + c) + pre (w ++ w) b := by
    unfold cntW
    rw [← win_eq, ← win_eq]
    omega
  rw [e2]
  generalize pre (w ++ w) (a + c) - pre (w ++ w) a - pre (w ++ w) (b + c) + pre (w ++ w) b = x
  generalize (if x < 0 then -x else x) = y
  apply Bool.eq_iff_iff.mpr
  simp only [Bool.and_eq_true, decide_eq_true_eq]
  constructor
  · rintro ⟨a0, a1, a2, a3, a4, a5⟩
    exact ⟨a0, by omega, by omega, ⟨by omega, by omega⟩, a5⟩
  · rintro ⟨a0, a1, a2, a3, a5⟩
    exact ⟨a0, ⟨by omega, by omega⟩, ⟨by omega, by omega⟩, ⟨by omega, by omega⟩, by omega, a5⟩
theorem near_eq {S : Mem} {w : List Nat} (h : 1 ≤ w.length) (hr : Ru w) {d : D} (hd : Near S d) : jB w d = lB w d := by
  cases hd with
  | two s a hs ha => exact two_eq h hr s a
  | four s a b c hs => exact four_eq s a b c
  | _ => rfl
/-- a paper is right, and tells the truth -/
theorem paper_right {w : List Nat} (h : 1 ≤ w.length) (hr : Ru w) {d : D} (hd : Paper w d) : lB w d = true ∧ ∃ s r, d = .tup (.str s :: r) ∧ okS s ∧ decide (s = [115, 116, 114, 97, 105, 103, 104, 116]) = straightB w := by
  cases hd with
  | straight a e =>
    have hs : straightB w = true := by rw [← first_iff h hr, e]; rfl
    refine ⟨?_, _, _, rfl, .inl rfl, by rw [hs]; rfl⟩
    rw [← two_eq h hr]
    unfold firstO at e
    by_cases g : Nat.gcd (w.count 114) (w.length - w.count 114) = 1
    · rw [if_pos g] at e
      have h0 := List.find?_some e
      have h1 := of_decide_eq_true h0
      have h2 := List.mem_range.mp (List.mem_of_find?_eq_some e)
      rw [turn_eq (by omega)] at h1
      have e0 : jB w (.tup [.str [115, 116, 114, 97, 105, 103, 104, 116], .int a]) = (true && (decide ((0 : Int) ≤ a ∧ (a : Int) < (w.length : Nat)) && decide (Nat.gcd (w.count 114) (w.length - w.count 114) = 1 ∧ w.drop a ++ w.take a = lowR (w.count 114) (w.length - w.count 114)))) := rfl
      rw [e0, decide_eq_true ⟨by omega, by omega⟩, decide_eq_true ⟨g, h1⟩]
      rfl
    · rw [if_neg g] at e; cases e
  | again s e1 e2 =>
    have hs : straightB w = false := by rw [← first_iff h hr, e1]; rfl
    refine ⟨?_, _, _, rfl, .inr (.inl rfl), by rw [hs]; rfl⟩
    unfold partO at e2
    have h0 := List.find?_some e2
    have h1 := of_decide_eq_true h0
    obtain ⟨j, hj, rfl⟩ := List.mem_map.mp (List.mem_of_find?_eq_some e2)
    have hj' := List.mem_range.mp hj
    have e0 : lB w (.tup [.str [97, 103, 97, 105, 110], .int ((j + 1 : Nat) : Int)]) = (decide ((0 : Int) < ((j + 1 : Nat) : Int) ∧ ((j + 1 : Nat) : Int) < (w.length : Nat)) && (decide (w.length % (j + 1) = 0) && decide ((List.replicate (w.length / (j + 1)) (w.take (j + 1))).flatten = w))) := rfl
    rw [e0, decide_eq_true ⟨by omega, by omega⟩, decide_eq_true h1.1, decide_eq_true h1.2.symm]
    rfl
  | uneven i j s e1 e2 hi hj s1 s2 hd =>
    have hs : straightB w = false := by rw [← first_iff h hr, e1]; rfl
    refine ⟨?_, _, _, rfl, .inr (.inr (.inl rfl)), by rw [hs]; rfl⟩
    have e1 : lB w (.tup [.str [117, 110, 101, 118, 101, 110], .int i, .int j, .int s]) = (true && (decide (i < w.length) && (decide (j < w.length) && (decide (1 ≤ s ∧ s ≤ w.length) && decide (1 < (if cntW w i s - cntW w j s < 0 then -(cntW w i s - cntW w j s) else cntW w i s - cntW w j s)))))) := rfl
    rw [e1, decide_eq_true hi, decide_eq_true hj, decide_eq_true ⟨s1, s2⟩]
    have e2 : cntW w i s - cntW w j s < -1 := by
      unfold cntW
      rw [← win_eq, ← win_eq]
      omega
    rw [if_pos (by omega), decide_eq_true (by omega)]
    rfl
end K86

set_option Elab.async false
set_option linter.all false
set_option maxRecDepth 100000
set_option maxHeartbeats 1000000
namespace K86
open Mi Lw
variable {k : Nat} {S : Mem} {Q : D → Mem → Prop}
theorem add_tt (x y : List D) : WpO (fAdd (.tup x) (.tup y) S) Q = if x.length + y.length ≤ line then Q (.tup (x ++ y)) S else False := by
  show WpO (if x.length + y.length ≤ line then some (.tup (x ++ y), S) else none) Q = _
  rw [wo_ite]; rfl
theorem list_t (xs : List D) : WpO (fList [.tup xs] S) Q = Q (.ref S.length) (S ++ [.lst xs]) := rfl
theorem gr_new {n : Nat} {S T : Mem} (g : Gr n S T) (c : Cell) : Gr n S (T ++ [c]) := g.pre (List.prefix_append _ _)
section
variable {R : Fl → Mem → Prop} {x0 x1 x2 x3 x4 x5 x6 x7 : Option D}
def nr0 : Sm := (.asg (.n (.nm 3)) (.bi .len (.cons (.v 1) .nil)))
def nr1 : Sm := (.asg (.n (.nm 4)) (.tup (.cons (.c (.str [117, 110, 101, 118, 101, 110])) (.cons (.call 19 (.cons (.v 0) (.cons (.v 3) .nil))) (.cons (.call 19 (.cons (.v 0) (.cons (.v 3) .nil))) (.cons (.bin .add (.c (.int 1)) (.call 19 (.cons (.v 0) (.cons (.v 3) .nil)))) .nil))))))
def nr2 : Sm := (.asg (.n (.nm 5)) (.lst (.cons (.v 2) (.cons (.bi .list (.cons (.v 2) .nil)) (.cons (.sl (.v 2) .nil (.cons (.c (.int 1)) .nil)) (.cons (.bin .add (.v 2) (.tup (.cons (.c (.int 0)) .nil))) (.cons (.c .non) (.cons (.tup .nil) (.cons (.v 4) (.cons (.tup (.cons (.c (.str [115, 116, 114, 97, 105, 103, 104, 116])) (.cons (.call 19 (.cons (.v 0) (.cons (.v 3) .nil))) .nil))) .nil))))))))))
def nr3 : Sm := (.asg (.n (.nm 5)) (.bin .add (.v 5) (.lc (.nm 7) (.of (.tup (.cons (.c (.int 0)) (.cons (.c (.int 1)) (.cons (.c (.int 2)) (.cons (.c (.int 3)) (.cons (.v 3) (.cons (.c (.bl true)) (.cons (.c .non) .nil))))))))) .nil (.tup (.cons (.c (.str [97, 103, 97, 105, 110])) (.cons (.v 7) .nil))) [6, 7])))
def nr4 : Sm := (.asg (.n (.nm 5)) (.bin .add (.v 5) (.lst (.cons (.tup (.cons (.c (.str [115, 116, 114, 97, 105, 103, 104, 116])) (.cons (.v 3) .nil))) (.cons (.tup (.cons (.c (.str [115, 116, 114, 97, 105, 103, 104, 116])) (.cons (.neg (.c (.int 1))) .nil))) (.cons (.tup (.cons (.c (.str [115, 116, 114, 97, 105, 103, 104, 116])) (.cons (.c (.bl false)) .nil))) .nil))))))
def nr5 : Sm := (.ret (.bin .add (.v 5) (.lst (.cons (.tup (.cons (.c (.str [117, 110, 101, 118, 101, 110])) (.cons (.c (.int 0)) (.cons (.c (.int 1)) (.cons (.c (.int 0)) .nil))))) (.cons (.c (.str [115, 116, 114, 97, 105, 103, 104, 116])) (.cons (.tup (.cons (.c (.str [101, 118, 101, 110])) (.cons (.c (.int 0)) .nil))) .nil))))))
theorem nrbody : d30.body = (.cons nr0 (.cons nr1 (.cons nr2 (.cons nr3 (.cons nr4 (.cons nr5 .nil)))))) := rfl

theorem nr0_ok (w : List Nat) (h2 : w.length ≤ 1000) (h : R (.nx [x0, some (.str w), x2, some (.int w.length), x4, x5, x6, x7]) S) : WpS (evS (run ds (k + 1)) nr0 [x0, some (.str w), x2, x3, x4, x5, x6, x7] S) R := by
  simp only [nr0, we_c, we_v, we_bin, we_neg, we_cmp, we_chn, we_no, we_and, we_or, we_ife, we_tup, we_lst, we_ix, we_sl, we_bi, we_mt, we_call, we_lrg1, we_lrg2, we_lc, ws_nil, ws_cons, wo_nil, wo_cons, wt_nil, wt_cons, wi_rng1, wi_rng2, wi_rng3, wi_of, wi_int, wS_asgN, wS_asgT, wS_asgS, wS_par2, wS_par3, wS_aug, wS_ex, wS_ret, wS_retN, wS_iff, wS_pass, wS_brk, wS_cont, wS_never, wS_nil, wS_cons, wS_for, wS_whl, wF_nx, wF_rt, wF_bk, wF_ct, wv_some, wb_some, wc_some, wm_some, wz_bl, wE_some, wN_some, wo_some, wo_none, wo_ite, List.getElem?_cons_zero, List.getElem?_cons_succ, List.set_cons_zero, List.set_cons_succ, List.map_cons, List.map_nil, List.cons_append, List.nil_append, List.append_nil, List.replicate_succ, List.replicate_zero, List.length_cons, List.length_nil, Bop.f, Cop.f, Bi.f, Im.f, wl_some, wj_some, wa_some, wbs_some, add_ii, add_ss, add_rr, sub_ii, mul_ii, mul_si, div_ii, mod_ii, pow_ii, neg_i, eq_ii, ne_ii, eq_ss, ne_ss, lt_ii, le_ii, gt_ii, ge_ii, eq_bb, ne_bb, in_cs, tr_b, tr_i, ix_r, ix_t, ix_f, ix_s, sl_s, sl_r, set_r, len_s, len_r, len_f, len_t, abs_i, max_ii, min_ii, max_r, min_r, int_i, int_b, list_r, sum_r, all_r, isi_ii, isi_ib, isi_ss, aug_ii, aug_sub, sel_app, sel_index, sel_pop, sel_count, sel_join, app_r, count_s, wx_some, idx_r, wT_some, join_r, src_s, src_f, src_t, src_r, if_true, if_false, Bool.not_true, Bool.not_false, Bool.false_eq_true]
  rw [if_pos (line_of (by omega))]
  exact h
theorem nr1_ok (n : Nat) (l : Nat) (h1 : 1 ≤ l) (h2 : l ≤ 1000) (hd : Die S n) (h : ∀ (a b c : Nat) T, Gr n S T → R (.nx [some (.ref n), x1, x2, some (.int l), some (.tup [.str [117, 110, 101, 118, 101, 110], .int a, .int b, .int c]), x5, x6, x7]) T) :
    WpS (evS (run ds (k + 1)) nr1 [some (.ref n), x1, x2, some (.int l), x4, x5, x6, x7] S) R := by
  simp only [nr1, we_c, we_v, we_bin, we_neg, we_cmp, we_chn, we_no, we_and, we_or, we_ife, we_tup, we_lst, we_ix, we_sl, we_bi, we_mt, we_call, we_lrg1, we_lrg2, we_lc, ws_nil, ws_cons, wo_nil, wo_cons, wt_nil, wt_cons, wi_rng1, wi_rng2, wi_rng3, wi_of, wi_int, wS_asgN, wS_asgT, wS_asgS, wS_par2, wS_par3, wS_aug, wS_ex, wS_ret, wS_retN, wS_iff, wS_pass, wS_brk, wS_cont, wS_never, wS_nil, wS_cons, wS_for, wS_whl, wF_nx, wF_rt, wF_bk, wF_ct, wv_some, wb_some, wc_some, wm_some, wz_bl, wE_some, wN_some, wo_some, wo_none, wo_ite, List.getElem?_cons_zero, List.getElem?_cons_succ, List.set_cons_zero, List.set_cons_succ, List.map_cons, List.map_nil, List.cons_append, List.nil_append, List.append_nil, List.replicate_succ, List.replicate_zero, List.length_cons, List.length_nil, Bop.f, Cop.f, Bi.f, Im.f, wl_some, wj_some, wa_some, wbs_some, add_ii, add_ss, add_rr, sub_ii, mul_ii, mul_si, div_ii, mod_ii, pow_ii, neg_i, eq_ii, ne_ii, eq_ss, ne_ss, lt_ii, le_ii, gt_ii, ge_ii, eq_bb, ne_bb, in_cs, tr_b, tr_i, ix_r, ix_t, ix_f, ix_s, sl_s, sl_r, set_r, len_s, len_r, len_f, len_t, abs_i, max_ii, min_ii, max_r, min_r, int_i, int_b, list_r, sum_r, all_r, isi_ii, isi_ib, isi_ss, aug_ii, aug_sub, sel_app, sel_index, sel_pop, sel_count, sel_join, app_r, count_s, wx_some, idx_r, wT_some, join_r, src_s, src_f, src_t, src_r, if_true, if_false, Bool.not_true, Bool.not_false, Bool.false_eq_true]
  refine roll_ok n _ hd (by omega) (by omega) fun a T a0 a1 r1 => ?_
  refine roll_ok n _ r1.die (by omega) (by omega) fun b T2 b0 b1 r2 => ?_
  refine roll_ok n _ r2.die (by omega) (by omega) fun c T3 c0 c1 r3 => ?_
  obtain ⟨a, rfl⟩ : ∃ x : Nat, a = x := ⟨a.toNat, by omega⟩
  obtain ⟨b, rfl⟩ : ∃ x : Nat, b = x := ⟨b.toNat, by omega⟩
  obtain ⟨c, rfl⟩ : ∃ x : Nat, c = x := ⟨c.toNat, by omega⟩
  simp only [we_c, we_v, we_bin, we_neg, we_cmp, we_chn, we_no, we_and, we_or, we_ife, we_tup, we_lst, we_ix, we_sl, we_bi, we_mt, we_call, we_lrg1, we_lrg2, we_lc, ws_nil, ws_cons, wo_nil, wo_cons, wt_nil, wt_cons, wi_rng1, wi_rng2, wi_rng3, wi_of, wi_int, wS_asgN, wS_asgT, wS_asgS, wS_par2, wS_par3, wS_aug, wS_ex, wS_ret, wS_retN, wS_iff, wS_pass, wS_brk, wS_cont, wS_never, wS_nil, wS_cons, wS_for, wS_whl, wF_nx, wF_rt, wF_bk, wF_ct, wv_some, wb_some, wc_some, wm_some, wz_bl, wE_some, wN_some, wo_some, wo_none, wo_ite, List.getElem?_cons_zero, List.getElem?_cons_succ, List.set_cons_zero, List.set_cons_succ, List.map_cons, List.map_nil, List.cons_append, List.nil_append, List.append_nil, List.replicate_succ, List.replicate_zero, List.length_cons, List.length_nil, Bop.f, Cop.f, Bi.f, Im.f, wl_some, wj_some, wa_some, wbs_some, add_ii, add_ss, add_rr, sub_ii, mul_ii, mul_si, div_ii, mod_ii, pow_ii, neg_i, eq_ii, ne_ii, eq_ss, ne_ss, lt_ii, le_ii, gt_ii, ge_ii, eq_bb, ne_bb, in_cs, tr_b, tr_i, ix_r, ix_t, ix_f, ix_s, sl_s, sl_r, set_r, len_s, len_r, len_f, len_t, abs_i, max_ii, min_ii, max_r, min_r, int_i, int_b, list_r, sum_r, all_r, isi_ii, isi_ib, isi_ss, aug_ii, aug_sub, sel_app, sel_index, sel_pop, sel_count, sel_join, app_r, count_s, wx_some, idx_r, wT_some, join_r, src_s, src_f, src_t, src_r, if_true, if_false, Bool.not_true, Bool.not_false, Bool.false_eq_true]
  rw [show (1 : Int) + (c : Nat) = ((c + 1 : Nat) : Int) by omega]
  exact ⟨line_of (by decide), h a b (c + 1) T3 ((((Gr.refl hd).roll r1).roll r2).roll r3)⟩
theorem nr2_ok (n : Nat) (l : Nat) (h1 : 1 ≤ l) (h2 : l ≤ 1000) (hd : Die S n) (xs : List D) (dr : D) (hx : xs.length ≤ 4) (h : ∀ (a : Nat) T r, Gr n S T → r ≠ n → S.length ≤ r → lstAt T r = some [.tup xs, .ref S.length, .tup (xs.take 1), .tup (xs ++ [.int 0]), .non, .tup [], dr, .tup [.str [115, 116, 114, 97, 105, 103, 104, 116], .int a]] → lstAt T S.length = some xs → R (.nx [some (.ref n), x1, some (.tup xs), some (.int l), some dr, some (.ref r), x6, x7]) T) :
    WpS (evS (run ds (k + 1)) nr2 [some (.ref n), x1, some (.tup xs), some (.int l), some dr, x5, x6, x7] S) R := by
  simp only [nr2, we_c, we_v, we_bin, we_neg, we_cmp, we_chn, we_no, we_and, we_or, we_ife, we_tup, we_lst, we_ix, we_sl, we_bi, we_mt, we_call, we_lrg1, we_lrg2, we_lc, ws_nil, ws_cons, wo_nil, wo_cons, wt_nil, wt_cons, wi_rng1, wi_rng2, wi_rng3, wi_of, wi_int, wS_asgN, wS_asgT, wS_asgS, wS_par2, wS_par3, wS_aug, wS_ex, wS_ret, wS_retN, wS_iff, wS_pass, wS_brk, wS_cont, wS_never, wS_nil, wS_cons, wS_for, wS_whl, wF_nx, wF_rt, wF_bk, wF_ct, wv_some, wb_some, wc_some, wm_some, wz_bl, wE_some, wN_some, wo_some, wo_none, wo_ite, List.getElem?_cons_zero, List.getElem?_cons_succ, List.set_cons_zero, List.set_cons_succ, List.map_cons, List.map_nil, List.cons_append, List.nil_append, List.append_nil, List.replicate_succ, List.replicate_zero, List.length_cons, List.length_nil, Bop.f, Cop.f, Bi.f, Im.f, wl_some, wj_some, wa_some, wbs_some, add_ii, add_ss, add_rr, sub_ii, mul_ii, mul_si, div_ii, mod_ii, pow_ii, neg_i, eq_ii, ne_ii, eq_ss, ne_ss, lt_ii, le_ii, gt_ii, ge_ii, eq_bb, ne_bb, in_cs, tr_b, tr_i, ix_r, ix_t, ix_f, ix_s, sl_s, sl_r, set_r, len_s, len_r, len_f, len_t, abs_i, max_ii, min_ii, max_r, min_r, int_i, int_b, list_r, sum_r, all_r, isi_ii, isi_ib, isi_ss, aug_ii, aug_sub, sel_app, sel_index, sel_pop, sel_count, sel_join, app_r, count_s, wx_some, idx_r, wT_some, join_r, src_s, src_f, src_t, src_r, if_true, if_false, Bool.not_true, Bool.not_false, Bool.false_eq_true, list_t, sl_t, add_tt]
  have hn := die_lt hd
  rw [show (1 : Int) = ((1 : Nat) : Int) from rfl, cut_to]
  refine ⟨line_of (by decide), ?_⟩
  rw [if_pos (line_of (by omega))]
  refine ⟨line_of (by decide), ?_⟩
  have g0 := gr_new (Gr.refl hd) (.lst xs)
  refine roll_ok n _ g0.die (by omega) (by omega) fun a T a0 a1 r1 => ?_
  obtain ⟨a, rfl⟩ : ∃ x : Nat, a = x := ⟨a.toNat, by omega⟩
  have g1 := g0.roll r1
  have hl : lstAt T S.length = some xs := r1.lst (by omega) (lst_new _ _)
  refine ⟨line_of (by decide), line_of (by decide), ?_⟩
  have hT : T.length = S.length + 1 := by rw [r1.len, List.length_append]; rfl
  exact h a _ T.length (gr_new g1 _) (by omega) (by omega) (lst_new _ _) (lst_pre (List.prefix_append _ _) hl)
theorem nr3_ok (n : Nat) (l : Nat) (h2 : l ≤ 1000) (r : Nat) (L : List D) (hd : Die S n) (hl : lstAt S r = some L) (hL : L.length ≤ 100) (h : ∀ T r2, S <+: T → lstAt T r2 = some (L ++ [.tup [.str [97, 103, 97, 105, 110], .int 0], .tup [.str [97, 103, 97, 105, 110], .int 1], .tup [.str [97, 103, 97, 105, 110], .int 2], .tup [.str [97, 103, 97, 105, 110], .int 3], .tup [.str [97, 103, 97, 105, 110], .int l], .tup [.str [97, 103, 97, 105, 110], .bl true], .tup [.str [97, 103, 97, 105, 110], .non]]) → R (.nx [x0, x1, x2, some (.int l), x4, some (.ref r2), none, none]) T) :
    WpS (evS (run ds (k + 1)) nr3 [x0, x1, x2, some (.int l), x4, some (.ref r), none, none] S) R := by
  simp only [nr3, we_c, we_v, we_bin, we_neg, we_cmp, we_chn, we_no, we_and, we_or, we_ife, we_tup, we_lst, we_ix, we_sl, we_bi, we_mt, we_call, we_lrg1, we_lrg2, we_lc, ws_nil, ws_cons, wo_nil, wo_cons, wt_nil, wt_cons, wi_rng1, wi_rng2, wi_rng3, wi_of, wi_int, wS_asgN, wS_asgT, wS_asgS, wS_par2, wS_par3, wS_aug, wS_ex, wS_ret, wS_retN, wS_iff, wS_pass, wS_brk, wS_cont, wS_never, wS_nil, wS_cons, wS_for, wS_whl, wF_nx, wF_rt, wF_bk, wF_ct, wv_some, wb_some, wc_some, wm_some, wz_bl, wE_some, wN_some, wo_some, wo_none, wo_ite, List.getElem?_cons_zero, List.getElem?_cons_succ, List.set_cons_zero, List.set_cons_succ, List.map_cons, List.map_nil, List.cons_append, List.nil_append, List.append_nil, List.replicate_succ, List.replicate_zero, List.length_cons, List.length_nil, Bop.f, Cop.f, Bi.f, Im.f, wl_some, wj_some, wa_some, wbs_some, add_ii, add_ss, add_rr, sub_ii, mul_ii, mul_si, div_ii, mod_ii, pow_ii, neg_i, eq_ii, ne_ii, eq_ss, ne_ss, lt_ii, le_ii, gt_ii, ge_ii, eq_bb, ne_bb, in_cs, tr_b, tr_i, ix_r, ix_t, ix_f, ix_s, sl_s, sl_r, set_r, len_s, len_r, len_f, len_t, abs_i, max_ii, min_ii, max_r, min_r, int_i, int_b, list_r, sum_r, all_r, isi_ii, isi_ib, isi_ss, aug_ii, aug_sub, sel_app, sel_index, sel_pop, sel_count, sel_join, app_r, count_s, wx_some, idx_r, wT_some, join_r, src_s, src_f, src_t, src_r, if_true, if_false, Bool.not_true, Bool.not_false, Bool.false_eq_true]
  refine ⟨line_of (by decide), ?_⟩
  refine wp_map (fun d => .tup [.str [97, 103, 97, 105, 110], d]) (at_items _ _) (line_of (by simp)) (fun d T hd hp => ?_) (fun T hp hl2 => ?_)
  · simp only [setT, wipeE, we_c, we_v, we_bin, we_neg, we_cmp, we_chn, we_no, we_and, we_or, we_ife, we_tup, we_lst, we_ix, we_sl, we_bi, we_mt, we_call, we_lrg1, we_lrg2, we_lc, ws_nil, ws_cons, wo_nil, wo_cons, wt_nil, wt_cons, wi_rng1, wi_rng2, wi_rng3, wi_of, wi_int, wS_asgN, wS_asgT, wS_asgS, wS_par2, wS_par3, wS_aug, wS_ex, wS_ret, wS_retN, wS_iff, wS_pass, wS_brk, wS_cont, wS_never, wS_nil, wS_cons, wS_for, wS_whl, wF_nx, wF_rt, wF_bk, wF_ct, wv_some, wb_some, wc_some, wm_some, wz_bl, wE_some, wN_some, wo_some, wo_none, wo_ite, List.getElem?_cons_zero, List.getElem?_cons_succ, List.set_cons_zero, List.set_cons_succ, List.map_cons, List.map_nil, List.cons_append, List.nil_append, List.append_nil, List.replicate_succ, List.replicate_zero, List.length_cons, List.length_nil, Bop.f, Cop.f, Bi.f, Im.f, wl_some, wj_some, wa_some, wbs_some, add_ii, add_ss, add_rr, sub_ii, mul_ii, mul_si, div_ii, mod_ii, pow_ii, neg_i, eq_ii, ne_ii, eq_ss, ne_ss, lt_ii, le_ii, gt_ii, ge_ii, eq_bb, ne_bb, in_cs, tr_b, tr_i, ix_r, ix_t, ix_f, ix_s, sl_s, sl_r, set_r, len_s, len_r, len_f, len_t, abs_i, max_ii, min_ii, max_r, min_r, int_i, int_b, list_r, sum_r, all_r, isi_ii, isi_ib, isi_ss, aug_ii, aug_sub, sel_app, sel_index, sel_pop, sel_count, sel_join, app_r, count_s, wx_some, idx_r, wT_some, join_r, src_s, src_f, src_t, src_r, if_true, if_false, Bool.not_true, Bool.not_false, Bool.false_eq_true]
    exact ⟨line_of (by decide), trivial, List.prefix_refl _⟩
  · rw [lst_pre hp hl, wl_some, hl2, wl_some, if_pos (by rw [List.length_map]; exact line_of (by simp; omega))]
    exact h _ T.length (hp.trans (List.prefix_append _ _)) (lst_new _ _)
theorem nr4_ok (l : Nat) (r : Nat) (L : List D) (hl : lstAt S r = some L) (hL : L.length ≤ 100) (h : ∀ T r2, S <+: T → lstAt T r2 = some (L ++ [.tup [.str [115, 116, 114, 97, 105, 103, 104, 116], .int l], .tup [.str [115, 116, 114, 97, 105, 103, 104, 116], .int (-1)], .tup [.str [115, 116, 114, 97, 105, 103, 104, 116], .bl false]]) → R (.nx [x0, x1, x2, some (.int l), x4, some (.ref r2), x6, x7]) T) :
    WpS (evS (run ds (k + 1)) nr4 [x0, x1, x2, some (.int l), x4, some (.ref r), x6, x7] S) R := by
  simp only [nr4, we_c, we_v, we_bin, we_neg, we_cmp, we_chn, we_no, we_and, we_or, we_ife, we_tup, we_lst, we_ix, we_sl, we_bi, we_mt, we_call, we_lrg1, we_lrg2, we_lc, ws_nil, ws_cons, wo_nil, wo_cons, wt_nil, wt_cons, wi_rng1, wi_rng2, wi_rng3, wi_of, wi_int, wS_asgN, wS_asgT, wS_asgS, wS_par2, wS_par3, wS_aug, wS_ex, wS_ret, wS_retN, wS_iff, wS_pass, wS_brk, wS_cont, wS_never, wS_nil, wS_cons, wS_for, wS_whl, wF_nx, wF_rt, wF_bk, wF_ct, wv_some, wb_some, wc_some, wm_some, wz_bl, wE_some, wN_some, wo_some, wo_none, wo_ite, List.getElem?_cons_zero, List.getElem?_cons_succ, List.set_cons_zero, List.set_cons_succ, List.map_cons, List.map_nil, List.cons_append, List.nil_append, List.append_nil, List.replicate_succ, List.replicate_zero, List.length_cons, List.length_nil, Bop.f, Cop.f, Bi.f, Im.f, wl_some, wj_some, wa_some, wbs_some, add_ii, add_ss, add_rr, sub_ii, mul_ii, mul_si, div_ii, mod_ii, pow_ii, neg_i, eq_ii, ne_ii, eq_ss, ne_ss, lt_ii, le_ii, gt_ii, ge_ii, eq_bb, ne_bb, in_cs, tr_b, tr_i, ix_r, ix_t, ix_f, ix_s, sl_s, sl_r, set_r, len_s, len_r, len_f, len_t, abs_i, max_ii, min_ii, max_r, min_r, int_i, int_b, list_r, sum_r, all_r, isi_ii, isi_ib, isi_ss, aug_ii, aug_sub, sel_app, sel_index, sel_pop, sel_count, sel_join, app_r, count_s, wx_some, idx_r, wT_some, join_r, src_s, src_f, src_t, src_r, if_true, if_false, Bool.not_true, Bool.not_false, Bool.false_eq_true]
  refine ⟨line_of (by decide), line_of (by decide), line_of (by decide), line_of (by decide), ?_⟩
  have hp : S <+: S ++ [Cell.lst [.tup [.str [115, 116, 114, 97, 105, 103, 104, 116], .int l], .tup [.str [115, 116, 114, 97, 105, 103, 104, 116], .int (-1)], .tup [.str [115, 116, 114, 97, 105, 103, 104, 116], .bl false]]] := List.prefix_append _ _
  rw [lst_pre hp hl, wl_some, lst_new, wl_some, if_pos (line_of (by simp; omega))]
  exact h _ _ (hp.trans (List.prefix_append _ _)) (lst_new _ _)
theorem nr5_ok (r : Nat) (L : List D) (hl : lstAt S r = some L) (hL : L.length ≤ 100) (h : ∀ T r2, S <+: T → lstAt T r2 = some (L ++ [.tup [.str [117, 110, 101, 118, 101, 110], .int 0, .int 1, .int 0], .str [115, 116, 114, 97, 105, 103, 104, 116], .tup [.str [101, 118, 101, 110], .int 0]]) → R (.rt (.ref r2)) T) :
    WpS (evS (run ds (k + 1)) nr5 [x0, x1, x2, x3, x4, some (.ref r), x6, x7] S) R := by
  simp only [nr5, we_c, we_v, we_bin, we_neg, we_cmp, we_chn, we_no, we_and, we_or, we_ife, we_tup, we_lst, we_ix, we_sl, we_bi, we_mt, we_call, we_lrg1, we_lrg2, we_lc, ws_nil, ws_cons, wo_nil, wo_cons, wt_nil, wt_cons, wi_rng1, wi_rng2, wi_rng3, wi_of, wi_int, wS_asgN, wS_asgT, wS_asgS, wS_par2, wS_par3, wS_aug, wS_ex, wS_ret, wS_retN, wS_iff, wS_pass, wS_brk, wS_cont, wS_never, wS_nil, wS_cons, wS_for, wS_whl, wF_nx, wF_rt, wF_bk, wF_ct, wv_some, wb_some, wc_some, wm_some, wz_bl, wE_some, wN_some, wo_some, wo_none, wo_ite, List.getElem?_cons_zero, List.getElem?_cons_succ, List.set_cons_zero, List.set_cons_succ, List.map_cons, List.map_nil, List.cons_append, List.nil_append, List.append_nil, List.replicate_succ, List.replicate_zero, List.length_cons, List.length_nil, Bop.f, Cop.f, Bi.f, Im.f, wl_some, wj_some, wa_some, wbs_some, add_ii, add_ss, add_rr, sub_ii, mul_ii, mul_si, div_ii, mod_ii, pow_ii, neg_i, eq_ii, ne_ii, eq_ss, ne_ss, lt_ii, le_ii, gt_ii, ge_ii, eq_bb, ne_bb, in_cs, tr_b, tr_i, ix_r, ix_t, ix_f, ix_s, sl_s, sl_r, set_r, len_s, len_r, len_f, len_t, abs_i, max_ii, min_ii, max_r, min_r, int_i, int_b, list_r, sum_r, all_r, isi_ii, isi_ib, isi_ss, aug_ii, aug_sub, sel_app, sel_index, sel_pop, sel_count, sel_join, app_r, count_s, wx_some, idx_r, wT_some, join_r, src_s, src_f, src_t, src_r, if_true, if_false, Bool.not_true, Bool.not_false, Bool.false_eq_true]
  refine ⟨line_of (by decide), line_of (by decide), line_of (by decide), ?_⟩
  have hp : S <+: S ++ [Cell.lst [.tup [.str [117, 110, 101, 118, 101, 110], .int 0, .int 1, .int 0], .str [115, 116, 114, 97, 105, 103, 104, 116], .tup [.str [101, 118, 101, 110], .int 0]]] := List.prefix_append _ _
  rw [lst_pre hp hl, wl_some, lst_new, wl_some, if_pos (line_of (by simp; omega))]
  exact h _ _ (hp.trans (List.prefix_append _ _)) (lst_new _ _)
end
theorem near_ok (n : Nat) (w : List Nat) (d : D) (h1 : 1 ≤ w.length) (h2 : w.length ≤ 1000) (hd : Die S n) (hp : Paper w d) (h : ∀ T r L, Gr n S T → r ≠ n → lstAt T r = some L → L.length ≤ 100 → (∀ d ∈ L, ∀ U, Gr n T U → Near U d) → Q (.ref r) T) : Wp (run ds (k + 2) 30 [.ref n, .str w, d] S) Q := by
  have shape : ∃ xs, d = .tup xs ∧ xs.length ≤ 4 ∧ ∀ U, Near U (.tup xs) ∧ Near U (.tup (xs.take 1)) ∧ Near U (.tup (xs ++ [.int 0])) := by
    cases hp with
    | straight a e => exact ⟨_, rfl, by simp, fun U => ⟨.two _ _ (.inl rfl) rfl, .one _ (.inl rfl), .three _ _ _ (.inl rfl)⟩⟩
    | again s e1 e2 => exact ⟨_, rfl, by simp, fun U => ⟨.two _ _ (.inr (.inl rfl)) rfl, .one _ (.inr (.inl rfl)), .three _ _ _ (.inr (.inl rfl))⟩⟩
    | uneven i j s e1 e2 hi hj s1 s2 hd => exact ⟨_, rfl, by simp, fun U => ⟨.four _ _ _ _ (.inr (.inr (.inl rfl))), .one _ (.inr (.inr (.inl rfl))), .five _ _ _ _ _ (.inr (.inr (.inl rfl)))⟩⟩
  obtain ⟨xs, rfl, hx, hN⟩ := shape
  refine wp_run (d := d30) rfl rfl ?_
  rw [nrbody, wS_cons]
  refine nr0_ok w h2 ?_
  rw [wF_nx, wS_cons]
  refine nr1_ok n w.length h1 h2 hd fun a b c T g1 => ?_
  rw [wF_nx, wS_cons]
  refine nr2_ok n w.length h1 h2 g1.die xs _ hx fun a2 T2 r2 g2 hr2 hge hl2 hl3 => ?_
  rw [wF_nx, wS_cons]
  have hn := die_lt hd
  have hT := g1.len
  refine nr3_ok n w.length h2 r2 _ g2.die hl2 (by simp) fun T3 r3 p3 hl4 => ?_
  rw [wF_nx, wS_cons]
  refine nr4_ok w.length r3 _ hl4 (by simp) fun T4 r4 p4 hl5 => ?_
  rw [wF_nx, wS_cons]
  refine nr5_ok r4 _ hl5 (by simp) fun T5 r5 p5 hl6 => ?_
  rw [wF_rt]
  have pT := p3.trans (p4.trans p5)
  have gT : Gr n S T5 := (g1.trans g2).pre pT
  have hls : lstAt T5 T.length = some xs := lst_pre pT hl3
  refine h T5 r5 _ gT ?_ hl6 (by simp) fun d hd' U gU => ?_
  · intro e
    subst e
    obtain ⟨g, s, t, _, q⟩ := gT.die
    rw [hl6] at q
    simp at q
  · have hlU : lstAt U T.length = some xs := gU.keep _ _ (by omega) hls
    simp only [List.mem_append, List.mem_cons, List.not_mem_nil, or_false] at hd'
    rcases hd' with ((hd' | hd') | hd') | hd'
    · rcases hd' with e | e | e | e | e | e | e | e <;> subst e
      · exact (hN U).1
      · exact .lst _ _ hlU
      · exact (hN U).2.1
      · exact (hN U).2.2
      · exact .non
      · exact .emp
      · exact .four _ _ _ _ (.inr (.inr (.inl rfl)))
      · exact .two _ _ (.inl rfl) rfl
    · rcases hd' with e | e | e | e | e | e | e <;> subst e <;> exact .two _ _ (.inr (.inl rfl)) rfl
    · rcases hd' with e | e | e <;> subst e <;> exact .two _ _ (.inl rfl) rfl
    · rcases hd' with e | e | e <;> subst e
      · exact .four _ 0 1 0 (.inr (.inr (.inl rfl)))
      · exact .txt _
      · exact .two _ _ (.inr (.inr (.inr rfl))) rfl
/-! ### a drawn word is told and judged -/
section
variable {R : Fl → Mem → Prop} {x0 x1 x2 x3 x4 x5 : Option D}
def rt0 : Sm := (.asg (.n (.nm 1)) (.call 28 (.cons (.v 0) .nil)))
def rt1 : Sm := (.asg (.n (.nm 2)) (.call 25 (.cons (.v 1) .nil)))
def rt2 : Sm := (.iff (.cmp .ne (.call 14 (.cons (.v 1) .nil)) (.v 2)) (.cons (.ret (.c (.bl false))) .nil) .nil)
def rt3 : Sm := (.asg (.n (.nm 3)) (.call 16 (.cons (.v 1) .nil)))
def rt4 : Sm := (.iff (.or (.no (.call 29 (.cons (.v 1) (.cons (.v 3) .nil)))) (.cmp .ne (.cmp .eq (.ix (.v 3) (.c (.int 0))) (.c (.str [115, 116, 114, 97, 105, 103, 104, 116]))) (.v 2))) (.cons (.ret (.c (.bl false))) .nil) .nil)
def rt5 : Sm := (.iff (.cmp .ne (.call 17 (.cons (.v 1) (.cons (.v 4) .nil))) (.call 29 (.cons (.v 1) (.cons (.v 4) .nil)))) (.cons (.ret (.c (.bl false))) .nil) .nil)
def rt6 : Sm := (.for_ (.nm 4) (.of (.call 30 (.cons (.v 0) (.cons (.v 1) (.cons (.v 3) .nil))))) (.cons rt5 .nil))
def rt7 : Sm := (.tri (.cons (.asg (.n (.nm 5)) (.call 15 (.cons (.v 1) .nil))) .nil) (.cons ["InvalidOperation"] ["GluedError"] (.cons (.ret (.no (.v 2))) .nil) .nil))
def rt8 : Sm := (.ret (.and (.v 2) (.cmp .eq (.v 5) (.tup (.cons (.mt .count (.v 1) (.cons (.c (.str [114])) .nil)) (.cons (.mt .count (.v 1) (.cons (.c (.str [117])) .nil)) .nil))))))
theorem rtbody : d31.body = (.cons rt0 (.cons rt1 (.cons rt2 (.cons rt3 (.cons rt4 (.cons rt6 (.cons rt7 (.cons rt8 .nil)))))))) := rfl

theorem rt0_ok (n : Nat) (hd : Die S n) (h : ∀ w T, 1 ≤ w.length → w.length ≤ 200 → Ru w → Gr n S T → R (.nx [some (.ref n), some (.str w), x2, x3, x4, x5]) T) : WpS (evS (run ds (k + 4)) rt0 [some (.ref n), x1, x2, x3, x4, x5] S) R := by
  simp only [rt0, we_c, we_v, we_bin, we_neg, we_cmp, we_chn, we_no, we_and, we_or, we_ife, we_tup, we_lst, we_ix, we_sl, we_bi, we_mt, we_call, we_lrg1, we_lrg2, we_lc, ws_nil, ws_cons, wo_nil, wo_cons, wt_nil, wt_cons, wi_rng1, wi_rng2, wi_rng3, wi_of, wi_int, wS_asgN, wS_asgT, wS_asgS, wS_par2, wS_par3, wS_aug, wS_ex, wS_ret, wS_retN, wS_iff, wS_pass, wS_brk, wS_cont, wS_never, wS_nil, wS_cons, wS_for, wS_whl, wF_nx, wF_rt, wF_bk, wF_ct, wv_some, wb_some, wc_some, wm_some, wz_bl, wE_some, wN_some, wo_some, wo_none, wo_ite, List.getElem?_cons_zero, List.getElem?_cons_succ, List.set_cons_zero, List.set_cons_succ, List.map_cons, List.map_nil, List.cons_append, List.nil_append, List.append_nil, List.replicate_succ, List.replicate_zero, List.length_cons, List.length_nil]
  exact some_ok (k := k + 1) n hd h
theorem rt1_ok (w : List Nat) (h1 : 1 ≤ w.length) (h2 : w.length ≤ 200) (h : ∀ T, S <+: T → R (.nx [x0, some (.str w), some (.bl (straightB w)), x3, x4, x5]) T) : WpS (evS (run ds (k + 4)) rt1 [x0, some (.str w), x2, x3, x4, x5] S) R := by
  simp only [rt1, we_c, we_v, we_bin, we_neg, we_cmp, we_chn, we_no, we_and, we_or, we_ife, we_tup, we_lst, we_ix, we_sl, we_bi, we_mt, we_call, we_lrg1, we_lrg2, we_lc, ws_nil, ws_cons, wo_nil, wo_cons, wt_nil, wt_cons, wi_rng1, wi_rng2, wi_rng3, wi_of, wi_int, wS_asgN, wS_asgT, wS_asgS, wS_par2, wS_par3, wS_aug, wS_ex, wS_ret, wS_retN, wS_iff, wS_pass, wS_brk, wS_cont, wS_never, wS_nil, wS_cons, wS_for, wS_whl, wF_nx, wF_rt, wF_bk, wF_ct, wv_some, wb_some, wc_some, wm_some, wz_bl, wE_some, wN_some, wo_some, wo_none, wo_ite, List.getElem?_cons_zero, List.getElem?_cons_succ, List.set_cons_zero, List.set_cons_succ, List.map_cons, List.map_nil, List.cons_append, List.nil_append, List.append_nil, List.replicate_succ, List.replicate_zero, List.length_cons, List.length_nil]
  exact straight_ok (k := k + 2) w h1 (by omega) h
theorem rt2_ok (w : List Nat) (h1 : 1 ≤ w.length) (h2 : w.length ≤ 200) (hr : Ru w) (h : ∀ T, S <+: T → R (.nx [x0, some (.str w), some (.bl (straightB w)), x3, x4, x5]) T) : WpS (evS (run ds (k + 4)) rt2 [x0, some (.str w), some (.bl (straightB w)), x3, x4, x5] S) R := by
  simp only [rt2, we_c, we_v, we_bin, we_neg, we_cmp, we_chn, we_no, we_and, we_or, we_ife, we_tup, we_lst, we_ix, we_sl, we_bi, we_mt, we_call, we_lrg1, we_lrg2, we_lc, ws_nil, ws_cons, wo_nil, wo_cons, wt_nil, wt_cons, wi_rng1, wi_rng2, wi_rng3, wi_of, wi_int, wS_asgN, wS_asgT, wS_asgS, wS_par2, wS_par3, wS_aug, wS_ex, wS_ret, wS_retN, wS_iff, wS_pass, wS_brk, wS_cont, wS_never, wS_nil, wS_cons, wS_for, wS_whl, wF_nx, wF_rt, wF_bk, wF_ct, wv_some, wb_some, wc_some, wm_some, wz_bl, wE_some, wN_some, wo_some, wo_none, wo_ite, List.getElem?_cons_zero, List.getElem?_cons_succ, List.set_cons_zero, List.set_cons_succ, List.map_cons, List.map_nil, List.cons_append, List.nil_append, List.append_nil, List.replicate_succ, List.replicate_zero, List.length_cons, List.length_nil, Cop.f]
  refine is_straight_ok (k := k) w h1 (by omega) hr fun T hp => ?_
  rw [first_iff h1 hr, ne_bb, decide_eq_true rfl, tr_b, wb_some]
  exact h T hp
theorem rt3_ok (w : List Nat) (h1 : 1 ≤ w.length) (h2 : w.length ≤ 200) (hr : Ru w) (h : ∀ T d, S <+: T → Paper w d → R (.nx [x0, some (.str w), x2, some d, x4, x5]) T) : WpS (evS (run ds (k + 4)) rt3 [x0, some (.str w), x2, x3, x4, x5] S) R := by
  simp only [rt3, we_c, we_v, we_bin, we_neg, we_cmp, we_chn, we_no, we_and, we_or, we_ife, we_tup, we_lst, we_ix, we_sl, we_bi, we_mt, we_call, we_lrg1, we_lrg2, we_lc, ws_nil, ws_cons, wo_nil, wo_cons, wt_nil, wt_cons, wi_rng1, wi_rng2, wi_rng3, wi_of, wi_int, wS_asgN, wS_asgT, wS_asgS, wS_par2, wS_par3, wS_aug, wS_ex, wS_ret, wS_retN, wS_iff, wS_pass, wS_brk, wS_cont, wS_never, wS_nil, wS_cons, wS_for, wS_whl, wF_nx, wF_rt, wF_bk, wF_ct, wv_some, wb_some, wc_some, wm_some, wz_bl, wE_some, wN_some, wo_some, wo_none, wo_ite, List.getElem?_cons_zero, List.getElem?_cons_succ, List.set_cons_zero, List.set_cons_succ, List.map_cons, List.map_nil, List.cons_append, List.nil_append, List.append_nil, List.replicate_succ, List.replicate_zero, List.length_cons, List.length_nil]
  exact straight_paper_ok (k := k) w h1 (by omega) hr (no_paper h1 hr) h
theorem paper_near {w : List Nat} {d : D} (hp : Paper w d) : Near S d := by
  cases hp with
  | straight a e => exact .two _ _ (.inl rfl) rfl
  | again s e1 e2 => exact .two _ _ (.inr (.inl rfl)) rfl
  | uneven i j s e1 e2 hi hj s1 s2 hd => exact .four _ _ _ _ (.inr (.inr (.inl rfl)))
theorem rt4_ok (w : List Nat) (d : D) (h1 : 1 ≤ w.length) (h2 : w.length ≤ 200) (hr : Ru w) (hp : Paper w d) (h : ∀ T, S <+: T → R (.nx [x0, some (.str w), some (.bl (straightB w)), some d, x4, x5]) T) : WpS (evS (run ds (k + 4)) rt4 [x0, some (.str w), some (.bl (straightB w)), some d, x4, x5] S) R := by
  obtain ⟨e1, s, r, e2, hs, e3⟩ := paper_right h1 hr hp
  simp only [rt4, we_c, we_v, we_bin, we_neg, we_cmp, we_chn, we_no, we_and, we_or, we_ife, we_tup, we_lst, we_ix, we_sl, we_bi, we_mt, we_call, we_lrg1, we_lrg2, we_lc, ws_nil, ws_cons, wo_nil, wo_cons, wt_nil, wt_cons, wi_rng1, wi_rng2, wi_rng3, wi_of, wi_int, wS_asgN, wS_asgT, wS_asgS, wS_par2, wS_par3, wS_aug, wS_ex, wS_ret, wS_retN, wS_iff, wS_pass, wS_brk, wS_cont, wS_never, wS_nil, wS_cons, wS_for, wS_whl, wF_nx, wF_rt, wF_bk, wF_ct, wv_some, wb_some, wc_some, wm_some, wz_bl, wE_some, wN_some, wo_some, wo_none, wo_ite, List.getElem?_cons_zero, List.getElem?_cons_succ, List.set_cons_zero, List.set_cons_succ, List.map_cons, List.map_nil, List.cons_append, List.nil_append, List.append_nil, List.replicate_succ, List.replicate_zero, List.length_cons, List.length_nil, Cop.f]
  refine law_is_paper_ok (k := k + 1) w d h1 (by omega) (paper_near hp) fun T hpT => ?_
  rw [e1, e2]
  simp only [we_c, we_v, we_bin, we_neg, we_cmp, we_chn, we_no, we_and, we_or, we_ife, we_tup, we_lst, we_ix, we_sl, we_bi, we_mt, we_call, we_lrg1, we_lrg2, we_lc, ws_nil, ws_cons, wo_nil, wo_cons, wt_nil, wt_cons, wi_rng1, wi_rng2, wi_rng3, wi_of, wi_int, wS_asgN, wS_asgT, wS_asgS, wS_par2, wS_par3, wS_aug, wS_ex, wS_ret, wS_retN, wS_iff, wS_pass, wS_brk, wS_cont, wS_never, wS_nil, wS_cons, wS_for, wS_whl, wF_nx, wF_rt, wF_bk, wF_ct, wv_some, wb_some, wc_some, wm_some, wz_bl, wE_some, wN_some, wo_some, wo_none, wo_ite, List.getElem?_cons_zero, List.getElem?_cons_succ, List.set_cons_zero, List.set_cons_succ, List.map_cons, List.map_nil, List.cons_append, List.nil_append, List.append_nil, List.replicate_succ, List.replicate_zero, List.length_cons, List.length_nil, Bop.f, Cop.f, Bi.f, Im.f, wl_some, wj_some, wa_some, wbs_some, add_ii, add_ss, add_rr, sub_ii, mul_ii, mul_si, div_ii, mod_ii, pow_ii, neg_i, eq_ii, ne_ii, eq_ss, ne_ss, lt_ii, le_ii, gt_ii, ge_ii, eq_bb, ne_bb, in_cs, tr_b, tr_i, ix_r, ix_t, ix_f, ix_s, sl_s, sl_r, set_r, len_s, len_r, len_f, len_t, abs_i, max_ii, min_ii, max_r, min_r, int_i, int_b, list_r, sum_r, all_r, isi_ii, isi_ib, isi_ss, aug_ii, aug_sub, sel_app, sel_index, sel_pop, sel_count, sel_join, app_r, count_s, wx_some, idx_r, wT_some, join_r, src_s, src_f, src_t, src_r, if_true, if_false, Bool.not_true, Bool.not_false, Bool.false_eq_true, at_0]
  rw [e3, decide_eq_true rfl]
  simp only [we_c, we_v, we_bin, we_neg, we_cmp, we_chn, we_no, we_and, we_or, we_ife, we_tup, we_lst, we_ix, we_sl, we_bi, we_mt, we_call, we_lrg1, we_lrg2, we_lc, ws_nil, ws_cons, wo_nil, wo_cons, wt_nil, wt_cons, wi_rng1, wi_rng2, wi_rng3, wi_of, wi_int, wS_asgN, wS_asgT, wS_asgS, wS_par2, wS_par3, wS_aug, wS_ex, wS_ret, wS_retN, wS_iff, wS_pass, wS_brk, wS_cont, wS_never, wS_nil, wS_cons, wS_for, wS_whl, wF_nx, wF_rt, wF_bk, wF_ct, wv_some, wb_some, wc_some, wm_some, wz_bl, wE_some, wN_some, wo_some, wo_none, wo_ite, List.getElem?_cons_zero, List.getElem?_cons_succ, List.set_cons_zero, List.set_cons_succ, List.map_cons, List.map_nil, List.cons_append, List.nil_append, List.append_nil, List.replicate_succ, List.replicate_zero, List.length_cons, List.length_nil, Bop.f, Cop.f, Bi.f, Im.f, wl_some, wj_some, wa_some, wbs_some, add_ii, add_ss, add_rr, sub_ii, mul_ii, mul_si, div_ii, mod_ii, pow_ii, neg_i, eq_ii, ne_ii, eq_ss, ne_ss, lt_ii, le_ii, gt_ii, ge_ii, eq_bb, ne_bb, in_cs, tr_b, tr_i, ix_r, ix_t, ix_f, ix_s, sl_s, sl_r, set_r, len_s, len_r, len_f, len_t, abs_i, max_ii, min_ii, max_r, min_r, int_i, int_b, list_r, sum_r, all_r, isi_ii, isi_ib, isi_ss, aug_ii, aug_sub, sel_app, sel_index, sel_pop, sel_count, sel_join, app_r, count_s, wx_some, idx_r, wT_some, join_r, src_s, src_f, src_t, src_r, if_true, if_false, Bool.not_true, Bool.not_false, Bool.false_eq_true]
  rw [← e2]
  exact h T hpT
theorem rt5_ok (w : List Nat) (d : D) (h1 : 1 ≤ w.length) (h2 : w.length ≤ 200) (hr : Ru w) (hd : Near S d) (h : ∀ T, S <+: T → R (.nx [x0, some (.str w), x2, x3, some d, x5]) T) : WpS (evS (run ds (k + 4)) rt5 [x0, some (.str w), x2, x3, some d, x5] S) R := by
  simp only [rt5, we_c, we_v, we_bin, we_neg, we_cmp, we_chn, we_no, we_and, we_or, we_ife, we_tup, we_lst, we_ix, we_sl, we_bi, we_mt, we_call, we_lrg1, we_lrg2, we_lc, ws_nil, ws_cons, wo_nil, wo_cons, wt_nil, wt_cons, wi_rng1, wi_rng2, wi_rng3, wi_of, wi_int, wS_asgN, wS_asgT, wS_asgS, wS_par2, wS_par3, wS_aug, wS_ex, wS_ret, wS_retN, wS_iff, wS_pass, wS_brk, wS_cont, wS_never, wS_nil, wS_cons, wS_for, wS_whl, wF_nx, wF_rt, wF_bk, wF_ct, wv_some, wb_some, wc_some, wm_some, wz_bl, wE_some, wN_some, wo_some, wo_none, wo_ite, List.getElem?_cons_zero, List.getElem?_cons_succ, List.set_cons_zero, List.set_cons_succ, List.map_cons, List.map_nil, List.cons_append, List.nil_append, List.append_nil, List.replicate_succ, List.replicate_zero, List.length_cons, List.length_nil, Cop.f]
  refine is_straight_paper_ok (k := k) w d h1 (by omega) hr hd fun T hp => ?_
  refine law_is_paper_ok (k := k + 1) w d h1 (by omega) (hd.pre hp) fun T2 hp2 => ?_
  rw [near_eq h1 hr hd, ne_bb, decide_eq_true rfl, tr_b, wb_some]
  exact h T2 (hp.trans hp2)
theorem rt6_ok (n : Nat) (w : List Nat) (d : D) (h1 : 1 ≤ w.length) (h2 : w.length ≤ 200) (hr : Ru w) (hd : Die S n) (hp : Paper w d) (h : ∀ T x, Gr n S T → R (.nx [some (.ref n), some (.str w), x2, some d, x, x5]) T) : WpS (evS (run ds (k + 4)) rt6 [some (.ref n), some (.str w), x2, some d, x4, x5] S) R := by
  simp only [rt6, we_c, we_v, we_bin, we_neg, we_cmp, we_chn, we_no, we_and, we_or, we_ife, we_tup, we_lst, we_ix, we_sl, we_bi, we_mt, we_call, we_lrg1, we_lrg2, we_lc, ws_nil, ws_cons, wo_nil, wo_cons, wt_nil, wt_cons, wi_rng1, wi_rng2, wi_rng3, wi_of, wi_int, wS_asgN, wS_asgT, wS_asgS, wS_par2, wS_par3, wS_aug, wS_ex, wS_ret, wS_retN, wS_iff, wS_pass, wS_brk, wS_cont, wS_never, wS_nil, wS_cons, wS_for, wS_whl, wF_nx, wF_rt, wF_bk, wF_ct, wv_some, wb_some, wc_some, wm_some, wz_bl, wE_some, wN_some, wo_some, wo_none, wo_ite, List.getElem?_cons_zero, List.getElem?_cons_succ, List.set_cons_zero, List.set_cons_succ, List.map_cons, List.map_nil, List.cons_append, List.nil_append, List.append_nil, List.replicate_succ, List.replicate_zero, List.length_cons, List.length_nil]
  refine near_ok (k := k + 2) n w d h1 (by omega) hd hp fun T r L g hrn hl hL hN => ?_
  rw [src_r, hl, wl_some]
  refine wp_turns L (fun i e U => Gr n T U ∧ lstAt U r = some L ∧ ∃ x, e = [some (.ref n), some (.str w), x2, some d, x, x5]) (fun i e U ⟨_, hU, _⟩ => ?_) (fun i d' e U hx ⟨gU, hU, x, he⟩ => ?_) (fun e U ⟨gU, hU, x, he⟩ => ?_) fuel 0 _ _ (by show _ < 1000000000; omega) (Nat.zero_le _) ⟨Gr.refl g.die, hl, _, rfl⟩
  · show (match lstAt U r with
      | some xs => some xs[i]?
      | none => none) = _
    rw [hU]
  · subst he
    simp only [setT, List.set_cons_zero, List.set_cons_succ]
    rw [wS_cons]
    refine rt5_ok w d' h1 h2 hr (hN d' (List.mem_of_getElem? hx) U gU) fun V hV => ?_
    rw [wF_nx, wS_nil]
    exact ⟨gU.pre hV, lst_pre hV hU, _, rfl⟩
  · subst he
    exact h U _ (g.trans gU)
theorem eq_t2 (a b : Int) : WpO (fEq (.tup [.int a, .int b]) (.tup [.int a, .int b]) S) Q = Q (.bl true) S := by
  have e : eqB S (.tup [.int a, .int b]) (.tup [.int a, .int b]) = some (PySem.PyData.eqv (.tuple [.int a, .int b]) (.tuple [.int a, .int b])) := rfl
  have e2 : PySem.PyData.eqv (.tuple [.int a, .int b]) (.tuple [.int a, .int b]) = (a == a && (b == b && true)) := rfl
  unfold fEq
  rw [e, e2]
  simp only [beq_self_eq_true, Bool.and_true]
  rfl
theorem rt78_ok (w : List Nat) (h1 : 1 ≤ w.length) (h2 : w.length ≤ 200) (hr : Ru w) (h : ∀ T, S <+: T → R (.rt (.bl true)) T) : WpS (evSs (run ds (k + 4)) (.cons rt7 (.cons rt8 .nil)) [x0, some (.str w), some (.bl (straightB w)), x3, x4, x5] S) R := by
  rw [wS_cons]
  cases e : straightB w with
  | true =>
    refine wS_triO ?_
    rw [wS_cons, wS_asgN, we_call, ws_cons, we_v]
    simp only [List.getElem?_cons_zero, List.getElem?_cons_succ, wv_some, ws_nil]
    refine slope_of_ok (k := k) w h1 (by omega) hr (by rw [first_iff h1 hr]; exact e) fun T hp => ?_
    simp only [List.set_cons_zero, List.set_cons_succ]
    rw [wF_nx, wS_nil, wF_nx, wS_cons]
    simp only [rt8, we_c, we_v, we_bin, we_neg, we_cmp, we_chn, we_no, we_and, we_or, we_ife, we_tup, we_lst, we_ix, we_sl, we_bi, we_mt, we_call, we_lrg1, we_lrg2, we_lc, ws_nil, ws_cons, wo_nil, wo_cons, wt_nil, wt_cons, wi_rng1, wi_rng2, wi_rng3, wi_of, wi_int, wS_asgN, wS_asgT, wS_asgS, wS_par2, wS_par3, wS_aug, wS_ex, wS_ret, wS_retN, wS_iff, wS_pass, wS_brk, wS_cont, wS_never, wS_nil, wS_cons, wS_for, wS_whl, wF_nx, wF_rt, wF_bk, wF_ct, wv_some, wb_some, wc_some, wm_some, wz_bl, wE_some, wN_some, wo_some, wo_none, wo_ite, List.getElem?_cons_zero, List.getElem?_cons_succ, List.set_cons_zero, List.set_cons_succ, List.map_cons, List.map_nil, List.cons_append, List.nil_append, List.append_nil, List.replicate_succ, List.replicate_zero, List.length_cons, List.length_nil, Bop.f, Cop.f, Bi.f, Im.f, wl_some, wj_some, wa_some, wbs_some, add_ii, add_ss, add_rr, sub_ii, mul_ii, mul_si, div_ii, mod_ii, pow_ii, neg_i, eq_ii, ne_ii, eq_ss, ne_ss, lt_ii, le_ii, gt_ii, ge_ii, eq_bb, ne_bb, in_cs, tr_b, tr_i, ix_r, ix_t, ix_f, ix_s, sl_s, sl_r, set_r, len_s, len_r, len_f, len_t, abs_i, max_ii, min_ii, max_r, min_r, int_i, int_b, list_r, sum_r, all_r, isi_ii, isi_ib, isi_ss, aug_ii, aug_sub, sel_app, sel_index, sel_pop, sel_count, sel_join, app_r, count_s, wx_some, idx_r, wT_some, join_r, src_s, src_f, src_t, src_r, if_true, if_false, Bool.not_true, Bool.not_false, Bool.false_eq_true]
    refine ⟨line_of (by decide), ?_⟩
    rw [ru_count hr, eq_t2]
    exact h T hp
  | false =>
    refine wS_triX ?_
    refine wx_here (wx_asgc ?_)
    rw [ws_cons, we_v]
    simp only [List.getElem?_cons_zero, List.getElem?_cons_succ, wv_some, ws_nil]
    refine slope_of_exc (k := k) w h1 (by omega) hr (by rw [first_iff h1 hr]; exact e) fun T hp => ?_
    refine wH_take (List.mem_singleton.mpr rfl) ?_
    rw [wS_cons, wS_ret]
    simp only [we_c, we_v, we_bin, we_neg, we_cmp, we_chn, we_no, we_and, we_or, we_ife, we_tup, we_lst, we_ix, we_sl, we_bi, we_mt, we_call, we_lrg1, we_lrg2, we_lc, ws_nil, ws_cons, wo_nil, wo_cons, wt_nil, wt_cons, wi_rng1, wi_rng2, wi_rng3, wi_of, wi_int, wS_asgN, wS_asgT, wS_asgS, wS_par2, wS_par3, wS_aug, wS_ex, wS_ret, wS_retN, wS_iff, wS_pass, wS_brk, wS_cont, wS_never, wS_nil, wS_cons, wS_for, wS_whl, wF_nx, wF_rt, wF_bk, wF_ct, wv_some, wb_some, wc_some, wm_some, wz_bl, wE_some, wN_some, wo_some, wo_none, wo_ite, List.getElem?_cons_zero, List.getElem?_cons_succ, List.set_cons_zero, List.set_cons_succ, List.map_cons, List.map_nil, List.cons_append, List.nil_append, List.append_nil, List.replicate_succ, List.replicate_zero, List.length_cons, List.length_nil, Bop.f, Cop.f, Bi.f, Im.f, wl_some, wj_some, wa_some, wbs_some, add_ii, add_ss, add_rr, sub_ii, mul_ii, mul_si, div_ii, mod_ii, pow_ii, neg_i, eq_ii, ne_ii, eq_ss, ne_ss, lt_ii, le_ii, gt_ii, ge_ii, eq_bb, ne_bb, in_cs, tr_b, tr_i, ix_r, ix_t, ix_f, ix_s, sl_s, sl_r, set_r, len_s, len_r, len_f, len_t, abs_i, max_ii, min_ii, max_r, min_r, int_i, int_b, list_r, sum_r, all_r, isi_ii, isi_ib, isi_ss, aug_ii, aug_sub, sel_app, sel_index, sel_pop, sel_count, sel_join, app_r, count_s, wx_some, idx_r, wT_some, join_r, src_s, src_f, src_t, src_r, if_true, if_false, Bool.not_true, Bool.not_false, Bool.false_eq_true]
    exact h T hp
end
theorem right_ok (n : Nat) (hd : Die S n) (h : ∀ T, Gr n S T → Q (.bl true) T) : Wp (run ds (k + 5) 31 [.ref n] S) Q := by
  refine wp_run (d := d31) rfl rfl ?_
  rw [rtbody, wS_cons]
  refine rt0_ok n hd fun w T h1 h2 hr g => ?_
  rw [wF_nx, wS_cons]
  refine rt1_ok w h1 h2 fun T1 p1 => ?_
  rw [wF_nx, wS_cons]
  refine rt2_ok w h1 h2 hr fun T2 p2 => ?_
  rw [wF_nx, wS_cons]
  refine rt3_ok w h1 h2 hr fun T3 d p3 hp => ?_
  rw [wF_nx, wS_cons]
  refine rt4_ok w d h1 h2 hr hp fun T4 p4 => ?_
  rw [wF_nx, wS_cons]
  have g4 : Gr n S T4 := g.pre (p1.trans (p2.trans (p3.trans p4)))
  refine rt6_ok n w d h1 h2 hr g4.die hp fun T5 x g5 => ?_
  rw [wF_nx]
  refine rt78_ok w h1 h2 hr fun T6 p6 => ?_
  exact h T6 ((g4.trans g5).pre p6)
end K86

set_option Elab.async false
set_option linter.all false
set_option maxRecDepth 100000
set_option maxHeartbeats 1000000
namespace K86
open Mi Lw
variable {k : Nat} {S : Mem} {R : Fl → Mem → Prop}
def lw0 : Sm := (.asg (.n (.nm 2)) (.call 18 (.cons (.v 0) (.cons (.v 1) .nil))))
def lw1 : Sm := (.for_ (.nm 3) (.rng1 (.c (.int 3))) (.cons (.iff (.no (.call 31 (.cons (.v 2) .nil))) (.cons (.ret (.c (.bl false))) .nil) .nil) .nil))
def lw2 : Sm := (.for_ (.nm 1) (.rng1 (.bi .max (.cons (.c (.int 1)) (.cons (.bi .min (.cons (.c (.int 5)) (.cons (.bi .len (.cons (.v 0) .nil)) .nil))) .nil)))) (.cons lw0 (.cons lw1 .nil)))
def lw3 : Sm := (.ret (.and (.call 14 (.cons (.c (.str [114])) .nil)) (.and (.call 14 (.cons (.c (.str [117, 114])) .nil)) (.and (.no (.call 14 (.cons (.c (.str [114, 114])) .nil))) (.cmp .eq (.call 16 (.cons (.c (.str [114, 114])) .nil)) (.tup (.cons (.c (.str [97, 103, 97, 105, 110])) (.cons (.c (.int 1)) .nil))))))))
theorem lwbody : d32.body = (.cons lw2 (.cons lw3 .nil)) := rfl

theorem clip (x : Int) : ∃ c : Nat, c ≤ 5 ∧ (if (if x < 5 then x else 5) > 1 then (if x < 5 then x else 5) else 1) = (c : Int) := by
  by_cases e : x < 5
  · rw [if_pos e]
    by_cases e2 : x > 1
    · rw [if_pos e2]; exact ⟨x.toNat, by omega, by omega⟩
    · rw [if_neg e2]; exact ⟨1, by decide, rfl⟩
  · rw [if_neg e, if_pos (by decide)]; exact ⟨5, by decide, rfl⟩
theorem lw1_ok {x0 x1 x3 : Option D} (n : Nat) (hd : Die S n) (h : ∀ T x, R (.nx [x0, x1, some (.ref n), x]) T) : WpS (evS (run ds (k + 5)) lw1 [x0, x1, some (.ref n), x3] S) R := by
  simp only [lw1, we_c, we_v, we_bin, we_neg, we_cmp, we_chn, we_no, we_and, we_or, we_ife, we_tup, we_lst, we_ix, we_sl, we_bi, we_mt, we_call, we_lrg1, we_lrg2, we_lc, ws_nil, ws_cons, wo_nil, wo_cons, wt_nil, wt_cons, wi_rng1, wi_rng2, wi_rng3, wi_of, wi_int, wS_asgN, wS_asgT, wS_asgS, wS_par2, wS_par3, wS_aug, wS_ex, wS_ret, wS_retN, wS_iff, wS_pass, wS_brk, wS_cont, wS_never, wS_nil, wS_cons, wS_for, wS_whl, wF_nx, wF_rt, wF_bk, wF_ct, wv_some, wb_some, wc_some, wm_some, wz_bl, wE_some, wN_some, wo_some, wo_none, wo_ite, List.getElem?_cons_zero, List.getElem?_cons_succ, List.set_cons_zero, List.set_cons_succ, List.map_cons, List.map_nil, List.cons_append, List.nil_append, List.append_nil, List.replicate_succ, List.replicate_zero, List.length_cons, List.length_nil]
  rw [rng_1 _ (by decide)]
  refine wp_turns (rangeD 0 (3 : Int).toNat) (fun i e U => Die U n ∧ ∃ x, e = [x0, x1, some (.ref n), x]) (fun _ _ _ _ => rfl) (fun i d e U hx ⟨hU, x, he⟩ => ?_) (fun e U ⟨hU, x, he⟩ => ?_) fuel 0 _ _ (by rw [range_len]; decide) (Nat.zero_le _) ⟨hd, _, rfl⟩
  · subst he
    simp only [setT, we_c, we_v, we_bin, we_neg, we_cmp, we_chn, we_no, we_and, we_or, we_ife, we_tup, we_lst, we_ix, we_sl, we_bi, we_mt, we_call, we_lrg1, we_lrg2, we_lc, ws_nil, ws_cons, wo_nil, wo_cons, wt_nil, wt_cons, wi_rng1, wi_rng2, wi_rng3, wi_of, wi_int, wS_asgN, wS_asgT, wS_asgS, wS_par2, wS_par3, wS_aug, wS_ex, wS_ret, wS_retN, wS_iff, wS_pass, wS_brk, wS_cont, wS_never, wS_nil, wS_cons, wS_for, wS_whl, wF_nx, wF_rt, wF_bk, wF_ct, wv_some, wb_some, wc_some, wm_some, wz_bl, wE_some, wN_some, wo_some, wo_none, wo_ite, List.getElem?_cons_zero, List.getElem?_cons_succ, List.set_cons_zero, List.set_cons_succ, List.map_cons, List.map_nil, List.cons_append, List.nil_append, List.append_nil, List.replicate_succ, List.replicate_zero, List.length_cons, List.length_nil]
    refine right_ok n hU fun T g => ?_
    simp only [we_c, we_v, we_bin, we_neg, we_cmp, we_chn, we_no, we_and, we_or, we_ife, we_tup, we_lst, we_ix, we_sl, we_bi, we_mt, we_call, we_lrg1, we_lrg2, we_lc, ws_nil, ws_cons, wo_nil, wo_cons, wt_nil, wt_cons, wi_rng1, wi_rng2, wi_rng3, wi_of, wi_int, wS_asgN, wS_asgT, wS_asgS, wS_par2, wS_par3, wS_aug, wS_ex, wS_ret, wS_retN, wS_iff, wS_pass, wS_brk, wS_cont, wS_never, wS_nil, wS_cons, wS_for, wS_whl, wF_nx, wF_rt, wF_bk, wF_ct, wv_some, wb_some, wc_some, wm_some, wz_bl, wE_some, wN_some, wo_some, wo_none, wo_ite, List.getElem?_cons_zero, List.getElem?_cons_succ, List.set_cons_zero, List.set_cons_succ, List.map_cons, List.map_nil, List.cons_append, List.nil_append, List.append_nil, List.replicate_succ, List.replicate_zero, List.length_cons, List.length_nil, Bop.f, Cop.f, Bi.f, Im.f, wl_some, wj_some, wa_some, wbs_some, add_ii, add_ss, add_rr, sub_ii, mul_ii, mul_si, div_ii, mod_ii, pow_ii, neg_i, eq_ii, ne_ii, eq_ss, ne_ss, lt_ii, le_ii, gt_ii, ge_ii, eq_bb, ne_bb, in_cs, tr_b, tr_i, ix_r, ix_t, ix_f, ix_s, sl_s, sl_r, set_r, len_s, len_r, len_f, len_t, abs_i, max_ii, min_ii, max_r, min_r, int_i, int_b, list_r, sum_r, all_r, isi_ii, isi_ib, isi_ss, aug_ii, aug_sub, sel_app, sel_index, sel_pop, sel_count, sel_join, app_r, count_s, wx_some, idx_r, wT_some, join_r, src_s, src_f, src_t, src_r, if_true, if_false, Bool.not_true, Bool.not_false, Bool.false_eq_true]
    exact ⟨g.die, _, rfl⟩
  · subst he
    exact h U _
theorem lw2_ok (ns : List Int) (h : ∀ e T, R (.nx e) T) : WpS (evS (run ds (k + 5)) lw2 [some (.fl (ns.map D.int)), none, none, none] S) R := by
  simp only [lw2, we_c, we_v, we_bin, we_neg, we_cmp, we_chn, we_no, we_and, we_or, we_ife, we_tup, we_lst, we_ix, we_sl, we_bi, we_mt, we_call, we_lrg1, we_lrg2, we_lc, ws_nil, ws_cons, wo_nil, wo_cons, wt_nil, wt_cons, wi_rng1, wi_rng2, wi_rng3, wi_of, wi_int, wS_asgN, wS_asgT, wS_asgS, wS_par2, wS_par3, wS_aug, wS_ex, wS_ret, wS_retN, wS_iff, wS_pass, wS_brk, wS_cont, wS_never, wS_nil, wS_cons, wS_for, wS_whl, wF_nx, wF_rt, wF_bk, wF_ct, wv_some, wb_some, wc_some, wm_some, wz_bl, wE_some, wN_some, wo_some, wo_none, wo_ite, List.getElem?_cons_zero, List.getElem?_cons_succ, List.set_cons_zero, List.set_cons_succ, List.map_cons, List.map_nil, List.cons_append, List.nil_append, List.append_nil, List.replicate_succ, List.replicate_zero, List.length_cons, List.length_nil, len_f, min_ii, max_ii, List.length_map, Bi.f]
  obtain ⟨c, hc, ec⟩ := clip (ns.length : Nat)
  rw [ec, rng_1 _ (by omega), Int.toNat_natCast]
  refine wp_turns (rangeD 0 c) (fun i e T => ∃ x1 x2 x3, e = [some (.fl (ns.map D.int)), x1, x2, x3]) (fun _ _ _ _ => rfl) (fun i d e T hx hP => ?_) (fun e T hP => h e T) fuel 0 _ _ (by rw [range_len]; show _ < 1000000000; omega) (Nat.zero_le _) ⟨_, _, _, rfl⟩
  obtain ⟨x1, x2, x3, rfl⟩ := hP
  obtain ⟨hi, rfl⟩ := range_get hx
  rw [show (0 + (i : Nat) : Int) = ((i : Nat) : Int) by omega]
  show WpS (evSs (run ds (k + 5)) (.cons lw0 (.cons lw1 .nil)) [some (.fl (ns.map D.int)), some (.int (i : Nat)), x2, x3] T) _
  rw [wS_cons]
  simp only [lw0, wS_asgN, we_call, ws_cons, ws_nil, we_v, List.getElem?_cons_zero, List.getElem?_cons_succ, wv_some]
  refine dice_ok ns i (by omega) fun T1 hd hp => ?_
  simp only [List.set_cons_zero, List.set_cons_succ]
  rw [wF_nx, wS_cons]
  refine lw1_ok _ hd fun T2 x => ?_
  rw [wF_nx, wS_nil]
  exact ⟨_, _, _, rfl⟩
theorem r1 : (firstO [114]).isSome = true := by decide +kernel
theorem r2 : (firstO [117, 114]).isSome = true := by decide +kernel
theorem r3 : firstO [114, 114] = none := by decide +kernel
theorem r4 : partO [114, 114] = some 1 := by decide +kernel
theorem eq_ag : fEq (.tup [.str [97, 103, 97, 105, 110], .int 1]) (.tup [.str [97, 103, 97, 105, 110], .int 1]) S = some (.bl true, S) := by kernel_rfl
theorem lw3_ok {e : Env} (h : ∀ T, R (.rt (.bl true)) T) : WpS (evS (run ds (k + 5)) lw3 e S) R := by
  simp only [lw3, we_c, we_v, we_bin, we_neg, we_cmp, we_chn, we_no, we_and, we_or, we_ife, we_tup, we_lst, we_ix, we_sl, we_bi, we_mt, we_call, we_lrg1, we_lrg2, we_lc, ws_nil, ws_cons, wo_nil, wo_cons, wt_nil, wt_cons, wi_rng1, wi_rng2, wi_rng3, wi_of, wi_int, wS_asgN, wS_asgT, wS_asgS, wS_par2, wS_par3, wS_aug, wS_ex, wS_ret, wS_retN, wS_iff, wS_pass, wS_brk, wS_cont, wS_never, wS_nil, wS_cons, wS_for, wS_whl, wF_nx, wF_rt, wF_bk, wF_ct, wv_some, wb_some, wc_some, wm_some, wz_bl, wE_some, wN_some, wo_some, wo_none, wo_ite, List.getElem?_cons_zero, List.getElem?_cons_succ, List.set_cons_zero, List.set_cons_succ, List.map_cons, List.map_nil, List.cons_append, List.nil_append, List.append_nil, List.replicate_succ, List.replicate_zero, List.length_cons, List.length_nil, Cop.f]
  refine is_straight_ok (k := k + 1) [114] (by decide) (by decide) (by intro c hc; left; exact List.mem_singleton.mp hc) fun T hp => ?_
  rw [r1, tr_b, wb_some, if_pos rfl]
  refine is_straight_ok (k := k + 1) [117, 114] (by decide) (by decide) (by intro c hc; rcases List.mem_cons.mp hc with q | q; exact .inr q; exact .inl (List.mem_singleton.mp q)) fun T2 hp2 => ?_
  rw [r2, tr_b, wb_some, if_pos rfl]
  have ru2 : Ru [114, 114] := by intro c hc; rcases List.mem_cons.mp hc with q | q; exact .inl q; exact .inl (List.mem_singleton.mp q)
  refine is_straight_ok (k := k + 1) [114, 114] (by decide) (by decide) ru2 fun T3 hp3 => ?_
  rw [r3]
  simp only [Option.isSome, tr_b, wb_some, Bool.not_false, if_true]
  refine straight_paper_ok (k := k + 1) [114, 114] (by decide) (by decide) ru2 (no_paper (by decide) ru2) fun T4 d hp4 hd => ?_
  refine ⟨line_of (by decide), ?_⟩
  have ed : d = .tup [.str [97, 103, 97, 105, 110], .int 1] := by
    cases hd with
    | straight a q => rw [r3] at q; cases q
    | again s q1 q2 => rw [r4] at q2; cases q2; rfl
    | uneven i j s q1 q2 => rw [r4] at q2; cases q2
  rw [ed, eq_ag]
  exact h T4
theorem law_run (k : Nat) (ns : List Int) (S : Mem) : Wp (run ds (k + 6) 32 [.fl (ns.map D.int)] S) fun d _ => d = .bl true := by
  refine wp_run (d := d32) rfl rfl ?_
  rw [lwbody]
  show WpS (evSs (run ds (k + 5)) (.cons lw2 (.cons lw3 .nil)) [some (.fl (ns.map D.int)), none, none, none] S) _
  rw [wS_cons]
  refine lw2_ok ns fun e T => ?_
  rw [wF_nx, wS_cons]
  refine lw3_ok fun T3 => ?_
  rw [wF_rt]
theorem run_law : ∀ (ns : List Int) (S0 : Mem), ns.length ≤ 63 → ∃ S, run ds (24 + 6) 32 [.fl (ns.map D.int)] S0 = .ok (.bl true) S := fun ns S0 _ => Wp.true (law_run 24 ns S0)
end K86

set_option Elab.async false
set_option linter.all false
set_option maxRecDepth 100000
set_option maxHeartbeats 0
namespace K86
open PySem PySem.Spec PyProof.Rows L2 Mi
/-! ### the head -/
abbrev R : PySem.W.OpenRow := PySem.W.OpenLaw.row PySem.Challenge.rw_gluedsquares_k86_whole_straight_words_an
def fa : List He.Fa := fasOf gl ++ fasEx exs
def fn : List He.DefD := fs.map Fn.df
abbrev hk : PySem.W.Hook := He.hookD 4 fa fn
def ob (s : PySem.W.SharedT) : He.AlD := He.obsDG 4 fa fn (HandSHeadRun.getT s)
theorem ob_eq (s : PySem.W.SharedT) : ob s = hk.obs s.abs := He.obsDG_eq (HandSHeadRun.getT_eq s)
def loose : List PySem.Str := (["GluedError", "InvalidOperation", "MOST_LETTERS", "STRAIGHT", "UNEVEN", "AGAIN", "share_of", "low_steps", "low_in", "counts_in", "first_in", "sums_in", "extremes", "uneven_in", "part_again", "is_index", "is_uneven", "is_again", "is_low_from", "require_step_word"] : List PySem.Str) ++ (["is_straight", "slope_of", "straight_paper", "is_straight_paper", "_law_dice", "_law_roll", "_law_pick", "_law_is_int", "_law_gcd", "_law_low", "_law_is_round_even", "_law_is_straight", "_law_wd_slope", "_law_wd_part", "_law_some", "_law_is_paper", "_law_near", "_law_right"] : List PySem.Str)
theorem head_run (w : World) : HandSHeadRun.RunEq R (PySem.W.view R.prog [41]) hk ob 4000 loose w := by
  intro os
  kernel_rfl
theorem facts {P : Program} {w : World} {K : PySem.W.Frag} {h : Heap} {mg : Str → Option Value} {f : Addr} (X : K.In h) (Gn : h.Ns mainGlobals mg) (hfa : mg ("law" : Str) = some (.ref f)) (c : He.SaysD fa fn K) :
    ∃ fd : FuncData, (∀ (s : Shared) (v : Value), BindsTo s fd ⟨[v], []⟩ [("script", v)]) ∧ ∀ base : Heap, K.In base → base.Ns mainGlobals mg → FnOk P w K mg base L2.CX0 (24 + 6) f fd ["script"] (spLaw K 63) := by
  have g : GlOk K mg gl exs fs := glOk_of X Gn gl_ok c
  obtain ⟨fd, F⟩ := g.fd 32 f32 rfl
  obtain ⟨f', e1, e2⟩ := g.fn "law" 32 (by kernel_rfl)
  cases e1
  have e := hfa.symm.trans e2
  cases e
  have b := FunD.bindsA (ps := ["script"]) F fun _ _ _ _ _ _ us hl => match us, hl with | [_], _ => rfl
  exact ⟨fd, fun s v => b s [v] rfl, fun base _ _ => law_ok all_ok g rfl F rfl run_law⟩
end K86
open PySem PySem.W PySem.Calls PyProof.Rows
theorem PySem.Challenge.cw_gluedsquares_k86_whole_straight_words_an_holds : PySem.Challenge.rw_gluedsquares_k86_whole_straight_words_an.Holds := by
  w_on; o_law
  refine HandSHeadRun.head_any (r := OpenLaw.row PySem.Challenge.rw_gluedsquares_k86_whole_straight_words_an) (q := view (OpenLaw.row PySem.Challenge.rw_gluedsquares_k86_whole_straight_words_an).prog [41]) (H := K86.hk) (ob := K86.ob) (M := 4000) (loose := K86.loose) (d := HandSHeadRun.topDef (OpenLaw.row PySem.Challenge.rw_gluedsquares_k86_whole_straight_words_an).prog 41) (kwd := []) K86.ob_eq
    (by kernel_rfl) (fun s => by kernel_rfl) K86.head_run (by kernel_rfl) (by kernel_rfl) (by kernel_rfl) (by rfl) (by first | assumption | decide +kernel) (by decide +kernel) ⟨rfl, rfl, rfl, rfl, rfl, by decide +kernel⟩ ?hw ?hc
  case hw => w_witness2
  case hc =>
    refine L2.walk_ofE (l := PySem.Challenge.rw_gluedsquares_k86_whole_straight_words_an) (n := 63) (k := (24 + 6)) (x := "script") (CX := L2.CX0) rfl (by decide) (by kernel_rfl) ⟨rfl, by decide, by decide⟩ ?F (fun _ _ _ _ z => z)
    intro w mg fa h Y Gn hmg0
    obtain ⟨K, KX, c⟩ := Y
    have hmg : mg ("law" : PySem.Str) = some (.ref fa) := by
      have e : (HandSHeadRun.topDef (OpenLaw.row PySem.Challenge.rw_gluedsquares_k86_whole_straight_words_an).prog 41).name = ("law" : PySem.Str) := by kernel_rfl
      rw [← e]
      exact hmg0
    obtain ⟨fd, hb, hF⟩ := K86.facts (P := (PySem.Challenge.rw_gluedsquares_k86_whole_straight_words_an).prog) (w := w) KX Gn hmg c
    exact ⟨K, fd, Mi.spLaw K 63, KX, hb, fun H a ns hl ho hS => ⟨a, ns, rfl, hl, Mi.only_fx ho hS, fun _ => rfl⟩, hF⟩

