import PyProof.Rows.All
import Wide.All
import OpenK.AllK
import Wide.FinOn
import HandS.ForMost
import HandS.Flow
import HandS.Exc
import HandS.TryOnly
import HandS.TryMany
import HandS.CallSlots
import HandS.Defaults
import HandS.HeadHook2
import HandS.HeadHook4
import HandS.Head2
import HandS.HeadEnd
import HandS.TupAny
import HandS.TupLe
import HandS.Style
import HandS.Wide
import HandS.IsInst
import HandS.SortInts
import HandS.ReplaceLit
import HandS.ReplaceList
import HandS.Star
import HandS.Conv
import HandS.Walk
import HandS.Iter
import HandS.ExcOwn
import HandS.WordsExc
import PySem.Challenge.RW_gluedsquares_k85_whole_low_words
set_option Elab.async false
set_option linter.all false
set_option maxRecDepth 100000
set_option maxHeartbeats 4000000
/-! MiA: plain data, plain memory, and how they lie in the abstract heap -/
namespace Mi
open PySem PySem.Spec PyProof.Rows L2

/-- plain data: a tuple, a fixed list, an instance that never changes stand for themselves; what changes is told by its place in the plain memory -/
inductive D where
  | non | bl (b : Bool) | int (i : Int) | str (cs : List Nat)
  | tup (xs : List D) | fl (xs : List D) | ref (n : Nat) | gl (x : Str) | ty (n : String) | obj (c : Str) (fs : List D)
inductive Cell where
  | lst (xs : List D) | dK (kvs : List (Key × D)) | dead
abbrev Mem := List Cell
abbrev Env := List (Option D)
def Cell.live : Cell → Bool
  | .dead => false
  | _ => true
/-- an exception: its class's name, what it keeps -/
structure Xn where
  cls : Str
  pay : List (Str × D)
inductive Out (α : Type) where
  | ok (a : α) (S : Mem) | exc (x : Xn) (S : Mem) | bad
inductive Fl where
  | nx (e : Env) | rt (d : D) | bk (e : Env) | ct (e : Env)
inductive OS where
  | ok (f : Fl) (S : Mem) | exc (x : Xn) (e : Env) (S : Mem) | bad
@[reducible] def Out.bind {α β : Type} (o : Out α) (f : α → Mem → Out β) : Out β := match o with
  | .ok a S => f a S
  | .exc x S => .exc x S
  | .bad => .bad
def lift {α : Type} (o : Option (α × Mem)) : Out α := match o with
  | some (a, S) => .ok a S
  | none => .bad

/-- where the places of the plain memory lie; which instances never change again -/
structure Wo where
  ρ : List Addr
  fz : List Addr

structure Later (ω : Wo) (H : Hp) (ω' : Wo) (H' : Hp) : Prop where
  pre : ∃ m, ω'.ρ = ω.ρ ++ m
  tup : ∀ a xs, H a = some (.tup xs) → H' a = some (.tup xs)
  frz : ∀ a o u, H a = some (.frz o u) → H' a = some (.frz o u)
  fz : ∀ a, a ∈ ω.fz → a ∈ ω'.fz ∧ H' a = H a
theorem Later.refl (ω : Wo) (H : Hp) : Later ω H ω H := ⟨⟨[], by simp⟩, fun _ _ h => h, fun _ _ _ h => h, fun _ h => ⟨h, rfl⟩⟩
theorem Later.trans {ω ω1 ω2 : Wo} {H H1 H2 : Hp} (a : Later ω H ω1 H1) (b : Later ω1 H1 ω2 H2) : Later ω H ω2 H2 := by
  refine ⟨?_, fun x xs h => b.tup x xs (a.tup x xs h), fun x o u h => b.frz x o u (a.frz x o u h), fun x h => ?_⟩
  · obtain ⟨m, e⟩ := a.pre
    obtain ⟨m2, e2⟩ := b.pre
    exact ⟨m ++ m2, by rw [e2, e, List.append_assoc]⟩
  · obtain ⟨h1, e1⟩ := a.fz x h
    obtain ⟨h2, e2⟩ := b.fz x h1
    exact ⟨h2, e2.trans e1⟩
theorem Later.get {ω ω' : Wo} {H H' : Hp} (L : Later ω H ω' H') {n : Nat} {a : Addr} (h : ω.ρ[n]? = some a) : ω'.ρ[n]? = some a := by
  obtain ⟨m, e⟩ := L.pre
  have hl : n < ω.ρ.length := (List.getElem?_eq_some_iff.mp h).1
  rw [e, List.getElem?_append_left hl]
  exact h

/-- a list that nobody changes -/
def FxL (K : PySem.W.Frag) (H : Hp) (a : Addr) (xs : List V) : Prop :=
  (∃ o, H a = some (.frz o (.lst xs))) ∨
    ∃ (o : Obj) (its : Array Value) (n : Nat), K.lookup a = some o ∧ o.cls = .type "list" ∧ o.dict = none ∧ o.data = .seq its n ∧ its.size ≤ sizeLine ∧ Vals xs its.toList
theorem FxL.seq {K : PySem.W.Frag} {H : Hp} {a : Addr} {xs : List V} (h : FxL K H a xs) : SqL K H a xs := by
  rcases h with h | h
  · exact .inl (.inr h)
  · exact .inr h
/-- an instance at a with its attributes (those of a class with slots lie where SlotsOf says; given later) -/
abbrev InsR := Hp → Addr → Str → List V → Prop

mutual
inductive RelD (K : PySem.W.Frag) (ω : Wo) (H : Hp) : D → V → Prop
  | non : RelD K ω H .non .non
  | bl (b : Bool) : RelD K ω H (.bl b) (.bl b)
  | int (i : Int) : RelD K ω H (.int i) (.int i)
  | str (cs : List Nat) : RelD K ω H (.str cs) (.str ⟨cs.toArray⟩)
  | tup {a : Addr} {xs : List D} {vs : List V} : SqT K H a vs → RelDs K ω H xs vs → RelD K ω H (.tup xs) (.ref a)
  | fl {a : Addr} {xs : List D} {vs : List V} : FxL K H a vs → RelDs K ω H xs vs → RelD K ω H (.fl xs) (.ref a)
  | ref {a : Addr} {n : Nat} : ω.ρ[n]? = some a → RelD K ω H (.ref n) (.ref a)
  | gl (x : Str) : RelD K ω H (.gl x) (.ref (He.ga K x))
  | ty (n : String) : RelD K ω H (.ty n) (.ty n)
inductive RelDs (K : PySem.W.Frag) (ω : Wo) (H : Hp) : List D → List V → Prop
  | nil : RelDs K ω H [] []
  | cons {d : D} {v : V} {ds : List D} {vs : List V} : RelD K ω H d v → RelDs K ω H ds vs → RelDs K ω H (d :: ds) (v :: vs)
end
section
variable {K : PySem.W.Frag} {ω ω' : Wo} {H H' : Hp}
theorem sqt_later (L : Later ω H ω' H') {a : Addr} {vs : List V} (h : SqT K H a vs) : SqT K H' a vs := by
  rcases h with (h | ⟨o, h⟩) | h
  · exact .inl (.inl (L.tup _ _ h))
  · exact .inl (.inr ⟨o, L.frz _ _ _ h⟩)
  · exact .inr h
theorem fxl_later (L : Later ω H ω' H') {a : Addr} {vs : List V} (h : FxL K H a vs) : FxL K H' a vs := by
  rcases h with ⟨o, h⟩ | h
  · exact .inl ⟨o, L.frz _ _ _ h⟩
  · exact .inr h
mutual
theorem RelD.mono (L : Later ω H ω' H') : ∀ (d : D) (v : V), RelD K ω H d v → RelD K ω' H' d v
  | .non, _, h => by cases h; exact .non
  | .bl b, _, h => by cases h; exact .bl b
  | .int i, _, h => by cases h; exact .int i
  | .str cs, _, h => by cases h; exact .str cs
  | .tup xs, _, h => by
    cases h with
    | tup h1 h2 => exact .tup (sqt_later L h1) (RelDs.mono L xs _ h2)
  | .fl xs, _, h => by
    cases h with
    | fl h1 h2 => exact .fl (fxl_later L h1) (RelDs.mono L xs _ h2)
  | .ref n, _, h => by
    cases h with
    | ref h1 => exact .ref (L.get h1)
  | .gl x, _, h => by cases h; exact .gl x
  | .ty n, _, h => by cases h; exact .ty n
  | .obj c fs, _, h => by cases h
theorem RelDs.mono (L : Later ω H ω' H') : ∀ (ds : List D) (vs : List V), RelDs K ω H ds vs → RelDs K ω' H' ds vs
  | [], _, h => by cases h; exact .nil
  | d :: ds, _, h => by
    cases h with
    | cons h1 h2 => exact .cons (RelD.mono L d _ h1) (RelDs.mono L ds _ h2)
end
theorem RelD.later {d : D} {v : V} (h : RelD K ω H d v) (L : Later ω H ω' H') : RelD K ω' H' d v := RelD.mono L d v h
theorem RelDs.later {ds : List D} {vs : List V} (h : RelDs K ω H ds vs) (L : Later ω H ω' H') : RelDs K ω' H' ds vs := RelDs.mono L ds vs h
theorem RelDs.length : ∀ {ds : List D} {vs : List V}, RelDs K ω H ds vs → ds.length = vs.length
  | [], _, h => by cases h; rfl
  | d :: ds, _, h => by
    cases h with
    | cons h1 h2 => rw [List.length_cons, List.length_cons, RelDs.length h2]
theorem RelDs.get : ∀ {ds : List D} {vs : List V} {i : Nat} {d : D}, RelDs K ω H ds vs → ds[i]? = some d → ∃ v, vs[i]? = some v ∧ RelD K ω H d v
  | [], _, _, _, _, e => by simp at e
  | x :: ds, _, 0, d, h, e => by
    cases h with
    | cons h1 h2 =>
      have e' : x = d := by simpa using e
      subst e'
      exact ⟨_, rfl, h1⟩
  | x :: ds, _, i + 1, d, h, e => by
    cases h with
    | cons h1 h2 =>
      obtain ⟨v, h3, h4⟩ := RelDs.get (i := i) (d := d) h2 (by simpa using e)
      exact ⟨v, by simpa using h3, h4⟩
theorem RelDs.getV : ∀ {ds : List D} {vs : List V} {i : Nat} {v : V}, RelDs K ω H ds vs → vs[i]? = some v → ∃ d, ds[i]? = some d ∧ RelD K ω H d v
  | [], _, _, _, h, e => by cases h; simp at e
  | x :: ds, _, 0, v, h, e => by
    cases h with
    | cons h1 h2 =>
      rename_i u vs
      have e' : u = v := by simpa using e
      subst e'
      exact ⟨_, rfl, h1⟩
  | x :: ds, _, i + 1, v, h, e => by
    cases h with
    | cons h1 h2 =>
      obtain ⟨d, h3, h4⟩ := RelDs.getV (i := i) (v := v) h2 (by simpa using e)
      exact ⟨d, by simpa using h3, h4⟩
theorem RelDs.append : ∀ {ds es : List D} {vs us : List V}, RelDs K ω H ds vs → RelDs K ω H es us → RelDs K ω H (ds ++ es) (vs ++ us)
  | [], _, _, _, h, k => by cases h; exact k
  | d :: ds, _, _, _, h, k => by
    cases h with
    | cons h1 h2 => exact .cons h1 (RelDs.append h2 k)
theorem RelDs.set {x : D} {u : V} (r : RelD K ω H x u) : ∀ {ds : List D} {vs : List V} (i : Nat), RelDs K ω H ds vs → RelDs K ω H (ds.set i x) (vs.set i u)
  | [], _, _, h => by cases h; exact .nil
  | d :: ds, _, 0, h => by
    cases h with
    | cons h1 h2 => exact .cons r h2
  | d :: ds, _, i + 1, h => by
    cases h with
    | cons h1 h2 => exact .cons h1 (RelDs.set r i h2)
theorem RelDs.take : ∀ {ds : List D} {vs : List V} (n : Nat), RelDs K ω H ds vs → RelDs K ω H (ds.take n) (vs.take n)
  | _, _, 0, _ => by rw [List.take_zero, List.take_zero]; exact .nil
  | [], _, n + 1, h => by cases h; exact .nil
  | d :: ds, _, n + 1, h => by
    cases h with
    | cons h1 h2 => exact .cons h1 (RelDs.take n h2)
theorem RelDs.drop : ∀ {ds : List D} {vs : List V} (n : Nat), RelDs K ω H ds vs → RelDs K ω H (ds.drop n) (vs.drop n)
  | _, _, 0, h => h
  | [], _, n + 1, h => by cases h; exact .nil
  | d :: ds, _, n + 1, h => by
    cases h with
    | cons h1 h2 => exact RelDs.drop n h2
theorem RelDs.reverse {ds : List D} {vs : List V} (h : RelDs K ω H ds vs) : RelDs K ω H ds.reverse vs.reverse := by
  induction ds generalizing vs with
  | nil => cases h; exact .nil
  | cons d ds ih =>
    cases h with
    | cons h1 h2 =>
      rw [List.reverse_cons, List.reverse_cons]
      exact RelDs.append (ih h2) (.cons h1 .nil)
theorem RelDs.eraseIdx : ∀ {ds : List D} {vs : List V} (i : Nat), RelDs K ω H ds vs → RelDs K ω H (ds.eraseIdx i) (vs.eraseIdx i)
  | [], _, _, h => by cases h; exact .nil
  | d :: ds, _, 0, h => by
    cases h with
    | cons h1 h2 => exact h2
  | d :: ds, _, i + 1, h => by
    cases h with
    | cons h1 h2 => exact .cons h1 (RelDs.eraseIdx i h2)
theorem RelDs.dropLast {ds : List D} {vs : List V} (h : RelDs K ω H ds vs) : RelDs K ω H ds.dropLast vs.dropLast := by
  rw [List.dropLast_eq_take, List.dropLast_eq_take, ← h.length]
  exact h.take _
theorem RelDs.rep {ds : List D} {vs : List V} (h : RelDs K ω H ds vs) : ∀ k : Nat, RelDs K ω H (List.replicate k ds).flatten (List.replicate k vs).flatten
  | 0 => .nil
  | k + 1 => by
    rw [List.replicate_succ, List.replicate_succ, List.flatten_cons, List.flatten_cons]
    exact RelDs.append h (RelDs.rep h k)
theorem RelDs.ints : ∀ {ns : List Int} {vs : List V}, RelDs K ω H (ns.map D.int) vs → vs = ns.map V.int
  | [], _, h => by cases h; rfl
  | n :: ns, _, h => by
    cases h with
    | cons h1 h2 => cases h1; rw [RelDs.ints h2, List.map_cons]
theorem RelDs.ofInts : ∀ (ns : List Int), RelDs K ω H (ns.map D.int) (ns.map V.int)
  | [] => .nil
  | n :: ns => .cons (.int n) (RelDs.ofInts ns)
theorem RelDs.bls : ∀ {ns : List Bool} {vs : List V}, RelDs K ω H (ns.map D.bl) vs → vs = ns.map V.bl
  | [], _, h => by cases h; rfl
  | n :: ns, _, h => by
    cases h with
    | cons h1 h2 => cases h1; rw [RelDs.bls h2, List.map_cons]
theorem RelDs.strs : ∀ {ns : List (List Nat)} {vs : List V}, RelDs K ω H (ns.map D.str) vs → vs = (ns.map fun cs => (⟨cs.toArray⟩ : Str)).map V.str
  | [], _, h => by cases h; rfl
  | n :: ns, _, h => by
    cases h with
    | cons h1 h2 => cases h1; rw [RelDs.strs h2]; rfl
theorem RelDs.ofStrs : ∀ (ns : List (List Nat)), RelDs K ω H (ns.map D.str) ((ns.map fun cs => (⟨cs.toArray⟩ : Str)).map V.str)
  | [] => .nil
  | n :: ns => .cons (.str n) (RelDs.ofStrs ns)
end

/-! ### dicts' pairs -/
inductive RelKs (K : PySem.W.Frag) (ω : Wo) (H : Hp) : List (Key × D) → List (Key × V) → Prop
  | nil : RelKs K ω H [] []
  | cons {k : Key} {d : D} {v : V} {ds : List (Key × D)} {vs : List (Key × V)} : RelD K ω H d v → RelKs K ω H ds vs → RelKs K ω H ((k, d) :: ds) ((k, v) :: vs)
theorem RelKs.later {K : PySem.W.Frag} {ω ω' : Wo} {H H' : Hp} (L : Later ω H ω' H') : ∀ {ds : List (Key × D)} {vs : List (Key × V)}, RelKs K ω H ds vs → RelKs K ω' H' ds vs
  | [], _, h => by cases h; exact .nil
  | (k, d) :: ds, _, h => by
    cases h with
    | cons h1 h2 => exact .cons (h1.later L) (RelKs.later L h2)

/-! ### the plain memory in the heap -/
def CellR (K : PySem.W.Frag) (ω : Wo) (H : Hp) : Cell → Addr → Prop
  | .lst xs, a => ∃ vs, H a = some (.lst vs) ∧ RelDs K ω H xs vs
  | .dK kvs, a => ∃ kws, H a = some (.dK kws) ∧ RelKs K ω H kvs kws
  | .dead, _ => True
structure Sim (K : PySem.W.Frag) (ω : Wo) (S : Mem) (H : Hp) : Prop where
  len : ω.ρ.length = S.length
  cell : ∀ (n : Nat) (c : Cell) (a : Addr), S[n]? = some c → ω.ρ[n]? = some a → CellR K ω H c a
  inj : ∀ (n m : Nat) (c c' : Cell) (a : Addr), S[n]? = some c → S[m]? = some c' → c.live = true → c'.live = true → ω.ρ[n]? = some a → ω.ρ[m]? = some a → n = m
  fzs : ∀ a, a ∈ ω.fz → (∃ o, H a = some o) ∧ ∀ (n : Nat) (c : Cell), S[n]? = some c → c.live = true → ω.ρ[n]? ≠ some a
section
variable {K : PySem.W.Frag} {ω ω' : Wo} {H H' : Hp} {S : Mem}
theorem Sim.at_ (s : Sim K ω S H) {n : Nat} {c : Cell} (h : S[n]? = some c) : ∃ a, ω.ρ[n]? = some a ∧ CellR K ω H c a := by
  have hl : n < S.length := (List.getElem?_eq_some_iff.mp h).1
  have hl2 : n < ω.ρ.length := by rw [s.len]; exact hl
  exact ⟨ω.ρ[n], List.getElem?_eq_getElem hl2, s.cell n c _ h (List.getElem?_eq_getElem hl2)⟩
theorem CellR.there {c : Cell} {a : Addr} (h : CellR K ω H c a) (hl : c.live = true) : ∃ o, H a = some o := by
  cases c with
  | lst xs => obtain ⟨vs, e, _⟩ := h; exact ⟨_, e⟩
  | dK kvs => obtain ⟨vs, e, _⟩ := h; exact ⟨_, e⟩
  | dead => cases hl
/-- what lies at a cell's place is no tuple and not locked -/
theorem CellR.mut {c : Cell} {a : Addr} (h : CellR K ω H c a) (hl : c.live = true) : (∀ xs, H a ≠ some (HO.tup xs)) ∧ (∀ o u, H a ≠ some (HO.frz o u)) := by
  cases c with
  | lst xs => obtain ⟨vs, e, _⟩ := h; rw [e]; exact ⟨fun _ z => (by cases z), fun _ _ z => (by cases z)⟩
  | dK kvs => obtain ⟨vs, e, _⟩ := h; rw [e]; exact ⟨fun _ z => (by cases z), fun _ _ z => (by cases z)⟩
  | dead => cases hl
theorem CellR.later {c : Cell} {a : Addr} (h : CellR K ω H c a) (L : Later ω H ω' H') (e : H' a = H a) : CellR K ω' H' c a := by
  cases c with
  | lst xs => obtain ⟨vs, e1, r⟩ := h; exact ⟨vs, e.trans e1, r.later L⟩
  | dK kvs => obtain ⟨vs, e1, r⟩ := h; exact ⟨vs, e.trans e1, r.later L⟩
  | dead => trivial
/-- a new object that nobody changes -/
theorem later_new {p : Addr} {o : HO} (h : H p = none) (hf : p ∉ ω.fz) : Later ω H ω (upd H p o) :=
  ⟨⟨[], by simp⟩, fun a xs e => by rw [upd_ne (ne_of_none e h)]; exact e, fun a ob u e => by rw [upd_ne (ne_of_none e h)]; exact e, fun a ha => ⟨ha, upd_ne fun z => hf (z ▸ ha)⟩⟩
theorem Sim.nfz (s : Sim K ω S H) {p : Addr} (h : H p = none) : p ∉ ω.fz := fun z => by
  obtain ⟨⟨o, e⟩, _⟩ := s.fzs p z
  rw [h] at e; cases e
theorem Sim.nat_ (s : Sim K ω S H) {p : Addr} (h : H p = none) {n : Nat} {c : Cell} (hc : S[n]? = some c) (hl : c.live = true) : ω.ρ[n]? ≠ some p := fun z => by
  obtain ⟨o, e⟩ := (s.cell n c p hc z).there hl
  rw [h] at e; cases e
theorem Sim.new (s : Sim K ω S H) {p : Addr} {o : HO} (h : H p = none) : Sim K ω S (upd H p o) ∧ Later ω H ω (upd H p o) := by
  have L := later_new (ω := ω) (o := o) h (s.nfz h)
  refine ⟨⟨s.len, fun n c a hc ha => ?_, s.inj, fun a ha => ?_⟩, L⟩
  · cases hl : c.live with
    | true =>
      have hne : a ≠ p := fun z => s.nat_ h hc hl (by rw [ha, z])
      exact (s.cell n c a hc ha).later L (upd_ne hne)
    | false =>
      cases c with
      | dead => trivial
      | _ => cases hl
  · obtain ⟨⟨u, e⟩, h2⟩ := s.fzs a ha
    exact ⟨⟨u, by rw [upd_ne (ne_of_none e h)]; exact e⟩, h2⟩
/-- a new place -/
theorem Sim.alloc (s : Sim K ω S H) {p : Addr} {o : HO} {c : Cell} (h : H p = none) (hc : ∀ ω', Later ω H ω' (upd H p o) → CellR K ω' (upd H p o) c p) :
    Sim K ⟨ω.ρ ++ [p], ω.fz⟩ (S ++ [c]) (upd H p o) ∧ Later ω H ⟨ω.ρ ++ [p], ω.fz⟩ (upd H p o) ∧ RelD K ⟨ω.ρ ++ [p], ω.fz⟩ (upd H p o) (.ref S.length) (.ref p) := by
  obtain ⟨s1, L1⟩ := s.new (o := o) h
  have L : Later ω H ⟨ω.ρ ++ [p], ω.fz⟩ (upd H p o) := ⟨⟨[p], rfl⟩, L1.tup, L1.frz, L1.fz⟩
  have L2 : Later ω (upd H p o) ⟨ω.ρ ++ [p], ω.fz⟩ (upd H p o) := ⟨⟨[p], rfl⟩, fun _ _ e => e, fun _ _ _ e => e, fun _ e => ⟨e, rfl⟩⟩
  have get : ∀ {n : Nat} {c' : Cell}, (S ++ [c])[n]? = some c' → (n < S.length ∧ S[n]? = some c') ∨ (n = S.length ∧ c' = c) := fun {n c'} e => by
    by_cases hn : n < S.length
    · rw [List.getElem?_append_left hn] at e; exact .inl ⟨hn, e⟩
    · have hl := (List.getElem?_eq_some_iff.mp e).1
      rw [List.length_append, List.length_singleton] at hl
      have en : n = S.length := by omega
      subst en
      rw [List.getElem?_append_right (Nat.le_refl _), Nat.sub_self] at e
      exact .inr ⟨rfl, (Option.some.inj e).symm⟩
  have getA : ∀ {n : Nat} {a : Addr}, (ω.ρ ++ [p])[n]? = some a → (n < S.length → ω.ρ[n]? = some a) ∧ (n = S.length → a = p) := fun {n a} e => by
    refine ⟨fun hn => ?_, fun hn => ?_⟩
    · rw [List.getElem?_append_left (by rw [s.len]; exact hn)] at e; exact e
    · subst hn
      rw [List.getElem?_append_right (by rw [s.len]; exact Nat.le_refl _), s.len, Nat.sub_self] at e
      exact (Option.some.inj e).symm
  refine ⟨⟨by rw [List.length_append, List.length_append, s.len]; rfl, fun n c' a h1 h2 => ?_, fun n m c1 c2 a h1 h2 l1 l2 h3 h4 => ?_, fun a ha => ?_⟩, L, .ref ?_⟩
  · rcases get h1 with ⟨hn, e⟩ | ⟨hn, e⟩
    · exact (s1.cell n c' a e ((getA h2).1 hn)).later L2 rfl
    · rw [(getA h2).2 hn, e]
      exact hc _ L
  · rcases get h1 with ⟨hn, e⟩ | ⟨hn, e⟩ <;> rcases get h2 with ⟨hm, e'⟩ | ⟨hm, e'⟩
    · exact s.inj n m c1 c2 a e e' l1 l2 ((getA h3).1 hn) ((getA h4).1 hm)
    · rw [(getA h4).2 hm] at h3
      exact absurd ((getA h3).1 hn) (s.nat_ h e l1)
    · rw [(getA h3).2 hn] at h4
      exact absurd ((getA h4).1 hm) (s.nat_ h e' l2)
    · rw [hn, hm]
  · obtain ⟨h1, h2⟩ := s1.fzs a ha
    refine ⟨h1, fun n c' e l z => ?_⟩
    rcases get e with ⟨hn, e'⟩ | ⟨hn, e'⟩
    · exact h2 n c' e' l ((getA z).1 hn)
    · exact s.nfz h ((getA z).2 hn ▸ ha)
  · show (ω.ρ ++ [p])[S.length]? = some p
    rw [← s.len, List.getElem?_append_right (Nat.le_refl _), Nat.sub_self]
    rfl
/-- a place is written -/
theorem Sim.write (s : Sim K ω S H) {n : Nat} {a : Addr} {c c' : Cell} {o : HO} (hc : S[n]? = some c) (hl : c.live = true) (ha : ω.ρ[n]? = some a)
    (hn : Later ω H ω (upd H a o) → CellR K ω (upd H a o) c' a) : Sim K ω (S.set n c') (upd H a o) ∧ Later ω H ω (upd H a o) := by
  obtain ⟨m1, m2⟩ := (s.cell n c a hc ha).mut hl
  have hfz : a ∉ ω.fz := fun z => (s.fzs a z).2 n c hc hl ha
  have L : Later ω H ω (upd H a o) := ⟨⟨[], by simp⟩, fun b xs e => by rw [upd_ne (fun z => m1 xs (by rw [← z]; exact e))]; exact e, fun b ob u e => by rw [upd_ne (fun z => m2 ob u (by rw [← z]; exact e))]; exact e, fun b hb => ⟨hb, upd_ne fun z => hfz (z ▸ hb)⟩⟩
  have hlen : n < S.length := (List.getElem?_eq_some_iff.mp hc).1
  have get : ∀ {m : Nat} {d : Cell}, (S.set n c')[m]? = some d → (m = n ∧ d = c') ∨ (m ≠ n ∧ S[m]? = some d) := fun {m d} e => by
    by_cases hm : m = n
    · subst hm
      rw [List.getElem?_set_self hlen] at e
      exact .inl ⟨rfl, (Option.some.inj e).symm⟩
    · rw [List.getElem?_set_ne (Ne.symm hm)] at e
      exact .inr ⟨hm, e⟩
  refine ⟨⟨by rw [List.length_set]; exact s.len, fun m d b h1 h2 => ?_, fun m k c1 c2 b h1 h2 l1 l2 h3 h4 => ?_, fun b hb => ?_⟩, L⟩
  · rcases get h1 with ⟨e1, e2⟩ | ⟨e1, e2⟩
    · subst e1 e2
      have eb : b = a := Option.some.inj (h2.symm.trans ha)
      subst eb
      exact hn L
    · cases hd : d.live with
      | true =>
        have hne : b ≠ a := fun z => e1 (s.inj m n d c b e2 hc hd hl h2 (by rw [ha, z]))
        exact (s.cell m d b e2 h2).later L (upd_ne hne)
      | false =>
        cases d with
        | dead => trivial
        | _ => cases hd
  · rcases get h1 with ⟨e1, e2⟩ | ⟨e1, e2⟩ <;> rcases get h2 with ⟨f1, f2⟩ | ⟨f1, f2⟩
    · rw [e1, f1]
    · rw [e1] at h3 ⊢
      exact s.inj n k c c2 b hc f2 hl l2 h3 h4
    · rw [f1] at h4 ⊢
      exact s.inj m n c1 c b e2 hc l1 hl h3 h4
    · exact s.inj m k c1 c2 b e2 f2 l1 l2 h3 h4
  · obtain ⟨⟨u, e⟩, h2⟩ := s.fzs b hb
    have hba : b ≠ a := fun z => hfz (by rw [← z]; exact hb)
    refine ⟨⟨u, by rw [upd_ne hba]; exact e⟩, fun m d h1 l => ?_⟩
    rcases get h1 with ⟨e1, e2⟩ | ⟨e1, e2⟩
    · rw [e1]; exact h2 n c hc hl
    · exact h2 m d e2 l
end
end Mi

set_option Elab.async false
set_option linter.all false
set_option maxRecDepth 100000
set_option maxHeartbeats 4000000
/-! MiB: what is wanted behind a step; operators on plain data -/
namespace Mi
open PySem PySem.Spec PyProof.Rows L2

/-! ### an exception as it lies -/
inductive RelFs (K : PySem.W.Frag) (ω : Wo) (H : Hp) : List (Str × D) → List (Str × V) → Prop
  | nil : RelFs K ω H [] []
  | cons {k : Str} {d : D} {v : V} {ds : List (Str × D)} {vs : List (Str × V)} : RelD K ω H d v → RelFs K ω H ds vs → RelFs K ω H ((k, d) :: ds) ((k, v) :: vs)
theorem RelFs.later {K : PySem.W.Frag} {ω ω' : Wo} {H H' : Hp} (L : Later ω H ω' H') : ∀ {ds : List (Str × D)} {vs : List (Str × V)}, RelFs K ω H ds vs → RelFs K ω' H' ds vs
  | [], _, h => by cases h; exact .nil
  | (k, d) :: ds, _, h => by
    cases h with
    | cons h1 h2 => exact .cons (h1.later L) (RelFs.later L h2)
def RelX (K : PySem.W.Frag) (ω : Wo) (H : Hp) (x : Xn) (c : Value) (d : Option Addr) : Prop :=
  c = .ref (He.ga K x.cls) ∧ ((x.pay = [] ∧ d = none) ∨ ∃ a fs, d = some a ∧ H a = some (.xd fs) ∧ RelFs K ω H x.pay fs)

/-! ### what is wanted behind a step -/
section
variable {α β γ δ : Type}
def Post (R : Wo → Hp → α → β → Prop) (K : PySem.W.Frag) (W : XK) (ω : Wo) (H : Hp) (o : Out α) (Q : β → Hp → Prop) : Prop := match o with
  | .ok a S => ∀ ω' H' b, Later ω H ω' H' → Sim K ω' S H' → R ω' H' a b → Q b H'
  | .exc x S => ∀ ω' H' c d, Later ω H ω' H' → Sim K ω' S H' → RelX K ω' H' x c d → W c d H'
  | .bad => False
def PostO (R : Wo → Hp → α → β → Prop) (K : PySem.W.Frag) (ω : Wo) (H : Hp) (o : Option (α × Mem)) (Q : β → Hp → Prop) : Prop := match o with
  | some (a, S) => ∀ ω' H' b, Later ω H ω' H' → Sim K ω' S H' → R ω' H' a b → Q b H'
  | none => False
variable {R : Wo → Hp → α → β → Prop} {R2 : Wo → Hp → γ → δ → Prop} {K : PySem.W.Frag} {W : XK} {ω ω' : Wo} {H H' : Hp} {Q : β → Hp → Prop} {Q2 : δ → Hp → Prop}
theorem Post.later {o : Out α} (L : Later ω H ω' H') (h : Post R K W ω H o Q) : Post R K W ω' H' o Q := by
  cases o with
  | ok a S => exact fun ω2 H2 b L2 => h ω2 H2 b (L.trans L2)
  | exc x S => exact fun ω2 H2 c d L2 => h ω2 H2 c d (L.trans L2)
  | bad => exact h
theorem PostO.later {o : Option (α × Mem)} (L : Later ω H ω' H') (h : PostO R K ω H o Q) : PostO R K ω' H' o Q := by
  cases o with
  | some p => exact fun ω2 H2 b L2 => h ω2 H2 b (L.trans L2)
  | none => exact h
theorem Post.lift {o : Option (α × Mem)} (h : Post R K W ω H (lift o) Q) : PostO R K ω H o Q := by
  cases o with
  | some p => exact h
  | none => exact h
/-- a step, then what follows it -/
theorem Post.bind {o : Out α} {f : α → Mem → Out γ} (h : Post R2 K W ω H (o.bind f) Q2)
    (k : ∀ a S' ω' H' b, Later ω H ω' H' → Sim K ω' S' H' → R ω' H' a b → Post R2 K W ω' H' (f a S') Q2 → Q b H') : Post R K W ω H o Q := by
  cases o with
  | ok a S => exact fun ω2 H2 b L s r => k a S ω2 H2 b L s r (Post.later L h)
  | exc x S => exact h
  | bad => exact h
end

/-! ### the slots -/
structure EnvR (K : PySem.W.Frag) (ω : Wo) (H : Hp) (env : Env) (σ : L2.St) : Prop where
  len : env.length = σ.length
  at_ : ∀ (i : Nat) (d : D), env[i]? = some (some d) → ∃ v, σ[i]? = some (some v) ∧ RelD K ω H d v
section
variable {K : PySem.W.Frag} {ω ω' : Wo} {H H' : Hp} {env : Env} {σ : L2.St}
theorem EnvR.later (e : EnvR K ω H env σ) (L : Later ω H ω' H') : EnvR K ω' H' env σ := ⟨e.len, fun i d h => by
  obtain ⟨v, h1, h2⟩ := e.at_ i d h
  exact ⟨v, h1, h2.later L⟩⟩
theorem EnvR.set (e : EnvR K ω H env σ) (i : Nat) {d : D} {v : V} (r : RelD K ω H d v) : EnvR K ω H (env.set i (some d)) (σ.set i (some v)) := by
  refine ⟨by rw [List.length_set, List.length_set]; exact e.len, fun j d' h => ?_⟩
  by_cases hj : j = i
  · subst hj
    have hl : j < env.length := by
      have := (List.getElem?_eq_some_iff.mp h).1
      rw [List.length_set] at this; exact this
    rw [List.getElem?_set_self hl] at h
    have e1 : d = d' := Option.some.inj (Option.some.inj h)
    subst e1
    exact ⟨v, by rw [List.getElem?_set_self (by rw [← e.len]; exact hl)], r⟩
  · rw [List.getElem?_set_ne (Ne.symm hj)] at h
    obtain ⟨w, h1, h2⟩ := e.at_ j d' h
    exact ⟨w, by rw [List.getElem?_set_ne (Ne.symm hj)]; exact h1, h2⟩
theorem EnvR.drop (e : EnvR K ω H env σ) (i : Nat) : EnvR K ω H (env.set i none) (σ.set i none) := by
  refine ⟨by rw [List.length_set, List.length_set]; exact e.len, fun j d' h => ?_⟩
  by_cases hj : j = i
  · subst hj
    have hl : j < env.length := by
      have := (List.getElem?_eq_some_iff.mp h).1
      rw [List.length_set] at this; exact this
    rw [List.getElem?_set_self hl] at h
    cases h
  · rw [List.getElem?_set_ne (Ne.symm hj)] at h
    obtain ⟨w, h1, h2⟩ := e.at_ j d' h
    exact ⟨w, by rw [List.getElem?_set_ne (Ne.symm hj)]; exact h1, h2⟩
end

/-! ### operators by values -/
def rU2 (K : PySem.W.Frag) (f : D → D → Mem → Option (D × Mem)) : R2 := fun x y H Q => ∃ ω S a b, Sim K ω S H ∧ RelD K ω H a x ∧ RelD K ω H b y ∧ PostO (RelD K) K ω H (f a b S) Q
def rU1 (K : PySem.W.Frag) (f : D → Mem → Option (D × Mem)) : V → Hp → VK → Prop := fun x H Q => ∃ ω S a, Sim K ω S H ∧ RelD K ω H a x ∧ PostO (RelD K) K ω H (f a S) Q
def rUs (K : PySem.W.Frag) (f : List D → Mem → Option (D × Mem)) : List V → Hp → VK → Prop := fun xs H Q => ∃ ω S as, Sim K ω S H ∧ RelDs K ω H as xs ∧ PostO (RelD K) K ω H (f as S) Q
def rUm (K : PySem.W.Frag) (f : D → List D → Mem → Option (D × Mem)) : V → List V → Hp → VK → Prop := fun x xs H Q => ∃ ω S a as, Sim K ω S H ∧ RelD K ω H a x ∧ RelDs K ω H as xs ∧ PostO (RelD K) K ω H (f a as S) Q
section
variable {K : PySem.W.Frag} {ω : Wo} {H : Hp} {S : Mem} {Q : VK}
/-- the answer is plain -/
theorem PostO.give {d : D} {v : V} (s : Sim K ω S H) (r : RelD K ω H d v) (h : PostO (RelD K) K ω H (some (d, S)) Q) : Q v H := h ω H v (.refl ω H) s r
/-- the answer is a new tuple -/
theorem PostO.newTup {xs : List D} {vs : List V} (s : Sim K ω S H) (r : RelDs K ω H xs vs) (h : PostO (RelD K) K ω H (some (.tup xs, S)) Q) {p : Addr} (hp : H p = none) : Q (.ref p) (upd H p (.tup vs)) := by
  obtain ⟨s1, L⟩ := s.new (o := .tup vs) hp
  exact h ω _ _ L s1 (.tup (SqT.of upd_same) (r.later L))
/-- the answer is a new list -/
theorem PostO.newLst {xs : List D} {vs : List V} (s : Sim K ω S H) (r : RelDs K ω H xs vs) (h : PostO (RelD K) K ω H (some (.ref S.length, S ++ [.lst xs])) Q) {p : Addr} (hp : H p = none) : Q (.ref p) (upd H p (.lst vs)) := by
  obtain ⟨s1, L, r1⟩ := s.alloc (o := .lst vs) (c := .lst xs) hp fun ω' L => ⟨vs, upd_same, r.later L⟩
  exact h _ _ _ L s1 r1
/-- a list is written -/
theorem PostO.setLst {n : Nat} {a : Addr} {xs ys : List D} {vs : List V} {d : D} {v : V} (s : Sim K ω S H) (hn : S[n]? = some (.lst xs)) (ha : ω.ρ[n]? = some a) (r : RelDs K ω H ys vs) (rd : RelD K ω H d v)
    (h : PostO (RelD K) K ω H (some (d, S.set n (.lst ys))) Q) : Q v (upd H a (.lst vs)) := by
  obtain ⟨s1, L⟩ := s.write (c' := .lst ys) (o := .lst vs) hn rfl ha fun L => ⟨vs, upd_same, r.later L⟩
  exact h _ _ _ L s1 (rd.later L)
theorem Sim.lst (s : Sim K ω S H) {n : Nat} {a : Addr} {xs : List D} (hn : S[n]? = some (.lst xs)) (ha : ω.ρ[n]? = some a) : ∃ vs, H a = some (.lst vs) ∧ RelDs K ω H xs vs := s.cell n _ a hn ha
theorem Sim.dK (s : Sim K ω S H) {n : Nat} {a : Addr} {xs : List (Key × D)} (hn : S[n]? = some (.dK xs)) (ha : ω.ρ[n]? = some a) : ∃ vs, H a = some (.dK vs) ∧ RelKs K ω H xs vs := s.cell n _ a hn ha
end

/-- the most items of one sequence -/
abbrev line : Nat := 16777216
theorem line_eq : line = sizeLine := sizeLine_eq.symm
theorem line_le {n : Nat} (h : n ≤ line) : n ≤ sizeLine := by rw [sizeLine_eq]; exact h
theorem line_lt {n : Nat} (h : n < line) : n < sizeLine := by rw [sizeLine_eq]; exact h
/-- the list at a place -/
def lstAt (S : Mem) (n : Nat) : Option (List D) := match S[n]? with
  | some (.lst xs) => some xs
  | _ => none
theorem lstAt_eq {S : Mem} {n : Nat} {xs : List D} (h : lstAt S n = some xs) : S[n]? = some (.lst xs) := by
  unfold lstAt at h
  split at h
  · rename_i ys e
    rw [e]; cases h; rfl
  · cases h

/-! ### + - * // % ** -/
def fAdd : D → D → Mem → Option (D × Mem)
  | .int i, .int j, S => some (.int (i + j), S)
  | .str x, .str y, S => if x.length + y.length ≤ line then some (.str (x ++ y), S) else none
  | .tup xs, .tup ys, S => if xs.length + ys.length ≤ line then some (.tup (xs ++ ys), S) else none
  | .ref n, .ref m, S => match lstAt S n, lstAt S m with
    | some xs, some ys => if xs.length + ys.length ≤ line then some (.ref S.length, S ++ [.lst (xs ++ ys)]) else none
    | _, _ => none
  | _, _, _ => none
def fSub : D → D → Mem → Option (D × Mem)
  | .int i, .int j, S => some (.int (i - j), S)
  | _, _, _ => none
def mulOk (i j : Int) : Bool := decide (i.natAbs < 18446744073709551616) || decide (j.natAbs < 18446744073709551616)
def fMul : D → D → Mem → Option (D × Mem)
  | .int i, .int j, S => if mulOk i j = true then some (.int (i * j), S) else none
  | .str x, .int j, S => if 0 ≤ j ∧ j ≤ 1000000 ∧ x.length ≤ 1000000 ∧ x.length * j.toNat ≤ line then some (.str (List.replicate j.toNat x).flatten, S) else none
  | .ref n, .int j, S => match lstAt S n with
    | some xs => if 0 ≤ j ∧ j ≤ 1000000 ∧ xs.length * j.toNat ≤ line then some (.ref S.length, S ++ [.lst (List.replicate j.toNat xs).flatten]) else none
    | _ => none
  | _, _, _ => none
def fDiv : D → D → Mem → Option (D × Mem)
  | .int i, .int j, S => if 0 < j ∧ j.natAbs.log2 < 9000 then some (.int (i / j), S) else none
  | _, _, _ => none
def fMod : D → D → Mem → Option (D × Mem)
  | .int i, .int j, S => if 0 < j then some (.int (i % j), S) else none
  | _, _, _ => none
def fPow : D → D → Mem → Option (D × Mem)
  | .int i, .int j, S => if 0 ≤ j ∧ (i.natAbs.log2 + 1) * j.toNat ≤ 1000000 then some (.int (i ^ j.toNat), S) else none
  | _, _, _ => none
def fNeg : D → Mem → Option (D × Mem)
  | .int i, S => some (.int (-i), S)
  | _, _ => none
theorem strApp (x y : List Nat) : (⟨x.toArray⟩ : Str) ++ ⟨y.toArray⟩ = ⟨(x ++ y).toArray⟩ := by
  show (⟨x.toArray ++ y.toArray⟩ : Str) = _
  simp
theorem strLen (x : List Nat) : (⟨x.toArray⟩ : Str).length = x.length := by
  show x.toArray.size = x.length
  simp
section
variable {X : Cx}
theorem up_add : OpR X (binaryOp .Add) (rU2 X.K fAdd) := by
  intro pins s σ H x y v u Q I rx ry h
  obtain ⟨ω, S, a, b, hS, ra, rb, q⟩ := h
  cases a <;> cases b <;> first | exact q.elim | skip
  · cases ra
    cases rb
    exact op_add pins s σ H _ _ v u Q I rx ry ⟨_, _, rfl, rfl, q.give hS (.int _)⟩
  · rename_i c1 c2
    cases ra
    cases rb
    have q' : PostO (RelD X.K) X.K ω H (if c1.length + c2.length ≤ line then some (.str (c1 ++ c2), S) else none) Q := q
    by_cases hl : c1.length + c2.length ≤ line
    · rw [if_pos hl] at q'
      exact op_add_str pins s σ H _ _ v u Q I rx ry ⟨_, _, rfl, rfl, by rw [strLen, strLen]; exact line_le hl, by rw [strApp]; exact q'.give hS (.str _)⟩
    · rw [if_neg hl] at q'; exact q'.elim
  · rename_i c1 c2
    cases ra with
    | tup t1 d1 =>
      cases rb with
      | tup t2 d2 =>
        have q' : PostO (RelD X.K) X.K ω H (if c1.length + c2.length ≤ line then some (.tup (c1 ++ c2), S) else none) Q := q
        by_cases hl : c1.length + c2.length ≤ line
        · rw [if_pos hl] at q'
          refine op_catA pins s σ H _ _ v u Q I rx ry ⟨_, _, _, _, rfl, rfl, t1, t2, by rw [← d1.length, ← d2.length]; exact line_le hl, fun e => ?_, fun e1 e2 => ?_, fun e1 e2 p hp => ?_⟩
          · subst e
            cases c1 with
            | nil => exact q'.give hS (.tup t2 d2)
            | cons _ _ => cases d1
          · subst e2
            cases c2 with
            | nil =>
              rw [List.append_nil] at q'
              exact q'.give hS (.tup t1 d1)
            | cons _ _ => cases d2
          · exact q'.newTup hS (d1.append d2) hp
        · rw [if_neg hl] at q'; exact q'.elim
  · rename_i n m
    cases ra with
    | ref a1 =>
      cases rb with
      | ref a2 =>
        have q' : PostO (RelD X.K) X.K ω H (match lstAt S n, lstAt S m with
          | some xs, some ys => if xs.length + ys.length ≤ line then some (.ref S.length, S ++ [.lst (xs ++ ys)]) else none
          | _, _ => none) Q := q
        cases e1 : lstAt S n with
        | none => rw [e1] at q'; exact q'.elim
        | some xs =>
          cases e2 : lstAt S m with
          | none => rw [e1, e2] at q'; exact q'.elim
          | some ys =>
            rw [e1, e2] at q'
            dsimp only at q'
            by_cases hl : xs.length + ys.length ≤ line
            · rw [if_pos hl] at q'
              obtain ⟨vs, h1, r1⟩ := hS.lst (lstAt_eq e1) a1
              obtain ⟨ws, h2, r2⟩ := hS.lst (lstAt_eq e2) a2
              exact op_cat pins s σ H _ _ v u Q I rx ry ⟨_, _, _, _, rfl, rfl, h1, h2, by rw [← r1.length, ← r2.length]; exact line_le hl, fun p hp => q'.newLst hS (r1.append r2) hp⟩
            · rw [if_neg hl] at q'; exact q'.elim
theorem up_sub : OpR X (binaryOp .Sub) (rU2 X.K fSub) := by
  intro pins s σ H x y v u Q I rx ry h
  obtain ⟨ω, S, a, b, hS, ra, rb, q⟩ := h
  cases a <;> cases b <;> first | exact q.elim | skip
  cases ra
  cases rb
  exact op_sub pins s σ H _ _ v u Q I rx ry ⟨_, _, rfl, rfl, q.give hS (.int _)⟩
theorem mulOk_ok {i j : Int} (h : mulOk i j = true) : CMul i j := by
  unfold mulOk at h
  rw [Bool.or_eq_true] at h
  rcases h with h | h
  · have := of_decide_eq_true h
    exact .inl ⟨by omega, by omega⟩
  · have := of_decide_eq_true h
    exact .inr ⟨by omega, by omega⟩
theorem foldl_codes (x : List Nat) : ∀ (n : Nat) (acc : List Nat), List.foldl (fun a b => a ++ b) acc.toArray (List.replicate n x.toArray) = (acc ++ (List.replicate n x).flatten).toArray
  | 0, acc => by simp
  | n + 1, acc => by
    rw [List.replicate_succ, List.foldl_cons, show acc.toArray ++ x.toArray = (acc ++ x).toArray by simp, foldl_codes x n (acc ++ x), List.replicate_succ, List.flatten_cons, List.append_assoc]
theorem op_mul_str : OpR X (binaryOp .Mult) (fun x y H Q => ∃ (cs : List Nat) (j : Int), x = .str ⟨cs.toArray⟩ ∧ y = .int j ∧ 0 ≤ j ∧ j ≤ 1000000 ∧ cs.length ≤ 1000000 ∧ cs.length * j.toNat ≤ line ∧ Q (.str ⟨(List.replicate j.toNat cs).flatten.toArray⟩) H) := by
  intro pins s σ H x y v u Q I rx ry h
  obtain ⟨cs, j, rfl, rfl, h0, h1, hc, hz, q⟩ := h
  obtain ⟨t, rfl⟩ := rx
  obtain ⟨t', rfl⟩ := ry
  have e0 : decide (j < -(2 ^ 63 : Int)) = false := decide_eq_false (by omega)
  have e1 : decide (j ≥ 2 ^ 63) = false := decide_eq_false (by omega)
  refine PySem.P.mul_str (by rw [e0, e1]; rfl) (fun hn _ => ?_) (fun _ _ => ?_) ?_
  · rw [strLen]
    have h2 : (cs.length : Int) * j ≤ 1000000 * 1000000 := Int.mul_le_mul (by omega) h1 h0 (by decide)
    have h3 : (cs.length : Int) ≤ (2 ^ 63 - 1) / j := (Int.le_ediv_iff_mul_le (by omega)).mpr (by omega)
    omega
  · rw [strLen]
    unfold Builtin.Str.tooLong
    exact decide_eq_false (by have := line_le hz; omega)
  · by_cases hn : j < 1
    · rw [if_pos hn]
      have ej : j.toNat = 0 := by omega
      refine ⟨by decide, ?_⟩
      rw [ej] at q
      exact ⟨.str _, H, I.tok _, ⟨_, rfl⟩, q⟩
    · rw [if_neg hn]
      by_cases hk : (j == 1 || (⟨cs.toArray⟩ : Str).length == 0) = true
      · rw [if_pos hk]
        have e : (List.replicate j.toNat cs).flatten = cs := by
          rw [Bool.or_eq_true] at hk
          rcases hk with hk | hk
          · have ej : j = 1 := eq_of_beq hk
            subst ej
            simp
          · rw [strLen] at hk
            have ec : cs = [] := List.length_eq_zero_iff.mp (eq_of_beq hk)
            subst ec
            simp
        rw [e] at q
        exact ⟨.str _, H, I, ⟨t, rfl⟩, q⟩
      · rw [if_neg hk]
        have e := foldl_codes cs j.toNat []
        have e' : List.foldl (fun a b => a ++ b) #[] (List.replicate j.toNat cs.toArray) = ((List.replicate j.toNat cs).flatten).toArray := by
          rw [List.nil_append] at e
          exact e
        refine ⟨?_, ?_⟩
        · show (List.foldl (fun a b => a ++ b) #[] (List.replicate j.toNat cs.toArray)).size ≤ sizeLine
          rw [e', List.size_toArray, List.length_flatten, List.map_replicate, List.sum_replicate_nat]
          have := line_le hz
          rw [Nat.mul_comm] at this
          exact this
        · show EP X pins σ Q (.str ⟨List.foldl (fun a b => a ++ b) #[] (List.replicate j.toNat cs.toArray)⟩ s.toks) _
          rw [e']
          exact ⟨.str _, H, I.tok _, ⟨_, rfl⟩, q⟩
end
end Mi
namespace Mi
open PySem PySem.Spec PyProof.Rows L2
section
variable {X : Cx}
theorem up_mul : OpR X (binaryOp .Mult) (rU2 X.K fMul) := by
  intro pins s σ H x y v u Q I rx ry h
  obtain ⟨ω, S, a, b, hS, ra, rb, q⟩ := h
  cases a <;> cases b <;> first | exact q.elim | skip
  · rename_i i j
    cases ra
    cases rb
    have q' : PostO (RelD X.K) X.K ω H (if mulOk i j = true then some (.int (i * j), S) else none) Q := q
    by_cases hl : mulOk i j = true
    · rw [if_pos hl] at q'
      exact op_mul pins s σ H _ _ v u Q I rx ry ⟨_, _, rfl, rfl, mulOk_ok hl, q'.give hS (.int _)⟩
    · rw [if_neg hl] at q'; exact q'.elim
  · rename_i cs j
    cases ra
    cases rb
    have q' : PostO (RelD X.K) X.K ω H (if 0 ≤ j ∧ j ≤ 1000000 ∧ cs.length ≤ 1000000 ∧ cs.length * j.toNat ≤ line then some (.str (List.replicate j.toNat cs).flatten, S) else none) Q := q
    by_cases hl : 0 ≤ j ∧ j ≤ 1000000 ∧ cs.length ≤ 1000000 ∧ cs.length * j.toNat ≤ line
    · rw [if_pos hl] at q'
      exact op_mul_str pins s σ H _ _ v u Q I rx ry ⟨cs, j, rfl, rfl, hl.1, hl.2.1, hl.2.2.1, hl.2.2.2, q'.give hS (.str _)⟩
    · rw [if_neg hl] at q'; exact q'.elim
  · rename_i n j
    cases rb
    cases ra with
    | ref a1 =>
      have q' : PostO (RelD X.K) X.K ω H (match lstAt S n with
        | some xs => if 0 ≤ j ∧ j ≤ 1000000 ∧ xs.length * j.toNat ≤ line then some (.ref S.length, S ++ [.lst (List.replicate j.toNat xs).flatten]) else none
        | _ => none) Q := q
      cases e1 : lstAt S n with
      | none => rw [e1] at q'; exact q'.elim
      | some xs =>
        rw [e1] at q'
        dsimp only at q'
        by_cases hl : 0 ≤ j ∧ j ≤ 1000000 ∧ xs.length * j.toNat ≤ line
        · rw [if_pos hl] at q'
          obtain ⟨vs, h1, r1⟩ := hS.lst (lstAt_eq e1) a1
          obtain ⟨g1, g2, g3⟩ := hl
          exact op_rep pins s σ H _ _ v u Q I rx ry ⟨_, _, _, rfl, rfl, h1, by omega, by omega, by rw [← r1.length]; exact line_le g3, fun p hp => q'.newLst hS (r1.rep _) hp⟩
        · rw [if_neg hl] at q'; exact q'.elim
theorem up_div : OpR X (binaryOp .FloorDiv) (rU2 X.K fDiv) := by
  intro pins s σ H x y v u Q I rx ry h
  obtain ⟨ω, S, a, b, hS, ra, rb, q⟩ := h
  cases a <;> cases b <;> first | exact q.elim | skip
  rename_i i j
  cases ra
  cases rb
  have q' : PostO (RelD X.K) X.K ω H (if 0 < j ∧ j.natAbs.log2 < 9000 then some (.int (i / j), S) else none) Q := q
  by_cases hl : 0 < j ∧ j.natAbs.log2 < 9000
  · rw [if_pos hl] at q'
    exact op_fdivW pins s σ H _ _ v u Q I rx ry ⟨_, _, rfl, rfl, hl, q'.give hS (.int _)⟩
  · rw [if_neg hl] at q'; exact q'.elim
theorem up_mod : OpR X (binaryOp .Mod) (rU2 X.K fMod) := by
  intro pins s σ H x y v u Q I rx ry h
  obtain ⟨ω, S, a, b, hS, ra, rb, q⟩ := h
  cases a <;> cases b <;> first | exact q.elim | skip
  rename_i i j
  cases ra
  cases rb
  have q' : PostO (RelD X.K) X.K ω H (if 0 < j then some (.int (i % j), S) else none) Q := q
  by_cases hl : 0 < j
  · rw [if_pos hl] at q'
    exact op_mod pins s σ H _ _ v u Q I rx ry ⟨_, _, rfl, rfl, hl, q'.give hS (.int _)⟩
  · rw [if_neg hl] at q'; exact q'.elim
theorem op_powW : OpR X (binaryOp .Pow) (rI (fun i j => 0 ≤ j ∧ (i.natAbs.log2 + 1) * j.toNat ≤ 1000000) fun i j => .int (i ^ j.toNat)) := opI fun i j _ _ _ _ _ hc q => by
  refine pow_int hc.1 ?_ q
  have h1 : Builtin.Int.intBits i ≤ i.natAbs.log2 + 1 := by
    unfold Builtin.Int.intBits
    split <;> omega
  have h2 : Builtin.Int.intBits i * j.toNat ≤ 1000000 := Nat.le_trans (Nat.mul_le_mul_right _ h1) hc.2
  have h3 : ((Builtin.Int.intBits i * j.toNat : Nat) : Int) = (Builtin.Int.intBits i : Int) * j := by
    rw [Int.natCast_mul, Int.toNat_of_nonneg hc.1]
  have h4 : ((Builtin.Int.intBits i * j.toNat : Nat) : Int) ≤ 1000000 := by omega
  rw [← h3]
  exact Int.le_trans h4 (by decide)
theorem up_pow : OpR X (binaryOp .Pow) (rU2 X.K fPow) := by
  intro pins s σ H x y v u Q I rx ry h
  obtain ⟨ω, S, a, b, hS, ra, rb, q⟩ := h
  cases a <;> cases b <;> first | exact q.elim | skip
  rename_i i j
  cases ra
  cases rb
  have q' : PostO (RelD X.K) X.K ω H (if 0 ≤ j ∧ (i.natAbs.log2 + 1) * j.toNat ≤ 1000000 then some (.int (i ^ j.toNat), S) else none) Q := q
  by_cases hl : 0 ≤ j ∧ (i.natAbs.log2 + 1) * j.toNat ≤ 1000000
  · rw [if_pos hl] at q'
    exact op_powW pins s σ H _ _ v u Q I rx ry ⟨_, _, rfl, rfl, hl, q'.give hS (.int _)⟩
  · rw [if_neg hl] at q'; exact q'.elim
theorem up_neg : UnR X (unaryOp .USub) (rU1 X.K fNeg) := by
  intro pins s σ H x v Q I rx h
  obtain ⟨ω, S, a, hS, ra, q⟩ := h
  cases a <;> first | exact q.elim | skip
  cases ra
  exact un_neg pins s σ H _ v Q I rx ⟨_, rfl, q.give hS (.int _)⟩
end

/-! ### == != < <= > >= in is -/
def mapO {α β : Type} (f : α → Option β) : List α → Option (List β)
  | [] => some []
  | x :: xs => match f x with
    | some y => match mapO f xs with
      | some ys => some (y :: ys)
      | none => none
    | none => none
/-- plain data as data to compare -/
def toPy (S : Mem) : Nat → D → Option PyData
  | 0, _ => none
  | k + 1, d => match d with
    | .non => some .none
    | .bl b => some (.bool b)
    | .int i => some (.int i)
    | .str cs => if PyData.strOk ⟨cs.toArray⟩ = true then some (.str ⟨cs.toArray⟩) else none
    | .tup xs => match mapO (toPy S k) xs with
      | some ds => some (.tuple ds)
      | none => none
    | .fl xs => match mapO (toPy S k) xs with
      | some ds => some (.list ds)
      | none => none
    | .ref n => match lstAt S n with
      | some xs => match mapO (toPy S k) xs with
        | some ds => some (.list ds)
        | none => none
      | none => none
    | .gl _ => none
    | .ty _ => none
    | .obj _ _ => none
def eqB (S : Mem) (a b : D) : Option Bool := match a, b with
  | .int i, .int j => some (decide (i = j))
  | .str x, .str y => some (decide (x = y))
  | a, b => match toPy S 60 a, toPy S 60 b with
    | some d, some e => some (PyData.eqv d e)
    | _, _ => none
def boolO (o : Option Bool) (S : Mem) : Option (D × Mem) := match o with
  | some b => some (.bl b, S)
  | none => none
def fEq (a b : D) (S : Mem) : Option (D × Mem) := boolO (eqB S a b) S
def fNe (a b : D) (S : Mem) : Option (D × Mem) := boolO ((eqB S a b).map not) S
end Mi
namespace Mi
open PySem PySem.Spec PyProof.Rows L2
section
variable {K : PySem.W.Frag} {ω : Wo} {H : Hp} {S : Mem}
theorem toPys_ok {k : Nat} (ih : ∀ (d : D) (v : V) (p : PyData), RelD K ω H d v → toPy S k d = some p → Dp K H v p ∧ PyData.canLay0 p = true ∧ PyData.depth p ≤ k) :
    ∀ (ds : List D) (vs : List V) (ps : List PyData), RelDs K ω H ds vs → mapO (toPy S k) ds = some ps → DpAll K H vs ps ∧ PyData.canLayAll0 ps = true ∧ PyData.depthAll ps ≤ k
  | [], vs, ps, r, h => by
    cases r
    cases h
    exact ⟨.nil, rfl, Nat.zero_le _⟩
  | d :: ds, vs, ps, r, h => by
    cases r with
    | cons r1 r2 =>
      unfold mapO at h
      cases e1 : toPy S k d with
      | none => rw [e1] at h; cases h
      | some p =>
        cases e2 : mapO (toPy S k) ds with
        | none => rw [e1, e2] at h; cases h
        | some qs =>
          rw [e1, e2] at h
          cases h
          obtain ⟨h1, h2, h3⟩ := ih d _ p r1 e1
          obtain ⟨g1, g2, g3⟩ := toPys_ok ih ds _ qs r2 e2
          exact ⟨.cons h1 g1, by show (PyData.canLay0 p && PyData.canLayAll0 qs) = true; rw [h2, g2]; rfl, by show max (PyData.depth p) (PyData.depthAll qs) ≤ k; omega⟩
theorem toPy_ok (s : Sim K ω S H) : ∀ (k : Nat) (d : D) (v : V) (p : PyData), RelD K ω H d v → toPy S k d = some p → Dp K H v p ∧ PyData.canLay0 p = true ∧ PyData.depth p ≤ k
  | 0, _, _, _, _, h => by cases h
  | k + 1, d, v, p, r, h => by
    have ih := toPy_ok s k
    cases d with
    | non => cases r; cases h; exact ⟨.non, rfl, Nat.zero_le _⟩
    | bl b => cases r; cases h; exact ⟨.bl b, rfl, Nat.zero_le _⟩
    | int i => cases r; cases h; exact ⟨.int i, rfl, Nat.zero_le _⟩
    | str cs =>
      cases r
      have h' : (if PyData.strOk ⟨cs.toArray⟩ = true then some (PyData.str ⟨cs.toArray⟩) else none) = some p := h
      by_cases hc : PyData.strOk ⟨cs.toArray⟩ = true
      · rw [if_pos hc] at h'; cases h'; exact ⟨.str _, hc, Nat.zero_le _⟩
      · rw [if_neg hc] at h'; cases h'
    | tup xs =>
      cases r with
      | tup t1 r1 =>
        have h' : (match mapO (toPy S k) xs with | some ds => some (PyData.tuple ds) | none => none) = some p := h
        cases e : mapO (toPy S k) xs with
        | none => rw [e] at h'; cases h'
        | some ps =>
          rw [e] at h'; cases h'
          obtain ⟨g1, g2, g3⟩ := toPys_ok ih xs _ ps r1 e
          exact ⟨.tup t1 g1, g2, Nat.succ_le_succ g3⟩
    | fl xs =>
      cases r with
      | fl t1 r1 =>
        have h' : (match mapO (toPy S k) xs with | some ds => some (PyData.list ds) | none => none) = some p := h
        cases e : mapO (toPy S k) xs with
        | none => rw [e] at h'; cases h'
        | some ps =>
          rw [e] at h'; cases h'
          obtain ⟨g1, g2, g3⟩ := toPys_ok ih xs _ ps r1 e
          exact ⟨.lst t1.seq g1, g2, Nat.succ_le_succ g3⟩
    | ref n =>
      cases r with
      | ref ha =>
        have h' : (match lstAt S n with
          | some xs => (match mapO (toPy S k) xs with | some ds => some (PyData.list ds) | none => none)
          | none => none) = some p := h
        cases e1 : lstAt S n with
        | none => rw [e1] at h'; cases h'
        | some xs =>
          rw [e1] at h'
          dsimp only at h'
          obtain ⟨vs, hv, r1⟩ := s.lst (lstAt_eq e1) ha
          cases e : mapO (toPy S k) xs with
          | none => rw [e] at h'; cases h'
          | some ps =>
            rw [e] at h'; cases h'
            obtain ⟨g1, g2, g3⟩ := toPys_ok ih xs _ ps r1 e
            exact ⟨.lst (SqL.of hv) g1, g2, Nat.succ_le_succ g3⟩
    | gl x => cases h
    | ty x => cases h
    | obj c fs => cases h
theorem toPy_shaped (s : Sim K ω S H) {d : D} {v : V} {p : PyData} (r : RelD K ω H d v) (h : toPy S 60 d = some p) : Dp K H v p ∧ SeqAt.shaped p = true := by
  obtain ⟨h1, h2, h3⟩ := toPy_ok s 60 d v p r h
  refine ⟨h1, ?_⟩
  unfold SeqAt.shaped
  rw [h2, decide_eq_true (by omega)]
  rfl
end
section
variable {X : Cx}
/-- how eqB comes about -/
theorem eqB_cases {S : Mem} {a b : D} {r : Bool} (h : eqB S a b = some r) : (∃ i j, a = .int i ∧ b = .int j ∧ r = decide (i = j)) ∨ (∃ x y, a = .str x ∧ b = .str y ∧ r = decide (x = y)) ∨
    ∃ d e, toPy S 60 a = some d ∧ toPy S 60 b = some e ∧ r = PyData.eqv d e := by
  unfold eqB at h
  split at h
  · exact .inl ⟨_, _, rfl, rfl, (Option.some.inj h).symm⟩
  · exact .inr (.inl ⟨_, _, rfl, rfl, (Option.some.inj h).symm⟩)
  · split at h
    · rename_i d e h1 h2
      exact .inr (.inr ⟨d, e, h1, h2, (Option.some.inj h).symm⟩)
    · cases h
theorem strEq (x y : List Nat) : decide ((V.str ⟨x.toArray⟩ : V) = V.str ⟨y.toArray⟩) = decide (x = y) := by
  by_cases h : x = y
  · subst h; simp
  · rw [decide_eq_false h]
    exact decide_eq_false fun e => h (by simpa using e)
theorem intEq (i j : Int) : decide ((V.int i : V) = V.int j) = decide (i = j) := by
  by_cases h : i = j
  · subst h; simp
  · rw [decide_eq_false h]
    exact decide_eq_false fun e => h (by simpa using e)
theorem up_eq (hu : X.A.units + 64 < cLine) : OpR X (compareOp .Eq) (rU2 X.K fEq) := by
  intro pins s σ H x y v u Q I rx ry h
  obtain ⟨ω, S, a, b, hS, ra, rb, q⟩ := h
  have q' : PostO (RelD X.K) X.K ω H (boolO (eqB S a b) S) Q := q
  cases e : eqB S a b with
  | none => rw [e] at q'; exact q'.elim
  | some r =>
    rw [e] at q'
    have fin := q'.give hS (.bl r)
    rcases eqB_cases e with ⟨i, j, rfl, rfl, rfl⟩ | ⟨c1, c2, rfl, rfl, rfl⟩ | ⟨d, e', h1, h2, rfl⟩
    · cases ra
      cases rb
      exact op_eq pins s σ H _ _ v u Q I rx ry ⟨rfl, by rw [intEq]; exact fin⟩
    · cases ra
      cases rb
      exact op_eq pins s σ H _ _ v u Q I rx ry ⟨rfl, by rw [strEq]; exact fin⟩
    · obtain ⟨p1, p2⟩ := toPy_shaped hS ra h1
      obtain ⟨p3, p4⟩ := toPy_shaped hS rb h2
      exact op_eqD hu pins s σ H _ _ v u Q I rx ry ⟨d, e', p1, p3, p2, p4, fin⟩
theorem up_ne (hu : X.A.units + 64 < cLine) : OpR X (compareOp .NotEq) (rU2 X.K fNe) := by
  intro pins s σ H x y v u Q I rx ry h
  obtain ⟨ω, S, a, b, hS, ra, rb, q⟩ := h
  have q' : PostO (RelD X.K) X.K ω H (boolO ((eqB S a b).map not) S) Q := q
  cases e : eqB S a b with
  | none => rw [e] at q'; exact q'.elim
  | some r =>
    rw [e] at q'
    have fin := q'.give hS (.bl (!r))
    rcases eqB_cases e with ⟨i, j, rfl, rfl, rfl⟩ | ⟨c1, c2, rfl, rfl, rfl⟩ | ⟨d, e', h1, h2, rfl⟩
    · cases ra
      cases rb
      exact op_ne pins s σ H _ _ v u Q I rx ry ⟨rfl, by rw [intEq]; exact fin⟩
    · cases ra
      cases rb
      exact op_ne pins s σ H _ _ v u Q I rx ry ⟨rfl, by rw [strEq]; exact fin⟩
    · obtain ⟨p1, p2⟩ := toPy_shaped hS ra h1
      obtain ⟨p3, p4⟩ := toPy_shaped hS rb h2
      exact op_neD hu pins s σ H _ _ v u Q I rx ry ⟨d, e', p1, p3, p2, p4, fin⟩
end

/-- whole numbers of a list -/
def intsD : List D → Option (List Int)
  | [] => some []
  | .int i :: r => match intsD r with
    | some is => some (i :: is)
    | none => none
  | _ :: _ => none
theorem intsD_eq : ∀ {ds : List D} {is : List Int}, intsD ds = some is → ds = is.map D.int
  | [], is, h => by cases h; rfl
  | d :: r, is, h => by
    unfold intsD at h
    split at h
    · cases h; rename_i e; cases e
    · rename_i i r' e
      cases e
      split at h
      · rename_i is' e'
        cases h
        rw [intsD_eq e']; rfl
      · cases h
    · cases h
def boolsD : List D → Option (List Bool)
  | [] => some []
  | .bl i :: r => match boolsD r with
    | some is => some (i :: is)
    | none => none
  | _ :: _ => none
theorem boolsD_eq : ∀ {ds : List D} {is : List Bool}, boolsD ds = some is → ds = is.map D.bl
  | [], is, h => by cases h; rfl
  | d :: r, is, h => by
    unfold boolsD at h
    split at h
    · cases h; rename_i e; cases e
    · rename_i i r' e
      cases e
      split at h
      · rename_i is' e'
        cases h
        rw [boolsD_eq e']; rfl
      · cases h
    · cases h
def strsD : List D → Option (List (List Nat))
  | [] => some []
  | .str i :: r => match strsD r with
    | some is => some (i :: is)
    | none => none
  | _ :: _ => none
theorem strsD_eq : ∀ {ds : List D} {is : List (List Nat)}, strsD ds = some is → ds = is.map D.str
  | [], is, h => by cases h; rfl
  | d :: r, is, h => by
    unfold strsD at h
    split at h
    · cases h; rename_i e; cases e
    · rename_i i r' e
      cases e
      split at h
      · rename_i is' e'
        cases h
        rw [strsD_eq e']; rfl
      · cases h
    · cases h
def ltB (a b : D) : Option Bool := match a, b with
  | .int i, .int j => some (decide (i < j))
  | .tup xs, .tup ys => match intsD xs, intsD ys with
    | some is, some js => some (HT.lexLt is js)
    | _, _ => none
  | _, _ => none
def fLt (a b : D) (S : Mem) : Option (D × Mem) := boolO (ltB a b) S
def fLe : D → D → Mem → Option (D × Mem)
  | .int i, .int j, S => some (.bl (decide (i ≤ j)), S)
  | _, _, _ => none
def fGt : D → D → Mem → Option (D × Mem)
  | .int i, .int j, S => some (.bl (decide (j < i)), S)
  | _, _, _ => none
def fGe : D → D → Mem → Option (D × Mem)
  | .int i, .int j, S => some (.bl (decide (j ≤ i)), S)
  | _, _, _ => none
def flatD : D → Bool
  | .non => true
  | .bl _ => true
  | .int _ => true
  | .str _ => true
  | _ => false
def eqF : D → D → Bool
  | .non, .non => true
  | .bl a, .bl b => a == b
  | .bl a, .int b => (if a then 1 else 0) == b
  | .int a, .bl b => a == (if b then 1 else 0)
  | .int a, .int b => a == b
  | .str a, .str b => a == b
  | _, _ => false
/-- x in xs, flat items -/
def inF (x : D) (xs : List D) : Option Bool := if flatD x = true ∧ xs.all flatD = true then some (xs.any fun y => eqF y x) else none
/-- the items of a sequence -/
def seqOf (S : Mem) : D → Option (List D)
  | .tup xs => some xs
  | .fl xs => some xs
  | .ref n => lstAt S n
  | _ => none
def inB (S : Mem) (x y : D) : Option Bool := match y with
  | .str cs => match x with
    | .str [c] => some (decide (c ∈ cs))
    | _ => none
  | y => match seqOf S y with
    | some xs => inF x xs
    | none => none
def fIn (x y : D) (S : Mem) : Option (D × Mem) := boolO (inB S x y) S
def fNin (x y : D) (S : Mem) : Option (D × Mem) := boolO ((inB S x y).map not) S
def isNon : D → Bool
  | .non => true
  | _ => false
def isB (a b : D) : Option Bool := match a, b with
  | a, .non => some (isNon a)
  | .bl a, .bl b => some (decide (a = b))
  | _, _ => none
def fIs (a b : D) (S : Mem) : Option (D × Mem) := boolO (isB a b) S
def fIsn (a b : D) (S : Mem) : Option (D × Mem) := boolO ((isB a b).map not) S
section
variable {X : Cx} {K : PySem.W.Frag} {ω : Wo} {H : Hp} {S : Mem}
theorem seqOf_ok (s : Sim K ω S H) {d : D} {v : V} {xs : List D} (r : RelD K ω H d v) (h : seqOf S d = some xs) : ∃ a vs, v = .ref a ∧ (SqL K H a vs ∨ SqT K H a vs) ∧ RelDs K ω H xs vs := by
  cases d <;> first | (cases h; done) | skip
  · cases h
    cases r with
    | tup t r1 => exact ⟨_, _, rfl, .inr t, r1⟩
  · cases h
    cases r with
    | fl t r1 => exact ⟨_, _, rfl, .inl t.seq, r1⟩
  · cases r with
    | ref ha =>
      obtain ⟨vs, h1, r1⟩ := s.lst (lstAt_eq h) ha
      exact ⟨_, _, rfl, .inl (SqL.of h1), r1⟩
theorem flat_ok {d : D} {v : V} (r : RelD K ω H d v) (h : flatD d = true) : flatV v = true := by
  cases d <;> first | (cases h; done) | (cases r; rfl)
theorem flats_ok : ∀ {ds : List D} {vs : List V}, RelDs K ω H ds vs → ds.all flatD = true → vs.all flatV = true
  | [], _, r, _ => by cases r; rfl
  | d :: ds, _, r, h => by
    cases r with
    | cons r1 r2 =>
      rw [List.all_cons, Bool.and_eq_true] at h
      rw [List.all_cons, flat_ok r1 h.1, flats_ok r2 h.2]
      rfl
theorem str_beq (x y : List Nat) : ((⟨x.toArray⟩ : Str) == ⟨y.toArray⟩) = (x == y) := by
  rw [Bool.eq_iff_iff]
  simp
theorem eqF_ok {a b : D} {x y : V} (ra : RelD K ω H a x) (rb : RelD K ω H b y) (fa : flatD a = true) (fb : flatD b = true) : eqV x y = eqF a b := by
  cases a <;> first | (cases fa; done) | skip
  all_goals cases b <;> first | (cases fb; done) | skip
  all_goals (cases ra; cases rb; first | rfl | exact str_beq _ _)
theorem inV_ok {x : D} {v : V} (r : RelD K ω H x v) (f : flatD x = true) : ∀ {ds : List D} {vs : List V}, RelDs K ω H ds vs → ds.all flatD = true → inV v vs = ds.any fun y => eqF y x
  | [], _, rs, _ => by cases rs; rfl
  | d :: ds, _, rs, h => by
    cases rs with
    | cons r1 r2 =>
      rw [List.all_cons, Bool.and_eq_true] at h
      have ih := inV_ok r f r2 h.2
      unfold inV at ih ⊢
      rw [List.any_cons, List.any_cons, ih, eqF_ok r1 r h.1 f]
theorem up_lt (hu : X.A.units < cLine) : OpR X (compareOp .Lt) (rU2 X.K fLt) := by
  intro pins s σ H x y v u Q I rx ry h
  obtain ⟨ω, S, a, b, hS, ra, rb, q⟩ := h
  have q' : PostO (RelD X.K) X.K ω H (boolO (ltB a b) S) Q := q
  cases e : ltB a b with
  | none => rw [e] at q'; exact q'.elim
  | some r =>
    rw [e] at q'
    have fin := q'.give hS (.bl r)
    unfold ltB at e
    split at e
    · cases ra
      cases rb
      cases e
      exact op_lt pins s σ H _ _ v u Q I rx ry ⟨_, _, rfl, rfl, fin⟩
    · split at e
      · rename_i is js e1 e2
        cases e
        have f1 := intsD_eq e1
        have f2 := intsD_eq e2
        subst f1 f2
        cases ra with
        | tup t1 r1 =>
          cases rb with
          | tup t2 r2 =>
            have g1 := r1.ints
            have g2 := r2.ints
            subst g1 g2
            exact op_ltT hu pins s σ H _ _ v u Q I rx ry ⟨_, _, is, js, rfl, rfl, t1, t2, fin⟩
      · cases e
    · cases e
theorem up_le : OpR X (compareOp .LtE) (rU2 X.K fLe) := by
  intro pins s σ H x y v u Q I rx ry h
  obtain ⟨ω, S, a, b, hS, ra, rb, q⟩ := h
  cases a <;> cases b <;> first | exact q.elim | skip
  cases ra
  cases rb
  exact op_le pins s σ H _ _ v u Q I rx ry ⟨_, _, rfl, rfl, q.give hS (.bl _)⟩
theorem up_gt : OpR X (compareOp .Gt) (rU2 X.K fGt) := by
  intro pins s σ H x y v u Q I rx ry h
  obtain ⟨ω, S, a, b, hS, ra, rb, q⟩ := h
  cases a <;> cases b <;> first | exact q.elim | skip
  cases ra
  cases rb
  exact op_gt pins s σ H _ _ v u Q I rx ry ⟨_, _, rfl, rfl, q.give hS (.bl _)⟩
theorem up_ge : OpR X (compareOp .GtE) (rU2 X.K fGe) := by
  intro pins s σ H x y v u Q I rx ry h
  obtain ⟨ω, S, a, b, hS, ra, rb, q⟩ := h
  cases a <;> cases b <;> first | exact q.elim | skip
  cases ra
  cases rb
  exact op_ge pins s σ H _ _ v u Q I rx ry ⟨_, _, rfl, rfl, q.give hS (.bl _)⟩
/-- how inB comes about -/
theorem inB_cases {x y : D} {r : Bool} (h : inB S x y = some r) : (∃ c cs, x = .str [c] ∧ y = .str cs ∧ r = decide (c ∈ cs)) ∨ ∃ xs, seqOf S y = some xs ∧ flatD x = true ∧ xs.all flatD = true ∧ r = xs.any fun y => eqF y x := by
  unfold inB at h
  split at h
  · split at h
    · exact .inl ⟨_, _, rfl, rfl, (Option.some.inj h).symm⟩
    · cases h
  · split at h
    · rename_i xs e
      unfold inF at h
      split at h
      · rename_i hc
        exact .inr ⟨xs, e, hc.1, hc.2, (Option.some.inj h).symm⟩
      · cases h
    · cases h
theorem up_in : OpR X (compareOp .In) (rU2 X.K fIn) := by
  intro pins s σ H x y v u Q I rx ry h
  obtain ⟨ω, S, a, b, hS, ra, rb, q⟩ := h
  have q' : PostO (RelD X.K) X.K ω H (boolO (inB S a b) S) Q := q
  cases e : inB S a b with
  | none => rw [e] at q'; exact q'.elim
  | some r =>
    rw [e] at q'
    have fin := q'.give hS (.bl r)
    rcases inB_cases e with ⟨c, cs, rfl, rfl, rfl⟩ | ⟨xs, h1, h2, h3, rfl⟩
    · cases ra
      cases rb
      exact op_in_sign pins s σ H _ _ v u Q I rx ry ⟨c, ⟨cs.toArray⟩, rfl, rfl, by simpa using fin⟩
    · obtain ⟨p, vs, rfl, hq, rs⟩ := seqOf_ok hS rb h1
      exact op_in_seq pins s σ H _ _ v u Q I rx ry ⟨p, vs, rfl, hq, flat_ok ra h2, flats_ok rs h3, by rw [if_neg Bool.false_ne_true, inV_ok ra h2 rs h3]; exact fin⟩
theorem up_nin : OpR X (compareOp .NotIn) (rU2 X.K fNin) := by
  intro pins s σ H x y v u Q I rx ry h
  obtain ⟨ω, S, a, b, hS, ra, rb, q⟩ := h
  have q' : PostO (RelD X.K) X.K ω H (boolO ((inB S a b).map not) S) Q := q
  cases e : inB S a b with
  | none => rw [e] at q'; exact q'.elim
  | some r =>
    rw [e] at q'
    have fin := q'.give hS (.bl (!r))
    rcases inB_cases e with ⟨c, cs, rfl, rfl, rfl⟩ | ⟨xs, h1, h2, h3, rfl⟩
    · cases ra
      cases rb
      exact op_notIn_sign pins s σ H _ _ v u Q I rx ry ⟨c, ⟨cs.toArray⟩, rfl, rfl, by simpa using fin⟩
    · obtain ⟨p, vs, rfl, hq, rs⟩ := seqOf_ok hS rb h1
      exact op_notIn_seq pins s σ H _ _ v u Q I rx ry ⟨p, vs, rfl, hq, flat_ok ra h2, flats_ok rs h3, by rw [if_pos rfl, inV_ok ra h2 rs h3]; exact fin⟩
theorem isB_cases {a b : D} {r : Bool} (h : isB a b = some r) : (b = .non ∧ r = isNon a) ∨ ∃ p q, a = .bl p ∧ b = .bl q ∧ r = decide (p = q) := by
  unfold isB at h
  split at h
  · exact .inl ⟨rfl, (Option.some.inj h).symm⟩
  · exact .inr ⟨_, _, rfl, rfl, (Option.some.inj h).symm⟩
  · cases h
theorem isnon {a : D} {x : V} (r : RelD K ω H a x) : decide (x = V.non) = isNon a := by
  cases r <;> rfl
theorem up_is : OpR X (compareOp .Is) (rU2 X.K fIs) := by
  intro pins s σ H x y v u Q I rx ry h
  obtain ⟨ω, S, a, b, hS, ra, rb, q⟩ := h
  have q' : PostO (RelD X.K) X.K ω H (boolO (isB a b) S) Q := q
  cases e : isB a b with
  | none => rw [e] at q'; exact q'.elim
  | some r =>
    rw [e] at q'
    have fin := q'.give hS (.bl r)
    rcases isB_cases e with ⟨rfl, rfl⟩ | ⟨p, w, rfl, rfl, rfl⟩
    · cases rb
      exact op_isN pins s σ H _ _ v u Q I rx ry ⟨rfl, by rw [isnon ra]; exact fin⟩
    · cases ra
      cases rb
      exact op_is_bl pins s σ H _ _ v u Q I rx ry ⟨_, _, rfl, rfl, fin⟩
theorem up_isn : OpR X (compareOp .IsNot) (rU2 X.K fIsn) := by
  intro pins s σ H x y v u Q I rx ry h
  obtain ⟨ω, S, a, b, hS, ra, rb, q⟩ := h
  have q' : PostO (RelD X.K) X.K ω H (boolO ((isB a b).map not) S) Q := q
  cases e : isB a b with
  | none => rw [e] at q'; exact q'.elim
  | some r =>
    rw [e] at q'
    have fin := q'.give hS (.bl (!r))
    rcases isB_cases e with ⟨rfl, rfl⟩ | ⟨p, w, rfl, rfl, rfl⟩
    · cases rb
      exact op_notN pins s σ H _ _ v u Q I rx ry ⟨rfl, by rw [isnon ra]; exact fin⟩
    · cases ra
      cases rb
      exact op_isnot_bl pins s σ H _ _ v u Q I rx ry ⟨_, _, rfl, rfl, fin⟩
end
end Mi

set_option Elab.async false
set_option linter.all false
set_option maxRecDepth 100000
set_option maxHeartbeats 4000000
/-! MiC: subscripts, slices, built-in functions, methods on plain data -/
namespace Mi
open PySem PySem.Spec PyProof.Rows L2

/-! ### subscripts -/
def fIx : D → D → Mem → Option (D × Mem)
  | .str cs, .int i, S => if cs.length ≤ line then (match atI cs i with
    | some c => some (.str [c], S)
    | none => none) else none
  | x, .int i, S => match seqOf S x with
    | some xs => (match atI xs i with
      | some d => some (d, S)
      | none => none)
    | none => none
  | _, _, _ => none
section
variable {X : Cx} {K : PySem.W.Frag} {ω : Wo} {H : Hp} {S : Mem}
theorem RelDs.atI {xs : List D} {vs : List V} {i : Int} {d : D} (r : RelDs K ω H xs vs) (h : atI xs i = some d) : ∃ v, L2.atI vs i = some v ∧ RelD K ω H d v := by
  unfold L2.atI at h ⊢
  rw [← r.length]
  cases e : ixN xs.length i with
  | none => rw [e] at h; cases h
  | some j =>
    rw [e] at h
    exact r.get h
theorem fIx_seq {x : D} {i : Int} {p : D × Mem} (hx : ∀ cs, x ≠ .str cs) (h : fIx x (.int i) S = some p) : ∃ xs d, seqOf S x = some xs ∧ atI xs i = some d ∧ p = (d, S) := by
  have h' : (match seqOf S x with
    | some xs => (match atI xs i with
      | some d => some (d, S)
      | none => none)
    | none => none) = some p := by
    cases x <;> first | exact h | exact absurd rfl (hx _)
  cases e : seqOf S x with
  | none => rw [e] at h'; cases h'
  | some xs =>
    rw [e] at h'
    dsimp only at h'
    cases e2 : atI xs i with
    | none => rw [e2] at h'; cases h'
    | some d => rw [e2] at h'; cases h'; exact ⟨xs, d, rfl, e2, rfl⟩
theorem up_ix : IxR X (rU2 X.K fIx) := by
  intro value slice pins s σ H x y v u Q I rx ry h hs
  obtain ⟨ω, S, a, b, hS, ra, rb, q⟩ := h
  cases b <;> first | (cases a <;> exact q.elim) | skip
  rename_i i
  cases rb
  by_cases hstr : ∃ cs, a = .str cs
  · obtain ⟨cs, rfl⟩ := hstr
    cases ra
    have q' : PostO (RelD X.K) X.K ω H (if cs.length ≤ line then (match L2.atI cs i with
      | some c => some (.str [c], S)
      | none => none) else none) Q := q
    by_cases hl : cs.length ≤ line
    · rw [if_pos hl] at q'
      cases e : L2.atI cs i with
      | none => rw [e] at q'; exact q'.elim
      | some c =>
        rw [e] at q'
        exact ix_seq value slice pins s σ H _ _ v u Q I rx ry (.inr (.inr ⟨_, i, c, rfl, rfl, by rw [strLen]; exact line_le hl, by simpa using e, q'.give hS (.str [c])⟩)) hs
    · rw [if_neg hl] at q'; exact q'.elim
  · cases e : fIx a (.int i) S with
    | none => rw [e] at q; exact q.elim
    | some p =>
      rw [e] at q
      obtain ⟨xs, d, h1, h2, rfl⟩ := fIx_seq (fun cs z => hstr ⟨cs, z⟩) e
      obtain ⟨l, vs, rfl, hq, rs⟩ := seqOf_ok hS ra h1
      obtain ⟨w, h3, r3⟩ := rs.atI h2
      have fin := q.give hS r3
      rcases hq with hq | hq
      · exact ix_seq value slice pins s σ H _ _ v u Q I rx ry (.inl ⟨l, vs, i, w, rfl, rfl, hq, h3, fin⟩) hs
      · exact ix_seq value slice pins s σ H _ _ v u Q I rx ry (.inr (.inl ⟨l, vs, i, w, rfl, rfl, hq, h3, fin⟩)) hs
end

/-! ### slices -/
def cutL {α : Type} (xs : List α) (lo hi : Option Int) : List α := (xs.drop (HT.sIx xs.length 0 lo)).take (HT.sIx xs.length xs.length hi - HT.sIx xs.length 0 lo)
def fSl (x : D) (lo hi : Option Int) (S : Mem) : Option (D × Mem) := match x with
  | .str cs => if cs.length ≤ line then some (.str (cutL cs lo hi), S) else none
  | .tup xs => some (.tup (cutL xs lo hi), S)
  | x => match seqOf S x with
    | some xs => some (.ref S.length, S ++ [.lst (cutL xs lo hi)])
    | none => none
def rUsl (K : PySem.W.Frag) : V → Option Int → Option Int → Hp → VK → Prop := fun x lo hi H Q => ∃ ω S a, Sim K ω S H ∧ RelD K ω H a x ∧ PostO (RelD K) K ω H (fSl a lo hi S) Q
theorem cutL_whole {α : Type} {xs : List α} {lo hi : Option Int} (h : HT.sIx xs.length 0 lo = 0 ∧ HT.sIx xs.length xs.length hi = xs.length) : cutL xs lo hi = xs := by
  unfold cutL
  rw [h.1, h.2, List.drop_zero, Nat.sub_zero, List.take_length]
section
variable {X : Cx} {K : PySem.W.Frag} {ω : Wo} {H : Hp} {S : Mem}
theorem RelDs.cut {xs : List D} {vs : List V} (r : RelDs K ω H xs vs) (lo hi : Option Int) : RelDs K ω H (cutL xs lo hi) (cutV vs lo hi) := by
  unfold cutL cutV
  rw [r.length]
  exact (r.drop _).take _
theorem cutS_eq (cs : List Nat) (lo hi : Option Int) : cutS ⟨cs.toArray⟩ lo hi = ⟨(cutL cs lo hi).toArray⟩ := by
  unfold cutS cutL
  rw [strLen]
theorem up_sl : SlR X (rUsl X.K) := by
  intro pins s σ H x v vl vu lo hi sl Q I rx hs pl pu h
  obtain ⟨ω, S, a, hS, ra, q⟩ := h
  cases a <;> first | exact q.elim | skip
  · rename_i cs
    cases ra
    have q' : PostO (RelD X.K) X.K ω H (if cs.length ≤ line then some (.str (cutL cs lo hi), S) else none) Q := q
    by_cases hl : cs.length ≤ line
    · rw [if_pos hl] at q'
      exact sl_str pins s σ H _ v vl vu lo hi sl Q I rx hs pl pu ⟨_, rfl, by rw [strLen]; exact line_le hl, by rw [cutS_eq]; exact q'.give hS (.str _)⟩
    · rw [if_neg hl] at q'; exact q'.elim
  · rename_i xs
    cases ra with
    | tup t r1 =>
      have q' : PostO (RelD X.K) X.K ω H (some (.tup (cutL xs lo hi), S)) Q := q
      refine sl_tupA pins s σ H _ v vl vu lo hi sl Q I rx hs pl pu ⟨_, _, rfl, t, fun hw => ?_, fun hw p hp => ?_⟩
      · rw [← r1.length] at hw
        rw [cutL_whole hw] at q'
        exact q'.give hS (.tup t r1)
      · exact q'.newTup hS (r1.cut lo hi) hp
  · rename_i xs
    cases ra with
    | fl t r1 =>
      have q' : PostO (RelD X.K) X.K ω H (some (.ref S.length, S ++ [.lst (cutL xs lo hi)])) Q := q
      exact sl_list pins s σ H _ v vl vu lo hi sl Q I rx hs pl pu ⟨_, _, rfl, t.seq, fun p hp => q'.newLst hS (r1.cut lo hi) hp⟩
  · rename_i n
    cases ra with
    | ref ha =>
      have q' : PostO (RelD X.K) X.K ω H (match lstAt S n with
        | some xs => some (.ref S.length, S ++ [.lst (cutL xs lo hi)])
        | none => none) Q := q
      cases e : lstAt S n with
      | none => rw [e] at q'; exact q'.elim
      | some xs =>
        rw [e] at q'
        obtain ⟨vs, h1, r1⟩ := hS.lst (lstAt_eq e) ha
        exact sl_list pins s σ H _ v vl vu lo hi sl Q I rx hs pl pu ⟨_, _, rfl, SqL.of h1, fun p hp => q'.newLst hS (r1.cut lo hi) hp⟩
end
/-! ### o[i] = v -/
def fSet : D → D → D → Mem → Option Mem
  | .ref n, .int k, d, S => match lstAt S n with
    | some xs => (match ixN xs.length k with
      | some j => some (S.set n (.lst (xs.set j d)))
      | none => none)
    | none => none
  | _, _, _, _ => none
def rUset (K : PySem.W.Frag) : V → V → V → Hp → (Hp → Prop) → Prop := fun o i v H Q => ∃ ω S a b d, Sim K ω S H ∧ RelD K ω H a o ∧ RelD K ω H b i ∧ RelD K ω H d v ∧ match fSet a b d S with
  | some S' => ∀ ω' H', Later ω H ω' H' → Sim K ω' S' H' → Q H'
  | none => False
section
variable {X : Cx}
theorem up_set : PSet X (rUset X.K) := by
  intro pins s σ H o i v ov iv u Q I ro ri rv h
  obtain ⟨ω, S, a, b, d, hS, ra, rb, rd, q⟩ := h
  cases a <;> cases b <;> first | exact q.elim | skip
  rename_i n k
  cases rb
  cases ra with
  | ref ha =>
    have q' : match (match lstAt S n with
      | some xs => (match ixN xs.length k with
        | some j => some (S.set n (.lst (xs.set j d)))
        | none => none)
      | none => none) with
      | some S' => ∀ ω' H', Later ω H ω' H' → Sim X.K ω' S' H' → Q H'
      | none => False := q
    cases e : lstAt S n with
    | none => rw [e] at q'; exact q'.elim
    | some xs =>
      rw [e] at q'
      dsimp only at q'
      obtain ⟨vs, h1, r1⟩ := hS.lst (lstAt_eq e) ha
      cases e2 : ixN xs.length k with
      | none => rw [e2] at q'; exact q'.elim
      | some j =>
        rw [e2] at q'
        dsimp only at q'
        refine set_list pins s σ H _ _ _ ov iv u Q I ro ri rv ⟨_, vs, k, j, rfl, rfl, h1, by rw [← r1.length]; exact e2, ?_⟩
        obtain ⟨s1, L⟩ := hS.write (c' := .lst (xs.set j d)) (o := .lst (vs.set j v)) (lstAt_eq e) rfl ha fun L => ⟨_, upd_same, (r1.set rd j).later L⟩
        exact q' _ _ L s1
end
end Mi
namespace Mi
open PySem PySem.Spec PyProof.Rows L2
/-! ### built-in functions -/
def fLen : List D → Mem → Option (D × Mem)
  | [.str cs], S => if cs.length ≤ line then some (.int cs.length, S) else none
  | [x], S => match seqOf S x with
    | some xs => some (.int xs.length, S)
    | none => none
  | _, _ => none
def fAbs : List D → Mem → Option (D × Mem)
  | [.int i], S => some (.int (if i < 0 then -i else i), S)
  | _, _ => none
/-- the greatest, the least of a list of whole numbers that is not empty -/
def maxI : Int → List Int → Int
  | m, [] => m
  | m, x :: r => maxI (if m < x then x else m) r
def minI : Int → List Int → Int
  | m, [] => m
  | m, x :: r => minI (if x < m then x else m) r
def fMax : List D → Mem → Option (D × Mem)
  | [.int i, .int j], S => some (.int (if j > i then j else i), S)
  | [.ref n], S => match lstAt S n with
    | some xs => (match intsD xs with
      | some (i :: is) => some (.int (maxI i is), S)
      | _ => none)
    | none => none
  | _, _ => none
def fMin : List D → Mem → Option (D × Mem)
  | [.int i, .int j], S => some (.int (if j < i then j else i), S)
  | [.ref n], S => match lstAt S n with
    | some xs => (match intsD xs with
      | some (i :: is) => some (.int (minI i is), S)
      | _ => none)
    | none => none
  | _, _ => none
def fInt : List D → Mem → Option (D × Mem)
  | [.int i], S => some (.int i, S)
  | [.bl b], S => some (.int (if b then 1 else 0), S)
  | _, _ => none
def fList : List D → Mem → Option (D × Mem)
  | [x], S => match seqOf S x with
    | some xs => some (.ref S.length, S ++ [.lst xs])
    | none => none
  | _, _ => none
def fTuple : List D → Mem → Option (D × Mem)
  | [x], S => match seqOf S x with
    | some xs => some (.tup xs, S)
    | none => none
  | _, _ => none
def fSum : List D → Mem → Option (D × Mem)
  | [.ref n], S => match lstAt S n with
    | some xs => (match intsD xs with
      | some is => some (.int is.sum, S)
      | none => none)
    | none => none
  | _, _ => none
def fAll : List D → Mem → Option (D × Mem)
  | [.ref n], S => match lstAt S n with
    | some xs => (match boolsD xs with
      | some bs => some (.bl (bs.all id), S)
      | none => none)
    | none => none
  | _, _ => none
def fAny : List D → Mem → Option (D × Mem)
  | [.ref n], S => match lstAt S n with
    | some xs => (match boolsD xs with
      | some bs => some (.bl (bs.any id), S)
      | none => none)
    | none => none
  | _, _ => none
def insI (x : Int) : List Int → List Int
  | [] => [x]
  | y :: r => if x ≤ y then x :: y :: r else y :: insI x r
def sortI : List Int → List Int
  | [] => []
  | x :: r => insI x (sortI r)
def fSorted : List D → Mem → Option (D × Mem)
  | [x], S => match x with
    | .ref n => (match lstAt S n with
      | some xs => (match intsD xs with
        | some is => some (.ref S.length, S ++ [.lst ((sortI is).map D.int)])
        | none => none)
      | none => none)
    | _ => none
  | _, _ => none
def tyName (S : Mem) : D → Option String
  | .non => some "NoneType"
  | .bl _ => some "bool"
  | .int _ => some "int"
  | .str _ => some "str"
  | .tup _ => some "tuple"
  | .fl _ => some "list"
  | .ref n => match S[n]? with
    | some (.lst _) => some "list"
    | some (.dK _) => some "dict"
    | _ => none
  | _ => none
def tyNames : List String := ["NoneType", "bool", "int", "str", "tuple", "list", "dict"]
def isTy (a b : String) : Bool := decide (a = b) || (decide (a = "bool") && decide (b = "int"))
def fIsi : List D → Mem → Option (D × Mem)
  | [x, .ty b], S => match tyName S x with
    | some a => if b ∈ ["bool", "int", "str", "tuple", "list", "dict"] then some (.bl (isTy a b), S) else none
    | none => none
  | _, _ => none
theorem kit_tab : ∀ a ∈ tyNames, ∀ b ∈ ["bool", "int", "str", "tuple", "list", "dict"], kitB a b = some (isTy a b) := by decide +kernel
theorem tyName_in {S : Mem} {d : D} {a : String} (h : tyName S d = some a) : a ∈ tyNames := by
  cases d <;> first | (cases h; done) | skip
  all_goals first | (cases h; decide) | skip
  rename_i n
  dsimp only [tyName] at h
  split at h
  · cases h; decide
  · cases h; decide
  · cases h
section
variable {X : Cx} {K : PySem.W.Frag} {ω : Wo} {H : Hp} {S : Mem}
theorem tyX_ok (s : Sim K ω S H) {d : D} {v : V} {a : String} (r : RelD K ω H d v) (h : tyName S d = some a) : TyX K H v (.type a) := by
  cases d <;> first | (cases h; done) | skip
  · cases r; cases h; exact .base .non
  · cases r; cases h; exact .base (.bl _)
  · cases r; cases h; exact .base (.int _)
  · cases r; cases h; exact .base (.str _)
  · cases h
    cases r with
    | tup t r1 =>
      rcases t with (t | ⟨o, t⟩) | ⟨o, its, n, h1, h2, _⟩
      · exact .base (.tup t)
      · exact .fTuple t
      · exact .kTuple h1 h2
  · cases h
    cases r with
    | fl t r1 =>
      rcases t with ⟨o, t⟩ | ⟨o, its, n, h1, h2, _⟩
      · exact .base (.frz t)
      · exact .kList h1 h2
  · cases r with
    | ref ha =>
      dsimp only [tyName] at h
      split at h
      · rename_i e
        cases h
        obtain ⟨vs, h1, _⟩ := s.lst e ha
        exact .base (.lst h1)
      · rename_i e
        cases h
        obtain ⟨vs, h1, _⟩ := s.dK e ha
        exact .base (.dK h1)
      · cases h
/-- one argument -/
theorem RelDs.one {d : D} {vs : List V} (r : RelDs K ω H [d] vs) : ∃ v, vs = [v] ∧ RelD K ω H d v := by
  cases r with
  | cons h1 h2 => cases h2; exact ⟨_, rfl, h1⟩
theorem RelDs.two {d e : D} {vs : List V} (r : RelDs K ω H [d, e] vs) : ∃ v w, vs = [v, w] ∧ RelD K ω H d v ∧ RelD K ω H e w := by
  cases r with
  | cons h1 h2 =>
    cases h2 with
    | cons h3 h4 => cases h4; exact ⟨_, _, rfl, h1, h3⟩
theorem RelDs.zero {vs : List V} (r : RelDs K ω H [] vs) : vs = [] := by cases r; rfl
theorem fLen_cases {as : List D} {p : D × Mem} (h : fLen as S = some p) : (∃ cs, as = [.str cs] ∧ cs.length ≤ line ∧ p = (.int cs.length, S)) ∨ ∃ x xs, as = [x] ∧ seqOf S x = some xs ∧ p = (.int xs.length, S) := by
  unfold fLen at h
  split at h
  · split at h
    · rename_i hl
      exact .inl ⟨_, rfl, hl, (Option.some.inj h).symm⟩
    · cases h
  · split at h
    · rename_i e
      exact .inr ⟨_, _, rfl, e, (Option.some.inj h).symm⟩
    · cases h
  · cases h
theorem up_len : CallR X (.builtin "len") (rUs X.K fLen) := by
  intro pins s σ H xs us Q I r h
  obtain ⟨ω, S, as, hS, ra, q⟩ := h
  cases e : fLen as S with
  | none => rw [e] at q; exact q.elim
  | some p =>
    rw [e] at q
    rcases fLen_cases e with ⟨cs, rfl, hl, rfl⟩ | ⟨x, ys, rfl, h1, rfl⟩
    · obtain ⟨v, rfl, rv⟩ := ra.one
      cases rv
      exact call_len_str pins s σ H _ us Q I r ⟨_, rfl, by rw [strLen]; exact line_le hl, by rw [strLen]; exact q.give hS (.int _)⟩
    · obtain ⟨v, rfl, rv⟩ := ra.one
      obtain ⟨a, vs, rfl, hq, rs⟩ := seqOf_ok hS rv h1
      exact call_len_seq pins s σ H _ us Q I r ⟨a, vs, rfl, hq, by rw [← rs.length]; exact q.give hS (.int _)⟩
theorem up_abs : CallR X (.builtin "abs") (rUs X.K fAbs) := by
  intro pins s σ H xs us Q I r h
  obtain ⟨ω, S, as, hS, ra, q⟩ := h
  unfold fAbs at q
  split at q
  · obtain ⟨v, rfl, rv⟩ := ra.one
    cases rv
    exact call_abs pins s σ H _ us Q I r ⟨_, rfl, q.give hS (.int _)⟩
  · exact q.elim
theorem maxI_mem : ∀ (is : List Int) (m : Int), (maxI m is = m ∨ maxI m is ∈ is) ∧ m ≤ maxI m is ∧ ∀ x ∈ is, x ≤ maxI m is
  | [], m => ⟨.inl rfl, Int.le_refl _, fun _ h => by cases h⟩
  | y :: r, m => by
    obtain ⟨h1, h2, h3⟩ := maxI_mem r (if m < y then y else m)
    unfold maxI
    by_cases hc : m < y
    · rw [if_pos hc] at h1 h2 h3 ⊢
      refine ⟨.inr ?_, by omega, fun x hx => ?_⟩
      · rcases h1 with h1 | h1
        · rw [h1]; exact List.mem_cons_self
        · exact List.mem_cons_of_mem _ h1
      · rcases List.mem_cons.mp hx with rfl | hx
        · exact h2
        · exact h3 x hx
    · rw [if_neg hc] at h1 h2 h3 ⊢
      refine ⟨?_, h2, fun x hx => ?_⟩
      · rcases h1 with h1 | h1
        · exact .inl h1
        · exact .inr (List.mem_cons_of_mem _ h1)
      · rcases List.mem_cons.mp hx with rfl | hx
        · omega
        · exact h3 x hx
theorem minI_mem : ∀ (is : List Int) (m : Int), (minI m is = m ∨ minI m is ∈ is) ∧ minI m is ≤ m ∧ ∀ x ∈ is, minI m is ≤ x
  | [], m => ⟨.inl rfl, Int.le_refl _, fun _ h => by cases h⟩
  | y :: r, m => by
    obtain ⟨h1, h2, h3⟩ := minI_mem r (if y < m then y else m)
    unfold minI
    by_cases hc : y < m
    · rw [if_pos hc] at h1 h2 h3 ⊢
      refine ⟨.inr ?_, by omega, fun x hx => ?_⟩
      · rcases h1 with h1 | h1
        · rw [h1]; exact List.mem_cons_self
        · exact List.mem_cons_of_mem _ h1
      · rcases List.mem_cons.mp hx with rfl | hx
        · exact h2
        · exact h3 x hx
    · rw [if_neg hc] at h1 h2 h3 ⊢
      refine ⟨?_, h2, fun x hx => ?_⟩
      · rcases h1 with h1 | h1
        · exact .inl h1
        · exact .inr (List.mem_cons_of_mem _ h1)
      · rcases List.mem_cons.mp hx with rfl | hx
        · omega
        · exact h3 x hx
theorem up_max (hc : X.calm = true) : CallR X (.builtin "max") (rUs X.K fMax) := by
  intro pins s σ H xs us Q I r h
  obtain ⟨ω, S, as, hS, ra, q⟩ := h
  unfold fMax at q
  split at q
  · obtain ⟨v, w, rfl, rv, rw'⟩ := ra.two
    cases rv
    cases rw'
    exact call_max2 hc pins s σ H _ us Q I r ⟨_, _, rfl, q.give hS (.int _)⟩
  · obtain ⟨v, rfl, rv⟩ := ra.one
    cases rv with
    | ref ha =>
      split at q
      · rename_i ys e
        split at q
        · rename_i i is e2
          have e3 := intsD_eq e2
          subst e3
          obtain ⟨vs, h1, r1⟩ := hS.lst (lstAt_eq e) ha
          have e4 := r1.ints
          subst e4
          obtain ⟨g1, g2, g3⟩ := maxI_mem is i
          refine cr_max hc pins s σ H _ us Q I r ⟨_, i :: is, rfl, SqL.of h1, Nat.succ_pos _, fun m hm hle => ?_⟩
          have hm1 : m ≤ maxI i is := by
            rcases List.mem_cons.mp hm with rfl | hm
            · exact g2
            · exact g3 m hm
          have hm2 : maxI i is ≤ m := hle _ (by
            rcases g1 with g | g
            · rw [g]; exact List.mem_cons_self
            · exact List.mem_cons_of_mem _ g)
          have : m = maxI i is := by omega
          rw [this]
          exact q.give hS (.int _)
        · exact q.elim
      · exact q.elim
  · exact q.elim
theorem up_min (hc : X.calm = true) : CallR X (.builtin "min") (rUs X.K fMin) := by
  intro pins s σ H xs us Q I r h
  obtain ⟨ω, S, as, hS, ra, q⟩ := h
  unfold fMin at q
  split at q
  · obtain ⟨v, w, rfl, rv, rw'⟩ := ra.two
    cases rv
    cases rw'
    exact call_min2 hc pins s σ H _ us Q I r ⟨_, _, rfl, q.give hS (.int _)⟩
  · obtain ⟨v, rfl, rv⟩ := ra.one
    cases rv with
    | ref ha =>
      split at q
      · rename_i ys e
        split at q
        · rename_i i is e2
          have e3 := intsD_eq e2
          subst e3
          obtain ⟨vs, h1, r1⟩ := hS.lst (lstAt_eq e) ha
          have e4 := r1.ints
          subst e4
          obtain ⟨g1, g2, g3⟩ := minI_mem is i
          refine cr_min hc pins s σ H _ us Q I r ⟨_, i :: is, rfl, SqL.of h1, Nat.succ_pos _, fun m hm hle => ?_⟩
          have hm1 : minI i is ≤ m := by
            rcases List.mem_cons.mp hm with rfl | hm
            · exact g2
            · exact g3 m hm
          have hm2 : m ≤ minI i is := hle _ (by
            rcases g1 with g | g
            · rw [g]; exact List.mem_cons_self
            · exact List.mem_cons_of_mem _ g)
          have : m = minI i is := by omega
          rw [this]
          exact q.give hS (.int _)
        · exact q.elim
      · exact q.elim
  · exact q.elim
theorem up_int : CallR X (.type "int") (rUs X.K fInt) := by
  intro pins s σ H xs us Q I r h
  obtain ⟨ω, S, as, hS, ra, q⟩ := h
  unfold fInt at q
  split at q
  · obtain ⟨v, rfl, rv⟩ := ra.one
    cases rv
    exact call_int1 pins s σ H _ us Q I r (.inl ⟨_, rfl, q.give hS (.int _)⟩)
  · obtain ⟨v, rfl, rv⟩ := ra.one
    cases rv
    exact call_int1 pins s σ H _ us Q I r (.inr ⟨_, rfl, q.give hS (.int _)⟩)
  · exact q.elim
theorem up_list : CallR X (.type "list") (rUs X.K fList) := by
  intro pins s σ H xs us Q I r h
  obtain ⟨ω, S, as, hS, ra, q⟩ := h
  unfold fList at q
  split at q
  · split at q
    · rename_i ys e
      obtain ⟨v, rfl, rv⟩ := ra.one
      obtain ⟨a, vs, rfl, hq, rs⟩ := seqOf_ok hS rv e
      exact call_list_of pins s σ H _ us Q I r ⟨a, vs, rfl, hq, fun p hp => q.newLst hS rs hp⟩
    · exact q.elim
  · exact q.elim
theorem up_tuple : CallR X (.type "tuple") (rUs X.K fTuple) := by
  intro pins s σ H xs us Q I r h
  obtain ⟨ω, S, as, hS, ra, q⟩ := h
  unfold fTuple at q
  split at q
  · split at q
    · rename_i ys e
      obtain ⟨v, rfl, rv⟩ := ra.one
      obtain ⟨a, vs, rfl, hq, rs⟩ := seqOf_ok hS rv e
      rcases hq with hq | hq
      · exact call_tuple_of pins s σ H _ us Q I r ⟨a, vs, rfl, .inl ⟨hq, fun p hp => q.newTup hS rs hp⟩⟩
      · exact call_tuple_of pins s σ H _ us Q I r ⟨a, vs, rfl, .inr ⟨hq, q.give hS (.tup hq rs)⟩⟩
    · exact q.elim
  · exact q.elim
theorem up_sum (hc : X.calm = true) : CallR X (.builtin "sum") (rUs X.K fSum) := by
  intro pins s σ H xs us Q I r h
  obtain ⟨ω, S, as, hS, ra, q⟩ := h
  unfold fSum at q
  split at q
  · obtain ⟨v, rfl, rv⟩ := ra.one
    cases rv with
    | ref ha =>
      split at q
      · rename_i ys e
        split at q
        · rename_i is e2
          have e3 := intsD_eq e2
          subst e3
          obtain ⟨vs, h1, r1⟩ := hS.lst (lstAt_eq e) ha
          have e4 := r1.ints
          subst e4
          exact cr_sum hc pins s σ H _ us Q I r ⟨_, is, rfl, SqL.of h1, q.give hS (.int _)⟩
        · exact q.elim
      · exact q.elim
  · exact q.elim
theorem up_all (hc : X.calm = true) : CallR X (.builtin "all") (rUs X.K fAll) := by
  intro pins s σ H xs us Q I r h
  obtain ⟨ω, S, as, hS, ra, q⟩ := h
  unfold fAll at q
  split at q
  · obtain ⟨v, rfl, rv⟩ := ra.one
    cases rv with
    | ref ha =>
      split at q
      · rename_i ys e
        split at q
        · rename_i is e2
          have e3 := boolsD_eq e2
          subst e3
          obtain ⟨vs, h1, r1⟩ := hS.lst (lstAt_eq e) ha
          have e4 := r1.bls
          subst e4
          exact cr_all hc pins s σ H _ us Q I r ⟨_, is, rfl, SqL.of h1, q.give hS (.bl _)⟩
        · exact q.elim
      · exact q.elim
  · exact q.elim
theorem up_any (hc : X.calm = true) : CallR X (.builtin "any") (rUs X.K fAny) := by
  intro pins s σ H xs us Q I r h
  obtain ⟨ω, S, as, hS, ra, q⟩ := h
  unfold fAny at q
  split at q
  · obtain ⟨v, rfl, rv⟩ := ra.one
    cases rv with
    | ref ha =>
      split at q
      · rename_i ys e
        split at q
        · rename_i is e2
          have e3 := boolsD_eq e2
          subst e3
          obtain ⟨vs, h1, r1⟩ := hS.lst (lstAt_eq e) ha
          have e4 := r1.bls
          subst e4
          exact cr_any hc pins s σ H _ us Q I r ⟨_, is, rfl, SqL.of h1, q.give hS (.bl _)⟩
        · exact q.elim
      · exact q.elim
  · exact q.elim
theorem insI_perm (x : Int) : ∀ l : List Int, (insI x l).Perm (x :: l)
  | [] => .refl _
  | y :: r => by
    unfold insI
    split
    · exact .refl _
    · exact ((insI_perm x r).cons y).trans (.swap x y r)
theorem sortI_perm : ∀ l : List Int, (sortI l).Perm l
  | [] => .refl _
  | x :: r => (insI_perm x (sortI r)).trans ((sortI_perm r).cons x)
theorem insI_sorted (x : Int) : ∀ {l : List Int}, l.Pairwise (· ≤ ·) → (insI x l).Pairwise (· ≤ ·)
  | [], _ => List.pairwise_singleton _ _
  | y :: r, h => by
    obtain ⟨h1, h2⟩ := List.pairwise_cons.mp h
    unfold insI
    split
    · rename_i hc
      refine List.pairwise_cons.mpr ⟨fun z hz => ?_, h⟩
      rcases List.mem_cons.mp hz with rfl | hz
      · exact hc
      · exact Int.le_trans hc (h1 z hz)
    · rename_i hc
      refine List.pairwise_cons.mpr ⟨fun z hz => ?_, insI_sorted x h2⟩
      rcases List.mem_cons.mp ((insI_perm x r).mem_iff.mp hz) with rfl | hz
      · omega
      · exact h1 z hz
theorem sortI_sorted : ∀ l : List Int, (sortI l).Pairwise (· ≤ ·)
  | [] => .nil
  | x :: r => insI_sorted x (sortI_sorted r)
theorem sorted_one {l m : List Int} (p : l.Perm m) (h1 : l.Pairwise (· ≤ ·)) (h2 : m.Pairwise (· ≤ ·)) : l = m := p.eq_of_pairwise (fun a b _ _ h h' => Int.le_antisymm h h') h1 h2
theorem up_sorted : CallR X (.builtin "sorted") (rUs X.K fSorted) := by
  intro pins s σ H xs us Q I r h
  obtain ⟨ω, S, as, hS, ra, q⟩ := h
  unfold fSorted at q
  split at q
  · split at q
    · obtain ⟨v, rfl, rv⟩ := ra.one
      cases rv with
      | ref ha =>
        split at q
        · rename_i ys e
          split at q
          · rename_i is e2
            have e3 := intsD_eq e2
            subst e3
            obtain ⟨vs, h1, r1⟩ := hS.lst (lstAt_eq e) ha
            have e4 := r1.ints
            subst e4
            refine cr_sortedI pins s σ H _ us Q I r ⟨_, is, rfl, SqL.of h1, fun ns' p hp hs hn => ?_⟩
            have : ns' = sortI is := sorted_one (hp.trans (sortI_perm is).symm) hs (sortI_sorted is)
            subst this
            exact q.newLst hS (RelDs.ofInts _) hn
          · exact q.elim
        · exact q.elim
    · exact q.elim
  · exact q.elim
theorem up_isi : CallR X (.builtin "isinstance") (rUs X.K fIsi) := by
  intro pins s σ H xs us Q I r h
  obtain ⟨ω, S, as, hS, ra, q⟩ := h
  unfold fIsi at q
  split at q
  · rename_i x b
    obtain ⟨v, w, rfl, rv, rw'⟩ := ra.two
    cases rw'
    split at q
    · rename_i a e
      split at q
      · rename_i hb
        exact call_isi pins s σ H _ us Q I r ⟨v, .ty b, .type a, .type b, isTy a b, rfl, .ty b, tyX_ok hS rv e, kit_ty (kit_tab a (tyName_in e) b hb), q.give hS (.bl _)⟩
      · exact q.elim
    · exact q.elim
  · exact q.elim
end
end Mi
namespace Mi
open PySem PySem.Spec PyProof.Rows L2
/-! ### methods of lists and texts -/
def fAppend : D → List D → Mem → Option (D × Mem)
  | .ref n, [d], S => match lstAt S n with
    | some xs => if xs.length < line then some (.non, S.set n (.lst (xs ++ [d]))) else none
    | none => none
  | _, _, _ => none
def fExtend : D → List D → Mem → Option (D × Mem)
  | .ref n, [.ref m], S => match lstAt S n, lstAt S m with
    | some xs, some ys => if xs.length + ys.length ≤ line then some (.non, S.set n (.lst (xs ++ ys))) else none
    | _, _ => none
  | _, _, _ => none
def fPop : D → List D → Mem → Option (D × Mem)
  | .ref n, [], S => match lstAt S n with
    | some xs => (match xs[xs.length - 1]? with
      | some y => some (y, S.set n (.lst xs.dropLast))
      | none => none)
    | none => none
  | .ref n, [.int i], S => match lstAt S n with
    | some xs => (match ixN xs.length i with
      | some k => (match xs[k]? with
        | some y => some (y, S.set n (.lst (xs.eraseIdx k)))
        | none => none)
      | none => none)
    | none => none
  | _, _, _ => none
/-- the first place of an item, flat ones -/
def firstAt (y : D) : List D → Nat → Option Nat
  | [], _ => none
  | x :: r, j => if eqF x y = true then some j else firstAt y r (j + 1)
def fIndexL : D → List D → Mem → Option (D × Mem)
  | .ref n, [y], S => match lstAt S n with
    | some xs => if flatD y = true ∧ xs.all flatD = true then (match firstAt y xs 0 with
      | some j => some (.int j, S)
      | none => none) else none
    | none => none
  | _, _, _ => none
def fCountS : D → List D → Mem → Option (D × Mem)
  | .str cs, [.str [c]], S => some (.int (cs.count c), S)
  | _, _, _ => none
/-- texts with a text between them -/
def joinL (sep : List Nat) : List (List Nat) → List Nat
  | [] => []
  | [x] => x
  | x :: y :: r => x ++ sep ++ joinL sep (y :: r)
def fJoin : D → List D → Mem → Option (D × Mem)
  | .str sep, [x], S => match seqOf S x with
    | some xs => (match strsD xs with
      | some ts => if (ts.map (·.length)).sum + ts.length * sep.length ≤ line then some (.str (joinL sep ts), S) else none
      | none => none)
    | none => none
  | _, _, _ => none
/-- a method of a built-in type that one may call -/
structure MtOk (X : Cx) (T : String) (name : Str) (f : D → List D → Mem → Option (D × Mem)) : Prop where
  ex : ∃ id, PlainAttrs T ∧ Slot T name id ∧ typeOf (.builtin id) = pure (.type "method_descriptor") ∧ MtR X id (rUm X.K f)
section
variable {X : Cx} {K : PySem.W.Frag} {ω : Wo} {H : Hp} {S : Mem}
theorem up_append : MtR X "list.append" (rUm X.K fAppend) := by
  intro pins s σ H x xs v us Q I rx rs h
  obtain ⟨ω, S, a, as, hS, ra, rd, q⟩ := h
  unfold fAppend at q
  split at q
  · rename_i n d
    obtain ⟨w, rfl, rw'⟩ := rd.one
    cases ra with
    | ref ha =>
      split at q
      · rename_i ys e
        split at q
        · rename_i hl
          obtain ⟨vs, h1, r1⟩ := hS.lst (lstAt_eq e) ha
          exact mt_append pins s σ H _ _ v us Q I rx rs ⟨_, vs, w, rfl, rfl, h1, by rw [← r1.length]; exact line_lt hl, q.setLst hS (lstAt_eq e) ha (r1.append (.cons rw' .nil)) .non⟩
        · exact q.elim
      · exact q.elim
  · exact q.elim
theorem up_extend : MtR X "list.extend" (rUm X.K fExtend) := by
  intro pins s σ H x xs v us Q I rx rs h
  obtain ⟨ω, S, a, as, hS, ra, rd, q⟩ := h
  unfold fExtend at q
  split at q
  · rename_i n m
    obtain ⟨w, rfl, rw'⟩ := rd.one
    cases rw' with
    | ref hb =>
      cases ra with
      | ref ha =>
        split at q
        · rename_i ys zs e e2
          split at q
          · rename_i hl
            obtain ⟨vs, h1, r1⟩ := hS.lst (lstAt_eq e) ha
            obtain ⟨ws, h2, r2⟩ := hS.lst (lstAt_eq e2) hb
            exact mt_extend pins s σ H _ _ v us Q I rx rs ⟨_, _, vs, ws, rfl, rfl, h1, h2, by rw [← r1.length, ← r2.length]; exact line_le hl, q.setLst hS (lstAt_eq e) ha (r1.append r2) .non⟩
          · exact q.elim
        · exact q.elim
  · exact q.elim
theorem up_pop : MtR X "list.pop" (rUm X.K fPop) := by
  intro pins s σ H x xs v us Q I rx rs h
  obtain ⟨ω, S, a, as, hS, ra, rd, q⟩ := h
  unfold fPop at q
  split at q
  · rename_i n
    have e0 := rd.zero
    subst e0
    cases ra with
    | ref ha =>
      split at q
      · rename_i ys e
        split at q
        · rename_i y e2
          obtain ⟨vs, h1, r1⟩ := hS.lst (lstAt_eq e) ha
          obtain ⟨w, h2, r2⟩ := r1.get e2
          exact mt_pop pins s σ H _ _ v us Q I rx rs ⟨_, vs, w, rfl, rfl, h1, by rw [← r1.length]; exact h2, q.setLst hS (lstAt_eq e) ha r1.dropLast r2⟩
        · exact q.elim
      · exact q.elim
  · rename_i n i
    obtain ⟨w0, rfl, rw0⟩ := rd.one
    cases rw0
    cases ra with
    | ref ha =>
      split at q
      · rename_i ys e
        split at q
        · rename_i k e1
          split at q
          · rename_i y e2
            obtain ⟨vs, h1, r1⟩ := hS.lst (lstAt_eq e) ha
            obtain ⟨w, h2, r2⟩ := r1.get e2
            obtain ⟨g1, g2, g3, g4⟩ := ixN_seq e1
            have hz : vs.length ≤ sizeLine := (I.lstM h1).1
            have hz2 : vs.length ≤ 16777216 := by rw [sizeLine_eq] at hz; exact hz
            have hl := r1.length
            exact mt_popAt pins s σ H _ _ v us Q I rx rs ⟨_, vs, i, k, w, rfl, rfl, h1, by omega, by omega, by rw [← r1.length]; exact g1, h2, q.setLst hS (lstAt_eq e) ha (r1.eraseIdx k) r2⟩
          · exact q.elim
        · exact q.elim
      · exact q.elim
  · exact q.elim
theorem firstAt_spec (y : D) : ∀ (xs : List D) (j k : Nat), firstAt y xs j = some k → ∃ m, k = j + m ∧ (∃ z, xs[m]? = some z ∧ eqF z y = true) ∧ ∀ i z, i < m → xs[i]? = some z → eqF z y = false
  | [], _, _, h => by cases h
  | x :: r, j, k, h => by
    unfold firstAt at h
    by_cases hc : eqF x y = true
    · rw [if_pos hc] at h
      cases h
      exact ⟨0, rfl, ⟨x, rfl, hc⟩, fun i z hi => absurd hi (Nat.not_lt_zero _)⟩
    · rw [if_neg hc] at h
      obtain ⟨m, e, ⟨z, h1, h2⟩, h3⟩ := firstAt_spec y r (j + 1) k h
      refine ⟨m + 1, by omega, ⟨z, by simpa using h1, h2⟩, fun i z hi hz => ?_⟩
      cases i with
      | zero =>
        have ez : x = z := by simpa using hz
        subst ez
        exact Bool.eq_false_iff.mpr hc
      | succ i => exact h3 i z (by omega) (by simpa using hz)
theorem up_indexL : MtR X "list.index" (rUm X.K fIndexL) := by
  intro pins s σ H x xs v us Q I rx rs h
  obtain ⟨ω, S, a, as, hS, ra, rd, q⟩ := h
  unfold fIndexL at q
  split at q
  · rename_i n y
    obtain ⟨w, rfl, rw'⟩ := rd.one
    cases ra with
    | ref ha =>
      split at q
      · rename_i ys e
        split at q
        · rename_i hf
          split at q
          · rename_i j e2
            obtain ⟨vs, h1, r1⟩ := hS.lst (lstAt_eq e) ha
            obtain ⟨m, rfl, ⟨z, g1, g2⟩, g3⟩ := firstAt_spec y ys 0 _ e2
            obtain ⟨zv, k1, k2⟩ := r1.get g1
            have fz : flatD z = true := List.all_eq_true.mp hf.2 z (List.mem_of_getElem? g1)
            refine mt_index pins s σ H _ _ v us Q I rx rs ⟨_, vs, w, m, zv, rfl, rfl, SqL.of h1, flat_ok rw' hf.1, flats_ok r1 hf.2, k1, ?_, fun i z' hi hz' => ?_, ?_⟩
            · rw [eqF_ok k2 rw' fz hf.1]; exact g2
            · obtain ⟨d', k3, k4⟩ := r1.getV hz'
              rw [eqF_ok k4 rw' (List.all_eq_true.mp hf.2 d' (List.mem_of_getElem? k3)) hf.1]
              exact g3 i d' hi k3
            · have := q.give hS (.int ((0 + m : Nat) : Int))
              rw [Nat.zero_add] at this
              exact this
          · exact q.elim
        · exact q.elim
      · exact q.elim
  · exact q.elim
theorem cnt_count (c : Nat) : ∀ l : List Nat, cnt c l = (l.count c : Nat)
  | [] => rfl
  | n :: r => by
    rw [cnt_cons, cnt_count c r, List.count_cons]
    by_cases h : n = c
    · subst h; simp; omega
    · simp [h]
theorem up_countS : MtR X "str.count" (rUm X.K fCountS) := by
  intro pins s σ H x xs v us Q I rx rs h
  obtain ⟨ω, S, a, as, hS, ra, rd, q⟩ := h
  unfold fCountS at q
  split at q
  · rename_i cs c
    obtain ⟨w, rfl, rw'⟩ := rd.one
    cases ra
    cases rw'
    refine mt_count pins s σ H _ _ v us Q I rx rs ⟨_, _, rfl, rfl, ?_⟩
    rw [show (⟨[c].toArray⟩ : Str) = ⟨#[c]⟩ from rfl, count_cnt, cnt_count]
    exact q.give hS (.int _)
  · exact q.elim
theorem glued_join (sep : List Nat) : ∀ (ts : List (List Nat)), Builtin.Str.glued ⟨sep.toArray⟩ (ts.map fun cs => (⟨cs.toArray⟩ : Str)) = ⟨(joinL sep ts).toArray⟩ := by
  have fold : ∀ (ts : List (List Nat)) (x : List Nat), (ts.map fun cs => (⟨cs.toArray⟩ : Str)).foldl (fun acc p => acc ++ sep.toArray ++ p.cps) x.toArray = (joinL sep (x :: ts)).toArray := by
    intro ts
    induction ts with
    | nil => intro x; rfl
    | cons y r ih =>
      intro x
      rw [List.map_cons, List.foldl_cons]
      have e : x.toArray ++ sep.toArray ++ y.toArray = (x ++ sep ++ y).toArray := by simp
      show List.foldl _ (x.toArray ++ sep.toArray ++ y.toArray) _ = _
      rw [e, ih (x ++ sep ++ y)]
      congr 1
      cases r with
      | nil => rfl
      | cons z r' =>
        show (x ++ sep ++ y) ++ sep ++ joinL sep (z :: r') = x ++ sep ++ (y ++ sep ++ joinL sep (z :: r'))
        simp
  intro ts
  cases ts with
  | nil => rfl
  | cons x r =>
    show (⟨(r.map fun cs => (⟨cs.toArray⟩ : Str)).foldl _ x.toArray⟩ : Str) = _
    rw [fold]
theorem up_join : MtR X "str.join" (rUm X.K fJoin) := by
  intro pins s σ H x xs v us Q I rx rs h
  obtain ⟨ω, S, a, as, hS, ra, rd, q⟩ := h
  unfold fJoin at q
  split at q
  · rename_i sep y
    obtain ⟨w, rfl, rw'⟩ := rd.one
    cases ra
    split at q
    · rename_i ys e
      split at q
      · rename_i ts e2
        split at q
        · rename_i hl
          obtain ⟨p, vs, rfl, hq, r1⟩ := seqOf_ok hS rw' e
          have e3 := strsD_eq e2
          subst e3
          have e4 := r1.strs
          subst e4
          refine mt_join pins s σ H _ _ v us Q I rx rs ⟨_, p, ts.map fun cs => (⟨cs.toArray⟩ : Str), rfl, rfl, hq, ?_, ?_⟩
          · rw [List.map_map, List.length_map, strLen]
            have : ((fun x : Str => x.length) ∘ fun cs : List Nat => (⟨cs.toArray⟩ : Str)) = fun cs => cs.length := by
              funext cs; exact strLen cs
            rw [this]
            exact hl
          · show Q (.str (Builtin.Str.glued _ _)) H
            rw [glued_join]
            exact q.give hS (.str _)
        · exact q.elim
      · exact q.elim
    · exact q.elim
  · exact q.elim
theorem ok_append : MtOk X "list" "append" fAppend := ⟨_, PySem.F.plainAttrs_list, PySem.F.slot_list_append, PySem.F.type_list_append, up_append⟩
theorem ok_extend : MtOk X "list" "extend" fExtend := ⟨_, PySem.F.plainAttrs_list, PySem.F.slot_list_extend, PySem.F.type_list_extend, up_extend⟩
theorem ok_pop : MtOk X "list" "pop" fPop := ⟨_, PySem.F.plainAttrs_list, PySem.F.slot_list_pop, PySem.F.type_list_pop, up_pop⟩
theorem ok_index : MtOk X "list" "index" fIndexL := ⟨_, PySem.F.plainAttrs_list, PySem.F.slot_list_index, PySem.F.type_list_index, up_indexL⟩
theorem ok_count : MtOk X "str" "count" fCountS := ⟨_, PySem.F.plainAttrs_str, PySem.F.slot_str_count, PySem.F.type_str_count, up_countS⟩
theorem ok_join : MtOk X "str" "join" fJoin := ⟨_, PySem.F.plainAttrs_str, PySem.F.slot_str_join, PySem.F.type_str_join, up_join⟩
end
end Mi

set_option Elab.async false
set_option linter.all false
set_option maxRecDepth 100000
set_option maxHeartbeats 4000000
/-! MiD: the plain language and what it computes -/
namespace Mi
open PySem PySem.Spec PyProof.Rows L2

inductive Bop | add | sub | mul | div | mod | pow
inductive Cop | eq | ne | lt | le | gt | ge | isin | notin | same | notsame
inductive Bi | len | abs | max | min | int | list | tuple | sum | all | any | sorted | isi
inductive Mt | append | extend | pop | index | count | join
@[reducible] def Bop.f : Bop → D → D → Mem → Option (D × Mem)
  | .add => fAdd | .sub => fSub | .mul => fMul | .div => fDiv | .mod => fMod | .pow => fPow
@[reducible] def Cop.f : Cop → D → D → Mem → Option (D × Mem)
  | .eq => fEq | .ne => fNe | .lt => fLt | .le => fLe | .gt => fGt | .ge => fGe | .isin => fIn | .notin => fNin | .same => fIs | .notsame => fIsn
@[reducible] def Bi.f : Bi → List D → Mem → Option (D × Mem)
  | .len => fLen | .abs => fAbs | .max => fMax | .min => fMin | .int => fInt | .list => fList | .tuple => fTuple | .sum => fSum | .all => fAll | .any => fAny | .sorted => fSorted | .isi => fIsi
/-- a method by the receiver's type -/
inductive Im | lAppend | lExtend | lPop | lIndex | sCount | sJoin
@[reducible] def Im.f : Im → D → List D → Mem → Option (D × Mem)
  | .lAppend => fAppend | .lExtend => fExtend | .lPop => fPop | .lIndex => fIndexL | .sCount => fCountS | .sJoin => fJoin
/-- x op= y of what never changes -/
def fAug (o : Bop) (x y : D) (S : Mem) : Option (D × Mem) := match o, x, y with
  | .add, .int i, .int j => some (.int (i + j), S)
  | .sub, .int i, .int j => some (.int (i - j), S)
  | .add, .str i, .str j => if i.length + j.length ≤ line then some (.str (i ++ j), S) else none
  | _, _, _ => none
/-- the signs of cs[lo:hi:-1] -/
def pickR (cs : List Nat) (lo hi : Option Int) : List Nat := (PySem.Builtin.Str.strSliceIndices lo hi (-1) cs.length).filterMap (cs[·]?)
/-- x[lo:hi:-1]: of a text; of a whole list -/
def fRv (lo hi : Option Int) : D → Mem → Option (D × Mem)
  | .str cs, S => if (pickR cs lo hi).length ≤ line then some (.str (pickR cs lo hi), S) else none
  | .ref n, S => match lo, hi, lstAt S n with
    | none, none, some xs => some (.ref S.length, S ++ [.lst xs.reverse])
    | _, _, _ => none
  | _, _ => none
/-- a text with y in the place of z -/
def fRpl (y z : List Nat) : D → Mem → Option (D × Mem)
  | .str cs, S => if cs.length + (cs.length + 1) * z.length ≤ line then some (.str (PySem.StrLaws.replL y z cs), S) else none
  | _, _ => none
def isLst (S : Mem) : D → Bool
  | .ref n => (lstAt S n).isSome
  | _ => false
def isStr : D → Bool
  | .str _ => true
  | _ => false
def Mt.sel (m : Mt) (S : Mem) (d : D) : Option Im := match m with
  | .append => if isLst S d = true then some .lAppend else none
  | .extend => if isLst S d = true then some .lExtend else none
  | .pop => if isLst S d = true then some .lPop else none
  | .index => if isLst S d = true then some .lIndex else none
  | .count => if isStr d = true then some .sCount else none
  | .join => if isStr d = true then some .sJoin else none

mutual
inductive E
  | c (d : D) | v (i : Nat)
  | bin (o : Bop) (a b : E) | neg (a : E) | cmp (o : Cop) (a b : E) | chn (o p : Cop) (a b c : E)
  | no (a : E) | and (a b : E) | or (a b : E) | ife (c a b : E)
  | tup (es : Es) | lst (es : Es) | ix (a b : E) | sl (a : E) (lo hi : Es)
  | bi (f : Bi) (es : Es) | mt (m : Mt) (a : E) (es : Es) | call (f : Nat) (es : Es) | lrg1 (a : E) | lrg2 (a b : E)
  | lc (t : Tn) (it : It) (cs : Es) (e : E) (own : List Nat)
  | rv (a : E) (lo hi : Option Int) | rpl (a : E) (y z : List Nat)
inductive Es
  | nil | cons (e : E) (r : Es) | star (e : E) (r : Es)
inductive It
  | rng1 (a : E) | rng2 (a b : E) | rng3 (a b c : E) | of (e : E)
/-- names, and tuples of them -/
inductive Tn
  | nm (i : Nat) | tup (ts : Tns)
inductive Tns
  | nil | cons (t : Tn) (r : Tns)
end
inductive Tg
  | n (t : Tn) | sub (o i : E)
mutual
inductive Sm
  | asg (t : Tg) (e : E) | par2 (i j : Nat) (a b : E) | par3 (i j k : Nat) (a b c : E) | aug (i : Nat) (o : Bop) (e : E) | ex (e : E) | ret (e : E) | retN
  | iff (c : E) (a b : Ss) | for_ (t : Tn) (it : It) (b : Ss) | whl (c : E) (b : Ss) | pass | brk | cont | never
  | rai (x : Str) | tri (b : Ss) (h : Hs)
inductive Ss
  | nil | cons (s : Sm) (r : Ss)
/-- what takes an exception: the classes it takes, those it lets by, the suite -/
inductive Hs
  | nil | cons (ys zs : List Str) (b : Ss) (r : Hs)
end

def truth (S : Mem) : D → Option Bool
  | .non => some false
  | .bl b => some b
  | .int i => some (i != 0)
  | .str cs => if cs.length ≤ line then some (!cs.isEmpty) else none
  | .tup xs => some (!xs.isEmpty)
  | .fl xs => some (!xs.isEmpty)
  | .ref n => match S[n]? with
    | some (.lst xs) => some (!xs.isEmpty)
    | some (.dK xs) => some (!xs.isEmpty)
    | _ => none
  | _ => none
/-- what is walked -/
inductive Src where
  | items (ds : List D) | cell (n : Nat)
def Src.at_ (s : Src) (S : Mem) (i : Nat) : Option (Option D) := match s with
  | .items ds => some ds[i]?
  | .cell n => match lstAt S n with
    | some xs => some xs[i]?
    | none => none
/-- lo, lo + 1, .., so many -/
def rangeD (lo : Int) (n : Nat) : List D := (List.range n).map fun i => D.int (lo + (i : Nat))
/-- lo, lo + c, .., so many -/
def rangeC (lo c : Int) (n : Nat) : List D := (List.range n).map fun i => D.int (lo + (i : Nat) * c)
/-- not too far (told so that nothing unfolds it by chance) -/
def okR (i : Int) : Bool := Nat.ble i.natAbs 4611686018427387903
theorem okR_iff {i : Int} : okR i = true ↔ -4611686018427387904 < i ∧ i < 4611686018427387904 := by
  unfold okR
  rw [Nat.ble_eq]
  omega
def rngSrc : List D → Option Src
  | [.int a, .int b, .int c] => if (okR a && okR b && okR c && c != 0 && decide (c.natAbs < 1073741824) && Builtin.Range.small a b c && decide (0 ≤ Builtin.Range.rangeSize a b c)) = true then some (.items (rangeC a c (Builtin.Range.rangeSize a b c).toNat)) else none
  | [.int n] => if okR n = true then some (.items (rangeD 0 n.toNat)) else none
  | [.int a, .int b] => if (okR a && okR b) = true then some (.items (rangeD a (b - a).toNat)) else none
  | _ => none
def rngLst (S : Mem) : List D → Option (D × Mem)
  | [.int n] => if 0 ≤ n ∧ n ≤ 16777216 then some (.ref S.length, S ++ [.lst (rangeD 0 n.toNat)]) else none
  | [.int a, .int b] => if 0 ≤ a ∧ a ≤ 16777216 ∧ 0 ≤ b ∧ b ≤ 16777216 then some (.ref S.length, S ++ [.lst (rangeD a (b - a).toNat)]) else none
  | _ => none
def srcOf (S : Mem) : D → Option Src
  | .tup xs => some (.items xs)
  | .fl xs => some (.items xs)
  | .str cs => some (.items (cs.map fun c => D.str [c]))
  | .ref n => match lstAt S n with
    | some _ => some (.cell n)
    | none => none
  | _ => none
mutual
/-- a value is stored by names -/
def setT : Tn → D → Env → Option Env
  | .nm i, d, e => some (e.set i (some d))
  | .tup ts, d, e => match d with
    | .tup ds => setTs ts ds e
    | _ => none
def setTs : Tns → List D → Env → Option Env
  | .nil, ds, e => match ds with
    | [] => some e
    | _ => none
  | .cons t r, ds, e => match ds with
    | d :: dr => match setT t d e with
      | some e1 => setTs r dr e1
      | none => none
    | [] => none
end
def wipeE (e : Env) : List Nat → Env
  | [] => e
  | v :: vs => (wipeE e vs).set v none
/-- the turns of a for -/
def turns (src : Src) (step : D → Env → Mem → OS) : Nat → Nat → Env → Mem → OS
  | 0, _, _, _ => .bad
  | n + 1, i, e, S => match src.at_ S i with
    | none => .bad
    | some none => .ok (.nx e) S
    | some (some d) => match step d e S with
      | .ok (.nx e1) S1 => turns src step n (i + 1) e1 S1
      | .ok (.ct e1) S1 => turns src step n (i + 1) e1 S1
      | .ok (.bk e1) S1 => .ok (.nx e1) S1
      | .ok (.rt d) S1 => .ok (.rt d) S1
      | .exc x e1 S1 => .exc x e1 S1
      | .bad => .bad
/-- the turns of a while -/
def whiles (c : Env → Mem → Out Bool) (body : Env → Mem → OS) : Nat → Env → Mem → OS
  | 0, _, _ => .bad
  | n + 1, e, S => match c e S with
    | .bad => .bad
    | .exc x S1 => .exc x e S1
    | .ok false S1 => .ok (.nx e) S1
    | .ok true S1 => match body e S1 with
      | .ok (.nx e1) S2 => whiles c body n e1 S2
      | .ok (.ct e1) S2 => whiles c body n e1 S2
      | .ok (.bk e1) S2 => .ok (.nx e1) S2
      | .ok (.rt d) S2 => .ok (.rt d) S2
      | .exc x e1 S2 => .exc x e1 S2
      | .bad => .bad
/-- the turns of a comprehension: the new list stands at D -/
def comps (src : Src) (put : D → Option Env) (test : Env → Mem → Out Bool) (elt : Env → Mem → Out D) (l : Nat) : Nat → Nat → Mem → Out Unit
  | 0, _, _ => .bad
  | n + 1, i, S => match src.at_ S i with
    | none => .bad
    | some none => .ok () S
    | some (some d) => match put d with
      | none => .bad
      | some e => match test e S with
        | .ok false S1 => comps src put test elt l n (i + 1) S1
        | .ok true S1 => (match elt e S1 with
          | .ok y S2 => (match lstAt S2 l with
            | some acc => if acc.length < line then comps src put test elt l n (i + 1) (S2.set l (.lst (acc ++ [y]))) else .bad
            | none => .bad)
          | _ => .bad)
        | _ => .bad
/-- more than any loop turns -/
abbrev fuel : Nat := 1000000000
def truO (o : Out D) : Out Bool := o.bind fun d S => match truth S d with
  | some b => .ok b S
  | none => .bad
section
variable (F : Nat → List D → Mem → Out D)
mutual
def evE : E → Env → Mem → Out D
  | .c d, _, S => .ok d S
  | .v i, e, S => match e[i]? with
    | some (some d) => .ok d S
    | _ => .bad
  | .bin o a b, e, S => (evE a e S).bind fun x S1 => (evE b e S1).bind fun y S2 => lift (o.f x y S2)
  | .neg a, e, S => (evE a e S).bind fun x S1 => lift (fNeg x S1)
  | .cmp o a b, e, S => (evE a e S).bind fun x S1 => (evE b e S1).bind fun y S2 => lift (o.f x y S2)
  | .chn o p a b c, e, S => (evE a e S).bind fun x S1 => (evE b e S1).bind fun y S2 => (lift (o.f x y S2)).bind fun z S3 => match z with
    | .bl true => (evE c e S3).bind fun w S4 => lift (p.f y w S4)
    | .bl false => .ok (.bl false) S3
    | _ => .bad
  | .no a, e, S => (truO (evE a e S)).bind fun b S1 => .ok (.bl (!b)) S1
  | .and a b, e, S => (evE a e S).bind fun x S1 => match truth S1 x with
    | some true => evE b e S1
    | some false => .ok x S1
    | none => .bad
  | .or a b, e, S => (evE a e S).bind fun x S1 => match truth S1 x with
    | some true => .ok x S1
    | some false => evE b e S1
    | none => .bad
  | .ife c a b, e, S => (truO (evE c e S)).bind fun t S1 => match t with
    | true => evE a e S1
    | false => evE b e S1
  | .tup es, e, S => (evEs es e S).bind fun xs S1 => if xs.length ≤ line then .ok (.tup xs) S1 else .bad
  | .lst es, e, S => (evEs es e S).bind fun xs S1 => if xs.length ≤ line then .ok (.ref S1.length) (S1 ++ [.lst xs]) else .bad
  | .ix a b, e, S => (evE a e S).bind fun x S1 => (evE b e S1).bind fun y S2 => lift (fIx x y S2)
  | .sl a lo hi, e, S => (evE a e S).bind fun x S1 => (evO lo e S1).bind fun l S2 => (evO hi e S2).bind fun h S3 => lift (fSl x l h S3)
  | .bi f es, e, S => (evEs es e S).bind fun xs S1 => lift (f.f xs S1)
  | .mt m a es, e, S => (evE a e S).bind fun x S1 => match m.sel S1 x with
    | some i => (evEs es e S1).bind fun xs S2 => lift (i.f x xs S2)
    | none => .bad
  | .call f es, e, S => (evEs es e S).bind fun xs S1 => F f xs S1
  | .lrg1 a, e, S => (evE a e S).bind fun x S1 => lift (rngLst S1 [x])
  | .lrg2 a b, e, S => (evE a e S).bind fun x S1 => (evE b e S1).bind fun y S2 => lift (rngLst S2 [x, y])
  | .lc t it cs elt own, e, S => (evI it e S).bind fun src S1 =>
    (comps src (fun d => setT t d (wipeE e own)) (evT cs) (evE elt) S1.length fuel 0 (S1 ++ [.lst []])).bind fun _ S2 => .ok (.ref S1.length) S2
  | .rv a lo hi, e, S => (evE a e S).bind fun x S1 => lift (fRv lo hi x S1)
  | .rpl a y z, e, S => (evE a e S).bind fun x S1 => lift (fRpl y z x S1)
def evEs : Es → Env → Mem → Out (List D)
  | .nil, _, S => .ok [] S
  | .cons a r, e, S => (evE a e S).bind fun x S1 => (evEs r e S1).bind fun xs S2 => .ok (x :: xs) S2
  | .star a r, e, S => (evE a e S).bind fun x S1 => match seqOf S1 x with
    | some ys => (evEs r e S1).bind fun xs S2 => .ok (ys ++ xs) S2
    | none => .bad
/-- a part of a slice -/
def evO : Es → Env → Mem → Out (Option Int)
  | .nil, _, S => .ok none S
  | .cons a _, e, S => (evE a e S).bind fun x S1 => match x with
    | .int i => .ok (some i) S1
    | _ => .bad
  | .star _ _, _, _ => .bad
/-- the tests of a comprehension: none, or one -/
def evT : Es → Env → Mem → Out Bool
  | .nil, _, S => .ok true S
  | .cons a _, e, S => truO (evE a e S)
  | .star _ _, _, _ => .bad
def evI : It → Env → Mem → Out Src
  | .rng1 a, e, S => (evE a e S).bind fun x S1 => match rngSrc [x] with
    | some s => .ok s S1
    | none => .bad
  | .rng2 a b, e, S => (evE a e S).bind fun x S1 => (evE b e S1).bind fun y S2 => match rngSrc [x, y] with
    | some s => .ok s S2
    | none => .bad
  | .rng3 a b c, e, S => (evE a e S).bind fun x S1 => (evE b e S1).bind fun y S2 => (evE c e S2).bind fun z S3 => match rngSrc [x, y, z] with
    | some s => .ok s S3
    | none => .bad
  | .of a, e, S => (evE a e S).bind fun x S1 => match srcOf S1 x with
    | some s => .ok s S1
    | none => .bad
end
def evG : Tg → D → Env → Mem → Out Env
  | .n t, d, e, S => match setT t d e with
    | some e1 => .ok e1 S
    | none => .bad
  | .sub o i, d, e, S => (evE F o e S).bind fun x S1 => (evE F i e S1).bind fun y S2 => match fSet x y d S2 with
    | some S3 => .ok e S3
    | none => .bad
def up {α : Type} (e : Env) (o : Out α) (f : α → Mem → OS) : OS := match o with
  | .ok a S => f a S
  | .exc x S => .exc x e S
  | .bad => .bad
mutual
def evS : Sm → Env → Mem → OS
  | .asg t a, e, S => up e (evE F a e S) fun d S1 => up e (evG F t d e S1) fun e1 S2 => .ok (.nx e1) S2
  | .par2 i j a b, e, S => up e (evE F a e S) fun x S1 => up e (evE F b e S1) fun y S2 => .ok (.nx ((e.set i (some x)).set j (some y))) S2
  | .par3 i j k a b c, e, S => up e (evE F a e S) fun x S1 => up e (evE F b e S1) fun y S2 => up e (evE F c e S2) fun z S3 => .ok (.nx (((e.set i (some x)).set j (some y)).set k (some z))) S3
  | .aug i o a, e, S => match e[i]? with
    | some (some x) => up e (evE F a e S) fun y S1 => up e (lift (fAug o x y S1)) fun z S2 => .ok (.nx (e.set i (some z))) S2
    | _ => .bad
  | .ex a, e, S => up e (evE F a e S) fun _ S1 => .ok (.nx e) S1
  | .ret a, e, S => up e (evE F a e S) fun d S1 => .ok (.rt d) S1
  | .retN, _, S => .ok (.rt .non) S
  | .iff c a b, e, S => up e (truO (evE F c e S)) fun t S1 => match t with
    | true => evSs a e S1
    | false => evSs b e S1
  | .for_ t it b, e, S => up e (evI F it e S) fun src S1 => turns src (fun d e1 S2 => match setT t d e1 with
    | some e2 => evSs b e2 S2
    | none => .bad) fuel 0 e S1
  | .whl c b, e, S => whiles (fun e1 S1 => truO (evE F c e1 S1)) (evSs b) fuel e S
  | .pass, e, S => .ok (.nx e) S
  | .brk, e, S => .ok (.bk e) S
  | .cont, e, S => .ok (.ct e) S
  | .never, _, _ => .bad
  | .rai x, e, S => .exc ⟨x, []⟩ e S
  | .tri b h, e, S => match evSs b e S with
    | .exc x e1 S1 => evH h x e1 S1
    | .ok f S1 => .ok f S1
    | .bad => .bad
def evH : Hs → Xn → Env → Mem → OS
  | .nil, x, e, S => .exc x e S
  | .cons ys zs b r, x, e, S => if x.cls ∈ ys then (match evSs b e S with
    | .ok f S1 => .ok f S1
    | _ => .bad) else if x.cls ∈ zs then evH r x e S else .bad
def evSs : Ss → Env → Mem → OS
  | .nil, e, S => .ok (.nx e) S
  | .cons s r, e, S => match evS s e S with
    | .ok (.nx e1) S1 => evSs r e1 S1
    | .ok (.bk e1) S1 => .ok (.bk e1) S1
    | .ok (.ct e1) S1 => .ok (.ct e1) S1
    | .ok (.rt d) S1 => .ok (.rt d) S1
    | .exc x e1 S1 => .exc x e1 S1
    | .bad => .bad
end
end
/-- a def: how many parameters, how many slots, its body -/
structure Df where
  ar : Nat
  sl : Nat
  body : Ss
def runD (F : Nat → List D → Mem → Out D) (d : Df) (as : List D) (S : Mem) : Out D := if as.length = d.ar then (match evSs F d.body (as.map some ++ List.replicate (d.sl - d.ar) none) S with
  | .ok (.rt v) S1 => .ok v S1
  | .ok (.nx _) S1 => .ok .non S1
  | .exc x _ S1 => .exc x S1
  | _ => .bad) else .bad
/-- the defs of a program, so deep -/
def run (ds : List Df) : Nat → Nat → List D → Mem → Out D
  | 0, _, _, _ => .bad
  | k + 1, f, as, S => match ds[f]? with
    | some d => runD (run ds k) d as S
    | none => .bad
end Mi

set_option Elab.async false
set_option linter.all false
set_option maxRecDepth 100000
set_option maxHeartbeats 4000000
/-! MiE: each form of the plain language does what the form of Python does -/
namespace Mi
open PySem PySem.Spec PyProof.Rows L2

theorem PEimp {X : Cx} {e : Expr} {t t' : TE} (h : PE X e t) (i : ∀ σ H Q, t' σ H Q → t σ H Q) : PE X e t' := ⟨fun pins s σ H Q I q => h.run pins s σ H Q I (i σ H Q q)⟩
theorem PTimp {X : Cx} {e : Expr} {t t' : TT} (h : PT X e t) (i : ∀ σ H Q, t' σ H Q → t σ H Q) : PT X e t' := ⟨fun pins s σ H Q I q => h.run pins s σ H Q I (i σ H Q q)⟩
theorem PWimp {X : Cx} {e : Expr} {t t' : TT} (h : PW X e t) (i : ∀ σ H Q, t' σ H Q → t σ H Q) : PW X e t' := ⟨fun w pins s σ H Q I q => h.run w pins s σ H Q I (i σ H Q q)⟩
theorem PAimp {X : Cx} {e : List Expr} {t t' : TA} (h : PA X e t) (i : ∀ σ H Q, t' σ H Q → t σ H Q) : PA X e t' := ⟨fun pos pins s σ H Q I q => h.run pos pins s σ H Q I (i σ H Q q)⟩
theorem PSimp {X : Cx} {e : Stmt} {t t' : TS} (h : PS X e t) (i : ∀ D σ H, t' D σ H → t D σ H) : PS X e t' := ⟨fun pins s σ H D I q => h.run pins s σ H D I (i D σ H q)⟩
theorem PSsimp {X : Cx} {e : List Stmt} {t t' : TS} (h : PSs X e t) (i : ∀ D σ H, t' D σ H → t D σ H) : PSs X e t' := ⟨fun pins s σ H D I q => h.run pins s σ H D I (i D σ H q)⟩
theorem PGimp {X : Cx} {e : Expr} {t t' : TG} (h : PG X e t) (i : ∀ v σ H Q, t' v σ H Q → t v σ H Q) : PG X e t' := ⟨fun pins s σ H v u Q I r q => h.run pins s σ H v u Q I r (i v σ H Q q)⟩
theorem PIimp {X : Cx} {tg e : Expr} {t t' : TI} (h : PI X tg e t) (i : ∀ σ H Q, t' σ H Q → t σ H Q) : PI X tg e t' := ⟨fun pins s σ H Q I q => h.run pins s σ H Q I (i σ H Q q)⟩
theorem POimp {X : Cx} {e : Option Expr} {t t' : TO} (h : PO X e t) (i : ∀ σ H Q, t' σ H Q → t σ H Q) : PO X e t' := ⟨fun pins s σ H Q I q => h.run pins s σ H Q I (i σ H Q q)⟩

/-! ### the readings -/
abbrev Same2 {α : Type} : Wo → Hp → α → α → Prop := fun _ _ a b => a = b
def tX {α β : Type} (R : PySem.W.Frag → Wo → Hp → α → β → Prop) (K : PySem.W.Frag) (W : WX) (m : Env → Mem → Out α) : L2.St → Hp → (β → Hp → Prop) → Prop :=
  fun σ H Q => ∃ ω S env, Sim K ω S H ∧ EnvR K ω H env σ ∧ Post (R K) K (fun c d H' => W c d σ H') ω H (m env S) Q
abbrev tM (K : PySem.W.Frag) (W : WX) (m : Env → Mem → Out D) : TE := tX RelD K W m
abbrev tMs (K : PySem.W.Frag) (W : WX) (m : Env → Mem → Out (List D)) : TA := tX RelDs K W m
abbrev tMb (K : PySem.W.Frag) (W : WX) (m : Env → Mem → Out Bool) : TT := tX (fun _ => Same2) K W m
abbrev tMo (K : PySem.W.Frag) (W : WX) (m : Env → Mem → Out (Option Int)) : TO := tX (fun _ => Same2) K W m
section
variable {α β γ δ : Type} {R : PySem.W.Frag → Wo → Hp → α → β → Prop} {R2 : PySem.W.Frag → Wo → Hp → γ → δ → Prop} {K : PySem.W.Frag} {W : WX} {σ : L2.St} {H : Hp}
/-- a step, then what follows it -/
theorem tX.bind {m : Env → Mem → Out α} {f : α → Env → Mem → Out γ} {Q : δ → Hp → Prop} (h : tX R2 K W (fun e S => (m e S).bind fun a S1 => f a e S1) σ H Q) {Q1 : β → Hp → Prop}
    (k : ∀ a b ω S env H1, Sim K ω S H1 → EnvR K ω H1 env σ → R K ω H1 a b → Post (R2 K) K (fun c d H' => W c d σ H') ω H1 (f a env S) Q → Q1 b H1) : tX R K W m σ H Q1 := by
  obtain ⟨ω, S, env, hS, hE, q⟩ := h
  exact ⟨ω, S, env, hS, hE, Post.bind q fun a S1 ω1 H1 b L s r p => k a b ω1 S1 env H1 s (hE.later L) r p⟩
theorem tX.mk {m : Env → Mem → Out α} {Q : β → Hp → Prop} {ω : Wo} {S : Mem} {env : Env} (hS : Sim K ω S H) (hE : EnvR K ω H env σ) (q : Post (R K) K (fun c d H' => W c d σ H') ω H (m env S) Q) : tX R K W m σ H Q := ⟨ω, S, env, hS, hE, q⟩
end
section
variable {X : Cx} {W : WX} {e a b c : Expr} {ma mb mc : Env → Mem → Out D}
theorem m_c {d : D} {v : V} (h : PE X e (tC v)) (r : ∀ ω H, RelD X.K ω H d v) : PE X e (tM X.K W fun _ S => .ok d S) :=
  PEimp h fun σ H Q ⟨ω, S, env, hS, hE, q⟩ => q ω H v (.refl ω H) hS (r ω H)
theorem m_v {i : Nat} (h : PE X e (tVar i)) : PE X e (tM X.K W fun e S => match e[i]? with
    | some (some d) => .ok d S
    | _ => .bad) := PEimp h fun σ H Q ⟨ω, S, env, hS, hE, q⟩ => by
  dsimp only at q
  cases hi : env[i]? with
  | none => rw [hi] at q; exact q.elim
  | some o =>
    cases o with
    | none => rw [hi] at q; exact q.elim
    | some d =>
      rw [hi] at q
      obtain ⟨v, h1, h2⟩ := hE.at_ i d hi
      exact ⟨v, h1, q ω H v (.refl ω H) hS h2⟩
/-- a two-place operation by values -/
theorem m_2 {f : D → D → Mem → Option (D × Mem)} (h : PE X e (tOp (rU2 X.K f) (tM X.K W ma) (tM X.K W mb))) : PE X e (tM X.K W fun e S => (ma e S).bind fun x S1 => (mb e S1).bind fun y S2 => lift (f x y S2)) :=
  PEimp h fun σ H Q q => tX.bind q fun x vx ω S env H1 hS hE rx p => ⟨ω, S, env, hS, hE, Post.bind p fun y S2 ω2 H2 vy L s ry p2 => ⟨ω2, S2, x, y, s, rx.later L, ry, p2.lift⟩⟩
theorem m_1 {f : D → Mem → Option (D × Mem)} (h : PE X e (tUn (rU1 X.K f) (tM X.K W ma))) : PE X e (tM X.K W fun e S => (ma e S).bind fun x S1 => lift (f x S1)) :=
  PEimp h fun σ H Q q => tX.bind q fun x vx ω S env H1 hS hE rx p => ⟨ω, S, x, hS, rx, p.lift⟩
theorem cop_ok {X : Cx} (hu : X.A.units + 64 < cLine) (o : Cop) : OpR X (compareOp (match o with
    | .eq => .Eq | .ne => .NotEq | .lt => .Lt | .le => .LtE | .gt => .Gt | .ge => .GtE | .isin => .In | .notin => .NotIn | .same => .Is | .notsame => .IsNot)) (rU2 X.K o.f) := by
  cases o with
  | eq => exact up_eq hu
  | ne => exact up_ne hu
  | lt => exact up_lt (by omega)
  | le => exact up_le
  | gt => exact up_gt
  | ge => exact up_ge
  | isin => exact up_in
  | notin => exact up_nin
  | same => exact up_is
  | notsame => exact up_isn
theorem bop_ok {X : Cx} (o : Bop) : OpR X (binaryOp (match o with
    | .add => .Add | .sub => .Sub | .mul => .Mult | .div => .FloorDiv | .mod => .Mod | .pow => .Pow)) (rU2 X.K o.f) := by
  cases o with
  | add => exact up_add
  | sub => exact up_sub
  | mul => exact up_mul
  | div => exact up_div
  | mod => exact up_mod
  | pow => exact up_pow

/-! ### truth, tests -/
theorem truth_ok {K : PySem.W.Frag} {ω : Wo} {H : Hp} {S : Mem} (s : Sim K ω S H) {d : D} {v : V} {k : Bool} (r : RelD K ω H d v) (h : truth S d = some k) : TruV K v H k := by
  have emp : ∀ {xs : List D} {vs : List V}, RelDs K ω H xs vs → (!xs.isEmpty) = !vs.isEmpty := fun {xs vs} r => by
    cases r <;> rfl
  cases d <;> first | (cases h; done) | skip
  · cases r; cases h; rfl
  · cases r; cases h; rfl
  · cases r; cases h; rfl
  · rename_i cs
    cases r
    have h' : (if cs.length ≤ line then some (!cs.isEmpty) else none) = some k := h
    split at h'
    · rename_i hl
      cases h'
      refine ⟨by rw [strLen]; exact line_le hl, ?_⟩
      rw [strLen]
      cases cs <;> simp
      omega
    · cases h'
  · cases h
    cases r with
    | tup t r1 => exact .inr (.inl ⟨_, t, emp r1⟩)
  · cases h
    cases r with
    | fl t r1 => exact .inl ⟨_, t.seq, emp r1⟩
  · cases r with
    | ref ha =>
      dsimp only [truth] at h
      split at h
      · rename_i e
        cases h
        obtain ⟨vs, h1, r1⟩ := s.lst e ha
        exact .inl ⟨_, SqL.of h1, emp r1⟩
      · rename_i e
        cases h
        obtain ⟨vs, h1, r1⟩ := s.dK e ha
        refine .inr (.inr ⟨_, h1, ?_⟩)
        cases r1 <;> rfl
      · cases h
/-- an expression's truth -/
theorem m_tru (h : PT X e (fun σ H Q => tM X.K W ma σ H fun x H' => ∃ k, TruV X.K x H' k ∧ Q k H')) : PT X e (tMb X.K W fun e S => truO (ma e S)) :=
  PTimp h fun σ H Q q => tX.bind (f := fun d _ S => match truth S d with
    | some b => .ok b S
    | none => .bad) q fun x vx ω S env H1 hS hE rx p => by
    cases e1 : truth S x with
    | none => rw [e1] at p; exact p.elim
    | some k =>
      rw [e1] at p
      exact ⟨k, truth_ok hS rx e1, p ω H1 k (.refl ω H1) hS rfl⟩
theorem tru_and (ma mb : Env → Mem → Out D) : (fun (e : Env) (S : Mem) => truO ((ma e S).bind fun x S1 => match truth S1 x with
    | some true => mb e S1
    | some false => .ok x S1
    | none => .bad)) = fun e S => (truO (ma e S)).bind fun t S1 => match t with
    | true => truO (mb e S1)
    | false => .ok false S1 := by
  funext e S
  cases ma e S with
  | bad => rfl
  | exc x S1 => rfl
  | ok x S1 =>
    show truO (match truth S1 x with | some true => mb e S1 | some false => .ok x S1 | none => .bad) = (match truth S1 x with | some b => Out.ok b S1 | none => .bad).bind _
    cases h : truth S1 x with
    | none => rfl
    | some k =>
      cases k with
      | true => rfl
      | false =>
        show (match truth S1 x with | some b => Out.ok b S1 | none => .bad) = _
        rw [h]
theorem tru_or (ma mb : Env → Mem → Out D) : (fun (e : Env) (S : Mem) => truO ((ma e S).bind fun x S1 => match truth S1 x with
    | some true => .ok x S1
    | some false => mb e S1
    | none => .bad)) = fun e S => (truO (ma e S)).bind fun t S1 => match t with
    | true => .ok true S1
    | false => truO (mb e S1) := by
  funext e S
  cases ma e S with
  | bad => rfl
  | exc x S1 => rfl
  | ok x S1 =>
    show truO (match truth S1 x with | some true => .ok x S1 | some false => mb e S1 | none => .bad) = (match truth S1 x with | some b => Out.ok b S1 | none => .bad).bind _
    cases h : truth S1 x with
    | none => rfl
    | some k =>
      cases k with
      | false => rfl
      | true =>
        show (match truth S1 x with | some b => Out.ok b S1 | none => .bad) = _
        rw [h]
theorem tru_no (ma : Env → Mem → Out D) : (fun (e : Env) (S : Mem) => truO ((truO (ma e S)).bind fun b S1 => .ok (.bl (!b)) S1)) = fun e S => (truO (ma e S)).bind fun b S1 => .ok (!b) S1 := by
  funext e S
  cases truO (ma e S) <;> rfl
variable {rest : List Expr} {pos : Pos} {na nb : Env → Mem → Out Bool}
theorem w_and (h : PW X e (tAnd (tMb X.K W na) (tMb X.K W nb))) : PW X e (tMb X.K W fun e S => (na e S).bind fun t S1 => match t with
    | true => nb e S1
    | false => .ok false S1) := PWimp h fun σ H Q q => show tMb X.K W na σ H (fun c H1 => if c = true then tMb X.K W nb σ H1 Q else Q false H1) from tX.bind (f := fun t e S1 => match t with
    | true => nb e S1
    | false => .ok false S1) q fun t b ω S env H1 hS hE rx p => by
  cases rx
  cases t with
  | true => exact iteT ⟨ω, S, env, hS, hE, p⟩
  | false => exact iteF (p ω H1 false (.refl ω H1) hS rfl)
theorem w_or (h : PW X e (tOr (tMb X.K W na) (tMb X.K W nb))) : PW X e (tMb X.K W fun e S => (na e S).bind fun t S1 => match t with
    | true => .ok true S1
    | false => nb e S1) := PWimp h fun σ H Q q => show tMb X.K W na σ H (fun c H1 => if c = true then Q true H1 else tMb X.K W nb σ H1 Q) from tX.bind (f := fun t e S1 => match t with
    | true => .ok true S1
    | false => nb e S1) q fun t b ω S env H1 hS hE rx p => by
  cases rx
  cases t with
  | false => exact iteF ⟨ω, S, env, hS, hE, p⟩
  | true => exact iteT (p ω H1 true (.refl ω H1) hS rfl)
theorem t_no (h : PT X e (tNot (tMb X.K W na))) : PT X e (tMb X.K W fun e S => (na e S).bind fun b S1 => .ok (!b) S1) := PTimp h fun σ H Q q => show tMb X.K W na σ H (fun c H1 => Q (!c) H1) from tX.bind q fun t b ω S env H1 hS hE rx p => by
  cases rx
  exact p ω H1 _ (.refl ω H1) hS rfl
/-- values by truth -/
theorem m_and (h : PE X e (tAndT X.K (tM X.K W ma) (tM X.K W mb))) : PE X e (tM X.K W fun e S => (ma e S).bind fun x S1 => match truth S1 x with
    | some true => mb e S1
    | some false => .ok x S1
    | none => .bad) := PEimp h fun σ H Q q => show tM X.K W ma σ H (fun x H1 => ∃ k, TruV X.K x H1 k ∧ if k = true then tM X.K W mb σ H1 Q else Q x H1) from tX.bind (f := fun x e S1 => match truth S1 x with
    | some true => mb e S1
    | some false => .ok x S1
    | none => .bad) q fun x vx ω S env H1 hS hE rx p => by
  cases e1 : truth S x with
  | none => rw [e1] at p; exact p.elim
  | some k =>
    rw [e1] at p
    refine ⟨k, truth_ok hS rx e1, ?_⟩
    cases k with
    | true => exact iteT ⟨ω, S, env, hS, hE, p⟩
    | false => exact iteF (p ω H1 vx (.refl ω H1) hS rx)
theorem m_or (h : PE X e (tOrT X.K (tM X.K W ma) (tM X.K W mb))) : PE X e (tM X.K W fun e S => (ma e S).bind fun x S1 => match truth S1 x with
    | some true => .ok x S1
    | some false => mb e S1
    | none => .bad) := PEimp h fun σ H Q q => show tM X.K W ma σ H (fun x H1 => ∃ k, TruV X.K x H1 k ∧ if k = true then Q x H1 else tM X.K W mb σ H1 Q) from tX.bind (f := fun x e S1 => match truth S1 x with
    | some true => .ok x S1
    | some false => mb e S1
    | none => .bad) q fun x vx ω S env H1 hS hE rx p => by
  cases e1 : truth S x with
  | none => rw [e1] at p; exact p.elim
  | some k =>
    rw [e1] at p
    refine ⟨k, truth_ok hS rx e1, ?_⟩
    cases k with
    | false => exact iteF ⟨ω, S, env, hS, hE, p⟩
    | true => exact iteT (p ω H1 vx (.refl ω H1) hS rx)
theorem m_no (h : PE X e (tNotT X.K (tM X.K W ma))) : PE X e (tM X.K W fun e S => (truO (ma e S)).bind fun b S1 => .ok (.bl (!b)) S1) := by
  have eq : (fun (e : Env) (S : Mem) => (truO (ma e S)).bind fun b S1 => Out.ok (D.bl (!b)) S1) = fun e S => (ma e S).bind fun x S1 => match truth S1 x with
    | some b => .ok (.bl (!b)) S1
    | none => .bad := by
    funext e S
    cases ma e S with
    | bad => rfl
    | exc x S1 => rfl
    | ok x S1 =>
      show (match truth S1 x with | some b => Out.ok b S1 | none => .bad).bind _ = match truth S1 x with | some b => Out.ok (D.bl (!b)) S1 | none => .bad
      cases truth S1 x <;> rfl
  rw [eq]
  exact PEimp h fun σ H Q q => show tM X.K W ma σ H (fun x H1 => ∃ k, TruV X.K x H1 k ∧ Q (.bl (!k)) H1) from tX.bind (f := fun x e S1 => match truth S1 x with
    | some b => .ok (D.bl (!b)) S1
    | none => .bad) q fun x vx ω S env H1 hS hE rx p => by
    cases e1 : truth S x with
    | none => rw [e1] at p; exact p.elim
    | some k =>
      rw [e1] at p
      exact ⟨k, truth_ok hS rx e1, p ω H1 _ (.refl ω H1) hS (RelD.bl _)⟩
theorem m_ife (h : PE X e (tIf (tMb X.K W na) (tM X.K W ma) (tM X.K W mb))) : PE X e (tM X.K W fun e S => (na e S).bind fun t S1 => match t with
    | true => ma e S1
    | false => mb e S1) := PEimp h fun σ H Q q => show tMb X.K W na σ H (fun c H1 => if c = true then tM X.K W ma σ H1 Q else tM X.K W mb σ H1 Q) from tX.bind (f := fun t e S1 => match t with
    | true => ma e S1
    | false => mb e S1) q fun t b ω S env H1 hS hE rx p => by
  cases rx
  cases t with
  | true => exact iteT ⟨ω, S, env, hS, hE, p⟩
  | false => exact iteF ⟨ω, S, env, hS, hE, p⟩
/-- a comparison as a test -/
theorem t_cmp {f : D → D → Mem → Option (D × Mem)} (hf : ∀ x y S d S', f x y S = some (d, S') → ∃ k, d = .bl k) (h : PT X e (tTest (tOp (rU2 X.K f) (tM X.K W ma) (tM X.K W mb)))) :
    PT X e (tMb X.K W fun e S => truO ((ma e S).bind fun x S1 => (mb e S1).bind fun y S2 => lift (f x y S2))) := by
  have eq : (fun (e : Env) (S : Mem) => truO ((ma e S).bind fun x S1 => (mb e S1).bind fun y S2 => lift (f x y S2))) = fun e S => (ma e S).bind fun x S1 => (mb e S1).bind fun y S2 => truO (lift (f x y S2)) := by
    funext e S
    cases ma e S with
    | bad => rfl
    | exc x S1 => rfl
    | ok x S1 =>
      show truO ((mb e S1).bind fun y S2 => lift (f x y S2)) = (mb e S1).bind fun y S2 => truO (lift (f x y S2))
      cases mb e S1 <;> rfl
  rw [eq]
  refine PTimp h fun σ H Q q => tX.bind (f := fun x e S1 => (mb e S1).bind fun y S2 => truO (lift (f x y S2))) q fun x vx ω S env H1 hS hE rx p => ⟨ω, S, env, hS, hE, Post.bind (f := fun y S2 => truO (lift (f x y S2))) p fun y S2 ω2 H2 vy L s ry p2 => ⟨ω2, S2, x, y, s, rx.later L, ry, ?_⟩⟩
  cases e1 : f x y S2 with
  | none => rw [e1] at p2; exact p2.elim
  | some z =>
    obtain ⟨d, S3⟩ := z
    obtain ⟨k, rfl⟩ := hf x y S2 d S3 e1
    rw [e1] at p2
    intro ω3 H3 v3 L3 s3 r3
    cases r3
    exact ⟨k, rfl, p2 ω3 H3 k L3 s3 rfl⟩
theorem cop_bl (o : Cop) : ∀ x y S d S', o.f x y S = some (d, S') → ∃ k, d = .bl k := by
  intro x y S d S' h
  have bo : ∀ {o : Option Bool}, boolO o S = some (d, S') → ∃ k, d = .bl k := fun {o} h => by
    cases o with
    | none => cases h
    | some k => cases h; exact ⟨k, rfl⟩
  cases o with
  | eq => exact bo h
  | ne => exact bo h
  | lt => exact bo h
  | le => cases x <;> cases y <;> first | (cases h; done) | (cases h; exact ⟨_, rfl⟩)
  | gt => cases x <;> cases y <;> first | (cases h; done) | (cases h; exact ⟨_, rfl⟩)
  | ge => cases x <;> cases y <;> first | (cases h; done) | (cases h; exact ⟨_, rfl⟩)
  | isin => exact bo h
  | notin => exact bo h
  | same => exact bo h
  | notsame => exact bo h
end
end Mi

set_option Elab.async false
set_option linter.all false
set_option maxRecDepth 100000
set_option maxHeartbeats 4000000
/-! MiE2: arguments, displays, subscripts, calls, walks, comprehensions -/
namespace Mi
open PySem PySem.Spec PyProof.Rows L2
section
variable {X : Cx} {W : WX} {e a b c : Expr} {es : List Expr} {ma mb mc : Env → Mem → Out D} {ms : Env → Mem → Out (List D)} {pos : Pos}
theorem a_nil : PA X [] (tMs X.K W fun _ S => .ok [] S) := PAimp pa_nil fun σ H Q ⟨ω, S, env, hS, hE, q⟩ => q ω H [] (.refl ω H) hS .nil
theorem a_cons (ha : PE X e (tM X.K W ma)) (hr : PA X es (tMs X.K W ms)) (hs : starEach (e :: es) X.env = (false, eval e X.env) :: starEach es X.env) :
    PA X (e :: es) (tMs X.K W fun e S => (ma e S).bind fun x S1 => (ms e S1).bind fun xs S2 => .ok (x :: xs) S2) :=
  PAimp (pa_cons ha hr hs) fun σ H Q q => show tM X.K W ma σ H (fun x H1 => tMs X.K W ms σ H1 fun xs H2 => Q (x :: xs) H2) from
    tX.bind q fun x vx ω S env H1 hS hE rx p => ⟨ω, S, env, hS, hE, Post.bind p fun xs S2 ω2 H2 vs L s rs p2 => p2 ω2 H2 (vx :: vs) (.refl ω2 H2) s (.cons (rx.later L) rs)⟩
theorem a_star {p : Pos} (ha : PE X e (tM X.K W ma)) (hr : PA X es (tMs X.K W ms)) (hs : starEach (.Starred e p :: es) X.env = (true, eval e X.env) :: starEach es X.env) :
    PA X (.Starred e p :: es) (tMs X.K W fun e S => (ma e S).bind fun x S1 => match seqOf S1 x with
      | some ys => (ms e S1).bind fun xs S2 => .ok (ys ++ xs) S2
      | none => .bad) :=
  PAimp (StX.pa_star ha hr hs) fun σ H Q q => show tM X.K W ma σ H (fun x H1 => ∃ p xs, x = V.ref p ∧ (SqT X.K H1 p xs ∨ SqL X.K H1 p xs) ∧ tMs X.K W ms σ H1 fun ys H2 => Q (xs ++ ys) H2) from
    tX.bind (f := fun x e S1 => match seqOf S1 x with
      | some ys => (ms e S1).bind fun xs S2 => Out.ok (ys ++ xs) S2
      | none => Out.bad) q fun x vx ω S env H1 hS hE rx p => by
      cases e1 : seqOf S x with
      | none => rw [e1] at p; exact p.elim
      | some ys =>
        rw [e1] at p
        obtain ⟨a, vs, h1, h2, h3⟩ := seqOf_ok hS rx e1
        exact ⟨a, vs, h1, h2.symm, ω, S, env, hS, hE, Post.bind p fun xs S2 ω2 H2 ws L s rs p2 => p2 ω2 H2 (vs ++ ws) (.refl ω2 H2) s ((h3.later L).append rs)⟩
theorem m_tup (h : PE X e (tTup (tMs X.K W ms))) : PE X e (tM X.K W fun e S => (ms e S).bind fun xs S1 => if xs.length ≤ line then .ok (.tup xs) S1 else .bad) :=
  PEimp h fun σ H Q q => show tMs X.K W ms σ H (fun xs H1 => xs.length ≤ sizeLine ∧ ∀ p, H1 p = none → Q (.ref p) (upd H1 p (.tup xs))) from
    tX.bind (f := fun xs e S1 => if xs.length ≤ line then Out.ok (D.tup xs) S1 else Out.bad) q fun xs vs ω S env H1 hS hE rx p => by
      by_cases hl : xs.length ≤ line
      · rw [if_pos hl] at p
        refine ⟨by rw [← rx.length]; exact line_le hl, fun l hp => ?_⟩
        obtain ⟨s1, L⟩ := hS.new (o := .tup vs) hp
        exact p ω _ _ L s1 (RelD.tup (SqT.of upd_same) (rx.later L))
      · rw [if_neg hl] at p; exact p.elim
theorem m_lst (h : PE X e (tLst (tMs X.K W ms))) : PE X e (tM X.K W fun e S => (ms e S).bind fun xs S1 => if xs.length ≤ line then .ok (.ref S1.length) (S1 ++ [.lst xs]) else .bad) :=
  PEimp h fun σ H Q q => show tMs X.K W ms σ H (fun xs H1 => xs.length ≤ sizeLine ∧ ∀ p, H1 p = none → Q (.ref p) (upd H1 p (.lst xs))) from
    tX.bind (f := fun xs e S1 => if xs.length ≤ line then Out.ok (D.ref S1.length) (S1 ++ [.lst xs]) else Out.bad) q fun xs vs ω S env H1 hS hE rx p => by
      by_cases hl : xs.length ≤ line
      · rw [if_pos hl] at p
        refine ⟨by rw [← rx.length]; exact line_le hl, fun l hp => ?_⟩
        obtain ⟨s1, L, r1⟩ := hS.alloc (o := .lst vs) (c := .lst xs) hp fun ω' L => ⟨vs, upd_same, rx.later L⟩
        exact p _ _ _ L s1 r1
      · rw [if_neg hl] at p; exact p.elim
theorem o_none : PO X none (tMo X.K W fun _ S => .ok none S) := POimp po_none fun σ H Q ⟨ω, S, env, hS, hE, q⟩ => q ω H none (.refl ω H) hS rfl
theorem o_some (ha : PE X e (tM X.K W ma)) : PO X (some e) (tMo X.K W fun e S => (ma e S).bind fun x S1 => match x with
    | .int i => .ok (some i) S1
    | _ => .bad) := POimp (po_some ha) fun σ H Q q => show tM X.K W ma σ H (fun x H1 => ∃ i, x = .int i ∧ Q (some i) H1) from
  tX.bind (f := fun x e S1 => match x with
    | D.int i => Out.ok (some i) S1
    | _ => Out.bad) q fun x vx ω S env H1 hS hE rx p => by
    cases x <;> first | exact p.elim | skip
    cases rx
    exact ⟨_, rfl, p ω H1 _ (.refl ω H1) hS rfl⟩
theorem m_sl {lo hi : Option Expr} {ml mh : Env → Mem → Out (Option Int)} {p2 : Pos} (ha : PE X a (tM X.K W ma)) (hl : PO X lo (tMo X.K W ml)) (hh : PO X hi (tMo X.K W mh)) :
    PE X (.Subscript a (.Slice lo hi none p2) pos) (tM X.K W fun e S => (ma e S).bind fun x S1 => (ml e S1).bind fun l S2 => (mh e S2).bind fun h S3 => lift (fSl x l h S3)) :=
  PEimp (pe_slice up_sl ha hl hh) fun σ H Q q => show tM X.K W ma σ H (fun x H1 => tMo X.K W ml σ H1 fun l H2 => tMo X.K W mh σ H2 fun u H3 => rUsl X.K x l u H3 Q) from
    tX.bind q fun x vx ω S env H1 hS hE rx p => ⟨ω, S, env, hS, hE, Post.bind p fun l S2 ω2 H2 l' L2 s2 r2 p2 => by
      cases r2
      exact ⟨ω2, S2, env, s2, hE.later L2, Post.bind p2 fun h S3 ω3 H3 h' L3 s3 r3 p3 => by
        cases r3
        exact ⟨ω3, S3, x, s3, rx.later (L2.trans L3), p3.lift⟩⟩⟩
theorem m_bi {f : List D → Mem → Option (D × Mem)} (h : PE X e (tCB (rUs X.K f) (tMs X.K W ms))) : PE X e (tM X.K W fun e S => (ms e S).bind fun xs S1 => lift (f xs S1)) :=
  PEimp h fun σ H Q q => show tMs X.K W ms σ H (fun vs H1 => rUs X.K f vs H1 Q) from tX.bind q fun xs vs ω S env H1 hS hE rx p => ⟨ω, S, xs, hS, rx, p.lift⟩

/-! ### methods of built-in types -/
theorem tyV_later {K : PySem.W.Frag} {ω : Wo} {H : Hp} {S : Mem} (s : Sim K ω S H) {d : D} {v : V} (r : RelD K ω H d v) : (isLst S d = true → tyV K "list" v H) ∧ (isStr d = true → tyV K "str" v H) := by
  refine ⟨fun h => ?_, fun h => ?_⟩
  · cases d <;> first | (cases h; done) | skip
    rename_i n
    cases r with
    | ref ha =>
      have h' : (lstAt S n).isSome = true := h
      cases e : lstAt S n with
      | none => rw [e] at h'; cases h'
      | some xs =>
        obtain ⟨vs, h1, _⟩ := s.lst (lstAt_eq e) ha
        exact .inl ⟨rfl, vs, SqL.of h1⟩
  · cases d <;> first | (cases h; done) | skip
    cases r
    rfl
/-- the type and the name of a method -/
def Im.T : Im → String
  | .lAppend | .lExtend | .lPop | .lIndex => "list"
  | .sCount | .sJoin => "str"
def Mt.nm : Mt → Str
  | .append => "append" | .extend => "extend" | .pop => "pop" | .index => "index" | .count => "count" | .join => "join"
theorem sel_ok {m : Mt} {S : Mem} {d : D} {i : Im} (h : m.sel S d = some i) : MtOk X i.T m.nm i.f ∧ ∀ {ω : Wo} {H : Hp} {v : V}, Sim X.K ω S H → RelD X.K ω H d v → tyV X.K i.T v H := by
  cases m <;> (dsimp only [Mt.sel] at h; split at h <;> first | (cases h; done) | skip; cases h)
  · rename_i hc; exact ⟨ok_append, fun s r => (tyV_later s r).1 hc⟩
  · rename_i hc; exact ⟨ok_extend, fun s r => (tyV_later s r).1 hc⟩
  · rename_i hc; exact ⟨ok_pop, fun s r => (tyV_later s r).1 hc⟩
  · rename_i hc; exact ⟨ok_index, fun s r => (tyV_later s r).1 hc⟩
  · rename_i hc; exact ⟨ok_count, fun s r => (tyV_later s r).2 hc⟩
  · rename_i hc; exact ⟨ok_join, fun s r => (tyV_later s r).2 hc⟩
variable {o : Expr} {to : TE} {t : TA} {name : Str} {apos cpos : Pos}
theorem pe_bmU0 (ho : PE X o to) (hbase : attributeBase o name X.env (eval o X.env) = eval o X.env) (hline : (apos.endLine == cpos.line) = true) :
    PE X (.Call (.Attribute o name apos) [] [] cpos) (fun σ H Q => to σ H fun x H1 => ∃ T f, MtOk X T name f ∧ tyV X.K T x H1 ∧ rUm X.K f x [] H1 Q) := by
  refine ⟨fun pins s σ H Q I h => ?_⟩
  refine wpAny_Call_method0_late hbase hline (thn (ho.run pins s σ H _ I h) fun v s1 ⟨x, H1, I1, r1, T, f, ⟨id, pa, slot, hty, hm⟩, ty, q1⟩ => ?_)
  obtain ⟨h1, h2⟩ := tyV_is I1 r1 ty
  exact ⟨T, id, pa, slot, hty, h1, h2, Calls.callWith_builtin rfl (PySem.evalArgs_none (hm pins s1 σ H1 x [] v [] Q I1 r1 .nil q1))⟩
theorem pe_bmU (ho : PE X o to) (ha : PA X (e :: es) t) (hbase : attributeBase o name X.env (eval o X.env) = eval o X.env)
    (hfew : ((backTo cpos (starEach (e :: es) X.env)).all (fun x => !x.1) && (backToKw cpos (keywordEach [] X.env)).all (fun x => x.1.isSome)
      && decide ((e :: es).length + ([] : List Keyword).length + (if ([] : List Keyword).isEmpty then 0 else 1) < 30)) = true)
    (hline : (apos.endLine == cpos.line) = true) (hs : starEach (e :: es) X.env = (false, eval e X.env) :: starEach es X.env) (hplain : (backTo cpos (starEach es X.env)).any (·.1) = false) :
    PE X (.Call (.Attribute o name apos) (e :: es) [] cpos) (fun σ H Q => to σ H fun x H1 => ∃ T f, MtOk X T name f ∧ tyV X.K T x H1 ∧ t σ H1 fun xs H2 => rUm X.K f x xs H2 Q) := by
  refine ⟨fun pins s σ H Q I h => ?_⟩
  refine wpAny_Call_method_late hbase hfew hline rfl (thn (ho.run pins s σ H _ I h) fun v s1 ⟨x, H1, I1, r1, T, f, ⟨id, pa, slot, hty, hm⟩, ty, q1⟩ => ?_)
  obtain ⟨h1, h2⟩ := tyV_is I1 r1 ty
  refine ⟨T, id, pa, slot, hty, h1, h2, ?_⟩
  have hA := ha.run cpos pins s1 σ H1 _ I1 q1
  rw [hs] at hA ⊢
  refine Calls.callWith_builtin (by show (false || (backTo cpos (starEach es X.env)).any (·.1)) = false; rw [hplain] <;> rfl) (Calls.evalArgs_plain ?_)
  exact thn hA fun us s2 ⟨vs, H2, I2, r2, q2⟩ => hm pins s2 σ H2 x vs v us Q I2 r1 r2 q2
theorem m_mt0 {m : Mt} (h : PE X e (fun σ H Q => tM X.K W ma σ H fun x H1 => ∃ T f, MtOk X T m.nm f ∧ tyV X.K T x H1 ∧ rUm X.K f x [] H1 Q)) :
    PE X e (tM X.K W fun e S => (ma e S).bind fun x S1 => match m.sel S1 x with
    | some i => (Out.ok [] S1).bind fun xs S2 => lift (i.f x xs S2)
    | none => .bad) := PEimp h fun σ H Q q => tX.bind (f := fun x e S1 => match m.sel S1 x with
    | some i => (Out.ok [] S1).bind fun xs S2 => lift (i.f x xs S2)
    | none => Out.bad) q fun x vx ω S env H1 hS hE rx p => by
  cases e1 : m.sel S x with
  | none => rw [e1] at p; exact p.elim
  | some i =>
    rw [e1] at p
    obtain ⟨g1, g2⟩ := sel_ok (X := X) e1
    exact ⟨i.T, i.f, g1, g2 hS rx, ω, S, x, [], hS, rx, .nil, p.lift⟩
theorem m_mt {m : Mt} (h : PE X e (fun σ H Q => tM X.K W ma σ H fun x H1 => ∃ T f, MtOk X T m.nm f ∧ tyV X.K T x H1 ∧ tMs X.K W ms σ H1 fun xs H2 => rUm X.K f x xs H2 Q)) :
    PE X e (tM X.K W fun e S => (ma e S).bind fun x S1 => match m.sel S1 x with
    | some i => (ms e S1).bind fun xs S2 => lift (i.f x xs S2)
    | none => .bad) := PEimp h fun σ H Q q => tX.bind (f := fun x e S1 => match m.sel S1 x with
    | some i => (ms e S1).bind fun xs S2 => lift (i.f x xs S2)
    | none => Out.bad) q fun x vx ω S env H1 hS hE rx p => by
  cases e1 : m.sel S x with
  | none => rw [e1] at p; exact p.elim
  | some i =>
    rw [e1] at p
    obtain ⟨g1, g2⟩ := sel_ok (X := X) e1
    exact ⟨i.T, i.f, g1, g2 hS rx, ω, S, env, hS, hE, Post.bind p fun xs S2 ω2 H2 vs L s rs p2 => ⟨ω2, S2, x, xs, s, rx.later L, rs, p2.lift⟩⟩

/-! ### chains of comparisons -/
/-- the reading of a chain -/
theorem chn_read {K : PySem.W.Frag} {f g : D → D → Mem → Option (D × Mem)} (hfb : ∀ x y S d S', f x y S = some (d, S') → ∃ k, d = .bl k) {σ : L2.St} {H : Hp} {Q : VK}
    (q : tM K W (fun e S => (ma e S).bind fun x S1 => (mb e S1).bind fun y S2 => (lift (f x y S2)).bind fun z S3 => match z with
    | .bl true => (mc e S3).bind fun w S4 => lift (g y w S4)
    | .bl false => .ok (.bl false) S3
    | _ => .bad) σ H Q) : tM K W ma σ H fun x H1 => tM K W mb σ H1 fun y H2 => rU2 K f x y H2 fun z H3 => ∃ k, z = .bl k ∧ if k = true then tM K W mc σ H3 fun w H4 => rU2 K g y w H4 Q else Q (.bl false) H3 :=
  tX.bind (f := fun x e S1 => (mb e S1).bind fun y S2 => (lift (f x y S2)).bind fun z S3 => match z with
    | D.bl true => (mc e S3).bind fun w S4 => lift (g y w S4)
    | D.bl false => Out.ok (D.bl false) S3
    | _ => Out.bad) q fun x vx ω S env H1 hS hE rx p => ⟨ω, S, env, hS, hE, Post.bind (f := fun y S2 => (lift (f x y S2)).bind fun z S3 => match z with
    | D.bl true => (mc env S3).bind fun w S4 => lift (g y w S4)
    | D.bl false => Out.ok (D.bl false) S3
    | _ => Out.bad) p fun y S2 ω2 H2 vy L s ry p2 => ⟨ω2, S2, x, y, s, rx.later L, ry, by
      cases e1 : f x y S2 with
      | none => rw [e1] at p2; exact p2.elim
      | some z =>
        obtain ⟨d, S3⟩ := z
        obtain ⟨k, rfl⟩ := hfb x y S2 d S3 e1
        rw [e1] at p2
        intro ω3 H3 v3 L3 s3 r3
        cases r3
        refine ⟨k, rfl, ?_⟩
        cases k with
        | false => exact iteF (p2 ω3 H3 _ L3 s3 (.bl false))
        | true =>
          have p3 : Post (RelD K) K (fun c d H' => W c d σ H') ω3 H3 ((mc env S3).bind fun w S4 => lift (g y w S4)) Q := Post.later L3 p2
          exact iteT ⟨ω3, S3, env, s3, (hE.later L).later L3, Post.bind p3 fun w S4 ω4 H4 vw L4 s4 rw' p4 => ⟨ω4, S4, y, w, s4, ry.later (L3.trans L4), rw', p4.lift⟩⟩⟩⟩
theorem m_chn {f g : D → D → Mem → Option (D × Mem)} {op op' : CmpOp} (hf : OpR X (compareOp op) (rU2 X.K f)) (hg : OpR X (compareOp op') (rU2 X.K g)) (hfb : ∀ x y S d S', f x y S = some (d, S') → ∃ k, d = .bl k)
    (h : PE X e (fun σ H Q => tM X.K W ma σ H fun x H1 => tM X.K W mb σ H1 fun y H2 => rU2 X.K f x y H2 fun z H3 => ∃ k, z = .bl k ∧ if k = true then tM X.K W mc σ H3 fun w H4 => rU2 X.K g y w H4 Q else Q (.bl false) H3)) :
    PE X e (tM X.K W fun e S => (ma e S).bind fun x S1 => (mb e S1).bind fun y S2 => (lift (f x y S2)).bind fun z S3 => match z with
    | .bl true => (mc e S3).bind fun w S4 => lift (g y w S4)
    | .bl false => .ok (.bl false) S3
    | _ => .bad) := PEimp h fun σ H Q q => chn_read hfb q
end
end Mi

set_option Elab.async false
set_option linter.all false
set_option maxRecDepth 100000
set_option maxHeartbeats 4000000
/-! MiE3: calls of defs, ranges, what is walked, comprehensions -/
namespace Mi
open PySem PySem.Spec PyProof.Rows L2

/-! ### calls of defs -/
/-- a def's promise: it does what g does on n arguments -/
def spF (K : PySem.W.Frag) (n : Nat) (g : List D → Mem → Out D) : Sp := fun vs H Q E => ∃ ω S as, Sim K ω S H ∧ RelDs K ω H as vs ∧ as.length = n ∧ Post (RelD K) K E ω H (g as S) Q
section
variable {X : Cx} {W : WX} {e a b c : Expr} {es : List Expr} {ma mb mc : Env → Mem → Out D} {ms : Env → Mem → Out (List D)} {pos p : Pos}
theorem m_call {k n : Nat} {f : Addr} {fd : FuncData} {ps : List Str} {x : Str} {g : List D → Mem → Out D} (F : FnOk X.prog X.w X.K X.mg X.base (L2.CX X.prog X.w) k f fd ps (spF X.K n g)) (hn : ∀ as S, as.length ≠ n → g as S = .bad)
    (hr : Room k X.A) (hg : Gl X x) (hm : X.mg x = some (.ref f)) (hk : PySem.W.keepIn X.K (.ref f) = true) (hb : Binds X.K fd ps []) (tk : Takes X W)
    (ha : PA X (e :: es) (tMs X.K W ms)) (hdb : (x == ("__debug__" : Str)) = false) (he : starEach (e :: es) X.env = (false, eval e X.env) :: starEach es X.env) (hpl : (backTo pos (starEach es X.env)).any (·.1) = false) :
    PE X (.Call (.Name x p) (e :: es) [] pos) (tM X.K W fun e S => (ms e S).bind fun xs S1 => g xs S1) :=
  PEimp (pe_callSD (E := fun σ => fun c d H => W c d σ H) (dvs := []) (ds := []) F hr hg hm hk hb .nil (fun σ => passAt tk σ) ha hdb he hpl) fun σ H Q q =>
    show tMs X.K W ms σ H (fun vs H1 => spF X.K n g (vs ++ []) H1 Q (fun c d H => W c d σ H)) from tX.bind (f := fun xs e S1 => g xs S1) q fun xs vs ω S env H1 hS hE rx p => by
      rw [List.append_nil]
      by_cases hl : xs.length = n
      · exact ⟨ω, S, xs, hS, rx, hl, p⟩
      · rw [hn xs S hl] at p; exact p.elim

/-! ### ranges -/
theorem rel_range {K : PySem.W.Frag} {ω : Wo} {H : Hp} (lo : Int) : ∀ (l : List Nat), RelDs K ω H (l.map fun i => D.int (lo + (i : Nat))) (l.map fun i => V.int (lo + (i : Nat)))
  | [] => .nil
  | i :: r => .cons (.int _) (rel_range lo r)
theorem m_lrg1 (h : PE X e (tLstRg (tRg1 (tM X.K W ma)))) : PE X e (tM X.K W fun e S => (ma e S).bind fun x S1 => lift (rngLst S1 [x])) :=
  PEimp h fun σ H Q q => show tM X.K W ma σ H (fun x H1 => ∃ n, x = .int n ∧ (RgOk 0 n ∧ ∀ q, H1 q = none → Q (.ref q) (upd H1 q (.lst (rgV 0 n))))) from
    tX.bind (f := fun x e S1 => lift (rngLst S1 [x])) q fun x vx ω S env H1 hS hE rx p => by
      cases x <;> first | exact p.elim | skip
      rename_i n
      cases rx
      have p' : Post (RelD X.K) X.K (fun c d H' => W c d σ H') ω H1 (lift (if 0 ≤ n ∧ n ≤ 16777216 then some (D.ref S.length, S ++ [.lst (rangeD 0 n.toNat)]) else none)) Q := p
      by_cases hc : 0 ≤ n ∧ n ≤ 16777216
      · rw [if_pos hc] at p'
        refine ⟨n, rfl, RgOk.of_le (by omega) hc.2 (by omega) hc.1, fun l hl => ?_⟩
        have r : RelDs X.K ω H1 (rangeD 0 n.toNat) (rgV 0 n) := by
          unfold rangeD rgV
          rw [show (n - 0).toNat = n.toNat by omega]
          exact rel_range 0 _
        exact PostO.newLst hS r p'.lift hl
      · rw [if_neg hc] at p'; exact p'.elim
theorem m_lrg2 (h : PE X e (tLstRg (tRg2 (tM X.K W ma) (tM X.K W mb)))) : PE X e (tM X.K W fun e S => (ma e S).bind fun x S1 => (mb e S1).bind fun y S2 => lift (rngLst S2 [x, y])) :=
  PEimp h fun σ H Q q => show tM X.K W ma σ H (fun x H1 => tM X.K W mb σ H1 fun y H2 => ∃ i j, x = .int i ∧ y = .int j ∧ (RgOk i j ∧ ∀ q, H2 q = none → Q (.ref q) (upd H2 q (.lst (rgV i j))))) from
    tX.bind (f := fun x e S1 => (mb e S1).bind fun y S2 => lift (rngLst S2 [x, y])) q fun x vx ω S env H1 hS hE rx p => ⟨ω, S, env, hS, hE, Post.bind (f := fun y S2 => lift (rngLst S2 [x, y])) p fun y S2 ω2 H2 vy L s ry p2 => by
      cases x <;> cases y <;> first | exact p2.elim | skip
      rename_i i j
      cases rx
      cases ry
      have p' : Post (RelD X.K) X.K (fun c d H' => W c d σ H') ω2 H2 (lift (if 0 ≤ i ∧ i ≤ 16777216 ∧ 0 ≤ j ∧ j ≤ 16777216 then some (D.ref S2.length, S2 ++ [.lst (rangeD i (j - i).toNat)]) else none)) Q := p2
      by_cases hc : 0 ≤ i ∧ i ≤ 16777216 ∧ 0 ≤ j ∧ j ≤ 16777216
      · rw [if_pos hc] at p'
        exact ⟨i, j, rfl, rfl, RgOk.of_le hc.1 hc.2.2.2 hc.2.1 hc.2.2.1, fun l hl => PostO.newLst s (rel_range i _) p'.lift hl⟩
      · rw [if_neg hc] at p'; exact p'.elim⟩

/-! ### what is walked -/
/-- J walks src -/
def SrcR (K : PySem.W.Frag) (ω : Wo) (H : Hp) (src : Src) (J : L2.It) : Prop := ∀ ω' H' S i, Later ω H ω' H' → Sim K ω' S H' →
  (∀ d, src.at_ S i = some (some d) → J.go i H' ∧ ∀ x H2, J.yld i H' x H2 → ∃ ω2, Later ω' H' ω2 H2 ∧ Sim K ω2 S H2 ∧ RelD K ω2 H2 d x) ∧ (src.at_ S i = some none → J.stop i H')
abbrev tMi (K : PySem.W.Frag) (W : WX) (m : Env → Mem → Out Src) : TI := tX SrcR K W m
variable {tg : Expr}
theorem src_range {K : PySem.W.Frag} {ω : Wo} {H : Hp} (lo : Int) (n : Nat) : SrcR K ω H (.items (rangeD lo n)) (Itr lo n) := fun ω' H' S i L s => by
  have hl : (rangeD lo n).length = n := by unfold rangeD; rw [List.length_map, List.length_range]
  refine ⟨fun d h => ?_, fun h => ?_⟩
  · have h1 : (rangeD lo n)[i]? = some d := Option.some.inj h
    have hi : i < n := by
      have := (List.getElem?_eq_some_iff.mp h1).1
      omega
    have h2 : (rangeD lo n)[i]? = some (.int (lo + (i : Nat))) := by
      unfold rangeD
      rw [List.getElem?_map, List.getElem?_range hi]
      rfl
    rw [h2] at h1
    cases h1
    exact ⟨hi, fun x H2 y => by
      obtain ⟨rfl, rfl⟩ := y
      exact ⟨ω', .refl _ _, s, .int _⟩⟩
  · have h1 : (rangeD lo n)[i]? = none := Option.some.inj h
    have := List.getElem?_eq_none_iff.mp h1
    show n ≤ i
    omega
theorem src_rangeC {K : PySem.W.Frag} {ω : Wo} {H : Hp} (lo c : Int) (n : Nat) : SrcR K ω H (.items (rangeC lo c n)) (Itc lo c n) := fun ω' H' S i L s => by
  have hl : (rangeC lo c n).length = n := by unfold rangeC; rw [List.length_map, List.length_range]
  refine ⟨fun d h => ?_, fun h => ?_⟩
  · have h1 : (rangeC lo c n)[i]? = some d := Option.some.inj h
    have hi : i < n := by
      have := (List.getElem?_eq_some_iff.mp h1).1
      omega
    have h2 : (rangeC lo c n)[i]? = some (.int (lo + (i : Nat) * c)) := by
      unfold rangeC
      rw [List.getElem?_map, List.getElem?_range hi]
      rfl
    rw [h2] at h1
    cases h1
    exact ⟨hi, fun x H2 y => by
      obtain ⟨rfl, rfl⟩ := y
      exact ⟨ω', .refl _ _, s, .int _⟩⟩
  · have h1 : (rangeC lo c n)[i]? = none := Option.some.inj h
    have := List.getElem?_eq_none_iff.mp h1
    show n ≤ i
    omega
theorem src_tup {K : PySem.W.Frag} {ω : Wo} {H : Hp} {a : Addr} {xs : List D} {vs : List V} (h : SqT K H a vs) (r : RelDs K ω H xs vs) : SrcR K ω H (.items xs) (Itt K a) := fun ω' H' S i L s => by
  have h' := sqt_later L h
  have r' := r.later L
  refine ⟨fun d hd => ?_, fun hd => ?_⟩
  · have h1 : xs[i]? = some d := Option.some.inj hd
    obtain ⟨v, h2, rv⟩ := r'.get h1
    refine ⟨⟨vs, v, h', h2⟩, fun x H2 y => ?_⟩
    obtain ⟨rfl, hy⟩ := y
    have e := hy vs h'
    rw [h2] at e
    cases e
    exact ⟨ω', .refl _ _, s, rv⟩
  · have h1 : xs[i]? = none := Option.some.inj hd
    have := List.getElem?_eq_none_iff.mp h1
    exact ⟨vs, h', by rw [← r.length]; exact this⟩
theorem src_fl {K : PySem.W.Frag} {ω : Wo} {H : Hp} {a : Addr} {xs : List D} {vs : List V} (h : FxL K H a vs) (r : RelDs K ω H xs vs) : SrcR K ω H (.items xs) (Itl K a) := fun ω' H' S i L s => by
  have h' := (fxl_later L h).seq
  have r' := r.later L
  refine ⟨fun d hd => ?_, fun hd => ?_⟩
  · have h1 : xs[i]? = some d := Option.some.inj hd
    obtain ⟨v, h2, rv⟩ := r'.get h1
    refine ⟨⟨vs, v, h', h2⟩, fun x H2 y => ?_⟩
    obtain ⟨rfl, hy⟩ := y
    have e := hy vs h'
    rw [h2] at e
    cases e
    exact ⟨ω', .refl _ _, s, rv⟩
  · have h1 : xs[i]? = none := Option.some.inj hd
    have := List.getElem?_eq_none_iff.mp h1
    exact ⟨vs, h', by rw [← r.length]; exact this⟩
theorem src_cell {K : PySem.W.Frag} {ω : Wo} {H : Hp} {a : Addr} {n : Nat} (h : ω.ρ[n]? = some a) : SrcR K ω H (.cell n) (Itl K a) := fun ω' H' S i L s => by
  have h' := L.get h
  have e : ∀ {o}, (Src.cell n).at_ S i = some o → ∃ xs, lstAt S n = some xs ∧ o = xs[i]? := fun {o} z => by
    have z' : (match lstAt S n with | some xs => some xs[i]? | none => none) = some o := z
    cases q : lstAt S n with
    | none => rw [q] at z'; cases z'
    | some xs => rw [q] at z'; exact ⟨xs, rfl, (Option.some.inj z').symm⟩
  refine ⟨fun d hd => ?_, fun hd => ?_⟩
  · obtain ⟨xs, h1, h2⟩ := e hd
    obtain ⟨vs, h3, r⟩ := s.lst (lstAt_eq h1) h'
    obtain ⟨v, h4, rv⟩ := r.get h2.symm
    refine ⟨⟨vs, v, SqL.of h3, h4⟩, fun x H2 y => ?_⟩
    obtain ⟨rfl, hy⟩ := y
    have e := hy vs (SqL.of h3)
    rw [h4] at e
    cases e
    exact ⟨ω', .refl _ _, s, rv⟩
  · obtain ⟨xs, h1, h2⟩ := e hd
    obtain ⟨vs, h3, r⟩ := s.lst (lstAt_eq h1) h'
    have := List.getElem?_eq_none_iff.mp h2.symm
    exact ⟨vs, SqL.of h3, by rw [← r.length]; exact this⟩
theorem src_str {K : PySem.W.Frag} {ω : Wo} {H : Hp} (cs : List Nat) : SrcR K ω H (.items (cs.map fun c => D.str [c])) (Its ⟨cs.toArray⟩) := fun ω' H' S i L s => by
  refine ⟨fun d hd => ?_, fun hd => ?_⟩
  · have h1 : (cs.map fun c => D.str [c])[i]? = some d := Option.some.inj hd
    rw [List.getElem?_map] at h1
    cases e : cs[i]? with
    | none => rw [e] at h1; cases h1
    | some c =>
      rw [e] at h1
      cases h1
      refine ⟨by show i < cs.toArray.size; rw [List.size_toArray]; exact (List.getElem?_eq_some_iff.mp e).1, fun x H2 y => ?_⟩
      obtain ⟨rfl, c', hc', rfl⟩ := y
      have e2 : cs[i]? = some c' := by simpa using hc'
      rw [e] at e2
      cases e2
      exact ⟨ω', .refl _ _, s, .str [c]⟩
  · have h1 : (cs.map fun c => D.str [c])[i]? = none := Option.some.inj hd
    have := List.getElem?_eq_none_iff.mp h1
    rw [List.length_map] at this
    show cs.toArray.size ≤ i
    rw [List.size_toArray]
    exact this
/-- any list, tuple or text -/
theorem pi_any {l : Expr} {tl : TE} (hl : PE X l tl) : PI X tg l (fun σ H R => tl σ H fun x H1 => (∃ a, x = .ref a ∧ (∃ xs, SqL X.K H1 a xs) ∧ R (Itl X.K a) H1) ∨ (∃ a, x = .ref a ∧ (∃ xs, SqT X.K H1 a xs) ∧ R (Itt X.K a) H1) ∨ ∃ z, x = .str z ∧ R (Its z) H1) := by
  refine ⟨fun pins s σ H R I h => ?_⟩
  refine thn (hl.run pins s σ H _ I h) fun v s1 ⟨x, H1, I1, r1, q1⟩ => ?_
  rcases q1 with ⟨a, e, ⟨xs, hq⟩, q⟩ | ⟨a, e, ⟨xs, hq⟩, q⟩ | ⟨z, e, q⟩
  · subst e
    cases r1
    obtain ⟨its, rv, p, hz⟩ := I1.list hq
    refine wpAny_pyIter_list p.isList ?_
    refine ⟨s1.heap.objs.size, [s1.heap.objs.size], _, _, H1, rfl, I1.kept (t' := s1.toks) fun b o e => Heap.get?_push_of_some _ e, turn_list a _, ⟨_, Heap.get?_push_size _ rfl, rfl, rfl⟩, fun b hb => ?_, q⟩
    have e : b = s1.heap.objs.size := by simpa using hb
    subst e
    exact I1.fpOk (Nat.le_refl _) (I1.hok.fresh (Nat.le_refl _))
  · subst e
    cases r1
    obtain ⟨its, rv, p, hz⟩ := I1.tuple hq
    refine wpAny_pyIter_tuple (show s1.heap.IsTuple a its.toArray from p) ?_
    refine ⟨s1.heap.objs.size, [s1.heap.objs.size], _, _, H1, rfl, I1.kept (t' := s1.toks) fun b o e => Heap.get?_push_of_some _ e, turn_tuple a _, ⟨_, Heap.get?_push_size _ rfl, rfl, rfl⟩, fun b hb => ?_, q⟩
    have e : b = s1.heap.objs.size := by simpa using hb
    subst e
    exact I1.fpOk (Nat.le_refl _) (I1.hok.fresh (Nat.le_refl _))
  · subst e
    obtain ⟨t, rfl⟩ := r1
    cases ha : z.cps.all (· < 128)
    · exact wpAny_pyIter_wide ha (pi_one (tk := s1.toks) I1 _ (turn_str _ z t "str_iterator" (.inr rfl)) ⟨_, Heap.get?_push_size _ rfl, rfl, rfl⟩ q)
    · exact wpAny_pyIter_ascii ha (pi_one (tk := s1.toks) I1 _ (turn_str _ z t "str_ascii_iterator" (.inl rfl)) ⟨_, Heap.get?_push_size _ rfl, rfl, rfl⟩ q)
theorem i_of (h : PE X e (tM X.K W ma)) : PI X tg e (tMi X.K W fun e S => (ma e S).bind fun x S1 => match srcOf S1 x with
    | some s => .ok s S1
    | none => .bad) := PIimp (pi_any h) fun σ H R q => tX.bind (f := fun x e S1 => match srcOf S1 x with
    | some s => Out.ok s S1
    | none => Out.bad) q fun x vx ω S env H1 hS hE rx p => by
  cases e1 : srcOf S x with
  | none => rw [e1] at p; exact p.elim
  | some src =>
    rw [e1] at p
    have fin : ∀ {J : L2.It}, SrcR X.K ω H1 src J → R J H1 := fun {J} r => p ω H1 J (.refl _ _) hS r
    cases x <;> first | (cases e1; done) | skip
    · cases e1
      cases rx
      exact .inr (.inr ⟨_, rfl, fin (src_str _)⟩)
    · cases e1
      cases rx with
      | tup t r1 => exact .inr (.inl ⟨_, rfl, ⟨_, t⟩, fin (src_tup t r1)⟩)
    · cases e1
      cases rx with
      | fl t r1 => exact .inl ⟨_, rfl, ⟨_, t.seq⟩, fin (src_fl t r1)⟩
    · rename_i n
      cases rx with
      | ref ha =>
        have e2 : (match lstAt S n with | some _ => some (Src.cell n) | none => none) = some src := e1
        cases e3 : lstAt S n with
        | none => rw [e3] at e2; cases e2
        | some xs =>
          rw [e3] at e2
          cases e2
          obtain ⟨vs, h3, _⟩ := hS.lst (lstAt_eq e3) ha
          exact .inl ⟨_, rfl, ⟨vs, SqL.of h3⟩, fin (src_cell ha)⟩
theorem i_rng1 (h : PI X tg e (iRng1 (tCons (tM X.K W ma) tNil))) : PI X tg e (tMi X.K W fun e S => (ma e S).bind fun x S1 => match rngSrc [x] with
    | some s => .ok s S1
    | none => .bad) := PIimp h fun σ H R q => show tM X.K W ma σ H (fun x H1 => ∃ j : Int, [x] = [.int j] ∧ -(2 ^ 62) ≤ j ∧ j < 2 ^ 62 ∧ R (Itr 0 j.toNat) H1) from
  tX.bind (f := fun x e S1 => match rngSrc [x] with
    | some s => Out.ok s S1
    | none => Out.bad) q fun x vx ω S env H1 hS hE rx p => by
    cases x <;> first | exact p.elim | skip
    rename_i n
    cases rx
    have p' : Post (SrcR X.K) X.K (fun c d H' => W c d σ H') ω H1 (match (if okR n = true then some (Src.items (rangeD 0 n.toNat)) else none) with
      | some s => Out.ok s S
      | none => Out.bad) R := p
    by_cases hc : okR n = true
    · rw [if_pos hc] at p'
      have hc' := okR_iff.mp hc
      exact ⟨n, rfl, by omega, by omega, p' ω H1 _ (.refl _ _) hS (src_range 0 _)⟩
    · rw [if_neg hc] at p'; exact p'.elim
theorem i_rng2 (h : PI X tg e (iRng2 (tCons (tM X.K W ma) (tCons (tM X.K W mb) tNil)))) : PI X tg e (tMi X.K W fun e S => (ma e S).bind fun x S1 => (mb e S1).bind fun y S2 => match rngSrc [x, y] with
    | some s => .ok s S2
    | none => .bad) := PIimp h fun σ H R q => show tM X.K W ma σ H (fun x H1 => tM X.K W mb σ H1 fun y H2 => ∃ i j : Int, [x, y] = [.int i, .int j] ∧ (-(2 ^ 62) ≤ i ∧ i < 2 ^ 62 ∧ -(2 ^ 62) ≤ j ∧ j < 2 ^ 62) ∧ R (Itr i (j - i).toNat) H2) from
  tX.bind (f := fun x e S1 => (mb e S1).bind fun y S2 => match rngSrc [x, y] with
    | some s => Out.ok s S2
    | none => Out.bad) q fun x vx ω S env H1 hS hE rx p => ⟨ω, S, env, hS, hE, Post.bind (f := fun y S2 => match rngSrc [x, y] with
    | some s => Out.ok s S2
    | none => Out.bad) p fun y S2 ω2 H2 vy L s ry p2 => by
      cases x <;> cases y <;> first | exact p2.elim | skip
      rename_i i j
      cases rx
      cases ry
      have p' : Post (SrcR X.K) X.K (fun c d H' => W c d σ H') ω2 H2 (match (if (okR i && okR j) = true then some (Src.items (rangeD i (j - i).toNat)) else none) with
        | some s => Out.ok s S2
        | none => Out.bad) R := p2
      by_cases hc : (okR i && okR j) = true
      · rw [if_pos hc] at p'
        obtain ⟨k1, k2⟩ := Bool.and_eq_true_iff.mp hc
        have h1 := okR_iff.mp k1
        have h2 := okR_iff.mp k2
        exact ⟨i, j, rfl, ⟨by omega, by omega, by omega, by omega⟩, p' ω2 H2 _ (.refl _ _) s (src_range i _)⟩
      · rw [if_neg hc] at p'; exact p'.elim⟩
theorem i_rng3 (h : PI X tg e (iRng3 (tCons (tM X.K W ma) (tCons (tM X.K W mb) (tCons (tM X.K W mc) tNil))))) : PI X tg e (tMi X.K W fun e S => (ma e S).bind fun x S1 => (mb e S1).bind fun y S2 => (mc e S2).bind fun z S3 => match rngSrc [x, y, z] with
    | some s => .ok s S3
    | none => .bad) := PIimp h fun σ H R q => show tM X.K W ma σ H (fun x H1 => tM X.K W mb σ H1 fun y H2 => tM X.K W mc σ H2 fun z H3 => ∃ (i j c : Int) (n : Nat), [x, y, z] = [.int i, .int j, .int c] ∧ RgC i j c n ∧ R (Itc i c n) H3) from
  tX.bind (f := fun x e S1 => (mb e S1).bind fun y S2 => (mc e S2).bind fun z S3 => match rngSrc [x, y, z] with
    | some s => Out.ok s S3
    | none => Out.bad) q fun x vx ω S env H1 hS hE rx p => ⟨ω, S, env, hS, hE, Post.bind (f := fun y S2 => (mc env S2).bind fun z S3 => match rngSrc [x, y, z] with
    | some s => Out.ok s S3
    | none => Out.bad) p fun y S2 ω2 H2 vy L s ry p2 => ⟨ω2, S2, env, s, hE.later L, Post.bind (f := fun z S3 => match rngSrc [x, y, z] with
    | some s => Out.ok s S3
    | none => Out.bad) p2 fun z S3 ω3 H3 vz L3 s3 rz p3 => by
      cases x <;> cases y <;> cases z <;> first | exact p3.elim | skip
      rename_i i j c
      cases rx
      cases ry
      cases rz
      have p' : Post (SrcR X.K) X.K (fun c d H' => W c d σ H') ω3 H3 (match (if (okR i && okR j && okR c && c != 0 && decide (c.natAbs < 1073741824) && Builtin.Range.small i j c && decide (0 ≤ Builtin.Range.rangeSize i j c)) = true then some (Src.items (rangeC i c (Builtin.Range.rangeSize i j c).toNat)) else none) with
        | some s => Out.ok s S3
        | none => Out.bad) R := p3
      by_cases hc : (okR i && okR j && okR c && c != 0 && decide (c.natAbs < 1073741824) && Builtin.Range.small i j c && decide (0 ≤ Builtin.Range.rangeSize i j c)) = true
      · rw [if_pos hc] at p'
        obtain ⟨hc, c4⟩ := Bool.and_eq_true_iff.mp hc
        obtain ⟨hc, c3⟩ := Bool.and_eq_true_iff.mp hc
        obtain ⟨c1, c2⟩ := Bool.and_eq_true_iff.mp hc
        obtain ⟨_, c1⟩ := Bool.and_eq_true_iff.mp c1
        have c1' : c ≠ 0 := by simpa using c1
        have c2' := of_decide_eq_true c2
        have c4' := of_decide_eq_true c4
        exact ⟨i, j, c, (Builtin.Range.rangeSize i j c).toNat, rfl, ⟨c1', c2', c3, (Int.toNat_of_nonneg c4').symm⟩, p' ω3 H3 _ (.refl _ _) s3 (src_rangeC i c _)⟩
      · rw [if_neg hc] at p'; exact p'.elim⟩⟩
end
end Mi

set_option Elab.async false
set_option linter.all false
set_option maxRecDepth 100000
set_option maxHeartbeats 4000000
/-! MiE4: names as targets, comprehensions -/
namespace Mi
open PySem PySem.Spec PyProof.Rows L2

mutual
/-- the slots of a target -/
def slotsT : Tn → List Nat
  | .nm i => [i]
  | .tup ts => slotsTs ts
def slotsTs : Tns → List Nat
  | .nil => []
  | .cons t r => slotsT t ++ slotsTs r
end
/-- σ' differs from σ at slots in l alone -/
def But (l : List Nat) (σ σ' : L2.St) : Prop := σ'.length = σ.length ∧ ∀ j, j ∉ l → σ'[j]? = σ[j]?
theorem But.refl (l : List Nat) (σ : L2.St) : But l σ σ := ⟨rfl, fun _ _ => rfl⟩
theorem But.trans {l m : List Nat} {σ σ1 σ2 : L2.St} (a : But l σ σ1) (b : But m σ1 σ2) : But (l ++ m) σ σ2 :=
  ⟨b.1.trans a.1, fun j h => (b.2 j fun z => h (List.mem_append_right _ z)).trans (a.2 j fun z => h (List.mem_append_left _ z))⟩
theorem wipe_get (σ : L2.St) (i : Nat) : ∀ vs : List Nat, (wipe σ vs)[i]? = if i ∈ vs then (if i < σ.length then some none else none) else σ[i]?
  | [] => by simp [wipe]
  | v :: vs => by
    show ((wipe σ vs).set v none)[i]? = _
    by_cases h : v = i
    · subst h
      rw [if_pos List.mem_cons_self]
      by_cases hl : v < σ.length
      · rw [if_pos hl, List.getElem?_set_self (by rw [wipe_length]; exact hl)]
      · rw [if_neg hl]
        exact List.getElem?_eq_none (by rw [List.length_set, wipe_length]; omega)
    · rw [List.getElem?_set_ne h, wipe_get σ i vs]
      have : (i ∈ v :: vs) = (i ∈ vs) := by simp [Ne.symm h]
      simp only [this]
theorem But.wipe {l vs : List Nat} {σ σ' : L2.St} (b : But l σ σ') (h : ∀ i ∈ l, i ∈ vs) : L2.wipe σ' vs = L2.wipe σ vs := by
  apply List.ext_getElem?
  intro i
  rw [wipe_get, wipe_get]
  by_cases hi : i ∈ vs
  · rw [if_pos hi, if_pos hi, b.1]
  · rw [if_neg hi, if_neg hi, b.2 i fun z => hi (h i z)]
theorem wipe_wipe (σ : L2.St) (vs : List Nat) : L2.wipe (L2.wipe σ vs) vs = L2.wipe σ vs := by
  apply List.ext_getElem?
  intro i
  rw [wipe_get, wipe_get]
  by_cases hi : i ∈ vs
  · rw [if_pos hi, if_pos hi, wipe_length]
  · rw [if_neg hi, if_neg hi]
theorem env_wipe {K : PySem.W.Frag} {ω : Wo} {H : Hp} {env : Env} {σ : L2.St} (e : EnvR K ω H env σ) : ∀ vs : List Nat, EnvR K ω H (wipeE env vs) (L2.wipe σ vs)
  | [] => e
  | v :: vs => (env_wipe e vs).drop v

/-- a store by names -/
def tGn (K : PySem.W.Frag) (t : Tn) : TG := fun v σ H Q => ∃ ω S env d, Sim K ω S H ∧ EnvR K ω H env σ ∧ RelD K ω H d v ∧ match setT t d env with
  | some env' => ∀ σ', EnvR K ω H env' σ' → But (slotsT t) σ σ' → Q σ' H
  | none => False
def tGns (K : PySem.W.Frag) (ts : Tns) : TGs := fun vs σ H Q => ∃ ω S env ds, Sim K ω S H ∧ EnvR K ω H env σ ∧ RelDs K ω H ds vs ∧ match setTs ts ds env with
  | some env' => ∀ σ', EnvR K ω H env' σ' → But (slotsTs ts) σ σ' → Q σ' H
  | none => False
section
variable {X : Cx} {e : Expr} {es : List Expr} {pos : Pos}
theorem g_nm {i : Nat} (h : PG X e (gName i)) : PG X e (tGn X.K (.nm i)) := PGimp h fun v σ H Q ⟨ω, S, env, d, hS, hE, r, q⟩ => by
  have q' : ∀ σ', EnvR X.K ω H (env.set i (some d)) σ' → But [i] σ σ' → Q σ' H := q
  refine q' _ (hE.set i r) ⟨by rw [List.length_set], fun j hj => List.getElem?_set_ne (fun z => hj (by simp [z]))⟩
theorem g_nil : PGs X [] (tGns X.K .nil) := ⟨fun pins s σ H vs us Q I r ⟨ω, S, env, ds, hS, hE, rd, q⟩ => pgs_nil.run pins s σ H vs us Q I r (by
  cases ds with
  | nil =>
    have q' : ∀ σ', EnvR X.K ω H env σ' → But [] σ σ' → Q σ' H := q
    exact ⟨rd.zero, q' σ hE (.refl _ _)⟩
  | cons d dr => exact q.elim)⟩
theorem g_cons {t : Tn} {ts : Tns} (h1 : PG X e (tGn X.K t)) (h2 : PGs X es (tGns X.K ts)) (hs : (assignEach (e :: es) X.env).map (·.2) = assign e X.env :: (assignEach es X.env).map (·.2)) : PGs X (e :: es) (tGns X.K (.cons t ts)) :=
  ⟨fun pins s σ H vs us Q I r ⟨ω, S, env, ds, hS, hE, rd, q⟩ => (pgs_cons h1 h2 hs).run pins s σ H vs us Q I r (by
    cases ds with
    | nil => exact q.elim
    | cons d dr =>
      cases rd with
      | cons r1 r2 =>
        have q' : match (match setT t d env with | some e1 => setTs ts dr e1 | none => none) with
          | some env' => ∀ σ', EnvR X.K ω H env' σ' → But (slotsT t ++ slotsTs ts) σ σ' → Q σ' H
          | none => False := q
        refine ⟨_, _, rfl, ω, S, env, d, hS, hE, r1, ?_⟩
        cases e1 : setT t d env with
        | none => rw [e1] at q'; exact q'.elim
        | some env1 =>
          rw [e1] at q'
          intro σ1 hE1 b1
          refine ⟨ω, S, env1, dr, hS, hE1, r2, ?_⟩
          dsimp only at q'
          cases e2 : setTs ts dr env1 with
          | none => rw [e2] at q'; exact q'.elim
          | some env2 =>
            rw [e2] at q'
            intro σ2 hE2 b2
            exact q' σ2 hE2 (b1.trans b2))⟩
/-- how many targets -/
def Tns.len : Tns → Nat
  | .nil => 0
  | .cons _ r => r.len + 1
theorem setTs_len : ∀ {ts : Tns} {ds : List D} {env env' : Env}, setTs ts ds env = some env' → ds.length = ts.len
  | .nil, [], _, _, _ => rfl
  | .nil, _ :: _, _, _, h => by cases h
  | .cons t r, [], _, _, h => by cases h
  | .cons t r, d :: dr, env, env', h => by
    have h' : (match setT t d env with | some e1 => setTs r dr e1 | none => none) = some env' := h
    cases e : setT t d env with
    | none => rw [e] at h'; cases h'
    | some e1 =>
      rw [e] at h'
      rw [List.length_cons, setTs_len h']
      rfl
theorem g_tup {ts : Tns} {k : Nat} (hc : X.calm = true) (h : PGs X es (tGns X.K ts)) (hn : (assignEach es X.env).length = ts.len) (hst : (assignEach es X.env).findIdx? (·.1) = none) : PG X (.Tuple es k pos) (tGn X.K (.tup ts)) :=
  PGimp (pg_tup hc h hn hst) fun v σ H Q ⟨ω, S, env, d, hS, hE, r, q⟩ => by
    cases d with
    | tup ds =>
      cases r with
      | tup t r1 =>
        have q' : match setTs ts ds env with
          | some env' => ∀ σ', EnvR X.K ω H env' σ' → But (slotsTs ts) σ σ' → Q σ' H
          | none => False := q
        refine ⟨_, _, rfl, t, ?_, ω, S, env, ds, hS, hE, r1, q'⟩
        cases e : setTs ts ds env with
        | none => rw [e] at q'; exact q'.elim
        | some env' => rw [← r1.length]; exact setTs_len e
    | _ => exact q.elim
end

/-! ### comprehensions -/
abbrev WF : WX := fun _ _ _ _ => False
section
variable {X : Cx} {W : WX} {elt tg iter e : Expr} {ifs : List Expr} {scope : Scope} {own : List (Str × Nat)} {pos : Pos} {mi : Env → Mem → Out Src} {mt : Env → Mem → Out Bool} {me : Env → Mem → Out D} {t : Tn}
/-- the reading of a comprehension -/
theorem lc_read {K : PySem.W.Frag} {vs : List Nat} (ht : ∀ i ∈ slotsT t, i ∈ vs) {σ : L2.St} {H : Hp} {Q : VK}
    (q : tM K W (fun e S => (mi e S).bind fun src S1 => (comps src (fun d => setT t d (wipeE e vs)) mt me S1.length fuel 0 (S1 ++ [.lst []])).bind fun _ S2 => .ok (.ref S1.length) S2) σ H Q) :
    tLc (tMi K W mi) (tGn K t) (tMb K WF mt) (tM K WF me) vs σ H Q := by
  refine (tX.bind (f := fun src e S1 => (comps src (fun d => setT t d (wipeE e vs)) mt me S1.length fuel 0 (S1 ++ [.lst []])).bind fun _ S2 => Out.ok (D.ref S1.length) S2) q fun src J ω S env H1 hS hE hJ p => ?_ : tMi K W mi σ H _)
  intro l hl
  obtain ⟨s1, L1, r1⟩ := hS.alloc (o := .lst []) (c := .lst []) hl fun ω' L => ⟨[], upd_same, .nil⟩
  have hl1 : ((⟨ω.ρ ++ [l], ω.fz⟩ : Wo).ρ)[S.length]? = some l := by
    cases r1 with
    | ref h => exact h
  refine ⟨fun i m H' => ∃ ω' S', Later ω H1 ω' H' ∧ Sim K ω' S' H' ∧ ω'.ρ[S.length]? = some l ∧ Post (RelD K) K (fun c d H' => W c d σ H') ω' H'
    ((comps src (fun d => setT t d (wipeE env vs)) mt me S.length m i S').bind fun _ S2 => Out.ok (D.ref S.length) S2) Q, ⟨fuel, _, _, L1, s1, hl1, Post.later L1 p⟩, ?_⟩
  rintro i m H' ⟨ω', S', L', s', hl', p'⟩
  cases m with
  | zero => exact p'.elim
  | succ m =>
    obtain ⟨go, stop⟩ := hJ ω' H' S' i L' s'
    have p2 : Post (RelD K) K (fun c d H' => W c d σ H') ω' H' (Out.bind (match src.at_ S' i with
      | none => .bad
      | some none => .ok () S'
      | some (some d) => match setT t d (wipeE env vs) with
        | none => .bad
        | some e => match mt e S' with
          | .ok false S1 => comps src (fun d => setT t d (wipeE env vs)) mt me S.length m (i + 1) S1
          | .ok true S1 => (match me e S1 with
            | .ok y S2 => (match lstAt S2 S.length with
              | some acc => if acc.length < line then comps src (fun d => setT t d (wipeE env vs)) mt me S.length m (i + 1) (S2.set S.length (.lst (acc ++ [y]))) else .bad
              | none => .bad)
            | _ => .bad)
          | _ => .bad) fun _ S2 => Out.ok (D.ref S.length) S2) Q := p'
    cases e0 : src.at_ S' i with
    | none => rw [e0] at p2; exact p2.elim
    | some od =>
      rw [e0] at p2
      cases od with
      | none => exact .inl ⟨stop e0, p2 ω' H' _ (.refl _ _) s' (.ref hl')⟩
      | some d =>
        obtain ⟨g1, g2⟩ := go d e0
        refine .inr ⟨g1, fun H' => ∃ ω' S', Later ω H1 ω' H' ∧ Sim K ω' S' H' ∧ ω'.ρ[S.length]? = some l ∧ Post (RelD K) K (fun c d H' => W c d σ H') ω' H'
          ((comps src (fun d => setT t d (wipeE env vs)) mt me S.length m (i + 1) S').bind fun _ S2 => Out.ok (D.ref S.length) S2) Q, fun H'' h => ⟨m, Nat.lt_succ_self m, h⟩, fun x H2 y => ?_⟩
        obtain ⟨ω2, L2, s2, rd⟩ := g2 x H2 y
        have L02 := L'.trans L2
        dsimp only at p2
        refine ⟨ω2, S', wipeE env vs, d, s2, env_wipe (hE.later L02) vs, rd, ?_⟩
        cases e1 : setT t d (wipeE env vs) with
        | none => rw [e1] at p2; exact p2.elim
        | some env1 =>
          rw [e1] at p2
          dsimp only at p2
          intro σ2 hE2 b2
          refine ⟨by rw [b2.wipe ht, wipe_wipe], ω2, S', env1, s2, hE2, ?_⟩
          cases e2 : mt env1 S' with
          | bad => rw [e2] at p2; exact p2.elim
          | exc x S1 => rw [e2] at p2; exact p2.elim
          | ok b S1 =>
            rw [e2] at p2
            intro ω3 H3 b' L3 s3 rb
            cases rb
            have l3 : ω3.ρ[S.length]? = some l := (L2.trans L3).get hl'
            cases b with
            | false => exact iteF ⟨ω3, S1, L02.trans L3, s3, l3, Post.later (L2.trans L3) p2⟩
            | true =>
              dsimp only at p2
              refine iteT ⟨ω3, S1, env1, s3, hE2.later L3, ?_⟩
              cases e3 : me env1 S1 with
              | bad => rw [e3] at p2; exact p2.elim
              | exc x S2 => rw [e3] at p2; exact p2.elim
              | ok y S2 =>
                rw [e3] at p2
                intro ω4 H4 yv L4 s4 ry
                dsimp only at p2
                cases e4 : lstAt S2 S.length with
                | none => rw [e4] at p2; exact p2.elim
                | some acc =>
                  rw [e4] at p2
                  dsimp only at p2
                  by_cases hz : acc.length < line
                  · rw [if_pos hz] at p2
                    have l4 : ω4.ρ[S.length]? = some l := L4.get l3
                    obtain ⟨ws, h5, r5⟩ := s4.lst (lstAt_eq e4) l4
                    obtain ⟨s6, L6⟩ := s4.write (c' := .lst (acc ++ [y])) (o := .lst (ws ++ [yv])) (lstAt_eq e4) rfl l4 fun L => ⟨_, upd_same, (r5.append (.cons ry .nil)).later L⟩
                    have L26 := (L2.trans L3).trans (L4.trans L6)
                    exact ⟨ws, h5, by rw [← r5.length]; exact line_lt hz, ω4, _, L'.trans L26, s6, l4, Post.later L26 p2⟩
                  · rw [if_neg hz] at p2; exact p2.elim
theorem m_lc (hc : X.calm = true) (hN : X.N.Nodup) (hi : PI X tg iter (tMi X.K W mi)) (ok : BlkOk X.N X.env.scope scope own) (ho : ∀ i ∈ slotsT t, i ∈ own.map (·.2))
    (hg : ∀ (s : Shared) (H : Hp) (C : Addr) (cl : List (Str × Addr)) (fp : List Addr), PG (X.blk s H scope (compEnvC scope cl C X.env) fp) tg (tGn X.K t)) (ht : ∀ (s : Shared) (H : Hp) (C : Addr) (cl : List (Str × Addr)) (fp : List Addr), PTs (X.blk s H scope (compEnvC scope cl C X.env) fp) ifs (tMb X.K WF mt))
    (he : ∀ (s : Shared) (H : Hp) (C : Addr) (cl : List (Str × Addr)) (fp : List Addr), PE (X.blk s H scope (compEnvC scope cl C X.env) fp) elt (tM X.K WF me)) (hs : ∀ x, foldedSetIterable iter X.env x = pure x) :
    PE X (.ListComp elt [⟨tg, iter, ifs, 0⟩] scope pos) (tM X.K W fun e S => (mi e S).bind fun src S1 => (comps src (fun d => setT t d (wipeE e (own.map (·.2)))) mt me S1.length fuel 0 (S1 ++ [.lst []])).bind fun _ S2 => .ok (.ref S1.length) S2) :=
  PEimp (pe_lc hc hN hi ok hg ht he hs) fun σ H Q q => lc_read ho q
end
end Mi

set_option Elab.async false
set_option linter.all false
set_option maxRecDepth 100000
set_option maxHeartbeats 4000000
/-! MiE5: statements -/
namespace Mi
open PySem PySem.Spec PyProof.Rows L2

def PostS (K : PySem.W.Frag) (W : WX) (ω : Wo) (H : Hp) (o : OS) (D : Ends) : Prop := match o with
  | .ok (.nx e) S => ∀ ω' H' σ', Later ω H ω' H' → Sim K ω' S H' → EnvR K ω' H' e σ' → D.nx σ' H'
  | .ok (.bk e) S => ∀ ω' H' σ', Later ω H ω' H' → Sim K ω' S H' → EnvR K ω' H' e σ' → D.bk σ' H'
  | .ok (.ct e) S => ∀ ω' H' σ', Later ω H ω' H' → Sim K ω' S H' → EnvR K ω' H' e σ' → D.ct σ' H'
  | .ok (.rt d) S => ∀ ω' H' v, Later ω H ω' H' → Sim K ω' S H' → RelD K ω' H' d v → D.rt v H'
  | .exc x e S => ∀ ω' H' σ' c d, Later ω H ω' H' → Sim K ω' S H' → EnvR K ω' H' e σ' → RelX K ω' H' x c d → W c d σ' H'
  | .bad => False
def tS (K : PySem.W.Frag) (W : WX) (m : Env → Mem → OS) : TS := fun D σ H => ∃ ω S env, Sim K ω S H ∧ EnvR K ω H env σ ∧ PostS K W ω H (m env S) D
section
variable {K : PySem.W.Frag} {W : WX} {ω ω' : Wo} {H H' : Hp} {D : Ends} {σ : L2.St}
theorem PostS.later {o : OS} (L : Later ω H ω' H') (h : PostS K W ω H o D) : PostS K W ω' H' o D := by
  cases o with
  | ok f S =>
    cases f with
    | nx e => exact fun ω2 H2 σ2 L2 => h ω2 H2 σ2 (L.trans L2)
    | bk e => exact fun ω2 H2 σ2 L2 => h ω2 H2 σ2 (L.trans L2)
    | ct e => exact fun ω2 H2 σ2 L2 => h ω2 H2 σ2 (L.trans L2)
    | rt d => exact fun ω2 H2 v L2 => h ω2 H2 v (L.trans L2)
  | exc x e S => exact fun ω2 H2 σ2 c d L2 => h ω2 H2 σ2 c d (L.trans L2)
  | bad => exact h
/-- an expression's step within a statement -/
theorem PostS.up {α β : Type} {R : PySem.W.Frag → Wo → Hp → α → β → Prop} {o : Out α} {env : Env} {f : α → Mem → OS} (hE : EnvR K ω H env σ) (h : PostS K W ω H (Mi.up env o f) D) {Q : β → Hp → Prop}
    (k : ∀ a b ω1 S1 H1, Later ω H ω1 H1 → Sim K ω1 S1 H1 → R K ω1 H1 a b → PostS K W ω1 H1 (f a S1) D → Q b H1) : Post (R K) K (fun c d H' => W c d σ H') ω H o Q := by
  cases o with
  | ok a S => exact fun ω1 H1 b L s r => k a b ω1 S H1 L s r (PostS.later L h)
  | exc x S => exact fun ω1 H1 c d L s r => h ω1 H1 σ c d L s (hE.later L) r
  | bad => exact h
theorem tS.up {α β : Type} {R : PySem.W.Frag → Wo → Hp → α → β → Prop} {m : Env → Mem → Out α} {f : α → Env → Mem → OS} (h : tS K W (fun e S => Mi.up e (m e S) fun a S1 => f a e S1) D σ H) {Q : β → Hp → Prop}
    (k : ∀ a b ω S env H1, Sim K ω S H1 → EnvR K ω H1 env σ → R K ω H1 a b → PostS K W ω H1 (f a env S) D → Q b H1) : tX R K W m σ H Q := by
  obtain ⟨ω, S, env, hS, hE, q⟩ := h
  exact ⟨ω, S, env, hS, hE, PostS.up hE q fun a b ω1 S1 H1 L s r p => k a b ω1 S1 env H1 s (hE.later L) r p⟩
end
/-- a store at a target -/
def tG (K : PySem.W.Frag) (W : WX) (m : D → Env → Mem → Out Env) : TG := fun v σ H Q => ∃ ω S env d, Sim K ω S H ∧ EnvR K ω H env σ ∧ RelD K ω H d v ∧
  Post (EnvR K) K (fun c d H' => W c d σ H') ω H (m d env S) Q
section
variable {X : Cx} {W : WX} {e a b c tg iter : Expr} {ma mb mc : Env → Mem → Out D} {mt : Env → Mem → Out Bool} {mi : Env → Mem → Out Src} {pos : Pos} {st : Stmt} {n1 n2 : Env → Mem → OS}
theorem gt_n {t : Tn} {v : V} {σ : L2.St} {H : Hp} {Q : L2.St → Hp → Prop} (h : tG X.K W (fun d e S => match setT t d e with
    | some e1 => .ok e1 S
    | none => .bad) v σ H Q) : tGn X.K t v σ H Q := by
  obtain ⟨ω, S, env, d, hS, hE, r, q⟩ := h
  refine ⟨ω, S, env, d, hS, hE, r, ?_⟩
  dsimp only at q
  cases e1 : setT t d env with
  | none => rw [e1] at q; exact q.elim
  | some env' => rw [e1] at q; exact fun σ' hE' _ => q ω H σ' (.refl _ _) hS hE'
theorem gt_nm {i : Nat} {v : V} {σ : L2.St} {H : Hp} {Q : L2.St → Hp → Prop} (h : tG X.K W (fun d e S => match setT (.nm i) d e with
    | some e1 => .ok e1 S
    | none => .bad) v σ H Q) : gName i v σ H Q := by
  obtain ⟨ω, S, env, d, hS, hE, r, q⟩ := h
  have q' : Post (EnvR X.K) X.K (fun c d H' => W c d σ H') ω H (.ok (env.set i (some d)) S) Q := q
  exact q' ω H _ (.refl _ _) hS (hE.set i r)
theorem gt_sub {v : V} {σ : L2.St} {H : Hp} {Q : L2.St → Hp → Prop} (h : tG X.K W (fun d e S => (ma e S).bind fun x S1 => (mb e S1).bind fun y S2 => match fSet x y d S2 with
    | some S3 => .ok e S3
    | none => .bad) v σ H Q) : gSub (tM X.K W ma) (tM X.K W mb) (rUset X.K) v σ H Q := by
  obtain ⟨ω, S, env, d, hS, hE, r, q⟩ := h
  refine ⟨ω, S, env, hS, hE, Post.bind (f := fun x S1 => (mb env S1).bind fun y S2 => match fSet x y d S2 with
    | some S3 => Out.ok env S3
    | none => Out.bad) q fun x S1 ω1 H1 vx L1 s1 rx p1 => ⟨ω1, S1, env, s1, hE.later L1, Post.bind (f := fun y S2 => match fSet x y d S2 with
    | some S3 => Out.ok env S3
    | none => Out.bad) p1 fun y S2 ω2 H2 vy L2 s2 ry p2 => ⟨ω2, S2, x, y, d, s2, rx.later L2, ry, r.later (L1.trans L2), ?_⟩⟩⟩
  cases e1 : fSet x y d S2 with
  | none => rw [e1] at p2; exact p2.elim
  | some S3 => rw [e1] at p2; exact fun ω3 H3 L3 s3 => p2 ω3 H3 σ L3 s3 (hE.later ((L1.trans L2).trans L3))
/-- target = value -/
theorem s_asg {te : TE} {g : TG} {mg : D → Env → Mem → Out Env} (h : PS X st (tAsg te g)) (i1 : ∀ σ H Q, tM X.K W ma σ H Q → te σ H Q) (i2 : ∀ v σ H Q, tG X.K W mg v σ H Q → g v σ H Q) :
    PS X st (tS X.K W fun e S => up e (ma e S) fun d S1 => up e (mg d e S1) fun e1 S2 => .ok (.nx e1) S2) :=
  PSimp h fun D σ H q => i1 σ H _ (tS.up (f := fun d e S1 => up e (mg d e S1) fun e1 S2 => .ok (.nx e1) S2) q fun d v ω S env H1 hS hE r p => i2 v σ H1 _ ⟨ω, S, env, d, hS, hE, r, by
    cases e1 : mg d env S with
    | bad => rw [e1] at p; exact p.elim
    | exc x S1 => rw [e1] at p; exact fun ω2 H2 c dd L s rx => p ω2 H2 σ c dd L s (hE.later L) rx
    | ok env1 S1 => rw [e1] at p; exact fun ω2 H2 σ2 L s hE2 => p ω2 H2 σ2 L s hE2⟩)
theorem s_par2 {i j : Nat} (h : PS X st (tPar i j (tCons (tM X.K W ma) (tCons (tM X.K W mb) tNil)))) :
    PS X st (tS X.K W fun e S => up e (ma e S) fun x S1 => up e (mb e S1) fun y S2 => .ok (.nx ((e.set i (some x)).set j (some y))) S2) :=
  PSimp h fun D σ H q => show tM X.K W ma σ H (fun x H1 => tM X.K W mb σ H1 fun y H2 => ∃ v w, [x, y] = [v, w] ∧ D.nx ((σ.set i (some v)).set j (some w)) H2) from
    tS.up (f := fun x e S1 => up e (mb e S1) fun y S2 => .ok (.nx ((e.set i (some x)).set j (some y))) S2) q fun x vx ω S env H1 hS hE rx p => ⟨ω, S, env, hS, hE, PostS.up hE p fun y vy ω2 S2 H2 L s ry p2 =>
      ⟨vx, vy, rfl, p2 ω2 H2 _ (.refl _ _) s (((hE.later L).set i (rx.later L)).set j ry)⟩⟩
theorem s_par3 {i j k : Nat} (h : PS X st (tPar3 i j k (tCons (tM X.K W ma) (tCons (tM X.K W mb) (tCons (tM X.K W mc) tNil))))) :
    PS X st (tS X.K W fun e S => up e (ma e S) fun x S1 => up e (mb e S1) fun y S2 => up e (mc e S2) fun z S3 => .ok (.nx (((e.set i (some x)).set j (some y)).set k (some z))) S3) :=
  PSimp h fun D σ H q => show tM X.K W ma σ H (fun x H1 => tM X.K W mb σ H1 fun y H2 => tM X.K W mc σ H2 fun z H3 => ∃ u v w, [x, y, z] = [u, v, w] ∧ D.nx (((σ.set i (some u)).set j (some v)).set k (some w)) H3) from
    tS.up (f := fun x e S1 => up e (mb e S1) fun y S2 => up e (mc e S2) fun z S3 => .ok (.nx (((e.set i (some x)).set j (some y)).set k (some z))) S3) q fun x vx ω S env H1 hS hE rx p =>
      ⟨ω, S, env, hS, hE, PostS.up hE p fun y vy ω2 S2 H2 L s ry p2 => ⟨ω2, S2, env, s, hE.later L, PostS.up (hE.later L) p2 fun z vz ω3 S3 H3 L3 s3 rz p3 =>
        ⟨vx, vy, vz, rfl, p3 ω3 H3 _ (.refl _ _) s3 (((((hE.later L).later L3).set i ((rx.later L).later L3)).set j (ry.later L3)).set k rz)⟩⟩⟩
/-- x op= y -/
theorem up_aug (o : Bop) : PIp X (match o with
    | .add => .Add | .sub => .Sub | .mul => .Mult | .div => .FloorDiv | .mod => .Mod | .pow => .Pow) (rU2 X.K (fAug o)) := by
  intro pins s σ H x y v u Q I rx ry h
  obtain ⟨ω, S, a, b, hS, ra, rb, q⟩ := h
  unfold fAug at q
  split at q
  · cases ra
    cases rb
    exact ip_add pins s σ H _ _ v u Q I rx ry ⟨_, _, rfl, rfl, q.give hS (.int _)⟩
  · cases ra
    cases rb
    exact ip_sub pins s σ H _ _ v u Q I rx ry ⟨_, _, rfl, rfl, q.give hS (.int _)⟩
  · rename_i c1 c2
    cases ra
    cases rb
    by_cases hl : c1.length + c2.length ≤ line
    · rw [if_pos hl] at q
      exact iop_add_str pins s σ H _ _ v u Q I rx ry ⟨_, _, rfl, rfl, by rw [strLen, strLen]; exact line_le hl, by rw [strApp]; exact q.give hS (.str _)⟩
    · rw [if_neg hl] at q; exact q.elim
  · exact q.elim
theorem s_aug {i : Nat} {o : Bop} (h : PS X st (tAug i (tM X.K W ma) (rU2 X.K (fAug o)))) : PS X st (tS X.K W fun e S => match e[i]? with
    | some (some x) => up e (ma e S) fun y S1 => up e (lift (fAug o x y S1)) fun z S2 => .ok (.nx (e.set i (some z))) S2
    | _ => .bad) := PSimp h fun D σ H q => by
  obtain ⟨ω, S, env, hS, hE, q⟩ := q
  dsimp only at q
  cases hi : env[i]? with
  | none => rw [hi] at q; exact q.elim
  | some od =>
    cases od with
    | none => rw [hi] at q; exact q.elim
    | some x =>
      rw [hi] at q
      dsimp only at q
      obtain ⟨vx, h1, rx⟩ := hE.at_ i x hi
      refine ⟨vx, h1, ω, S, env, hS, hE, PostS.up hE q fun y vy ω1 S1 H1 L s ry p => ⟨ω1, S1, x, y, s, rx.later L, ry, ?_⟩⟩
      exact (PostS.up (R := RelD) (σ := σ) (hE.later L) p fun z vz ω2 S2 H2 L2 s2 rz p2 => p2 ω2 H2 _ (.refl _ _) s2 (((hE.later L).later L2).set i rz)).lift
theorem s_ex (h : PS X st (tDrop (tM X.K W ma))) : PS X st (tS X.K W fun e S => up e (ma e S) fun _ S1 => .ok (.nx e) S1) :=
  PSimp h fun D σ H q => show tM X.K W ma σ H (fun _ H1 => D.nx σ H1) from tS.up (f := fun _ e S1 => .ok (.nx e) S1) q fun x vx ω S env H1 hS hE rx p => p ω H1 σ (.refl _ _) hS hE
theorem s_ret (h : PS X st (tRet (tM X.K W ma))) : PS X st (tS X.K W fun e S => up e (ma e S) fun d S1 => .ok (.rt d) S1) :=
  PSimp h fun D σ H q => show tM X.K W ma σ H D.rt from tS.up (f := fun d e S1 => .ok (.rt d) S1) q fun x vx ω S env H1 hS hE rx p => p ω H1 vx (.refl _ _) hS rx
theorem s_retN (h : PS X st tRetN) : PS X st (tS X.K W fun _ S => .ok (.rt .non) S) := PSimp h fun D σ H ⟨ω, S, env, hS, hE, q⟩ => q ω H .non (.refl _ _) hS .non
theorem s_iff {t u : TS} (h : PS X st (tIfS (tMb X.K W mt) (tS X.K W n1) (tS X.K W n2))) : PS X st (tS X.K W fun e S => up e (mt e S) fun t S1 => match t with
    | true => n1 e S1
    | false => n2 e S1) :=
  PSimp h fun D σ H q => show tMb X.K W mt σ H (fun b H1 => if b = true then tS X.K W n1 D σ H1 else tS X.K W n2 D σ H1) from tS.up (f := fun t e S1 => match t with
    | true => n1 e S1
    | false => n2 e S1) q fun t b ω S env H1 hS hE rb p => by
    cases rb
    cases t with
    | true => exact iteT ⟨ω, S, env, hS, hE, p⟩
    | false => exact iteF ⟨ω, S, env, hS, hE, p⟩
theorem s_pass (h : PS X st tNext) : PS X st (tS X.K W fun e S => .ok (.nx e) S) := PSimp h fun D σ H ⟨ω, S, env, hS, hE, q⟩ => q ω H σ (.refl _ _) hS hE
theorem s_brk (h : PS X st tBreak) : PS X st (tS X.K W fun e S => .ok (.bk e) S) := PSimp h fun D σ H ⟨ω, S, env, hS, hE, q⟩ => q ω H σ (.refl _ _) hS hE
theorem s_cont (h : PS X st tCont) : PS X st (tS X.K W fun e S => .ok (.ct e) S) := PSimp h fun D σ H ⟨ω, S, env, hS, hE, q⟩ => q ω H σ (.refl _ _) hS hE
theorem s_never : PS X st (tS X.K W fun _ _ => .bad) := PSimp ps_never fun D σ H ⟨ω, S, env, hS, hE, q⟩ => q
/-! ### blocks -/
variable {sts : List Stmt}
theorem ss_nil : PSs X [] (tS X.K W fun e S => .ok (.nx e) S) := PSsimp pss_nil fun D σ H ⟨ω, S, env, hS, hE, q⟩ => q ω H σ (.refl _ _) hS hE
theorem ss_cons (h1 : PS X st (tS X.K W n1)) (h2 : PSs X sts (tS X.K W n2)) : PSs X (st :: sts) (tS X.K W fun e S => match n1 e S with
    | .ok (.nx e1) S1 => n2 e1 S1
    | .ok (.bk e1) S1 => .ok (.bk e1) S1
    | .ok (.ct e1) S1 => .ok (.ct e1) S1
    | .ok (.rt d) S1 => .ok (.rt d) S1
    | .exc x e1 S1 => .exc x e1 S1
    | .bad => .bad) := PSsimp (pss_cons h1 h2) fun D σ H ⟨ω, S, env, hS, hE, q⟩ => by
  refine ⟨ω, S, env, hS, hE, ?_⟩
  dsimp only at q
  cases e1 : n1 env S with
  | bad => rw [e1] at q; exact q.elim
  | exc x env1 S1 => rw [e1] at q; exact q
  | ok f S1 =>
    rw [e1] at q
    cases f with
    | nx env1 => exact fun ω1 H1 σ1 L s hE1 => ⟨ω1, S1, env1, s, hE1, PostS.later L q⟩
    | bk env1 => exact q
    | ct env1 => exact q
    | rt d => exact q
/-! ### loops -/
theorem s_whl (h : PS X st (tWhile (tMb X.K W mt) (tS X.K W n1))) : PS X st (tS X.K W fun e S => whiles mt n1 fuel e S) := PSimp h fun D σ H ⟨ω, S, env, hS, hE, q⟩ => by
  refine ⟨fun m σ H => ∃ ω S env, Sim X.K ω S H ∧ EnvR X.K ω H env σ ∧ PostS X.K W ω H (whiles mt n1 m env S) D, ⟨fuel, ω, S, env, hS, hE, q⟩, ?_⟩
  rintro m σ H ⟨ω, S, env, hS, hE, q⟩
  cases m with
  | zero => exact q.elim
  | succ m =>
    have q2 : PostS X.K W ω H (match mt env S with
      | .bad => .bad
      | .exc x S1 => .exc x env S1
      | .ok false S1 => .ok (.nx env) S1
      | .ok true S1 => match n1 env S1 with
        | .ok (.nx e1) S2 => whiles mt n1 m e1 S2
        | .ok (.ct e1) S2 => whiles mt n1 m e1 S2
        | .ok (.bk e1) S2 => .ok (.nx e1) S2
        | .ok (.rt d) S2 => .ok (.rt d) S2
        | .exc x e1 S2 => .exc x e1 S2
        | .bad => .bad) D := q
    refine ⟨ω, S, env, hS, hE, ?_⟩
    cases e0 : mt env S with
    | bad => rw [e0] at q2; exact q2.elim
    | exc x S1 => rw [e0] at q2; exact fun ω1 H1 c d L s r => q2 ω1 H1 σ c d L s (hE.later L) r
    | ok b S1 =>
      rw [e0] at q2
      intro ω1 H1 b' L1 s1 rb
      cases rb
      cases b with
      | false => exact iteF (q2 ω1 H1 σ L1 s1 (hE.later L1))
      | true =>
        dsimp only at q2
        refine iteT ⟨fun σ' H' => ∃ ω S env, Sim X.K ω S H' ∧ EnvR X.K ω H' env σ' ∧ PostS X.K W ω H' (whiles mt n1 m env S) D, fun σ' H' h => ⟨m, Nat.lt_succ_self m, h⟩, ω1, S1, env, s1, hE.later L1, ?_⟩
        cases e1 : n1 env S1 with
        | bad => rw [e1] at q2; exact q2.elim
        | exc x env1 S2 => rw [e1] at q2; exact PostS.later (D := { D with nx := _, ct := _, bk := D.nx }) L1 q2
        | ok f S2 =>
          rw [e1] at q2
          cases f with
          | nx env1 => exact fun ω2 H2 σ2 L s hE2 => ⟨ω2, S2, env1, s, hE2, PostS.later (L1.trans L) q2⟩
          | ct env1 => exact fun ω2 H2 σ2 L s hE2 => ⟨ω2, S2, env1, s, hE2, PostS.later (L1.trans L) q2⟩
          | bk env1 => exact fun ω2 H2 σ2 L s hE2 => q2 ω2 H2 σ2 (L1.trans L) s hE2
          | rt d => exact fun ω2 H2 v L s r => q2 ω2 H2 v (L1.trans L) s r
theorem s_for {t : Tn} (h : PS X st (tFor (tMi X.K W mi) (tGn X.K t) (tS X.K W n1))) : PS X st (tS X.K W fun e S => up e (mi e S) fun src S1 => turns src (fun d e1 S2 => match setT t d e1 with
    | some e2 => n1 e2 S2
    | none => .bad) fuel 0 e S1) := PSimp h fun D σ H q => by
  refine (tS.up (f := fun src e S1 => turns src (fun d e1 S2 => match setT t d e1 with
    | some e2 => n1 e2 S2
    | none => .bad) fuel 0 e S1) q fun src J ω S env H1 hS hE hJ p => ?_ : tMi X.K W mi σ H _)
  refine ⟨fun i m σ' H' => ∃ ω' S' env', Later ω H1 ω' H' ∧ Sim X.K ω' S' H' ∧ EnvR X.K ω' H' env' σ' ∧ PostS X.K W ω' H' (turns src (fun d e1 S2 => match setT t d e1 with
    | some e2 => n1 e2 S2
    | none => .bad) m i env' S') D, ⟨fuel, ω, S, env, .refl _ _, hS, hE, p⟩, ?_⟩
  rintro i m σ' H' ⟨ω', S', env', L', s', hE', p'⟩
  cases m with
  | zero => exact p'.elim
  | succ m =>
    obtain ⟨go, stop⟩ := hJ ω' H' S' i L' s'
    have p2 : PostS X.K W ω' H' (match src.at_ S' i with
      | none => .bad
      | some none => .ok (.nx env') S'
      | some (some d) => match (match setT t d env' with
        | some e2 => n1 e2 S'
        | none => .bad) with
        | .ok (.nx e1) S1 => turns src (fun d e1 S2 => match setT t d e1 with
          | some e2 => n1 e2 S2
          | none => .bad) m (i + 1) e1 S1
        | .ok (.ct e1) S1 => turns src (fun d e1 S2 => match setT t d e1 with
          | some e2 => n1 e2 S2
          | none => .bad) m (i + 1) e1 S1
        | .ok (.bk e1) S1 => .ok (.nx e1) S1
        | .ok (.rt d) S1 => .ok (.rt d) S1
        | .exc x e1 S1 => .exc x e1 S1
        | .bad => .bad) D := p'
    cases e0 : src.at_ S' i with
    | none => rw [e0] at p2; exact p2.elim
    | some od =>
      rw [e0] at p2
      cases od with
      | none => exact .inl ⟨stop e0, p2 ω' H' σ' (.refl _ _) s' hE'⟩
      | some d =>
        obtain ⟨g1, g2⟩ := go d e0
        refine .inr ⟨g1, fun σ' H' => ∃ ω' S' env', Later ω H1 ω' H' ∧ Sim X.K ω' S' H' ∧ EnvR X.K ω' H' env' σ' ∧ PostS X.K W ω' H' (turns src (fun d e1 S2 => match setT t d e1 with
          | some e2 => n1 e2 S2
          | none => .bad) m (i + 1) env' S') D, fun σ2 H2 h => ⟨m, Nat.lt_succ_self m, h⟩, fun x H2 y => ?_⟩
        obtain ⟨ω2, L2, s2, rd⟩ := g2 x H2 y
        dsimp only at p2
        refine ⟨ω2, S', env', d, s2, hE'.later L2, rd, ?_⟩
        cases e1 : setT t d env' with
        | none => rw [e1] at p2; exact p2.elim
        | some env1 =>
          rw [e1] at p2
          dsimp only at p2
          intro σ2 hE2 _
          refine ⟨ω2, S', env1, s2, hE2, ?_⟩
          cases e2 : n1 env1 S' with
          | bad => rw [e2] at p2; exact p2.elim
          | exc x env2 S2 => rw [e2] at p2; exact PostS.later (D := { D with nx := _, ct := _, bk := D.nx }) L2 p2
          | ok f S2 =>
            rw [e2] at p2
            cases f with
            | nx env2 => exact fun ω3 H3 σ3 L s hE3 => ⟨ω3, S2, env2, (L'.trans L2).trans L, s, hE3, PostS.later (L2.trans L) p2⟩
            | ct env2 => exact fun ω3 H3 σ3 L s hE3 => ⟨ω3, S2, env2, (L'.trans L2).trans L, s, hE3, PostS.later (L2.trans L) p2⟩
            | bk env2 => exact fun ω3 H3 σ3 L s hE3 => p2 ω3 H3 σ3 (L2.trans L) s hE3
            | rt d => exact fun ω3 H3 v L s r => p2 ω3 H3 v (L2.trans L) s r
/-! ### exceptions -/
theorem s_rai {x : Str} {C : Addr} (hC : C = He.ga X.K x) (h : PS X st (fun _ σ H => W (.ref C) none σ H)) : PS X st (tS X.K W fun e S => .exc ⟨x, []⟩ e S) :=
  PSimp h fun D σ H ⟨ω, S, env, hS, hE, q⟩ => q ω H σ (.ref C) none (.refl ω H) hS hE ⟨by rw [hC], .inl ⟨rfl, rfl⟩⟩
/-- the suites do what the plain ones do -/
inductive HL (K : PySem.W.Frag) (F : Nat → List D → Mem → Out D) : Hs → List (Value × (Addr → Value → Option Addr → TS)) → Prop
  | nil : HL K F .nil []
  | cons {ys zs : List Str} {b : Ss} {r : Hs} {c : Value} {l : List (Value × (Addr → Value → Option Addr → TS))} (h1 : ∀ x ∈ ys, PySem.W.exmOne K (.ref (He.ga K x)) c = some true) (h2 : ∀ x ∈ zs, PySem.W.exmOne K (.ref (He.ga K x)) c = some false) (hr : HL K F r l) :
    HL K F (.cons ys zs b r) ((c, fun _ _ _ => tS K WF (evSs F b)) :: l)
theorem wMany_of {K : PySem.W.Frag} {F : Nat → List D → Mem → Out D} {h : Hs} {l : List (Value × (Addr → Value → Option Addr → TS))} (hl : HL K F h l) : ∀ {x : Xn} {e : Env} {S : Mem} {ω : Wo} {H : Hp} {D : Ends} {c : Value} {d : Option Addr} {σ : L2.St}, Sim K ω S H → EnvR K ω H e σ → RelX K ω H x c d →
    PostS K W ω H (evH F h x e S) D → L2.wMany K W D l c d σ H := by
  induction hl with
  | nil => exact fun {x e S ω H D c d σ} hS hE rx q => q ω H σ c d (.refl ω H) hS hE rx
  | @cons ys zs b r c0 l h1 h2 hr ih =>
    intro x e S ω H D c d σ hS hE rx q
    obtain ⟨ec, _⟩ := id rx
    have q2 : PostS K W ω H (if x.cls ∈ ys then (match evSs F b e S with
      | .ok f S1 => .ok f S1
      | _ => .bad) else if x.cls ∈ zs then evH F r x e S else .bad) D := q
    by_cases hy : x.cls ∈ ys
    · rw [if_pos hy] at q2
      refine ⟨true, by rw [ec]; exact h1 _ hy, fun _ a _ => ⟨ω, S, e, hS, hE, ?_⟩, fun z => by cases z⟩
      cases e1 : evSs F b e S with
      | bad => rw [e1] at q2; exact q2.elim
      | exc x1 e2 S1 => rw [e1] at q2; exact q2.elim
      | ok f S1 =>
        rw [e1] at q2
        cases f <;> exact q2
    · rw [if_neg hy] at q2
      by_cases hz : x.cls ∈ zs
      · rw [if_pos hz] at q2
        exact ⟨false, by rw [ec]; exact h2 _ hz, (fun z => by cases z), fun _ => ih hS hE rx q2⟩
      · rw [if_neg hz] at q2; exact q2.elim
theorem s_tri {F : Nat → List D → Mem → Out D} {b : Ss} {hh : Hs} {l : List (Value × (Addr → Value → Option Addr → TS))} (hl : HL X.K F hh l) (h : PS X st (fun D σ H => tS X.K (L2.wMany X.K W D l) (evSs F b) D σ H)) :
    PS X st (tS X.K W fun e S => match evSs F b e S with
      | .exc x e1 S1 => evH F hh x e1 S1
      | .ok f S1 => .ok f S1
      | .bad => .bad) := PSimp h fun D σ H ⟨ω, S, env, hS, hE, q⟩ => by
  refine ⟨ω, S, env, hS, hE, ?_⟩
  dsimp only at q
  cases e1 : evSs F b env S with
  | bad => rw [e1] at q; exact q.elim
  | ok f S1 =>
    rw [e1] at q
    cases f <;> exact q
  | exc x e2 S1 =>
    rw [e1] at q
    exact fun ω1 H1 σ1 c d L s hE1 rx => wMany_of hl s hE1 rx (PostS.later L q)
end
end Mi

set_option Elab.async false
set_option linter.all false
set_option maxRecDepth 100000
set_option maxHeartbeats 4000000
/-! MiE6: steps back, replace -/
namespace Mi
open PySem PySem.Spec PyProof.Rows L2
/-- a written number -/
def litI : Expr → Option Int
  | .Constant (.int i) _ _ => some i
  | .UnaryOp .USub (.Constant (.int i) _ _) _ => some (-i)
  | _ => none
def litO : Option Expr → Option (Option Int)
  | none => some none
  | some e => match litI e with
    | some i => some (some i)
    | none => none
theorem po_lit {X : Cx} {o : Option Expr} {l : Option Int} (h : litO o = some l) : PO X o (fun _ H Q => Q l H) := by
  cases o with
  | none => cases h; exact POimp po_none fun _ _ _ q => q
  | some e =>
    have h' : (match litI e with
      | some i => some (some i)
      | none => none) = some l := h
    cases e1 : litI e with
    | none => rw [e1] at h'; cases h'
    | some i =>
      rw [e1] at h'
      cases h'
      unfold litI at e1
      split at e1
      · cases e1; exact POimp (po_some pe_int) fun _ _ _ q => ⟨_, rfl, q⟩
      · cases e1; exact POimp (po_some (pe_un un_neg pe_int)) fun _ _ _ q => ⟨_, rfl, _, rfl, q⟩
      · cases e1
section
variable {X : Cx} {W : WX} {e a b c : Expr} {ma mb : Env → Mem → Out D} {mc : Env → Mem → Out Bool}
theorem cps_get (cs : List Nat) (i : Nat) : (⟨cs.toArray⟩ : Str).cps[i]? = cs[i]? := by simp
theorem pe_rv {lo hi : Option Expr} {l u : Option Int} {k : Nat} {p1 p2 p3 pos : Pos} (he : PE X e (tM X.K W ma)) (hl : litO lo = some l) (hu : litO hi = some u) :
    PE X (.Subscript e (.Slice lo hi (some (.UnaryOp .USub (.Constant (.int 1) k p1) p2)) p3) pos) (tM X.K W fun e S => (ma e S).bind fun x S1 => lift (fRv l u x S1)) := by
  refine ⟨fun pins s σ H Q I h => ?_⟩
  have h2 : tM X.K W ma σ H (fun v H1 => rU1 X.K (fRv l u) v H1 Q) := tX.bind h fun x vx ω S env H1 hS hE rx p => ⟨ω, S, x, hS, rx, p.lift⟩
  refine Subscript_ (thn (he.run pins s σ H _ I h2) fun w s1 ⟨x, H1, I1, r1, q1⟩ => ?_)
  refine wpAny_Slice (thn ((po_lit hl).run pins s1 σ H1 (fun o G => o = l ∧ G = H1) I1 ⟨rfl, rfl⟩) fun w1 s2 ⟨l', H2, I2, pl, el, e2⟩ => ?_)
  subst el e2
  refine thn ((po_lit hu).run pins s2 σ H2 (fun o G => o = u ∧ G = H2) I2 ⟨rfl, rfl⟩) fun w2 s3 ⟨u', H3, I3, pu, eu, e3⟩ => ?_
  subst eu e3
  have hst : litO (some (.UnaryOp .USub (.Constant (.int 1) k p1) p2)) = some (some (-1)) := rfl
  refine thn ((po_lit hst).run pins s3 σ H3 (fun o G => o = some (-1) ∧ G = H3) I3 ⟨rfl, rfl⟩) fun w3 s4 ⟨o, H4, I4, pz, eo, e4⟩ => ?_
  subst eo e4
  have J : Inv X pins σ H4 { s4 with heap := s4.heap.push { cls := .type "slice", data := .fields #[w1, w2, w3] } } := I4.kept (t' := s4.toks) fun _ _ z => Heap.get?_push_of_some _ z
  show wpAny (model X.prog X.w) X.A (subscriptTail e (.Slice lo hi (some (.UnaryOp .USub (.Constant (.int 1) k p1) p2)) p3) w (.ref s4.heap.objs.size)) (EP X pins σ Q) X.xe { s4 with heap := s4.heap.push { cls := .type "slice", data := .fields #[w1, w2, w3] } }
  obtain ⟨ω, S, d, hS, rd, p⟩ := q1
  cases d <;> first | exact p.elim | skip
  · rename_i cs
    cases rd
    obtain ⟨t, rfl⟩ := r1
    have p' : PostO (RelD X.K) X.K ω H4 (if (pickR cs l' u').length ≤ line then some (D.str (pickR cs l' u'), S) else none) Q := p
    split at p'
    · rename_i hlen
      obtain ⟨os, z1, z2, z3⟩ := Heap.IsSliceOf.new s4.heap w1 w2 w3
      obtain ⟨ll, e1, e2⟩ := IsPart.raw pl
      obtain ⟨uu, e3, e4⟩ := IsPart.raw pu
      obtain ⟨zz, e5, e6⟩ := IsPart.raw pz
      refine tail_any (T := "str") (ops := [.str ⟨cs.toArray⟩ t, .ref s4.heap.objs.size]) (typeIs_str _ _ _) F.slot_str_getitem.lookup ?_ (by with_unfolding_all rfl)
      have hz : zz.map (·.1) = some (-1) := by first | exact e5.symm | exact e6.symm | exact e5 | exact e6
      have hl2 : ll.map (·.1) = l' := by first | exact e1.symm | exact e2.symm | exact e1 | exact e2
      have hu2 : uu.map (·.1) = u' := by first | exact e3.symm | exact e4.symm | exact e3 | exact e4
      refine wpAny_getItem_str_slice (l := ll) (u := uu) (st := zz) ⟨os, z1, z2, ?_⟩ (by rw [hz]; rfl) ?_
      · first
          | (rw [z3]; simp only [e1, e2, e3, e4, e5, e6]; done)
          | (rw [z3, e1, e3, e5])
          | (rw [z3, e2, e4, e6])
      · have hm : (sliceMade ⟨cs.toArray⟩ t ll uu zz) = Made.str ⟨(pickR cs l' u').toArray⟩ := by
          unfold sliceMade slicePicked
          rw [hz, hl2, hu2]
          rw [if_neg (by simp)]
          unfold pickR
          simp only [strLen, Option.getD_some, List.getElem?_toArray]
        rw [hm]
        exact ⟨by rw [strLen]; exact line_le hlen, .str _, H4, J.tok _, ⟨_, rfl⟩, p'.give hS (.str _)⟩
    · exact p'.elim
  · rename_i n
    cases l' with
    | some i => exact p.elim
    | none =>
      cases u' with
      | some i => cases lstAt S n <;> exact p.elim
      | none =>
        cases hx : lstAt S n with
        | none =>
          have p' : PostO (RelD X.K) X.K ω H4 (match (none : Option Int), (none : Option Int), lstAt S n with
            | none, none, some xs => some (D.ref S.length, S ++ [.lst xs.reverse])
            | _, _, _ => none) Q := p
          rw [hx] at p'
          exact p'.elim
        | some xs =>
          have p' : PostO (RelD X.K) X.K ω H4 (match (none : Option Int), (none : Option Int), lstAt S n with
            | none, none, some xs => some (D.ref S.length, S ++ [.lst xs.reverse])
            | _, _, _ => none) Q := p
          rw [hx] at p'
          cases rd with
          | ref ha =>
            obtain ⟨vs, g1, g2⟩ := hS.lst (lstAt_eq hx) ha
            cases r1
            obtain ⟨its, r, ht, hz⟩ := J.list (SqL.of g1)
            refine tail_any (T := "list") (ops := [.ref _, .ref s4.heap.objs.size]) ht.isList.typeIs (PySem.slot_list_getitem.lookup) ?_ (by with_unfolding_all rfl)
            refine wpAny_getItem_list_slice ht.isList (Heap.IsSliceOf.new _ w1 w2 w3) pl pu pz (by decide) ?_ (by rw [List.size_toArray]; have := r.length; omega)
            rw [PySem.W.krv_pick]
            have np : H4 (s4.heap.push { cls := .type "slice", data := .fields #[w1, w2, w3] }).objs.size = none := J.hok.fresh (Nat.le_refl _)
            refine ⟨.ref _, _, J.laid (t' := s4.toks) (o := .lst vs.reverse) (fun _ _ z => Heap.get?_push_of_some _ z) (Nat.le_refl _) ?_, rfl, PostO.newLst hS g2.reverse p' np⟩
            exact ⟨by rw [List.length_reverse]; exact hz, _, 0, r.reverse, Heap.get?_push_size _ rfl⟩
/-! ### replace of written texts -/
def fitR (y z : List Nat) : Bool := decide (1 ≤ y.length) && !((⟨y.toArray⟩ : Str) == ⟨z.toArray⟩)
theorem pet_rpl {y z : List Nat} {j k : Nat} {c0 c1 apos pos : Pos} (he : PE X e (tM X.K W ma)) (hf : fitR y z = true) (hb : attributeBase e "replace" X.env (eval e X.env) = eval e X.env) (hline : (apos.endLine == pos.line) = true) :
    PET X (.Call (.Attribute e "replace" apos) [.Constant (.str ⟨y.toArray⟩) j c0, .Constant (.str ⟨z.toArray⟩) k c1] [] pos) (tM X.K W fun e S => (ma e S).bind fun x S1 => lift (fRpl y z x S1)) := by
  obtain ⟨f1, f2⟩ := Bool.and_eq_true_iff.mp hf
  have f1' := of_decide_eq_true f1
  intro pins s σ H Q h0 I h
  refine CwR.pet_replC he (by simpa using f2) rfl hb hline pins s σ H Q h0 I ?_
  show tM X.K W ma σ H _
  refine tX.bind h fun x vx ω S env H1 hS hE rx p => ?_
  replace p := p.lift
  cases x <;> first | exact p.elim | skip
  rename_i cs
  cases rx
  have p' : PostO (RelD X.K) X.K ω H1 (if cs.length + (cs.length + 1) * z.length ≤ line then some (D.str (PySem.StrLaws.replL y z cs), S) else none) Q := p
  split at p'
  · rename_i hl
    refine ⟨_, rfl, by rw [strLen, strLen]; exact hl, ?_⟩
    have e1 : Txt.replace ⟨cs.toArray⟩ ⟨y.toArray⟩ ⟨z.toArray⟩ = (⟨(PySem.StrLaws.replL y z cs).toArray⟩ : Str) := by
      have q := PySem.StrLaws.replace_list (x := ⟨cs.toArray⟩) (y := ⟨y.toArray⟩) (z := ⟨z.toArray⟩) (by rw [strLen]; exact f1')
      have q2 : (Txt.replace ⟨cs.toArray⟩ ⟨y.toArray⟩ ⟨z.toArray⟩).cps = (PySem.StrLaws.replL y z cs).toArray := by
        rw [← Array.toArray_toList (xs := (Txt.replace ⟨cs.toArray⟩ ⟨y.toArray⟩ ⟨z.toArray⟩).cps), q]
      cases hr : Txt.replace (⟨cs.toArray⟩ : Str) ⟨y.toArray⟩ ⟨z.toArray⟩ with
      | mk cps => rw [hr] at q2; exact congrArg Str.mk q2
    rw [e1]
    exact p'.give hS (.str _)
  · exact p'.elim
/-- a test whose written text takes a token -/
theorem tok_cmp {o : Operator} {op : CmpOp} {x : Str} {j : Nat} {c0 pos : Pos} {r : R2} {ta : TE} (ho : OpR X (compareOp op) r) (ha : PE X a ta) (pins : List (Addr × Obj)) (s : Shared) (σ : L2.St) (H : Hp) (Q : Bool → Hp → Prop) (I : L2.Inv X pins σ H s)
    (h : ta σ H fun v H1 => r v (.str x) H1 fun z H2 => ∃ k, z = .bl k ∧ Q k H2) :
    wpAny (model X.prog X.w) X.A (isTrue (.Compare a [op] [.Constant (.str x) j c0] pos) X.env (eval (.Compare a [op] [.Constant (.str x) j c0] pos) X.env)) (fun b s1 => 1 ≤ s1.toks ∧ ∃ H1, L2.Inv X pins σ H1 s1 ∧ Q b H1) X.xe s := by
  refine wpAny_isTrue_Compare1 (thn (ha.run pins s σ H _ I h) fun v s1 ⟨y, H1, I1, r1, q1⟩ => Calls.Constant_str ?_) (by rfl)
  have I2 : L2.Inv X pins σ H1 { s1 with toks := s1.toks + 1 } := I1.tok _
  refine wpAny_mono (PySem.wpAny_toks (ho pins _ σ H1 y (.str x) v (.str x s1.toks) _ I2 r1 ⟨_, rfl⟩ q1)) (fun d s3 q => ?_) fun _ _ z => z.2
  obtain ⟨hk, z, H3, I3, r3, k, e, q3⟩ := q
  subst e
  cases r3
  exact wpAny_truthy_bool ⟨Nat.le_trans (Nat.succ_le_succ (Nat.zero_le _)) hk, H3, I3, q3⟩
theorem pe_ifT {op : CmpOp} {x : Str} {j : Nat} {c0 pos p2 : Pos} {r : R2} {ta tb tc : TE} (ho : OpR X (compareOp op) r) (ha : PE X a ta) (hb : PET X b tb) (hc : PET X c tc) :
    PE X (.IfExp (.Compare a [op] [.Constant (.str x) j c0] pos) b c p2) (fun σ H Q => ta σ H fun v H1 => r v (.str x) H1 fun z H2 => ∃ k, z = .bl k ∧ if k = true then tb σ H2 Q else tc σ H2 Q) := by
  refine ⟨fun pins s σ H Q I h => ?_⟩
  refine wpAny_IfExp (thn (tok_cmp (o := .Add) ho ha pins s σ H (fun k H2 => if k = true then tb σ H2 Q else tc σ H2 Q) I h) fun k s1 ⟨hk, H1, I1, q1⟩ => ?_)
  cases k with
  | true => exact hb pins s1 σ H1 Q hk I1 q1
  | false => exact hc pins s1 σ H1 Q hk I1 q1
/-- A if a op 'text' else B -/
theorem m_ifT {op : CmpOp} {f : D → D → Mem → Option (D × Mem)} {x : Str} {cs : List Nat} {j : Nat} {c0 pos p2 : Pos} {m2 m3 : Env → Mem → Out D} (hx : x = ⟨cs.toArray⟩) (hbl : ∀ x y S d S', f x y S = some (d, S') → ∃ k, d = .bl k) (ho : OpR X (compareOp op) (rU2 X.K f)) (ha : PE X a (tM X.K W ma)) (hb : PET X b (tM X.K W m2)) (hc : PET X c (tM X.K W m3)) :
    PE X (.IfExp (.Compare a [op] [.Constant (.str x) j c0] pos) b c p2) (tM X.K W fun e S => (truO ((ma e S).bind fun v S1 => lift (f v (.str cs) S1))).bind fun t S1 => match t with
      | true => m2 e S1
      | false => m3 e S1) := by
  subst hx
  refine PEimp (pe_ifT ho ha hb hc) fun σ H Q q => ?_
  obtain ⟨ω, S, env, hS, hE, q⟩ := q
  refine ⟨ω, S, env, hS, hE, ?_⟩
  dsimp only at q
  cases e1 : ma env S with
  | bad => rw [e1] at q; exact q.elim
  | exc x S1 => rw [e1] at q; exact q
  | ok d S1 =>
    rw [e1] at q
    intro ω1 H1 v L s rv
    refine ⟨ω1, S1, d, .str cs, s, rv, .str cs, ?_⟩
    cases e2 : f d (.str cs) S1 with
    | none => rw [show truO (Out.bind (.ok d S1) fun v S1 => lift (f v (.str cs) S1)) = .bad by show truO (lift (f d (.str cs) S1)) = _; rw [e2]; rfl] at q; exact q.elim
    | some w =>
      obtain ⟨dw, S2⟩ := w
      obtain ⟨k, rfl⟩ := hbl _ _ _ _ _ e2
      rw [show truO (Out.bind (.ok d S1) fun v S1 => lift (f v (.str cs) S1)) = .ok k S2 by show truO (lift (f d (.str cs) S1)) = _; rw [e2]; rfl] at q
      intro ω2 H2 u L2' s2 ru
      cases ru
      refine ⟨k, rfl, ?_⟩
      have L3 := L.trans L2'
      cases k with
      | true => exact iteT ⟨ω2, S2, env, s2, hE.later L3, Post.later L3 q⟩
      | false => exact iteF ⟨ω2, S2, env, s2, hE.later L3, Post.later L3 q⟩
theorem PET.of' {t : TE} (h : PE X e t) : PET X e t := fun pins s σ H Q _ I q => h.run pins s σ H Q I q
end
end Mi

set_option Elab.async false
set_option linter.all false
set_option maxRecDepth 100000
set_option maxHeartbeats 4000000
/-! MiF: Python's text as a text of the plain language -/
namespace Mi
open PySem PySem.Spec PyProof.Rows L2

/-- what a module's name stands for -/
inductive G
  | con (d : D) | fn (i : Nat) | bi (b : Bi) | ty (n : String) | rng | exc
/-- where a text stands: the names of its block, the slots, the module's names, is it a comprehension -/
structure CT where
  names : List (Str × NameKind)
  N : List Str
  gl : List (Str × G)
  cm : Bool
  /-- within a suite that an exception came to -/
  hot : Bool
  /-- a class's name: the classes that it takes, those that it lets by -/
  exs : List (Str × List Str × List Str)
def Bi.nm : Bi → Str
  | .len => "len" | .abs => "abs" | .max => "max" | .min => "min" | .int => "int" | .list => "list" | .tuple => "tuple" | .sum => "sum" | .all => "all" | .any => "any" | .sorted => "sorted" | .isi => "isinstance"
/-- the built-in types' values -/
def Bi.ty : Bi → Option String
  | .int => some "int" | .list => some "list" | .tuple => some "tuple"
  | _ => none
structure OkC (F : Nat → List D → Mem → Out D) (c : CT) (X : Cx) (W : WX) : Prop where
  names : X.env.scope.names = c.names
  kind : X.env.scope.kind = .function
  N : X.N = c.N
  nd : X.N.Nodup
  calm : c.hot = false → X.calm = true
  hu : X.A.units + 64 < cLine
  con : ∀ x d, c.gl.lookup x = some (.con d) → ∃ u v, X.mg x = some u ∧ RelV v u ∧ ∀ ω H, RelD X.K ω H d v
  fn : c.hot = false → ∀ x i, c.gl.lookup x = some (.fn i) → ∃ (k n : Nat) (f : Addr) (fd : FuncData) (ps : List Str), FnOk X.prog X.w X.K X.mg X.base (L2.CX X.prog X.w) k f fd ps (spF X.K n (F i)) ∧ (∀ as S, as.length ≠ n → F i as S = .bad) ∧
    Room k X.A ∧ X.mg x = some (.ref f) ∧ PySem.W.keepIn X.K (.ref f) = true ∧ Binds X.K fd ps []
  bi : ∀ x b, c.gl.lookup x = some (.bi b) → X.mg x = none ∧ x = b.nm
  ty : ∀ x n, c.gl.lookup x = some (.ty n) → X.mg x = none ∧ bootBuiltins x = some (.type n) ∧ x ≠ "__name__"
  rng : ∀ x, c.gl.lookup x = some .rng → X.mg x = none ∧ x = "range"
  exc : ∀ x, c.gl.lookup x = some .exc → X.mg x = some (.ref (He.ga X.K x)) ∧ PySem.W.excIn X.K (He.ga X.K x) He.veBase "ValueError.__new__" = true ∧ PySem.W.keepIn X.K (.ref (He.ga X.K x)) = true ∧ Raises X (.ref (He.ga X.K x))
  exm : ∀ y ys zs, c.exs.lookup y = some (ys, zs) → (∀ x ∈ ys, PySem.W.exmOne X.K (.ref (He.ga X.K x)) (.ref (He.ga X.K y)) = some true) ∧ ∀ x ∈ zs, PySem.W.exmOne X.K (.ref (He.ga X.K x)) (.ref (He.ga X.K y)) = some false
  tk : Takes X W
  hp : c.cm = false → PassesOwn (model X.prog X.w) X.A X.env X.xe
  fnx : c.cm = false → ∀ x, X.fn x = true
  stk : c.cm = false → X.stack = X.env :: X.outer ∧ X.env.frame = some X.env.locals
def isDbg (x : Str) : Bool := decide (x = "__debug__") || decide (x = "__classdict__") || decide (x = "__name__")
def ixOf (x : Str) : List Str → Nat → Option Nat
  | [], _ => none
  | y :: r, i => if x = y then some i else ixOf x r (i + 1)
theorem ixOf_ok {x : Str} : ∀ {l : List Str} {i j : Nat}, ixOf x l i = some j → ∃ k, j = i + k ∧ l[k]? = some x
  | [], _, _, h => by cases h
  | y :: r, i, j, h => by
    unfold ixOf at h
    by_cases e : x = y
    · rw [if_pos e] at h
      cases h
      exact ⟨0, rfl, by rw [e]; rfl⟩
    · rw [if_neg e] at h
      obtain ⟨k, e1, e2⟩ := ixOf_ok h
      exact ⟨k + 1, by omega, by simpa using e2⟩
/-- the slot of a name of the block -/
def slotOf (c : CT) (x : Str) : Option Nat := if isDbg x = true then none else match c.names.lookup x with
  | some .local => ixOf x c.N 0
  | some .cell => ixOf x c.N 0
  | some .free => ixOf x c.N 0
  | _ => none
/-- may a name of the block be stored (a local; in a def a cell too) -/
def storeOf (c : CT) (x : Str) : Option Nat := if isDbg x = true then none else match c.names.lookup x with
  | some .local => ixOf x c.N 0
  | some .cell => if c.cm = false then ixOf x c.N 0 else none
  | _ => none
/-- what a name of the module stands for -/
def globOf (c : CT) (x : Str) : Option G := if isDbg x = true then none else match c.names.lookup x with
  | some .globalImplicit => c.gl.lookup x
  | _ => none
def cName (c : CT) (x : Str) : Option E := match slotOf c x with
  | some i => some (.v i)
  | none => match globOf c x with
    | some (.con d) => some (.c d)
    | some (.ty n) => some (.c (.ty n))
    | some (.bi b) => (match b.ty with
      | some n => some (.c (.ty n))
      | none => none)
    | _ => none
def cConst : Const → Option E
  | .none => some (.c .non)
  | .bool b => some (.c (.bl b))
  | .int i => some (.c (.int i))
  | .str s => some (.c (.str s.cps.toList))
  | _ => none
def bopOf : Operator → Option Bop
  | .Add => some .add | .Sub => some .sub | .Mult => some .mul | .FloorDiv => some .div | .Mod => some .mod | .Pow => some .pow
  | _ => none
def copOf : CmpOp → Cop
  | .Eq => .eq | .NotEq => .ne | .Lt => .lt | .LtE => .le | .Gt => .gt | .GtE => .ge | .In => .isin | .NotIn => .notin | .Is => .same | .IsNot => .notsame
/-- no set written -/
def noSet : Expr → Bool
  | .Set .. => false
  | _ => true
def noStar : Expr → Bool
  | .Starred .. => false
  | _ => true
def noSlice : Expr → Bool
  | .Slice .. => false
  | _ => true
def noSuper : Expr → Bool
  | .Call (.Name _ _) [] [] _ => false
  | _ => true
def noComp : Expr → Bool
  | .ListComp .. => false
  | .SetComp .. => false
  | .DictComp .. => false
  | _ => true
def mtOf (m : Str) : Option Mt := if m = "append" then some .append else if m = "extend" then some .extend else if m = "pop" then some .pop else if m = "index" then some .index else if m = "count" then some .count else if m = "join" then some .join else none
theorem mtOf_ok {m : Str} {i : Mt} (h : mtOf m = some i) : m = i.nm := by
  unfold mtOf at h
  repeat' split at h
  all_goals first | (cases h; assumption) | (cases h; done)
def cArgs (f : Expr → Option E) : List Expr → Option Es
  | [] => some .nil
  | e :: r => if noStar e = true then (match f e, cArgs f r with
    | some x, some xs => some (.cons x xs)
    | _, _ => none) else none
/-- what stands in a display: stars too -/
def cDisp (f : Expr → Option E) : List Expr → Option Es
  | [] => some .nil
  | .Starred e _ :: r => (match f e, cDisp f r with
    | some x, some xs => some (.star x xs)
    | _, _ => none)
  | e :: r => (match f e, cDisp f r with
    | some x, some xs => some (.cons x xs)
    | _, _ => none)
def cPart (f : Expr → Option E) : Option Expr → Option Es
  | none => some .nil
  | some e => match f e with
    | some x => some (.cons x .nil)
    | none => none
def cBool (f : Expr → Option E) (o : BoolOp) : List Expr → Option E
  | [] => none
  | [e] => f e
  | e :: e2 :: r => match f e, cBool f o (e2 :: r) with
    | some x, some y => some (match o with
      | .And => .and x y
      | .Or => .or x y)
    | _, _ => none
mutual
/-- names as targets -/
def cTn : Nat → CT → Expr → Option Tn
  | 0, _, _ => none
  | n + 1, c, e => match e with
    | .Name x _ => match storeOf c x with
      | some i => some (.nm i)
      | none => none
    | .Tuple es _ _ => if c.hot = false then (match cTns n c es with
      | some ts => some (.tup ts)
      | none => none) else none
    | _ => none
def cTns : Nat → CT → List Expr → Option Tns
  | 0, _, _ => none
  | n + 1, c, es => match es with
    | [] => some .nil
    | e :: r => if noStar e = true then (match cTn n c e, cTns n c r with
      | some t, some ts => some (.cons t ts)
      | _, _ => none) else none
end
/-- a comprehension's own names with their slots -/
def ownOf (N : List Str) : List (Str × NameKind) → Option (List (Str × Nat))
  | [] => some []
  | (x, k) :: r => match ownOf N r with
    | none => none
    | some l => match k with
      | .local => (match ixOf x N 0 with
        | some i => some ((x, i) :: l)
        | none => none)
      | .cell => (match ixOf x N 0 with
        | some i => some ((x, i) :: l)
        | none => none)
      | _ => some l
/-- the block of a comprehension -/
def CT.blk (c : CT) (sc : Scope) : CT := ⟨(relS sc { kind := .function, names := c.names, isGenerator := false, isCoroutine := false }).names, c.N, c.gl, true, c.hot, c.exs⟩
/-- the arguments of range -/
def cRs (f : Expr → Option E) : List Expr → Option It
  | [a] => if noStar a = true then (match f a with
    | some y => some (.rng1 y)
    | none => none) else none
  | [a, b] => if (noStar a && noStar b) = true then (match f a, f b with
    | some y, some z => some (.rng2 y z)
    | _, _ => none) else none
  | [a, b, d] => if (noStar a && noStar b && noStar d) = true then (match f a, f b, f d with
    | some y, some z, some w => some (.rng3 y z w)
    | _, _, _ => none) else none
  | _ => none
def cRng (f : Expr → Option E) (c : CT) : Expr → Option It
  | .Call (.Name x _) rs [] _ => if x = "range" then (match globOf c x with
    | some .rng => cRs f rs
    | _ => none) else none
  | _ => none
def cIter (f : Expr → Option E) (c : CT) (e : Expr) : Option It := if noSet e = true then (match cRng f c e with
  | some i => some i
  | none => match f e with
    | some y => some (.of y)
    | none => none) else none
/-- list(range(..)) -/
def cLrg (f : Expr → Option E) (c : CT) (b : Bi) : List Expr → Option E
  | [a] => (match b with
    | .list => (match cRng f c a with
      | some (.rng1 x) => some (.lrg1 x)
      | some (.rng2 x y) => some (.lrg2 x y)
      | _ => none)
    | _ => none)
  | _ => none
def cCall (f : Expr → Option E) (c : CT) (x : Str) : List Expr → Option E
  | [] => none
  | a :: r => if c.hot = false then (match globOf c x with
    | some (.fn i) => (match cArgs f (a :: r) with
      | some es => some (.call i es)
      | none => none)
    | some (.bi b) => (match cLrg f c b (a :: r) with
      | some e => some e
      | none => match cArgs f (a :: r) with
        | some es => some (.bi b es)
        | none => none)
    | _ => none) else none
def cMeth (f : Expr → Option E) (o : Expr) (m : Str) (ap cp : Pos) (args : List Expr) : Option E := if (noSuper o && (ap.endLine == cp.line) && decide (args.length < 29)) = true then (match mtOf m, f o, cArgs f args with
  | some i, some x, some es => some (.mt i x es)
  | _, _, _ => none) else none
def cSub (f : Expr → Option E) (a : Expr) : Expr → Option E
  | .Slice lo hi none _ => (match f a, cPart f lo, cPart f hi with
    | some x, some l, some h => some (.sl x l h)
    | _, _, _ => none)
  | .Slice lo hi (some (.UnaryOp .USub (.Constant (.int 1) _ _) _)) _ => (match f a, litO lo, litO hi with
    | some x, some l, some h => some (.rv x l h)
    | _, _, _ => none)
  | s => if noSlice s = true then (match f a, f s with
    | some x, some y => some (.ix x y)
    | _, _ => none) else none
/-- a replace of written texts, or what f knows -/
def cRp (f : Expr → Option E) : Expr → Option E
  | .Call (.Attribute o m ap) [.Constant (.str y) _ _, .Constant (.str z) _ _] [] cp => if (decide (m = "replace") && noSuper o && (ap.endLine == cp.line) && fitR y.cps.toList z.cps.toList) = true then (match f o with
    | some x => some (.rpl x y.cps.toList z.cps.toList)
    | none => none) else none
  | e => f e
def cCmp (f : Expr → Option E) (a : Expr) : List CmpOp → List Expr → Option E
  | [o], [b] => if noSet b = true then (match f a, f b with
    | some x, some y => some (.cmp (copOf o) x y)
    | _, _ => none) else none
  | [o, p], [b, d] => if noSet d = true then (match f a, f b, f d with
    | some x, some y, some z => some (.chn (copOf o) (copOf p) x y z)
    | _, _, _ => none) else none
  | _, _ => none
def cUn (f : Expr → Option E) (a : Expr) : UnaryOp → Option E
  | .USub => (match f a with
    | some x => some (.neg x)
    | none => none)
  | .Not => (match f a with
    | some x => some (.no x)
    | none => none)
  | _ => none
def cFn (f : Expr → Option E) (c : CT) (cp : Pos) (args : List Expr) : Expr → Option E
  | .Name x _ => cCall f c x args
  | .Attribute o m ap => cMeth f o m ap cp args
  | _ => none
/-- the tests of a comprehension -/
def cIfs (f : Expr → Option E) : List Expr → Option Es
  | [] => some .nil
  | [t] => (match f t with
    | some y => some (.cons y .nil)
    | none => none)
  | _ => none
abbrev CT.sc (c : CT) : Scope := { kind := .function, names := c.names, isGenerator := false, isCoroutine := false }
def cLc (f g : Expr → Option E) (h : Expr → Option Tn) (c : CT) (elt tg it : Expr) (ifs : List Expr) (sc : Scope) (own : List (Str × Nat)) : Option E :=
  if (blkC c.N c.sc sc own && !c.hot) = true then (match h tg, cIter f c it, g elt, cIfs g ifs with
    | some t, some i, some y, some cs => if (slotsT t).all (fun j => decide (j ∈ own.map (·.2))) = true then some (.lc t i cs y (own.map (·.2))) else none
    | _, _, _, _ => none) else none
def cE : Nat → CT → Expr → Option E
  | 0, _, _ => none
  | n + 1, c, e => match e with
    | .Constant k _ _ => cConst k
    | .Name x _ => cName c x
    | .BinOp a o b _ => (match bopOf o, cE n c a, cE n c b with
      | some o', some x, some y => some (.bin o' x y)
      | _, _, _ => none)
    | .UnaryOp o a _ => cUn (cE n c) a o
    | .BoolOp o vs _ => cBool (cE n c) o vs
    | .Compare a os bs _ => cCmp (cE n c) a os bs
    | .IfExp t a b _ => (match cE n c t, cE n c a, cE n c b with
      | some z, some x, some y => some (.ife z x y)
      | _, _, _ => none)
    | .Tuple es _ _ => (match cDisp (cE n c) es with
      | some xs => some (.tup xs)
      | none => none)
    | .List es _ => (match cDisp (cE n c) es with
      | some xs => some (.lst xs)
      | none => none)
    | .Subscript a s _ => cSub (cE n c) a s
    | .Call g args [] cp => cFn (cE n c) c cp args g
    | .ListComp elt [⟨tg, it, ifs, a⟩] sc _ => if a = 0 then (match ownOf c.N sc.names with
        | none => none
        | some own => cLc (cE n c) (cE n (c.blk sc)) (cTn n (c.blk sc)) c elt tg it ifs sc own) else none
    | _ => none
end Mi

set_option Elab.async false
set_option linter.all false
set_option maxRecDepth 100000
set_option maxHeartbeats 4000000
/-! MiG: what is translated does the same -/
namespace Mi
open PySem PySem.Spec PyProof.Rows L2

def SndE (F : Nat → List D → Mem → Out D) (c : CT) (e : Expr) (i : E) : Prop := ∀ X W, OkC F c X W → PE X e (tM X.K W (evE F i)) ∧ PT X e (tMb X.K W fun env S => truO (evE F i env S))
def SndA (F : Nat → List D → Mem → Out D) (c : CT) (es : List Expr) (i : Es) : Prop := ∀ X W, OkC F c X W → PA X es (tMs X.K W (evEs F i))
section
variable {F : Nat → List D → Mem → Out D} {c : CT} {e a b d : Expr} {i x y z : E} {pos : Pos} {X : Cx} {W : WX}
/-- a form whose test is its value's truth -/
theorem snd_plain (he : ∀ env whole, isTrue e env whole = (do let v ← whole; standAt e.pos; holding [v] (truthy v))) (h : ∀ X W, OkC F c X W → PE X e (tM X.K W (evE F i))) : SndE F c e i := fun X W o =>
  ⟨h X W o, m_tru (pt_truth (h X W o) (he _))⟩

/-! ### names -/
theorem ba3 {a b : Bool} (h : (a || b) = false) : a = false ∧ b = false := Bool.or_eq_false_iff.mp h
theorem dbg_ok {x : Str} (h : isDbg x ≠ true) : (x == ("__debug__" : Str)) = false ∧ (x == ("__classdict__" : Str)) = false ∧ x ≠ "__name__" := by
  have h' : isDbg x = false := by simpa using h
  unfold isDbg at h'
  obtain ⟨h1, h3⟩ := ba3 h'
  obtain ⟨h1, h2⟩ := ba3 h1
  have e1 : x ≠ "__debug__" := of_decide_eq_false h1
  have e2 : x ≠ "__classdict__" := of_decide_eq_false h2
  have e3 : x ≠ "__name__" := of_decide_eq_false h3
  exact ⟨by simpa using e1, by simpa using e2, e3⟩
theorem slot_ok {x : Str} {j : Nat} (o : OkC F c X W) (h : slotOf c x = some j) : X.N[j]? = some x ∧ Vis X.env.scope x ∧ isDbg x ≠ true := by
  unfold slotOf at h
  split at h
  · cases h
  · rename_i hd
    have fin : ixOf x c.N 0 = some j → X.N[j]? = some x := fun q => by
      obtain ⟨k, e1, e2⟩ := ixOf_ok q
      rw [o.N, e1, Nat.zero_add]
      exact e2
    split at h
    · rename_i q; exact ⟨fin h, .inl (by rw [o.names]; exact q), hd⟩
    · rename_i q; exact ⟨fin h, .inr (.inl (by rw [o.names]; exact q)), hd⟩
    · rename_i q; exact ⟨fin h, .inr (.inr (by rw [o.names]; exact q)), hd⟩
    · cases h
theorem store_ok' {x : Str} {j : Nat} (o : OkC F c X W) (h : storeOf c x = some j) : X.N[j]? = some x ∧ Loc X.env.scope x ∧ (X.fn x = true ∨ X.env.scope.names.lookup x = some .local) := by
  unfold storeOf at h
  split at h
  · cases h
  · have fin : ixOf x c.N 0 = some j → X.N[j]? = some x := fun q => by
      obtain ⟨k, e1, e2⟩ := ixOf_ok q
      rw [o.N, e1, Nat.zero_add]
      exact e2
    split at h
    · rename_i q; exact ⟨fin h, .inl (by rw [o.names]; exact q), .inr (by rw [o.names]; exact q)⟩
    · rename_i q
      split at h
      · rename_i hc
        exact ⟨fin h, .inr (by rw [o.names]; exact q), .inl (o.fnx hc x)⟩
      · cases h
    · cases h
theorem glob_ok {x : Str} {g : G} (o : OkC F c X W) (h : globOf c x = some g) : Gl X x ∧ c.gl.lookup x = some g ∧ isDbg x ≠ true := by
  unfold globOf at h
  split at h
  · cases h
  · rename_i hd
    split at h
    · rename_i q
      exact ⟨by show X.env.scope.names.lookup x = _; rw [o.names]; exact q, h, hd⟩
    · cases h
theorem Bi.ty_boot {b : Bi} {n : String} (h : b.ty = some n) : bootBuiltins b.nm = some (.type n) ∧ b.nm ≠ "__name__" := by
  cases b <;> first | (cases h; done) | (cases h; exact ⟨by decide +kernel, by decide⟩)
theorem snd_name {x : Str} (h : cName c x = some i) : SndE F c (.Name x pos) i := by
  refine snd_plain (fun _ _ => rfl) fun X W o => ?_
  unfold cName at h
  split at h
  · rename_i k hk
    cases h
    obtain ⟨h1, h2, h3⟩ := slot_ok o hk
    obtain ⟨d1, d2, _⟩ := dbg_ok h3
    exact m_v (pe_var h1 h2 d1 d2)
  · split at h
    · rename_i d hg
      cases h
      obtain ⟨h1, h2, h3⟩ := glob_ok o hg
      obtain ⟨d1, _, _⟩ := dbg_ok h3
      obtain ⟨u, v, g1, g2, g3⟩ := o.con x d h2
      exact m_c (pe_glob h1 g1 g2 d1) g3
    · rename_i n hg
      cases h
      obtain ⟨h1, h2, h3⟩ := glob_ok o hg
      obtain ⟨d1, _, _⟩ := dbg_ok h3
      obtain ⟨g1, g2, g3⟩ := o.ty x n h2
      exact m_c (pe_bltn (v := .ty n) h1 g1 g2 rfl g3 d1) fun _ _ => .ty n
    · rename_i b' hg
      split at h
      · rename_i n hn
        cases h
        obtain ⟨h1, h2, h3⟩ := glob_ok o hg
        obtain ⟨d1, _, d3⟩ := dbg_ok h3
        obtain ⟨g1, g2⟩ := o.bi x _ h2
        subst g2
        exact m_c (pe_bltn (v := .ty n) h1 g1 (Bi.ty_boot hn).1 rfl d3 d1) fun _ _ => .ty n
      · cases h
    · cases h
theorem snd_const {k : Const} {j : Nat} (h : cConst k = some i) : SndE F c (.Constant k j pos) i := by
  refine snd_plain (fun _ _ => rfl) fun X W o => ?_
  cases k <;> first | (cases h; done) | skip
  · cases h; exact m_c pe_non fun _ _ => .non
  · cases h; exact m_c pe_bl fun _ _ => .bl _
  · cases h; exact m_c pe_int fun _ _ => .int _
  · rename_i s
    cases h
    exact m_c pe_str fun _ _ => (RelD.str s.cps.toList)

/-! ### operators -/
theorem bop_ok' {X : Cx} {o' : Operator} {o : Bop} (ho : bopOf o' = some o) : OpR X (binaryOp o') (rU2 X.K o.f) := by
  cases o' with
  | Add => cases ho; exact up_add
  | Sub => cases ho; exact up_sub
  | Mult => cases ho; exact up_mul
  | FloorDiv => cases ho; exact up_div
  | Mod => cases ho; exact up_mod
  | Pow => cases ho; exact up_pow
  | _ => cases ho
theorem snd_bin {o' : Operator} {o : Bop} (ho : bopOf o' = some o) (ha : SndE F c a x) (hb : SndE F c b y) : SndE F c (.BinOp a o' b pos) (.bin o x y) := by
  exact snd_plain (fun _ _ => rfl) fun X W k => m_2 (pe_op (bop_ok' ho) (ha X W k).1 (hb X W k).1)
theorem snd_neg (ha : SndE F c a x) : SndE F c (.UnaryOp .USub a pos) (.neg x) :=
  snd_plain (fun _ _ => rfl) fun X W k => m_1 (pe_un up_neg (ha X W k).1)
theorem snd_no (ha : SndE F c a x) : SndE F c (.UnaryOp .Not a pos) (.no x) := fun X W k =>
  ⟨m_no (pe_notT (ha X W k).1), by
    show PT X _ (tMb X.K W fun env S => truO ((truO (evE F x env S)).bind fun b S1 => .ok (.bl (!b)) S1))
    rw [tru_no (evE F x)]
    exact t_no (pt_not (ha X W k).2)⟩
theorem snd_and1 (ha : SndE F c a x) {rs : List Expr} (hb : SndE F c (.BoolOp .And (b :: rs) pos) y) (hw : ∀ X W, OkC F c X W → PW X (.BoolOp .And (b :: rs) pos) (tMb X.K W fun env S => truO (evE F y env S))) :
    SndE F c (.BoolOp .And (a :: b :: rs) pos) (.and x y) ∧ ∀ X W, OkC F c X W → PW X (.BoolOp .And (a :: b :: rs) pos) (tMb X.K W fun env S => truO (evE F (.and x y) env S)) := by
  have w : ∀ X W, OkC F c X W → PW X (.BoolOp .And (a :: b :: rs) pos) (tMb X.K W fun env S => truO (evE F (.and x y) env S)) := fun X W k => by
    exact (congrArg (fun m => PW X (.BoolOp .And (a :: b :: rs) pos) (tMb X.K W m)) (tru_and (evE F x) (evE F y))).mpr (w_and (pw_and (ha X W k).2 (hw X W k)))
  exact ⟨fun X W k => ⟨m_and (pe_andT (ha X W k).1 (hb X W k).1), (w X W k).pt⟩, w⟩
theorem snd_or1 (ha : SndE F c a x) {rs : List Expr} (hb : SndE F c (.BoolOp .Or (b :: rs) pos) y) (hw : ∀ X W, OkC F c X W → PW X (.BoolOp .Or (b :: rs) pos) (tMb X.K W fun env S => truO (evE F y env S))) :
    SndE F c (.BoolOp .Or (a :: b :: rs) pos) (.or x y) ∧ ∀ X W, OkC F c X W → PW X (.BoolOp .Or (a :: b :: rs) pos) (tMb X.K W fun env S => truO (evE F (.or x y) env S)) := by
  have w : ∀ X W, OkC F c X W → PW X (.BoolOp .Or (a :: b :: rs) pos) (tMb X.K W fun env S => truO (evE F (.or x y) env S)) := fun X W k => by
    exact (congrArg (fun m => PW X (.BoolOp .Or (a :: b :: rs) pos) (tMb X.K W m)) (tru_or (evE F x) (evE F y))).mpr (w_or (pw_or (ha X W k).2 (hw X W k)))
  exact ⟨fun X W k => ⟨m_or (pe_orT (ha X W k).1 (hb X W k).1), (w X W k).pt⟩, w⟩
theorem snd_bool {f : Expr → Option E} (hf : ∀ e i, f e = some i → SndE F c e i) (o : BoolOp) : ∀ (vs : List Expr) (i : E), cBool f o vs = some i → SndE F c (.BoolOp o vs pos) i ∧ ∀ X W, OkC F c X W → PW X (.BoolOp o vs pos) (tMb X.K W fun env S => truO (evE F i env S))
  | [], i, h => by cases h
  | [e], i, h => by
    have he := hf e i h
    cases o with
    | And => exact ⟨fun X W k => ⟨pe_one (he X W k).1, (pw_and1 (he X W k).2).pt⟩, fun X W k => pw_and1 (he X W k).2⟩
    | Or => exact ⟨fun X W k => ⟨pe_one (he X W k).1, (pw_or1 (he X W k).2).pt⟩, fun X W k => pw_or1 (he X W k).2⟩
  | e :: e2 :: r, i, h => by
    unfold cBool at h
    split at h
    · rename_i x y h1 h2
      obtain ⟨g1, g2⟩ := snd_bool hf o (e2 :: r) y h2
      cases h
      cases o with
      | And => exact snd_and1 (hf e x h1) g1 g2
      | Or => exact snd_or1 (hf e x h1) g1 g2
    · cases h
theorem pt_ifExp {ta tb tc : TT} (hc : PT X e tc) (ha : PT X a ta) (hb : PT X b tb) : PT X (.IfExp e a b pos) (fun σ H Q => tc σ H fun k H1 => if k = true then ta σ H1 Q else tb σ H1 Q) := by
  refine ⟨fun pins s σ H Q I h => ?_⟩
  show wpAny (model X.prog X.w) X.A (do if ← isTrue e X.env (eval e X.env) then isTrue a X.env (eval a X.env) else isTrue b X.env (eval b X.env)) (TP X pins σ Q) X.xe s
  refine wpAny_bind (thn (hc.run pins s σ H _ I h) fun k s1 ⟨H1, I1, q1⟩ => ?_)
  cases k with
  | true => exact ha.run pins s1 σ H1 Q I1 q1
  | false => exact hb.run pins s1 σ H1 Q I1 q1
theorem tru_ife (mt : Env → Mem → Out Bool) (ma mb : Env → Mem → Out D) : (fun (e : Env) (S : Mem) => truO ((mt e S).bind fun t S1 => match t with
    | true => ma e S1
    | false => mb e S1)) = fun e S => (mt e S).bind fun t S1 => match t with
    | true => truO (ma e S1)
    | false => truO (mb e S1) := by
  funext e S
  cases mt e S with
  | bad => rfl
  | exc x S1 => rfl
  | ok t S1 => cases t <;> rfl
theorem snd_ife (hd : SndE F c d z) (ha : SndE F c a x) (hb : SndE F c b y) : SndE F c (.IfExp d a b pos) (.ife z x y) := fun X W k =>
  ⟨m_ife (pe_ifExp (hd X W k).2 (ha X W k).1 (hb X W k).1), by
    show PT X _ (tMb X.K W fun env S => truO ((truO (evE F z env S)).bind fun t S1 => match t with
      | true => evE F x env S1
      | false => evE F y env S1))
    rw [tru_ife (fun env S => truO (evE F z env S)) (evE F x) (evE F y)]
    exact PTimp (pt_ifExp (hd X W k).2 (ha X W k).2 (hb X W k).2) fun σ H Q q => tX.bind (f := fun t e S1 => match t with
      | true => truO (evE F x e S1)
      | false => truO (evE F y e S1)) q fun t b ω S env H1 hS hE rb p => by
      cases rb
      cases t with
      | true => exact iteT ⟨ω, S, env, hS, hE, p⟩
      | false => exact iteF ⟨ω, S, env, hS, hE, p⟩⟩
theorem cop_ok' (hu : X.A.units + 64 < cLine) (o : CmpOp) : OpR X (compareOp o) (rU2 X.K (copOf o).f) := by
  have h := cop_ok hu (copOf o)
  cases o <;> exact h
theorem noSet_ok (o : CmpOp) (h : noSet b = true) : behindInMarks o b = false := by
  cases b <;> first | rfl | cases h
theorem snd_cmp {o : CmpOp} (hs : noSet b = true) (ha : SndE F c a x) (hb : SndE F c b y) : SndE F c (.Compare a [o] [b] pos) (.cmp (copOf o) x y) := fun X W k =>
  ⟨m_2 (pe_cmpR (cop_ok' k.hu o) (ha X W k).1 (hb X W k).1 (noSet_ok o hs)), t_cmp (cop_bl _) (pt_cmpR (cop_ok' k.hu o) (ha X W k).1 (hb X W k).1 (noSet_ok o hs))⟩
/-- what gives a bool alone, as a test -/
theorem tM_bl {m : Env → Mem → Out D} (hm : ∀ env S d S', m env S = .ok d S' → ∃ k, d = .bl k) {σ : L2.St} {H : Hp} {Q : Bool → Hp → Prop} (h : tMb X.K W (fun e S => truO (m e S)) σ H Q) : tM X.K W m σ H fun x H1 => ∃ k, x = .bl k ∧ Q k H1 := by
  obtain ⟨ω, S, env, hS, hE, q⟩ := h
  refine ⟨ω, S, env, hS, hE, ?_⟩
  dsimp only at q
  cases e1 : m env S with
  | bad => rw [e1] at q; exact q.elim
  | exc x S1 => rw [e1] at q; exact q
  | ok d S1 =>
    obtain ⟨k, rfl⟩ := hm env S d S1 e1
    rw [e1] at q
    intro ω1 H1 v L s r
    cases r
    exact ⟨k, rfl, q ω1 H1 k L s rfl⟩
theorem chn_bl (o p : Cop) : ∀ env S d S', evE F (.chn o p x y z) env S = .ok d S' → ∃ k, d = .bl k := by
  intro env S d S' h
  have h' : ((evE F x env S).bind fun x S1 => (evE F y env S1).bind fun y S2 => (lift (o.f x y S2)).bind fun w S3 => match w with
    | .bl true => (evE F z env S3).bind fun w S4 => lift (p.f y w S4)
    | .bl false => .ok (.bl false) S3
    | _ => .bad) = .ok d S' := h
  cases e1 : evE F x env S with
  | bad => rw [e1] at h'; cases h'
  | exc _ _ => rw [e1] at h'; cases h'
  | ok vx S1 =>
    rw [e1] at h'
    dsimp only [Out.bind] at h'
    cases e2 : evE F y env S1 with
    | bad => rw [e2] at h'; cases h'
    | exc _ _ => rw [e2] at h'; cases h'
    | ok vy S2 =>
      rw [e2] at h'
      dsimp only [Out.bind] at h'
      cases e3 : o.f vx vy S2 with
      | none => rw [e3] at h'; cases h'
      | some w =>
        obtain ⟨dw, S3⟩ := w
        rw [e3] at h'
        dsimp only [Out.bind, lift] at h'
        split at h'
        · cases e4 : evE F z env S3 with
          | bad => rw [e4] at h'; cases h'
          | exc _ _ => rw [e4] at h'; cases h'
          | ok vz S4 =>
            rw [e4] at h'
            dsimp only [Out.bind] at h'
            cases e5 : p.f vy vz S4 with
            | none => rw [e5] at h'; cases h'
            | some w' =>
              obtain ⟨dv, S5⟩ := w'
              rw [e5] at h'
              cases h'
              exact cop_bl p vy vz S4 _ _ e5
        · cases h'; exact ⟨false, rfl⟩
        · cases h'
theorem marks_ok {o p : CmpOp} (h : noSet d = true) : lastMarks [o, p] [b, d] = false := by
  show behindInMarks p d = false
  exact noSet_ok p h
theorem snd_chn {o p : CmpOp} (hs : noSet d = true) (ha : SndE F c a x) (hb : SndE F c b y) (hd : SndE F c d z) : SndE F c (.Compare a [o, p] [b, d] pos) (.chn (copOf o) (copOf p) x y z) := fun X W k => by
  have h1 := (ha X W k).1
  have h2 := (hb X W k).1
  have h3 := (hd X W k).1
  have hm := m_chn (W := W) (e := .Compare a [o, p] [b, d] pos) (ma := evE F x) (mb := evE F y) (mc := evE F z) (cop_ok' k.hu o) (cop_ok' k.hu p) (cop_bl _) (pe_chain (cop_ok' k.hu o) (cop_ok' k.hu p) h1 h2 h3 (marks_ok hs))
  refine ⟨hm, PTimp (pt_chain (cop_ok' k.hu o) (cop_ok' k.hu p) h1 h2 h3 (marks_ok hs)) fun σ H Q q => ?_⟩
  have q2 := tM_bl (X := X) (W := W) (chn_bl (copOf o) (copOf p)) q
  show tM X.K W (evE F x) σ H (fun vx H1 => tM X.K W (evE F y) σ H1 fun vy H2 => rU2 X.K (copOf o).f vx vy H2 fun vz H3 => ∃ k, vz = V.bl k ∧ if k = true then tM X.K W (evE F z) σ H3 fun vw H4 => rU2 X.K (copOf p).f vy vw H4 (fun x H1 => ∃ k, x = V.bl k ∧ Q k H1) else (fun x H1 => ∃ k, x = V.bl k ∧ Q k H1) (V.bl false) H3)
  exact chn_read (cop_bl _) q2

/-! ### lists of arguments -/
theorem star_ok {es : List Expr} (h : noStar e = true) (env : PySem.Env) : starEach (e :: es) env = (false, eval e env) :: starEach es env := by
  cases e <;> first | rfl | cases h
theorem snd_args {f : Expr → Option E} (hf : ∀ e i, f e = some i → SndE F c e i) : ∀ (es : List Expr) (i : Es), cArgs f es = some i → SndA F c es i
  | [], i, h => by cases h; exact fun X W k => a_nil
  | e :: r, i, h => by
    unfold cArgs at h
    split at h
    · rename_i hs
      split at h
      · rename_i x xs h1 h2
        cases h
        exact fun X W k => a_cons (hf e x h1 X W k).1 (snd_args hf r xs h2 X W k) (star_ok hs X.env)
      · cases h
    · cases h
theorem snd_disp {f : Expr → Option E} (hf : ∀ e i, f e = some i → SndE F c e i) : ∀ (es : List Expr) (i : Es), cDisp f es = some i → SndA F c es i
  | [], i, h => by cases h; exact fun X W k => a_nil
  | e :: r, i, h => by
    have rest := snd_disp hf r
    by_cases hs : noStar e = true
    · have h' : (match f e, cDisp f r with
        | some x, some xs => some (Es.cons x xs)
        | _, _ => none) = some i := by
        cases e <;> first | exact h | cases hs
      split at h'
      · rename_i x xs h1 h2
        cases h'
        exact fun X W k => a_cons (hf e x h1 X W k).1 (rest xs h2 X W k) (star_ok hs X.env)
      · cases h'
    · cases e <;> first | exact absurd rfl hs | skip
      rename_i e p
      have h' : (match f e, cDisp f r with
        | some x, some xs => some (Es.star x xs)
        | _, _ => none) = some i := h
      split at h'
      · rename_i x xs h1 h2
        cases h'
        exact fun X W k => a_star (hf e x h1 X W k).1 (rest xs h2 X W k) rfl
      · cases h'
theorem args_plain {f : Expr → Option E} (env : PySem.Env) (p : Pos) : ∀ (es : List Expr) (i : Es), cArgs f es = some i → (backTo p (starEach es env)).any (·.1) = false ∧ (backTo p (starEach es env)).all (fun x => !x.1) = true
  | [], i, h => ⟨rfl, rfl⟩
  | e :: r, i, h => by
    unfold cArgs at h
    split at h
    · rename_i hs
      split at h
      · rename_i x xs h1 h2
        rw [star_ok hs env]
        exact args_plain env p r xs h2
      · cases h
    · cases h
theorem args_head {f : Expr → Option E} {es : List Expr} {i : Es} (h : cArgs f (e :: es) = some i) : noStar e = true ∧ ∃ x xs, i = .cons x xs ∧ f e = some x ∧ cArgs f es = some xs := by
  unfold cArgs at h
  split at h
  · rename_i hs
    split at h
    · rename_i x xs h1 h2
      cases h
      exact ⟨hs, x, xs, rfl, h1, h2⟩
    · cases h
  · cases h
theorem slice_ok {s : Expr} (h : noSlice s = true) : PlainIx s := by
  intro o i
  cases s <;> first | rfl | cases h
theorem snd_part {f : Expr → Option E} (hf : ∀ e i, f e = some i → SndE F c e i) {o : Option Expr} {i : Es} (h : cPart f o = some i) : ∀ X W, OkC F c X W → PO X o (tMo X.K W (evO F i)) := fun X W k => by
  cases o with
  | none => cases h; exact o_none
  | some e =>
    unfold cPart at h
    dsimp only at h
    split at h
    · rename_i x h1
      cases h
      exact o_some (hf e x h1 X W k).1
    · cases h
theorem snd_sub {f : Expr → Option E} (hf : ∀ e i, f e = some i → SndE F c e i) {s : Expr} (h : cSub f a s = some i) : SndE F c (.Subscript a s pos) i := by
  refine snd_plain (fun _ _ => rfl) fun X W k => ?_
  unfold cSub at h
  split at h
  · split at h
    · rename_i x l u h1 h2 h3
      cases h
      exact m_sl (hf a x h1 X W k).1 (snd_part hf h2 X W k) (snd_part hf h3 X W k)
    · cases h
  · split at h
    · rename_i x l u h1 h2 h3
      cases h
      exact pe_rv (hf a x h1 X W k).1 h2 h3
    · cases h
  · split at h
    · rename_i hs
      split at h
      · rename_i x y h1 h2
        cases h
        exact m_2 (pe_ix up_ix (hf a x h1 X W k).1 (hf _ y h2 X W k).1 (slice_ok hs))
      · cases h
    · cases h
/-! ### ranges -/
theorem snd_rs {f : Expr → Option E} (hf : ∀ e i, f e = some i → SndE F c e i) {rs : List Expr} {r : It} (h : cRs f rs = some r) :
    (∃ a y, rs = [a] ∧ r = .rng1 y ∧ noStar a = true ∧ SndE F c a y) ∨ (∃ a b y z, rs = [a, b] ∧ r = .rng2 y z ∧ noStar a = true ∧ noStar b = true ∧ SndE F c a y ∧ SndE F c b z) ∨
      ∃ a b d y z w, rs = [a, b, d] ∧ r = .rng3 y z w ∧ noStar a = true ∧ noStar b = true ∧ noStar d = true ∧ SndE F c a y ∧ SndE F c b z ∧ SndE F c d w := by
  unfold cRs at h
  split at h
  · split at h
    · rename_i hs
      split at h
      · rename_i y h1
        cases h
        exact .inl ⟨_, y, rfl, rfl, hs, hf _ y h1⟩
      · cases h
    · cases h
  · split at h
    · rename_i hs
      split at h
      · rename_i y z h1 h2
        cases h
        obtain ⟨s1, s2⟩ := Bool.and_eq_true_iff.mp hs
        exact .inr (.inl ⟨_, _, y, z, rfl, rfl, s1, s2, hf _ y h1, hf _ z h2⟩)
      · cases h
    · cases h
  · split at h
    · rename_i hs
      split at h
      · rename_i y z w h1 h2 h3
        cases h
        obtain ⟨hs, s3⟩ := Bool.and_eq_true_iff.mp hs
        obtain ⟨s1, s2⟩ := Bool.and_eq_true_iff.mp hs
        exact .inr (.inr ⟨_, _, _, y, z, w, rfl, rfl, s1, s2, s3, hf _ y h1, hf _ z h2, hf _ w h3⟩)
      · cases h
    · cases h
  · cases h
theorem snd_rng {f : Expr → Option E} {r : It} (h : cRng f c e = some r) :
    ∃ p rs q, e = .Call (.Name "range" p) rs [] q ∧ cRs f rs = some r ∧ ∀ F X W, OkC F c X W → Gl X "range" ∧ X.mg "range" = none := by
  unfold cRng at h
  split at h
  · rename_i x p rs q
    split at h
    · rename_i hx
      subst hx
      split at h
      · rename_i hg
        refine ⟨p, rs, q, rfl, h, fun F X W k => ?_⟩
        obtain ⟨h1, h2, _⟩ := glob_ok k hg
        exact ⟨h1, (k.rng _ h2).1⟩
      · cases h
    · cases h
  · cases h
theorem star1 (h : noStar a = true) (env : PySem.Env) : starEach [a] env = [(false, eval a env)] := by rw [star_ok h]; rfl
theorem star2 (h : noStar a = true) (h' : noStar b = true) (env : PySem.Env) : starEach [a, b] env = [(false, eval a env), (false, eval b env)] := by rw [star_ok h, star1 h']
theorem plain1 {p : Pos} (h : noStar b = true) (env : PySem.Env) : (backTo p (starEach [b] env)).any (·.1) = false := by rw [star1 h]; rfl
theorem snd_iter {f : Expr → Option E} (hf : ∀ e i, f e = some i → SndE F c e i) {r : It} (h : cIter f c e = some r) : noSet e = true ∧ ∀ X W tg, OkC F c X W → PI X tg e (tMi X.K W (evI F r)) := by
  unfold cIter at h
  split at h
  · rename_i hs
    refine ⟨hs, fun X W tg k => ?_⟩
    split at h
    · rename_i r' hr
      cases h
      obtain ⟨p, rs, q, rfl, h1, h2⟩ := snd_rng hr
      obtain ⟨hg, hm⟩ := h2 F X W k
      rcases snd_rs hf h1 with ⟨a, y, rfl, rfl, n1, s1⟩ | ⟨a, b, y, z, rfl, rfl, n1, n2, s1, s2⟩ | ⟨a, b, d, y, z, w, rfl, rfl, n1, n2, n3, s1, s2, s3⟩
      · exact i_rng1 (pi_range1 hg hm (pa_cons (s1 X W k).1 pa_nil (star_ok n1 _)) (star1 n1 _))
      · exact i_rng2 (pi_range2 hg hm (pa_cons (s1 X W k).1 (pa_cons (s2 X W k).1 pa_nil (star_ok n2 _)) (star_ok n1 _)) (star2 n1 n2 _) (star1 n2 _))
      · exact i_rng3 (pi_range3 hg hm (pa_cons (s1 X W k).1 (pa_cons (s2 X W k).1 (pa_cons (s3 X W k).1 pa_nil (star_ok n3 _)) (star_ok n2 _)) (star_ok n1 _)) (star_ok n1 _) (by rw [star2 n2 n3]; rfl))
    · split at h
      · rename_i y h1
        cases h
        exact i_of (hf e y h1 X W k).1
      · cases h
  · cases h
/-! ### calls -/
theorem bi_call {X : Cx} {b : Bi} {p pos : Pos} {es : List Expr} {t : TA} (hc : X.calm = true) (hg : Gl X b.nm) (hm : X.mg b.nm = none) (ha : PA X (e :: es) t) (he : starEach (e :: es) X.env = (false, eval e X.env) :: starEach es X.env) (hpl : (backTo pos (starEach es X.env)).any (·.1) = false) :
    PE X (.Call (.Name b.nm p) (e :: es) [] pos) (tCB (rUs X.K b.f) t) := by
  cases b
  · exact pe_callB up_len hg hm (by decide +kernel) ha (by decide) (by decide) he hpl
  · exact pe_callB up_abs hg hm (by decide +kernel) ha (by decide) (by decide) he hpl
  · exact pe_callB (up_max hc) hg hm (by decide +kernel) ha (by decide) (by decide) he hpl
  · exact pe_callB (up_min hc) hg hm (by decide +kernel) ha (by decide) (by decide) he hpl
  · exact pe_callTy up_int hg hm (by decide +kernel) ha (by decide) (by decide) he hpl
  · exact pe_callTy up_list hg hm (by decide +kernel) ha (by decide) (by decide) he hpl
  · exact pe_callTy up_tuple hg hm (by decide +kernel) ha (by decide) (by decide) he hpl
  · exact pe_callB (up_sum hc) hg hm (by decide +kernel) ha (by decide) (by decide) he hpl
  · exact pe_callB (up_all hc) hg hm (by decide +kernel) ha (by decide) (by decide) he hpl
  · exact pe_callB (up_any hc) hg hm (by decide +kernel) ha (by decide) (by decide) he hpl
  · exact pe_callB up_sorted hg hm (by decide +kernel) ha (by decide) (by decide) he hpl
  · exact pe_callB up_isi hg hm (by decide +kernel) ha (by decide) (by decide) he hpl
theorem snd_lrg {f : Expr → Option E} (hf : ∀ e i, f e = some i → SndE F c e i) {bb : Bi} {es : List Expr} (hl : cLrg f c bb es = some i) {p pos : Pos} (X : Cx) (W : WX) (k : OkC F c X W) (hh : c.hot = false) (hg : Gl X bb.nm) (hm : X.mg bb.nm = none) : PE X (.Call (.Name bb.nm p) es [] pos) (tM X.K W (evE F i)) := by
  unfold cLrg at hl
  split at hl
  · split at hl
    · split at hl
      · rename_i x hr
        cases hl
        obtain ⟨p, rs, q, rfl, h1, h2⟩ := snd_rng hr
        obtain ⟨g2, m2⟩ := h2 F X W k
        rcases snd_rs hf h1 with ⟨a, y, rfl, e1, n1, s1⟩ | ⟨a, b, y, z, rfl, e1, n1, n2, s1, s2⟩ | ⟨a, b, d, y, z, w, rfl, e1, n1, n2, n3, s1, s2, s3⟩
        · cases e1
          exact m_lrg1 (pe_listRg (k.calm hh) hg hm (prg_1 g2 m2 (s1 X W k).1 (star_ok n1 _)) rfl)
        · cases e1
        · cases e1
      · rename_i x y hr
        cases hl
        obtain ⟨p, rs, q, rfl, h1, h2⟩ := snd_rng hr
        obtain ⟨g2, m2⟩ := h2 F X W k
        rcases snd_rs hf h1 with ⟨a, y, rfl, e1, n1, s1⟩ | ⟨a, b, y, z, rfl, e1, n1, n2, s1, s2⟩ | ⟨a, b, d, y, z, w, rfl, e1, n1, n2, n3, s1, s2, s3⟩
        · cases e1
        · cases e1
          exact m_lrg2 (pe_listRg (k.calm hh) hg hm (prg_2 g2 m2 (s1 X W k).1 (s2 X W k).1 (star_ok n1 _) (star_ok n2 _) (plain1 n2 _)) rfl)
        · cases e1
      · cases hl
    · cases hl
  · cases hl
theorem snd_call {f : Expr → Option E} (hf : ∀ e i, f e = some i → SndE F c e i) {x : Str} {p : Pos} {es : List Expr} (h : cCall f c x es = some i) : SndE F c (.Call (.Name x p) es [] pos) i := by
  refine snd_plain (fun _ _ => rfl) fun X W k => ?_
  unfold cCall at h
  split at h
  · cases h
  · rename_i e r
    split at h
    · rename_i hh
      split at h
      · rename_i j hg
        split at h
        · rename_i xs h1
          cases h
          obtain ⟨g1, g2, g3⟩ := glob_ok k hg
          obtain ⟨d1, d2, d3⟩ := dbg_ok g3
          obtain ⟨lv, n, fa, fd, ps, hF, hn, hr, hm, hk, hb⟩ := k.fn hh x j g2
          obtain ⟨n1, y, ys, _, _, h2⟩ := args_head h1
          exact m_call hF hn hr g1 hm hk hb k.tk (snd_args hf _ _ h1 X W k) d1 (star_ok n1 _) (args_plain _ _ _ _ h2).1
        · cases h
      · rename_i b' hg
        obtain ⟨g1, g2, g3⟩ := glob_ok k hg
        obtain ⟨hm, hx⟩ := k.bi x b' g2
        subst hx
        split at h
        · rename_i z hl
          cases h
          exact snd_lrg hf hl X W k hh g1 hm
        · split at h
          · rename_i xs h1
            cases h
            obtain ⟨n1, y, ys, _, _, h2⟩ := args_head h1
            exact m_bi (bi_call (k.calm hh) g1 hm (snd_args hf _ _ h1 X W k) (star_ok n1 _) (args_plain _ _ _ _ h2).1)
          · cases h
      · cases h
    · cases h
theorem super_ok {o : Expr} (h : noSuper o = true) (m : Str) (env : PySem.Env) (w : Sem Value) : attributeBase o m env w = w := by
  cases o with
  | Call g es ks q =>
    cases g with
    | Name x p =>
      cases es with
      | nil =>
        cases ks with
        | nil => cases h
        | cons _ _ => rfl
      | cons _ _ => rfl
    | _ => rfl
  | _ => rfl
theorem snd_meth {f : Expr → Option E} (hf : ∀ e i, f e = some i → SndE F c e i) {o : Expr} {m : Str} {ap : Pos} {es : List Expr} (h : cMeth f o m ap pos es = some i) : SndE F c (.Call (.Attribute o m ap) es [] pos) i := by
  refine snd_plain (fun _ _ => rfl) fun X W k => ?_
  unfold cMeth at h
  split at h
  · rename_i hc
    obtain ⟨hc, n3⟩ := Bool.and_eq_true_iff.mp hc
    obtain ⟨n1, n2⟩ := Bool.and_eq_true_iff.mp hc
    have n3' := of_decide_eq_true n3
    split at h
    · rename_i i' x xs h1 h2 h3
      cases h
      have e := mtOf_ok h1
      subst e
      cases es with
      | nil =>
        cases h3
        exact m_mt0 (pe_bmU0 (hf o x h2 X W k).1 (super_ok n1 _ _ _) n2)
      | cons e r =>
        obtain ⟨s1, y, ys, _, _, h4⟩ := args_head h3
        refine m_mt (pe_bmU (hf o x h2 X W k).1 (snd_args hf _ _ h3 X W k) (super_ok n1 _ _ _) ?_ n2 (star_ok s1 _) (args_plain _ _ _ _ h4).1)
        rw [(args_plain _ _ _ _ h3).2]
        show (true && true && decide ((e :: r).length + 0 + 0 < 30)) = true
        rw [Bool.and_self, Bool.true_and]
        exact decide_eq_true (by omega)
    · cases h
  · cases h
end
end Mi

set_option Elab.async false
set_option linter.all false
set_option maxRecDepth 100000
set_option maxHeartbeats 4000000
/-! MiG2: targets, comprehensions, every expression -/
namespace Mi
open PySem PySem.Spec PyProof.Rows L2
section
variable {F : Nat → List D → Mem → Out D} {c : CT}
def SndTn (F : Nat → List D → Mem → Out D) (c : CT) (e : Expr) (t : Tn) : Prop := ∀ X W, OkC F c X W → PG X e (tGn X.K t)
def SndTns (F : Nat → List D → Mem → Out D) (c : CT) (es : List Expr) (ts : Tns) : Prop := ∀ X W, OkC F c X W → PGs X es (tGns X.K ts) ∧ (assignEach es X.env).length = ts.len ∧ (assignEach es X.env).findIdx? (·.1) = none
theorem aE_ok {e : Expr} {es : List Expr} (h : noStar e = true) (env : PySem.Env) : assignEach (e :: es) env = (false, assign e env) :: assignEach es env := by
  cases e <;> first | rfl | cases h
mutual
theorem tn_ok : ∀ (n : Nat) (e : Expr) (t : Tn), cTn n c e = some t → SndTn F c e t
  | 0, _, _, h => by cases h
  | n + 1, e, t, h => fun X W k => by
    unfold cTn at h
    split at h
    · rename_i x p
      split at h
      · rename_i i hi
        cases h
        obtain ⟨h1, h2, h3⟩ := store_ok' k hi
        exact g_nm (pg_name k.nd h1 h2 h3)
      · cases h
    · rename_i es k' p
      split at h
      · rename_i hh
        split at h
        · rename_i ts hts
          cases h
          obtain ⟨h1, h2, h3⟩ := tns_ok n es ts hts X W k
          exact g_tup (k.calm hh) h1 h2 h3
        · cases h
      · cases h
    · cases h
theorem tns_ok : ∀ (n : Nat) (es : List Expr) (ts : Tns), cTns n c es = some ts → SndTns F c es ts
  | 0, _, _, h => by cases h
  | n + 1, es, ts, h => fun X W k => by
    unfold cTns at h
    split at h
    · cases h; exact ⟨g_nil, rfl, rfl⟩
    · rename_i e r
      split at h
      · rename_i hs
        split at h
        · rename_i t ts' h1 h2
          cases h
          obtain ⟨g1, g2, g3⟩ := tns_ok n r ts' h2 X W k
          refine ⟨g_cons (tn_ok n e t h1 X W k) g1 (by rw [aE_ok hs]; rfl), by rw [aE_ok hs]; show (assignEach r X.env).length + 1 = _; rw [g2]; rfl, ?_⟩
          rw [aE_ok hs, List.findIdx?_cons]
          simp [g3]
        · cases h
      · cases h
end
theorem blkC_names {N : List Str} {s1 s2 sc : Scope} {own : List (Str × Nat)} (h : s1.names = s2.names) : blkC N s1 sc own = blkC N s2 sc own := by
  unfold blkC
  rw [h]
theorem relS_names {X : Cx} {W : WX} (k : OkC F c X W) (sc : Scope) : (relabel sc X.env).names = (relS sc c.sc).names := by
  show sc.names.map (fun (y : Str × NameKind) => if (y.2 == NameKind.free && X.env.scope.kind == ScopeKind.function && X.env.scope.names.lookup y.1 == some NameKind.cell) = true then (y.1, NameKind.cell) else (y.1, y.2)) = _
  rw [k.kind, k.names]
  rfl
theorem ok_blk {X : Cx} {W : WX} {sc : Scope} (k : OkC F c X W) (hk : sc.kind = .function) (s : Shared) (H : Hp) (C : Addr) (cl : List (Str × Addr)) (fp : List Addr) : OkC F (c.blk sc) (X.blk s H sc (compEnvC sc cl C X.env) fp) WF where
  names := relS_names k sc
  kind := hk
  N := k.N
  nd := k.nd
  calm := k.calm
  hu := k.hu
  con := k.con
  fn := k.fn
  bi := k.bi
  ty := k.ty
  rng := k.rng
  exc := k.exc
  exm := k.exm
  tk := fun _ _ x => by
    obtain ⟨_, _, _, _, _, _, _, _, _, _, _, _, _, _, _, _, z⟩ := x
    exact z.elim
  hp := fun h => by cases h
  fnx := fun h => by cases h
  stk := fun h => by cases h
theorem snd_ifs {f : Expr → Option E} (hf : ∀ e i, f e = some i → SndE F c e i) {ifs : List Expr} {cs : Es} (h : cIfs f ifs = some cs) : ∀ X W, OkC F c X W → PTs X ifs (tMb X.K W (evT F cs)) := fun X W k => by
  unfold cIfs at h
  split at h
  · cases h
    exact ⟨fun pins s σ H Q I ⟨ω, S, env, hS, hE, q⟩ => pts_nil.run pins s σ H Q I (q ω H true (.refl _ _) hS rfl)⟩
  · split at h
    · rename_i y h1
      cases h
      exact pts_one (hf _ y h1 X W k).2
    · cases h
  · cases h
theorem set_ok {e : Expr} (h : noSet e = true) (env : PySem.Env) : ∀ x, foldedSetIterable e env x = pure x := fun x => by
  cases e <;> first | rfl | cases h
theorem snd_lc {f g : Expr → Option E} {q : Expr → Option Tn} {sc : Scope} (hf : ∀ e i, f e = some i → SndE F c e i) (hg : ∀ e i, g e = some i → SndE F (c.blk sc) e i) (hq : ∀ e t, q e = some t → SndTn F (c.blk sc) e t)
    {elt tg it : Expr} {ifs : List Expr} {own : List (Str × Nat)} {i : E} {pos : Pos} (h : cLc f g q c elt tg it ifs sc own = some i) : SndE F c (.ListComp elt [⟨tg, it, ifs, 0⟩] sc pos) i := by
  refine snd_plain (fun _ _ => rfl) fun X W k => ?_
  unfold cLc at h
  split at h
  · rename_i hb
    obtain ⟨hb, hh⟩ := Bool.and_eq_true_iff.mp hb
    have hh : c.hot = false := by simpa using hh
    split at h
    · rename_i t i' y cs h1 h2 h3 h4
      split at h
      · rename_i hs
        cases h
        have ok : BlkOk X.N X.env.scope sc own := blkOk_by (by rw [k.N]; exact (blkC_names (s2 := c.sc) k.names).trans hb)
        obtain ⟨i1, i2⟩ := snd_iter hf h2
        refine m_lc (k.calm hh) k.nd (i2 X W tg k) ok (fun j hj => of_decide_eq_true (List.all_eq_true.mp hs j hj)) (fun s H C cl fp => ?_) (fun s H C cl fp => ?_) (fun s H C cl fp => ?_) (set_ok i1 _)
        · exact hq tg t h1 _ _ (ok_blk k ok.kind s H C cl fp)
        · exact snd_ifs hg h4 _ _ (ok_blk k ok.kind s H C cl fp)
        · exact (hg elt y h3 _ _ (ok_blk k ok.kind s H C cl fp)).1
      · cases h
    · cases h
  · cases h
end
theorem rp_ok {F : Nat → List D → Mem → Out D} {c : CT} {f : Expr → Option E} (hf : ∀ e i, f e = some i → SndE F c e i) {e : Expr} {i : E} (h : cRp f e = some i) : ∀ X W, OkC F c X W → PET X e (tM X.K W (evE F i)) := fun X W k => by
  unfold cRp at h
  split at h
  · rename_i o m ap y j1 c1 z j2 c2 cp
    split at h
    · rename_i hc
      obtain ⟨hc, c5⟩ := Bool.and_eq_true_iff.mp hc
      obtain ⟨hc, c4⟩ := Bool.and_eq_true_iff.mp hc
      obtain ⟨c2, c3⟩ := Bool.and_eq_true_iff.mp hc
      have c2' := of_decide_eq_true c2
      subst c2'
      split at h
      · rename_i x h1
        cases h
        exact pet_rpl (y := y.cps.toList) (z := z.cps.toList) (hf o x h1 X W k).1 c5 (super_ok c3 _ _ _) c4
      · cases h
    · cases h
  · exact PET.of' (hf _ i h X W k).1
theorem cE_ok {F : Nat → List D → Mem → Out D} : ∀ (n : Nat) (c : CT) (e : Expr) (i : E), cE n c e = some i → SndE F c e i
  | 0, _, _, _, h => by cases h
  | n + 1, c, e, i, h => by
    have ih := cE_ok (F := F) n c
    unfold cE at h
    split at h
    · exact snd_const h
    · exact snd_name h
    · split at h
      · rename_i o x y h1 h2 h3
        cases h
        exact snd_bin h1 (ih _ _ h2) (ih _ _ h3)
      · cases h
    · unfold cUn at h
      split at h
      · split at h
        · rename_i x h1
          cases h
          exact snd_neg (ih _ _ h1)
        · cases h
      · split at h
        · rename_i x h1
          cases h
          exact snd_no (ih _ _ h1)
        · cases h
      · cases h
    · exact (snd_bool ih _ _ _ h).1
    · unfold cCmp at h
      split at h
      · split at h
        · rename_i hs
          split at h
          · rename_i x y h1 h2
            cases h
            exact snd_cmp hs (ih _ _ h1) (ih _ _ h2)
          · cases h
        · cases h
      · split at h
        · rename_i hs
          split at h
          · rename_i x y z h1 h2 h3
            cases h
            exact snd_chn hs (ih _ _ h1) (ih _ _ h2) (ih _ _ h3)
          · cases h
        · cases h
      · cases h
    · split at h
      · rename_i z x y h1 h2 h3
        cases h
        exact snd_ife (ih _ _ h1) (ih _ _ h2) (ih _ _ h3)
      · cases h
    · split at h
      · rename_i xs h1
        cases h
        exact snd_plain (fun _ _ => rfl) fun X W k => m_tup (pe_tup (snd_disp ih _ _ h1 X W k))
      · cases h
    · split at h
      · rename_i xs h1
        cases h
        exact snd_plain (fun _ _ => rfl) fun X W k => m_lst (pe_lst (snd_disp ih _ _ h1 X W k))
      · cases h
    · exact snd_sub ih h
    · unfold cFn at h
      split at h
      · exact snd_call ih h
      · exact snd_meth ih h
      · cases h
    · split at h
      · rename_i ha
        subst ha
        split at h
        · cases h
        · exact snd_lc ih (cE_ok n _) (fun e t => tn_ok n e t) h
      · cases h
    · cases h
end Mi

set_option Elab.async false
set_option linter.all false
set_option maxRecDepth 100000
set_option maxHeartbeats 4000000
/-! MiH: statements -/
namespace Mi
open PySem PySem.Spec PyProof.Rows L2

/-- may a, b = x, y be stored as one tuple: nothing is swapped -/
def asgPlain : Expr → Expr → Bool
  | .Tuple _ _ _, .Tuple vs _ _ => vs.all (foldedForSure 8)
  | .List _ _, .Tuple vs _ _ => vs.all (foldedForSure 8)
  | _, _ => true
def bopAug : Operator → Option Bop
  | .Add => some .add | .Sub => some .sub
  | _ => none
/-- the first binding of a local: its slot, if the block knows it as a local -/
def locOf (c : CT) (x : Str) : Option Nat := match c.names.lookup x with
  | some .local => storeOf c x
  | _ => none
def swapOk (ps : List Pos) (vs : List Expr) : Bool := (match ps with
  | [] => true
  | p :: r => r.all fun q => q.line == p.line) && !vs.all (foldedForSure 8) && !vs.all (constantsAlone 8) && vs.all noStar
/-- a name takes a comprehension's list: the compiler puts its own names by -/
def cSetLc (n : Nat) (c : CT) (x : Str) (px : Pos) : Expr → Option Sm
  | .ListComp elt [⟨tg, it, ifs, a⟩] sc p => if (decide (a = 0) && (px.line == p.line) && !(sc.names.any fun (m, k) => m == x && (k == .local || k == .cell))) = true then (match locOf c x, ownOf c.N sc.names with
    | some i, some own => (match cLc (cE n c) (cE n (c.blk sc)) (cTn n (c.blk sc)) c elt tg it ifs sc own with
      | some e => some (.asg (.n (.nm i)) e)
      | none => none)
    | _, _ => none) else none
  | _ => none
def cAsg (n : Nat) (c : CT) (tg e : Expr) : Option Sm := if noComp e = true then (match tg with
    | .Subscript o i _ => if noSlice i = true then (match cE n c e, cE n c o, cE n c i with
      | some x, some y, some z => some (.asg (.sub y z) x)
      | _, _, _ => none) else none
    | .Tuple [.Name x px, .Name y py] _ _ => (match e with
      | .Tuple [a, b] _ _ => if (swapOk [px, py] [a, b] && decide (x ≠ y)) = true then (match locOf c x, locOf c y, cE n c a, cE n c b with
        | some i, some j, some u, some v => some (.par2 i j u v)
        | _, _, _, _ => none) else (if [a, b].all (foldedForSure 8) = true then (match cE n c e, cTn n c tg with
          | some u, some t => some (.asg (.n t) u)
          | _, _ => none) else none)
      | _ => if asgPlain tg e = true then (match cE n c e, cTn n c tg with
        | some u, some t => some (.asg (.n t) u)
        | _, _ => none) else none)
    | .Tuple [.Name x px, .Name y py, .Name z pz] _ _ => (match e with
      | .Tuple [a, b, d] _ _ => if (swapOk [px, py, pz] [a, b, d] && decide (x ≠ y) && decide (x ≠ z) && decide (y ≠ z)) = true then (match locOf c x, locOf c y, locOf c z, cE n c a, cE n c b, cE n c d with
        | some i, some j, some k, some u, some v, some w => some (.par3 i j k u v w)
        | _, _, _, _, _, _ => none) else (if [a, b, d].all (foldedForSure 8) = true then (match cE n c e, cTn n c tg with
          | some u, some t => some (.asg (.n t) u)
          | _, _ => none) else none)
      | _ => if asgPlain tg e = true then (match cE n c e, cTn n c tg with
        | some u, some t => some (.asg (.n t) u)
        | _, _ => none) else none)
    | _ => if asgPlain tg e = true then (match cE n c e, cTn n c tg with
      | some u, some t => some (.asg (.n t) u)
      | _, _ => none) else none) else (match tg with
    | .Name x px => cSetLc n c x px e
    | _ => none)
/-- a name takes one of two texts, by a written text -/
def cAsgT (n : Nat) (c : CT) : Expr → Expr → Option Sm
  | .Name x px, .IfExp (.Compare a [op] [.Constant (.str s) _ _] _) b d _ => (match cTn n c (.Name x px), cE n c a, cRp (cE n c) b, cRp (cE n c) d with
    | some t, some u, some v, some w => some (.asg (.n t) (.ife (.cmp (copOf op) u (.c (.str s.cps.toList))) v w))
    | _, _, _, _ => none)
  | _, _ => none
def CT.heat (c : CT) : CT := { c with cm := true, hot := true }
/-- the suites of a try: a return each -/
def cHs (f : Expr → Option E) (c : CT) : List ExceptHandler → Option Hs
  | [] => some .nil
  | .ExceptHandler (some (.Name y _)) none [.Return (some e) _] _ :: r => (match globOf c y, c.exs.lookup y, f e, cHs f c r with
    | some .exc, some (ys, zs), some x, some hs => some (.cons ys zs (.cons (.ret x) .nil) hs)
    | _, _, _, _ => none)
  | _ => none
mutual
def cS : Nat → CT → Stmt → Option Sm
  | 0, _, _ => none
  | n + 1, c, s => match s with
    | .Assign [tg] e _ => (match cAsg n c tg e with
      | some i => some i
      | none => cAsgT n c tg e)
    | .AugAssign (.Name x _) o e _ => (match storeOf c x, bopAug o, cE n c e with
      | some i, some o', some y => some (.aug i o' y)
      | _, _, _ => none)
    | .Expr e _ => if noComp e = true then (match cE n c e with
      | some x => some (.ex x)
      | none => none) else none
    | .Return (some e) _ => (match cE n c e with
      | some x => some (.ret x)
      | none => none)
    | .Return none _ => some .retN
    | .If t a b _ => (match cE n c t, cSs n c a, cSs n c b with
      | some x, some y, some z => some (.iff x y z)
      | _, _, _ => none)
    | .For tg it b [] _ => (match cTn n c tg, cIter (cE n c) c it, cSs n c b with
      | some t, some i, some y => some (.for_ t i y)
      | _, _, _ => none)
    | .While t b [] _ => (match cE n c t, cSs n c b with
      | some x, some y => some (.whl x y)
      | _, _ => none)
    | .Pass _ => some .pass
    | .Break _ => some .brk
    | .Continue _ => some .cont
    | .Raise e z _ => (match e, z with
      | some (.Call (.Name x _) [.Constant (.str _) _ _] [] _), none => (match globOf c x with
        | some .exc => some (.rai x)
        | _ => some .never)
      | _, _ => some .never)
    | .Try b (h :: hs) [] [] _ => (match cSs n c b, cHs (cE n c.heat) c (h :: hs) with
      | some x, some y => some (.tri x y)
      | _, _ => none)
    | _ => none
def cSs : Nat → CT → List Stmt → Option Ss
  | 0, _, _ => none
  | n + 1, c, ss => match ss with
    | [] => some .nil
    | s :: r => match cS n c s, cSs n c r with
      | some x, some xs => some (.cons x xs)
      | _, _ => none
end

def SndS (F : Nat → List D → Mem → Out D) (c : CT) (s : Stmt) (i : Sm) : Prop := ∀ X W, OkC F c X W → PS X s (tS X.K W (evS F i))
def SndSs (F : Nat → List D → Mem → Out D) (c : CT) (s : List Stmt) (i : Ss) : Prop := ∀ X W, OkC F c X W → PSs X s (tS X.K W (evSs F i))
section
variable {F : Nat → List D → Mem → Out D} {c : CT} {pos : Pos} {e tg : Expr}
theorem comp_ok {t : Option Expr} {l : Nat} {env : PySem.Env} (h : noComp e = true) : swapsWith e t l env = pure false := by
  cases e <;> first | rfl | cases h
theorem tup_sole {l : Nat} {env : PySem.Env} (h : noComp e = true) : swapsWithSole [tg] e l env = pure false := comp_ok h
theorem swap_none {env : PySem.Env} (h : asgPlain tg e = true) : swappedStores [tg] e env = pure none := by
  have fin : ∀ (ts vs : List Expr), vs.all (foldedForSure 8) = true → (do
      if (!(ts.length == 2 || ts.length == 3) || vs.length != ts.length || env.blockKind != ScopeKind.function) = true then return none
      if (vs.any fun | .Starred .. => true | _ => false) = true then return none
      let line := (ts.head?.map (·.pos.line)).getD 0
      let names := ts.filterMap fun
        | .Name id pos => if env.kindOf id == some .local && pos.line == line then some id else none
        | _ => none
      if (names.length != ts.length || names.eraseDups.length != names.length) = true then return none
      if vs.all (foldedForSure 8) = true then return none
      if vs.all (constantsAlone 8) = true then unsupported "assign.tuple-of-constant-expressions:order-of-the-stores"
      return some names : Sem (Option (List Str))) = pure none := fun ts vs h => by
    simp only [h]
    repeat' split
    all_goals first | rfl | contradiction | (rename_i hh _; exact absurd rfl hh)
  unfold asgPlain at h
  split at h
  · exact fin _ _ h
  · exact fin _ _ h
  · rename_i h1 h2
    cases tg <;> cases e <;> first | rfl | exact (h1 _ _ _ _ _ _ rfl rfl).elim | exact (h2 _ _ _ _ _ rfl rfl).elim
theorem nt {b : Bool} (h : (!b) = true) : b = false := by cases b <;> first | rfl | cases h
theorem kind_of {env : PySem.Env} (hk : env.scope.kind = .function) : env.blockKind = .function := by unfold Env.blockKind; rw [hk]; rfl
theorem swap_two {env : PySem.Env} {x y : Str} {px py p q : Pos} {k l : Nat} {a b : Expr} (hk : env.scope.kind = .function) (hx : env.scope.names.lookup x = some .local) (hy : env.scope.names.lookup y = some .local) (hs : swapOk [px, py] [a, b] = true) (hn : x ≠ y) :
    swappedStores [.Tuple [.Name x px, .Name y py] k p] (.Tuple [a, b] l q) env = pure (some [x, y]) := by
  unfold swapOk at hs
  obtain ⟨hs, s4⟩ := Bool.and_eq_true_iff.mp hs
  obtain ⟨hs, s3⟩ := Bool.and_eq_true_iff.mp hs
  obtain ⟨s1, s2⟩ := Bool.and_eq_true_iff.mp hs
  have t2 : [a, b].all (foldedForSure 8) = false := nt s2
  have t3 : [a, b].all (constantsAlone 8) = false := nt s3
  have t1 : (py.line == px.line) = true := by simpa using s1
  have kx : env.kindOf x = some .local := hx
  have ky : env.kindOf y = some .local := hy
  have t4 : ([a, b].any fun | .Starred .. => true | _ => false) = false := by
    have h4 : noStar a = true ∧ noStar b = true := by simpa using s4
    obtain ⟨n1, n2⟩ := h4
    have e : ∀ {w : Expr}, noStar w = true → (match w with | .Starred .. => true | _ => false) = false := fun {w} n => by cases w <;> first | rfl | cases n
    show (_ || (_ || false)) = false
    rw [Bool.or_false]
    exact Bool.or_eq_false_iff.mpr ⟨e n1, e n2⟩
  have hxy : (y == x) = false := by simpa using Ne.symm hn
  have t5 : [x, y].eraseDups = [x, y] := by simp [List.eraseDups_cons, hn, Ne.symm hn]
  have t6 : ∀ l : Nat, (px.line == l) = true → ([(Expr.Name x px), Expr.Name y py].filterMap fun
      | .Name id pos => if (env.kindOf id == some .local && pos.line == l) = true then some id else none
      | _ => none) = [x, y] := fun l h => by
    have e1 : px.line = l := by simpa using h
    have e2 : py.line = px.line := by simpa using t1
    simp [List.filterMap_cons, kx, ky, e2, e1]
  unfold swappedStores
  dsimp only
  refine (if_neg (by rw [kind_of hk]; exact fun z => by cases z)).trans ((if_neg fun z => Bool.noConfusion (t4.symm.trans z)).trans ((if_neg ?_).trans ((if_neg fun z => Bool.noConfusion (t2.symm.trans z)).trans ((if_neg fun z => Bool.noConfusion (t3.symm.trans z)).trans ?_))))
  · have fin : ∀ l : List Str, l = [x, y] → ¬ (l.length != 2 || l.eraseDups.length != l.length) = true := fun l e => by subst e; rw [t5]; simp
    exact fin _ (t6 px.line (by simp))
  · exact congrArg (fun l : List Str => (pure (some l) : Sem (Option (List Str)))) (t6 px.line (by simp))
theorem swap_three {env : PySem.Env} {x y z : Str} {px py pz p q : Pos} {k l : Nat} {a b d : Expr} (hk : env.scope.kind = .function) (hx : env.scope.names.lookup x = some .local) (hy : env.scope.names.lookup y = some .local) (hz : env.scope.names.lookup z = some .local)
    (hs : swapOk [px, py, pz] [a, b, d] = true) (hn : x ≠ y) (hn2 : x ≠ z) (hn3 : y ≠ z) :
    swappedStores [.Tuple [.Name x px, .Name y py, .Name z pz] k p] (.Tuple [a, b, d] l q) env = pure (some [x, y, z]) := by
  unfold swapOk at hs
  obtain ⟨hs, s4⟩ := Bool.and_eq_true_iff.mp hs
  obtain ⟨hs, s3⟩ := Bool.and_eq_true_iff.mp hs
  obtain ⟨s1, s2⟩ := Bool.and_eq_true_iff.mp hs
  have t2 : [a, b, d].all (foldedForSure 8) = false := nt s2
  have t3 : [a, b, d].all (constantsAlone 8) = false := nt s3
  have t1 : (py.line == px.line) = true ∧ (pz.line == px.line) = true := by simpa using s1
  have kx : env.kindOf x = some .local := hx
  have ky : env.kindOf y = some .local := hy
  have kz : env.kindOf z = some .local := hz
  have t4 : ([a, b, d].any fun | .Starred .. => true | _ => false) = false := by
    have h4 : noStar a = true ∧ noStar b = true ∧ noStar d = true := by simpa using s4
    obtain ⟨n1, n2, n3⟩ := h4
    have e : ∀ {w : Expr}, noStar w = true → (match w with | .Starred .. => true | _ => false) = false := fun {w} n => by cases w <;> first | rfl | cases n
    show (_ || (_ || (_ || false))) = false
    rw [Bool.or_false]
    exact Bool.or_eq_false_iff.mpr ⟨e n1, Bool.or_eq_false_iff.mpr ⟨e n2, e n3⟩⟩
  have t5 : [x, y, z].eraseDups = [x, y, z] := by simp [List.eraseDups_cons, hn, hn2, hn3, Ne.symm hn, Ne.symm hn2, Ne.symm hn3]
  have t6 : ∀ l : Nat, (px.line == l) = true → ([(Expr.Name x px), Expr.Name y py, Expr.Name z pz].filterMap fun
      | .Name id pos => if (env.kindOf id == some .local && pos.line == l) = true then some id else none
      | _ => none) = [x, y, z] := fun l h => by
    have e1 : px.line = l := by simpa using h
    have e2 : py.line = px.line := by simpa using t1.1
    have e3 : pz.line = px.line := by simpa using t1.2
    simp [List.filterMap_cons, kx, ky, kz, e2, e3, e1]
  unfold swappedStores
  dsimp only
  refine (if_neg (by rw [kind_of hk]; exact fun z => by cases z)).trans ((if_neg fun z => Bool.noConfusion (t4.symm.trans z)).trans ((if_neg ?_).trans ((if_neg fun z => Bool.noConfusion (t2.symm.trans z)).trans ((if_neg fun z => Bool.noConfusion (t3.symm.trans z)).trans ?_))))
  · have fin : ∀ l : List Str, l = [x, y, z] → ¬ (l.length != 3 || l.eraseDups.length != l.length) = true := fun l e => by subst e; rw [t5]; simp
    exact fin _ (t6 px.line (by simp))
  · exact congrArg (fun l : List Str => (pure (some l) : Sem (Option (List Str)))) (t6 px.line (by simp))

theorem loc_ok {x : Str} {j : Nat} {X : Cx} {W : WX} (o : OkC F c X W) (h : locOf c x = some j) : X.N[j]? = some x ∧ X.env.scope.names.lookup x = some .local := by
  unfold locOf at h
  split at h
  · rename_i q
    exact ⟨(store_ok' o h).1, by rw [o.names]; exact q⟩
  · cases h
theorem ne_ix {X : Cx} {W : WX} (o : OkC F c X W) {x y : Str} {i j : Nat} (hi : X.N[i]? = some x) (hj : X.N[j]? = some y) (h : x ≠ y) : i ≠ j := fun e => by
  subst e
  rw [hi] at hj
  exact h (Option.some.inj hj)
/-- target = value, nothing swapped, names alone -/
theorem snd_asgN {x : E} {t : Tn} (he : SndE F c e x) (hg : SndTn F c tg t) (hn : noComp e = true) (hp : asgPlain tg e = true) (h1 : ∀ env, (assignEach [tg] env).map (·.2) = [assign tg env]) : SndS F c (.Assign [tg] e pos) (.asg (.n t) x) := fun X W k =>
  s_asg (mg := evG F (.n t)) (ps_asg (he X W k).1 (hg X W k) (comp_ok hn) (swap_none hp) (h1 _)) (fun σ H Q q => q) fun v σ H Q q => gt_n q
theorem one_tn {n : Nat} {t : Tn} (h : cTn n c tg = some t) (env : PySem.Env) : (assignEach [tg] env).map (·.2) = [assign tg env] := by
  cases n with
  | zero => cases h
  | succ n =>
    unfold cTn at h
    split at h <;> first | rfl | cases h
theorem snd_gen {n : Nat} {i : Sm} (hn : noComp e = true) (h : (if asgPlain tg e = true then (match cE n c e, cTn n c tg with
      | some u, some t => some (Sm.asg (.n t) u)
      | _, _ => none) else none) = some i) : SndS F c (.Assign [tg] e pos) i := by
  split at h
  · rename_i hp
    split at h
    · rename_i u t h1 h2
      cases h
      exact snd_asgN (cE_ok n c e u h1) (tn_ok n tg t h2) hn hp (one_tn h2)
    · cases h
  · cases h
theorem snd_setLc {n : Nat} {x : Str} {px : Pos} {i : Sm} (h : cSetLc n c x px e = some i) : SndS F c (.Assign [.Name x px] e pos) i := by
  unfold cSetLc at h
  split at h
  · split at h
    · rename_i hc
      obtain ⟨hc, c3⟩ := Bool.and_eq_true_iff.mp hc
      obtain ⟨c1, c2⟩ := Bool.and_eq_true_iff.mp hc
      have c1' := of_decide_eq_true c1
      subst c1'
      split at h
      · rename_i j own h1 h2
        split at h
        · rename_i y h3
          cases h
          intro X W k
          obtain ⟨l1, l2⟩ := loc_ok k h1
          unfold cLc at h3
          split at h3
          · rename_i hb
            obtain ⟨hb, hh⟩ := Bool.and_eq_true_iff.mp hb
            have hh : c.hot = false := by simpa using hh
            split at h3
            · rename_i t i' y' cs h4 h5 h6 h7
              split at h3
              · rename_i hs
                cases h3
                have ok : BlkOk X.N X.env.scope _ own := blkOk_by (by rw [k.N]; exact (blkC_names (s2 := c.sc) k.names).trans hb)
                obtain ⟨i1, i2⟩ := snd_iter (cE_ok (F := F) n c) h5
                have ho := fun j hj => of_decide_eq_true (List.all_eq_true.mp hs j hj)
                refine s_asg (ma := evE F (.lc t i' cs y' (own.map (·.2)))) (mg := evG F (.n (.nm j))) (ps_setLc (k.calm hh) k.nd l1 l2 (sw_true k.kind l2 c2 (nt c3)) (i2 X W _ k) ok (g := tGn X.K t) (fun s H C cl fp => ?_) (fun s H C cl fp => ?_) (fun s H C cl fp => ?_) (set_ok i1 _)) (fun σ H Q q => lc_read ho q) (fun v σ H Q q => gt_nm q)
                · exact tn_ok n _ t h4 _ _ (ok_blk k ok.kind s H C cl fp)
                · exact snd_ifs (cE_ok n _) h7 _ _ (ok_blk k ok.kind s H C cl fp)
                · exact (cE_ok n _ _ y' h6 _ _ (ok_blk k ok.kind s H C cl fp)).1
              · cases h3
            · cases h3
          · cases h3
        · cases h
      · cases h
    · cases h
  · cases h
theorem fold_plain {ts vs : List Expr} {k l : Nat} {p q : Pos} (h : vs.all (foldedForSure 8) = true) : asgPlain (.Tuple ts k p) (.Tuple vs l q) = true := h
theorem sub_ok {o i : Expr} (h : noSlice i = true) (env : PySem.Env) : ∀ v, assign (.Subscript o i pos) env v = (do
      let ov ← holding [v] (eval o env)
      let iv ← holding [v, ov] (eval i env)
      standAt pos
      holding [v, ov, iv] (setItem ov iv v)
      release [v, ov, iv] []) := fun v => by
  cases i <;> first | rfl | cases h
theorem pa_two {X : Cx} {W : WX} {a b : Expr} {x y : E} (n1 : noStar a = true) (n2 : noStar b = true) (ha : PE X a (tM X.K W (evE F x))) (hb : PE X b (tM X.K W (evE F y))) : PA X [a, b] (tCons (tM X.K W (evE F x)) (tCons (tM X.K W (evE F y)) tNil)) :=
  pa_cons ha (pa_cons hb pa_nil (star_ok n2 _)) (star_ok n1 _)
theorem snd_asg {n : Nat} {i : Sm} (hh : c.hot = false) (h : cAsg n c tg e = some i) : SndS F c (.Assign [tg] e pos) i := by
  unfold cAsg at h
  split at h
  · rename_i hn
    split at h
    · split at h
      · rename_i hs
        split at h
        · rename_i x y z h1 h2 h3
          cases h
          exact fun X W k => s_asg (mg := evG F (.sub y z)) (ps_asg (cE_ok n c e x h1 X W k).1 (pg_sub (cE_ok n c _ y h2 X W k).1 (cE_ok n c _ z h3 X W k).1 up_set (sub_ok hs _)) (tup_sole hn) (swap_none (by cases e <;> rfl))) (fun σ H Q q => q) fun v σ H Q q => gt_sub q
        · cases h
      · cases h
    · split at h
      · rename_i a b kk pp
        split at h
        · rename_i hc
          obtain ⟨c1, c2⟩ := Bool.and_eq_true_iff.mp hc
          have c2' := of_decide_eq_true c2
          split at h
          · rename_i i j u v h1 h2 h3 h4
            cases h
            intro X W k
            obtain ⟨l1, m1⟩ := loc_ok k h1
            obtain ⟨l2, m2⟩ := loc_ok k h2
            have st : noStar a = true ∧ noStar b = true := by simpa using (Bool.and_eq_true_iff.mp c1).2
            exact s_par2 (ps_par (k.calm hh) k.nd l1 l2 (ne_ix k l1 l2 c2') m1 m2 (pa_two st.1 st.2 (cE_ok n c _ u h3 X W k).1 (cE_ok n c _ v h4 X W k).1) (swap_two k.kind m1 m2 c1 c2') rfl)
          · cases h
        · split at h
          · rename_i hf
            exact snd_gen hn (n := n) ((if_pos (fold_plain hf)).trans h)
          · cases h
      · exact snd_gen hn h
    · split at h
      · rename_i a b d kk pp
        split at h
        · rename_i hc
          obtain ⟨hc, c4⟩ := Bool.and_eq_true_iff.mp hc
          obtain ⟨hc, c3⟩ := Bool.and_eq_true_iff.mp hc
          obtain ⟨c1, c2⟩ := Bool.and_eq_true_iff.mp hc
          have c2' := of_decide_eq_true c2
          have c3' := of_decide_eq_true c3
          have c4' := of_decide_eq_true c4
          split at h
          · rename_i i j l u v w h1 h2 h3 h4 h5 h6
            cases h
            intro X W k
            obtain ⟨l1, m1⟩ := loc_ok k h1
            obtain ⟨l2, m2⟩ := loc_ok k h2
            obtain ⟨l3, m3⟩ := loc_ok k h3
            have st : noStar a = true ∧ noStar b = true ∧ noStar d = true := by simpa using (Bool.and_eq_true_iff.mp c1).2
            exact s_par3 (ps_par3 (k.calm hh) k.nd l1 l2 l3 (ne_ix k l1 l2 c2') (ne_ix k l1 l3 c3') (ne_ix k l2 l3 c4') m1 m2 m3 (pa_cons (cE_ok n c _ u h4 X W k).1 (pa_two st.2.1 st.2.2 (cE_ok n c _ v h5 X W k).1 (cE_ok n c _ w h6 X W k).1) (star_ok st.1 _)) (swap_three k.kind m1 m2 m3 c1 c2' c3' c4') rfl)
          · cases h
        · split at h
          · rename_i hf
            exact snd_gen hn (n := n) ((if_pos (fold_plain hf)).trans h)
          · cases h
      · exact snd_gen hn h
    · exact snd_gen hn h
  · split at h
    · exact snd_setLc h
    · cases h
theorem snd_asgT {n : Nat} {i : Sm} (h : cAsgT n c tg e = some i) : SndS F c (.Assign [tg] e pos) i := by
  unfold cAsgT at h
  split at h
  · rename_i x px a op s j1 c1 p1 b d p2
    split at h
    · rename_i t u v w h1 h2 h3 h4
      cases h
      intro X W k
      have pe := m_ifT (W := W) (a := a) (b := b) (c := d) (ma := evE F u) (j := j1) (c0 := c1) (pos := p1) (p2 := p2) (x := s) (cs := s.cps.toList) rfl (cop_bl (copOf op)) (cop_ok' k.hu op) (cE_ok n c a u h2 X W k).1 (rp_ok (cE_ok n c) h3 X W k) (rp_ok (cE_ok n c) h4 X W k)
      exact s_asg (ma := evE F (.ife (.cmp (copOf op) u (.c (.str s.cps.toList))) v w)) (mg := evG F (.n t)) (ps_asg pe (tn_ok n _ t h1 X W k) (tup_sole rfl) (swap_none rfl) (one_tn h1 _)) (fun σ H Q q => q) fun v σ H Q q => gt_n q
    · cases h
  · cases h
theorem aug_ok {X : Cx} {o : Operator} {o' : Bop} (h2 : bopAug o = some o') : PIp X o (rU2 X.K (fAug o')) := by
  cases o with
  | Add => cases h2; exact up_aug .add
  | Sub => cases h2; exact up_aug .sub
  | _ => cases h2
theorem ok_tr {X : Cx} {W W' : WX} (k : OkC F c X W) (hm : c.cm = false) {pn : List (Addr × Obj)} {xe : Value → Shared → Prop} (tk : Takes (X.tr pn xe) W') (hp : PassesOwn (model X.prog X.w) X.A X.env xe) : OkC F c (X.tr pn xe) W' where
  names := k.names
  kind := k.kind
  N := k.N
  nd := k.nd
  calm := k.calm
  hu := k.hu
  con := k.con
  fn := k.fn
  bi := k.bi
  ty := k.ty
  rng := k.rng
  exc := k.exc
  exm := k.exm
  tk := tk
  hp := fun _ => hp
  fnx := k.fnx
  stk := k.stk
theorem ok_suite {X : Cx} {W : WX} (k : OkC F c X W) (a : Addr) (pn : List (Addr × Obj)) : OkC F c.heat (X.suite a pn) WF where
  names := k.names
  kind := k.kind
  N := k.N
  nd := k.nd
  calm := fun h => by cases h
  hu := k.hu
  con := k.con
  fn := fun h => by cases h
  bi := k.bi
  ty := k.ty
  rng := k.rng
  exc := k.exc
  exm := k.exm
  tk := fun _ _ x => by
    obtain ⟨_, _, _, _, _, _, _, _, _, _, _, _, _, _, _, _, z⟩ := x
    exact z.elim
  hp := fun h => by cases h
  fnx := fun h => by cases h
  stk := fun h => by cases h
theorem hs_ok {f : Expr → Option E} (hf : ∀ e i, f e = some i → SndE F c.heat e i) {X : Cx} {W : WX} (k : OkC F c X W) : ∀ (hs : List ExceptHandler) (i : Hs), cHs f c hs = some i → ∃ l, HdsOk X hs l ∧ HL X.K F i l
  | [], i, h => by cases h; exact ⟨[], .nil, .nil⟩
  | e :: r, i, h => by
    unfold cHs at h
    split at h
    · cases h
      rename_i e1
      cases e1
    · rename_i y p e2 p2 p3 r2 e1
      cases e1
      split at h
      · rename_i ys zs x hs hg hx h1 h2
        cases h
        obtain ⟨g1, g2, g3⟩ := glob_ok k hg
        obtain ⟨d1, d2, d3⟩ := dbg_ok g3
        obtain ⟨m1, m2, m3, m4⟩ := k.exc y g2
        obtain ⟨x1, x2⟩ := k.exm y ys zs hx
        obtain ⟨l, l1, l2⟩ := hs_ok hf k _ hs h2
        refine ⟨_, .cons (c := .ref (He.ga X.K y)) ⟨g1, d1, .inl m1⟩ (fun a oe cls d pn _ _ => ?_) l1, .cons x1 x2 l2⟩
        exact ss_cons (s_ret (ps_ret (hf _ x h1 _ _ (ok_suite k a _)).1)) ss_nil
      · cases h
    · cases h
mutual
theorem cS_ok (hm : c.cm = false) (hh : c.hot = false) : ∀ (n : Nat) (s : Stmt) (i : Sm), cS n c s = some i → SndS F c s i
  | 0, _, _, h => by cases h
  | n + 1, s, i, h => by
    unfold cS at h
    split at h
    · split at h
      · rename_i z hz
        cases h
        exact snd_asg hh hz
      · exact snd_asgT h
    · split at h
      · rename_i i o' y h1 h2 h3
        cases h
        intro X W k
        obtain ⟨s1, s2, s3⟩ := store_ok' k h1
        have aug := aug_ok (X := X) h2
        exact s_aug (ps_aug k.nd s1 s2 (cE_ok n c _ y h3 X W k).1 aug s3)
      · cases h
    · split at h
      · rename_i hn
        split at h
        · rename_i x h1
          cases h
          exact fun X W k => s_ex (ps_expr (cE_ok n c _ x h1 X W k).1 (comp_ok hn))
        · cases h
      · cases h
    · split at h
      · rename_i x h1
        cases h
        exact fun X W k => s_ret (ps_ret (cE_ok n c _ x h1 X W k).1)
      · cases h
    · cases h; exact fun X W k => s_retN ps_retN
    · split at h
      · rename_i x y z h1 h2 h3
        cases h
        exact fun X W k => s_iff (t := tS X.K W (evSs F y)) (u := tS X.K W (evSs F z)) (ps_if (cE_ok n c _ x h1 X W k).2 (cSs_ok hm hh n _ y h2 X W k) (cSs_ok hm hh n _ z h3 X W k))
      · cases h
    · split at h
      · rename_i t i y h1 h2 h3
        cases h
        intro X W k
        obtain ⟨i1, i2⟩ := snd_iter (cE_ok (F := F) n c) h2
        exact s_for (ps_for (k.hp hm) (k.calm hh) (i2 X W _ k) (tn_ok n _ t h1 X W k) (cSs_ok hm hh n _ y h3 X W k) (set_ok i1 _))
      · cases h
    · split at h
      · rename_i x y h1 h2
        cases h
        exact fun X W k => s_whl (ps_while (k.hp hm) (cE_ok n c _ x h1 X W k).2 (cSs_ok hm hh n _ y h2 X W k))
      · cases h
    · cases h; exact fun X W k => s_pass ps_pass
    · cases h; exact fun X W k => s_brk ps_break
    · cases h; exact fun X W k => s_cont ps_continue
    · split at h
      · split at h
        · rename_i hg
          cases h
          intro X W k
          obtain ⟨g1, g2, g3⟩ := glob_ok k hg
          obtain ⟨d1, d2, d3⟩ := dbg_ok g3
          obtain ⟨m1, m2, m3, m4⟩ := k.exc _ g2
          exact s_rai rfl (ps_raise (k.calm hh) k.tk (pmk_own PySem.F.excBase_ValueError m2 m1 m3 m4 g1 d1))
        · cases h; exact fun X W k => s_never
      · cases h; exact fun X W k => s_never
    · split at h
      · rename_i x y h1 h2
        cases h
        intro X W k
        obtain ⟨l, l1, l2⟩ := hs_ok (cE_ok (F := F) n c.heat) k _ y h2
        obtain ⟨s1, s2⟩ := k.stk hm
        exact s_tri l2 (ps_try_many (tb := fun W' => tS X.K W' (evSs F x)) s1 s2 k.tk (fun W' pn xe tk hp => cSs_ok hm hh n _ x h1 _ _ (ok_tr k hm tk hp)) l1)
      · cases h
    · cases h
theorem cSs_ok (hm : c.cm = false) (hh : c.hot = false) : ∀ (n : Nat) (s : List Stmt) (i : Ss), cSs n c s = some i → SndSs F c s i
  | 0, _, _, h => by cases h
  | n + 1, s, i, h => by
    unfold cSs at h
    split at h
    · cases h; exact fun X W k => ss_nil
    · split at h
      · rename_i x xs h1 h2
        cases h
        exact fun X W k => ss_cons (cS_ok hm hh n _ x h1 X W k) (cSs_ok hm hh n _ xs h2 X W k)
      · cases h
end
end
end Mi

set_option Elab.async false
set_option linter.all false
set_option maxRecDepth 100000
set_option maxHeartbeats 4000000
/-! MiI: the defs of a text -/
namespace Mi
open PySem PySem.Spec PyProof.Rows L2

/-- a def of the text: its name, its row, the slots' names, the parameters -/
structure Fn where
  name : Str
  st : Stmt
  N : List Str
  ps : List Str
@[reducible] def Fn.df (f : Fn) : He.DefD := ⟨(f.name, none), f.name, f.name, defArgs f.st, defBody f.st, defScope f.st, [], []⟩
/-- it binds what is given -/
def Fn.Bind (f : Fn) : Prop := ∀ (kV doc pm : Value) (an : Option Addr) (cdv ct : Value) (us : List Value), us.length = f.ps.length → bindArgs (PySem.W.fnOf f.name f.name (defArgs f.st) (defBody f.st) (defScope f.st) .none kV doc pm an cdv ct) ⟨us, []⟩ = pure (f.ps.zip us)
@[reducible] def Fn.ct (gl : List (Str × G)) (exs : List (Str × List Str × List Str)) (f : Fn) : CT := ⟨(defScope f.st).names, f.N, gl, false, false, exs⟩
structure Fn.Ok (gl : List (Str × G)) (exs : List (Str × List Str × List Str)) (f : Fn) (d : Df) : Prop where
  sc : FnScope f.N f.ps (defScope f.st)
  body : ∃ n, cSs n (f.ct gl exs) (defBody f.st) = some d.body
  ar : d.ar = f.ps.length
  sl : d.sl = f.N.length
  bind : f.Bind
def AllOk (gl : List (Str × G)) (exs : List (Str × List Str × List Str)) : List Fn → List Df → Prop
  | [], [] => True
  | f :: fs, d :: ds => f.Ok gl exs d ∧ AllOk gl exs fs ds
  | _, _ => False
theorem AllOk.get {gl : List (Str × G)} {exs : List (Str × List Str × List Str)} : ∀ {fs : List Fn} {ds : List Df}, AllOk gl exs fs ds → ∀ {i : Nat} {f : Fn}, fs[i]? = some f → ∃ d, ds[i]? = some d ∧ f.Ok gl exs d
  | [], _, _, i, f, h => by cases h
  | _ :: _, [], a, _, _, _ => a.elim
  | g :: fs, d :: ds, a, 0, f, h => by cases h; exact ⟨d, rfl, a.1⟩
  | g :: fs, d :: ds, a, i + 1, f, h => a.2.get (i := i) h
/-- what the module's names stand for -/
structure GlOk (K : PySem.W.Frag) (mg : Str → Option Value) (gl : List (Str × G)) (exs : List (Str × List Str × List Str)) (fs : List Fn) : Prop where
  con : ∀ x d, gl.lookup x = some (.con d) → ∃ u v, mg x = some u ∧ RelV v u ∧ ∀ ω H, RelD K ω H d v
  fn : ∀ x i, gl.lookup x = some (.fn i) → ∃ f : Fn, fs[i]? = some f ∧ mg x = some (.ref (He.ga K f.name))
  bi : ∀ x b, gl.lookup x = some (.bi b) → mg x = none ∧ x = b.nm
  ty : ∀ x n, gl.lookup x = some (.ty n) → mg x = none ∧ bootBuiltins x = some (.type n) ∧ x ≠ "__name__"
  rng : ∀ x, gl.lookup x = some .rng → mg x = none ∧ x = "range"
  exc : ∀ x, gl.lookup x = some .exc → mg x = some (.ref (He.ga K x)) ∧ PySem.W.excIn K (He.ga K x) He.veBase "ValueError.__new__" = true ∧ PySem.W.keepIn K (.ref (He.ga K x)) = true ∧ PySem.W.subIn K (.ref (He.ga K x)) (.type "BaseException") = some true ∧ PySem.W.typeIn K (.ref (He.ga K x)) = some (.type "type")
  exm : ∀ y ys zs, exs.lookup y = some (ys, zs) → (∀ x ∈ ys, PySem.W.exmOne K (.ref (He.ga K x)) (.ref (He.ga K y)) = some true) ∧ ∀ x ∈ zs, PySem.W.exmOne K (.ref (He.ga K x)) (.ref (He.ga K y)) = some false
  fd : ∀ (i : Nat) (f : Fn), fs[i]? = some f → ∃ fd, FunD K f.name f.name (defArgs f.st) (defBody f.st) (defScope f.st) [] [] (He.ga K f.name) fd
section
variable {P : Program} {w : World} {K : PySem.W.Frag} {mg : Str → Option Value} {base : Heap} {gl : List (Str × G)} {exs : List (Str × List Str × List Str)} {fs : List Fn} {ds : List Df}
theorem run_len (a : AllOk gl exs fs ds) {i : Nat} {f : Fn} (h : fs[i]? = some f) : ∀ (k : Nat) (as : List D) (S : Mem), as.length ≠ f.ps.length → run ds k i as S = .bad
  | 0, _, _, _ => rfl
  | k + 1, as, S, hl => by
    obtain ⟨d, h1, ok⟩ := a.get h
    show (match ds[i]? with
      | some d => runD (run ds k) d as S
      | none => .bad) = _
    rw [h1]
    show (if as.length = d.ar then _ else _) = _
    rw [if_neg (by rw [ok.ar]; exact hl)]
theorem env_start {ω : Wo} {H : Hp} {as : List D} {vs : List V} (r : RelDs K ω H as vs) {n : Nat} {N : List Str} (hn : n = N.length) : EnvR K ω H (as.map some ++ List.replicate (n - as.length) none) (L2.start N vs) := by
  have hl := r.length
  refine ⟨?_, fun i d h => ?_⟩
  · unfold L2.start
    simp only [List.length_append, List.length_map, List.length_replicate]
    rw [hl, hn]
  · by_cases hi : i < as.length
    · rw [List.getElem?_append_left (by simpa using hi), List.getElem?_map] at h
      cases e : as[i]? with
      | none => rw [e] at h; cases h
      | some x =>
        rw [e] at h
        cases h
        obtain ⟨v, h1, h2⟩ := r.get e
        refine ⟨v, ?_, h2⟩
        unfold L2.start
        rw [List.getElem?_append_left (by simp; omega), List.getElem?_map, h1]
        rfl
    · rw [List.getElem?_append_right (by simpa using hi), List.getElem?_replicate] at h
      split at h <;> cases h
theorem fn_ok (a : AllOk gl exs fs ds) (g : GlOk K mg gl exs fs) : ∀ (k i : Nat) (f : Fn) (fd : FuncData), fs[i]? = some f → FunD K f.name f.name (defArgs f.st) (defBody f.st) (defScope f.st) [] [] (He.ga K f.name) fd →
    FnOk P w K mg base (L2.CX P w) k (He.ga K f.name) fd f.ps (spF K f.ps.length (run ds k i))
  | 0, i, f, fd, hf, F => by
    have no : ∀ {vs H Q E}, spF K f.ps.length (run ds 0 i) vs H Q E → False := fun {vs H Q E} ⟨ω, S, as, hS, r, hl, q⟩ => q
    exact ⟨fun vs H Q E h => (no h).elim, fun A outer s H args us vs Q E hr e0 hb r h => (no h).elim⟩
  | k + 1, i, f, fd, hf, F => by
    obtain ⟨d, h1, ok⟩ := a.get hf
    refine F.ok ok.sc (fun vs H Q E ⟨ω, S, as, hS, r, hl, q⟩ => r.length ▸ hl) fun cdv A outer s H vs Q E hr ⟨ω, S, as, hS, r, hl, q⟩ => ?_
    have okc : OkC (run ds k) (f.ct gl exs) (cxOf (L2.CX P w) P w K mg base f.N f.name (defScope f.st) (He.ga K f.name) cdv A outer s H E) (fun c d _ H => E c d H) := {
      names := rfl
      kind := ok.sc.kind
      N := rfl
      nd := ok.sc.nd
      calm := fun _ => rfl
      hu := hr.units
      con := g.con
      fn := fun _ x j hx => by
        obtain ⟨f', h2, h3⟩ := g.fn x j hx
        obtain ⟨fd', F'⟩ := g.fd j f' h2
        obtain ⟨d', _, ok'⟩ := a.get h2
        exact ⟨k, f'.ps.length, _, fd', f'.ps, fn_ok a g k j f' fd' h2 F', fun as S => run_len a h2 k as S, hr, h3, F'.kp, F'.bindsN ok'.bind⟩
      bi := g.bi
      ty := g.ty
      rng := g.rng
      exc := fun x hx => by
        obtain ⟨h1, h2, h3, h4, h5⟩ := g.exc x hx
        exact ⟨h1, h2, h3, raises_own h4 h5⟩
      exm := g.exm
      tk := takes_of rfl rfl rfl rfl
      hp := fun _ => passes_of rfl
      fnx := fun _ _ => rfl
      stk := fun _ => ⟨rfl, rfl⟩ }
    obtain ⟨n, hb⟩ := ok.body
    refine ⟨_, cSs_ok rfl rfl n _ _ hb _ _ okc, ω, S, as.map some ++ List.replicate (d.sl - as.length) none, hS, env_start r ok.sl, ?_⟩
    have q2 : Post (RelD K) K E ω H (match ds[i]? with
      | some d => runD (run ds k) d as S
      | none => .bad) Q := q
    rw [h1] at q2
    have q3 : Post (RelD K) K E ω H (if as.length = d.ar then (match evSs (run ds k) d.body (as.map some ++ List.replicate (d.sl - d.ar) none) S with
      | .ok (.rt v) S1 => .ok v S1
      | .ok (.nx _) S1 => .ok .non S1
      | .exc x _ S1 => .exc x S1
      | _ => .bad) else .bad) Q := q2
    rw [if_pos (hl.trans ok.ar.symm), ok.ar, ← hl] at q3
    cases e1 : evSs (run ds k) d.body (as.map some ++ List.replicate (d.sl - as.length) none) S with
    | bad => rw [e1] at q3; exact q3.elim
    | exc x env1 S1 => rw [e1] at q3; exact fun ω1 H1 σ1 c dd L s _ rx => q3 ω1 H1 c dd L s rx
    | ok fl S1 =>
      rw [e1] at q3
      cases fl with
      | nx env1 => exact fun ω1 H1 σ1 L s _ => q3 ω1 H1 .non L s .non
      | bk env1 => exact q3.elim
      | ct env1 => exact q3.elim
      | rt v => exact fun ω1 H1 u L s ru => q3 ω1 H1 u L s ru
/-! ### the law -/
def spLaw (K : PySem.W.Frag) (n : Nat) : Sp := fun vs H Q _ => ∃ (a : Addr) (ns : List Int), vs = [.ref a] ∧ ns.length ≤ n ∧ FxL K H a (ns.map V.int) ∧ ∀ H', Q (.bl true) H'
theorem ints_rel (ω : Wo) (H : Hp) : ∀ ns : List Int, RelDs K ω H (ns.map D.int) (ns.map V.int)
  | [] => .nil
  | i :: r => .cons (.int i) (ints_rel ω H r)
theorem law_ok (a : AllOk gl exs fs ds) (g : GlOk K mg gl exs fs) {k i n : Nat} {f : Fn} {fd : FuncData} (hf : fs[i]? = some f) (F : FunD K f.name f.name (defArgs f.st) (defBody f.st) (defScope f.st) [] [] (He.ga K f.name) fd) (h1 : f.ps = [("script" : Str)])
    (h : ∀ (ns : List Int) (S0 : Mem), ns.length ≤ n → ∃ S, run ds k i [.fl (ns.map D.int)] S0 = .ok (.bl true) S) : FnOk P w K mg base L2.CX0 k (He.ga K f.name) fd ["script"] (spLaw K n) := by
  have o := fn_ok (P := P) (w := w) (base := base) a g k i f fd hf F
  rw [h1] at o
  refine ⟨fun vs H Q E ⟨a, ns, e, _⟩ => by rw [e]; rfl, fun A outer s H args us vs Q E hr e0 hb r ⟨a, ns, e, hl, fx, hQ⟩ => ?_⟩
  subst e
  obtain ⟨S, hS⟩ := h ns [] hl
  have sp : spF K 1 (run ds k i) [.ref a] H Q (fun _ _ _ => False) := by
    refine ⟨⟨[], []⟩, [], [.fl (ns.map D.int)], ⟨rfl, fun n c a h => by simp at h, fun n m c c' a h => by simp at h, fun a h => by simp at h⟩, .cons (.fl fx (ints_rel _ _ _)) .nil, rfl, ?_⟩
    rw [hS]
    intro ω' H' b L s rb
    cases rb
    exact hQ H'
  refine codeAny_mono (o.run A outer s H args us [.ref a] Q (fun _ _ _ => False) hr e0 hb r sp) fun rs s' hc => ?_
  cases rs with
  | ok fl => cases fl <;> exact hc
  | error e =>
    obtain ⟨_, _, _, _, _, _, _, _, _, _, _, _, z⟩ := hc
    exact z.elim
theorem only_fx {H : Hp} (ho : Only H) {a : Addr} {vs : List V} (h : SqL K H a vs) : FxL K H a vs := by
  rcases h with h | h
  · rcases h with h | h
    · rcases ho a with e | ⟨o, xs, e⟩
      · rw [e] at h; cases h
      · rw [e] at h; cases h
    · exact .inl h
  · exact .inr h
end
end Mi

set_option Elab.async false
set_option linter.all false
set_option maxRecDepth 100000
set_option maxHeartbeats 4000000
/-! MiJ: the head's facts tell what the module's names stand for -/
namespace Mi
open PySem PySem.Spec PyProof.Rows L2

def G.fas (x : Str) : G → List He.Fa
  | .con (.int i) => [.int x i]
  | .con (.str cs) => [.str x ⟨cs.toArray⟩]
  | .con _ => []
  | .fn _ => [.glo x]
  | .exc => [.glo x, .exc x]
  | _ => [.free x]
def G.good (fs : List Fn) (x : Str) : G → Bool
  | .con (.int _) => true
  | .con (.str _) => true
  | .con _ => false
  | .fn i => (match fs[i]? with
    | some f => decide (f.name = x)
    | none => false)
  | .bi b => decide (x = b.nm)
  | .ty n => decide (bootBuiltins x = some (.type n)) && decide (x ≠ "__name__")
  | .rng => decide (x = "range")
  | .exc => true
def fasOf (gl : List (Str × G)) : List He.Fa := gl.flatMap fun p => p.2.fas p.1
def fasEx (exs : List (Str × List Str × List Str)) : List He.Fa := exs.flatMap fun p => p.2.1.map (fun x => .exm x p.1 true) ++ p.2.2.map (fun x => .exm x p.1 false)
def goodOf (gl : List (Str × G)) (fs : List Fn) : Bool := gl.all fun p => p.2.good fs p.1
theorem glOk_of {K : PySem.W.Frag} {h : Heap} {mg : Str → Option Value} {gl : List (Str × G)} {exs : List (Str × List Str × List Str)} {fs : List Fn} (X : K.In h) (Gn : h.Ns mainGlobals mg) (hg : goodOf gl fs = true) (c : He.SaysD (fasOf gl ++ fasEx exs) (fs.map Fn.df) K) : GlOk K mg gl exs fs := by
  have mem : ∀ {x g}, gl.lookup x = some g → (x, g) ∈ gl := fun h => PySem.mem_of_lookup h
  have good : ∀ {x g}, gl.lookup x = some g → g.good fs x = true := fun h => List.all_eq_true.mp hg _ (mem h)
  have fact : ∀ {x g f}, gl.lookup x = some g → f ∈ g.fas x → f.ok K = true := fun {x g f} h hf => He.SaysD.facts c (List.mem_append_left _ (List.mem_flatMap.mpr ⟨_, mem h, hf⟩))
  refine ⟨fun x d h => ?_, fun x i h => ?_, fun x b h => ?_, fun x n h => ?_, fun x h => ?_, fun x h => ?_, fun y ys zs h => ⟨fun x hx => ?_, fun x hx => ?_⟩, fun i f h => ?_⟩
  · have g1 := good h
    cases d with
    | int i =>
      obtain ⟨t, e⟩ := He.int_ok X Gn (fact h (f := .int x i) (by simp [Mi.G.fas]))
      exact ⟨.int i t, .int i, e, ⟨t, rfl⟩, fun _ _ => .int i⟩
    | str cs =>
      obtain ⟨t, e⟩ := He.str_ok X Gn (fact h (f := .str x ⟨cs.toArray⟩) (by simp [Mi.G.fas]))
      exact ⟨.str ⟨cs.toArray⟩ t, .str ⟨cs.toArray⟩, e, ⟨t, rfl⟩, fun _ _ => .str cs⟩
    | _ => cases g1
  · have g1 : (match fs[i]? with
      | some f => decide (f.name = x)
      | none => false) = true := good h
    cases e : fs[i]? with
    | none => rw [e] at g1; cases g1
    | some f =>
      rw [e] at g1
      have e1 : f.name = x := of_decide_eq_true g1
      subst e1
      exact ⟨f, rfl, He.glo_ok X Gn (fact h (f := .glo f.name) (by simp [Mi.G.fas]))⟩
  · exact ⟨He.free_ok X Gn (fact h (f := .free x) (by simp [Mi.G.fas])), of_decide_eq_true (good h)⟩
  · obtain ⟨g1, g2⟩ := Bool.and_eq_true_iff.mp (show (decide (bootBuiltins x = some (.type n)) && decide (x ≠ "__name__")) = true from good h)
    exact ⟨He.free_ok X Gn (fact h (f := .free x) (by simp [Mi.G.fas])), of_decide_eq_true g1, of_decide_eq_true g2⟩
  · exact ⟨He.free_ok X Gn (fact h (f := .free x) (by simp [Mi.G.fas])), of_decide_eq_true (good h)⟩
  · obtain ⟨h1, h2, h3, h4⟩ := He.exc_ok (fact h (f := .exc x) (by simp [Mi.G.fas]))
    exact ⟨He.glo_ok X Gn (fact h (f := .glo x) (by simp [Mi.G.fas])), h1, h2, h3, h4⟩
  · exact He.exm_ok (He.SaysD.facts c (List.mem_append_right _ (List.mem_flatMap.mpr ⟨_, PySem.mem_of_lookup h, List.mem_append_left _ (List.mem_map.mpr ⟨x, hx, rfl⟩)⟩)))
  · exact He.exm_ok (He.SaysD.facts c (List.mem_append_right _ (List.mem_flatMap.mpr ⟨_, PySem.mem_of_lookup h, List.mem_append_right _ (List.mem_map.mpr ⟨x, hx, rfl⟩)⟩)))
  · exact c.def_ i (d := f.df) (by rw [List.getElem?_map, h]; rfl)
end Mi

set_option Elab.async false
set_option linter.all false
set_option maxRecDepth 100000
set_option maxHeartbeats 4000000
/-! MiW: plain laws of the plain language: what is wanted behind a text, loops by invariants -/
namespace Mi
variable {α β : Type}
def Wp (o : Out α) (Q : α → Mem → Prop) : Prop := match o with
  | .ok a S => Q a S
  | _ => False
def WpO (o : Option (α × Mem)) (Q : α → Mem → Prop) : Prop := match o with
  | some (a, S) => Q a S
  | none => False
def WpS (o : OS) (Q : Fl → Mem → Prop) : Prop := match o with
  | .ok f S => Q f S
  | _ => False
def WpV (o : Option (Option D)) (S : Mem) (Q : D → Mem → Prop) : Prop := match o with
  | some (some d) => Q d S
  | _ => False
def WpB (o : Option Bool) (Q : Bool → Prop) : Prop := match o with
  | some b => Q b
  | none => False
def WpC (o : Option Src) (S : Mem) (Q : Src → Mem → Prop) : Prop := match o with
  | some s => Q s S
  | none => False
theorem Wp.get {o : Out α} {Q : α → Mem → Prop} (h : Wp o Q) : ∃ a S, o = .ok a S ∧ Q a S := by
  cases o with
  | ok a S => exact ⟨a, S, rfl, h⟩
  | exc x S => exact h.elim
  | bad => exact h.elim
theorem Wp.imp {o : Out α} {Q Q' : α → Mem → Prop} (h : Wp o Q) (k : ∀ a S, Q a S → Q' a S) : Wp o Q' := by
  cases o with
  | ok a S => exact k a S h
  | exc x S => exact h.elim
  | bad => exact h.elim
theorem WpS.get {o : OS} {Q : Fl → Mem → Prop} (h : WpS o Q) : ∃ f S, o = .ok f S ∧ Q f S := by
  cases o with
  | ok a S => exact ⟨a, S, rfl, h⟩
  | exc x e S => exact h.elim
  | bad => exact h.elim
theorem WpS.imp {o : OS} {Q Q' : Fl → Mem → Prop} (h : WpS o Q) (k : ∀ a S, Q a S → Q' a S) : WpS o Q' := by
  cases o with
  | ok a S => exact k a S h
  | exc x e S => exact h.elim
  | bad => exact h.elim
theorem Wp.of {o : Out α} {a : α} {S : Mem} {Q : α → Mem → Prop} (e : o = .ok a S) (h : Q a S) : Wp o Q := by rw [e]; exact h
theorem w_bind (o : Out α) (f : α → Mem → Out β) (Q : β → Mem → Prop) : Wp (o.bind f) Q = Wp o fun a S => Wp (f a S) Q := by cases o <;> rfl
theorem w_lift (o : Option (α × Mem)) (Q : α → Mem → Prop) : Wp (lift o) Q = WpO o Q := by cases o <;> rfl
theorem w_ok (a : α) (S : Mem) (Q : α → Mem → Prop) : Wp (.ok a S) Q = Q a S := rfl
theorem wo_some (a : α) (S : Mem) (Q : α → Mem → Prop) : WpO (some (a, S)) Q = Q a S := rfl
theorem wo_none (Q : α → Mem → Prop) : WpO none Q = False := rfl
theorem wo_ite (c : Prop) [Decidable c] (a b : Option (α × Mem)) (Q : α → Mem → Prop) : WpO (if c then a else b) Q = if c then WpO a Q else WpO b Q := by split <;> rfl
theorem w_ite (c : Prop) [Decidable c] (a b : Out α) (Q : α → Mem → Prop) : Wp (if c then a else b) Q = if c then Wp a Q else Wp b Q := by split <;> rfl
theorem wv_some (d : D) (S : Mem) (Q : D → Mem → Prop) : WpV (some (some d)) S Q = Q d S := rfl
theorem wb_some (b : Bool) (Q : Bool → Prop) : WpB (some b) Q = Q b := rfl
theorem wc_some (s : Src) (S : Mem) (Q : Src → Mem → Prop) : WpC (some s) S Q = Q s S := rfl
section
variable {F : Nat → List D → Mem → Out D} {e : Env} {S : Mem} {Q : D → Mem → Prop} {a b c : E} {es lo hi : Es} {d : D}
theorem we_c : Wp (evE F (.c d) e S) Q = Q d S := rfl
theorem we_v {i : Nat} : Wp (evE F (.v i) e S) Q = WpV e[i]? S Q := by
  show Wp (match e[i]? with | some (some d) => Out.ok d S | _ => .bad) Q = _
  cases e[i]? with
  | none => rfl
  | some o => cases o <;> rfl
theorem we_bin {o : Bop} : Wp (evE F (.bin o a b) e S) Q = Wp (evE F a e S) fun x S1 => Wp (evE F b e S1) fun y S2 => WpO (o.f x y S2) Q := by
  show Wp ((evE F a e S).bind fun x S1 => (evE F b e S1).bind fun y S2 => lift (o.f x y S2)) Q = _
  simp only [w_bind, w_lift]
theorem we_cmp {o : Cop} : Wp (evE F (.cmp o a b) e S) Q = Wp (evE F a e S) fun x S1 => Wp (evE F b e S1) fun y S2 => WpO (o.f x y S2) Q := by
  show Wp ((evE F a e S).bind fun x S1 => (evE F b e S1).bind fun y S2 => lift (o.f x y S2)) Q = _
  simp only [w_bind, w_lift]
theorem we_neg : Wp (evE F (.neg a) e S) Q = Wp (evE F a e S) fun x S1 => WpO (fNeg x S1) Q := by
  show Wp ((evE F a e S).bind fun x S1 => lift (fNeg x S1)) Q = _
  simp only [w_bind, w_lift]
/-- the rest of a chain -/
def WpZ (z : D) (Q1 Q2 : Prop) : Prop := match z with
  | .bl true => Q1
  | .bl false => Q2
  | _ => False
theorem wz_bl (k : Bool) (Q1 Q2 : Prop) : WpZ (.bl k) Q1 Q2 = if k = true then Q1 else Q2 := by cases k <;> rfl
theorem we_chn {o p : Cop} : Wp (evE F (.chn o p a b c) e S) Q = Wp (evE F a e S) fun x S1 => Wp (evE F b e S1) fun y S2 => WpO (o.f x y S2) fun z S3 => WpZ z (Wp (evE F c e S3) fun w S4 => WpO (p.f y w S4) Q) (Q (.bl false) S3) := by
  show Wp ((evE F a e S).bind fun x S1 => (evE F b e S1).bind fun y S2 => (lift (o.f x y S2)).bind fun z S3 => match z with
    | .bl true => (evE F c e S3).bind fun w S4 => lift (p.f y w S4)
    | .bl false => .ok (.bl false) S3
    | _ => .bad) Q = _
  simp only [w_bind, w_lift]
  congr
  funext x S1
  congr
  funext y S2
  congr
  funext z S3
  cases z <;> first | rfl | skip
  rename_i k
  cases k
  · rfl
  · show Wp ((evE F c e S3).bind fun w S4 => lift (p.f y w S4)) Q = _
    simp only [w_bind, w_lift]
    rfl
theorem w_tru (o : Out D) (R : Bool → Mem → Prop) : Wp (truO o) R = Wp o fun d S => WpB (truth S d) fun b => R b S := by
  unfold truO
  rw [w_bind]
  congr
  funext d S
  cases truth S d <;> rfl
theorem we_no : Wp (evE F (.no a) e S) Q = Wp (evE F a e S) fun x S1 => WpB (truth S1 x) fun k => Q (.bl (!k)) S1 := by
  show Wp ((truO (evE F a e S)).bind fun b S1 => .ok (.bl (!b)) S1) Q = _
  simp only [w_bind, w_ok, w_tru]
theorem we_and : Wp (evE F (.and a b) e S) Q = Wp (evE F a e S) fun x S1 => WpB (truth S1 x) fun k => if k = true then Wp (evE F b e S1) Q else Q x S1 := by
  show Wp ((evE F a e S).bind fun x S1 => match truth S1 x with
    | some true => evE F b e S1
    | some false => .ok x S1
    | none => .bad) Q = _
  rw [w_bind]
  congr
  funext x S1
  cases truth S1 x with
  | none => rfl
  | some k => cases k <;> rfl
theorem we_or : Wp (evE F (.or a b) e S) Q = Wp (evE F a e S) fun x S1 => WpB (truth S1 x) fun k => if k = true then Q x S1 else Wp (evE F b e S1) Q := by
  show Wp ((evE F a e S).bind fun x S1 => match truth S1 x with
    | some true => .ok x S1
    | some false => evE F b e S1
    | none => .bad) Q = _
  rw [w_bind]
  congr
  funext x S1
  cases truth S1 x with
  | none => rfl
  | some k => cases k <;> rfl
theorem we_ife : Wp (evE F (.ife c a b) e S) Q = Wp (evE F c e S) fun x S1 => WpB (truth S1 x) fun k => if k = true then Wp (evE F a e S1) Q else Wp (evE F b e S1) Q := by
  show Wp ((truO (evE F c e S)).bind fun t S1 => match t with
    | true => evE F a e S1
    | false => evE F b e S1) Q = _
  rw [w_bind, w_tru]
  congr
  funext x S1
  congr
  funext k
  cases k <;> rfl
theorem we_tup : Wp (evE F (.tup es) e S) Q = Wp (evEs F es e S) fun xs S1 => xs.length ≤ line ∧ Q (.tup xs) S1 := by
  show Wp ((evEs F es e S).bind fun xs S1 => if xs.length ≤ line then .ok (.tup xs) S1 else .bad) Q = _
  rw [w_bind]
  congr
  funext xs S1
  rw [w_ite]
  by_cases h : xs.length ≤ line
  · rw [if_pos h]; simp only [h, w_ok, true_and]
  · rw [if_neg h]; simp only [h, false_and]; rfl
theorem we_lst : Wp (evE F (.lst es) e S) Q = Wp (evEs F es e S) fun xs S1 => xs.length ≤ line ∧ Q (.ref S1.length) (S1 ++ [.lst xs]) := by
  show Wp ((evEs F es e S).bind fun xs S1 => if xs.length ≤ line then .ok (.ref S1.length) (S1 ++ [.lst xs]) else .bad) Q = _
  rw [w_bind]
  congr
  funext xs S1
  rw [w_ite]
  by_cases h : xs.length ≤ line
  · rw [if_pos h]; simp only [h, w_ok, true_and]
  · rw [if_neg h]; simp only [h, false_and]; rfl
theorem we_ix : Wp (evE F (.ix a b) e S) Q = Wp (evE F a e S) fun x S1 => Wp (evE F b e S1) fun y S2 => WpO (fIx x y S2) Q := by
  show Wp ((evE F a e S).bind fun x S1 => (evE F b e S1).bind fun y S2 => lift (fIx x y S2)) Q = _
  simp only [w_bind, w_lift]
theorem we_sl : Wp (evE F (.sl a lo hi) e S) Q = Wp (evE F a e S) fun x S1 => Wp (evO F lo e S1) fun l S2 => Wp (evO F hi e S2) fun h S3 => WpO (fSl x l h S3) Q := by
  show Wp ((evE F a e S).bind fun x S1 => (evO F lo e S1).bind fun l S2 => (evO F hi e S2).bind fun h S3 => lift (fSl x l h S3)) Q = _
  simp only [w_bind, w_lift]
theorem wo_nil {R : Option Int → Mem → Prop} : Wp (evO F .nil e S) R = R none S := rfl
def WpI (x : D) (R : Int → Prop) : Prop := match x with
  | .int i => R i
  | _ => False
theorem wi_int (i : Int) (R : Int → Prop) : WpI (.int i) R = R i := rfl
theorem wo_cons {r : Es} {R : Option Int → Mem → Prop} : Wp (evO F (.cons a r) e S) R = Wp (evE F a e S) fun x S1 => WpI x fun i => R (some i) S1 := by
  show Wp ((evE F a e S).bind fun x S1 => match x with
    | .int i => .ok (some i) S1
    | _ => .bad) R = _
  rw [w_bind]
  congr
  funext x S1
  cases x <;> rfl
theorem we_bi {f : Bi} : Wp (evE F (.bi f es) e S) Q = Wp (evEs F es e S) fun xs S1 => WpO (f.f xs S1) Q := by
  show Wp ((evEs F es e S).bind fun xs S1 => lift (f.f xs S1)) Q = _
  simp only [w_bind, w_lift]
def WpM (o : Option Im) (R : Im → Prop) : Prop := match o with
  | some i => R i
  | none => False
theorem wm_some (i : Im) (R : Im → Prop) : WpM (some i) R = R i := rfl
theorem we_mt {m : Mt} : Wp (evE F (.mt m a es) e S) Q = Wp (evE F a e S) fun x S1 => WpM (m.sel S1 x) fun i => Wp (evEs F es e S1) fun xs S2 => WpO (i.f x xs S2) Q := by
  show Wp ((evE F a e S).bind fun x S1 => match m.sel S1 x with
    | some i => (evEs F es e S1).bind fun xs S2 => lift (i.f x xs S2)
    | none => .bad) Q = _
  rw [w_bind]
  congr
  funext x S1
  cases m.sel S1 x with
  | none => rfl
  | some i =>
    show Wp ((evEs F es e S1).bind fun xs S2 => lift (i.f x xs S2)) Q = _
    simp only [w_bind, w_lift]
    rfl
theorem we_call {f : Nat} : Wp (evE F (.call f es) e S) Q = Wp (evEs F es e S) fun xs S1 => Wp (F f xs S1) Q := by
  show Wp ((evEs F es e S).bind fun xs S1 => F f xs S1) Q = _
  rw [w_bind]
theorem we_lrg1 : Wp (evE F (.lrg1 a) e S) Q = Wp (evE F a e S) fun x S1 => WpO (rngLst S1 [x]) Q := by
  show Wp ((evE F a e S).bind fun x S1 => lift (rngLst S1 [x])) Q = _
  simp only [w_bind, w_lift]
theorem we_lrg2 : Wp (evE F (.lrg2 a b) e S) Q = Wp (evE F a e S) fun x S1 => Wp (evE F b e S1) fun y S2 => WpO (rngLst S2 [x, y]) Q := by
  show Wp ((evE F a e S).bind fun x S1 => (evE F b e S1).bind fun y S2 => lift (rngLst S2 [x, y])) Q = _
  simp only [w_bind, w_lift]
theorem we_rv {lo hi : Option Int} : Wp (evE F (.rv a lo hi) e S) Q = Wp (evE F a e S) fun x S1 => WpO (fRv lo hi x S1) Q := by
  show Wp ((evE F a e S).bind fun x S1 => lift (fRv lo hi x S1)) Q = _
  simp only [w_bind, w_lift]
theorem we_rpl {y z : List Nat} : Wp (evE F (.rpl a y z) e S) Q = Wp (evE F a e S) fun x S1 => WpO (fRpl y z x S1) Q := by
  show Wp ((evE F a e S).bind fun x S1 => lift (fRpl y z x S1)) Q = _
  simp only [w_bind, w_lift]
theorem we_lc {t : Tn} {it : It} {cs : Es} {own : List Nat} : Wp (evE F (.lc t it cs a own) e S) Q = Wp (evI F it e S) fun src S1 =>
    Wp (comps src (fun d => setT t d (wipeE e own)) (evT F cs) (evE F a) S1.length fuel 0 (S1 ++ [.lst []])) fun _ S2 => Q (.ref S1.length) S2 := by
  show Wp ((evI F it e S).bind fun src S1 => (comps src (fun d => setT t d (wipeE e own)) (evT F cs) (evE F a) S1.length fuel 0 (S1 ++ [.lst []])).bind fun _ S2 => .ok (.ref S1.length) S2) Q = _
  simp only [w_bind, w_ok]
theorem ws_nil {R : List D → Mem → Prop} : Wp (evEs F .nil e S) R = R [] S := rfl
theorem ws_cons {r : Es} {R : List D → Mem → Prop} : Wp (evEs F (.cons a r) e S) R = Wp (evE F a e S) fun x S1 => Wp (evEs F r e S1) fun xs S2 => R (x :: xs) S2 := by
  show Wp ((evE F a e S).bind fun x S1 => (evEs F r e S1).bind fun xs S2 => .ok (x :: xs) S2) R = _
  simp only [w_bind, w_ok]
theorem ws_star {r : Es} {R : List D → Mem → Prop} : Wp (evEs F (.star a r) e S) R = Wp (evE F a e S) fun x S1 => match seqOf S1 x with
    | some ys => Wp (evEs F r e S1) fun xs S2 => R (ys ++ xs) S2
    | none => False := by
  show Wp ((evE F a e S).bind fun x S1 => match seqOf S1 x with
    | some ys => (evEs F r e S1).bind fun xs S2 => .ok (ys ++ xs) S2
    | none => .bad) R = _
  rw [w_bind]
  congr
  funext x S1
  cases seqOf S1 x with
  | none => rfl
  | some ys => simp only [w_bind, w_ok]
theorem wt_nil {R : Bool → Mem → Prop} : Wp (evT F .nil e S) R = R true S := rfl
theorem wt_cons {r : Es} {R : Bool → Mem → Prop} : Wp (evT F (.cons a r) e S) R = Wp (evE F a e S) fun d S => WpB (truth S d) fun b => R b S := w_tru _ _
theorem wi_rng1 {R : Src → Mem → Prop} : Wp (evI F (.rng1 a) e S) R = Wp (evE F a e S) fun x S1 => WpC (rngSrc [x]) S1 R := by
  show Wp ((evE F a e S).bind fun x S1 => match rngSrc [x] with
    | some s => .ok s S1
    | none => .bad) R = _
  rw [w_bind]
  congr
  funext x S1
  cases rngSrc [x] <;> rfl
theorem wi_rng2 {R : Src → Mem → Prop} : Wp (evI F (.rng2 a b) e S) R = Wp (evE F a e S) fun x S1 => Wp (evE F b e S1) fun y S2 => WpC (rngSrc [x, y]) S2 R := by
  show Wp ((evE F a e S).bind fun x S1 => (evE F b e S1).bind fun y S2 => match rngSrc [x, y] with
    | some s => .ok s S2
    | none => .bad) R = _
  simp only [w_bind]
  congr
  funext x S1
  congr
  funext y S2
  cases rngSrc [x, y] <;> rfl
theorem wi_rng3 {R : Src → Mem → Prop} : Wp (evI F (.rng3 a b c) e S) R = Wp (evE F a e S) fun x S1 => Wp (evE F b e S1) fun y S2 => Wp (evE F c e S2) fun z S3 => WpC (rngSrc [x, y, z]) S3 R := by
  show Wp ((evE F a e S).bind fun x S1 => (evE F b e S1).bind fun y S2 => (evE F c e S2).bind fun z S3 => match rngSrc [x, y, z] with
    | some s => .ok s S3
    | none => .bad) R = _
  simp only [w_bind]
  congr
  funext x S1
  congr
  funext y S2
  congr
  funext z S3
  cases rngSrc [x, y, z] <;> rfl
theorem wi_of {R : Src → Mem → Prop} : Wp (evI F (.of a) e S) R = Wp (evE F a e S) fun x S1 => WpC (srcOf S1 x) S1 R := by
  show Wp ((evE F a e S).bind fun x S1 => match srcOf S1 x with
    | some s => .ok s S1
    | none => .bad) R = _
  rw [w_bind]
  congr
  funext x S1
  cases srcOf S1 x <;> rfl
/-! ### statements -/
variable {R : Fl → Mem → Prop} {s : Sm} {r p q : Ss}
theorem wS_up {α : Type} (o : Out α) (f : α → Mem → OS) : WpS (up e o f) R = Wp o fun a S => WpS (f a S) R := by cases o <;> rfl
theorem wS_ok (f : Fl) (S : Mem) : WpS (.ok f S) R = R f S := rfl
theorem wS_asgN {i : Nat} : WpS (evS F (.asg (.n (.nm i)) a) e S) R = Wp (evE F a e S) fun d S1 => R (.nx (e.set i (some d))) S1 := by
  show WpS (up e (evE F a e S) fun d S1 => up e (.ok (e.set i (some d)) S1) fun e1 S2 => .ok (.nx e1) S2) R = _
  simp only [wS_up, w_ok, wS_ok]
def WpE (o : Option Env) (R : Env → Prop) : Prop := match o with
  | some e => R e
  | none => False
theorem wE_some (e : Env) (R : Env → Prop) : WpE (some e) R = R e := rfl
theorem wS_asgT {ts : Tns} : WpS (evS F (.asg (.n (.tup ts)) a) e S) R = Wp (evE F a e S) fun d S1 => WpE (setT (.tup ts) d e) fun e1 => R (.nx e1) S1 := by
  show WpS (up e (evE F a e S) fun d S1 => up e (match setT (.tup ts) d e with
    | some e1 => .ok e1 S1
    | none => .bad) fun e1 S2 => .ok (.nx e1) S2) R = _
  simp only [wS_up, w_ok, wS_ok]
  congr
  funext d S1
  cases setT (.tup ts) d e <;> rfl
def WpN (o : Option Mem) (R : Mem → Prop) : Prop := match o with
  | some S => R S
  | none => False
theorem wN_some (S : Mem) (R : Mem → Prop) : WpN (some S) R = R S := rfl
theorem wS_asgS {o i : E} : WpS (evS F (.asg (.sub o i) a) e S) R = Wp (evE F a e S) fun d S1 => Wp (evE F o e S1) fun x S2 => Wp (evE F i e S2) fun y S3 => WpN (fSet x y d S3) fun S4 => R (.nx e) S4 := by
  show WpS (up e (evE F a e S) fun d S1 => up e ((evE F o e S1).bind fun x S1 => (evE F i e S1).bind fun y S2 => match fSet x y d S2 with
    | some S3 => .ok e S3
    | none => .bad) fun e1 S2 => .ok (.nx e1) S2) R = _
  simp only [wS_up, w_bind, wS_ok]
  congr
  funext d S1
  congr
  funext x S2
  congr
  funext y S3
  cases fSet x y d S3 <;> rfl
theorem wS_par2 {i j : Nat} : WpS (evS F (.par2 i j a b) e S) R = Wp (evE F a e S) fun x S1 => Wp (evE F b e S1) fun y S2 => R (.nx ((e.set i (some x)).set j (some y))) S2 := by
  show WpS (up e (evE F a e S) fun x S1 => up e (evE F b e S1) fun y S2 => .ok (.nx ((e.set i (some x)).set j (some y))) S2) R = _
  simp only [wS_up, wS_ok]
theorem wS_par3 {i j k : Nat} : WpS (evS F (.par3 i j k a b c) e S) R = Wp (evE F a e S) fun x S1 => Wp (evE F b e S1) fun y S2 => Wp (evE F c e S2) fun z S3 => R (.nx (((e.set i (some x)).set j (some y)).set k (some z))) S3 := by
  show WpS (up e (evE F a e S) fun x S1 => up e (evE F b e S1) fun y S2 => up e (evE F c e S2) fun z S3 => .ok (.nx (((e.set i (some x)).set j (some y)).set k (some z))) S3) R = _
  simp only [wS_up, wS_ok]
theorem wS_aug {i : Nat} {o : Bop} : WpS (evS F (.aug i o a) e S) R = WpV e[i]? S fun x S0 => Wp (evE F a e S0) fun y S1 => WpO (fAug o x y S1) fun z S2 => R (.nx (e.set i (some z))) S2 := by
  show WpS (match e[i]? with
    | some (some x) => up e (evE F a e S) fun y S1 => up e (lift (fAug o x y S1)) fun z S2 => .ok (.nx (e.set i (some z))) S2
    | _ => .bad) R = _
  cases e[i]? with
  | none => rfl
  | some od =>
    cases od with
    | none => rfl
    | some x =>
      show WpS (up e (evE F a e S) fun y S1 => up e (lift (fAug o x y S1)) fun z S2 => .ok (.nx (e.set i (some z))) S2) R = _
      simp only [wS_up, wS_ok, w_lift]
      rfl
theorem wS_ex : WpS (evS F (.ex a) e S) R = Wp (evE F a e S) fun _ S1 => R (.nx e) S1 := by
  show WpS (up e (evE F a e S) fun _ S1 => .ok (.nx e) S1) R = _
  simp only [wS_up, wS_ok]
theorem wS_ret : WpS (evS F (.ret a) e S) R = Wp (evE F a e S) fun d S1 => R (.rt d) S1 := by
  show WpS (up e (evE F a e S) fun d S1 => .ok (.rt d) S1) R = _
  simp only [wS_up, wS_ok]
theorem wS_retN : WpS (evS F .retN e S) R = R (.rt .non) S := rfl
theorem wS_iff : WpS (evS F (.iff a p q) e S) R = Wp (evE F a e S) fun d S1 => WpB (truth S1 d) fun k => if k = true then WpS (evSs F p e S1) R else WpS (evSs F q e S1) R := by
  show WpS (up e (truO (evE F a e S)) fun t S1 => match t with
    | true => evSs F p e S1
    | false => evSs F q e S1) R = _
  rw [wS_up, w_tru]
  congr
  funext d S1
  congr
  funext k
  cases k <;> rfl
theorem wS_pass : WpS (evS F .pass e S) R = R (.nx e) S := rfl
theorem wS_brk : WpS (evS F .brk e S) R = R (.bk e) S := rfl
theorem wS_cont : WpS (evS F .cont e S) R = R (.ct e) S := rfl
theorem wS_rai {x : PySem.Str} : WpS (evS F (.rai x) e S) R = False := rfl
theorem wS_never : WpS (evS F .never e S) R = False := rfl
def WpF (f : Fl) (N : Env → Prop) (R : Fl → Prop) : Prop := match f with
  | .nx e => N e
  | f => R f
theorem wF_nx (e : Env) (N : Env → Prop) (R : Fl → Prop) : WpF (.nx e) N R = N e := rfl
theorem wF_rt (d : D) (N : Env → Prop) (R : Fl → Prop) : WpF (.rt d) N R = R (.rt d) := rfl
theorem wF_bk (e : Env) (N : Env → Prop) (R : Fl → Prop) : WpF (.bk e) N R = R (.bk e) := rfl
theorem wF_ct (e : Env) (N : Env → Prop) (R : Fl → Prop) : WpF (.ct e) N R = R (.ct e) := rfl
theorem wS_nil : WpS (evSs F .nil e S) R = R (.nx e) S := rfl
theorem wS_cons : WpS (evSs F (.cons s r) e S) R = WpS (evS F s e S) fun f S1 => WpF f (fun e1 => WpS (evSs F r e1 S1) R) fun f => R f S1 := by
  show WpS (match evS F s e S with
    | .ok (.nx e1) S1 => evSs F r e1 S1
    | .ok (.bk e1) S1 => .ok (.bk e1) S1
    | .ok (.ct e1) S1 => .ok (.ct e1) S1
    | .ok (.rt d) S1 => .ok (.rt d) S1
    | .exc x e1 S1 => .exc x e1 S1
    | .bad => .bad) R = _
  cases evS F s e S with
  | bad => rfl
  | exc x e1 S1 => rfl
  | ok f S1 => cases f <;> rfl
theorem wS_for {t : Tn} {it : It} : WpS (evS F (.for_ t it p) e S) R = Wp (evI F it e S) fun src S1 => WpS (turns src (fun d e1 S2 => match setT t d e1 with
    | some e2 => evSs F p e2 S2
    | none => .bad) fuel 0 e S1) R := by
  show WpS (up e (evI F it e S) fun src S1 => turns src (fun d e1 S2 => match setT t d e1 with
    | some e2 => evSs F p e2 S2
    | none => .bad) fuel 0 e S1) R = _
  rw [wS_up]
theorem wS_whl : WpS (evS F (.whl a p) e S) R = WpS (whiles (fun e1 S1 => truO (evE F a e1 S1)) (evSs F p) fuel e S) R := rfl
end
/-! ### defs -/
theorem wp_run {ds : List Df} {k i : Nat} {d : Df} {as : List D} {S : Mem} {Q : D → Mem → Prop} (hd : ds[i]? = some d) (hl : as.length = d.ar)
    (h : WpS (evSs (run ds k) d.body (as.map some ++ List.replicate (d.sl - d.ar) none) S) fun f S1 => match f with
      | .rt v => Q v S1
      | .nx _ => Q .non S1
      | _ => False) : Wp (run ds (k + 1) i as S) Q := by
  show Wp (match ds[i]? with
    | some d => runD (run ds k) d as S
    | none => .bad) Q
  rw [hd]
  show Wp (if as.length = d.ar then (match evSs (run ds k) d.body (as.map some ++ List.replicate (d.sl - d.ar) none) S with
    | .ok (.rt v) S1 => .ok v S1
    | .ok (.nx _) S1 => .ok .non S1
    | .exc x _ S1 => .exc x S1
    | _ => .bad) else .bad) Q
  rw [if_pos hl]
  obtain ⟨f, S1, e, q⟩ := h.get
  rw [e]
  cases f <;> first | exact q | exact q.elim
/-! ### loops -/
theorem wp_turns {src : Src} {step : D → Env → Mem → OS} {R : Fl → Mem → Prop} (xs : List D) (P : Nat → Env → Mem → Prop) (hsrc : ∀ i e S, P i e S → src.at_ S i = some xs[i]?)
    (hs : ∀ i d e S, xs[i]? = some d → P i e S → WpS (step d e S) fun f S1 => match f with
      | .nx e1 => P (i + 1) e1 S1
      | .ct e1 => P (i + 1) e1 S1
      | .bk e1 => R (.nx e1) S1
      | .rt v => R (.rt v) S1)
    (hd : ∀ e S, P xs.length e S → R (.nx e) S) : ∀ (n i : Nat) (e : Env) (S : Mem), xs.length - i < n → i ≤ xs.length → P i e S → WpS (turns src step n i e S) R
  | 0, i, e, S, hn, _, _ => absurd hn (Nat.not_lt_zero _)
  | n + 1, i, e, S, hn, hi, hp => by
    show WpS (match src.at_ S i with
      | none => .bad
      | some none => .ok (.nx e) S
      | some (some d) => match step d e S with
        | .ok (.nx e1) S1 => turns src step n (i + 1) e1 S1
        | .ok (.ct e1) S1 => turns src step n (i + 1) e1 S1
        | .ok (.bk e1) S1 => .ok (.nx e1) S1
        | .ok (.rt d) S1 => .ok (.rt d) S1
        | .exc x e1 S1 => .exc x e1 S1
        | .bad => .bad) R
    rw [hsrc i e S hp]
    cases hx : xs[i]? with
    | none =>
      have : xs.length ≤ i := List.getElem?_eq_none_iff.mp hx
      have e1 : i = xs.length := by omega
      subst e1
      exact hd e S hp
    | some d =>
      have hlt : i < xs.length := (List.getElem?_eq_some_iff.mp hx).1
      obtain ⟨f, S1, e1, q⟩ := (hs i d e S hx hp).get
      dsimp only
      rw [e1]
      cases f with
      | nx e2 => exact wp_turns xs P hsrc hs hd n (i + 1) e2 S1 (by omega) hlt q
      | ct e2 => exact wp_turns xs P hsrc hs hd n (i + 1) e2 S1 (by omega) hlt q
      | bk e2 => exact q
      | rt v => exact q
theorem wp_whiles {c : Env → Mem → Out Bool} {body : Env → Mem → OS} {R : Fl → Mem → Prop} (P : Nat → Env → Mem → Prop)
    (hs : ∀ m e S, P m e S → Wp (c e S) fun b S1 => if b = true then WpS (body e S1) fun f S2 => match f with
      | .nx e1 => ∃ m', m' < m ∧ P m' e1 S2
      | .ct e1 => ∃ m', m' < m ∧ P m' e1 S2
      | .bk e1 => R (.nx e1) S2
      | .rt v => R (.rt v) S2 else R (.nx e) S1) : ∀ (n m : Nat) (e : Env) (S : Mem), m < n → P m e S → WpS (whiles c body n e S) R
  | 0, m, e, S, hn, _ => absurd hn (Nat.not_lt_zero _)
  | n + 1, m, e, S, hn, hp => by
    obtain ⟨b, S1, e1, q⟩ := (hs m e S hp).get
    show WpS (match c e S with
      | .bad => .bad
      | .exc x S1 => .exc x e S1
      | .ok false S1 => .ok (.nx e) S1
      | .ok true S1 => match body e S1 with
        | .ok (.nx e1) S2 => whiles c body n e1 S2
        | .ok (.ct e1) S2 => whiles c body n e1 S2
        | .ok (.bk e1) S2 => .ok (.nx e1) S2
        | .ok (.rt d) S2 => .ok (.rt d) S2
        | .exc x e1 S2 => .exc x e1 S2
        | .bad => .bad) R
    rw [e1]
    cases b with
    | false => rw [if_neg (by decide)] at q; exact q
    | true =>
      rw [if_pos rfl] at q
      obtain ⟨f, S2, e2, q2⟩ := q.get
      dsimp only
      rw [e2]
      cases f with
      | nx e3 =>
        obtain ⟨m', h1, h2⟩ := q2
        exact wp_whiles P hs n m' e3 S2 (by omega) h2
      | ct e3 =>
        obtain ⟨m', h1, h2⟩ := q2
        exact wp_whiles P hs n m' e3 S2 (by omega) h2
      | bk e3 => exact q2
      | rt v => exact q2
theorem lst_set {S : Mem} {n : Nat} {xs ys : List D} (h : lstAt S n = some xs) : lstAt (S.set n (.lst ys)) n = some ys := by
  have h1 := lstAt_eq h
  have hl : n < S.length := (List.getElem?_eq_some_iff.mp h1).1
  unfold lstAt
  rw [List.getElem?_set_self hl]
theorem wp_comps {src : Src} {put : D → Option Env} {test : Env → Mem → Out Bool} {elt : Env → Mem → Out D} {l : Nat} {Q : Unit → Mem → Prop} (xs : List D) (P : Nat → List D → Mem → Prop) (hsrc : ∀ i acc S, P i acc S → src.at_ S i = some xs[i]?)
    (hs : ∀ i d acc S, xs[i]? = some d → lstAt S l = some acc → P i acc S → WpE (put d) fun e => Wp (test e S) fun b S1 => if b = true then Wp (elt e S1) fun y S2 => lstAt S2 l = some acc ∧ acc.length < line ∧ P (i + 1) (acc ++ [y]) (S2.set l (.lst (acc ++ [y])))
      else lstAt S1 l = some acc ∧ P (i + 1) acc S1)
    (hd : ∀ acc S, lstAt S l = some acc → P xs.length acc S → Q () S) : ∀ (n i : Nat) (acc : List D) (S : Mem), xs.length - i < n → i ≤ xs.length → lstAt S l = some acc → P i acc S → Wp (comps src put test elt l n i S) Q
  | 0, i, acc, S, hn, _, _, _ => absurd hn (Nat.not_lt_zero _)
  | n + 1, i, acc, S, hn, hi, hl, hp => by
    show Wp (match src.at_ S i with
      | none => .bad
      | some none => .ok () S
      | some (some d) => match put d with
        | none => .bad
        | some e => match test e S with
          | .ok false S1 => comps src put test elt l n (i + 1) S1
          | .ok true S1 => (match elt e S1 with
            | .ok y S2 => (match lstAt S2 l with
              | some acc => if acc.length < line then comps src put test elt l n (i + 1) (S2.set l (.lst (acc ++ [y]))) else .bad
              | none => .bad)
            | _ => .bad)
          | _ => .bad) Q
    rw [hsrc i acc S hp]
    cases hx : xs[i]? with
    | none =>
      have : xs.length ≤ i := List.getElem?_eq_none_iff.mp hx
      have e1 : i = xs.length := by omega
      subst e1
      exact hd acc S hl hp
    | some d =>
      have hlt : i < xs.length := (List.getElem?_eq_some_iff.mp hx).1
      have h1 := hs i d acc S hx hl hp
      dsimp only
      cases e0 : put d with
      | none => rw [e0] at h1; exact h1.elim
      | some e =>
        rw [e0] at h1
        have h1' : Wp (test e S) fun b S1 => if b = true then Wp (elt e S1) fun y S2 => lstAt S2 l = some acc ∧ acc.length < line ∧ P (i + 1) (acc ++ [y]) (S2.set l (.lst (acc ++ [y])))
          else lstAt S1 l = some acc ∧ P (i + 1) acc S1 := h1
        obtain ⟨b, S1, e1, q⟩ := h1'.get
        dsimp only
        rw [e1]
        cases b with
        | false =>
          rw [if_neg (by decide)] at q
          exact wp_comps xs P hsrc hs hd n (i + 1) acc S1 (by omega) hlt q.1 q.2
        | true =>
          rw [if_pos rfl] at q
          obtain ⟨y, S2, e2, q1, q2, q3⟩ := q.get
          dsimp only
          rw [e2]
          dsimp only
          rw [q1]
          dsimp only
          rw [if_pos q2]
          exact wp_comps xs P hsrc hs hd n (i + 1) _ _ (by omega) hlt (lst_set q1) q3
/-! ### plain memories that grow -/
theorem lst_pre {S T : Mem} {n : Nat} {xs : List D} (p : S <+: T) (h : lstAt S n = some xs) : lstAt T n = some xs := by
  have h1 := lstAt_eq h
  have hl : n < S.length := (List.getElem?_eq_some_iff.mp h1).1
  obtain ⟨t, rfl⟩ := p
  unfold lstAt
  rw [List.getElem?_append_left hl, h1]
theorem lst_new (S : Mem) (xs : List D) : lstAt (S ++ [.lst xs]) S.length = some xs := by
  unfold lstAt
  rw [List.getElem?_append_right (Nat.le_refl _), Nat.sub_self]
  rfl
theorem lst_lt {S : Mem} {n : Nat} {xs : List D} (h : lstAt S n = some xs) : n < S.length := (List.getElem?_eq_some_iff.mp (lstAt_eq h)).1
theorem lst_set_ne {S : Mem} {n m : Nat} {c : Cell} (h : n ≠ m) : lstAt (S.set n c) m = lstAt S m := by
  unfold lstAt
  rw [List.getElem?_set_ne h]
theorem pre_set {S T : Mem} {n : Nat} {c : Cell} (p : S <+: T) (h : S.length ≤ n) : S <+: T.set n c := by
  obtain ⟨t, rfl⟩ := p
  rw [List.set_append_right _ _ h]
  exact ⟨_, rfl⟩
theorem pre_len {S T : Mem} (p : S <+: T) : S.length ≤ T.length := p.length_le
/-- [f(d) for d in xs]: the elements leave the memory as it is, but that it grows -/
theorem at_items (xs : List D) (S0 : Mem) : ∀ (i : Nat) (S : Mem), S0 <+: S → (Src.items xs).at_ S i = some xs[i]? := fun _ _ _ => rfl
theorem at_cell {xs : List D} {S0 : Mem} {n : Nat} (h : lstAt S0 n = some xs) : ∀ (i : Nat) (S : Mem), S0 <+: S → (Src.cell n).at_ S i = some xs[i]? := fun i S p => by
  show (match lstAt S n with
    | some xs => some xs[i]?
    | none => none) = _
  rw [lst_pre p h]
theorem wp_map {src : Src} {xs : List D} {put : D → Option Env} {F : Nat → List D → Mem → Out D} {elt : Env → Mem → Out D} {S0 : Mem} {Q : Unit → Mem → Prop} (f : D → D) (hsrc : ∀ i S, S0 <+: S → src.at_ S i = some xs[i]?) (hlen : xs.length ≤ line)
    (hs : ∀ d S, d ∈ xs → S0 <+: S → WpE (put d) fun e => Wp (elt e S) fun y S2 => y = f d ∧ S <+: S2)
    (hd : ∀ S, S0 <+: S → lstAt S S0.length = some (xs.map f) → Q () S) : Wp (comps src put (evT F .nil) elt S0.length fuel 0 (S0 ++ [.lst []])) Q := by
  have hf : xs.length < fuel := Nat.lt_of_le_of_lt hlen (by decide)
  refine wp_comps xs (fun i acc S => S0 <+: S ∧ acc = (xs.take i).map f) (fun i acc S h => hsrc i S h.1) (fun i d acc S hx hl ⟨hp, ha⟩ => ?_) (fun acc S hl ⟨hp, ha⟩ => hd S hp (by rw [hl, ha, List.take_length])) fuel 0 [] _ (by omega) (Nat.zero_le _) (lst_new _ _) ⟨⟨_, rfl⟩, rfl⟩
  have hlt : i < xs.length := (List.getElem?_eq_some_iff.mp hx).1
  have h1 := hs d S (List.mem_of_getElem? hx) hp
  cases e : put d with
  | none => rw [e] at h1; exact h1.elim
  | some env =>
    rw [e] at h1
    rw [wE_some, wt_nil, if_pos rfl]
    refine Wp.imp (show Wp (elt env S) _ from h1) fun y S2 ⟨hy, hp2⟩ => ⟨lst_pre hp2 hl, ?_, pre_set (hp.trans hp2) (Nat.le_refl _), ?_⟩
    · rw [ha, List.length_map, List.length_take]; omega
    · rw [ha, hy, List.take_add_one, hx]
      simp
/-- [f(d) for d in xs if p(d)] -/
theorem wp_filter {src : Src} {xs : List D} {put : D → Option Env} {test : Env → Mem → Out Bool} {elt : Env → Mem → Out D} {S0 : Mem} {Q : Unit → Mem → Prop} (p : D → Bool) (f : D → D) (hsrc : ∀ i S, S0 <+: S → src.at_ S i = some xs[i]?) (hlen : xs.length ≤ line)
    (hs : ∀ d S, d ∈ xs → S0 <+: S → WpE (put d) fun e => Wp (test e S) fun b S1 => b = p d ∧ S <+: S1 ∧ (b = true → Wp (elt e S1) fun y S2 => y = f d ∧ S1 <+: S2))
    (hd : ∀ S, S0 <+: S → lstAt S S0.length = some ((xs.filter p).map f) → Q () S) : Wp (comps src put test elt S0.length fuel 0 (S0 ++ [.lst []])) Q := by
  have hf : xs.length < fuel := Nat.lt_of_le_of_lt hlen (by decide)
  refine wp_comps xs (fun i acc S => S0 <+: S ∧ acc = ((xs.take i).filter p).map f) (fun i acc S h => hsrc i S h.1) (fun i d acc S hx hl ⟨hp, ha⟩ => ?_) (fun acc S hl ⟨hp, ha⟩ => hd S hp (by rw [hl, ha, List.take_length])) fuel 0 [] _ (by omega) (Nat.zero_le _) (lst_new _ _) ⟨⟨_, rfl⟩, rfl⟩
  have hlt : i < xs.length := (List.getElem?_eq_some_iff.mp hx).1
  have h1 := hs d S (List.mem_of_getElem? hx) hp
  have ht : xs.take (i + 1) = xs.take i ++ [d] := by rw [List.take_add_one, hx]; rfl
  cases e : put d with
  | none => rw [e] at h1; exact h1.elim
  | some env =>
    rw [e] at h1
    refine Wp.imp (show Wp (test env S) _ from h1) fun b S1 ⟨hb, hp1, k⟩ => ?_
    cases b with
    | false =>
      rw [if_neg (by decide)]
      refine ⟨lst_pre hp1 hl, hp.trans hp1, ?_⟩
      rw [ht, ha, List.filter_append]
      simp [← hb]
    | true =>
      rw [if_pos rfl]
      refine Wp.imp (k rfl) fun y S2 ⟨hy, hp2⟩ => ⟨lst_pre hp2 (lst_pre hp1 hl), ?_, pre_set (hp.trans (hp1.trans hp2)) (Nat.le_refl _), ?_⟩
      · rw [ha, List.length_map]
        have := List.length_filter_le p (xs.take i)
        rw [List.length_take] at this
        omega
      · rw [ht, ha, hy, List.filter_append]
        simp [← hb]
/-! ### what is raised -/
def Wx {α : Type} (o : Out α) (R : Xn → Mem → Prop) : Prop := match o with
  | .exc x S => R x S
  | _ => False
def WxS (o : OS) (R : Xn → Env → Mem → Prop) : Prop := match o with
  | .exc x e S => R x e S
  | _ => False
section
variable {F : Nat → List D → Mem → Out D} {e : Env} {S : Mem} {a : E} {es : Es} {s : Sm} {r p q : Ss} {R : Xn → Env → Mem → Prop}
theorem WxS.get {o : OS} (h : WxS o R) : ∃ x e S, o = .exc x e S ∧ R x e S := by
  cases o with
  | ok f S => exact h.elim
  | exc x e S => exact ⟨x, e, S, rfl, h⟩
  | bad => exact h.elim
theorem Wx.get {α : Type} {o : Out α} {R : Xn → Mem → Prop} (h : Wx o R) : ∃ x S, o = .exc x S ∧ R x S := by
  cases o with
  | ok f S => exact h.elim
  | exc x S => exact ⟨x, S, rfl, h⟩
  | bad => exact h.elim
theorem wx_later (h : WpS (evS F s e S) fun f S1 => ∃ e1, f = .nx e1 ∧ WxS (evSs F r e1 S1) R) : WxS (evSs F (.cons s r) e S) R := by
  obtain ⟨f, S1, e1, e2, rfl, q⟩ := h.get
  show WxS (match evS F s e S with
    | .ok (.nx e1) S1 => evSs F r e1 S1
    | .ok (.bk e1) S1 => .ok (.bk e1) S1
    | .ok (.ct e1) S1 => .ok (.ct e1) S1
    | .ok (.rt d) S1 => .ok (.rt d) S1
    | .exc x e1 S1 => .exc x e1 S1
    | .bad => .bad) R
  rw [e1]
  exact q
theorem wx_here (h : WxS (evS F s e S) R) : WxS (evSs F (.cons s r) e S) R := by
  obtain ⟨x, e1, S1, h1, q⟩ := h.get
  show WxS (match evS F s e S with
    | .ok (.nx e1) S1 => evSs F r e1 S1
    | .ok (.bk e1) S1 => .ok (.bk e1) S1
    | .ok (.ct e1) S1 => .ok (.ct e1) S1
    | .ok (.rt d) S1 => .ok (.rt d) S1
    | .exc x e1 S1 => .exc x e1 S1
    | .bad => .bad) R
  rw [h1]
  exact q
theorem wx_iff (h : Wp (evE F a e S) fun d S1 => truth S1 d = some true ∧ WxS (evSs F p e S1) R) : WxS (evS F (.iff a p q) e S) R := by
  obtain ⟨d, S1, h1, h2, h3⟩ := h.get
  have h5 : truO (Out.ok d S1) = (match truth S1 d with
    | some b => Out.ok b S1
    | none => .bad) := rfl
  have h4 : truO (evE F a e S) = .ok true S1 := by
    rw [h1, h5, h2]
  show WxS (up e (truO (evE F a e S)) fun t S1 => match t with
    | true => evSs F p e S1
    | false => evSs F q e S1) R
  rw [h4]
  exact h3
theorem wx_rai {x : PySem.Str} (h : R ⟨x, []⟩ e S) : WxS (evS F (.rai x) e S) R := h
theorem wx_asgc {t : Tg} {f : Nat} (h : Wp (evEs F es e S) fun xs S1 => Wx (F f xs S1) fun x S2 => R x e S2) : WxS (evS F (.asg t (.call f es)) e S) R := by
  obtain ⟨xs, S1, h1, h2⟩ := h.get
  obtain ⟨x, S2, h3, h4⟩ := h2.get
  show WxS (up e ((evEs F es e S).bind fun xs S1 => F f xs S1) fun d S1 => up e (evG F t d e S1) fun e1 S2 => .ok (.nx e1) S2) R
  rw [h1]
  show WxS (up e (F f xs S1) fun d S1 => up e (evG F t d e S1) fun e1 S2 => .ok (.nx e1) S2) R
  rw [h3]
  exact h4
theorem wx_run {ds : List Df} {k i : Nat} {d : Df} {as : List D} {R : Xn → Mem → Prop} (hd : ds[i]? = some d) (hl : as.length = d.ar)
    (h : WxS (evSs (run ds k) d.body (as.map some ++ List.replicate (d.sl - d.ar) none) S) fun x _ S1 => R x S1) : Wx (run ds (k + 1) i as S) R := by
  show Wx (match ds[i]? with
    | some d => runD (run ds k) d as S
    | none => .bad) R
  rw [hd]
  show Wx (if as.length = d.ar then (match evSs (run ds k) d.body (as.map some ++ List.replicate (d.sl - d.ar) none) S with
    | .ok (.rt v) S1 => .ok v S1
    | .ok (.nx _) S1 => .ok .non S1
    | .exc x _ S1 => .exc x S1
    | _ => .bad) else .bad) R
  rw [if_pos hl]
  obtain ⟨x, e1, S1, h1, q⟩ := h.get
  rw [h1]
  exact q
theorem wS_triX {hs : Hs} {Q : Fl → Mem → Prop} (h : WxS (evSs F p e S) fun x e1 S1 => WpS (evH F hs x e1 S1) Q) : WpS (evS F (.tri p hs) e S) Q := by
  obtain ⟨x, e1, S1, h1, q⟩ := h.get
  show WpS (match evSs F p e S with
    | .exc x e1 S1 => evH F hs x e1 S1
    | .ok f S1 => .ok f S1
    | .bad => .bad) Q
  rw [h1]
  exact q
theorem wS_triO {hs : Hs} {Q : Fl → Mem → Prop} (h : WpS (evSs F p e S) Q) : WpS (evS F (.tri p hs) e S) Q := by
  obtain ⟨f, S1, h1, q⟩ := h.get
  show WpS (match evSs F p e S with
    | .exc x e1 S1 => evH F hs x e1 S1
    | .ok f S1 => .ok f S1
    | .bad => .bad) Q
  rw [h1]
  exact q
theorem wH_take {ys zs : List PySem.Str} {hs : Hs} {x : Xn} {Q : Fl → Mem → Prop} (hx : x.cls ∈ ys) (h : WpS (evSs F p e S) Q) : WpS (evH F (.cons ys zs p hs) x e S) Q := by
  obtain ⟨f, S1, h1, q⟩ := h.get
  show WpS (if x.cls ∈ ys then (match evSs F p e S with
    | .ok f S1 => .ok f S1
    | _ => .bad) else if x.cls ∈ zs then evH F hs x e S else .bad) Q
  rw [if_pos hx, h1]
  exact q
end
end Mi

set_option Elab.async false
set_option linter.all false
set_option maxRecDepth 100000
set_option maxHeartbeats 4000000
/-! MiX: what the operations give, for the plain laws -/
namespace Mi
open L2
section
variable {S : Mem} {Q : D → Mem → Prop}
def WpL (o : Option (List D)) (R : List D → Prop) : Prop := match o with
  | some xs => R xs
  | none => False
theorem wl_some (xs : List D) (R : List D → Prop) : WpL (some xs) R = R xs := rfl
def WpJ (o : Option (List Int)) (R : List Int → Prop) : Prop := match o with
  | some xs => R xs
  | none => False
theorem wj_some (xs : List Int) (R : List Int → Prop) : WpJ (some xs) R = R xs := rfl
def WpA (o : Option D) (R : D → Prop) : Prop := match o with
  | some d => R d
  | none => False
theorem wa_some (d : D) (R : D → Prop) : WpA (some d) R = R d := rfl
theorem add_ii (i j : Int) : WpO (fAdd (.int i) (.int j) S) Q = Q (.int (i + j)) S := rfl
theorem add_ss (x y : List Nat) : WpO (fAdd (.str x) (.str y) S) Q = if x.length + y.length ≤ line then Q (.str (x ++ y)) S else False := by
  show WpO (if x.length + y.length ≤ line then some (.str (x ++ y), S) else none) Q = _
  rw [wo_ite]; rfl
theorem add_rr (n m : Nat) : WpO (fAdd (.ref n) (.ref m) S) Q = WpL (lstAt S n) fun xs => WpL (lstAt S m) fun ys => if xs.length + ys.length ≤ line then Q (.ref S.length) (S ++ [.lst (xs ++ ys)]) else False := by
  show WpO (match lstAt S n, lstAt S m with
    | some xs, some ys => if xs.length + ys.length ≤ line then some (.ref S.length, S ++ [.lst (xs ++ ys)]) else none
    | _, _ => none) Q = _
  cases lstAt S n with
  | none => rfl
  | some xs =>
    cases lstAt S m with
    | none => rfl
    | some ys => simp only [wl_some]; rw [wo_ite]; rfl
theorem sub_ii (i j : Int) : WpO (fSub (.int i) (.int j) S) Q = Q (.int (i - j)) S := rfl
theorem mul_ii (i j : Int) : WpO (fMul (.int i) (.int j) S) Q = if mulOk i j = true then Q (.int (i * j)) S else False := by
  show WpO (if mulOk i j = true then some (.int (i * j), S) else none) Q = _
  rw [wo_ite]; rfl
theorem mul_si (x : List Nat) (j : Int) : WpO (fMul (.str x) (.int j) S) Q = if 0 ≤ j ∧ j ≤ 1000000 ∧ x.length ≤ 1000000 ∧ x.length * j.toNat ≤ line then Q (.str (List.replicate j.toNat x).flatten) S else False := by
  show WpO (if 0 ≤ j ∧ j ≤ 1000000 ∧ x.length ≤ 1000000 ∧ x.length * j.toNat ≤ line then some (.str (List.replicate j.toNat x).flatten, S) else none) Q = _
  rw [wo_ite]; rfl
theorem div_ii (i j : Int) : WpO (fDiv (.int i) (.int j) S) Q = if 0 < j ∧ j.natAbs.log2 < 9000 then Q (.int (i / j)) S else False := by
  show WpO (if 0 < j ∧ j.natAbs.log2 < 9000 then some (.int (i / j), S) else none) Q = _
  rw [wo_ite]; rfl
theorem mod_ii (i j : Int) : WpO (fMod (.int i) (.int j) S) Q = if 0 < j then Q (.int (i % j)) S else False := by
  show WpO (if 0 < j then some (.int (i % j), S) else none) Q = _
  rw [wo_ite]; rfl
theorem pow_ii (i j : Int) : WpO (fPow (.int i) (.int j) S) Q = if 0 ≤ j ∧ (i.natAbs.log2 + 1) * j.toNat ≤ 1000000 then Q (.int (i ^ j.toNat)) S else False := by
  show WpO (if 0 ≤ j ∧ (i.natAbs.log2 + 1) * j.toNat ≤ 1000000 then some (.int (i ^ j.toNat), S) else none) Q = _
  rw [wo_ite]; rfl
theorem neg_i (i : Int) : WpO (fNeg (.int i) S) Q = Q (.int (-i)) S := rfl
theorem eq_ii (i j : Int) : WpO (fEq (.int i) (.int j) S) Q = Q (.bl (decide (i = j))) S := rfl
theorem ne_ii (i j : Int) : WpO (fNe (.int i) (.int j) S) Q = Q (.bl (!decide (i = j))) S := rfl
theorem eq_ss (i j : List Nat) : WpO (fEq (.str i) (.str j) S) Q = Q (.bl (decide (i = j))) S := rfl
theorem ne_ss (i j : List Nat) : WpO (fNe (.str i) (.str j) S) Q = Q (.bl (!decide (i = j))) S := rfl
theorem lt_ii (i j : Int) : WpO (fLt (.int i) (.int j) S) Q = Q (.bl (decide (i < j))) S := rfl
theorem le_ii (i j : Int) : WpO (fLe (.int i) (.int j) S) Q = Q (.bl (decide (i ≤ j))) S := rfl
theorem gt_ii (i j : Int) : WpO (fGt (.int i) (.int j) S) Q = Q (.bl (decide (j < i))) S := rfl
theorem ge_ii (i j : Int) : WpO (fGe (.int i) (.int j) S) Q = Q (.bl (decide (j ≤ i))) S := rfl
theorem eq_bb (a b : Bool) : WpO (fEq (.bl a) (.bl b) S) Q = Q (.bl (decide (a = b))) S := by cases a <;> cases b <;> rfl
theorem ne_bb (a b : Bool) : WpO (fNe (.bl a) (.bl b) S) Q = Q (.bl (!decide (a = b))) S := by cases a <;> cases b <;> rfl
theorem in_cs (c : Nat) (cs : List Nat) : WpO (fIn (.str [c]) (.str cs) S) Q = Q (.bl (decide (c ∈ cs))) S := rfl
theorem tr_b (b : Bool) : truth S (.bl b) = some b := rfl
theorem tr_i (i : Int) : truth S (.int i) = some (i != 0) := rfl
theorem ix_r (n : Nat) (i : Int) : WpO (fIx (.ref n) (.int i) S) Q = WpL (lstAt S n) fun xs => WpA (atI xs i) fun d => Q d S := by
  show WpO (match lstAt S n with
    | some xs => (match atI xs i with
      | some d => some (d, S)
      | none => none)
    | none => none) Q = _
  cases lstAt S n with
  | none => rfl
  | some xs =>
    rw [wl_some]
    dsimp only
    cases atI xs i <;> rfl
theorem ix_t (xs : List D) (i : Int) : WpO (fIx (.tup xs) (.int i) S) Q = WpA (atI xs i) fun d => Q d S := by
  show WpO (match atI xs i with
      | some d => some (d, S)
      | none => none) Q = _
  cases atI xs i <;> rfl
theorem ix_f (xs : List D) (i : Int) : WpO (fIx (.fl xs) (.int i) S) Q = WpA (atI xs i) fun d => Q d S := by
  show WpO (match atI xs i with
      | some d => some (d, S)
      | none => none) Q = _
  cases atI xs i <;> rfl
theorem ix_s (cs : List Nat) (i : Int) : WpO (fIx (.str cs) (.int i) S) Q = if cs.length ≤ line then WpA ((atI cs i).map fun c => D.str [c]) fun d => Q d S else False := by
  show WpO (if cs.length ≤ line then (match atI cs i with
    | some c => some (.str [c], S)
    | none => none) else none) Q = _
  rw [wo_ite]
  cases atI cs i <;> rfl
theorem sl_s (cs : List Nat) (lo hi : Option Int) : WpO (fSl (.str cs) lo hi S) Q = if cs.length ≤ line then Q (.str (cutL cs lo hi)) S else False := by
  show WpO (if cs.length ≤ line then some (.str (cutL cs lo hi), S) else none) Q = _
  rw [wo_ite]; rfl
theorem sl_r (n : Nat) (lo hi : Option Int) : WpO (fSl (.ref n) lo hi S) Q = WpL (lstAt S n) fun xs => Q (.ref S.length) (S ++ [.lst (cutL xs lo hi)]) := by
  show WpO (match lstAt S n with
    | some xs => some (.ref S.length, S ++ [.lst (cutL xs lo hi)])
    | none => none) Q = _
  cases lstAt S n <;> rfl
theorem set_r (n : Nat) (k : Int) (d : D) {R : Mem → Prop} : WpN (fSet (.ref n) (.int k) d S) R = WpL (lstAt S n) fun xs => match ixN xs.length k with
    | some j => R (S.set n (.lst (xs.set j d)))
    | none => False := by
  show WpN (match lstAt S n with
    | some xs => (match ixN xs.length k with
      | some j => some (S.set n (.lst (xs.set j d)))
      | none => none)
    | none => none) R = _
  cases lstAt S n with
  | none => rfl
  | some xs =>
    rw [wl_some]
    dsimp only
    cases ixN xs.length k <;> rfl
theorem len_s (cs : List Nat) : WpO (fLen [.str cs] S) Q = if cs.length ≤ line then Q (.int cs.length) S else False := by
  show WpO (if cs.length ≤ line then some (.int cs.length, S) else none) Q = _
  rw [wo_ite]; rfl
theorem len_r (n : Nat) : WpO (fLen [.ref n] S) Q = WpL (lstAt S n) fun xs => Q (.int xs.length) S := by
  show WpO (match lstAt S n with
    | some xs => some (.int xs.length, S)
    | none => none) Q = _
  cases lstAt S n <;> rfl
theorem len_f (xs : List D) : WpO (fLen [.fl xs] S) Q = Q (.int xs.length) S := rfl
theorem len_t (xs : List D) : WpO (fLen [.tup xs] S) Q = Q (.int xs.length) S := rfl
theorem abs_i (i : Int) : WpO (fAbs [.int i] S) Q = Q (.int (if i < 0 then -i else i)) S := rfl
theorem max_ii (i j : Int) : WpO (fMax [.int i, .int j] S) Q = Q (.int (if j > i then j else i)) S := rfl
theorem min_ii (i j : Int) : WpO (fMin [.int i, .int j] S) Q = Q (.int (if j < i then j else i)) S := rfl
def hdJ (f : Int → List Int → Int) (is : List Int) (R : Int → Prop) : Prop := match is with
  | [] => False
  | i :: r => R (f i r)
theorem max_r (n : Nat) : WpO (fMax [.ref n] S) Q = WpL (lstAt S n) fun xs => WpJ (intsD xs) fun is => hdJ maxI is fun m => Q (.int m) S := by
  show WpO (match lstAt S n with
    | some xs => (match intsD xs with
      | some (i :: is) => some (.int (maxI i is), S)
      | _ => none)
    | none => none) Q = _
  cases lstAt S n with
  | none => rfl
  | some xs =>
    rw [wl_some]
    dsimp only
    cases intsD xs with
    | none => rfl
    | some is => cases is <;> rfl
theorem min_r (n : Nat) : WpO (fMin [.ref n] S) Q = WpL (lstAt S n) fun xs => WpJ (intsD xs) fun is => hdJ minI is fun m => Q (.int m) S := by
  show WpO (match lstAt S n with
    | some xs => (match intsD xs with
      | some (i :: is) => some (.int (minI i is), S)
      | _ => none)
    | none => none) Q = _
  cases lstAt S n with
  | none => rfl
  | some xs =>
    rw [wl_some]
    dsimp only
    cases intsD xs with
    | none => rfl
    | some is => cases is <;> rfl
theorem int_i (i : Int) : WpO (fInt [.int i] S) Q = Q (.int i) S := rfl
theorem int_b (b : Bool) : WpO (fInt [.bl b] S) Q = Q (.int (if b = true then 1 else 0)) S := rfl
theorem list_r (n : Nat) : WpO (fList [.ref n] S) Q = WpL (lstAt S n) fun xs => Q (.ref S.length) (S ++ [.lst xs]) := by
  show WpO (match lstAt S n with
    | some xs => some (.ref S.length, S ++ [.lst xs])
    | none => none) Q = _
  cases lstAt S n <;> rfl
theorem sum_r (n : Nat) : WpO (fSum [.ref n] S) Q = WpL (lstAt S n) fun xs => WpJ (intsD xs) fun is => Q (.int is.sum) S := by
  show WpO (match lstAt S n with
    | some xs => (match intsD xs with
      | some is => some (.int is.sum, S)
      | none => none)
    | none => none) Q = _
  cases lstAt S n with
  | none => rfl
  | some xs =>
    rw [wl_some]
    dsimp only
    cases intsD xs <;> rfl
def WpBs (o : Option (List Bool)) (R : List Bool → Prop) : Prop := match o with
  | some xs => R xs
  | none => False
theorem wbs_some (xs : List Bool) (R : List Bool → Prop) : WpBs (some xs) R = R xs := rfl
theorem all_r (n : Nat) : WpO (fAll [.ref n] S) Q = WpL (lstAt S n) fun xs => WpBs (boolsD xs) fun bs => Q (.bl (bs.all id)) S := by
  show WpO (match lstAt S n with
    | some xs => (match boolsD xs with
      | some bs => some (.bl (bs.all id), S)
      | none => none)
    | none => none) Q = _
  cases lstAt S n with
  | none => rfl
  | some xs =>
    rw [wl_some]
    dsimp only
    cases boolsD xs <;> rfl
theorem isi_int (i : Int) (n : String) : WpO (fIsi [.int i, .ty n] S) Q = if n ∈ ["bool", "int", "str", "tuple", "list", "dict"] then Q (.bl (isTy "int" n)) S else False := by
  show WpO (if n ∈ ["bool", "int", "str", "tuple", "list", "dict"] then some (.bl (isTy "int" n), S) else none) Q = _
  rw [wo_ite]; rfl
theorem isi_str (i : List Nat) (n : String) : WpO (fIsi [.str i, .ty n] S) Q = if n ∈ ["bool", "int", "str", "tuple", "list", "dict"] then Q (.bl (isTy "str" n)) S else False := by
  show WpO (if n ∈ ["bool", "int", "str", "tuple", "list", "dict"] then some (.bl (isTy "str" n), S) else none) Q = _
  rw [wo_ite]; rfl
theorem isi_ii : ∀ i : Int, WpO (fIsi [.int i, .ty "int"] S) Q = Q (.bl true) S := fun _ => rfl
theorem isi_ib : ∀ i : Int, WpO (fIsi [.int i, .ty "bool"] S) Q = Q (.bl false) S := fun _ => rfl
theorem isi_ss : ∀ i : List Nat, WpO (fIsi [.str i, .ty "str"] S) Q = Q (.bl true) S := fun _ => rfl
theorem aug_sub (i j : Int) : WpO (fAug .sub (.int i) (.int j) S) Q = Q (.int (i - j)) S := rfl
theorem aug_ii (i j : Int) : WpO (fAug .add (.int i) (.int j) S) Q = Q (.int (i + j)) S := rfl
theorem sel_app (n : Nat) {R : Im → Prop} : WpM (Mt.append.sel S (.ref n)) R = WpL (lstAt S n) fun _ => R .lAppend := by
  show WpM (if (lstAt S n).isSome = true then some .lAppend else none) R = _
  cases lstAt S n <;> rfl
theorem sel_index (n : Nat) {R : Im → Prop} : WpM (Mt.index.sel S (.ref n)) R = WpL (lstAt S n) fun _ => R .lIndex := by
  show WpM (if (lstAt S n).isSome = true then some .lIndex else none) R = _
  cases lstAt S n <;> rfl
theorem sel_pop (n : Nat) {R : Im → Prop} : WpM (Mt.pop.sel S (.ref n)) R = WpL (lstAt S n) fun _ => R .lPop := by
  show WpM (if (lstAt S n).isSome = true then some .lPop else none) R = _
  cases lstAt S n <;> rfl
theorem sel_count (cs : List Nat) {R : Im → Prop} : WpM (Mt.count.sel S (.str cs)) R = R .sCount := rfl
theorem sel_join (cs : List Nat) {R : Im → Prop} : WpM (Mt.join.sel S (.str cs)) R = R .sJoin := rfl
theorem app_r (n : Nat) (d : D) : WpO (fAppend (.ref n) [d] S) Q = WpL (lstAt S n) fun xs => if xs.length < line then Q .non (S.set n (.lst (xs ++ [d]))) else False := by
  show WpO (match lstAt S n with
    | some xs => if xs.length < line then some (.non, S.set n (.lst (xs ++ [d]))) else none
    | none => none) Q = _
  cases lstAt S n with
  | none => rfl
  | some xs =>
    rw [wl_some]
    dsimp only
    rw [wo_ite]; rfl
theorem count_s (cs : List Nat) (c : Nat) : WpO (fCountS (.str cs) [.str [c]] S) Q = Q (.int (cs.count c)) S := rfl
theorem rng_1 (n : Int) {R : Src → Mem → Prop} (h : -4611686018427387904 < n ∧ n < 4611686018427387904) : WpC (rngSrc [.int n]) S R = R (.items (rangeD 0 n.toNat)) S := by
  show WpC (if okR n = true then some (.items (rangeD 0 n.toNat)) else none) S R = _
  rw [if_pos (okR_iff.mpr h)]; rfl
theorem rng_2 (a b : Int) {R : Src → Mem → Prop} (h : -4611686018427387904 < a ∧ a < 4611686018427387904 ∧ -4611686018427387904 < b ∧ b < 4611686018427387904) : WpC (rngSrc [.int a, .int b]) S R = R (.items (rangeD a (b - a).toNat)) S := by
  show WpC (if (okR a && okR b) = true then some (.items (rangeD a (b - a).toNat)) else none) S R = _
  rw [if_pos (by rw [okR_iff.mpr ⟨h.1, h.2.1⟩, okR_iff.mpr h.2.2]; rfl)]; rfl
theorem rng_3 (a b c : Int) (n : Nat) {R : Src → Mem → Prop} (h : okR a = true ∧ okR b = true ∧ okR c = true ∧ c ≠ 0 ∧ c.natAbs < 1073741824 ∧ PySem.Builtin.Range.small a b c = true ∧ PySem.Builtin.Range.rangeSize a b c = n) :
    WpC (rngSrc [.int a, .int b, .int c]) S R = R (.items (rangeC a c n)) S := by
  obtain ⟨h1, h2, h3, h4, h5, h6, h7⟩ := h
  show WpC (if (okR a && okR b && okR c && c != 0 && decide (c.natAbs < 1073741824) && PySem.Builtin.Range.small a b c && decide (0 ≤ PySem.Builtin.Range.rangeSize a b c)) = true then some (.items (rangeC a c (PySem.Builtin.Range.rangeSize a b c).toNat)) else none) S R = _
  rw [if_pos (by rw [h1, h2, h3, h6, h7, decide_eq_true h5]; simp [h4]), h7, Int.toNat_natCast]; rfl
theorem lrg_1 (n : Nat) (h : n ≤ 16777216) : WpO (rngLst S [.int n]) Q = Q (.ref S.length) (S ++ [.lst (rangeD 0 n)]) := by
  show WpO (if 0 ≤ (n : Int) ∧ (n : Int) ≤ 16777216 then some (D.ref S.length, S ++ [.lst (rangeD 0 (n : Int).toNat)]) else none) Q = _
  rw [if_pos (by omega), Int.toNat_natCast]; rfl
def WpX (o : Option Nat) (R : Nat → Prop) : Prop := match o with
  | some j => R j
  | none => False
theorem wx_some (j : Nat) (R : Nat → Prop) : WpX (some j) R = R j := rfl
theorem idx_r (n : Nat) (y : D) : WpO (fIndexL (.ref n) [y] S) Q = WpL (lstAt S n) fun xs => if flatD y = true ∧ xs.all flatD = true then WpX (firstAt y xs 0) fun j => Q (.int j) S else False := by
  show WpO (match lstAt S n with
    | some xs => if flatD y = true ∧ xs.all flatD = true then (match firstAt y xs 0 with
      | some j => some (.int j, S)
      | none => none) else none
    | none => none) Q = _
  cases lstAt S n with
  | none => rfl
  | some xs =>
    rw [wl_some]
    dsimp only
    rw [wo_ite]
    cases firstAt y xs 0 <;> rfl
theorem first_int (i : Int) : ∀ (is : List Int) (j : Nat), i ∈ is → ∃ m, firstAt (.int i) (is.map D.int) j = some m
  | [], j, h => by cases h
  | x :: r, j, h => by
    show ∃ m, (if eqF (.int x) (.int i) = true then some j else firstAt (.int i) (r.map D.int) (j + 1)) = some m
    by_cases e : eqF (.int x) (.int i) = true
    · exact ⟨j, if_pos e⟩
    · rw [if_neg e]
      refine first_int i r (j + 1) ?_
      rcases List.mem_cons.mp h with q | q
      · exact absurd (by rw [q]; show (x == x) = true; simp) e
      · exact q
def WpT (o : Option (List (List Nat))) (R : List (List Nat) → Prop) : Prop := match o with
  | some j => R j
  | none => False
theorem wT_some (j : List (List Nat)) (R : List (List Nat) → Prop) : WpT (some j) R = R j := rfl
theorem join_r (sep : List Nat) (n : Nat) : WpO (fJoin (.str sep) [.ref n] S) Q = WpL (lstAt S n) fun xs => WpT (strsD xs) fun ts => if (ts.map (·.length)).sum + ts.length * sep.length ≤ line then Q (.str (joinL sep ts)) S else False := by
  show WpO (match lstAt S n with
    | some xs => (match strsD xs with
      | some ts => if (ts.map (·.length)).sum + ts.length * sep.length ≤ line then some (.str (joinL sep ts), S) else none
      | none => none)
    | none => none) Q = _
  cases lstAt S n with
  | none => rfl
  | some xs =>
    rw [wl_some]
    dsimp only
    cases strsD xs with
    | none => rfl
    | some ts =>
      rw [wT_some]
      dsimp only
      rw [wo_ite]; rfl
theorem src_s (cs : List Nat) : srcOf S (.str cs) = some (.items (cs.map fun c => D.str [c])) := rfl
theorem src_f (xs : List D) : srcOf S (.fl xs) = some (.items xs) := rfl
theorem src_t (xs : List D) : srcOf S (.tup xs) = some (.items xs) := rfl
theorem src_r (n : Nat) {R : Src → Mem → Prop} : WpC (srcOf S (.ref n)) S R = WpL (lstAt S n) fun _ => R (.cell n) S := by
  show WpC (match lstAt S n with
    | some _ => some (.cell n)
    | none => none) S R = _
  cases lstAt S n <;> rfl
theorem intsD_map (is : List Int) : intsD (is.map D.int) = some is := by
  induction is with
  | nil => rfl
  | cons i r ih =>
    show (match intsD (r.map D.int) with
      | some is => some (i :: is)
      | none => none) = _
    rw [ih]
theorem boolsD_map (is : List Bool) : boolsD (is.map D.bl) = some is := by
  induction is with
  | nil => rfl
  | cons i r ih =>
    show (match boolsD (r.map D.bl) with
      | some is => some (i :: is)
      | none => none) = _
    rw [ih]
theorem strsD_map (is : List (List Nat)) : strsD (is.map D.str) = some is := by
  induction is with
  | nil => rfl
  | cons i r ih =>
    show (match strsD (r.map D.str) with
      | some is => some (i :: is)
      | none => none) = _
    rw [ih]
theorem atI_nat {α : Type} (xs : List α) (i : Nat) : atI xs (i : Int) = xs[i]? := by
  unfold atI ixN
  rw [if_pos (by omega)]
  by_cases h : (i : Int) < (xs.length : Nat)
  · rw [if_pos h]; rfl
  · rw [if_neg h]
    rw [List.getElem?_eq_none (by omega)]; rfl
theorem atI_last {α : Type} (xs : List α) (d : α) : atI (xs ++ [d]) (-1) = some d := by
  unfold atI ixN
  rw [if_neg (by decide), if_pos (by rw [List.length_append, List.length_singleton]; omega)]
  show (xs ++ [d])[(-1 + (((xs ++ [d]).length : Nat) : Int)).toNat]? = some d
  rw [List.length_append, List.length_singleton, show (-1 + ((xs.length + 1 : Nat) : Int)).toNat = xs.length by omega]
  simp
theorem ixN_nat {n i : Nat} (h : i < n) : ixN n (i : Int) = some i := by
  unfold ixN
  rw [if_pos (by omega), if_pos (by omega)]; rfl
theorem cut_nat {α : Type} (xs : List α) (a b : Nat) : cutL xs (some (a : Int)) (some (b : Int)) = (xs.drop a).take (b - a) := by
  unfold cutL
  rw [HT.sIx_nat, HT.sIx_nat]
  by_cases h : a ≤ xs.length
  · rw [Nat.min_eq_left h]
    by_cases h2 : b ≤ xs.length
    · rw [Nat.min_eq_left h2]
    · rw [Nat.min_eq_right (show xs.length ≤ b by omega), List.take_of_length_le (by rw [List.length_drop]; omega), List.take_of_length_le (by rw [List.length_drop]; omega)]
  · rw [Nat.min_eq_right (show xs.length ≤ a by omega), List.drop_of_length_le (Nat.le_refl _), List.drop_of_length_le (show xs.length ≤ a by omega)]
    simp
theorem cut_to {α : Type} (xs : List α) (b : Nat) : cutL xs none (some (b : Int)) = xs.take b := by
  unfold cutL
  rw [HT.sIx_none, HT.sIx_nat, List.drop_zero, Nat.sub_zero]
  by_cases h2 : b ≤ xs.length
  · rw [Nat.min_eq_left h2]
  · rw [Nat.min_eq_right (by omega), List.take_length, List.take_of_length_le (by omega)]
theorem mem_range {lo : Int} {n : Nat} {d : D} (h : d ∈ rangeD lo n) : ∃ i, i < n ∧ d = .int (lo + (i : Nat)) := by
  obtain ⟨i, h1, h2⟩ := List.mem_map.mp h
  exact ⟨i, List.mem_range.mp h1, h2.symm⟩
theorem range_len (lo : Int) (n : Nat) : (rangeD lo n).length = n := by unfold rangeD; rw [List.length_map, List.length_range]
theorem range_get {lo : Int} {n i : Nat} {d : D} (h : (rangeD lo n)[i]? = some d) : i < n ∧ d = .int (lo + (i : Nat)) := by
  have hi : i < n := by
    have := (List.getElem?_eq_some_iff.mp h).1
    rw [range_len] at this
    exact this
  unfold rangeD at h
  rw [List.getElem?_map, List.getElem?_range hi] at h
  exact ⟨hi, (Option.some.inj h).symm⟩
theorem Wp.true {o : Out D} (h : Wp o fun d _ => d = .bl true) : ∃ S, o = .ok (.bl true) S := by
  obtain ⟨d, S, e, q⟩ := h.get
  rw [q] at e
  exact ⟨S, e⟩
end
end Mi

set_option Elab.async false
set_option linter.all false
set_option maxRecDepth 100000
set_option maxHeartbeats 4000000
/-! MiY: plain laws that serve many texts -/
namespace Mi
section
variable {S : Mem} {Q : D → Mem → Prop}
theorem mem_str {cs : List Nat} {d : D} (h : d ∈ cs.map fun c => D.str [c]) : ∃ c, c ∈ cs ∧ d = .str [c] := by
  obtain ⟨c, h1, h2⟩ := List.mem_map.mp h
  exact ⟨c, h1, h2.symm⟩
theorem bools_all {xs : List D} {f : D → D} (h : ∀ d ∈ xs, f d = .bl true) : boolsD (xs.map f) = some (xs.map fun _ => true) := by
  rw [← boolsD_map, List.map_map]
  congr 1
  exact List.map_congr_left h
theorem all_true {α : Type} (xs : List α) : (xs.map fun _ => true).all id = true := by simp
theorem line_of {n : Nat} (h : n ≤ 100000) : n ≤ line := by show n ≤ 16777216; omega
/-- how many r among the first i -/
def pre (cs : List Nat) (i : Nat) : Int := ((cs.take i).count 114 : Nat)
def preL (cs : List Nat) (n : Nat) : List D := (List.range n).map fun i => D.int (pre cs i)
theorem preL_succ (cs : List Nat) (n : Nat) : preL cs (n + 1) = preL cs n ++ [.int (pre cs n)] := by
  unfold preL
  rw [List.range_succ, List.map_append]; rfl
theorem pre_succ {cs : List Nat} {i c : Nat} (h : cs[i]? = some c) : pre cs (i + 1) = pre cs i + (if c = 114 then 1 else 0) := by
  unfold pre
  rw [List.take_add_one, h, List.count_append]
  by_cases e : c = 114
  · rw [if_pos e]; simp [e]
  · rw [if_neg e]; simp [List.count_cons, e]
theorem mulOk_small {i j : Int} (h : i.natAbs < 18446744073709551616) : mulOk i j = true := by
  unfold mulOk
  rw [decide_eq_true h]; rfl
theorem log_small {i : Int} (h : i.natAbs < 18446744073709551616) : i.natAbs.log2 < 9000 := by
  by_cases e : i.natAbs = 0
  · rw [e]; decide
  · have : i.natAbs.log2 < 64 := (Nat.log2_lt e).mpr h
    omega
theorem mod_dvd {l p : Nat} : (l : Int) % (p : Int) = 0 ↔ p ∣ l := by
  rw [← Int.natCast_emod]
  constructor
  · intro h
    exact Nat.dvd_of_mod_eq_zero (by omega)
  · intro h
    rw [Nat.mod_eq_zero_of_dvd h]; rfl
theorem cast_step {x p : Nat} (h : 1 ≤ p) : (x : Int) / (p : Int) * ((p : Int) - 1) = ((x / p * (p - 1) : Nat) : Int) := by
  rw [Int.natCast_mul, Int.natCast_ediv, Int.natCast_sub h]; rfl
theorem range_map (lo : Int) (n : Nat) (f : D → D) : (rangeD lo n).map f = (List.range n).map fun i : Nat => f (.int (lo + (i : Nat))) := by
  unfold rangeD
  rw [List.map_map]; rfl
theorem ints_range (n : Nat) (g : Nat → Int) : intsD ((List.range n).map fun i => D.int (g i)) = some ((List.range n).map g) := by
  rw [← intsD_map, List.map_map]; rfl
/-- of a whole number -/
def onI (f : Int → D) : D → D
  | .int i => f i
  | _ => .non
theorem rangeC_len (lo c : Int) (n : Nat) : (rangeC lo c n).length = n := by unfold rangeC; rw [List.length_map, List.length_range]
theorem rangeC_get {lo c : Int} {n i : Nat} {d : D} (h : (rangeC lo c n)[i]? = some d) : i < n ∧ d = .int (lo + (i : Nat) * c) := by
  have hi : i < n := by
    have := (List.getElem?_eq_some_iff.mp h).1
    rw [rangeC_len] at this
    exact this
  unfold rangeC at h
  rw [List.getElem?_map, List.getElem?_range hi] at h
  exact ⟨hi, (Option.some.inj h).symm⟩
def spread : List Int → Int
  | [] => 0
  | i :: r => maxI i r - minI i r
def wins (cs : List Nat) (size : Nat) : List Int := (List.range (cs.length - size + 1)).map fun a => pre cs (a + size) - pre cs a
theorem preL_get {cs : List Nat} {n i : Nat} (h : i < n) : (preL cs n)[i]? = some (.int (pre cs i)) := by
  unfold preL
  rw [List.getElem?_map, List.getElem?_range h]; rfl
theorem hd_spread {is : List Int} (h : is ≠ []) {R : Int → Int → Prop} (hr : ∀ a b, a ∈ is → b ∈ is → b - a = spread is → R a b) : hdJ minI is fun a => hdJ maxI is fun b => R a b := by
  cases is with
  | nil => exact absurd rfl h
  | cons i r =>
    have h1 := (minI_mem r i).1
    have h2 := (maxI_mem r i).1
    exact hr _ _ (by rcases h1 with e | e; rw [e]; exact List.mem_cons_self; exact List.mem_cons_of_mem _ e) (by rcases h2 with e | e; rw [e]; exact List.mem_cons_self; exact List.mem_cons_of_mem _ e) rfl
theorem flat_ints (is : List Int) : (is.map D.int).all flatD = true := by
  rw [List.all_eq_true]
  intro d hd
  obtain ⟨i, _, rfl⟩ := List.mem_map.mp hd
  rfl
def evenA (cs : List Nat) : Bool := (List.range cs.length).all fun i => decide (spread (wins cs (i + 1)) ≤ 1)
theorem bools_range (n : Nat) (g : Nat → Bool) : boolsD ((List.range n).map fun i => D.bl (g i)) = some ((List.range n).map g) := by
  rw [← boolsD_map, List.map_map]; rfl
theorem all_range (n : Nat) (g : Nat → Bool) : ((List.range n).map g).all id = (List.range n).all g := by
  rw [List.all_map]; rfl
/-- the count of r in the windows -/
def winsB (cs : List Nat) (many size : Nat) : List Int := (List.range many).map fun a => (((cs.drop a).take size).count 114 : Nat)
def evenB (cs : List Nat) : Bool := (List.range (cs.length - 1)).all fun i => decide (spread (winsB cs (cs.length - (i + 1) + 1) (i + 1)) ≤ 1)
def evenR (cs : List Nat) : Bool := (List.range (cs.length - 1)).all fun i => decide (spread (winsB (cs ++ cs) cs.length (i + 1)) ≤ 1)
theorem all_upto {n : Nat} {g : Nat → Bool} (h : ∀ i, i < n → g i = true) : (List.range n).all g = true := by
  rw [List.all_eq_true]
  intro i hi
  exact h i (List.mem_range.mp hi)
theorem all_not {n i : Nat} {g : Nat → Bool} (hi : i < n) (h : g i = false) : (List.range n).all g = false := by
  rw [List.all_eq_false]
  exact ⟨i, List.mem_range.mpr hi, by rw [h]; decide⟩
theorem spread_if {is : List Int} (hne : is ≠ []) {A B : Prop} (h1 : 1 < spread is → A) (h2 : ¬ 1 < spread is → B) : hdJ maxI is fun b => hdJ minI is fun a => if 1 < b - a then A else B := by
  cases is with
  | nil => exact absurd rfl hne
  | cons i r =>
    show if 1 < spread (i :: r) then A else B
    by_cases e : 1 < spread (i :: r)
    · rw [if_pos e]; exact h1 e
    · rw [if_neg e]; exact h2 e
theorem win_eq (cs : List Nat) (a size : Nat) : pre cs (a + size) - pre cs a = (((cs.drop a).take size).count 114 : Nat) := by
  unfold pre
  rw [List.take_add, List.count_append]
  omega
theorem wins_eq (cs : List Nat) (size : Nat) : wins cs size = winsB cs (cs.length - size + 1) size := List.map_congr_left fun a _ => win_eq cs a size
theorem even_eq (cs : List Nat) (h : 1 ≤ cs.length) : evenA cs = evenB cs := by
  unfold evenA evenB
  obtain ⟨n, hn⟩ : ∃ n, cs.length = n + 1 := ⟨cs.length - 1, by omega⟩
  rw [hn, Nat.add_sub_cancel, List.range_succ, List.all_append]
  have last : spread (wins cs (n + 1)) ≤ 1 := by
    unfold wins
    rw [hn, Nat.sub_self]
    show maxI _ [] - minI _ [] ≤ 1
    show (pre cs (0 + (n + 1)) - pre cs 0) - (pre cs (0 + (n + 1)) - pre cs 0) ≤ 1
    omega
  have e : ([n].all fun i => decide (spread (wins cs (i + 1)) ≤ 1)) = true := by
    show (decide (spread (wins cs (n + 1)) ≤ 1) && true) = true
    rw [decide_eq_true last]; rfl
  rw [e, Bool.and_true]
  congr 1
  funext i
  rw [wins_eq, hn]
def parts (cs : List Nat) : List Nat := ((List.range cs.length).map (· + 1)).filter fun s => decide ((List.replicate (cs.length / s) (cs.take s)).flatten = cs)
theorem parts_last {cs : List Nat} (h : 1 ≤ cs.length) : parts cs ≠ [] := by
  intro e
  have : cs.length ∈ parts cs := by
    unfold parts
    rw [List.mem_filter]
    refine ⟨List.mem_map.mpr ⟨cs.length - 1, List.mem_range.mpr (by omega), by omega⟩, ?_⟩
    rw [Nat.div_self (by omega), List.take_length]
    simp
  rw [e] at this
  cases this
def straightB (cs : List Nat) : Bool := evenR cs && decide ((parts cs).head? = some cs.length)
def onS (f : List Nat → Bool) : D → Bool
  | .str i => f i
  | _ => false
theorem filter_strs (f : List Nat → Bool) (ws : List (List Nat)) : ((ws.map D.str).filter (onS f)).length = (ws.filter f).length := by
  rw [List.filter_map, List.length_map]; rfl
/-- a die at n -/
def Die (T : Mem) (n : Nat) : Prop := ∃ g s t : Int, 0 ≤ g ∧ lstAt T n = some [.int g, .int s, .int t]
theorem Die.pre {T U : Mem} {n : Nat} (p : T <+: U) (h : Die T n) : Die U n := by
  obtain ⟨g, s, t, h1, h2⟩ := h
  exact ⟨g, s, t, h1, lst_pre p h2⟩
theorem at3_0 (a b c : D) : L2.atI [a, b, c] 0 = some a := rfl
theorem at3_1 (a b c : D) : L2.atI [a, b, c] 1 = some b := rfl
theorem at3_2 (a b c : D) : L2.atI [a, b, c] 2 = some c := rfl
theorem ix3_0 : L2.ixN 3 0 = some 0 := rfl
theorem ix3_2 : L2.ixN 3 2 = some 2 := rfl
/-- what a roll leaves -/
structure Rolled (n : Nat) (T U : Mem) : Prop where
  die : Die U n
  len : U.length = T.length
  other : ∀ m, m ≠ n → U[m]? = T[m]?
theorem Rolled.lst {n m : Nat} {T U : Mem} {xs : List D} (r : Rolled n T U) (h : m ≠ n) (hl : lstAt T m = some xs) : lstAt U m = some xs := by
  unfold lstAt at hl ⊢
  rw [r.other m h]
  exact hl
theorem rolled {n : Nat} {T : Mem} {g s t : Int} {xs : List D} (hl : lstAt T n = some xs) (hg : 0 ≤ g) : Rolled n T (T.set n (.lst [.int g, .int s, .int t])) :=
  ⟨⟨g, s, t, hg, lst_set hl⟩, List.length_set, fun m h => List.getElem?_set_ne (Ne.symm h)⟩
theorem mulOk_right {i j : Int} (h : j.natAbs < 18446744073709551616) : mulOk i j = true := by
  unfold mulOk
  rw [decide_eq_true h, Bool.or_true]
theorem big_pos : 0 < ((10 : Int) ^ Int.toNat 54) ^ Int.toNat 6 := Int.pow_pos (Int.pow_pos (by decide))
theorem big_log : 0 ≤ (6 : Int) ∧ (((10 : Int) ^ Int.toNat 54).natAbs.log2 + 1) * Int.toNat 6 ≤ 1000000 := by decide +kernel
theorem max0 (x : Int) : 0 ≤ (if x > 0 then x else 0) := by split <;> omega
theorem at3 {a b c : D} {r : Int} (h0 : 0 ≤ r) (h1 : r < 3) : ∃ d, d ∈ [a, b, c] ∧ L2.atI [a, b, c] r = some d := by
  have : r = 0 ∨ r = 1 ∨ r = 2 := by omega
  rcases this with e | e | e
  · exact ⟨a, by simp, by rw [e]; rfl⟩
  · exact ⟨b, by simp, by rw [e]; rfl⟩
  · exact ⟨c, by simp, by rw [e]; rfl⟩
theorem joinL_nil : ∀ ts : List (List Nat), joinL [] ts = ts.flatten
  | [] => rfl
  | [x] => by simp [joinL]
  | x :: y :: r => by
    show x ++ [] ++ joinL [] (y :: r) = _
    rw [joinL_nil (y :: r), List.append_nil]; rfl
theorem flat_ones (cs : List Nat) : (cs.map fun c => [c]).flatten = cs := by
  induction cs with
  | nil => rfl
  | cons c r ih =>
    show [c] ++ (r.map fun c => [c]).flatten = _
    rw [ih]; rfl
theorem sum_ones (cs : List Nat) : ((cs.map fun c => [c]).map (·.length)).sum = cs.length := by
  rw [List.map_map]
  have : cs.map ((fun x : List Nat => x.length) ∘ fun c => [c]) = cs.map fun _ => 1 := List.map_congr_left fun _ _ => rfl
  rw [this, List.map_const', List.sum_replicate_nat, Nat.mul_one]
theorem strs_ones (cs : List Nat) : strsD (cs.map fun c => D.str [c]) = some (cs.map fun c => [c]) := by
  rw [← strsD_map, List.map_map]; rfl
theorem join_ones (n : Nat) (cs : List Nat) (hl : lstAt S n = some (cs.map fun c => D.str [c])) (h : cs.length ≤ 100000) : WpO (fJoin (.str []) [.ref n] S) Q = Q (.str cs) S := by
  rw [join_r, hl, wl_some, strs_ones, wT_some, if_pos (by rw [sum_ones]; exact line_of (by simpa using h)), joinL_nil, flat_ones]
theorem join_ones2 (n : Nat) (cs : List Nat) (hl : lstAt S n = some (cs.map fun c => D.str [c])) (h : cs.length ≤ 100000) : (WpL (lstAt S n) fun xs => WpT (strsD xs) fun ts => if (ts.map fun x => x.length).sum + ts.length * 0 ≤ line then Q (.str (joinL [] ts)) S else False) = Q (.str cs) S := by
  rw [hl, wl_some, strs_ones, wT_some, if_pos (by rw [sum_ones]; exact line_of (by omega)), joinL_nil, flat_ones]
end
end Mi

set_option Elab.async false
set_option linter.all false
set_option maxHeartbeats 1000000
/-! WoA: the low word of a slope, as a machine and by rests (plain Lean, no program in sight) -/
namespace Lw
/-- the machine of the slope (p, q): its state h, so many letters -/
def mach (p q : Nat) : Nat → Nat → List Nat
  | 0, _ => []
  | n + 1, h => if h < p then 114 :: mach p q n (h + q) else 117 :: mach p q n (h - p)
/-- the state behind so many letters -/
def stM (p q : Nat) : Nat → Nat → Nat
  | 0, h => h
  | n + 1, h => if h < p then stM p q n (h + q) else stM p q n (h - p)
def low (p q : Nat) : List Nat := mach p q (p + q) 0
/-- by rests -/
def rest (p q i : Nat) : Nat := i * q % (p + q)
def letter (p q i : Nat) : Nat := if rest p q i < p then 114 else 117
def lowR (p q : Nat) : List Nat := (List.range (p + q)).map (letter p q)
theorem rest_lt {p q : Nat} (h : 0 < p + q) (i : Nat) : rest p q i < p + q := Nat.mod_lt _ h
theorem rest_zero (p q : Nat) : rest p q 0 = 0 := by unfold rest; rw [Nat.zero_mul, Nat.zero_mod]
theorem rest_succ {p q : Nat} (h : 0 < p + q) (i : Nat) : rest p q (i + 1) = if rest p q i < p then rest p q i + q else rest p q i - p := by
  have e : rest p q (i + 1) = (rest p q i + q) % (p + q) := by
    unfold rest
    rw [Nat.add_mul, Nat.one_mul, Nat.mod_add_mod]
  have hl := rest_lt h i
  rw [e]
  by_cases c : rest p q i < p
  · rw [if_pos c, Nat.mod_eq_of_lt (by omega)]
  · rw [if_neg c, Nat.mod_eq_sub_mod (by omega), Nat.mod_eq_of_lt (by omega)]
    omega
theorem mach_rest {p q : Nat} (h : 0 < p + q) : ∀ (n i : Nat), mach p q n (rest p q i) = (List.range n).map fun j => letter p q (i + j)
  | 0, i => rfl
  | n + 1, i => by
    rw [List.range_succ_eq_map, List.map_cons, List.map_map]
    have step : mach p q (n + 1) (rest p q i) = letter p q i :: mach p q n (rest p q (i + 1)) := by
      rw [rest_succ h]
      unfold letter
      show (if rest p q i < p then _ else _) = _
      by_cases c : rest p q i < p
      · rw [if_pos c, if_pos c, if_pos c]
      · rw [if_neg c, if_neg c, if_neg c]
    rw [step, mach_rest h n (i + 1)]
    congr 1
    apply List.map_congr_left
    intro j _
    show letter p q (i + 1 + j) = letter p q (i + (j + 1))
    rw [Nat.add_right_comm, Nat.add_assoc]
theorem low_eq {p q : Nat} (h : 0 < p + q) : low p q = lowR p q := by
  unfold low lowR
  have := mach_rest h (p + q) 0
  rw [rest_zero] at this
  rw [this]
  apply List.map_congr_left
  intro j _
  rw [Nat.zero_add]
theorem stM_rest {p q : Nat} (h : 0 < p + q) : ∀ (n i : Nat), stM p q n (rest p q i) = rest p q (i + n)
  | 0, i => rfl
  | n + 1, i => by
    have step : stM p q (n + 1) (rest p q i) = stM p q n (rest p q (i + 1)) := by
      rw [rest_succ h]
      show (if rest p q i < p then _ else _) = _
      by_cases c : rest p q i < p
      · rw [if_pos c, if_pos c]
      · rw [if_neg c, if_neg c]
    rw [step, stM_rest h n (i + 1), show i + 1 + n = i + (n + 1) by omega]
theorem low_length (p q : Nat) : (low p q).length = p + q := by
  have : ∀ n h, (mach p q n h).length = n := by
    intro n
    induction n with
    | zero => intro h; rfl
    | succ n ih =>
      intro h
      show (if h < p then _ else _ : List Nat).length = _
      by_cases c : h < p
      · rw [if_pos c, List.length_cons, ih]
      · rw [if_neg c, List.length_cons, ih]
  exact this _ _
/-- a state tells how many letters went by -/
theorem mach_count (p q : Nat) : ∀ (n h : Nat), h + (mach p q n h).count 114 * q = stM p q n h + (mach p q n h).count 117 * p
  | 0, h => by simp [mach, stM]
  | n + 1, h => by
    show h + (if h < p then 114 :: mach p q n (h + q) else 117 :: mach p q n (h - p) : List Nat).count 114 * q = (if h < p then stM p q n (h + q) else stM p q n (h - p)) + (if h < p then 114 :: mach p q n (h + q) else 117 :: mach p q n (h - p) : List Nat).count 117 * p
    by_cases c : h < p
    · rw [if_pos c, if_pos c, List.count_cons_self, List.count_cons_of_ne (by decide), Nat.add_mul, Nat.one_mul]
      have := mach_count p q n (h + q)
      omega
    · rw [if_neg c, if_neg c, List.count_cons_self, List.count_cons_of_ne (by decide), Nat.add_mul, Nat.one_mul]
      have := mach_count p q n (h - p)
      omega
theorem mach_two (p q : Nat) : ∀ (n h : Nat), (mach p q n h).count 114 + (mach p q n h).count 117 = n
  | 0, h => rfl
  | n + 1, h => by
    show (if h < p then 114 :: mach p q n (h + q) else 117 :: mach p q n (h - p) : List Nat).count 114 + (if h < p then 114 :: mach p q n (h + q) else 117 :: mach p q n (h - p) : List Nat).count 117 = _
    by_cases c : h < p
    · rw [if_pos c, List.count_cons_self, List.count_cons_of_ne (by decide)]
      have := mach_two p q n (h + q)
      omega
    · rw [if_neg c, List.count_cons_self, List.count_cons_of_ne (by decide)]
      have := mach_two p q n (h - p)
      omega
theorem low_counts {p q : Nat} (h : 0 < p + q) : (low p q).count 114 = p ∧ (low p q).count 117 = q := by
  have h1 := mach_count p q (p + q) 0
  have h2 := mach_two p q (p + q) 0
  have h3 : stM p q (p + q) 0 = 0 := by
    have := stM_rest h (p + q) 0
    rw [rest_zero, Nat.zero_add] at this
    rw [this]
    unfold rest
    rw [Nat.mul_mod_right]
  rw [h3] at h1
  change 0 + (low p q).count 114 * q = 0 + (low p q).count 117 * p at h1
  change (low p q).count 114 + (low p q).count 117 = p + q at h2
  generalize (low p q).count 114 = x at *
  generalize (low p q).count 117 = y at *
  -- x q = y p, x + y = p + q
  have h4 : x * (p + q) = p * (p + q) := by
    have e1 : x * (p + q) = x * p + x * q := Nat.mul_add _ _ _
    have e2 : p * (x + y) = p * x + p * y := Nat.mul_add _ _ _
    rw [h2] at e2
    rw [e1, e2, Nat.mul_comm x p]
    have := Nat.mul_comm y p
    omega
  have h5 : x = p := Nat.eq_of_mul_eq_mul_right h h4
  omega
end Lw

set_option Elab.async false
set_option linter.all false
set_option maxHeartbeats 1000000
/-! WoB: words read round: even ones are low words read from some letter on (plain Lean) -/
namespace Lw
/-- is the letter at i, read round, an r -/
def lt (w : List Nat) (i : Nat) : Int := if w[i % w.length]? = some 114 then 1 else 0
/-- how many r among the first i letters, read round -/
def P (w : List Nat) : Nat → Int
  | 0 => 0
  | i + 1 => P w i + lt w i
def cnt (w : List Nat) : Int := (w.count 114 : Nat)
theorem P_pre (w : List Nat) : ∀ i, i ≤ w.length → P w i = ((w.take i).count 114 : Nat)
  | 0, _ => by simp [P]
  | i + 1, h => by
    have hi : i < w.length := h
    show P w i + lt w i = _
    rw [P_pre w i (by omega), List.take_add_one, List.count_append]
    unfold lt
    rw [Nat.mod_eq_of_lt hi, List.getElem?_eq_getElem hi]
    by_cases c : w[i] = 114
    · rw [if_pos (by rw [c])]; simp [c]
    · rw [if_neg (by intro z; exact c (Option.some.inj z))]; simp [List.count_cons, c]
theorem P_turn (w : List Nat) (h : 1 ≤ w.length) : ∀ i, P w (i + w.length) = P w i + cnt w
  | 0 => by
    rw [Nat.zero_add, P_pre w _ (Nat.le_refl _), List.take_length]
    show _ = 0 + cnt w
    unfold cnt
    omega
  | i + 1 => by
    rw [show i + 1 + w.length = (i + w.length) + 1 by omega]
    show P w (i + w.length) + lt w (i + w.length) = P w i + lt w i + cnt w
    have e : lt w (i + w.length) = lt w i := by unfold lt; rw [Nat.add_mod_right]
    rw [P_turn w h i, e]
    omega
def sumTo (f : Nat → Int) : Nat → Int
  | 0 => 0
  | n + 1 => sumTo f n + f n
theorem sumTo_le {f : Nat → Int} {K : Int} : ∀ {n : Nat}, (∀ i, i < n → f i ≤ K) → sumTo f n ≤ n * K
  | 0, _ => by show (0 : Int) ≤ ((0 : Nat) : Int) * K; rw [show ((0 : Nat) : Int) = 0 from rfl, Int.zero_mul]; exact Int.le_refl _
  | n + 1, h => by
    show sumTo f n + f n ≤ _
    have h1 := sumTo_le (f := f) (K := K) (n := n) fun i hi => h i (by omega)
    have h2 := h n (by omega)
    rw [show ((n + 1 : Nat) : Int) * K = (n : Int) * K + K by rw [Int.natCast_add, Int.add_mul]; simp]
    omega
theorem sumTo_lt {f : Nat → Int} {K : Int} {i0 : Nat} (h0 : f i0 + 1 ≤ K) : ∀ {n : Nat}, (∀ i, i < n → f i ≤ K) → i0 < n → sumTo f n + 1 ≤ n * K
  | 0, _, hi => absurd hi (Nat.not_lt_zero _)
  | n + 1, h, hi => by
    show sumTo f n + f n + 1 ≤ _
    rw [show ((n + 1 : Nat) : Int) * K = (n : Int) * K + K by rw [Int.natCast_add, Int.add_mul]; simp]
    by_cases e : i0 = n
    · subst e
      have h1 := sumTo_le (f := f) (K := K) (n := i0) fun i hi => h i (by omega)
      omega
    · have h1 := sumTo_lt h0 (n := n) (fun i hi => h i (by omega)) (by omega)
      have h2 := h n (by omega)
      omega
theorem sumTo_sub (f g : Nat → Int) : ∀ n, sumTo (fun i => f i - g i) n = sumTo f n - sumTo g n
  | 0 => rfl
  | n + 1 => by
    show sumTo (fun i => f i - g i) n + (f n - g n) = sumTo f n + f n - (sumTo g n + g n)
    rw [sumTo_sub f g n]
    omega
theorem sumTo_shift (f : Nat → Int) : ∀ n, sumTo (fun i => f (i + 1)) n = sumTo f n + f n - f 0
  | 0 => by show (0 : Int) = 0 + f 0 - f 0; omega
  | n + 1 => by
    show sumTo (fun i => f (i + 1)) n + f (n + 1) = sumTo f n + f n + f (n + 1) - f 0
    rw [sumTo_shift f n]
    omega
/-- all windows of a size together -/
theorem sum_wins (w : List Nat) (h : 1 ≤ w.length) : ∀ s, sumTo (fun a => P w (a + s)) w.length = sumTo (P w) w.length + s * cnt w
  | 0 => by simp
  | s + 1 => by
    have e : (fun a => P w (a + (s + 1))) = fun a => (fun i => P w (i + s)) (a + 1) := by
      funext a
      show P w (a + (s + 1)) = P w (a + 1 + s)
      congr 1
      omega
    rw [e, sumTo_shift (fun i => P w (i + s)), sum_wins w h s]
    have t := P_turn w h s
    rw [show w.length + s = s + w.length by omega, Nat.zero_add]
    rw [show ((s + 1 : Nat) : Int) * cnt w = (s : Int) * cnt w + cnt w by rw [Int.natCast_add, Int.add_mul]; simp]
    omega
/-- the windows of each size differ by one at most -/
def Bal (w : List Nat) : Prop := ∀ s a b, 1 ≤ s → s < w.length → a < w.length → b < w.length → P w (a + s) - P w a ≤ P w (b + s) - P w b + 1
theorem bal_near {w : List Nat} (hb : Bal w) {s i : Nat} (h1 : 1 ≤ s) (h2 : s < w.length) (hi : i < w.length) :
    (w.length : Int) * (P w (i + s) - P w i) - s * cnt w < w.length ∧ -(w.length : Int) < (w.length : Int) * (P w (i + s) - P w i) - s * cnt w := by
  have tot : sumTo (fun a => P w (a + s) - P w a) w.length = s * cnt w := by
    rw [sumTo_sub (fun a => P w (a + s)) (P w), sum_wins w (by omega) s]
    omega
  have u1 := sumTo_lt (f := fun a => P w (a + s) - P w a) (K := P w (i + s) - P w i + 1) (i0 := i) (Int.le_refl _) (fun a ha => hb s a i h1 h2 ha hi) hi
  have u2 := sumTo_lt (f := fun a => -(P w (a + s) - P w a)) (K := -(P w (i + s) - P w i) + 1) (i0 := i) (Int.le_refl _) (fun a ha => by have := hb s i a h1 h2 hi ha; omega) hi
  have neg : sumTo (fun a => -(P w (a + s) - P w a)) w.length = -(s * cnt w) := by
    have : ∀ (f : Nat → Int) n, sumTo (fun a => - f a) n = - sumTo f n := by
      intro f n
      induction n with
      | zero => rfl
      | succ n ih =>
        show sumTo (fun a => - f a) n + - f n = -(sumTo f n + f n)
        rw [ih]; omega
    rw [this, tot]
  rw [tot] at u1
  rw [neg] at u2
  have e1 : (w.length : Int) * (P w (i + s) - P w i + 1) = (w.length : Int) * (P w (i + s) - P w i) + w.length := by rw [Int.mul_add, Int.mul_one]
  have e2 : (w.length : Int) * (-(P w (i + s) - P w i) + 1) = -((w.length : Int) * (P w (i + s) - P w i)) + w.length := by rw [Int.mul_add, Int.mul_one, Int.mul_neg]
  rw [e1] at u1
  rw [e2] at u2
  omega
/-- how far the count is ahead of its even share, times the length -/
def v (w : List Nat) (i : Nat) : Int := (w.length : Int) * P w i - i * cnt w
theorem v_turn (w : List Nat) (h : 1 ≤ w.length) (i : Nat) : v w (i + w.length) = v w i := by
  unfold v
  rw [P_turn w h i, Int.mul_add, Int.natCast_add, Int.add_mul]
  omega
theorem v_turns (w : List Nat) (h : 1 ≤ w.length) (i : Nat) : ∀ m, v w (i + m * w.length) = v w i
  | 0 => by rw [Nat.zero_mul, Nat.add_zero]
  | m + 1 => by rw [Nat.add_mul, Nat.one_mul, ← Nat.add_assoc, v_turn w h, v_turns w h i m]
theorem v_mod (w : List Nat) (h : 1 ≤ w.length) (i : Nat) : v w i = v w (i % w.length) := by
  have := v_turns w h (i % w.length) (i / w.length)
  rw [Nat.mul_comm, Nat.mod_add_div] at this
  exact this
theorem v_step (w : List Nat) (i : Nat) : v w (i + 1) = v w i + (w.length : Int) * lt w i - cnt w := by
  unfold v
  show (w.length : Int) * (P w i + lt w i) - ((i + 1 : Nat) : Int) * cnt w = _
  rw [Int.mul_add, Int.natCast_add, Int.add_mul]
  simp
  omega
theorem exists_least (f : Nat → Int) : ∀ n, 1 ≤ n → ∃ i, i < n ∧ ∀ j, j < n → f i ≤ f j
  | 0, h => absurd h (by decide)
  | 1, _ => ⟨0, by decide, fun j hj => by rw [show j = 0 by omega]; exact Int.le_refl _⟩
  | n + 2, _ => by
    obtain ⟨i, h1, h2⟩ := exists_least f (n + 1) (by omega)
    by_cases c : f i ≤ f (n + 1)
    · exact ⟨i, by omega, fun j hj => by
        by_cases e : j = n + 1
        · rw [e]; exact c
        · exact h2 j (by omega)⟩
    · exact ⟨n + 1, by omega, fun j hj => by
        by_cases e : j = n + 1
        · rw [e]; exact Int.le_refl _
        · have := h2 j (by omega); omega⟩
theorem lt_01 (w : List Nat) (i : Nat) : lt w i = 0 ∨ lt w i = 1 := by
  unfold lt
  split
  · exact .inr rfl
  · exact .inl rfl
/-- the letter at i, read round -/
def at_ (w : List Nat) (i : Nat) : Nat := (w[i % w.length]?).getD 0
/-- letters alone -/
def Ru (w : List Nat) : Prop := ∀ c ∈ w, c = 114 ∨ c = 117
theorem at_lt {w : List Nat} (h : 1 ≤ w.length) (hr : Ru w) (i : Nat) : at_ w i = if lt w i = 1 then 114 else 117 := by
  have hi : i % w.length < w.length := Nat.mod_lt _ (by omega)
  unfold at_ lt
  rw [List.getElem?_eq_getElem hi]
  have hm := hr _ (List.getElem_mem hi)
  rcases hm with e | e
  · rw [e]; simp
  · rw [e]; simp
theorem cnt_le (w : List Nat) : 0 ≤ cnt w ∧ cnt w ≤ w.length := by
  unfold cnt
  have := List.count_le_length (a := 114) (l := w)
  omega
/-- a word that is even read round is a low word, read from some letter on -/
theorem bal_low {w : List Nat} (h : 1 ≤ w.length) (hr : Ru w) (hb : Bal w) : ∃ i, i < w.length ∧ (List.range w.length).map (fun j => at_ w (i + j)) = low (w.count 114) (w.length - w.count 114) := by
  obtain ⟨i, hi, hmin⟩ := exists_least (v w) w.length h
  refine ⟨i, hi, ?_⟩
  have hc := List.count_le_length (a := 114) (l := w)
  have hcnt : cnt w = (w.count 114 : Nat) := rfl
  have lo : ∀ j, v w i ≤ v w (i + j) := fun j => by
    rw [v_mod w h (i + j)]
    exact hmin _ (Nat.mod_lt _ (by omega))
  have hi2 : ∀ j, v w (i + j) - v w i < w.length := fun j => by
    have e : v w (i + j) = v w (i + j % w.length) := by
      have := v_turns w h (i + j % w.length) (j / w.length)
      rw [show i + j % w.length + j / w.length * w.length = i + j by rw [Nat.add_assoc, Nat.mul_comm, Nat.mod_add_div]] at this
      exact this
    rw [e]
    have hj : j % w.length < w.length := Nat.mod_lt _ (by omega)
    by_cases z : j % w.length = 0
    · rw [z, Nat.add_zero]; omega
    · have b := (bal_near hb (s := j % w.length) (i := i) (by omega) hj hi).1
      generalize j % w.length = s at *
      unfold v
      rw [Int.natCast_add, Int.add_mul]
      have : (w.length : Int) * (P w (i + s) - P w i) = w.length * P w (i + s) - w.length * P w i := Int.mul_sub _ _ _
      omega
  have key : ∀ (n j : Nat), (List.range n).map (fun t => at_ w (i + j + t)) = mach (w.count 114) (w.length - w.count 114) n (v w (i + j) - v w i).toNat := by
    intro n
    induction n with
    | zero => intro j; rfl
    | succ n ih =>
      intro j
      rw [List.range_succ_eq_map, List.map_cons, List.map_map]
      have tl : (List.range n).map ((fun t => at_ w (i + j + t)) ∘ Nat.succ) = (List.range n).map (fun t => at_ w (i + (j + 1) + t)) := List.map_congr_left fun t _ => by
        show at_ w (i + j + (t + 1)) = at_ w (i + (j + 1) + t)
        congr 1
        omega
      rw [tl, ih (j + 1), Nat.add_zero]
      have s1 := v_step w (i + j)
      have l1 := lo j
      have l2 := lo (j + 1)
      have u1 := hi2 j
      have u2 := hi2 (j + 1)
      rw [show i + (j + 1) = i + j + 1 by omega] at l2 u2 ⊢
      show _ = (if (v w (i + j) - v w i).toNat < w.count 114 then 114 :: mach (w.count 114) (w.length - w.count 114) n ((v w (i + j) - v w i).toNat + (w.length - w.count 114)) else 117 :: mach (w.count 114) (w.length - w.count 114) n ((v w (i + j) - v w i).toNat - w.count 114))
      rw [at_lt h hr]
      rcases lt_01 w (i + j) with e | e
      · rw [e] at s1 ⊢
        rw [Int.mul_zero] at s1
        rw [if_neg (by decide), if_neg (by omega)]
        congr 2
        omega
      · rw [e] at s1 ⊢
        rw [Int.mul_one] at s1
        rw [if_pos rfl, if_pos (by omega)]
        congr 2
        omega
  have k0 := key w.length 0
  rw [Nat.add_zero, Int.sub_self] at k0
  rw [k0]
  unfold low
  rw [show w.count 114 + (w.length - w.count 114) = w.length by omega]
  rfl
end Lw

set_option Elab.async false
set_option linter.all false
set_option maxHeartbeats 1000000
/-! WoC: low words read round are even; whole powers (plain Lean) -/
namespace Lw
theorem at_turn (w : List Nat) (i : Nat) : at_ w (i + w.length) = at_ w i := by unfold at_; rw [Nat.add_mod_right]
theorem at_turns (w : List Nat) (i : Nat) : ∀ m, at_ w (i + m * w.length) = at_ w i
  | 0 => by rw [Nat.zero_mul, Nat.add_zero]
  | m + 1 => by rw [Nat.add_mul, Nat.one_mul, ← Nat.add_assoc, at_turn, at_turns w i m]
theorem lt_at {w : List Nat} (h : 1 ≤ w.length) (i : Nat) : lt w i = if at_ w i = 114 then 1 else 0 := by
  have hi : i % w.length < w.length := Nat.mod_lt _ (by omega)
  unfold at_ lt
  rw [List.getElem?_eq_getElem hi]
  by_cases e : w[i % w.length] = 114
  · rw [if_pos (by rw [e]), if_pos (by rw [e]; rfl)]
  · rw [if_neg (fun z => e (Option.some.inj z)), if_neg (show ¬ (some w[i % w.length]).getD 0 = 114 from e)]
theorem rest_per {p q : Nat} (h : 0 < p + q) (i : Nat) : rest p q (i + (p + q)) = rest p q i := by
  unfold rest
  rw [Nat.add_mul, Nat.add_mul_mod_self_left]
theorem rest_pers {p q : Nat} (h : 0 < p + q) (i : Nat) : ∀ m, rest p q (i + m * (p + q)) = rest p q i
  | 0 => by rw [Nat.zero_mul, Nat.add_zero]
  | m + 1 => by rw [Nat.add_mul, Nat.one_mul, ← Nat.add_assoc, rest_per h, rest_pers h i m]
theorem letter_mod {p q : Nat} (h : 0 < p + q) (j : Nat) : letter p q j = letter p q (j % (p + q)) := by
  have := rest_pers h (j % (p + q)) (j / (p + q))
  rw [Nat.mul_comm, Nat.mod_add_div] at this
  unfold letter
  rw [this]
/-- w, read from i on, is the low word of (p, q) -/
def Rot (w : List Nat) (i p q : Nat) : Prop := ∀ j, at_ w (i + j) = letter p q j
theorem rot_of {w : List Nat} {i p q : Nat} (h : 1 ≤ w.length) (hn : w.length = p + q) (he : (List.range w.length).map (fun j => at_ w (i + j)) = low p q) : Rot w i p q := fun j => by
  have h0 : 0 < p + q := by omega
  rw [low_eq h0] at he
  have hm : j % (p + q) < p + q := Nat.mod_lt _ h0
  have e1 := congrArg (fun l => l[j % (p + q)]?) he
  simp only [lowR] at e1
  rw [List.getElem?_map, List.getElem?_map, List.getElem?_range (by rw [hn]; exact hm), List.getElem?_range hm] at e1
  have e2 : at_ w (i + j % (p + q)) = letter p q (j % (p + q)) := Option.some.inj e1
  have e3 := at_turns w (i + j % (p + q)) (j / (p + q))
  rw [hn, show i + j % (p + q) + j / (p + q) * (p + q) = i + j by rw [Nat.add_assoc, Nat.mul_comm, Nat.mod_add_div]] at e3
  rw [e3, e2, letter_mod h0 j]
theorem rot_v {w : List Nat} {i p q : Nat} (h : 1 ≤ w.length) (hn : w.length = p + q) (hc : cnt w = (p : Nat)) (hr : Rot w i p q) : ∀ j, v w (i + j) - v w i = (rest p q j : Nat)
  | 0 => by rw [Nat.add_zero, rest_zero]; omega
  | j + 1 => by
    have h0 : 0 < p + q := by omega
    have ih := rot_v h hn hc hr j
    have s1 := v_step w (i + j)
    rw [show i + (j + 1) = i + j + 1 by omega, rest_succ h0]
    rw [lt_at h, hr j] at s1
    unfold letter at s1
    have hb := rest_lt h0 j
    by_cases c : rest p q j < p
    · rw [if_pos c] at s1 ⊢
      rw [if_pos rfl, Int.mul_one] at s1
      omega
    · rw [if_neg c] at s1 ⊢
      rw [if_neg (by decide), Int.mul_zero] at s1
      omega
theorem rot_near {w : List Nat} {i p q : Nat} (h : 1 ≤ w.length) (hn : w.length = p + q) (hc : cnt w = (p : Nat)) (hr : Rot w i p q) (x : Nat) : v w i ≤ v w x ∧ v w x < v w i + w.length := by
  have h1 := rot_v h hn hc hr (x + i * (w.length - 1))
  have e : v w (i + (x + i * (w.length - 1))) = v w x := by
    have := v_turns w h x i
    rw [← this]
    congr 1
    obtain ⟨m, hm⟩ : ∃ m, w.length = m + 1 := ⟨w.length - 1, by omega⟩
    rw [hm, Nat.add_sub_cancel, Nat.mul_add, Nat.mul_one]
    omega
  have h2 := rest_lt (p := p) (q := q) (by omega) (x + i * (w.length - 1))
  rw [e] at h1
  omega
theorem rot_bal {w : List Nat} {i p q : Nat} (h : 1 ≤ w.length) (hn : w.length = p + q) (hc : cnt w = (p : Nat)) (hr : Rot w i p q) : Bal w := fun s a b h1 h2 ha hb => by
  have a1 := rot_near h hn hc hr (a + s)
  have a2 := rot_near h hn hc hr a
  have b1 := rot_near h hn hc hr (b + s)
  have b2 := rot_near h hn hc hr b
  have ea : (w.length : Int) * (P w (a + s) - P w a) = v w (a + s) - v w a + s * cnt w := by
    unfold v
    rw [Int.mul_sub, Int.natCast_add, Int.add_mul]
    omega
  have eb : (w.length : Int) * (P w (b + s) - P w b) = v w (b + s) - v w b + s * cnt w := by
    unfold v
    rw [Int.mul_sub, Int.natCast_add, Int.add_mul]
    omega
  generalize P w (a + s) - P w a = X at ea ⊢
  generalize P w (b + s) - P w b = Y at eb ⊢
  apply Classical.byContradiction
  intro hn'
  have hd : 2 ≤ X - Y := by omega
  have hm : (w.length : Int) * 2 ≤ (w.length : Int) * (X - Y) := Int.mul_le_mul_of_nonneg_left hd (by omega)
  rw [Int.mul_sub] at hm
  omega
/-- of period m -/
theorem pow_of {w : List Nat} {m : Nat} (hm : 1 ≤ m) (hp : ∀ x, at_ w (x + m) = at_ w x) : ∀ k, k * m ≤ w.length → (List.replicate k (w.take m)).flatten = w.take (k * m)
  | 0, _ => by simp
  | k + 1, h => by
    rw [Nat.add_mul, Nat.one_mul] at h
    rw [List.replicate_succ', List.flatten_append, pow_of hm hp k (by omega), Nat.add_mul, Nat.one_mul, List.take_add]
    congr 1
    show [w.take m].flatten = _
    rw [List.flatten_singleton]
    apply List.ext_getElem?
    intro j
    by_cases hj : j < m
    · rw [List.getElem?_take_of_lt hj, List.getElem?_take_of_lt hj, List.getElem?_drop]
      have per : ∀ k, at_ w (j + k * m) = at_ w j := by
        intro k
        induction k with
        | zero => rw [Nat.zero_mul, Nat.add_zero]
        | succ k ih => rw [Nat.add_mul, Nat.one_mul, ← Nat.add_assoc, hp, ih]
      have e := per k
      have l1 : j < w.length := by omega
      have l2 : j + k * m < w.length := by omega
      unfold at_ at e
      rw [Nat.mod_eq_of_lt l1, Nat.mod_eq_of_lt l2, List.getElem?_eq_getElem l1, List.getElem?_eq_getElem l2] at e
      rw [List.getElem?_eq_getElem l1, Nat.add_comm, List.getElem?_eq_getElem l2]
      exact congrArg some e.symm
    · rw [List.getElem?_eq_none (by rw [List.length_take]; omega), List.getElem?_eq_none (by rw [List.length_take]; omega)]
/-- a low word with a common divisor is a power -/
theorem rot_power {w : List Nat} {i p q g : Nat} (h : 1 ≤ w.length) (hn : w.length = p + q) (hr : Rot w i p q) (hg : 1 ≤ g) (hp : g ∣ p) (hq : g ∣ q) : (List.replicate g (w.take (w.length / g))).flatten = w := by
  obtain ⟨p', rfl⟩ := hp
  obtain ⟨q', rfl⟩ := hq
  have hl : w.length = g * (p' + q') := by rw [hn, Nat.mul_add]
  have hm : w.length / g = p' + q' := by rw [hl, Nat.mul_div_cancel_left _ (by omega)]
  have hm1 : 1 ≤ p' + q' := by
    rcases Nat.eq_zero_or_pos (p' + q') with e | e
    · rw [e, Nat.mul_zero] at hl; omega
    · exact e
  have per : ∀ x, at_ w (x + (p' + q')) = at_ w x := fun x => by
    -- read from i on
    have e0 : ∀ j, at_ w (i + j) = letter (g * p') (g * q') j := hr
    have pj : ∀ j, letter (g * p') (g * q') (j + (p' + q')) = letter (g * p') (g * q') j := fun j => by
      unfold letter rest
      have : (j + (p' + q')) * (g * q') % (g * p' + g * q') = j * (g * q') % (g * p' + g * q') := by
        rw [Nat.add_mul, ← Nat.mul_add g p' q', show (p' + q') * (g * q') = g * (p' + q') * q' by rw [← Nat.mul_assoc, Nat.mul_comm (p' + q') g], Nat.add_mul_mod_self_left]
      rw [this]
    have z := at_turns w x i
    have z2 := at_turns w (x + (p' + q')) i
    obtain ⟨m, hm⟩ : ∃ m, w.length = m + 1 := ⟨w.length - 1, by omega⟩
    have ex : x + i * w.length = i + (x + i * m) := by rw [hm, Nat.mul_add, Nat.mul_one]; omega
    have ex2 : x + (p' + q') + i * w.length = i + (x + i * m + (p' + q')) := by rw [hm, Nat.mul_add, Nat.mul_one]; omega
    rw [← z2, ← z, ex, ex2, e0, e0, pj]
  rw [hm, pow_of hm1 per g (by rw [hl]; exact Nat.le_refl _), ← hl, List.take_length]
/-- a power's counts have its exponent as divisor -/
theorem power_count (c : Nat) (l : List Nat) : ∀ k, ((List.replicate k l).flatten).count c = k * l.count c ∧ ((List.replicate k l).flatten).length = k * l.length
  | 0 => by simp
  | k + 1 => by
    obtain ⟨h1, h2⟩ := power_count c l k
    rw [List.replicate_succ, List.flatten_cons, List.count_append, List.length_append, h1, h2, Nat.add_mul, Nat.add_mul]
    omega
end Lw

set_option Elab.async false
set_option linter.all false
set_option maxHeartbeats 1000000
/-! WoD: the two ways of asking whether a word is straight agree -/
namespace Lw
open Mi
theorem pre_P {w : List Nat} (h : 1 ≤ w.length) : ∀ i, i ≤ 2 * w.length → pre (w ++ w) i = P w i
  | 0, _ => rfl
  | i + 1, hi => by
    have hl : i < (w ++ w).length := by rw [List.length_append]; omega
    have e : (w ++ w)[i]? = some (at_ w i) := by
      unfold at_
      by_cases c : i < w.length
      · rw [List.getElem?_append_left c, Nat.mod_eq_of_lt c, List.getElem?_eq_getElem c]; rfl
      · have c2 : i - w.length < w.length := by omega
        rw [List.getElem?_append_right (by omega), Nat.mod_eq_sub_mod (by omega), Nat.mod_eq_of_lt c2, List.getElem?_eq_getElem c2]; rfl
    rw [pre_succ e, pre_P h i (by omega)]
    show P w i + _ = P w i + lt w i
    rw [lt_at h]
theorem win_P {w : List Nat} (h : 1 ≤ w.length) {a s : Nat} (ha : a + s ≤ 2 * w.length) : (((((w ++ w).drop a).take s).count 114 : Nat) : Int) = P w (a + s) - P w a := by
  rw [← win_eq, pre_P h _ ha, pre_P h _ (by omega)]
theorem spread_le {is : List Int} (hne : is ≠ []) : spread is ≤ 1 ↔ ∀ x ∈ is, ∀ y ∈ is, x - y ≤ 1 := by
  cases is with
  | nil => exact absurd rfl hne
  | cons i r =>
    obtain ⟨a1, a2, a3⟩ := maxI_mem r i
    obtain ⟨b1, b2, b3⟩ := minI_mem r i
    have mx : maxI i r ∈ i :: r := by rcases a1 with e | e; rw [e]; exact List.mem_cons_self; exact List.mem_cons_of_mem _ e
    have mn : minI i r ∈ i :: r := by rcases b1 with e | e; rw [e]; exact List.mem_cons_self; exact List.mem_cons_of_mem _ e
    constructor
    · intro h x hx y hy
      have h' : maxI i r - minI i r ≤ 1 := h
      have ux : x ≤ maxI i r := by
        rcases List.mem_cons.mp hx with e | e
        · rw [e]; exact a2
        · exact a3 x e
      have ly : minI i r ≤ y := by
        rcases List.mem_cons.mp hy with e | e
        · rw [e]; exact b2
        · exact b3 y e
      omega
    · intro h
      exact h _ mx _ mn
theorem wins_ne {cs : List Nat} {n s : Nat} (h : 1 ≤ n) : winsB cs n s ≠ [] := by
  intro e
  have := congrArg List.length e
  unfold winsB at this
  rw [List.length_map, List.length_range] at this
  simp at this
  omega
theorem evenR_bal {w : List Nat} (h : 1 ≤ w.length) : evenR w = true ↔ Bal w := by
  unfold evenR
  rw [List.all_eq_true]
  constructor
  · intro hs s a b h1 h2 ha hb
    have := of_decide_eq_true (hs (s - 1) (List.mem_range.mpr (by omega)))
    rw [show s - 1 + 1 = s by omega] at this
    have := (spread_le (wins_ne h)).mp this _ (List.mem_map.mpr ⟨a, List.mem_range.mpr ha, rfl⟩) _ (List.mem_map.mpr ⟨b, List.mem_range.mpr hb, rfl⟩)
    rw [win_P h (by omega), win_P h (by omega)] at this
    omega
  · intro hb i hi
    have hi' := List.mem_range.mp hi
    refine decide_eq_true ((spread_le (wins_ne h)).mpr fun x hx y hy => ?_)
    obtain ⟨a, ha, rfl⟩ := List.mem_map.mp hx
    obtain ⟨b, hb', rfl⟩ := List.mem_map.mp hy
    rw [win_P h (by have := List.mem_range.mp ha; omega), win_P h (by have := List.mem_range.mp hb'; omega)]
    have := hb (i + 1) a b (by omega) (by omega) (List.mem_range.mp ha) (List.mem_range.mp hb')
    omega
/-- w, read from a on -/
theorem turned_eq {w : List Nat} (h : 1 ≤ w.length) {a : Nat} (ha : a < w.length) : ((w ++ w).drop a).take w.length = (List.range w.length).map fun j => at_ w (a + j) := by
  apply List.ext_getElem?
  intro j
  by_cases hj : j < w.length
  · rw [List.getElem?_take_of_lt hj, List.getElem?_drop, List.getElem?_map, List.getElem?_range hj]
    show _ = some (at_ w (a + j))
    unfold at_
    by_cases c : a + j < w.length
    · rw [List.getElem?_append_left c, Nat.mod_eq_of_lt c, List.getElem?_eq_getElem c]; rfl
    · have c2 : a + j - w.length < w.length := by omega
      rw [List.getElem?_append_right (by omega), Nat.mod_eq_sub_mod (by omega), Nat.mod_eq_of_lt c2, List.getElem?_eq_getElem c2]; rfl
  · rw [List.getElem?_eq_none (by rw [List.length_take, List.length_drop, List.length_append]; omega), List.getElem?_eq_none (by rw [List.length_map, List.length_range]; omega)]
/-- the low word of w's counts -/
def lowOf (w : List Nat) : List Nat := low (w.count 114) (w.length - w.count 114)
def Str1 (w : List Nat) : Prop := Nat.gcd (w.count 114) (w.length - w.count 114) = 1 ∧ ∃ a, a < w.length ∧ ((w ++ w).drop a).take w.length = lowOf w
theorem parts_head {w : List Nat} (h : 1 ≤ w.length) : (parts w).head? = some w.length ↔ ∀ s, 1 ≤ s → s < w.length → (List.replicate (w.length / s) (w.take s)).flatten ≠ w := by
  unfold parts
  obtain ⟨n, hn⟩ : ∃ n, w.length = n + 1 := ⟨w.length - 1, by omega⟩
  constructor
  · intro hh s h1 h2 he
    rw [hn, List.range_succ, List.map_append, List.filter_append] at hh
    have : s ∈ ((List.range n).map (· + 1)).filter fun s => decide ((List.replicate ((n + 1) / s) (w.take s)).flatten = w) := by
      rw [List.mem_filter]
      exact ⟨List.mem_map.mpr ⟨s - 1, List.mem_range.mpr (by omega), by omega⟩, decide_eq_true (by rw [← hn]; exact he)⟩
    generalize hq : ((List.range n).map (· + 1)).filter (fun s => decide ((List.replicate ((n + 1) / s) (w.take s)).flatten = w)) = l at this hh
    cases l with
    | nil => cases this
    | cons x r =>
      have hx : x ∈ x :: r := List.mem_cons_self
      rw [← hq, List.mem_filter] at hx
      obtain ⟨⟨y, hy, rfl⟩, _⟩ := And.imp_left List.mem_map.mp hx
      have hy' := List.mem_range.mp hy
      have e : some (y + 1) = some (n + 1) := hh
      have := Option.some.inj e
      omega
  · intro hs
    rw [hn, List.range_succ, List.map_append, List.filter_append]
    have e1 : ((List.range n).map (· + 1)).filter (fun s => decide ((List.replicate ((n + 1) / s) (w.take s)).flatten = w)) = [] := by
      rw [List.filter_eq_nil_iff]
      intro s hs'
      obtain ⟨y, hy, rfl⟩ := List.mem_map.mp hs'
      have hy' := List.mem_range.mp hy
      rw [decide_eq_true_eq, ← hn]
      exact hs _ (by omega) (by omega)
    have e2 : ([n].map (· + 1)).filter (fun s => decide ((List.replicate ((n + 1) / s) (w.take s)).flatten = w)) = [n + 1] := by
      show List.filter _ [n + 1] = _
      rw [List.filter_cons_of_pos]
      · rfl
      · rw [decide_eq_true_eq, Nat.div_self (by omega), ← hn, List.take_length]
        simp
    rw [e1, e2]
    rfl
theorem straight_iff {w : List Nat} (h : 1 ≤ w.length) (hr : Ru w) : straightB w = true ↔ Str1 w := by
  have hc := List.count_le_length (a := 114) (l := w)
  have hn : w.length = w.count 114 + (w.length - w.count 114) := by omega
  unfold straightB
  rw [Bool.and_eq_true, evenR_bal h, decide_eq_true_eq, parts_head h]
  constructor
  · rintro ⟨hb, hp⟩
    obtain ⟨i, hi, he⟩ := bal_low h hr hb
    refine ⟨?_, i, hi, by rw [turned_eq h hi, he]; rfl⟩
    apply Classical.byContradiction
    intro hg
    have g0 : Nat.gcd (w.count 114) (w.length - w.count 114) ≠ 0 := by
      intro z
      obtain ⟨z1, z2⟩ := Nat.gcd_eq_zero_iff.mp z
      omega
    have d1 := Nat.gcd_dvd_left (w.count 114) (w.length - w.count 114)
    have d2 := Nat.gcd_dvd_right (w.count 114) (w.length - w.count 114)
    have pw := rot_power h hn (rot_of h hn he) (g := Nat.gcd (w.count 114) (w.length - w.count 114)) (by omega) d1 d2
    generalize Nat.gcd (w.count 114) (w.length - w.count 114) = g at *
    have dn : g ∣ w.length := by rw [hn]; exact Nat.dvd_add d1 d2
    obtain ⟨m, hm⟩ := dn
    have hm1 : w.length / g = m := by rw [hm, Nat.mul_div_cancel_left _ (by omega)]
    have m1 : 1 ≤ m := by
      rcases Nat.eq_zero_or_pos m with e | e
      · rw [e, Nat.mul_zero] at hm; omega
      · exact e
    have hgm : w.length / m = g := by rw [hm, Nat.mul_div_cancel _ (by omega)]
    refine hp m m1 ?_ ?_
    · rw [hm]
      have : 2 * m ≤ g * m := Nat.mul_le_mul_right m (by omega)
      omega
    · rw [hgm, ← hm1]; exact pw
  · rintro ⟨hg, i, hi, he⟩
    rw [turned_eq h hi] at he
    refine ⟨rot_bal h hn rfl (rot_of h hn he), fun s h1 h2 hpw => ?_⟩
    obtain ⟨c1, c2⟩ := power_count 114 (w.take s) (w.length / s)
    rw [hpw] at c1 c2
    have k2 : 2 ≤ w.length / s := by
      rw [List.length_take, Nat.min_eq_left (by omega)] at c2
      apply Classical.byContradiction
      intro z
      have : w.length / s * s ≤ 1 * s := Nat.mul_le_mul_right s (by omega)
      omega
    have d1 : w.length / s ∣ w.count 114 := ⟨_, c1⟩
    have d2 : w.length / s ∣ w.length := ⟨_, c2⟩
    have d3 : w.length / s ∣ w.length - w.count 114 := Nat.dvd_sub d2 d1
    have := Nat.dvd_gcd d1 d3
    rw [hg] at this
    have := Nat.le_of_dvd (by decide) this
    omega
end Lw

set_option Elab.async false
set_option linter.all false
set_option maxHeartbeats 1000000
/-! WoE: halves, cores, paths of low words (plain Lean, no program in sight) -/
namespace Lw
/-! ### substitutions -/
def subT (w : List Nat) : List Nat := w.flatMap fun c => if c = 117 then [114, 117] else [c]
def subS (w : List Nat) : List Nat := w.flatMap fun c => if c = 114 then [114, 117] else [c]
theorem mach_lt {p q n h : Nat} (c : h < p) : mach p q (n + 1) h = 114 :: mach p q n (h + q) := by show (if h < p then _ else _) = _; rw [if_pos c]
theorem mach_ge {p q n h : Nat} (c : ¬ h < p) : mach p q (n + 1) h = 117 :: mach p q n (h - p) := by show (if h < p then _ else _) = _; rw [if_neg c]
theorem subT_mach (p q : Nat) : ∀ (n h : Nat), h < p + q → subT (mach p q n h) = mach (p + q) q (n + (mach p q n h).count 117) h
  | 0, h, _ => rfl
  | n + 1, h, hl => by
    by_cases c : h < p
    · rw [mach_lt c]
      have ih := subT_mach p q n (h + q) (by omega)
      show [114] ++ subT (mach p q n (h + q)) = _
      rw [ih, List.count_cons_of_ne (by decide), show n + 1 + (mach p q n (h + q)).count 117 = n + (mach p q n (h + q)).count 117 + 1 by omega, mach_lt hl]
      rfl
    · rw [mach_ge c]
      have ih := subT_mach p q n (h - p) (by omega)
      show [114, 117] ++ subT (mach p q n (h - p)) = _
      rw [ih, List.count_cons_self, show n + 1 + ((mach p q n (h - p)).count 117 + 1) = n + (mach p q n (h - p)).count 117 + 1 + 1 by omega, mach_lt hl, mach_ge (show ¬ h + q < p + q by omega), show h + q - (p + q) = h - p by omega]
      rfl
theorem subS_mach (p q : Nat) : ∀ (n h : Nat), h < p + q → subS (mach p q n h) = mach p (p + q) (n + (mach p q n h).count 114) h
  | 0, h, _ => rfl
  | n + 1, h, hl => by
    by_cases c : h < p
    · rw [mach_lt c]
      have ih := subS_mach p q n (h + q) (by omega)
      show [114, 117] ++ subS (mach p q n (h + q)) = _
      rw [ih, List.count_cons_self, show n + 1 + ((mach p q n (h + q)).count 114 + 1) = n + (mach p q n (h + q)).count 114 + 1 + 1 by omega, mach_lt c, mach_ge (show ¬ h + (p + q) < p by omega), show h + (p + q) - p = h + q by omega]
      rfl
    · rw [mach_ge c]
      have ih := subS_mach p q n (h - p) (by omega)
      show [117] ++ subS (mach p q n (h - p)) = _
      rw [ih, List.count_cons_of_ne (by decide), show n + 1 + (mach p q n (h - p)).count 114 = n + (mach p q n (h - p)).count 114 + 1 by omega, mach_ge c]
      rfl
theorem subT_low {p q : Nat} (h : 0 < p + q) : subT (low p q) = low (p + q) q := by
  have e := subT_mach p q (p + q) 0 h
  have c := (low_counts h).2
  show subT (mach p q (p + q) 0) = mach (p + q) q (p + q + q) 0
  rw [e]
  have c' : (mach p q (p + q) 0).count 117 = q := c
  rw [c']
theorem subS_low {p q : Nat} (h : 0 < p + q) : subS (low p q) = low p (p + q) := by
  have e := subS_mach p q (p + q) 0 h
  have c' : (mach p q (p + q) 0).count 114 = p := (low_counts h).1
  show subS (mach p q (p + q) 0) = mach p (p + q) (p + (p + q)) 0
  rw [e, c', show p + q + p = p + (p + q) by omega]
/-! ### paths: the letters from the last one on -/
inductive PathTo : Nat → Nat → List Nat → Prop
  | one : PathTo 1 1 []
  | t {p q : Nat} {l : List Nat} : PathTo p q l → PathTo (p + q) q (116 :: l)
  | s {p q : Nat} {l : List Nat} : PathTo p q l → PathTo p (p + q) (115 :: l)
theorem PathTo.pos {p q : Nat} {l : List Nat} (h : PathTo p q l) : 1 ≤ p ∧ 1 ≤ q := by
  induction h with
  | one => exact ⟨Nat.le_refl _, Nat.le_refl _⟩
  | t h ih => exact ⟨by omega, ih.2⟩
  | s h ih => exact ⟨ih.1, by omega⟩
theorem PathTo.letters {p q : Nat} {l : List Nat} (h : PathTo p q l) : ∀ c ∈ l, c = 116 ∨ c = 115 := by
  induction h with
  | one => intro c hc; cases hc
  | t h ih => intro c hc; rcases List.mem_cons.mp hc with e | e; exact .inl e; exact ih c e
  | s h ih => intro c hc; rcases List.mem_cons.mp hc with e | e; exact .inr e; exact ih c e
theorem PathTo.len {p q : Nat} {l : List Nat} (h : PathTo p q l) : l.length + 2 ≤ p + q := by
  induction h with
  | one => exact Nat.le_refl _
  | t h ih => have := h.pos; rw [List.length_cons]; omega
  | s h ih => have := h.pos; rw [List.length_cons]; omega
theorem PathTo.gt {p q : Nat} {l : List Nat} (h : PathTo p q l) (c : q < p) : ∃ r, l = 116 :: r ∧ PathTo (p - q) q r := by
  cases h with
  | one => omega
  | t h => exact ⟨_, rfl, by rw [Nat.add_sub_cancel]; exact h⟩
  | s h => omega
theorem PathTo.le {p q : Nat} {l : List Nat} (h : PathTo p q l) (c : ¬ q < p) (n : ¬ (p = 1 ∧ q = 1)) : ∃ r, l = 115 :: r ∧ PathTo p (q - p) r := by
  cases h with
  | one => exact absurd ⟨rfl, rfl⟩ n
  | t h => have := h.pos; omega
  | s h => exact ⟨_, rfl, by rw [Nat.add_sub_cancel_left]; exact h⟩
theorem PathTo.or {p q : Nat} {l : List Nat} (h : PathTo p q l) : (p = 1 ∧ q = 1) ∨ p ≠ q := by
  cases h with
  | one => exact .inl ⟨rfl, rfl⟩
  | t h => have := h.pos; exact .inr (by omega)
  | s h => have := h.pos; exact .inr (by omega)
theorem PathTo.lt {p q : Nat} {l : List Nat} (h : PathTo p q l) (n : ¬ (p = 1 ∧ q = 1)) : p ≠ q := h.or.resolve_left n
theorem PathTo.end1 {p q : Nat} {l : List Nat} (h : PathTo p q l) (hp : p = 1) (hq : q = 1) : l = [] := by
  cases h with
  | one => rfl
  | t h => have := h.pos; omega
  | s h => have := h.pos; omega
theorem PathTo.end_ {l : List Nat} (h : PathTo 1 1 l) : l = [] := h.end1 rfl rfl
theorem PathTo.gts {p q : Nat} {l : List Nat} (h : PathTo p q l) : ∀ k, k * q < p → ∃ r, l = List.replicate k 116 ++ r ∧ PathTo (p - k * q) q r
  | 0, _ => ⟨l, rfl, by rw [Nat.zero_mul]; exact h⟩
  | k + 1, c => by
    rw [Nat.add_mul, Nat.one_mul] at c
    obtain ⟨r, e1, e2⟩ := PathTo.gts h k (by omega)
    obtain ⟨r2, e3, e4⟩ := e2.gt (by omega)
    refine ⟨r2, ?_, ?_⟩
    · rw [e1, e3, List.replicate_succ', List.append_assoc]; rfl
    · rw [Nat.add_mul, Nat.one_mul, ← Nat.sub_sub]; exact e4
theorem PathTo.les {p q : Nat} {l : List Nat} (h : PathTo p q l) : ∀ k, k * p < q → ∃ r, l = List.replicate k 115 ++ r ∧ PathTo p (q - k * p) r
  | 0, _ => ⟨l, rfl, by rw [Nat.zero_mul]; exact h⟩
  | k + 1, c => by
    rw [Nat.add_mul, Nat.one_mul] at c
    obtain ⟨r, e1, e2⟩ := PathTo.les h k (by omega)
    have hp := h.pos
    obtain ⟨r2, e3, e4⟩ := e2.le (by omega) (by omega)
    refine ⟨r2, ?_, ?_⟩
    · rw [e1, e3, List.replicate_succ', List.append_assoc]; rfl
    · rw [Nat.add_mul, Nat.one_mul, ← Nat.sub_sub]; exact e4
theorem path_of : ∀ (n p q : Nat), p + q ≤ n → 1 ≤ p → 1 ≤ q → Nat.gcd p q = 1 → ∃ l, PathTo p q l
  | 0, p, q, h, h1, h2, g => by omega
  | n + 1, p, q, h, h1, h2, g => by
    by_cases c : q < p
    · have g2 : Nat.gcd (p - q) q = 1 := by
        rw [Nat.gcd_sub_self_left (by omega)]; exact g
      obtain ⟨l, hl⟩ := path_of n (p - q) q (by omega) (by omega) h2 g2
      have := PathTo.t hl
      rw [Nat.sub_add_cancel (by omega)] at this
      exact ⟨_, this⟩
    · by_cases c2 : p = q
      · subst c2
        rw [Nat.gcd_self] at g
        subst g
        exact ⟨_, .one⟩
      · have g2 : Nat.gcd p (q - p) = 1 := by
          rw [Nat.gcd_sub_self_right (by omega)]; exact g
        obtain ⟨l, hl⟩ := path_of n p (q - p) (by omega) h1 (by omega) g2
        have := PathTo.s hl
        rw [show p + (q - p) = q by omega] at this
        exact ⟨_, this⟩
/-- a path's slope -/
def stepP (s : Nat × Nat) (c : Nat) : Nat × Nat := if c = 116 then (s.1 + s.2, s.2) else (s.1, s.1 + s.2)
theorem PathTo.slope {p q : Nat} {l : List Nat} (h : PathTo p q l) : l.reverse.foldl stepP (1, 1) = (p, q) := by
  induction h with
  | one => rfl
  | t h ih => rw [List.reverse_cons, List.foldl_append, ih]; rfl
  | s h ih => rw [List.reverse_cons, List.foldl_append, ih]; rfl
theorem path_made : ∀ (l : List Nat), (∀ c ∈ l, c = 116 ∨ c = 115) → ∃ p q, l.reverse.foldl stepP (1, 1) = (p, q) ∧ PathTo p q l
  | [], _ => ⟨1, 1, rfl, .one⟩
  | c :: l, h => by
    obtain ⟨p, q, e, hl⟩ := path_made l fun x hx => h x (List.mem_cons_of_mem _ hx)
    rw [List.reverse_cons, List.foldl_append, e]
    rcases h c List.mem_cons_self with z | z
    · subst z; exact ⟨_, _, rfl, .t hl⟩
    · subst z; exact ⟨_, _, rfl, .s hl⟩
def subC (w : List Nat) (c : Nat) : List Nat := if c = 116 then subT w else subS w
theorem PathTo.word {p q : Nat} {l : List Nat} (h : PathTo p q l) : l.reverse.foldl subC [114, 117] = low p q := by
  induction h with
  | one => rfl
  | t h ih =>
    rw [List.reverse_cons, List.foldl_append, ih]
    have := h.pos
    exact subT_low (by omega)
  | s h ih =>
    rw [List.reverse_cons, List.foldl_append, ih]
    have := h.pos
    exact subS_low (by omega)
theorem PathTo.same {p q : Nat} {l l' : List Nat} (h : PathTo p q l) : PathTo p q l' → l = l' := by
  induction h generalizing l' with
  | one => exact fun h' => h'.end_.symm
  | t h ih =>
    intro h'
    have := h.pos
    obtain ⟨r, e1, e2⟩ := h'.gt (by omega)
    rw [Nat.add_sub_cancel] at e2
    rw [e1, ih e2]
  | s h ih =>
    intro h'
    have := h.pos
    obtain ⟨r, e1, e2⟩ := h'.le (by omega) (by omega)
    rw [Nat.add_sub_cancel_left] at e2
    rw [e1, ih e2]
/-- the point nearest to the line -/
theorem PathTo.near {p q : Nat} {l : List Nat} (h : PathTo p q l) : ∃ a b, 1 ≤ a ∧ a ≤ p ∧ b < q ∧ a * q = b * p + 1 := by
  induction h with
  | one => exact ⟨1, 0, by omega, by omega, by omega, rfl⟩
  | @t p q l h ih =>
    obtain ⟨a, b, h1, h2, h3, h4⟩ := ih
    refine ⟨a + b, b, by omega, by omega, h3, ?_⟩
    rw [Nat.add_mul, Nat.mul_add, h4]; omega
  | @s p q l h ih =>
    obtain ⟨a, b, h1, h2, h3, h4⟩ := ih
    refine ⟨a, a + b, h1, h2, by omega, ?_⟩
    rw [Nat.add_mul, Nat.mul_add, h4]; omega

/-! ### points of a low word -/
def xs_ (p q i : Nat) : Nat := ((lowR p q).take i).count 114
def ys_ (p q i : Nat) : Nat := ((lowR p q).take i).count 117
theorem take_mach {p q i : Nat} (h : 0 < p + q) (hi : i ≤ p + q) : (lowR p q).take i = mach p q i 0 := by
  have e := mach_rest h i 0
  rw [rest_zero] at e
  rw [e]
  unfold lowR
  rw [← List.map_take, List.take_range, Nat.min_eq_left hi]
  apply List.map_congr_left
  intro j _
  rw [Nat.zero_add]
theorem pt_sum {p q i : Nat} (h : 0 < p + q) (hi : i ≤ p + q) : xs_ p q i + ys_ p q i = i := by
  unfold xs_ ys_
  rw [take_mach h hi]
  exact mach_two p q i 0
theorem pt_val {p q i : Nat} (h : 0 < p + q) (hi : i ≤ p + q) : xs_ p q i * q = ys_ p q i * p + rest p q i := by
  unfold xs_ ys_
  rw [take_mach h hi]
  have e := mach_count p q i 0
  have e2 := stM_rest h i 0
  rw [rest_zero, Nat.zero_add] at e2
  rw [e2] at e
  omega
theorem rest_ne {p q i : Nat} (hg : Nat.gcd p q = 1) (h0 : 0 < i) (hi : i < p + q) : 1 ≤ rest p q i := by
  rcases Nat.eq_zero_or_pos (rest p q i) with e | e
  · unfold rest at e
    have d : p + q ∣ i * q := Nat.dvd_of_mod_eq_zero e
    have hc : Nat.Coprime (p + q) q := by
      show Nat.gcd (p + q) q = 1
      rw [Nat.gcd_add_self_left]; exact hg
    have d2 := hc.dvd_of_dvd_mul_right d
    have := Nat.le_of_dvd h0 d2
    omega
  · exact e
/-- what is told of a rest -/
theorem rest_of {a b x y r i : Nat} (h : 0 < a + b) (hs : x + y = i) (hv : x * b = y * a + r) (hr : r < a + b) : rest a b i = r := by
  unfold rest
  rw [← hs, Nat.add_mul, hv, show y * a + r + y * b = r + (a + b) * y by rw [Nat.add_mul, Nat.mul_comm a y, Nat.mul_comm b y]; omega, Nat.add_mul_mod_self_left, Nat.mod_eq_of_lt hr]
theorem low_ext {a b : Nat} {w : List Nat} (hl : w.length = a + b) (h : ∀ i, i < a + b → w[i]? = some (letter a b i)) : lowR a b = w := by
  apply List.ext_getElem?
  intro i
  unfold lowR
  by_cases c : i < a + b
  · rw [h i c, List.getElem?_map, List.getElem?_range c]; rfl
  · rw [List.getElem?_eq_none (by rw [List.length_map, List.length_range]; omega), List.getElem?_eq_none (by omega)]
theorem lowR_get {p q i : Nat} (h : i < p + q) : (lowR p q)[i]? = some (letter p q i) := by
  unfold lowR
  rw [List.getElem?_map, List.getElem?_range h]; rfl
theorem lowR_len (p q : Nat) : (lowR p q).length = p + q := by unfold lowR; rw [List.length_map, List.length_range]
theorem xs_le {p q i : Nat} (h : 0 < p + q) : xs_ p q i ≤ p := by
  have e := (low_counts h).1
  rw [low_eq h] at e
  unfold xs_
  exact Nat.le_trans (List.Sublist.count_le 114 (List.take_sublist i (lowR p q))) (by rw [e]; exact Nat.le_refl _)
theorem ys_le {p q i : Nat} (h : 0 < p + q) : ys_ p q i ≤ q := by
  have e := (low_counts h).2
  rw [low_eq h] at e
  unfold ys_
  exact Nat.le_trans (List.Sublist.count_le 117 (List.take_sublist i (lowR p q))) (by rw [e]; exact Nat.le_refl _)
theorem xs_mono {p q i j : Nat} (h : i ≤ j) : xs_ p q i ≤ xs_ p q j := by
  unfold xs_
  rw [show (lowR p q).take i = ((lowR p q).take j).take i by rw [List.take_take, Nat.min_eq_left h]]
  exact List.Sublist.count_le 114 (List.take_sublist _ _)
theorem ys_mono {p q i j : Nat} (h : i ≤ j) : ys_ p q i ≤ ys_ p q j := by
  unfold ys_
  rw [show (lowR p q).take i = ((lowR p q).take j).take i by rw [List.take_take, Nat.min_eq_left h]]
  exact List.Sublist.count_le 117 (List.take_sublist _ _)
/-- the cut at m is one into two low words -/
def Good (p q m : Nat) : Prop := Nat.gcd (xs_ p q m) (ys_ p q m) = 1 ∧ Nat.gcd (p - xs_ p q m) (q - ys_ p q m) = 1 ∧ lowR (xs_ p q m) (ys_ p q m) ++ lowR (p - xs_ p q m) (q - ys_ p q m) = lowR p q
theorem lt_of_mul {n u v : Int} (hn : 0 < n) (h : n * u < n * v) : u < v := Int.lt_of_mul_lt_mul_left h (Int.le_of_lt hn)
theorem near_good {p q m : Nat} (hg : Nat.gcd p q = 1) (h0 : 0 < m) (hm : m < p + q) (hr : rest p q m = 1) : Good p q m := by
  have hn : 0 < p + q := by omega
  have hs := pt_sum hn (Nat.le_of_lt hm)
  have hv := pt_val hn (Nat.le_of_lt hm)
  rw [hr] at hv
  have hxp := xs_le (i := m) hn
  have hyq := ys_le (i := m) hn
  unfold Good
  have mono : ∀ i, i ≤ m → xs_ p q i ≤ xs_ p q m ∧ ys_ p q i ≤ ys_ p q m := fun i hi => ⟨xs_mono hi, ys_mono hi⟩
  have mono2 : ∀ i, m ≤ i → xs_ p q m ≤ xs_ p q i ∧ ys_ p q m ≤ ys_ p q i := fun i hi => ⟨xs_mono hi, ys_mono hi⟩
  generalize xs_ p q m = a at *
  generalize ys_ p q m = b at *
  obtain ⟨c, rfl⟩ : ∃ c, p = a + c := ⟨p - a, by omega⟩
  obtain ⟨d, rfl⟩ : ∃ d, q = b + d := ⟨q - b, by omega⟩
  rw [Nat.add_sub_cancel_left, Nat.add_sub_cancel_left]
  -- a d = b c + 1
  have hdet : a * d = b * c + 1 := by
    rw [Nat.mul_add, Nat.mul_add, Nat.mul_comm b a] at hv
    omega
  have g1 : Nat.gcd a b = 1 := by
    have d1 := Nat.dvd_trans (Nat.gcd_dvd_left a b) (Nat.dvd_mul_right a d)
    have d2 := Nat.dvd_trans (Nat.gcd_dvd_right a b) (Nat.dvd_mul_right b c)
    rw [hdet] at d1
    exact Nat.dvd_one.mp ((Nat.dvd_add_right d2).mp d1)
  have g2 : Nat.gcd c d = 1 := by
    have d1 := Nat.dvd_trans (Nat.gcd_dvd_right c d) (Nat.dvd_mul_left d a)
    have d2 := Nat.dvd_trans (Nat.gcd_dvd_left c d) (Nat.dvd_mul_left c b)
    rw [hdet] at d1
    exact Nat.dvd_one.mp ((Nat.dvd_add_right d2).mp d1)
  refine ⟨g1, g2, ?_⟩
  have hl := lowR_len (a + c) (b + d)
  have e1 : lowR a b = (lowR (a + c) (b + d)).take m := by
    refine low_ext (by rw [List.length_take, hl]; omega) fun i hi => ?_
    rw [List.getElem?_take_of_lt (by omega), lowR_get (by omega)]
    congr 1
    have si := pt_sum hn (show i ≤ a + c + (b + d) by omega)
    have vi := pt_val hn (show i ≤ a + c + (b + d) by omega)
    have rl := rest_lt hn i
    have mi := mono i (by omega)
    generalize hx : xs_ (a + c) (b + d) i = x at *
    generalize hy : ys_ (a + c) (b + d) i = y at *
    generalize hrr : rest (a + c) (b + d) i = r at *
    have vz : (x : Int) * (b + d) = y * (a + c) + r := by exact_mod_cast vi
    have dz : (a : Int) * d = b * c + 1 := by exact_mod_cast hdet
    have k0 : ((a : Int) + c + (b + d)) * (x * b - y * a) = (a + b) * r - (x + y) := by grind
    have mp : ((a : Int) + b) * (a + c) = (a + c + (b + d)) * a - 1 := by grind
    have hnz : (0 : Int) < (a : Int) + c + (b + d) := by omega
    have hmz : (0 : Int) < (a : Int) + b := by omega
    have hrz : (r : Int) + 1 ≤ (a : Int) + c + (b + d) := by omega
    have m1 : ((a : Int) + b) * r ≤ (a + b) * ((a : Int) + c + (b + d) - 1) := Int.mul_le_mul_of_nonneg_left (by omega) (by omega)
    have m0 : 0 ≤ ((a : Int) + b) * r := Int.mul_nonneg (by omega) (by omega)
    have R0 : -1 < (x : Int) * b - y * a := lt_of_mul hnz (by rw [k0]; omega)
    have R1 : (x : Int) * b - y * a < a + b := lt_of_mul hnz (by rw [k0]; grind)
    obtain ⟨r', hr'⟩ : ∃ r' : Nat, (x : Int) * b - y * a = r' := ⟨((x : Int) * b - y * a).toNat, by omega⟩
    have er : rest a b i = r' := rest_of (by omega) si (by have : ((x * b : Nat) : Int) = ((y * a + r' : Nat) : Int) := (by push_cast; omega); exact_mod_cast this) (by omega)
    rw [hr'] at k0
    unfold letter
    rw [er, hrr]
    by_cases cr : r < a + c
    · rw [if_pos cr]
      have m2 : ((a : Int) + b) * r ≤ (a + b) * ((a : Int) + c - 1) := Int.mul_le_mul_of_nonneg_left (by omega) (by omega)
      have : (r' : Int) < a := lt_of_mul hnz (by rw [k0]; grind)
      rw [if_pos (by omega)]
    · rw [if_neg cr]
      have m2 : ((a : Int) + b) * ((a : Int) + c) ≤ (a + b) * r := Int.mul_le_mul_of_nonneg_left (by omega) (by omega)
      have : (a : Int) - 1 < r' := lt_of_mul hnz (by rw [k0]; grind)
      rw [if_neg (by omega)]
  have e2 : lowR c d = (lowR (a + c) (b + d)).drop m := by
    refine low_ext (by rw [List.length_drop, hl]; omega) fun i hi => ?_
    rw [List.getElem?_drop, lowR_get (by omega)]
    congr 1
    have si := pt_sum hn (show m + i ≤ a + c + (b + d) by omega)
    have vi := pt_val hn (show m + i ≤ a + c + (b + d) by omega)
    have rl := rest_lt hn (m + i)
    have rp := rest_ne hg (show 0 < m + i by omega) (show m + i < a + c + (b + d) by omega)
    have mi := mono2 (m + i) (by omega)
    generalize hx : xs_ (a + c) (b + d) (m + i) = x at *
    generalize hy : ys_ (a + c) (b + d) (m + i) = y at *
    generalize hrr : rest (a + c) (b + d) (m + i) = r at *
    obtain ⟨x, rfl⟩ : ∃ z, x = a + z := ⟨x - a, by omega⟩
    obtain ⟨y, rfl⟩ : ∃ z, y = b + z := ⟨y - b, by omega⟩
    have vz : ((a : Int) + x) * (b + d) = (b + y) * (a + c) + r := by exact_mod_cast vi
    have dz : (a : Int) * d = b * c + 1 := by exact_mod_cast hdet
    have k0 : ((a : Int) + c + (b + d)) * (x * d - y * c) = (c + d) * (r - 1) + (x + y) := by grind
    have mp : ((c : Int) + d) * (a + c) = (a + c + (b + d)) * c + 1 := by grind
    have hnz : (0 : Int) < (a : Int) + c + (b + d) := by omega
    have hcd : (1 : Int) ≤ (c : Int) + d := by omega
    have m1 : ((c : Int) + d) * (r - 1) ≤ (c + d) * ((a : Int) + c + (b + d) - 2) := Int.mul_le_mul_of_nonneg_left (by omega) (by omega)
    have m0 : 0 ≤ ((c : Int) + d) * (r - 1) := Int.mul_nonneg (by omega) (by omega)
    have R0 : -1 < (x : Int) * d - y * c := lt_of_mul hnz (by rw [k0]; omega)
    have R1 : (x : Int) * d - y * c < c + d := lt_of_mul hnz (by rw [k0]; grind)
    obtain ⟨r', hr'⟩ : ∃ r' : Nat, (x : Int) * d - y * c = r' := ⟨((x : Int) * d - y * c).toNat, by omega⟩
    have er : rest c d i = r' := rest_of (x := x) (y := y) (by omega) (by omega) (by have : ((x * d : Nat) : Int) = ((y * c + r' : Nat) : Int) := (by push_cast; omega); exact_mod_cast this) (by omega)
    rw [hr'] at k0
    unfold letter
    rw [er, hrr]
    by_cases cr : r < a + c
    · rw [if_pos cr]
      have m2 : ((c : Int) + d) * (r - 1) ≤ (c + d) * ((a : Int) + c - 2) := Int.mul_le_mul_of_nonneg_left (by omega) (by omega)
      have : (r' : Int) < c := lt_of_mul hnz (by rw [k0]; grind)
      rw [if_pos (by omega)]
    · rw [if_neg cr]
      have m2 : ((c : Int) + d) * ((a : Int) + c - 1) ≤ (c + d) * (r - 1) := Int.mul_le_mul_of_nonneg_left (by omega) (by omega)
      have : (c : Int) - 1 < r' := lt_of_mul hnz (by rw [k0]; grind)
      rw [if_neg (by omega)]
  rw [e1, e2, List.take_append_drop]
/-- the only good cut -/
theorem good_near {p q m k : Nat} (hg : Nat.gcd p q = 1) (h0 : 0 < m) (hm : m < p + q) (k0 : 0 < k) (hk : k < p + q) (hr : rest p q k = 1) (h : Good p q m) : m = k := by
  have hn : 0 < p + q := by omega
  have hs := pt_sum hn (Nat.le_of_lt hm)
  have hv := pt_val hn (Nat.le_of_lt hm)
  have hs2 := pt_sum hn (Nat.le_of_lt hk)
  have hv2 := pt_val hn (Nat.le_of_lt hk)
  have hxp := xs_le (i := m) hn
  have hyq := ys_le (i := m) hn
  have rp := rest_ne hg h0 hm
  rw [hr] at hv2
  obtain ⟨g1, g2, g3⟩ := h
  have hl := congrArg List.length g3
  rw [List.length_append, lowR_len, lowR_len, lowR_len] at hl
  have mono : k ≤ m → xs_ p q k ≤ xs_ p q m ∧ ys_ p q k ≤ ys_ p q m := fun hi => ⟨xs_mono hi, ys_mono hi⟩
  have mono2 : m ≤ k → xs_ p q m ≤ xs_ p q k ∧ ys_ p q m ≤ ys_ p q k := fun hi => ⟨xs_mono hi, ys_mono hi⟩
  have t1 : k ≤ m → xs_ p q k = xs_ (xs_ p q m) (ys_ p q m) k ∧ ys_ p q k = ys_ (xs_ p q m) (ys_ p q m) k := fun hi => by
    unfold xs_ ys_ at *
    have e : (lowR p q).take k = (lowR (((lowR p q).take m).count 114) (((lowR p q).take m).count 117)).take k := by
      rw [← g3, List.take_append_of_le_length (by rw [lowR_len]; omega), g3]
    rw [← e]
    exact ⟨rfl, rfl⟩
  have t2 : m ≤ k → xs_ p q k = xs_ p q m + xs_ (p - xs_ p q m) (q - ys_ p q m) (k - m) ∧ ys_ p q k = ys_ p q m + ys_ (p - xs_ p q m) (q - ys_ p q m) (k - m) := fun hi => by
    have e : (lowR p q).take k = (lowR p q).take m ++ ((lowR p q).drop m).take (k - m) := by
      rw [← List.take_add, show m + (k - m) = k by omega]
    have e2 : (lowR p q).drop m = lowR (p - xs_ p q m) (q - ys_ p q m) := by
      rw [← g3, List.drop_append_of_le_length (by rw [lowR_len]; omega), List.drop_of_length_le (by rw [lowR_len]; omega), List.nil_append]
    constructor
    · show ((lowR p q).take k).count 114 = _
      rw [e, List.count_append, e2]; rfl
    · show ((lowR p q).take k).count 117 = _
      rw [e, List.count_append, e2]; rfl
  generalize xs_ p q m = a at *
  generalize ys_ p q m = b at *
  obtain ⟨c, rfl⟩ : ∃ c, p = a + c := ⟨p - a, by omega⟩
  obtain ⟨d, rfl⟩ : ∃ d, q = b + d := ⟨q - b, by omega⟩
  rw [Nat.add_sub_cancel_left, Nat.add_sub_cancel_left] at *
  have hnz : (0 : Int) < (a : Int) + c + (b + d) := by omega
  rcases Nat.lt_trichotomy k m with hlt | he | hgt
  · obtain ⟨u1, u2⟩ := t1 (by omega)
    have v1 := pt_val (show 0 < a + b by omega) (show k ≤ a + b by omega)
    have r1 := rest_ne g1 k0 (by omega)
    rw [← u1, ← u2] at v1
    generalize xs_ (a + c) (b + d) k = x at *
    generalize ys_ (a + c) (b + d) k = y at *
    generalize rest a b k = h' at *
    generalize rest (a + c) (b + d) m = v at *
    have z1 : (a : Int) * (b + d) = b * (a + c) + v := by exact_mod_cast hv
    have z2 : (x : Int) * (b + d) = y * (a + c) + 1 := by exact_mod_cast hv2
    have z3 : (x : Int) * b = y * a + h' := by exact_mod_cast v1
    have z4 : ((a : Int) + c + (b + d)) * h' = a + b - v * (x + y) := by grind
    have z5 : ((a : Int) + c + (b + d)) * 1 ≤ ((a : Int) + c + (b + d)) * h' := Int.mul_le_mul_of_nonneg_left (by omega) (by omega)
    have z6 : 0 ≤ (v : Int) * (x + y) := Int.mul_nonneg (by omega) (by omega)
    omega
  · exact he.symm
  · obtain ⟨u1, u2⟩ := t2 (by omega)
    have v1 := pt_val (show 0 < c + d by omega) (show k - m ≤ c + d by omega)
    have s1 := pt_sum (show 0 < c + d by omega) (show k - m ≤ c + d by omega)
    have r1 := rest_ne g2 (show 0 < k - m by omega) (show k - m < c + d by omega)
    generalize xs_ c d (k - m) = x at *
    generalize ys_ c d (k - m) = y at *
    generalize xs_ (a + c) (b + d) k = x2 at *
    generalize ys_ (a + c) (b + d) k = y2 at *
    generalize rest c d (k - m) = h' at *
    generalize rest (a + c) (b + d) m = v at *
    subst u1 u2
    have z1 : (a : Int) * (b + d) = b * (a + c) + v := by exact_mod_cast hv
    have z2 : ((a : Int) + x) * (b + d) = (b + y) * (a + c) + 1 := by exact_mod_cast hv2
    have z3 : (x : Int) * d = y * c + h' := by exact_mod_cast v1
    have z4 : ((a : Int) + c + (b + d)) * h' = (x + y) * v - (c + d) * (v - 1) := by grind
    have z5 : ((a : Int) + c + (b + d)) * 1 ≤ ((a : Int) + c + (b + d)) * h' := Int.mul_le_mul_of_nonneg_left (by omega) (by omega)
    have z6 : ((x : Int) + y) * v ≤ (c + d) * v := Int.mul_le_mul_of_nonneg_right (by omega) (by omega)
    have z7 : ((c : Int) + d) * (v - 1) = (c + d) * v - (c + d) := by grind
    omega
/-- letters from the end -/
theorem letter_back {p q i : Nat} (hg : Nat.gcd p q = 1) (h1 : 1 ≤ i) (h2 : i + 2 ≤ p + q) : letter p q (p + q - 1 - i) = letter p q i := by
  have hn : 0 < p + q := by omega
  have r1 := rest_ne hg (show 0 < i by omega) (show i < p + q by omega)
  have r2 := rest_ne hg (show 0 < p + q - 1 - i by omega) (show p + q - 1 - i < p + q by omega)
  have l1 := rest_lt hn i
  have l2 := rest_lt hn (p + q - 1 - i)
  have key : (rest p q i + rest p q (p + q - 1 - i)) % (p + q) = p % (p + q) := by
    unfold rest
    rw [← Nat.add_mod, ← Nat.add_mul, show i + (p + q - 1 - i) = p + q - 1 by omega]
    have e : (p + q - 1) * q + (p + q) = p + (p + q) * q := by
      obtain ⟨n, hn2⟩ : ∃ n, p + q = n + 1 := ⟨p + q - 1, by omega⟩
      rw [hn2, Nat.add_sub_cancel, Nat.add_mul, Nat.one_mul]; omega
    have e2 := congrArg (· % (p + q)) e
    simp only [Nat.add_mod_right, Nat.add_mul_mod_self_left] at e2
    exact e2
  unfold letter
  generalize rest p q i = r at *
  generalize rest p q (p + q - 1 - i) = r' at *
  have hp : p ≤ p + q := by omega
  by_cases c : q = 0
  · subst c
    rw [Nat.gcd_zero_right] at hg
    omega
  · rw [Nat.mod_eq_of_lt (show p < p + q by omega)] at key
    by_cases c2 : r + r' < p + q
    · rw [Nat.mod_eq_of_lt c2] at key
      rw [if_pos (by omega), if_pos (by omega)]
    · rw [Nat.mod_eq_sub_mod (by omega), Nat.mod_eq_of_lt (by omega)] at key
      rw [if_neg (by omega), if_neg (by omega)]
end Lw

set_option Elab.async false
set_option linter.all false
set_option maxRecDepth 100000
set_option maxHeartbeats 0
namespace K85
open PySem PySem.Spec PyProof.Rows L2 Mi
/-! ### the text -/
def top (i : Nat) : Stmt := PySem.Challenge.pw_gluedsquares_k85_whole_low_words.main.body.getD i (.Pass ⟨0, 0, 0, 0⟩)
def f0 : Fn := ⟨"share_of", top 9, ["one", "other"], ["one", "other"]⟩
def f1 : Fn := ⟨"low_steps", top 10, ["over", "up", "letters", "values", "here", "_"], ["over", "up"]⟩
def f2 : Fn := ⟨"low_in", top 11, ["over", "up"], ["over", "up"]⟩
def f3 : Fn := ⟨"counts_in", top 12, ["word", "many", ".0", "letter"], ["word"]⟩
def f4 : Fn := ⟨"first_in", top 13, ["word", "over", "up", "low", "twice", "at"], ["word"]⟩
def f5 : Fn := ⟨"halves_in", top 14, ["over", "up", "word", "values", "cut"], ["over", "up"]⟩
def f6 : Fn := ⟨"path_in", top 15, ["over", "up", "found", "many"], ["over", "up"]⟩
def f7 : Fn := ⟨"behind_letter", top 16, ["word", "letter", "turned", ".0", "one"], ["word", "letter"]⟩
def f8 : Fn := ⟨"is_index", top 17, ["value", "many"], ["value", "many"]⟩
def f9 : Fn := ⟨"require_step_word", top 18, ["word", ".0", "letter"], ["word"]⟩
def f10 : Fn := ⟨"require_slope", top 19, ["over", "up", "value"], ["over", "up"]⟩
def f11 : Fn := ⟨"require_wide", top 20, ["over", "up"], ["over", "up"]⟩
def f12 : Fn := ⟨"require_path", top 21, ["path", ".0", "letter"], ["path"]⟩
def f13 : Fn := ⟨"low_word", top 22, ["over", "up"], ["over", "up"]⟩
def f14 : Fn := ⟨"high_word", top 23, ["over", "up"], ["over", "up"]⟩
def f15 : Fn := ⟨"is_straight", top 24, ["word"], ["word"]⟩
def f16 : Fn := ⟨"slope_of", top 25, ["word"], ["word"]⟩
def f17 : Fn := ⟨"halves", top 26, ["over", "up"], ["over", "up"]⟩
def f18 : Fn := ⟨"core", top 27, ["over", "up"], ["over", "up"]⟩
def f19 : Fn := ⟨"path_of", top 28, ["over", "up"], ["over", "up"]⟩
def f20 : Fn := ⟨"slope_of_path", top 29, ["path", "over", "up", "letter"], ["path"]⟩
def f21 : Fn := ⟨"led_word", top 30, ["word", "path", "letter"], ["word", "path"]⟩
def f22 : Fn := ⟨"_law_dice", top 32, ["script", "spot", "cell", "great", "seed"], ["script", "spot"]⟩
def f23 : Fn := ⟨"_law_roll", top 33, ["dice", "total", "found", "one", "two"], ["dice", "total"]⟩
def f24 : Fn := ⟨"_law_pick", top 34, ["dice", "items"], ["dice", "items"]⟩
def f25 : Fn := ⟨"_law_gcd", top 35, ["one", "other"], ["one", "other"]⟩
def f26 : Fn := ⟨"_law_low", top 36, ["over", "up", "many", ".0", "at"], ["over", "up"]⟩
def f27 : Fn := ⟨"_law_way", top 37, ["word", "path", "letter"], ["word", "path"]⟩
def f28 : Fn := ⟨"_law_wd_slope", top 38, ["dice", "most", "over", "up"], ["dice", "most"]⟩
def f29 : Fn := ⟨"_law_path", top 39, ["over", "up", "found"], ["over", "up"]⟩
def f30 : Fn := ⟨"_law_halves", top 40, ["over", "up", "word", "found", "at", "one", "two"], ["over", "up"]⟩
def f31 : Fn := ⟨"_law_right", top 41, ["dice", "over", "up", "word", "some", "a", "b", "c", "d", "path"], ["dice"]⟩
def f32 : Fn := ⟨"law", top 42, ["script", "spot", "dice", "path", "over", "up", ".0", "at"], ["script"]⟩
def fs : List Fn := ([f0, f1, f2, f3, f4, f5, f6, f7, f8, f9, f10, f11, f12, f13, f14, f15, f16, f17, f18, f19] : List Fn) ++ ([f20, f21, f22, f23, f24, f25, f26, f27, f28, f29, f30, f31, f32] : List Fn)
def gl : List (Str × G) := ([("share_of", .fn 0), ("low_steps", .fn 1), ("low_in", .fn 2), ("counts_in", .fn 3), ("first_in", .fn 4), ("halves_in", .fn 5), ("path_in", .fn 6), ("behind_letter", .fn 7), ("is_index", .fn 8), ("require_step_word", .fn 9), ("require_slope", .fn 10), ("require_wide", .fn 11), ("require_path", .fn 12), ("low_word", .fn 13), ("high_word", .fn 14)] : List (Str × G)) ++ ([("is_straight", .fn 15), ("slope_of", .fn 16), ("halves", .fn 17), ("core", .fn 18), ("path_of", .fn 19), ("slope_of_path", .fn 20), ("led_word", .fn 21), ("_law_dice", .fn 22), ("_law_roll", .fn 23), ("_law_pick", .fn 24), ("_law_gcd", .fn 25), ("_law_low", .fn 26), ("_law_way", .fn 27), ("_law_wd_slope", .fn 28), ("_law_path", .fn 29)] : List (Str × G)) ++ ([("_law_halves", .fn 30), ("_law_right", .fn 31), ("law", .fn 32), ("MOST_LETTERS", .con (.int 2000)), ("MOST_PATH", .con (.int 500)), ("range", .rng), ("len", .bi .len), ("isinstance", .bi .isi), ("int", .bi .int), ("bool", .ty "bool"), ("str", .ty "str"), ("all", .bi .all), ("abs", .bi .abs), ("max", .bi .max), ("min", .bi .min)] : List (Str × G)) ++ ([("GluedError", .exc), ("InvalidWord", .exc), ("InvalidOperation", .exc)] : List (Str × G))
def exs : List (Str × List Str × List Str) := [("GluedError", ["GluedError", "InvalidWord", "InvalidOperation"], []), ("InvalidWord", ["InvalidWord"], ["GluedError", "InvalidOperation"]), ("InvalidOperation", ["InvalidOperation"], ["GluedError", "InvalidWord"])]
/-- share_of -/
def d0 : Df := ⟨2, 2, (.cons (.whl (.cmp .ne (.v 1) (.c (.int 0))) (.cons (.par2 0 1 (.v 1) (.bin .mod (.v 0) (.v 1))) .nil)) (.cons (.ret (.v 0)) .nil))⟩
/-- low_steps -/
def d1 : Df := ⟨2, 6, (.cons (.par3 2 3 4 (.lst .nil) (.lst .nil) (.c (.int 0))) (.cons (.for_ (.nm 5) (.rng1 (.bin .add (.v 0) (.v 1))) (.cons (.iff (.cmp .lt (.v 4) (.v 0)) (.cons (.ex (.mt .append (.v 2) (.cons (.c (.str [114])) .nil))) (.cons (.aug 4 .add (.v 1)) .nil)) (.cons (.ex (.mt .append (.v 2) (.cons (.c (.str [117])) .nil))) (.cons (.aug 4 .sub (.v 0)) .nil))) (.cons (.ex (.mt .append (.v 3) (.cons (.v 4) .nil))) .nil))) (.cons (.ret (.tup (.cons (.mt .join (.c (.str [])) (.cons (.v 2) .nil)) (.cons (.v 3) .nil)))) .nil)))⟩
/-- low_in -/
def d2 : Df := ⟨2, 2, (.cons (.ret (.ix (.call 1 (.cons (.v 0) (.cons (.v 1) .nil))) (.c (.int 0)))) .nil)⟩
/-- counts_in -/
def d3 : Df := ⟨1, 4, (.cons (.asg (.n (.nm 1)) (.bi .len (.cons (.lc (.nm 3) (.of (.v 0)) (.cons (.cmp .eq (.v 3) (.c (.str [114]))) .nil) (.v 3) [2, 3]) .nil))) (.cons (.ret (.tup (.cons (.v 1) (.cons (.bin .sub (.bi .len (.cons (.v 0) .nil)) (.v 1)) .nil)))) .nil))⟩
/-- first_in -/
def d4 : Df := ⟨1, 6, (.cons (.asg (.n (.tup (.cons (.nm 1) (.cons (.nm 2) .nil)))) (.call 3 (.cons (.v 0) .nil))) (.cons (.iff (.cmp .ne (.call 0 (.cons (.v 1) (.cons (.v 2) .nil))) (.c (.int 1))) (.cons (.ret (.c .non)) .nil) .nil) (.cons (.par2 3 4 (.call 2 (.cons (.v 1) (.cons (.v 2) .nil))) (.bin .add (.v 0) (.v 0))) (.cons (.for_ (.nm 5) (.rng1 (.bi .len (.cons (.v 0) .nil))) (.cons (.iff (.cmp .eq (.sl (.v 4) (.cons (.v 5) .nil) (.cons (.bin .add (.v 5) (.bi .len (.cons (.v 0) .nil))) .nil)) (.v 3)) (.cons (.ret (.v 5)) .nil) .nil) .nil)) (.cons (.ret (.c .non)) .nil)))))⟩
/-- halves_in -/
def d5 : Df := ⟨2, 5, (.cons (.asg (.n (.tup (.cons (.nm 2) (.cons (.nm 3) .nil)))) (.call 1 (.cons (.v 0) (.cons (.v 1) .nil)))) (.cons (.asg (.n (.nm 4)) (.bin .add (.mt .index (.v 3) (.cons (.c (.int 1)) .nil)) (.c (.int 1)))) (.cons (.ret (.tup (.cons (.call 3 (.cons (.sl (.v 2) .nil (.cons (.v 4) .nil)) .nil)) (.cons (.call 3 (.cons (.sl (.v 2) (.cons (.v 4) .nil) .nil) .nil)) .nil)))) .nil)))⟩
/-- path_in -/
def d6 : Df := ⟨2, 4, (.cons (.asg (.n (.nm 2)) (.lst .nil)) (.cons (.whl (.cmp .ne (.tup (.cons (.v 0) (.cons (.v 1) .nil))) (.tup (.cons (.c (.int 1)) (.cons (.c (.int 1)) .nil)))) (.cons (.iff (.cmp .gt (.v 0) (.v 1)) (.cons (.asg (.n (.nm 3)) (.bin .div (.bin .sub (.v 0) (.c (.int 1))) (.v 1))) (.cons (.ex (.mt .append (.v 2) (.cons (.bin .mul (.c (.str [116])) (.v 3)) .nil))) (.cons (.asg (.n (.nm 0)) (.bin .sub (.v 0) (.bin .mul (.v 3) (.v 1)))) .nil))) (.cons (.asg (.n (.nm 3)) (.bin .div (.bin .sub (.v 1) (.c (.int 1))) (.v 0))) (.cons (.ex (.mt .append (.v 2) (.cons (.bin .mul (.c (.str [115])) (.v 3)) .nil))) (.cons (.asg (.n (.nm 1)) (.bin .sub (.v 1) (.bin .mul (.v 3) (.v 0)))) .nil)))) .nil)) (.cons (.ret (.mt .join (.c (.str [])) (.cons (.rv (.v 2) none none) .nil))) .nil)))⟩
/-- behind_letter -/
def d7 : Df := ⟨2, 5, (.cons (.asg (.n (.nm 2)) (.ife (.cmp .eq (.v 1) (.c (.str [116]))) (.c (.str [117])) (.c (.str [114])))) (.cons (.ret (.mt .join (.c (.str [])) (.cons (.lc (.nm 4) (.of (.v 0)) .nil (.ife (.cmp .eq (.v 4) (.v 2)) (.c (.str [114, 117])) (.v 4)) [3, 4]) .nil))) .nil))⟩
/-- is_index -/
def d8 : Df := ⟨2, 2, (.cons (.ret (.and (.bi .isi (.cons (.v 0) (.cons (.c (.ty "int")) .nil))) (.and (.no (.bi .isi (.cons (.v 0) (.cons (.c (.ty "bool")) .nil)))) (.chn .le .lt (.c (.int 0)) (.v 0) (.v 1))))) .nil)⟩
/-- require_step_word -/
def d9 : Df := ⟨1, 3, (.cons (.iff (.or (.no (.bi .isi (.cons (.v 0) (.cons (.c (.ty "str")) .nil)))) (.or (.no (.chn .le .le (.c (.int 1)) (.bi .len (.cons (.v 0) .nil)) (.c (.int 2000)))) (.no (.bi .all (.cons (.lc (.nm 2) (.of (.v 0)) .nil (.cmp .isin (.v 2) (.c (.str [114, 117]))) [1, 2]) .nil))))) (.cons (.rai "InvalidOperation") .nil) .nil) .nil)⟩
/-- require_slope -/
def d10 : Df := ⟨2, 3, (.cons (.for_ (.nm 2) (.of (.tup (.cons (.v 0) (.cons (.v 1) .nil)))) (.cons (.iff (.no (.call 8 (.cons (.v 2) (.cons (.bin .add (.c (.int 2000)) (.c (.int 1))) .nil)))) (.cons .never .nil) .nil) .nil)) (.cons (.iff (.or (.cmp .ne (.call 0 (.cons (.v 0) (.cons (.v 1) .nil))) (.c (.int 1))) (.cmp .gt (.bin .add (.v 0) (.v 1)) (.c (.int 2000)))) (.cons (.rai "InvalidOperation") .nil) .nil) .nil))⟩
/-- require_wide -/
def d11 : Df := ⟨2, 2, (.cons (.ex (.call 10 (.cons (.v 0) (.cons (.v 1) .nil)))) (.cons (.iff (.or (.cmp .eq (.v 0) (.c (.int 0))) (.cmp .eq (.v 1) (.c (.int 0)))) (.cons (.rai "InvalidOperation") .nil) .nil) .nil))⟩
/-- require_path -/
def d12 : Df := ⟨1, 3, (.cons (.iff (.or (.no (.bi .isi (.cons (.v 0) (.cons (.c (.ty "str")) .nil)))) (.or (.cmp .gt (.bi .len (.cons (.v 0) .nil)) (.c (.int 500))) (.no (.bi .all (.cons (.lc (.nm 2) (.of (.v 0)) .nil (.cmp .isin (.v 2) (.c (.str [116, 115]))) [1, 2]) .nil))))) (.cons (.rai "InvalidWord") .nil) .nil) .nil)⟩
/-- low_word -/
def d13 : Df := ⟨2, 2, (.cons (.ex (.call 10 (.cons (.v 0) (.cons (.v 1) .nil)))) (.cons (.ret (.call 2 (.cons (.v 0) (.cons (.v 1) .nil)))) .nil))⟩
/-- high_word -/
def d14 : Df := ⟨2, 2, (.cons (.ex (.call 10 (.cons (.v 0) (.cons (.v 1) .nil)))) (.cons (.ret (.rv (.call 2 (.cons (.v 0) (.cons (.v 1) .nil))) none none)) .nil))⟩
/-- is_straight -/
def d15 : Df := ⟨1, 1, (.cons (.ex (.call 9 (.cons (.v 0) .nil))) (.cons (.ret (.cmp .notsame (.call 4 (.cons (.v 0) .nil)) (.c .non))) .nil))⟩
/-- slope_of -/
def d16 : Df := ⟨1, 1, (.cons (.ex (.call 9 (.cons (.v 0) .nil))) (.cons (.iff (.cmp .same (.call 4 (.cons (.v 0) .nil)) (.c .non)) (.cons (.rai "InvalidOperation") .nil) .nil) (.cons (.ret (.call 3 (.cons (.v 0) .nil))) .nil)))⟩
/-- halves -/
def d17 : Df := ⟨2, 2, (.cons (.ex (.call 11 (.cons (.v 0) (.cons (.v 1) .nil)))) (.cons (.ret (.call 5 (.cons (.v 0) (.cons (.v 1) .nil)))) .nil))⟩
/-- core -/
def d18 : Df := ⟨2, 2, (.cons (.ex (.call 11 (.cons (.v 0) (.cons (.v 1) .nil)))) (.cons (.ret (.sl (.call 2 (.cons (.v 0) (.cons (.v 1) .nil))) (.cons (.c (.int 1)) .nil) (.cons (.neg (.c (.int 1))) .nil))) .nil))⟩
/-- path_of -/
def d19 : Df := ⟨2, 2, (.cons (.ex (.call 11 (.cons (.v 0) (.cons (.v 1) .nil)))) (.cons (.ret (.call 6 (.cons (.v 0) (.cons (.v 1) .nil)))) .nil))⟩
/-- slope_of_path -/
def d20 : Df := ⟨1, 4, (.cons (.ex (.call 12 (.cons (.v 0) .nil))) (.cons (.asg (.n (.tup (.cons (.nm 1) (.cons (.nm 2) .nil)))) (.tup (.cons (.c (.int 1)) (.cons (.c (.int 1)) .nil)))) (.cons (.for_ (.nm 3) (.of (.v 0)) (.cons (.iff (.cmp .eq (.v 3) (.c (.str [116]))) (.cons (.aug 1 .add (.v 2)) .nil) (.cons (.aug 2 .add (.v 1)) .nil)) .nil)) (.cons (.ret (.tup (.cons (.v 1) (.cons (.v 2) .nil)))) .nil))))⟩
/-- led_word -/
def d21 : Df := ⟨2, 3, (.cons (.ex (.call 9 (.cons (.v 0) .nil))) (.cons (.ex (.call 12 (.cons (.v 1) .nil))) (.cons (.for_ (.nm 2) (.of (.v 1)) (.cons (.asg (.n (.nm 0)) (.call 7 (.cons (.v 0) (.cons (.v 2) .nil)))) (.cons (.iff (.cmp .gt (.bi .len (.cons (.v 0) .nil)) (.c (.int 2000))) (.cons .never .nil) .nil) .nil))) (.cons (.ret (.v 0)) .nil))))⟩
/-- _law_dice -/
def d22 : Df := ⟨2, 5, (.cons (.asg (.n (.nm 2)) (.ife (.cmp .lt (.v 1) (.bi .len (.cons (.v 0) .nil))) (.bi .int (.cons (.ix (.v 0) (.v 1)) .nil)) (.bin .add (.bin .mul (.c (.int 151)) (.v 1)) (.c (.int 59))))) (.cons (.asg (.n (.nm 3)) (.bin .mod (.bi .int (.cons (.bi .abs (.cons (.v 2) .nil)) .nil)) (.bin .pow (.bin .pow (.c (.int 10)) (.c (.int 54))) (.c (.int 6))))) (.cons (.asg (.n (.nm 4)) (.bin .add (.bin .add (.bin .add (.bin .mul (.bin .mod (.v 3) (.c (.int 2305843009213693921))) (.c (.int 71))) (.bin .mul (.c (.int 751)) (.v 1))) (.bin .mul (.c (.int 41)) (.bi .int (.cons (.cmp .lt (.v 2) (.c (.int 0))) .nil)))) (.c (.int 31)))) (.cons (.ret (.lst (.cons (.bi .max (.cons (.c (.int 0)) (.cons (.bin .sub (.v 3) (.bin .pow (.c (.int 10)) (.c (.int 16)))) .nil))) (.cons (.v 4) (.cons (.c (.int 0)) .nil))))) .nil))))⟩
/-- _law_roll -/
def d23 : Df := ⟨2, 5, (.cons (.iff (.cmp .gt (.ix (.v 0) (.c (.int 0))) (.c (.int 0))) (.cons (.asg (.n (.nm 2)) (.bin .mod (.ix (.v 0) (.c (.int 0))) (.v 1))) (.cons (.asg (.sub (.v 0) (.c (.int 0))) (.bin .div (.ix (.v 0) (.c (.int 0))) (.v 1))) (.cons (.ret (.bi .int (.cons (.v 2) .nil))) .nil))) .nil) (.cons (.asg (.sub (.v 0) (.c (.int 2))) (.bin .add (.ix (.v 0) (.c (.int 2))) (.c (.int 1)))) (.cons (.asg (.n (.nm 3)) (.bin .mod (.bin .add (.ix (.v 0) (.c (.int 1))) (.bin .mul (.c (.int 86028157)) (.ix (.v 0) (.c (.int 2))))) (.c (.int 2305843009213693951)))) (.cons (.asg (.n (.nm 4)) (.bin .add (.bin .mul (.bin .mod (.bin .add (.bin .mul (.v 3) (.v 3)) (.bin .mul (.c (.int 181)) (.ix (.v 0) (.c (.int 2))))) (.c (.int 2305843009213693907))) (.c (.int 15485867))) (.v 3))) (.cons (.ret (.bin .mod (.bi .int (.cons (.bin .div (.v 4) (.c (.int 65579))) .nil)) (.v 1))) .nil)))))⟩
/-- _law_pick -/
def d24 : Df := ⟨2, 2, (.cons (.ret (.ix (.v 1) (.call 23 (.cons (.v 0) (.cons (.bi .len (.cons (.v 1) .nil)) .nil))))) .nil)⟩
/-- _law_gcd -/
def d25 : Df := ⟨2, 2, (.cons (.whl (.cmp .ne (.v 1) (.c (.int 0))) (.cons (.par2 0 1 (.v 1) (.bin .mod (.v 0) (.v 1))) .nil)) (.cons (.ret (.bi .abs (.cons (.v 0) .nil))) .nil))⟩
/-- _law_low -/
def d26 : Df := ⟨2, 5, (.cons (.asg (.n (.nm 2)) (.bin .add (.v 0) (.v 1))) (.cons (.ret (.mt .join (.c (.str [])) (.cons (.lc (.nm 4) (.rng1 (.v 2)) .nil (.ife (.cmp .lt (.bin .mod (.bin .mul (.v 4) (.v 1)) (.v 2)) (.v 0)) (.c (.str [114])) (.c (.str [117]))) [3, 4]) .nil))) .nil))⟩
/-- _law_way -/
def d27 : Df := ⟨2, 3, (.cons (.for_ (.nm 2) (.of (.v 1)) (.cons (.asg (.n (.nm 0)) (.ife (.cmp .eq (.v 2) (.c (.str [116]))) (.rpl (.v 0) [117] [114, 117]) (.rpl (.v 0) [114] [114, 117]))) .nil)) (.cons (.ret (.v 0)) .nil))⟩
/-- _law_wd_slope -/
def d28 : Df := ⟨2, 4, (.cons (.par2 2 3 (.call 23 (.cons (.v 0) (.cons (.v 1) .nil))) (.call 23 (.cons (.v 0) (.cons (.v 1) .nil)))) (.cons (.iff (.cmp .eq (.v 3) (.c (.int 0))) (.cons (.ret (.tup (.cons (.c (.int 1)) (.cons (.c (.int 0)) .nil)))) .nil) .nil) (.cons (.whl (.cmp .ne (.call 25 (.cons (.v 2) (.cons (.v 3) .nil))) (.c (.int 1))) (.cons (.asg (.n (.nm 2)) (.bin .add (.v 2) (.c (.int 1)))) .nil)) (.cons (.ret (.tup (.cons (.v 2) (.cons (.v 3) .nil)))) .nil))))⟩
/-- _law_path -/
def d29 : Df := ⟨2, 3, (.cons (.asg (.n (.nm 2)) (.lst .nil)) (.cons (.whl (.cmp .ne (.tup (.cons (.v 0) (.cons (.v 1) .nil))) (.tup (.cons (.c (.int 1)) (.cons (.c (.int 1)) .nil)))) (.cons (.ex (.mt .append (.v 2) (.cons (.ife (.cmp .gt (.v 0) (.v 1)) (.c (.str [116])) (.c (.str [115]))) .nil))) (.cons (.asg (.n (.tup (.cons (.nm 0) (.cons (.nm 1) .nil)))) (.ife (.cmp .gt (.v 0) (.v 1)) (.tup (.cons (.bin .sub (.v 0) (.v 1)) (.cons (.v 1) .nil))) (.tup (.cons (.v 0) (.cons (.bin .sub (.v 1) (.v 0)) .nil))))) .nil))) (.cons (.ret (.mt .join (.c (.str [])) (.cons (.rv (.v 2) none none) .nil))) .nil)))⟩
/-- _law_halves -/
def d30 : Df := ⟨2, 7, (.cons (.par2 2 3 (.call 26 (.cons (.v 0) (.cons (.v 1) .nil))) (.lst .nil)) (.cons (.for_ (.nm 4) (.rng2 (.c (.int 1)) (.bi .len (.cons (.v 2) .nil))) (.cons (.asg (.n (.nm 5)) (.tup (.cons (.mt .count (.sl (.v 2) .nil (.cons (.v 4) .nil)) (.cons (.c (.str [114])) .nil)) (.cons (.mt .count (.sl (.v 2) .nil (.cons (.v 4) .nil)) (.cons (.c (.str [117])) .nil)) .nil)))) (.cons (.asg (.n (.nm 6)) (.tup (.cons (.bin .sub (.v 0) (.ix (.v 5) (.c (.int 0)))) (.cons (.bin .sub (.v 1) (.ix (.v 5) (.c (.int 1)))) .nil)))) (.cons (.iff (.and (.cmp .eq (.call 25 (.cons (.ix (.v 5) (.c (.int 0))) (.cons (.ix (.v 5) (.c (.int 1))) .nil))) (.c (.int 1))) (.cmp .eq (.call 25 (.cons (.ix (.v 6) (.c (.int 0))) (.cons (.ix (.v 6) (.c (.int 1))) .nil))) (.c (.int 1)))) (.cons (.iff (.cmp .eq (.bin .add (.call 26 (.cons (.ix (.v 5) (.c (.int 0))) (.cons (.ix (.v 5) (.c (.int 1))) .nil))) (.call 26 (.cons (.ix (.v 6) (.c (.int 0))) (.cons (.ix (.v 6) (.c (.int 1))) .nil)))) (.v 2)) (.cons (.ex (.mt .append (.v 3) (.cons (.tup (.cons (.v 5) (.cons (.v 6) .nil))) .nil))) .nil) .nil) .nil) .nil) .nil)))) (.cons (.ret (.v 3)) .nil)))⟩
/-- _law_right -/
def d31 : Df := ⟨1, 10, (.cons (.asg (.n (.tup (.cons (.nm 1) (.cons (.nm 2) .nil)))) (.call 28 (.cons (.v 0) (.cons (.ife (.cmp .eq (.call 23 (.cons (.v 0) (.cons (.c (.int 2)) .nil))) (.c (.int 0))) (.c (.int 8)) (.c (.int 90))) .nil)))) (.cons (.asg (.n (.nm 3)) (.call 26 (.cons (.v 1) (.cons (.v 2) .nil)))) (.cons (.iff (.or (.cmp .ne (.call 13 (.cons (.v 1) (.cons (.v 2) .nil))) (.v 3)) (.cmp .ne (.call 14 (.cons (.v 1) (.cons (.v 2) .nil))) (.rv (.v 3) none none))) (.cons (.ret (.c (.bl false))) .nil) .nil) (.cons (.iff (.or (.cmp .notsame (.call 15 (.cons (.v 3) .nil)) (.c (.bl true))) (.cmp .ne (.call 16 (.cons (.v 3) .nil)) (.tup (.cons (.v 1) (.cons (.v 2) .nil))))) (.cons (.ret (.c (.bl false))) .nil) .nil) (.cons (.iff (.or (.cmp .eq (.v 1) (.c (.int 0))) (.cmp .eq (.v 2) (.c (.int 0)))) (.cons (.ret (.cmp .isin (.v 3) (.tup (.cons (.c (.str [114])) (.cons (.c (.str [117])) .nil))))) .nil) .nil) (.cons (.asg (.n (.nm 4)) (.call 30 (.cons (.v 1) (.cons (.v 2) .nil)))) (.cons (.iff (.or (.cmp .ne (.bi .len (.cons (.v 4) .nil)) (.c (.int 1))) (.cmp .ne (.call 17 (.cons (.v 1) (.cons (.v 2) .nil))) (.ix (.v 4) (.c (.int 0))))) (.cons (.ret (.c (.bl false))) .nil) .nil) (.cons (.asg (.n (.tup (.cons (.tup (.cons (.nm 5) (.cons (.nm 6) .nil))) (.cons (.tup (.cons (.nm 7) (.cons (.nm 8) .nil))) .nil)))) (.ix (.v 4) (.c (.int 0)))) (.cons (.iff (.or (.cmp .ne (.bin .sub (.bin .mul (.v 5) (.v 8)) (.bin .mul (.v 6) (.v 7))) (.c (.int 1))) (.or (.cmp .ne (.call 18 (.cons (.v 1) (.cons (.v 2) .nil))) (.sl (.v 3) (.cons (.c (.int 1)) .nil) (.cons (.neg (.c (.int 1))) .nil))) (.cmp .ne (.sl (.v 3) (.cons (.c (.int 1)) .nil) (.cons (.neg (.c (.int 1))) .nil)) (.rv (.v 3) (some (-2)) (some (0)))))) (.cons (.ret (.c (.bl false))) .nil) .nil) (.cons (.asg (.n (.nm 9)) (.call 19 (.cons (.v 1) (.cons (.v 2) .nil)))) (.cons (.iff (.or (.and (.cmp .lt (.bi .len (.cons (.v 3) .nil)) (.c (.int 300))) (.cmp .ne (.v 9) (.call 29 (.cons (.v 1) (.cons (.v 2) .nil))))) (.and (.cmp .ne (.call 20 (.cons (.sl (.v 9) .nil (.cons (.c (.int 500)) .nil)) .nil)) (.tup (.cons (.v 1) (.cons (.v 2) .nil)))) (.cmp .le (.bi .len (.cons (.v 9) .nil)) (.c (.int 500))))) (.cons (.ret (.c (.bl false))) .nil) .nil) (.cons (.ret (.cmp .eq (.call 21 (.cons (.c (.str [114, 117])) (.cons (.v 9) .nil))) (.v 3))) .nil))))))))))))⟩
/-- law -/
def d32 : Df := ⟨1, 8, (.cons (.for_ (.nm 1) (.rng1 (.bi .max (.cons (.c (.int 1)) (.cons (.bi .min (.cons (.c (.int 6)) (.cons (.bi .len (.cons (.v 0) .nil)) .nil))) .nil)))) (.cons (.asg (.n (.nm 2)) (.call 22 (.cons (.v 0) (.cons (.v 1) .nil)))) (.cons (.iff (.or (.no (.call 31 (.cons (.v 2) .nil))) (.no (.call 31 (.cons (.v 2) .nil)))) (.cons (.ret (.c (.bl false))) .nil) .nil) .nil))) (.cons (.asg (.n (.nm 3)) (.mt .join (.c (.str [])) (.cons (.lc (.nm 7) (.rng1 (.c (.int 8))) .nil (.call 24 (.cons (.v 2) (.cons (.lst (.cons (.c (.str [115])) (.cons (.c (.str [116])) .nil))) .nil))) [6, 7]) .nil))) (.cons (.asg (.n (.tup (.cons (.nm 4) (.cons (.nm 5) .nil)))) (.call 20 (.cons (.v 3) .nil))) (.cons (.ret (.and (.cmp .eq (.call 27 (.cons (.c (.str [114, 117])) (.cons (.v 3) .nil))) (.call 26 (.cons (.v 4) (.cons (.v 5) .nil)))) (.cmp .eq (.call 19 (.cons (.v 4) (.cons (.v 5) .nil))) (.v 3)))) .nil))))⟩
def ds : List Df := ([d0, d1, d2, d3, d4, d5, d6, d7, d8, d9, d10, d11, d12, d13, d14, d15, d16, d17, d18, d19] : List Df) ++ ([d20, d21, d22, d23, d24, d25, d26, d27, d28, d29, d30, d31, d32] : List Df)
theorem ok0 : f0.Ok gl exs d0 := ⟨⟨rfl, rfl, rfl, by decide +kernel, rfl, by decide +kernel, by decide +kernel⟩, ⟨60, by kernel_rfl⟩, rfl, rfl, fun _ _ _ _ _ _ us hl => match us, hl with | [_, _], _ => rfl⟩
theorem ok1 : f1.Ok gl exs d1 := ⟨⟨rfl, rfl, rfl, by decide +kernel, rfl, by decide +kernel, by decide +kernel⟩, ⟨60, by kernel_rfl⟩, rfl, rfl, fun _ _ _ _ _ _ us hl => match us, hl with | [_, _], _ => rfl⟩
theorem ok2 : f2.Ok gl exs d2 := ⟨⟨rfl, rfl, rfl, by decide +kernel, rfl, by decide +kernel, by decide +kernel⟩, ⟨60, by kernel_rfl⟩, rfl, rfl, fun _ _ _ _ _ _ us hl => match us, hl with | [_, _], _ => rfl⟩
theorem ok3 : f3.Ok gl exs d3 := ⟨⟨rfl, rfl, rfl, by decide +kernel, rfl, by decide +kernel, by decide +kernel⟩, ⟨60, by kernel_rfl⟩, rfl, rfl, fun _ _ _ _ _ _ us hl => match us, hl with | [_], _ => rfl⟩
theorem ok4 : f4.Ok gl exs d4 := ⟨⟨rfl, rfl, rfl, by decide +kernel, rfl, by decide +kernel, by decide +kernel⟩, ⟨60, by kernel_rfl⟩, rfl, rfl, fun _ _ _ _ _ _ us hl => match us, hl with | [_], _ => rfl⟩
theorem ok5 : f5.Ok gl exs d5 := ⟨⟨rfl, rfl, rfl, by decide +kernel, rfl, by decide +kernel, by decide +kernel⟩, ⟨60, by kernel_rfl⟩, rfl, rfl, fun _ _ _ _ _ _ us hl => match us, hl with | [_, _], _ => rfl⟩
theorem ok6 : f6.Ok gl exs d6 := ⟨⟨rfl, rfl, rfl, by decide +kernel, rfl, by decide +kernel, by decide +kernel⟩, ⟨60, by kernel_rfl⟩, rfl, rfl, fun _ _ _ _ _ _ us hl => match us, hl with | [_, _], _ => rfl⟩
theorem ok7 : f7.Ok gl exs d7 := ⟨⟨rfl, rfl, rfl, by decide +kernel, rfl, by decide +kernel, by decide +kernel⟩, ⟨60, by kernel_rfl⟩, rfl, rfl, fun _ _ _ _ _ _ us hl => match us, hl with | [_, _], _ => rfl⟩
theorem ok8 : f8.Ok gl exs d8 := ⟨⟨rfl, rfl, rfl, by decide +kernel, rfl, by decide +kernel, by decide +kernel⟩, ⟨60, by kernel_rfl⟩, rfl, rfl, fun _ _ _ _ _ _ us hl => match us, hl with | [_, _], _ => rfl⟩
theorem ok9 : f9.Ok gl exs d9 := ⟨⟨rfl, rfl, rfl, by decide +kernel, rfl, by decide +kernel, by decide +kernel⟩, ⟨60, by kernel_rfl⟩, rfl, rfl, fun _ _ _ _ _ _ us hl => match us, hl with | [_], _ => rfl⟩
theorem ok10 : f10.Ok gl exs d10 := ⟨⟨rfl, rfl, rfl, by decide +kernel, rfl, by decide +kernel, by decide +kernel⟩, ⟨60, by kernel_rfl⟩, rfl, rfl, fun _ _ _ _ _ _ us hl => match us, hl with | [_, _], _ => rfl⟩
theorem ok11 : f11.Ok gl exs d11 := ⟨⟨rfl, rfl, rfl, by decide +kernel, rfl, by decide +kernel, by decide +kernel⟩, ⟨60, by kernel_rfl⟩, rfl, rfl, fun _ _ _ _ _ _ us hl => match us, hl with | [_, _], _ => rfl⟩
theorem ok12 : f12.Ok gl exs d12 := ⟨⟨rfl, rfl, rfl, by decide +kernel, rfl, by decide +kernel, by decide +kernel⟩, ⟨60, by kernel_rfl⟩, rfl, rfl, fun _ _ _ _ _ _ us hl => match us, hl with | [_], _ => rfl⟩
theorem ok13 : f13.Ok gl exs d13 := ⟨⟨rfl, rfl, rfl, by decide +kernel, rfl, by decide +kernel, by decide +kernel⟩, ⟨60, by kernel_rfl⟩, rfl, rfl, fun _ _ _ _ _ _ us hl => match us, hl with | [_, _], _ => rfl⟩
theorem ok14 : f14.Ok gl exs d14 := ⟨⟨rfl, rfl, rfl, by decide +kernel, rfl, by decide +kernel, by decide +kernel⟩, ⟨60, by kernel_rfl⟩, rfl, rfl, fun _ _ _ _ _ _ us hl => match us, hl with | [_, _], _ => rfl⟩
theorem ok15 : f15.Ok gl exs d15 := ⟨⟨rfl, rfl, rfl, by decide +kernel, rfl, by decide +kernel, by decide +kernel⟩, ⟨60, by kernel_rfl⟩, rfl, rfl, fun _ _ _ _ _ _ us hl => match us, hl with | [_], _ => rfl⟩
theorem ok16 : f16.Ok gl exs d16 := ⟨⟨rfl, rfl, rfl, by decide +kernel, rfl, by decide +kernel, by decide +kernel⟩, ⟨60, by kernel_rfl⟩, rfl, rfl, fun _ _ _ _ _ _ us hl => match us, hl with | [_], _ => rfl⟩
theorem ok17 : f17.Ok gl exs d17 := ⟨⟨rfl, rfl, rfl, by decide +kernel, rfl, by decide +kernel, by decide +kernel⟩, ⟨60, by kernel_rfl⟩, rfl, rfl, fun _ _ _ _ _ _ us hl => match us, hl with | [_, _], _ => rfl⟩
theorem ok18 : f18.Ok gl exs d18 := ⟨⟨rfl, rfl, rfl, by decide +kernel, rfl, by decide +kernel, by decide +kernel⟩, ⟨60, by kernel_rfl⟩, rfl, rfl, fun _ _ _ _ _ _ us hl => match us, hl with | [_, _], _ => rfl⟩
theorem ok19 : f19.Ok gl exs d19 := ⟨⟨rfl, rfl, rfl, by decide +kernel, rfl, by decide +kernel, by decide +kernel⟩, ⟨60, by kernel_rfl⟩, rfl, rfl, fun _ _ _ _ _ _ us hl => match us, hl with | [_, _], _ => rfl⟩
theorem ok20 : f20.Ok gl exs d20 := ⟨⟨rfl, rfl, rfl, by decide +kernel, rfl, by decide +kernel, by decide +kernel⟩, ⟨60, by kernel_rfl⟩, rfl, rfl, fun _ _ _ _ _ _ us hl => match us, hl with | [_], _ => rfl⟩
theorem ok21 : f21.Ok gl exs d21 := ⟨⟨rfl, rfl, rfl, by decide +kernel, rfl, by decide +kernel, by decide +kernel⟩, ⟨60, by kernel_rfl⟩, rfl, rfl, fun _ _ _ _ _ _ us hl => match us, hl with | [_, _], _ => rfl⟩
theorem ok22 : f22.Ok gl exs d22 := ⟨⟨rfl, rfl, rfl, by decide +kernel, rfl, by decide +kernel, by decide +kernel⟩, ⟨60, by kernel_rfl⟩, rfl, rfl, fun _ _ _ _ _ _ us hl => match us, hl with | [_, _], _ => rfl⟩
theorem ok23 : f23.Ok gl exs d23 := ⟨⟨rfl, rfl, rfl, by decide +kernel, rfl, by decide +kernel, by decide +kernel⟩, ⟨60, by kernel_rfl⟩, rfl, rfl, fun _ _ _ _ _ _ us hl => match us, hl with | [_, _], _ => rfl⟩
theorem ok24 : f24.Ok gl exs d24 := ⟨⟨rfl, rfl, rfl, by decide +kernel, rfl, by decide +kernel, by decide +kernel⟩, ⟨60, by kernel_rfl⟩, rfl, rfl, fun _ _ _ _ _ _ us hl => match us, hl with | [_, _], _ => rfl⟩
theorem ok25 : f25.Ok gl exs d25 := ⟨⟨rfl, rfl, rfl, by decide +kernel, rfl, by decide +kernel, by decide +kernel⟩, ⟨60, by kernel_rfl⟩, rfl, rfl, fun _ _ _ _ _ _ us hl => match us, hl with | [_, _], _ => rfl⟩
theorem ok26 : f26.Ok gl exs d26 := ⟨⟨rfl, rfl, rfl, by decide +kernel, rfl, by decide +kernel, by decide +kernel⟩, ⟨60, by kernel_rfl⟩, rfl, rfl, fun _ _ _ _ _ _ us hl => match us, hl with | [_, _], _ => rfl⟩
theorem ok27 : f27.Ok gl exs d27 := ⟨⟨rfl, rfl, rfl, by decide +kernel, rfl, by decide +kernel, by decide +kernel⟩, ⟨60, by kernel_rfl⟩, rfl, rfl, fun _ _ _ _ _ _ us hl => match us, hl with | [_, _], _ => rfl⟩
theorem ok28 : f28.Ok gl exs d28 := ⟨⟨rfl, rfl, rfl, by decide +kernel, rfl, by decide +kernel, by decide +kernel⟩, ⟨60, by kernel_rfl⟩, rfl, rfl, fun _ _ _ _ _ _ us hl => match us, hl with | [_, _], _ => rfl⟩
theorem ok29 : f29.Ok gl exs d29 := ⟨⟨rfl, rfl, rfl, by decide +kernel, rfl, by decide +kernel, by decide +kernel⟩, ⟨60, by kernel_rfl⟩, rfl, rfl, fun _ _ _ _ _ _ us hl => match us, hl with | [_, _], _ => rfl⟩
theorem ok30 : f30.Ok gl exs d30 := ⟨⟨rfl, rfl, rfl, by decide +kernel, rfl, by decide +kernel, by decide +kernel⟩, ⟨60, by kernel_rfl⟩, rfl, rfl, fun _ _ _ _ _ _ us hl => match us, hl with | [_, _], _ => rfl⟩
theorem ok31 : f31.Ok gl exs d31 := ⟨⟨rfl, rfl, rfl, by decide +kernel, rfl, by decide +kernel, by decide +kernel⟩, ⟨60, by kernel_rfl⟩, rfl, rfl, fun _ _ _ _ _ _ us hl => match us, hl with | [_], _ => rfl⟩
theorem ok32 : f32.Ok gl exs d32 := ⟨⟨rfl, rfl, rfl, by decide +kernel, rfl, by decide +kernel, by decide +kernel⟩, ⟨60, by kernel_rfl⟩, rfl, rfl, fun _ _ _ _ _ _ us hl => match us, hl with | [_], _ => rfl⟩
theorem all_ok : AllOk gl exs fs ds := ⟨ok0, ok1, ok2, ok3, ok4, ok5, ok6, ok7, ok8, ok9, ok10, ok11, ok12, ok13, ok14, ok15, ok16, ok17, ok18, ok19, ok20, ok21, ok22, ok23, ok24, ok25, ok26, ok27, ok28, ok29, ok30, ok31, ok32, trivial⟩
theorem gl_ok : goodOf gl fs = true := by decide +kernel
end K85

set_option Elab.async false
set_option linter.all false
set_option maxRecDepth 100000
set_option maxHeartbeats 4000000
namespace K85
open Mi Lw
variable {k : Nat} {S : Mem} {Q : D → Mem → Prop}
theorem is_index_ok (i m : Int) (h : Q (.bl (decide (0 ≤ i ∧ i < m))) S) : Wp (run ds (k + 1) 8 [.int i, .int m] S) Q := by
  refine wp_run (d := d8) rfl rfl ?_
  simp only [d8, we_c, we_v, we_bin, we_neg, we_cmp, we_chn, we_no, we_and, we_or, we_ife, we_tup, we_lst, we_ix, we_sl, we_bi, we_mt, we_call, we_lrg1, we_lrg2, we_lc, ws_nil, ws_cons, wo_nil, wo_cons, wt_nil, wt_cons, wi_rng1, wi_rng2, wi_rng3, wi_of, wi_int, wS_asgN, wS_asgT, wS_asgS, wS_par2, wS_par3, wS_aug, wS_ex, wS_ret, wS_retN, wS_iff, wS_pass, wS_brk, wS_cont, wS_never, wS_nil, wS_cons, wS_for, wS_whl, wF_nx, wF_rt, wF_bk, wF_ct, wv_some, wb_some, wc_some, wm_some, wz_bl, wE_some, wN_some, wo_some, wo_none, wo_ite, List.getElem?_cons_zero, List.getElem?_cons_succ, List.set_cons_zero, List.set_cons_succ, List.map_cons, List.map_nil, List.cons_append, List.nil_append, List.append_nil, List.replicate_succ, List.replicate_zero, List.length_cons, List.length_nil, Bop.f, Cop.f, Bi.f, Im.f, wl_some, wj_some, wa_some, wbs_some, add_ii, add_ss, add_rr, sub_ii, mul_ii, mul_si, div_ii, mod_ii, pow_ii, neg_i, eq_ii, ne_ii, eq_ss, ne_ss, lt_ii, le_ii, gt_ii, ge_ii, eq_bb, ne_bb, in_cs, tr_b, tr_i, ix_r, ix_t, ix_f, ix_s, sl_s, sl_r, set_r, len_s, len_r, len_f, len_t, abs_i, max_ii, min_ii, max_r, min_r, int_i, int_b, list_r, sum_r, all_r, isi_ii, isi_ib, isi_ss, aug_ii, aug_sub, sel_app, sel_index, sel_pop, sel_count, sel_join, app_r, count_s, wx_some, idx_r, wT_some, join_r, src_s, src_f, src_t, src_r, if_true, if_false, Bool.not_true, Bool.not_false, Bool.false_eq_true, decide_eq_true_eq]
  split <;> simp_all
theorem require_step_word_ok (cs : List Nat) (h1 : 1 ≤ cs.length) (h2 : cs.length ≤ 2000) (hc : ∀ c ∈ cs, c = 114 ∨ c = 117) (h : ∀ T, S <+: T → Q .non T) : Wp (run ds (k + 1) 9 [.str cs] S) Q := by
  refine wp_run (d := d9) rfl rfl ?_
  simp only [d9, we_c, we_v, we_bin, we_neg, we_cmp, we_chn, we_no, we_and, we_or, we_ife, we_tup, we_lst, we_ix, we_sl, we_bi, we_mt, we_call, we_lrg1, we_lrg2, we_lc, ws_nil, ws_cons, wo_nil, wo_cons, wt_nil, wt_cons, wi_rng1, wi_rng2, wi_rng3, wi_of, wi_int, wS_asgN, wS_asgT, wS_asgS, wS_par2, wS_par3, wS_aug, wS_ex, wS_ret, wS_retN, wS_iff, wS_pass, wS_brk, wS_cont, wS_never, wS_nil, wS_cons, wS_for, wS_whl, wF_nx, wF_rt, wF_bk, wF_ct, wv_some, wb_some, wc_some, wm_some, wz_bl, wE_some, wN_some, wo_some, wo_none, wo_ite, List.getElem?_cons_zero, List.getElem?_cons_succ, List.set_cons_zero, List.set_cons_succ, List.map_cons, List.map_nil, List.cons_append, List.nil_append, List.append_nil, List.replicate_succ, List.replicate_zero, List.length_cons, List.length_nil, Bop.f, Cop.f, Bi.f, Im.f, wl_some, wj_some, wa_some, wbs_some, add_ii, add_ss, add_rr, sub_ii, mul_ii, mul_si, div_ii, mod_ii, pow_ii, neg_i, eq_ii, ne_ii, eq_ss, ne_ss, lt_ii, le_ii, gt_ii, ge_ii, eq_bb, ne_bb, in_cs, tr_b, tr_i, ix_r, ix_t, ix_f, ix_s, sl_s, sl_r, set_r, len_s, len_r, len_f, len_t, abs_i, max_ii, min_ii, max_r, min_r, int_i, int_b, list_r, sum_r, all_r, isi_ii, isi_ib, isi_ss, aug_ii, aug_sub, sel_app, sel_index, sel_pop, sel_count, sel_join, app_r, count_s, wx_some, idx_r, wT_some, join_r, src_s, src_f, src_t, src_r, if_true, if_false, Bool.not_true, Bool.not_false, Bool.false_eq_true, decide_eq_true_eq]
  rw [if_pos (line_of (by omega)), if_pos (by omega), decide_eq_true (show ((cs.length : Nat) : Int) ≤ 2000 by omega)]
  simp only [we_c, we_v, we_bin, we_neg, we_cmp, we_chn, we_no, we_and, we_or, we_ife, we_tup, we_lst, we_ix, we_sl, we_bi, we_mt, we_call, we_lrg1, we_lrg2, we_lc, ws_nil, ws_cons, wo_nil, wo_cons, wt_nil, wt_cons, wi_rng1, wi_rng2, wi_rng3, wi_of, wi_int, wS_asgN, wS_asgT, wS_asgS, wS_par2, wS_par3, wS_aug, wS_ex, wS_ret, wS_retN, wS_iff, wS_pass, wS_brk, wS_cont, wS_never, wS_nil, wS_cons, wS_for, wS_whl, wF_nx, wF_rt, wF_bk, wF_ct, wv_some, wb_some, wc_some, wm_some, wz_bl, wE_some, wN_some, wo_some, wo_none, wo_ite, List.getElem?_cons_zero, List.getElem?_cons_succ, List.set_cons_zero, List.set_cons_succ, List.map_cons, List.map_nil, List.cons_append, List.nil_append, List.append_nil, List.replicate_succ, List.replicate_zero, List.length_cons, List.length_nil, Bop.f, Cop.f, Bi.f, Im.f, wl_some, wj_some, wa_some, wbs_some, add_ii, add_ss, add_rr, sub_ii, mul_ii, mul_si, div_ii, mod_ii, pow_ii, neg_i, eq_ii, ne_ii, eq_ss, ne_ss, lt_ii, le_ii, gt_ii, ge_ii, eq_bb, ne_bb, in_cs, tr_b, tr_i, ix_r, ix_t, ix_f, ix_s, sl_s, sl_r, set_r, len_s, len_r, len_f, len_t, abs_i, max_ii, min_ii, max_r, min_r, int_i, int_b, list_r, sum_r, all_r, isi_ii, isi_ib, isi_ss, aug_ii, aug_sub, sel_app, sel_index, sel_pop, sel_count, sel_join, app_r, count_s, wx_some, idx_r, wT_some, join_r, src_s, src_f, src_t, src_r, if_true, if_false, Bool.not_true, Bool.not_false, Bool.false_eq_true, decide_eq_true_eq]
  refine wp_map (fun _ => D.bl true) (at_items _ _) (by rw [List.length_map]; exact line_of (by omega)) (fun d T hd hp => ?_) (fun T hp hl => ?_)
  · obtain ⟨c, h3, rfl⟩ := mem_str hd
    simp only [setT, wipeE, we_c, we_v, we_bin, we_neg, we_cmp, we_chn, we_no, we_and, we_or, we_ife, we_tup, we_lst, we_ix, we_sl, we_bi, we_mt, we_call, we_lrg1, we_lrg2, we_lc, ws_nil, ws_cons, wo_nil, wo_cons, wt_nil, wt_cons, wi_rng1, wi_rng2, wi_rng3, wi_of, wi_int, wS_asgN, wS_asgT, wS_asgS, wS_par2, wS_par3, wS_aug, wS_ex, wS_ret, wS_retN, wS_iff, wS_pass, wS_brk, wS_cont, wS_never, wS_nil, wS_cons, wS_for, wS_whl, wF_nx, wF_rt, wF_bk, wF_ct, wv_some, wb_some, wc_some, wm_some, wz_bl, wE_some, wN_some, wo_some, wo_none, wo_ite, List.getElem?_cons_zero, List.getElem?_cons_succ, List.set_cons_zero, List.set_cons_succ, List.map_cons, List.map_nil, List.cons_append, List.nil_append, List.append_nil, List.replicate_succ, List.replicate_zero, List.length_cons, List.length_nil, Bop.f, Cop.f, Bi.f, Im.f, wl_some, wj_some, wa_some, wbs_some, add_ii, add_ss, add_rr, sub_ii, mul_ii, mul_si, div_ii, mod_ii, pow_ii, neg_i, eq_ii, ne_ii, eq_ss, ne_ss, lt_ii, le_ii, gt_ii, ge_ii, eq_bb, ne_bb, in_cs, tr_b, tr_i, ix_r, ix_t, ix_f, ix_s, sl_s, sl_r, set_r, len_s, len_r, len_f, len_t, abs_i, max_ii, min_ii, max_r, min_r, int_i, int_b, list_r, sum_r, all_r, isi_ii, isi_ib, isi_ss, aug_ii, aug_sub, sel_app, sel_index, sel_pop, sel_count, sel_join, app_r, count_s, wx_some, idx_r, wT_some, join_r, src_s, src_f, src_t, src_r, if_true, if_false, Bool.not_true, Bool.not_false, Bool.false_eq_true, decide_eq_true_eq]
    exact ⟨by rw [decide_eq_true (by rcases hc c h3 with e | e <;> simp [e])], List.prefix_refl _⟩
  · simp only [hl, we_c, we_v, we_bin, we_neg, we_cmp, we_chn, we_no, we_and, we_or, we_ife, we_tup, we_lst, we_ix, we_sl, we_bi, we_mt, we_call, we_lrg1, we_lrg2, we_lc, ws_nil, ws_cons, wo_nil, wo_cons, wt_nil, wt_cons, wi_rng1, wi_rng2, wi_rng3, wi_of, wi_int, wS_asgN, wS_asgT, wS_asgS, wS_par2, wS_par3, wS_aug, wS_ex, wS_ret, wS_retN, wS_iff, wS_pass, wS_brk, wS_cont, wS_never, wS_nil, wS_cons, wS_for, wS_whl, wF_nx, wF_rt, wF_bk, wF_ct, wv_some, wb_some, wc_some, wm_some, wz_bl, wE_some, wN_some, wo_some, wo_none, wo_ite, List.getElem?_cons_zero, List.getElem?_cons_succ, List.set_cons_zero, List.set_cons_succ, List.map_cons, List.map_nil, List.cons_append, List.nil_append, List.append_nil, List.replicate_succ, List.replicate_zero, List.length_cons, List.length_nil, Bop.f, Cop.f, Bi.f, Im.f, wl_some, wj_some, wa_some, wbs_some, add_ii, add_ss, add_rr, sub_ii, mul_ii, mul_si, div_ii, mod_ii, pow_ii, neg_i, eq_ii, ne_ii, eq_ss, ne_ss, lt_ii, le_ii, gt_ii, ge_ii, eq_bb, ne_bb, in_cs, tr_b, tr_i, ix_r, ix_t, ix_f, ix_s, sl_s, sl_r, set_r, len_s, len_r, len_f, len_t, abs_i, max_ii, min_ii, max_r, min_r, int_i, int_b, list_r, sum_r, all_r, isi_ii, isi_ib, isi_ss, aug_ii, aug_sub, sel_app, sel_index, sel_pop, sel_count, sel_join, app_r, count_s, wx_some, idx_r, wT_some, join_r, src_s, src_f, src_t, src_r, if_true, if_false, Bool.not_true, Bool.not_false, Bool.false_eq_true]
    rw [bools_all fun _ _ => rfl]
    simp only [we_c, we_v, we_bin, we_neg, we_cmp, we_chn, we_no, we_and, we_or, we_ife, we_tup, we_lst, we_ix, we_sl, we_bi, we_mt, we_call, we_lrg1, we_lrg2, we_lc, ws_nil, ws_cons, wo_nil, wo_cons, wt_nil, wt_cons, wi_rng1, wi_rng2, wi_rng3, wi_of, wi_int, wS_asgN, wS_asgT, wS_asgS, wS_par2, wS_par3, wS_aug, wS_ex, wS_ret, wS_retN, wS_iff, wS_pass, wS_brk, wS_cont, wS_never, wS_nil, wS_cons, wS_for, wS_whl, wF_nx, wF_rt, wF_bk, wF_ct, wv_some, wb_some, wc_some, wm_some, wz_bl, wE_some, wN_some, wo_some, wo_none, wo_ite, List.getElem?_cons_zero, List.getElem?_cons_succ, List.set_cons_zero, List.set_cons_succ, List.map_cons, List.map_nil, List.cons_append, List.nil_append, List.append_nil, List.replicate_succ, List.replicate_zero, List.length_cons, List.length_nil, Bop.f, Cop.f, Bi.f, Im.f, wl_some, wj_some, wa_some, wbs_some, add_ii, add_ss, add_rr, sub_ii, mul_ii, mul_si, div_ii, mod_ii, pow_ii, neg_i, eq_ii, ne_ii, eq_ss, ne_ss, lt_ii, le_ii, gt_ii, ge_ii, eq_bb, ne_bb, in_cs, tr_b, tr_i, ix_r, ix_t, ix_f, ix_s, sl_s, sl_r, set_r, len_s, len_r, len_f, len_t, abs_i, max_ii, min_ii, max_r, min_r, int_i, int_b, list_r, sum_r, all_r, isi_ii, isi_ib, isi_ss, aug_ii, aug_sub, sel_app, sel_index, sel_pop, sel_count, sel_join, app_r, count_s, wx_some, idx_r, wT_some, join_r, src_s, src_f, src_t, src_r, if_true, if_false, Bool.not_true, Bool.not_false, Bool.false_eq_true, all_true]
    exact h T hp
theorem roll_ok (n : Nat) (total : Int) (hd : Die S n) (h1 : 0 < total) (h2 : total < 1000000) (h : ∀ r T, 0 ≤ r → r < total → Rolled n S T → Q (.int r) T) : Wp (run ds (k + 1) 23 [.ref n, .int total] S) Q := by
  obtain ⟨g, s, t, hg, hl⟩ := hd
  refine wp_run (d := d23) rfl rfl ?_
  simp only [d23, we_c, we_v, we_bin, we_neg, we_cmp, we_chn, we_no, we_and, we_or, we_ife, we_tup, we_lst, we_ix, we_sl, we_bi, we_mt, we_call, we_lrg1, we_lrg2, we_lc, ws_nil, ws_cons, wo_nil, wo_cons, wt_nil, wt_cons, wi_rng1, wi_rng2, wi_rng3, wi_of, wi_int, wS_asgN, wS_asgT, wS_asgS, wS_par2, wS_par3, wS_aug, wS_ex, wS_ret, wS_retN, wS_iff, wS_pass, wS_brk, wS_cont, wS_never, wS_nil, wS_cons, wS_for, wS_whl, wF_nx, wF_rt, wF_bk, wF_ct, wv_some, wb_some, wc_some, wm_some, wz_bl, wE_some, wN_some, wo_some, wo_none, wo_ite, List.getElem?_cons_zero, List.getElem?_cons_succ, List.set_cons_zero, List.set_cons_succ, List.map_cons, List.map_nil, List.cons_append, List.nil_append, List.append_nil, List.replicate_succ, List.replicate_zero, List.length_cons, List.length_nil, Bop.f, Cop.f, Bi.f, Im.f, wl_some, wj_some, wa_some, wbs_some, add_ii, add_ss, add_rr, sub_ii, mul_ii, mul_si, div_ii, mod_ii, pow_ii, neg_i, eq_ii, ne_ii, eq_ss, ne_ss, lt_ii, le_ii, gt_ii, ge_ii, eq_bb, ne_bb, in_cs, tr_b, tr_i, ix_r, ix_t, ix_f, ix_s, sl_s, sl_r, set_r, len_s, len_r, len_f, len_t, abs_i, max_ii, min_ii, max_r, min_r, int_i, int_b, list_r, sum_r, all_r, isi_ii, isi_ib, isi_ss, aug_ii, aug_sub, sel_app, sel_index, sel_pop, sel_count, sel_join, app_r, count_s, wx_some, idx_r, wT_some, join_r, src_s, src_f, src_t, src_r, if_true, if_false, Bool.not_true, Bool.not_false, Bool.false_eq_true, hl, at3_0, at3_1, at3_2, decide_eq_true_eq, ix3_0, ix3_2]
  by_cases e : 0 < g
  · rw [if_pos e, if_pos h1, if_pos ⟨h1, log_small (by omega)⟩]
    exact h _ _ (Int.emod_nonneg _ (by omega)) (Int.emod_lt_of_pos _ h1) (rolled hl (Int.ediv_nonneg hg (by omega)))
  · rw [if_neg e]
    simp only [lst_set hl, at3_0, at3_1, at3_2, we_c, we_v, we_bin, we_neg, we_cmp, we_chn, we_no, we_and, we_or, we_ife, we_tup, we_lst, we_ix, we_sl, we_bi, we_mt, we_call, we_lrg1, we_lrg2, we_lc, ws_nil, ws_cons, wo_nil, wo_cons, wt_nil, wt_cons, wi_rng1, wi_rng2, wi_rng3, wi_of, wi_int, wS_asgN, wS_asgT, wS_asgS, wS_par2, wS_par3, wS_aug, wS_ex, wS_ret, wS_retN, wS_iff, wS_pass, wS_brk, wS_cont, wS_never, wS_nil, wS_cons, wS_for, wS_whl, wF_nx, wF_rt, wF_bk, wF_ct, wv_some, wb_some, wc_some, wm_some, wz_bl, wE_some, wN_some, wo_some, wo_none, wo_ite, List.getElem?_cons_zero, List.getElem?_cons_succ, List.set_cons_zero, List.set_cons_succ, List.map_cons, List.map_nil, List.cons_append, List.nil_append, List.append_nil, List.replicate_succ, List.replicate_zero, List.length_cons, List.length_nil, Bop.f, Cop.f, Bi.f, Im.f, wl_some, wj_some, wa_some, wbs_some, add_ii, add_ss, add_rr, sub_ii, mul_ii, mul_si, div_ii, mod_ii, pow_ii, neg_i, eq_ii, ne_ii, eq_ss, ne_ss, lt_ii, le_ii, gt_ii, ge_ii, eq_bb, ne_bb, in_cs, tr_b, tr_i, ix_r, ix_t, ix_f, ix_s, sl_s, sl_r, set_r, len_s, len_r, len_f, len_t, abs_i, max_ii, min_ii, max_r, min_r, int_i, int_b, list_r, sum_r, all_r, isi_ii, isi_ib, isi_ss, aug_ii, aug_sub, sel_app, sel_index, sel_pop, sel_count, sel_join, app_r, count_s, wx_some, idx_r, wT_some, join_r, src_s, src_f, src_t, src_r, if_true, if_false, Bool.not_true, Bool.not_false, Bool.false_eq_true]
    rw [show L2.ixN (0 + 1 + 1 + 1) 2 = some 2 from rfl]
    dsimp only [List.set]
    simp only [lst_set hl, at3_0, at3_1, at3_2, we_c, we_v, we_bin, we_neg, we_cmp, we_chn, we_no, we_and, we_or, we_ife, we_tup, we_lst, we_ix, we_sl, we_bi, we_mt, we_call, we_lrg1, we_lrg2, we_lc, ws_nil, ws_cons, wo_nil, wo_cons, wt_nil, wt_cons, wi_rng1, wi_rng2, wi_rng3, wi_of, wi_int, wS_asgN, wS_asgT, wS_asgS, wS_par2, wS_par3, wS_aug, wS_ex, wS_ret, wS_retN, wS_iff, wS_pass, wS_brk, wS_cont, wS_never, wS_nil, wS_cons, wS_for, wS_whl, wF_nx, wF_rt, wF_bk, wF_ct, wv_some, wb_some, wc_some, wm_some, wz_bl, wE_some, wN_some, wo_some, wo_none, wo_ite, List.getElem?_cons_zero, List.getElem?_cons_succ, List.set_cons_zero, List.set_cons_succ, List.map_cons, List.map_nil, List.cons_append, List.nil_append, List.append_nil, List.replicate_succ, List.replicate_zero, List.length_cons, List.length_nil, Bop.f, Cop.f, Bi.f, Im.f, wl_some, wj_some, wa_some, wbs_some, add_ii, add_ss, add_rr, sub_ii, mul_ii, mul_si, div_ii, mod_ii, pow_ii, neg_i, eq_ii, ne_ii, eq_ss, ne_ss, lt_ii, le_ii, gt_ii, ge_ii, eq_bb, ne_bb, in_cs, tr_b, tr_i, ix_r, ix_t, ix_f, ix_s, sl_s, sl_r, set_r, len_s, len_r, len_f, len_t, abs_i, max_ii, min_ii, max_r, min_r, int_i, int_b, list_r, sum_r, all_r, isi_ii, isi_ib, isi_ss, aug_ii, aug_sub, sel_app, sel_index, sel_pop, sel_count, sel_join, app_r, count_s, wx_some, idx_r, wT_some, join_r, src_s, src_f, src_t, src_r, if_true, if_false, Bool.not_true, Bool.not_false, Bool.false_eq_true]
    have hone : 0 ≤ (s + 86028157 * (t + 1)) % 2305843009213693951 ∧ (s + 86028157 * (t + 1)) % 2305843009213693951 < 2305843009213693951 := ⟨Int.emod_nonneg _ (by decide), Int.emod_lt_of_pos _ (by decide)⟩
    generalize (s + 86028157 * (t + 1)) % 2305843009213693951 = one at hone ⊢
    have htwo : 0 ≤ (one * one + 181 * (t + 1)) % 2305843009213693907 ∧ (one * one + 181 * (t + 1)) % 2305843009213693907 < 2305843009213693907 := ⟨Int.emod_nonneg _ (by decide), Int.emod_lt_of_pos _ (by decide)⟩
    generalize (one * one + 181 * (t + 1)) % 2305843009213693907 = two at htwo ⊢
    rw [if_pos (mulOk_small (by omega)), if_pos (by decide), if_pos (mulOk_small (by omega)), if_pos (mulOk_small (by omega)), if_pos (by decide), if_pos (mulOk_small (by omega)), if_pos ⟨by decide, by decide⟩, if_pos h1]
    exact h _ _ (Int.emod_nonneg _ (by omega)) (Int.emod_lt_of_pos _ h1) (rolled hl hg)
theorem dice_tail {F : Nat → List D → Mem → Out D} {R : Fl → Mem → Prop} (fl : D) (spot : Nat) (cell : Int) (hs : spot < 100) (h : ∀ T, Die T S.length → S <+: T → R (.rt (.ref S.length)) T) : WpS (evSs F (.cons (.asg (.n (.nm 3)) (.bin .mod (.bi .int (.cons (.bi .abs (.cons (.v 2) .nil)) .nil)) (.bin .pow (.bin .pow (.c (.int 10)) (.c (.int 54))) (.c (.int 6))))) (.cons (.asg (.n (.nm 4)) (.bin .add (.bin .add (.bin .add (.bin .mul (.bin .mod (.v 3) (.c (.int 2305843009213693921))) (.c (.int 71))) (.bin .mul (.c (.int 751)) (.v 1))) (.bin .mul (.c (.int 41)) (.bi .int (.cons (.cmp .lt (.v 2) (.c (.int 0))) .nil)))) (.c (.int 31)))) (.cons (.ret (.lst (.cons (.bi .max (.cons (.c (.int 0)) (.cons (.bin .sub (.v 3) (.bin .pow (.c (.int 10)) (.c (.int 16)))) .nil))) (.cons (.v 4) (.cons (.c (.int 0)) .nil))))) .nil))) [some fl, some (.int spot), some (.int cell), none, none] S) R := by
  simp only [we_c, we_v, we_bin, we_neg, we_cmp, we_chn, we_no, we_and, we_or, we_ife, we_tup, we_lst, we_ix, we_sl, we_bi, we_mt, we_call, we_lrg1, we_lrg2, we_lc, ws_nil, ws_cons, wo_nil, wo_cons, wt_nil, wt_cons, wi_rng1, wi_rng2, wi_rng3, wi_of, wi_int, wS_asgN, wS_asgT, wS_asgS, wS_par2, wS_par3, wS_aug, wS_ex, wS_ret, wS_retN, wS_iff, wS_pass, wS_brk, wS_cont, wS_never, wS_nil, wS_cons, wS_for, wS_whl, wF_nx, wF_rt, wF_bk, wF_ct, wv_some, wb_some, wc_some, wm_some, wz_bl, wE_some, wN_some, wo_some, wo_none, wo_ite, List.getElem?_cons_zero, List.getElem?_cons_succ, List.set_cons_zero, List.set_cons_succ, List.map_cons, List.map_nil, List.cons_append, List.nil_append, List.append_nil, List.replicate_succ, List.replicate_zero, List.length_cons, List.length_nil, Bop.f, Cop.f, Bi.f, Im.f, wl_some, wj_some, wa_some, wbs_some, add_ii, add_ss, add_rr, sub_ii, mul_ii, mul_si, div_ii, mod_ii, pow_ii, neg_i, eq_ii, ne_ii, eq_ss, ne_ss, lt_ii, le_ii, gt_ii, ge_ii, eq_bb, ne_bb, in_cs, tr_b, tr_i, ix_r, ix_t, ix_f, ix_s, sl_s, sl_r, set_r, len_s, len_r, len_f, len_t, abs_i, max_ii, min_ii, max_r, min_r, int_i, int_b, list_r, sum_r, all_r, isi_ii, isi_ib, isi_ss, aug_ii, aug_sub, sel_app, sel_index, sel_pop, sel_count, sel_join, app_r, count_s, wx_some, idx_r, wT_some, join_r, src_s, src_f, src_t, src_r, if_true, if_false, Bool.not_true, Bool.not_false, Bool.false_eq_true]
  have hp := big_pos
  have hl := big_log
  generalize ((10 : Int) ^ Int.toNat 54) ^ Int.toNat 6 = big at hp ⊢
  generalize hq : (10 : Int) ^ Int.toNat 54 = q at hl ⊢
  rw [if_pos (by decide), if_pos hl, if_pos hp, if_pos (by decide), if_pos (mulOk_right (by decide)), if_pos (mulOk_small (by decide)), if_pos (mulOk_small (by decide)), if_pos (by decide)]
  exact ⟨line_of (by decide), h _ ⟨_, _, _, max0 _, lst_new _ _⟩ (List.prefix_append _ _)⟩
theorem dice_ok (ns : List Int) (spot : Nat) (hs : spot < 100) (h : ∀ T, Die T S.length → S <+: T → Q (.ref S.length) T) : Wp (run ds (k + 1) 22 [.fl (ns.map D.int), .int spot] S) Q := by
  refine wp_run (d := d22) rfl rfl ?_
  show WpS (evSs (run ds k) (.cons (.asg (.n (.nm 2)) (.ife (.cmp .lt (.v 1) (.bi .len (.cons (.v 0) .nil))) (.bi .int (.cons (.ix (.v 0) (.v 1)) .nil)) (.bin .add (.bin .mul (.c (.int 151)) (.v 1)) (.c (.int 59))))) (.cons (.asg (.n (.nm 3)) (.bin .mod (.bi .int (.cons (.bi .abs (.cons (.v 2) .nil)) .nil)) (.bin .pow (.bin .pow (.c (.int 10)) (.c (.int 54))) (.c (.int 6))))) (.cons (.asg (.n (.nm 4)) (.bin .add (.bin .add (.bin .add (.bin .mul (.bin .mod (.v 3) (.c (.int 2305843009213693921))) (.c (.int 71))) (.bin .mul (.c (.int 751)) (.v 1))) (.bin .mul (.c (.int 41)) (.bi .int (.cons (.cmp .lt (.v 2) (.c (.int 0))) .nil)))) (.c (.int 31)))) (.cons (.ret (.lst (.cons (.bi .max (.cons (.c (.int 0)) (.cons (.bin .sub (.v 3) (.bin .pow (.c (.int 10)) (.c (.int 16)))) .nil))) (.cons (.v 4) (.cons (.c (.int 0)) .nil))))) .nil)))) [some (.fl (ns.map D.int)), some (.int spot), none, none, none] S) _
  rw [wS_cons, wS_asgN, we_ife]
  simp only [we_cmp, we_v, we_bi, ws_cons, ws_nil, we_ix, we_bin, we_c, wv_some, wb_some, wF_nx, List.getElem?_cons_zero, List.getElem?_cons_succ, List.set_cons_zero, List.set_cons_succ, decide_eq_true_eq, Bop.f, Cop.f, Bi.f, Im.f, wl_some, wj_some, wa_some, wbs_some, add_ii, add_ss, add_rr, sub_ii, mul_ii, mul_si, div_ii, mod_ii, pow_ii, neg_i, eq_ii, ne_ii, eq_ss, ne_ss, lt_ii, le_ii, gt_ii, ge_ii, eq_bb, ne_bb, in_cs, tr_b, tr_i, ix_r, ix_t, ix_f, ix_s, sl_s, sl_r, set_r, len_s, len_r, len_f, len_t, abs_i, max_ii, min_ii, max_r, min_r, int_i, int_b, list_r, sum_r, all_r, isi_ii, isi_ib, isi_ss, aug_ii, aug_sub, sel_app, sel_index, sel_pop, sel_count, sel_join, app_r, count_s, wx_some, idx_r, wT_some, join_r, src_s, src_f, src_t, src_r, if_true, if_false, Bool.not_true, Bool.not_false, Bool.false_eq_true, List.length_map]
  by_cases hlt : (spot : Int) < (ns.length : Nat)
  · rw [if_pos hlt, atI_nat, List.getElem?_map]
    have hlt' : spot < ns.length := by omega
    rw [List.getElem?_eq_getElem hlt']
    simp only [Option.map_some, wv_some, wb_some, wF_nx, List.getElem?_cons_zero, List.getElem?_cons_succ, List.set_cons_zero, List.set_cons_succ, decide_eq_true_eq, Bop.f, Cop.f, Bi.f, Im.f, wl_some, wj_some, wa_some, wbs_some, add_ii, add_ss, add_rr, sub_ii, mul_ii, mul_si, div_ii, mod_ii, pow_ii, neg_i, eq_ii, ne_ii, eq_ss, ne_ss, lt_ii, le_ii, gt_ii, ge_ii, eq_bb, ne_bb, in_cs, tr_b, tr_i, ix_r, ix_t, ix_f, ix_s, sl_s, sl_r, set_r, len_s, len_r, len_f, len_t, abs_i, max_ii, min_ii, max_r, min_r, int_i, int_b, list_r, sum_r, all_r, isi_ii, isi_ib, isi_ss, aug_ii, aug_sub, sel_app, sel_index, sel_pop, sel_count, sel_join, app_r, count_s, wx_some, idx_r, wT_some, join_r, src_s, src_f, src_t, src_r, if_true, if_false, Bool.not_true, Bool.not_false, Bool.false_eq_true]
    exact dice_tail _ spot _ hs h
  · rw [if_neg hlt, if_pos (mulOk_small (by decide))]
    exact dice_tail _ spot _ hs h
theorem share_ok (a b : Nat) (hb : b ≤ 100000) (h : Q (.int (Nat.gcd a b)) S) : Wp (run ds (k + 1) 0 [.int a, .int b] S) Q := by
  refine wp_run (d := d0) rfl rfl ?_
  simp only [d0, we_c, we_v, we_bin, we_neg, we_cmp, we_chn, we_no, we_and, we_or, we_ife, we_tup, we_lst, we_ix, we_sl, we_bi, we_mt, we_call, we_lrg1, we_lrg2, we_lc, ws_nil, ws_cons, wo_nil, wo_cons, wt_nil, wt_cons, wi_rng1, wi_rng2, wi_rng3, wi_of, wi_int, wS_asgN, wS_asgT, wS_asgS, wS_par2, wS_par3, wS_aug, wS_ex, wS_ret, wS_retN, wS_iff, wS_pass, wS_brk, wS_cont, wS_never, wS_nil, wS_cons, wS_for, wS_whl, wF_nx, wF_rt, wF_bk, wF_ct, wv_some, wb_some, wc_some, wm_some, wz_bl, wE_some, wN_some, wo_some, wo_none, wo_ite, List.getElem?_cons_zero, List.getElem?_cons_succ, List.set_cons_zero, List.set_cons_succ, List.map_cons, List.map_nil, List.cons_append, List.nil_append, List.append_nil, List.replicate_succ, List.replicate_zero, List.length_cons, List.length_nil, Bop.f, Cop.f, Bi.f, Im.f, wl_some, wj_some, wa_some, wbs_some, add_ii, add_ss, add_rr, sub_ii, mul_ii, mul_si, div_ii, mod_ii, pow_ii, neg_i, eq_ii, ne_ii, eq_ss, ne_ss, lt_ii, le_ii, gt_ii, ge_ii, eq_bb, ne_bb, in_cs, tr_b, tr_i, ix_r, ix_t, ix_f, ix_s, sl_s, sl_r, set_r, len_s, len_r, len_f, len_t, abs_i, max_ii, min_ii, max_r, min_r, int_i, int_b, list_r, sum_r, all_r, isi_ii, isi_ib, isi_ss, aug_ii, aug_sub, sel_app, sel_index, sel_pop, sel_count, sel_join, app_r, count_s, wx_some, idx_r, wT_some, join_r, src_s, src_f, src_t, src_r, if_true, if_false, Bool.not_true, Bool.not_false, Bool.false_eq_true]
  refine wp_whiles (fun m e T => ∃ x y : Nat, m = y ∧ T = S ∧ e = [some (.int x), some (.int y)] ∧ Nat.gcd x y = Nat.gcd a b) (fun m e T hP => ?_) fuel b _ _ (by show _ < 1000000000; omega) ⟨a, b, rfl, rfl, rfl, rfl⟩
  obtain ⟨x, y, rfl, rfl, rfl, hg⟩ := hP
  simp only [we_c, we_v, we_bin, we_neg, we_cmp, we_chn, we_no, we_and, we_or, we_ife, we_tup, we_lst, we_ix, we_sl, we_bi, we_mt, we_call, we_lrg1, we_lrg2, we_lc, ws_nil, ws_cons, wo_nil, wo_cons, wt_nil, wt_cons, wi_rng1, wi_rng2, wi_rng3, wi_of, wi_int, wS_asgN, wS_asgT, wS_asgS, wS_par2, wS_par3, wS_aug, wS_ex, wS_ret, wS_retN, wS_iff, wS_pass, wS_brk, wS_cont, wS_never, wS_nil, wS_cons, wS_for, wS_whl, wF_nx, wF_rt, wF_bk, wF_ct, wv_some, wb_some, wc_some, wm_some, wz_bl, wE_some, wN_some, wo_some, wo_none, wo_ite, List.getElem?_cons_zero, List.getElem?_cons_succ, List.set_cons_zero, List.set_cons_succ, List.map_cons, List.map_nil, List.cons_append, List.nil_append, List.append_nil, List.replicate_succ, List.replicate_zero, List.length_cons, List.length_nil, Bop.f, Cop.f, Bi.f, Im.f, wl_some, wj_some, wa_some, wbs_some, add_ii, add_ss, add_rr, sub_ii, mul_ii, mul_si, div_ii, mod_ii, pow_ii, neg_i, eq_ii, ne_ii, eq_ss, ne_ss, lt_ii, le_ii, gt_ii, ge_ii, eq_bb, ne_bb, in_cs, tr_b, tr_i, ix_r, ix_t, ix_f, ix_s, sl_s, sl_r, set_r, len_s, len_r, len_f, len_t, abs_i, max_ii, min_ii, max_r, min_r, int_i, int_b, list_r, sum_r, all_r, isi_ii, isi_ib, isi_ss, aug_ii, aug_sub, sel_app, sel_index, sel_pop, sel_count, sel_join, app_r, count_s, wx_some, idx_r, wT_some, join_r, src_s, src_f, src_t, src_r, if_true, if_false, Bool.not_true, Bool.not_false, Bool.false_eq_true, w_tru]
  by_cases e : m = 0
  · subst e
    rw [Nat.gcd_zero_right] at hg
    rw [if_neg (by decide), hg]
    exact h
  · rw [if_pos (by simp; omega), if_pos (by omega)]
    refine ⟨x % m, Nat.mod_lt _ (by omega), m, x % m, rfl, trivial, by rw [← Int.natCast_emod], ?_⟩
    rw [← hg, Nat.gcd_comm x m, Nat.gcd_rec m x, Nat.gcd_comm]
theorem low_steps_ok (p q : Nat) (hp : p + q ≤ 10000) (h : ∀ T, S <+: T → lstAt T (S.length + 1) = some ((List.range (p + q)).map fun j => D.int (rest p q (j + 1) : Nat)) → Q (.tup [.str (lowR p q), .ref (S.length + 1)]) T) : Wp (run ds (k + 1) 1 [.int p, .int q] S) Q := by
  refine wp_run (d := d1) rfl rfl ?_
  simp only [d1, we_c, we_v, we_bin, we_neg, we_cmp, we_chn, we_no, we_and, we_or, we_ife, we_tup, we_lst, we_ix, we_sl, we_bi, we_mt, we_call, we_lrg1, we_lrg2, we_lc, ws_nil, ws_cons, wo_nil, wo_cons, wt_nil, wt_cons, wi_rng1, wi_rng2, wi_rng3, wi_of, wi_int, wS_asgN, wS_asgT, wS_asgS, wS_par2, wS_par3, wS_aug, wS_ex, wS_ret, wS_retN, wS_iff, wS_pass, wS_brk, wS_cont, wS_never, wS_nil, wS_cons, wS_for, wS_whl, wF_nx, wF_rt, wF_bk, wF_ct, wv_some, wb_some, wc_some, wm_some, wz_bl, wE_some, wN_some, wo_some, wo_none, wo_ite, List.getElem?_cons_zero, List.getElem?_cons_succ, List.set_cons_zero, List.set_cons_succ, List.map_cons, List.map_nil, List.cons_append, List.nil_append, List.append_nil, List.replicate_succ, List.replicate_zero, List.length_cons, List.length_nil, Bop.f, Cop.f, Bi.f, Im.f, wl_some, wj_some, wa_some, wbs_some, add_ii, add_ss, add_rr, sub_ii, mul_ii, mul_si, div_ii, mod_ii, pow_ii, neg_i, eq_ii, ne_ii, eq_ss, ne_ss, lt_ii, le_ii, gt_ii, ge_ii, eq_bb, ne_bb, in_cs, tr_b, tr_i, ix_r, ix_t, ix_f, ix_s, sl_s, sl_r, set_r, len_s, len_r, len_f, len_t, abs_i, max_ii, min_ii, max_r, min_r, int_i, int_b, list_r, sum_r, all_r, isi_ii, isi_ib, isi_ss, aug_ii, aug_sub, sel_app, sel_index, sel_pop, sel_count, sel_join, app_r, count_s, wx_some, idx_r, wT_some, join_r, src_s, src_f, src_t, src_r, if_true, if_false, Bool.not_true, Bool.not_false, Bool.false_eq_true]
  refine ⟨line_of (by decide), line_of (by decide), ?_⟩
  rw [rng_1 _ (by omega), show ((p : Int) + (q : Nat)) = ((p + q : Nat) : Int) by omega, Int.toNat_natCast]
  refine wp_turns (rangeD 0 (p + q)) (fun i e T => S <+: T ∧ lstAt T S.length = some ((List.range i).map fun j => D.str [letter p q j]) ∧ lstAt T (S.length + 1) = some ((List.range i).map fun j => D.int (rest p q (j + 1) : Nat)) ∧
    ∃ x, e = [some (.int p), some (.int q), some (.ref S.length), some (.ref (S.length + 1)), some (.int (rest p q i : Nat)), x]) (fun _ _ _ _ => rfl) (fun i d e T hx hP => ?_) (fun e T hP => ?_) fuel 0 _ _ (by rw [range_len]; show _ < 1000000000; omega) (Nat.zero_le _) ?_
  · obtain ⟨hp', hl1, hl2, x, rfl⟩ := hP
    obtain ⟨hi, rfl⟩ := range_get hx
    have h0 : 0 < p + q := by omega
    have rs := rest_succ h0 i
    have ne : S.length ≠ S.length + 1 := by omega
    simp only [setT, we_c, we_v, we_bin, we_neg, we_cmp, we_chn, we_no, we_and, we_or, we_ife, we_tup, we_lst, we_ix, we_sl, we_bi, we_mt, we_call, we_lrg1, we_lrg2, we_lc, ws_nil, ws_cons, wo_nil, wo_cons, wt_nil, wt_cons, wi_rng1, wi_rng2, wi_rng3, wi_of, wi_int, wS_asgN, wS_asgT, wS_asgS, wS_par2, wS_par3, wS_aug, wS_ex, wS_ret, wS_retN, wS_iff, wS_pass, wS_brk, wS_cont, wS_never, wS_nil, wS_cons, wS_for, wS_whl, wF_nx, wF_rt, wF_bk, wF_ct, wv_some, wb_some, wc_some, wm_some, wz_bl, wE_some, wN_some, wo_some, wo_none, wo_ite, List.getElem?_cons_zero, List.getElem?_cons_succ, List.set_cons_zero, List.set_cons_succ, List.map_cons, List.map_nil, List.cons_append, List.nil_append, List.append_nil, List.replicate_succ, List.replicate_zero, List.length_cons, List.length_nil, Bop.f, Cop.f, Bi.f, Im.f, wl_some, wj_some, wa_some, wbs_some, add_ii, add_ss, add_rr, sub_ii, mul_ii, mul_si, div_ii, mod_ii, pow_ii, neg_i, eq_ii, ne_ii, eq_ss, ne_ss, lt_ii, le_ii, gt_ii, ge_ii, eq_bb, ne_bb, in_cs, tr_b, tr_i, ix_r, ix_t, ix_f, ix_s, sl_s, sl_r, set_r, len_s, len_r, len_f, len_t, abs_i, max_ii, min_ii, max_r, min_r, int_i, int_b, list_r, sum_r, all_r, isi_ii, isi_ib, isi_ss, aug_ii, aug_sub, sel_app, sel_index, sel_pop, sel_count, sel_join, app_r, count_s, wx_some, idx_r, wT_some, join_r, src_s, src_f, src_t, src_r, if_true, if_false, Bool.not_true, Bool.not_false, Bool.false_eq_true, decide_eq_true_eq]
    by_cases c : rest p q i < p
    · rw [if_pos c] at rs
      rw [if_pos (by omega)]
      simp only [we_c, we_v, we_bin, we_neg, we_cmp, we_chn, we_no, we_and, we_or, we_ife, we_tup, we_lst, we_ix, we_sl, we_bi, we_mt, we_call, we_lrg1, we_lrg2, we_lc, ws_nil, ws_cons, wo_nil, wo_cons, wt_nil, wt_cons, wi_rng1, wi_rng2, wi_rng3, wi_of, wi_int, wS_asgN, wS_asgT, wS_asgS, wS_par2, wS_par3, wS_aug, wS_ex, wS_ret, wS_retN, wS_iff, wS_pass, wS_brk, wS_cont, wS_never, wS_nil, wS_cons, wS_for, wS_whl, wF_nx, wF_rt, wF_bk, wF_ct, wv_some, wb_some, wc_some, wm_some, wz_bl, wE_some, wN_some, wo_some, wo_none, wo_ite, List.getElem?_cons_zero, List.getElem?_cons_succ, List.set_cons_zero, List.set_cons_succ, List.map_cons, List.map_nil, List.cons_append, List.nil_append, List.append_nil, List.replicate_succ, List.replicate_zero, List.length_cons, List.length_nil, Bop.f, Cop.f, Bi.f, Im.f, wl_some, wj_some, wa_some, wbs_some, add_ii, add_ss, add_rr, sub_ii, mul_ii, mul_si, div_ii, mod_ii, pow_ii, neg_i, eq_ii, ne_ii, eq_ss, ne_ss, lt_ii, le_ii, gt_ii, ge_ii, eq_bb, ne_bb, in_cs, tr_b, tr_i, ix_r, ix_t, ix_f, ix_s, sl_s, sl_r, set_r, len_s, len_r, len_f, len_t, abs_i, max_ii, min_ii, max_r, min_r, int_i, int_b, list_r, sum_r, all_r, isi_ii, isi_ib, isi_ss, aug_ii, aug_sub, sel_app, sel_index, sel_pop, sel_count, sel_join, app_r, count_s, wx_some, idx_r, wT_some, join_r, src_s, src_f, src_t, src_r, if_true, if_false, Bool.not_true, Bool.not_false, Bool.false_eq_true, hl1]
      rw [if_pos (by rw [List.length_map, List.length_range]; show _ < 16777216; omega)]
      simp only [lst_set_ne ne, hl2, we_c, we_v, we_bin, we_neg, we_cmp, we_chn, we_no, we_and, we_or, we_ife, we_tup, we_lst, we_ix, we_sl, we_bi, we_mt, we_call, we_lrg1, we_lrg2, we_lc, ws_nil, ws_cons, wo_nil, wo_cons, wt_nil, wt_cons, wi_rng1, wi_rng2, wi_rng3, wi_of, wi_int, wS_asgN, wS_asgT, wS_asgS, wS_par2, wS_par3, wS_aug, wS_ex, wS_ret, wS_retN, wS_iff, wS_pass, wS_brk, wS_cont, wS_never, wS_nil, wS_cons, wS_for, wS_whl, wF_nx, wF_rt, wF_bk, wF_ct, wv_some, wb_some, wc_some, wm_some, wz_bl, wE_some, wN_some, wo_some, wo_none, wo_ite, List.getElem?_cons_zero, List.getElem?_cons_succ, List.set_cons_zero, List.set_cons_succ, List.map_cons, List.map_nil, List.cons_append, List.nil_append, List.append_nil, List.replicate_succ, List.replicate_zero, List.length_cons, List.length_nil, Bop.f, Cop.f, Bi.f, Im.f, wl_some, wj_some, wa_some, wbs_some, add_ii, add_ss, add_rr, sub_ii, mul_ii, mul_si, div_ii, mod_ii, pow_ii, neg_i, eq_ii, ne_ii, eq_ss, ne_ss, lt_ii, le_ii, gt_ii, ge_ii, eq_bb, ne_bb, in_cs, tr_b, tr_i, ix_r, ix_t, ix_f, ix_s, sl_s, sl_r, set_r, len_s, len_r, len_f, len_t, abs_i, max_ii, min_ii, max_r, min_r, int_i, int_b, list_r, sum_r, all_r, isi_ii, isi_ib, isi_ss, aug_ii, aug_sub, sel_app, sel_index, sel_pop, sel_count, sel_join, app_r, count_s, wx_some, idx_r, wT_some, join_r, src_s, src_f, src_t, src_r, if_true, if_false, Bool.not_true, Bool.not_false, Bool.false_eq_true]
      rw [if_pos (by rw [List.length_map, List.length_range]; show _ < 16777216; omega)]
      refine ⟨pre_set (pre_set hp' (Nat.le_refl _)) (by omega), ?_, ?_, some (.int (0 + (i : Nat))), ?_⟩
      · rw [lst_set_ne (Ne.symm ne), lst_set hl1, List.range_succ, List.map_append]
        have : letter p q i = 114 := by unfold letter; rw [if_pos c]
        simp [this]
      · rw [lst_set (xs := (List.range i).map fun j => D.int (rest p q (j + 1) : Nat)) (by rw [lst_set_ne ne]; exact hl2), List.range_succ, List.map_append, show (List.map (fun j => D.int (rest p q (j + 1) : Nat)) [i]) = [D.int (rest p q (i + 1) : Nat)] from rfl, rs]
        rfl
      · rw [rs]; rfl
    · rw [if_neg c] at rs
      rw [if_neg (by omega)]
      simp only [we_c, we_v, we_bin, we_neg, we_cmp, we_chn, we_no, we_and, we_or, we_ife, we_tup, we_lst, we_ix, we_sl, we_bi, we_mt, we_call, we_lrg1, we_lrg2, we_lc, ws_nil, ws_cons, wo_nil, wo_cons, wt_nil, wt_cons, wi_rng1, wi_rng2, wi_rng3, wi_of, wi_int, wS_asgN, wS_asgT, wS_asgS, wS_par2, wS_par3, wS_aug, wS_ex, wS_ret, wS_retN, wS_iff, wS_pass, wS_brk, wS_cont, wS_never, wS_nil, wS_cons, wS_for, wS_whl, wF_nx, wF_rt, wF_bk, wF_ct, wv_some, wb_some, wc_some, wm_some, wz_bl, wE_some, wN_some, wo_some, wo_none, wo_ite, List.getElem?_cons_zero, List.getElem?_cons_succ, List.set_cons_zero, List.set_cons_succ, List.map_cons, List.map_nil, List.cons_append, List.nil_append, List.append_nil, List.replicate_succ, List.replicate_zero, List.length_cons, List.length_nil, Bop.f, Cop.f, Bi.f, Im.f, wl_some, wj_some, wa_some, wbs_some, add_ii, add_ss, add_rr, sub_ii, mul_ii, mul_si, div_ii, mod_ii, pow_ii, neg_i, eq_ii, ne_ii, eq_ss, ne_ss, lt_ii, le_ii, gt_ii, ge_ii, eq_bb, ne_bb, in_cs, tr_b, tr_i, ix_r, ix_t, ix_f, ix_s, sl_s, sl_r, set_r, len_s, len_r, len_f, len_t, abs_i, max_ii, min_ii, max_r, min_r, int_i, int_b, list_r, sum_r, all_r, isi_ii, isi_ib, isi_ss, aug_ii, aug_sub, sel_app, sel_index, sel_pop, sel_count, sel_join, app_r, count_s, wx_some, idx_r, wT_some, join_r, src_s, src_f, src_t, src_r, if_true, if_false, Bool.not_true, Bool.not_false, Bool.false_eq_true, hl1]
      rw [if_pos (by rw [List.length_map, List.length_range]; show _ < 16777216; omega)]
      simp only [lst_set_ne ne, hl2, we_c, we_v, we_bin, we_neg, we_cmp, we_chn, we_no, we_and, we_or, we_ife, we_tup, we_lst, we_ix, we_sl, we_bi, we_mt, we_call, we_lrg1, we_lrg2, we_lc, ws_nil, ws_cons, wo_nil, wo_cons, wt_nil, wt_cons, wi_rng1, wi_rng2, wi_rng3, wi_of, wi_int, wS_asgN, wS_asgT, wS_asgS, wS_par2, wS_par3, wS_aug, wS_ex, wS_ret, wS_retN, wS_iff, wS_pass, wS_brk, wS_cont, wS_never, wS_nil, wS_cons, wS_for, wS_whl, wF_nx, wF_rt, wF_bk, wF_ct, wv_some, wb_some, wc_some, wm_some, wz_bl, wE_some, wN_some, wo_some, wo_none, wo_ite, List.getElem?_cons_zero, List.getElem?_cons_succ, List.set_cons_zero, List.set_cons_succ, List.map_cons, List.map_nil, List.cons_append, List.nil_append, List.append_nil, List.replicate_succ, List.replicate_zero, List.length_cons, List.length_nil, Bop.f, Cop.f, Bi.f, Im.f, wl_some, wj_some, wa_some, wbs_some, add_ii, add_ss, add_rr, sub_ii, mul_ii, mul_si, div_ii, mod_ii, pow_ii, neg_i, eq_ii, ne_ii, eq_ss, ne_ss, lt_ii, le_ii, gt_ii, ge_ii, eq_bb, ne_bb, in_cs, tr_b, tr_i, ix_r, ix_t, ix_f, ix_s, sl_s, sl_r, set_r, len_s, len_r, len_f, len_t, abs_i, max_ii, min_ii, max_r, min_r, int_i, int_b, list_r, sum_r, all_r, isi_ii, isi_ib, isi_ss, aug_ii, aug_sub, sel_app, sel_index, sel_pop, sel_count, sel_join, app_r, count_s, wx_some, idx_r, wT_some, join_r, src_s, src_f, src_t, src_r, if_true, if_false, Bool.not_true, Bool.not_false, Bool.false_eq_true]
      rw [if_pos (by rw [List.length_map, List.length_range]; show _ < 16777216; omega)]
      have sub : ((rest p q i : Nat) : Int) - (p : Nat) = ((rest p q i - p : Nat) : Int) := by omega
      refine ⟨pre_set (pre_set hp' (Nat.le_refl _)) (by omega), ?_, ?_, some (.int (0 + (i : Nat))), ?_⟩
      · rw [lst_set_ne (Ne.symm ne), lst_set hl1, List.range_succ, List.map_append]
        have : letter p q i = 117 := by unfold letter; rw [if_neg c]
        simp [this]
      · rw [lst_set (xs := (List.range i).map fun j => D.int (rest p q (j + 1) : Nat)) (by rw [lst_set_ne ne]; exact hl2), List.range_succ, List.map_append, show (List.map (fun j => D.int (rest p q (j + 1) : Nat)) [i]) = [D.int (rest p q (i + 1) : Nat)] from rfl, rs, sub]
      · rw [rs, sub]
  · obtain ⟨hp', hl1, hl2, x, rfl⟩ := hP
    rw [range_len] at hl1 hl2
    simp only [we_c, we_v, we_bin, we_neg, we_cmp, we_chn, we_no, we_and, we_or, we_ife, we_tup, we_lst, we_ix, we_sl, we_bi, we_mt, we_call, we_lrg1, we_lrg2, we_lc, ws_nil, ws_cons, wo_nil, wo_cons, wt_nil, wt_cons, wi_rng1, wi_rng2, wi_rng3, wi_of, wi_int, wS_asgN, wS_asgT, wS_asgS, wS_par2, wS_par3, wS_aug, wS_ex, wS_ret, wS_retN, wS_iff, wS_pass, wS_brk, wS_cont, wS_never, wS_nil, wS_cons, wS_for, wS_whl, wF_nx, wF_rt, wF_bk, wF_ct, wv_some, wb_some, wc_some, wm_some, wz_bl, wE_some, wN_some, wo_some, wo_none, wo_ite, List.getElem?_cons_zero, List.getElem?_cons_succ, List.set_cons_zero, List.set_cons_succ, List.map_cons, List.map_nil, List.cons_append, List.nil_append, List.append_nil, List.replicate_succ, List.replicate_zero, List.length_cons, List.length_nil, Bop.f, Cop.f, Bi.f, Im.f, wl_some, wj_some, wa_some, wbs_some, add_ii, add_ss, add_rr, sub_ii, mul_ii, mul_si, div_ii, mod_ii, pow_ii, neg_i, eq_ii, ne_ii, eq_ss, ne_ss, lt_ii, le_ii, gt_ii, ge_ii, eq_bb, ne_bb, in_cs, tr_b, tr_i, ix_r, ix_t, ix_f, ix_s, sl_s, sl_r, set_r, len_s, len_r, len_f, len_t, abs_i, max_ii, min_ii, max_r, min_r, int_i, int_b, list_r, sum_r, all_r, isi_ii, isi_ib, isi_ss, aug_ii, aug_sub, sel_app, sel_index, sel_pop, sel_count, sel_join, app_r, count_s, wx_some, idx_r, wT_some, join_r, src_s, src_f, src_t, src_r, if_true, if_false, Bool.not_true, Bool.not_false, Bool.false_eq_true]
    have e : (List.range (p + q)).map (fun j => D.str [letter p q j]) = (lowR p q).map fun c => D.str [c] := by unfold lowR; rw [List.map_map]; rfl
    rw [e] at hl1
    rw [hl1, wl_some, strs_ones, wT_some, if_pos (by rw [sum_ones]; exact line_of (by unfold lowR; rw [List.length_map, List.length_range]; omega)), joinL_nil, flat_ones]
    exact ⟨line_of (by decide), h T hp' hl2⟩
  · refine ⟨(List.prefix_append _ _).trans (List.prefix_append _ _), ?_, ?_, none, ?_⟩
    · rw [lst_pre (List.prefix_append _ _) (lst_new S [])]; rfl
    · have := lst_new (S ++ [Cell.lst []]) []
      rw [List.length_append] at this
      exact this
    · rw [rest_zero]
      simp
theorem at2_0 (a b : D) : L2.atI [a, b] 0 = some a := rfl
theorem low_in_ok (p q : Nat) (hp : p + q ≤ 10000) (h : ∀ T, S <+: T → Q (.str (lowR p q)) T) : Wp (run ds (k + 2) 2 [.int p, .int q] S) Q := by
  refine wp_run (d := d2) rfl rfl ?_
  simp only [d2, we_c, we_v, we_bin, we_neg, we_cmp, we_chn, we_no, we_and, we_or, we_ife, we_tup, we_lst, we_ix, we_sl, we_bi, we_mt, we_call, we_lrg1, we_lrg2, we_lc, ws_nil, ws_cons, wo_nil, wo_cons, wt_nil, wt_cons, wi_rng1, wi_rng2, wi_rng3, wi_of, wi_int, wS_asgN, wS_asgT, wS_asgS, wS_par2, wS_par3, wS_aug, wS_ex, wS_ret, wS_retN, wS_iff, wS_pass, wS_brk, wS_cont, wS_never, wS_nil, wS_cons, wS_for, wS_whl, wF_nx, wF_rt, wF_bk, wF_ct, wv_some, wb_some, wc_some, wm_some, wz_bl, wE_some, wN_some, wo_some, wo_none, wo_ite, List.getElem?_cons_zero, List.getElem?_cons_succ, List.set_cons_zero, List.set_cons_succ, List.map_cons, List.map_nil, List.cons_append, List.nil_append, List.append_nil, List.replicate_succ, List.replicate_zero, List.length_cons, List.length_nil, Bop.f, Cop.f, Bi.f, Im.f, wl_some, wj_some, wa_some, wbs_some, add_ii, add_ss, add_rr, sub_ii, mul_ii, mul_si, div_ii, mod_ii, pow_ii, neg_i, eq_ii, ne_ii, eq_ss, ne_ss, lt_ii, le_ii, gt_ii, ge_ii, eq_bb, ne_bb, in_cs, tr_b, tr_i, ix_r, ix_t, ix_f, ix_s, sl_s, sl_r, set_r, len_s, len_r, len_f, len_t, abs_i, max_ii, min_ii, max_r, min_r, int_i, int_b, list_r, sum_r, all_r, isi_ii, isi_ib, isi_ss, aug_ii, aug_sub, sel_app, sel_index, sel_pop, sel_count, sel_join, app_r, count_s, wx_some, idx_r, wT_some, join_r, src_s, src_f, src_t, src_r, if_true, if_false, Bool.not_true, Bool.not_false, Bool.false_eq_true]
  refine low_steps_ok p q hp fun T hT hl => ?_
  rw [ix_t, at2_0, wa_some]
  exact h T hT
theorem filter_r (cs : List Nat) : (((cs.map fun c => D.str [c]).filter (onS fun w => decide (w = [114]))).map fun d => d).length = cs.count 114 := by
  rw [List.map_id', List.filter_map, List.length_map, List.count_eq_length_filter]
  congr 1
  apply List.filter_congr
  intro c _
  show decide ([c] = [114]) = (c == 114)
  by_cases e : c = 114
  · rw [e]; rfl
  · rw [decide_eq_false (by intro z; exact e (List.cons.inj z).1)]; simp [e]
theorem counts_ok (cs : List Nat) (hl : cs.length ≤ 10000) (h : ∀ T, S <+: T → Q (.tup [.int (cs.count 114 : Nat), .int (cs.length - cs.count 114 : Nat)]) T) : Wp (run ds (k + 1) 3 [.str cs] S) Q := by
  refine wp_run (d := d3) rfl rfl ?_
  simp only [d3, we_c, we_v, we_bin, we_neg, we_cmp, we_chn, we_no, we_and, we_or, we_ife, we_tup, we_lst, we_ix, we_sl, we_bi, we_mt, we_call, we_lrg1, we_lrg2, we_lc, ws_nil, ws_cons, wo_nil, wo_cons, wt_nil, wt_cons, wi_rng1, wi_rng2, wi_rng3, wi_of, wi_int, wS_asgN, wS_asgT, wS_asgS, wS_par2, wS_par3, wS_aug, wS_ex, wS_ret, wS_retN, wS_iff, wS_pass, wS_brk, wS_cont, wS_never, wS_nil, wS_cons, wS_for, wS_whl, wF_nx, wF_rt, wF_bk, wF_ct, wv_some, wb_some, wc_some, wm_some, wz_bl, wE_some, wN_some, wo_some, wo_none, wo_ite, List.getElem?_cons_zero, List.getElem?_cons_succ, List.set_cons_zero, List.set_cons_succ, List.map_cons, List.map_nil, List.cons_append, List.nil_append, List.append_nil, List.replicate_succ, List.replicate_zero, List.length_cons, List.length_nil, Bop.f, Cop.f, Bi.f, Im.f, wl_some, wj_some, wa_some, wbs_some, add_ii, add_ss, add_rr, sub_ii, mul_ii, mul_si, div_ii, mod_ii, pow_ii, neg_i, eq_ii, ne_ii, eq_ss, ne_ss, lt_ii, le_ii, gt_ii, ge_ii, eq_bb, ne_bb, in_cs, tr_b, tr_i, ix_r, ix_t, ix_f, ix_s, sl_s, sl_r, set_r, len_s, len_r, len_f, len_t, abs_i, max_ii, min_ii, max_r, min_r, int_i, int_b, list_r, sum_r, all_r, isi_ii, isi_ib, isi_ss, aug_ii, aug_sub, sel_app, sel_index, sel_pop, sel_count, sel_join, app_r, count_s, wx_some, idx_r, wT_some, join_r, src_s, src_f, src_t, src_r, if_true, if_false, Bool.not_true, Bool.not_false, Bool.false_eq_true]
  refine wp_filter (onS fun w => decide (w = [114])) (fun d => d) (at_items _ _) (by rw [List.length_map]; exact line_of (by omega)) (fun d T hd hp => ?_) (fun T hp hl2 => ?_)
  · obtain ⟨c, h3, rfl⟩ := mem_str hd
    simp only [setT, wipeE, we_c, we_v, we_bin, we_neg, we_cmp, we_chn, we_no, we_and, we_or, we_ife, we_tup, we_lst, we_ix, we_sl, we_bi, we_mt, we_call, we_lrg1, we_lrg2, we_lc, ws_nil, ws_cons, wo_nil, wo_cons, wt_nil, wt_cons, wi_rng1, wi_rng2, wi_rng3, wi_of, wi_int, wS_asgN, wS_asgT, wS_asgS, wS_par2, wS_par3, wS_aug, wS_ex, wS_ret, wS_retN, wS_iff, wS_pass, wS_brk, wS_cont, wS_never, wS_nil, wS_cons, wS_for, wS_whl, wF_nx, wF_rt, wF_bk, wF_ct, wv_some, wb_some, wc_some, wm_some, wz_bl, wE_some, wN_some, wo_some, wo_none, wo_ite, List.getElem?_cons_zero, List.getElem?_cons_succ, List.set_cons_zero, List.set_cons_succ, List.map_cons, List.map_nil, List.cons_append, List.nil_append, List.append_nil, List.replicate_succ, List.replicate_zero, List.length_cons, List.length_nil, Bop.f, Cop.f, Bi.f, Im.f, wl_some, wj_some, wa_some, wbs_some, add_ii, add_ss, add_rr, sub_ii, mul_ii, mul_si, div_ii, mod_ii, pow_ii, neg_i, eq_ii, ne_ii, eq_ss, ne_ss, lt_ii, le_ii, gt_ii, ge_ii, eq_bb, ne_bb, in_cs, tr_b, tr_i, ix_r, ix_t, ix_f, ix_s, sl_s, sl_r, set_r, len_s, len_r, len_f, len_t, abs_i, max_ii, min_ii, max_r, min_r, int_i, int_b, list_r, sum_r, all_r, isi_ii, isi_ib, isi_ss, aug_ii, aug_sub, sel_app, sel_index, sel_pop, sel_count, sel_join, app_r, count_s, wx_some, idx_r, wT_some, join_r, src_s, src_f, src_t, src_r, if_true, if_false, Bool.not_true, Bool.not_false, Bool.false_eq_true]
    exact ⟨rfl, List.prefix_refl _, fun _ => ⟨trivial, List.prefix_refl _⟩⟩
  · rw [hl2, wl_some, filter_r]
    rw [if_pos (line_of (by omega))]
    have hc := List.count_le_length (a := 114) (l := cs)
    rw [show ((cs.length : Nat) : Int) - (cs.count 114 : Nat) = ((cs.length - cs.count 114 : Nat) : Int) by omega]
    exact ⟨line_of (by decide), h T hp⟩
def firstO (w : List Nat) : Option Nat := if Nat.gcd (w.count 114) (w.length - w.count 114) = 1 then (List.range w.length).find? fun a => decide (((w ++ w).drop a).take w.length = lowR (w.count 114) (w.length - w.count 114)) else none
def optI : Option Nat → D
  | none => .non
  | some n => .int n
theorem first_ok (cs : List Nat) (h1 : 1 ≤ cs.length) (hl : cs.length ≤ 4000) (h : ∀ T, S <+: T → Q (optI (firstO cs)) T) : Wp (run ds (k + 3) 4 [.str cs] S) Q := by
  refine wp_run (d := d4) rfl rfl ?_
  simp only [d4, we_c, we_v, we_bin, we_neg, we_cmp, we_chn, we_no, we_and, we_or, we_ife, we_tup, we_lst, we_ix, we_sl, we_bi, we_mt, we_call, we_lrg1, we_lrg2, we_lc, ws_nil, ws_cons, wo_nil, wo_cons, wt_nil, wt_cons, wi_rng1, wi_rng2, wi_rng3, wi_of, wi_int, wS_asgN, wS_asgT, wS_asgS, wS_par2, wS_par3, wS_aug, wS_ex, wS_ret, wS_retN, wS_iff, wS_pass, wS_brk, wS_cont, wS_never, wS_nil, wS_cons, wS_for, wS_whl, wF_nx, wF_rt, wF_bk, wF_ct, wv_some, wb_some, wc_some, wm_some, wz_bl, wE_some, wN_some, wo_some, wo_none, wo_ite, List.getElem?_cons_zero, List.getElem?_cons_succ, List.set_cons_zero, List.set_cons_succ, List.map_cons, List.map_nil, List.cons_append, List.nil_append, List.append_nil, List.replicate_succ, List.replicate_zero, List.length_cons, List.length_nil, Bop.f, Cop.f, Bi.f, Im.f, wl_some, wj_some, wa_some, wbs_some, add_ii, add_ss, add_rr, sub_ii, mul_ii, mul_si, div_ii, mod_ii, pow_ii, neg_i, eq_ii, ne_ii, eq_ss, ne_ss, lt_ii, le_ii, gt_ii, ge_ii, eq_bb, ne_bb, in_cs, tr_b, tr_i, ix_r, ix_t, ix_f, ix_s, sl_s, sl_r, set_r, len_s, len_r, len_f, len_t, abs_i, max_ii, min_ii, max_r, min_r, int_i, int_b, list_r, sum_r, all_r, isi_ii, isi_ib, isi_ss, aug_ii, aug_sub, sel_app, sel_index, sel_pop, sel_count, sel_join, app_r, count_s, wx_some, idx_r, wT_some, join_r, src_s, src_f, src_t, src_r, if_true, if_false, Bool.not_true, Bool.not_false, Bool.false_eq_true]
  refine counts_ok cs (by omega) fun T hp => ?_
  have hc := List.count_le_length (a := 114) (l := cs)
  simp only [setT, setTs, we_c, we_v, we_bin, we_neg, we_cmp, we_chn, we_no, we_and, we_or, we_ife, we_tup, we_lst, we_ix, we_sl, we_bi, we_mt, we_call, we_lrg1, we_lrg2, we_lc, ws_nil, ws_cons, wo_nil, wo_cons, wt_nil, wt_cons, wi_rng1, wi_rng2, wi_rng3, wi_of, wi_int, wS_asgN, wS_asgT, wS_asgS, wS_par2, wS_par3, wS_aug, wS_ex, wS_ret, wS_retN, wS_iff, wS_pass, wS_brk, wS_cont, wS_never, wS_nil, wS_cons, wS_for, wS_whl, wF_nx, wF_rt, wF_bk, wF_ct, wv_some, wb_some, wc_some, wm_some, wz_bl, wE_some, wN_some, wo_some, wo_none, wo_ite, List.getElem?_cons_zero, List.getElem?_cons_succ, List.set_cons_zero, List.set_cons_succ, List.map_cons, List.map_nil, List.cons_append, List.nil_append, List.append_nil, List.replicate_succ, List.replicate_zero, List.length_cons, List.length_nil, Bop.f, Cop.f, Bi.f, Im.f, wl_some, wj_some, wa_some, wbs_some, add_ii, add_ss, add_rr, sub_ii, mul_ii, mul_si, div_ii, mod_ii, pow_ii, neg_i, eq_ii, ne_ii, eq_ss, ne_ss, lt_ii, le_ii, gt_ii, ge_ii, eq_bb, ne_bb, in_cs, tr_b, tr_i, ix_r, ix_t, ix_f, ix_s, sl_s, sl_r, set_r, len_s, len_r, len_f, len_t, abs_i, max_ii, min_ii, max_r, min_r, int_i, int_b, list_r, sum_r, all_r, isi_ii, isi_ib, isi_ss, aug_ii, aug_sub, sel_app, sel_index, sel_pop, sel_count, sel_join, app_r, count_s, wx_some, idx_r, wT_some, join_r, src_s, src_f, src_t, src_r, if_true, if_false, Bool.not_true, Bool.not_false, Bool.false_eq_true]
  refine share_ok _ _ (by omega) ?_
  unfold firstO at h
  rw [ne_ii, tr_b, wb_some]
  by_cases hg : Nat.gcd (cs.count 114) (cs.length - cs.count 114) = 1
  · rw [if_pos hg] at h
    rw [if_neg (by rw [hg]; simp)]
    refine low_in_ok _ _ (by omega) fun T2 hp2 => ?_
    rw [if_pos (line_of (by omega)), if_pos (line_of (by omega)), rng_1 _ (by omega), Int.toNat_natCast]
    refine wp_turns (rangeD 0 cs.length) (fun i e U => U = T2 ∧ (∀ j, j < i → ¬ ((cs ++ cs).drop j).take cs.length = lowR (cs.count 114) (cs.length - cs.count 114)) ∧ ∃ x, e = [some (.str cs), some (.int (cs.count 114 : Nat)), some (.int (cs.length - cs.count 114 : Nat)), some (.str (lowR (cs.count 114) (cs.length - cs.count 114))), some (.str (cs ++ cs)), x]) (fun _ _ _ _ => rfl) (fun i d e U hx hP => ?_) (fun e U hP => ?_) fuel 0 _ _ (by rw [range_len]; show _ < 1000000000; omega) (Nat.zero_le _) ⟨rfl, fun j hj => by omega, _, rfl⟩
    · obtain ⟨rfl, ha, x, rfl⟩ := hP
      obtain ⟨hi, rfl⟩ := range_get hx
      simp only [setT, we_c, we_v, we_bin, we_neg, we_cmp, we_chn, we_no, we_and, we_or, we_ife, we_tup, we_lst, we_ix, we_sl, we_bi, we_mt, we_call, we_lrg1, we_lrg2, we_lc, ws_nil, ws_cons, wo_nil, wo_cons, wt_nil, wt_cons, wi_rng1, wi_rng2, wi_rng3, wi_of, wi_int, wS_asgN, wS_asgT, wS_asgS, wS_par2, wS_par3, wS_aug, wS_ex, wS_ret, wS_retN, wS_iff, wS_pass, wS_brk, wS_cont, wS_never, wS_nil, wS_cons, wS_for, wS_whl, wF_nx, wF_rt, wF_bk, wF_ct, wv_some, wb_some, wc_some, wm_some, wz_bl, wE_some, wN_some, wo_some, wo_none, wo_ite, List.getElem?_cons_zero, List.getElem?_cons_succ, List.set_cons_zero, List.set_cons_succ, List.map_cons, List.map_nil, List.cons_append, List.nil_append, List.append_nil, List.replicate_succ, List.replicate_zero, List.length_cons, List.length_nil, Bop.f, Cop.f, Bi.f, Im.f, wl_some, wj_some, wa_some, wbs_some, add_ii, add_ss, add_rr, sub_ii, mul_ii, mul_si, div_ii, mod_ii, pow_ii, neg_i, eq_ii, ne_ii, eq_ss, ne_ss, lt_ii, le_ii, gt_ii, ge_ii, eq_bb, ne_bb, in_cs, tr_b, tr_i, ix_r, ix_t, ix_f, ix_s, sl_s, sl_r, set_r, len_s, len_r, len_f, len_t, abs_i, max_ii, min_ii, max_r, min_r, int_i, int_b, list_r, sum_r, all_r, isi_ii, isi_ib, isi_ss, aug_ii, aug_sub, sel_app, sel_index, sel_pop, sel_count, sel_join, app_r, count_s, wx_some, idx_r, wT_some, join_r, src_s, src_f, src_t, src_r, if_true, if_false, Bool.not_true, Bool.not_false, Bool.false_eq_true, decide_eq_true_eq]
      rw [if_pos (line_of (by omega))]
      rw [if_pos (line_of (by rw [List.length_append]; omega)), show (0 + (i : Nat) : Int) = ((i : Nat) : Int) by omega, show ((i : Nat) : Int) + (cs.length : Nat) = ((i + cs.length : Nat) : Int) by omega, cut_nat, show i + cs.length - i = cs.length by omega]
      by_cases c : ((cs ++ cs).drop i).take cs.length = lowR (cs.count 114) (cs.length - cs.count 114)
      · rw [if_pos c]
        have e : (List.range cs.length).find? (fun a => decide (((cs ++ cs).drop a).take cs.length = lowR (cs.count 114) (cs.length - cs.count 114))) = some i := by
          rw [List.find?_range_eq_some]
          exact ⟨decide_eq_true c, List.mem_range.mpr hi, fun j hj => by rw [Bool.not_eq_true', decide_eq_false_iff_not]; exact ha j hj⟩
        rw [e] at h
        exact h U (hp.trans hp2)
      · rw [if_neg c]
        refine ⟨trivial, fun j hj => ?_, _, rfl⟩
        by_cases e : j = i
        · rw [e]; exact c
        · exact ha j (by omega)
    · obtain ⟨rfl, ha, x, rfl⟩ := hP
      rw [range_len] at ha
      have e : (List.range cs.length).find? (fun a => decide (((cs ++ cs).drop a).take cs.length = lowR (cs.count 114) (cs.length - cs.count 114))) = none := by
        rw [List.find?_eq_none]
        intro a hm
        rw [decide_eq_true_eq]
        exact ha a (List.mem_range.mp hm)
      rw [e] at h
      simp only [we_c, we_v, we_bin, we_neg, we_cmp, we_chn, we_no, we_and, we_or, we_ife, we_tup, we_lst, we_ix, we_sl, we_bi, we_mt, we_call, we_lrg1, we_lrg2, we_lc, ws_nil, ws_cons, wo_nil, wo_cons, wt_nil, wt_cons, wi_rng1, wi_rng2, wi_rng3, wi_of, wi_int, wS_asgN, wS_asgT, wS_asgS, wS_par2, wS_par3, wS_aug, wS_ex, wS_ret, wS_retN, wS_iff, wS_pass, wS_brk, wS_cont, wS_never, wS_nil, wS_cons, wS_for, wS_whl, wF_nx, wF_rt, wF_bk, wF_ct, wv_some, wb_some, wc_some, wm_some, wz_bl, wE_some, wN_some, wo_some, wo_none, wo_ite, List.getElem?_cons_zero, List.getElem?_cons_succ, List.set_cons_zero, List.set_cons_succ, List.map_cons, List.map_nil, List.cons_append, List.nil_append, List.append_nil, List.replicate_succ, List.replicate_zero, List.length_cons, List.length_nil, Bop.f, Cop.f, Bi.f, Im.f, wl_some, wj_some, wa_some, wbs_some, add_ii, add_ss, add_rr, sub_ii, mul_ii, mul_si, div_ii, mod_ii, pow_ii, neg_i, eq_ii, ne_ii, eq_ss, ne_ss, lt_ii, le_ii, gt_ii, ge_ii, eq_bb, ne_bb, in_cs, tr_b, tr_i, ix_r, ix_t, ix_f, ix_s, sl_s, sl_r, set_r, len_s, len_r, len_f, len_t, abs_i, max_ii, min_ii, max_r, min_r, int_i, int_b, list_r, sum_r, all_r, isi_ii, isi_ib, isi_ss, aug_ii, aug_sub, sel_app, sel_index, sel_pop, sel_count, sel_join, app_r, count_s, wx_some, idx_r, wT_some, join_r, src_s, src_f, src_t, src_r, if_true, if_false, Bool.not_true, Bool.not_false, Bool.false_eq_true]
      exact h U (hp.trans hp2)
  · rw [if_neg hg] at h
    rw [if_pos (by simp; omega)]
    exact h T hp
theorem isn_opt (o : Option Nat) : WpO (fIsn (optI o) .non S) Q = Q (.bl o.isSome) S := by cases o <;> rfl
theorem is_opt (o : Option Nat) : WpO (fIs (optI o) .non S) Q = Q (.bl o.isNone) S := by cases o <;> rfl
theorem is_straight_ok (w : List Nat) (h1 : 1 ≤ w.length) (h2 : w.length ≤ 1000) (hr : Ru w) (h : ∀ T, S <+: T → Q (.bl (firstO w).isSome) T) : Wp (run ds (k + 4) 15 [.str w] S) Q := by
  refine wp_run (d := d15) rfl rfl ?_
  simp only [d15, we_c, we_v, we_bin, we_neg, we_cmp, we_chn, we_no, we_and, we_or, we_ife, we_tup, we_lst, we_ix, we_sl, we_bi, we_mt, we_call, we_lrg1, we_lrg2, we_lc, ws_nil, ws_cons, wo_nil, wo_cons, wt_nil, wt_cons, wi_rng1, wi_rng2, wi_rng3, wi_of, wi_int, wS_asgN, wS_asgT, wS_asgS, wS_par2, wS_par3, wS_aug, wS_ex, wS_ret, wS_retN, wS_iff, wS_pass, wS_brk, wS_cont, wS_never, wS_nil, wS_cons, wS_for, wS_whl, wF_nx, wF_rt, wF_bk, wF_ct, wv_some, wb_some, wc_some, wm_some, wz_bl, wE_some, wN_some, wo_some, wo_none, wo_ite, List.getElem?_cons_zero, List.getElem?_cons_succ, List.set_cons_zero, List.set_cons_succ, List.map_cons, List.map_nil, List.cons_append, List.nil_append, List.append_nil, List.replicate_succ, List.replicate_zero, List.length_cons, List.length_nil, Bop.f, Cop.f, Bi.f, Im.f, wl_some, wj_some, wa_some, wbs_some, add_ii, add_ss, add_rr, sub_ii, mul_ii, mul_si, div_ii, mod_ii, pow_ii, neg_i, eq_ii, ne_ii, eq_ss, ne_ss, lt_ii, le_ii, gt_ii, ge_ii, eq_bb, ne_bb, in_cs, tr_b, tr_i, ix_r, ix_t, ix_f, ix_s, sl_s, sl_r, set_r, len_s, len_r, len_f, len_t, abs_i, max_ii, min_ii, max_r, min_r, int_i, int_b, list_r, sum_r, all_r, isi_ii, isi_ib, isi_ss, aug_ii, aug_sub, sel_app, sel_index, sel_pop, sel_count, sel_join, app_r, count_s, wx_some, idx_r, wT_some, join_r, src_s, src_f, src_t, src_r, if_true, if_false, Bool.not_true, Bool.not_false, Bool.false_eq_true]
  refine require_step_word_ok w h1 (by omega) hr fun T hp => ?_
  refine first_ok w h1 (by omega) fun T2 hp2 => ?_
  rw [isn_opt]
  exact h T2 (hp.trans hp2)
theorem slope_of_ok (w : List Nat) (h1 : 1 ≤ w.length) (h2 : w.length ≤ 1000) (hr : Ru w) (hs : (firstO w).isSome = true) (h : ∀ T, S <+: T → Q (.tup [.int (w.count 114 : Nat), .int (w.length - w.count 114 : Nat)]) T) : Wp (run ds (k + 4) 16 [.str w] S) Q := by
  refine wp_run (d := d16) rfl rfl ?_
  simp only [d16, we_c, we_v, we_bin, we_neg, we_cmp, we_chn, we_no, we_and, we_or, we_ife, we_tup, we_lst, we_ix, we_sl, we_bi, we_mt, we_call, we_lrg1, we_lrg2, we_lc, ws_nil, ws_cons, wo_nil, wo_cons, wt_nil, wt_cons, wi_rng1, wi_rng2, wi_rng3, wi_of, wi_int, wS_asgN, wS_asgT, wS_asgS, wS_par2, wS_par3, wS_aug, wS_ex, wS_ret, wS_retN, wS_iff, wS_pass, wS_brk, wS_cont, wS_never, wS_nil, wS_cons, wS_for, wS_whl, wF_nx, wF_rt, wF_bk, wF_ct, wv_some, wb_some, wc_some, wm_some, wz_bl, wE_some, wN_some, wo_some, wo_none, wo_ite, List.getElem?_cons_zero, List.getElem?_cons_succ, List.set_cons_zero, List.set_cons_succ, List.map_cons, List.map_nil, List.cons_append, List.nil_append, List.append_nil, List.replicate_succ, List.replicate_zero, List.length_cons, List.length_nil, Bop.f, Cop.f, Bi.f, Im.f, wl_some, wj_some, wa_some, wbs_some, add_ii, add_ss, add_rr, sub_ii, mul_ii, mul_si, div_ii, mod_ii, pow_ii, neg_i, eq_ii, ne_ii, eq_ss, ne_ss, lt_ii, le_ii, gt_ii, ge_ii, eq_bb, ne_bb, in_cs, tr_b, tr_i, ix_r, ix_t, ix_f, ix_s, sl_s, sl_r, set_r, len_s, len_r, len_f, len_t, abs_i, max_ii, min_ii, max_r, min_r, int_i, int_b, list_r, sum_r, all_r, isi_ii, isi_ib, isi_ss, aug_ii, aug_sub, sel_app, sel_index, sel_pop, sel_count, sel_join, app_r, count_s, wx_some, idx_r, wT_some, join_r, src_s, src_f, src_t, src_r, if_true, if_false, Bool.not_true, Bool.not_false, Bool.false_eq_true]
  refine require_step_word_ok w h1 (by omega) hr fun T hp => ?_
  refine first_ok w h1 (by omega) fun T2 hp2 => ?_
  have hn : (firstO w).isNone = false := by cases e : firstO w with | none => rw [e] at hs; cases hs | some n => rfl
  rw [is_opt, hn, tr_b, wb_some, if_neg (by decide)]
  refine counts_ok w (by omega) fun T3 hp3 => ?_
  exact h T3 (hp.trans (hp2.trans hp3))
theorem cut_from {α : Type} (xs : List α) (a : Nat) : cutL xs (some (a : Int)) none = xs.drop a := by
  unfold cutL
  rw [HT.sIx_none, HT.sIx_nat]
  by_cases h : a ≤ xs.length
  · rw [Nat.min_eq_left h, List.take_of_length_le (by rw [List.length_drop]; omega)]
  · rw [Nat.min_eq_right (show xs.length ≤ a by omega), List.drop_of_length_le (Nat.le_refl _), List.drop_of_length_le (show xs.length ≤ a by omega)]
    simp
structure Gr (n : Nat) (S T : Mem) : Prop where
  die : Die T n
  len : S.length ≤ T.length
  keep : ∀ m xs, m ≠ n → lstAt S m = some xs → lstAt T m = some xs
theorem die_lt {T : Mem} {n : Nat} (h : Die T n) : n < T.length := by
  obtain ⟨g, s, t, _, hl⟩ := h
  exact lst_lt hl
theorem Gr.refl {n : Nat} {S : Mem} (h : Die S n) : Gr n S S := ⟨h, Nat.le_refl _, fun _ _ _ e => e⟩
theorem Gr.trans {n : Nat} {S T U : Mem} (a : Gr n S T) (b : Gr n T U) : Gr n S U := ⟨b.die, Nat.le_trans a.len b.len, fun m xs hm e => b.keep m xs hm (a.keep m xs hm e)⟩
theorem Gr.pre {n : Nat} {S T U : Mem} (a : Gr n S T) (p : T <+: U) : Gr n S U := ⟨a.die.pre p, Nat.le_trans a.len p.length_le, fun m xs hm e => lst_pre p (a.keep m xs hm e)⟩
theorem Gr.roll {n : Nat} {S T U : Mem} (a : Gr n S T) (r : Rolled n T U) : Gr n S U := ⟨r.die, by rw [r.len]; exact a.len, fun m xs hm e => r.lst hm (a.keep m xs hm e)⟩
theorem gcd_ok (a b : Nat) (hb : b ≤ 100000) (h : Q (.int (Nat.gcd a b)) S) : Wp (run ds (k + 1) 25 [.int a, .int b] S) Q := by
  refine wp_run (d := d25) rfl rfl ?_
  simp only [d25, we_c, we_v, we_bin, we_neg, we_cmp, we_chn, we_no, we_and, we_or, we_ife, we_tup, we_lst, we_ix, we_sl, we_bi, we_mt, we_call, we_lrg1, we_lrg2, we_lc, ws_nil, ws_cons, wo_nil, wo_cons, wt_nil, wt_cons, wi_rng1, wi_rng2, wi_rng3, wi_of, wi_int, wS_asgN, wS_asgT, wS_asgS, wS_par2, wS_par3, wS_aug, wS_ex, wS_ret, wS_retN, wS_iff, wS_pass, wS_brk, wS_cont, wS_never, wS_nil, wS_cons, wS_for, wS_whl, wF_nx, wF_rt, wF_bk, wF_ct, wv_some, wb_some, wc_some, wm_some, wz_bl, wE_some, wN_some, wo_some, wo_none, wo_ite, List.getElem?_cons_zero, List.getElem?_cons_succ, List.set_cons_zero, List.set_cons_succ, List.map_cons, List.map_nil, List.cons_append, List.nil_append, List.append_nil, List.replicate_succ, List.replicate_zero, List.length_cons, List.length_nil, Bop.f, Cop.f, Bi.f, Im.f, wl_some, wj_some, wa_some, wbs_some, add_ii, add_ss, add_rr, sub_ii, mul_ii, mul_si, div_ii, mod_ii, pow_ii, neg_i, eq_ii, ne_ii, eq_ss, ne_ss, lt_ii, le_ii, gt_ii, ge_ii, eq_bb, ne_bb, in_cs, tr_b, tr_i, ix_r, ix_t, ix_f, ix_s, sl_s, sl_r, set_r, len_s, len_r, len_f, len_t, abs_i, max_ii, min_ii, max_r, min_r, int_i, int_b, list_r, sum_r, all_r, isi_ii, isi_ib, isi_ss, aug_ii, aug_sub, sel_app, sel_index, sel_pop, sel_count, sel_join, app_r, count_s, wx_some, idx_r, wT_some, join_r, src_s, src_f, src_t, src_r, if_true, if_false, Bool.not_true, Bool.not_false, Bool.false_eq_true]
  refine wp_whiles (fun m e T => ∃ x y : Nat, m = y ∧ T = S ∧ e = [some (.int x), some (.int y)] ∧ Nat.gcd x y = Nat.gcd a b) (fun m e T hP => ?_) fuel b _ _ (by show _ < 1000000000; omega) ⟨a, b, rfl, rfl, rfl, rfl⟩
  obtain ⟨x, y, rfl, rfl, rfl, hg⟩ := hP
  simp only [we_c, we_v, we_bin, we_neg, we_cmp, we_chn, we_no, we_and, we_or, we_ife, we_tup, we_lst, we_ix, we_sl, we_bi, we_mt, we_call, we_lrg1, we_lrg2, we_lc, ws_nil, ws_cons, wo_nil, wo_cons, wt_nil, wt_cons, wi_rng1, wi_rng2, wi_rng3, wi_of, wi_int, wS_asgN, wS_asgT, wS_asgS, wS_par2, wS_par3, wS_aug, wS_ex, wS_ret, wS_retN, wS_iff, wS_pass, wS_brk, wS_cont, wS_never, wS_nil, wS_cons, wS_for, wS_whl, wF_nx, wF_rt, wF_bk, wF_ct, wv_some, wb_some, wc_some, wm_some, wz_bl, wE_some, wN_some, wo_some, wo_none, wo_ite, List.getElem?_cons_zero, List.getElem?_cons_succ, List.set_cons_zero, List.set_cons_succ, List.map_cons, List.map_nil, List.cons_append, List.nil_append, List.append_nil, List.replicate_succ, List.replicate_zero, List.length_cons, List.length_nil, Bop.f, Cop.f, Bi.f, Im.f, wl_some, wj_some, wa_some, wbs_some, add_ii, add_ss, add_rr, sub_ii, mul_ii, mul_si, div_ii, mod_ii, pow_ii, neg_i, eq_ii, ne_ii, eq_ss, ne_ss, lt_ii, le_ii, gt_ii, ge_ii, eq_bb, ne_bb, in_cs, tr_b, tr_i, ix_r, ix_t, ix_f, ix_s, sl_s, sl_r, set_r, len_s, len_r, len_f, len_t, abs_i, max_ii, min_ii, max_r, min_r, int_i, int_b, list_r, sum_r, all_r, isi_ii, isi_ib, isi_ss, aug_ii, aug_sub, sel_app, sel_index, sel_pop, sel_count, sel_join, app_r, count_s, wx_some, idx_r, wT_some, join_r, src_s, src_f, src_t, src_r, if_true, if_false, Bool.not_true, Bool.not_false, Bool.false_eq_true, w_tru]
  by_cases e : m = 0
  · subst e
    rw [Nat.gcd_zero_right] at hg
    rw [if_neg (by decide), if_neg (by omega), hg]
    exact h
  · rw [if_pos (by simp; omega), if_pos (by omega)]
    refine ⟨x % m, Nat.mod_lt _ (by omega), m, x % m, rfl, trivial, by rw [← Int.natCast_emod], ?_⟩
    rw [← hg, Nat.gcd_comm x m, Nat.gcd_rec m x, Nat.gcd_comm]
theorem law_low_ok (p q : Nat) (hp : p + q ≤ 10000) (h : ∀ T, S <+: T → Q (.str (lowR p q)) T) : Wp (run ds (k + 1) 26 [.int p, .int q] S) Q := by
  refine wp_run (d := d26) rfl rfl ?_
  simp only [d26, we_c, we_v, we_bin, we_neg, we_cmp, we_chn, we_no, we_and, we_or, we_ife, we_tup, we_lst, we_ix, we_sl, we_bi, we_mt, we_call, we_lrg1, we_lrg2, we_lc, ws_nil, ws_cons, wo_nil, wo_cons, wt_nil, wt_cons, wi_rng1, wi_rng2, wi_rng3, wi_of, wi_int, wS_asgN, wS_asgT, wS_asgS, wS_par2, wS_par3, wS_aug, wS_ex, wS_ret, wS_retN, wS_iff, wS_pass, wS_brk, wS_cont, wS_never, wS_nil, wS_cons, wS_for, wS_whl, wF_nx, wF_rt, wF_bk, wF_ct, wv_some, wb_some, wc_some, wm_some, wz_bl, wE_some, wN_some, wo_some, wo_none, wo_ite, List.getElem?_cons_zero, List.getElem?_cons_succ, List.set_cons_zero, List.set_cons_succ, List.map_cons, List.map_nil, List.cons_append, List.nil_append, List.append_nil, List.replicate_succ, List.replicate_zero, List.length_cons, List.length_nil, Bop.f, Cop.f, Bi.f, Im.f, wl_some, wj_some, wa_some, wbs_some, add_ii, add_ss, add_rr, sub_ii, mul_ii, mul_si, div_ii, mod_ii, pow_ii, neg_i, eq_ii, ne_ii, eq_ss, ne_ss, lt_ii, le_ii, gt_ii, ge_ii, eq_bb, ne_bb, in_cs, tr_b, tr_i, ix_r, ix_t, ix_f, ix_s, sl_s, sl_r, set_r, len_s, len_r, len_f, len_t, abs_i, max_ii, min_ii, max_r, min_r, int_i, int_b, list_r, sum_r, all_r, isi_ii, isi_ib, isi_ss, aug_ii, aug_sub, sel_app, sel_index, sel_pop, sel_count, sel_join, app_r, count_s, wx_some, idx_r, wT_some, join_r, src_s, src_f, src_t, src_r, if_true, if_false, Bool.not_true, Bool.not_false, Bool.false_eq_true]
  rw [rng_1 _ (by omega), show ((p : Int) + (q : Nat)) = ((p + q : Nat) : Int) by omega, Int.toNat_natCast]
  refine wp_map (onI fun a => .str [letter p q a.toNat]) (at_items _ _) (by rw [range_len]; exact line_of (by omega)) (fun d T hd hp' => ?_) (fun T hp' hl => ?_)
  · obtain ⟨i, hi, rfl⟩ := mem_range hd
    simp only [setT, wipeE, we_c, we_v, we_bin, we_neg, we_cmp, we_chn, we_no, we_and, we_or, we_ife, we_tup, we_lst, we_ix, we_sl, we_bi, we_mt, we_call, we_lrg1, we_lrg2, we_lc, ws_nil, ws_cons, wo_nil, wo_cons, wt_nil, wt_cons, wi_rng1, wi_rng2, wi_rng3, wi_of, wi_int, wS_asgN, wS_asgT, wS_asgS, wS_par2, wS_par3, wS_aug, wS_ex, wS_ret, wS_retN, wS_iff, wS_pass, wS_brk, wS_cont, wS_never, wS_nil, wS_cons, wS_for, wS_whl, wF_nx, wF_rt, wF_bk, wF_ct, wv_some, wb_some, wc_some, wm_some, wz_bl, wE_some, wN_some, wo_some, wo_none, wo_ite, List.getElem?_cons_zero, List.getElem?_cons_succ, List.set_cons_zero, List.set_cons_succ, List.map_cons, List.map_nil, List.cons_append, List.nil_append, List.append_nil, List.replicate_succ, List.replicate_zero, List.length_cons, List.length_nil, Bop.f, Cop.f, Bi.f, Im.f, wl_some, wj_some, wa_some, wbs_some, add_ii, add_ss, add_rr, sub_ii, mul_ii, mul_si, div_ii, mod_ii, pow_ii, neg_i, eq_ii, ne_ii, eq_ss, ne_ss, lt_ii, le_ii, gt_ii, ge_ii, eq_bb, ne_bb, in_cs, tr_b, tr_i, ix_r, ix_t, ix_f, ix_s, sl_s, sl_r, set_r, len_s, len_r, len_f, len_t, abs_i, max_ii, min_ii, max_r, min_r, int_i, int_b, list_r, sum_r, all_r, isi_ii, isi_ib, isi_ss, aug_ii, aug_sub, sel_app, sel_index, sel_pop, sel_count, sel_join, app_r, count_s, wx_some, idx_r, wT_some, join_r, src_s, src_f, src_t, src_r, if_true, if_false, Bool.not_true, Bool.not_false, Bool.false_eq_true, decide_eq_true_eq]
    rw [if_pos (mulOk_small (by omega)), if_pos (by omega), show (0 + (i : Nat) : Int) * (q : Nat) = ((i * q : Nat) : Int) by rw [Int.zero_add, Int.natCast_mul], ← Int.natCast_emod]
    have e : onI (fun a => .str [letter p q a.toNat]) (.int (0 + (i : Nat))) = .str [letter p q i] := by
      show D.str [letter p q (0 + (i : Nat) : Int).toNat] = _
      rw [show (0 + (i : Nat) : Int).toNat = i by omega]
    rw [e]
    unfold letter rest
    by_cases c : i * q % (p + q) < p
    · rw [if_pos (by omega), if_pos c]
      exact ⟨rfl, List.prefix_refl _⟩
    · rw [if_neg (by omega), if_neg c]
      exact ⟨rfl, List.prefix_refl _⟩
  · have hw : (rangeD 0 (p + q)).map (onI fun a => .str [letter p q a.toNat]) = (lowR p q).map fun c => D.str [c] := by
      rw [range_map]
      unfold lowR
      rw [List.map_map]
      apply List.map_congr_left
      intro i _
      show D.str _ = D.str _
      rw [show (0 + (i : Nat) : Int).toNat = i by omega]
    rw [hw] at hl
    rw [join_ones2 _ _ hl (by unfold lowR; rw [List.length_map, List.length_range]; omega)]
    exact h T hp'
theorem next_free (p q : Nat) (hq : 0 < q) : ∃ z, p ≤ z ∧ z ≤ p + q + 1 ∧ Nat.gcd z q = 1 := by
  have hd := Nat.div_add_mod p q
  have hm := Nat.mod_lt p hq
  refine ⟨q * (p / q) + q + 1, by omega, by omega, ?_⟩
  have e : Nat.gcd (q * (p / q) + q + 1) q = Nat.gcd 1 q := by
    rw [Nat.gcd_comm, Nat.gcd_rec, show q * (p / q) + q + 1 = 1 + q * (p / q + 1) by rw [Nat.mul_add]; omega, Nat.add_mul_mod_self_left, ← Nat.gcd_rec, Nat.gcd_comm]
  rw [e, Nat.gcd_one_left]
theorem wd_slope_ok (n most : Nat) (hd : Die S n) (h1 : 1 ≤ most) (h2 : most ≤ 1000) (h : ∀ p q T, Nat.gcd p q = 1 → p ≤ 2 * most → q ≤ most → Gr n S T → Q (.tup [.int (p : Nat), .int (q : Nat)]) T) : Wp (run ds (k + 2) 28 [.ref n, .int most] S) Q := by
  refine wp_run (d := d28) rfl rfl ?_
  simp only [d28, we_c, we_v, we_bin, we_neg, we_cmp, we_chn, we_no, we_and, we_or, we_ife, we_tup, we_lst, we_ix, we_sl, we_bi, we_mt, we_call, we_lrg1, we_lrg2, we_lc, ws_nil, ws_cons, wo_nil, wo_cons, wt_nil, wt_cons, wi_rng1, wi_rng2, wi_rng3, wi_of, wi_int, wS_asgN, wS_asgT, wS_asgS, wS_par2, wS_par3, wS_aug, wS_ex, wS_ret, wS_retN, wS_iff, wS_pass, wS_brk, wS_cont, wS_never, wS_nil, wS_cons, wS_for, wS_whl, wF_nx, wF_rt, wF_bk, wF_ct, wv_some, wb_some, wc_some, wm_some, wz_bl, wE_some, wN_some, wo_some, wo_none, wo_ite, List.getElem?_cons_zero, List.getElem?_cons_succ, List.set_cons_zero, List.set_cons_succ, List.map_cons, List.map_nil, List.cons_append, List.nil_append, List.append_nil, List.replicate_succ, List.replicate_zero, List.length_cons, List.length_nil, Bop.f, Cop.f, Bi.f, Im.f, wl_some, wj_some, wa_some, wbs_some, add_ii, add_ss, add_rr, sub_ii, mul_ii, mul_si, div_ii, mod_ii, pow_ii, neg_i, eq_ii, ne_ii, eq_ss, ne_ss, lt_ii, le_ii, gt_ii, ge_ii, eq_bb, ne_bb, in_cs, tr_b, tr_i, ix_r, ix_t, ix_f, ix_s, sl_s, sl_r, set_r, len_s, len_r, len_f, len_t, abs_i, max_ii, min_ii, max_r, min_r, int_i, int_b, list_r, sum_r, all_r, isi_ii, isi_ib, isi_ss, aug_ii, aug_sub, sel_app, sel_index, sel_pop, sel_count, sel_join, app_r, count_s, wx_some, idx_r, wT_some, join_r, src_s, src_f, src_t, src_r, if_true, if_false, Bool.not_true, Bool.not_false, Bool.false_eq_true]
  refine roll_ok n _ hd (by omega) (by omega) fun a T ha1 ha2 hr => ?_
  refine roll_ok n _ hr.die (by omega) (by omega) fun b U hb1 hb2 hr2 => ?_
  obtain ⟨a, rfl⟩ : ∃ x : Nat, a = x := ⟨a.toNat, by omega⟩
  obtain ⟨b, rfl⟩ : ∃ x : Nat, b = x := ⟨b.toNat, by omega⟩
  have g : Gr n S U := ((Gr.refl hd).roll hr).roll hr2
  simp only [we_c, we_v, we_bin, we_neg, we_cmp, we_chn, we_no, we_and, we_or, we_ife, we_tup, we_lst, we_ix, we_sl, we_bi, we_mt, we_call, we_lrg1, we_lrg2, we_lc, ws_nil, ws_cons, wo_nil, wo_cons, wt_nil, wt_cons, wi_rng1, wi_rng2, wi_rng3, wi_of, wi_int, wS_asgN, wS_asgT, wS_asgS, wS_par2, wS_par3, wS_aug, wS_ex, wS_ret, wS_retN, wS_iff, wS_pass, wS_brk, wS_cont, wS_never, wS_nil, wS_cons, wS_for, wS_whl, wF_nx, wF_rt, wF_bk, wF_ct, wv_some, wb_some, wc_some, wm_some, wz_bl, wE_some, wN_some, wo_some, wo_none, wo_ite, List.getElem?_cons_zero, List.getElem?_cons_succ, List.set_cons_zero, List.set_cons_succ, List.map_cons, List.map_nil, List.cons_append, List.nil_append, List.append_nil, List.replicate_succ, List.replicate_zero, List.length_cons, List.length_nil, Bop.f, Cop.f, Bi.f, Im.f, wl_some, wj_some, wa_some, wbs_some, add_ii, add_ss, add_rr, sub_ii, mul_ii, mul_si, div_ii, mod_ii, pow_ii, neg_i, eq_ii, ne_ii, eq_ss, ne_ss, lt_ii, le_ii, gt_ii, ge_ii, eq_bb, ne_bb, in_cs, tr_b, tr_i, ix_r, ix_t, ix_f, ix_s, sl_s, sl_r, set_r, len_s, len_r, len_f, len_t, abs_i, max_ii, min_ii, max_r, min_r, int_i, int_b, list_r, sum_r, all_r, isi_ii, isi_ib, isi_ss, aug_ii, aug_sub, sel_app, sel_index, sel_pop, sel_count, sel_join, app_r, count_s, wx_some, idx_r, wT_some, join_r, src_s, src_f, src_t, src_r, if_true, if_false, Bool.not_true, Bool.not_false, Bool.false_eq_true, decide_eq_true_eq]
  by_cases c : b = 0
  · subst c
    rw [if_pos (by rfl)]
    exact ⟨line_of (by decide), h 1 0 U rfl (by omega) (by omega) g⟩
  · rw [if_neg (by omega)]
    obtain ⟨z, z1, z2, z3⟩ := next_free a b (by omega)
    refine wp_whiles (fun m e V => ∃ x : Nat, m = z - x ∧ V = U ∧ x ≤ z ∧ e = [some (.ref n), some (.int most), some (.int x), some (.int b)]) (fun m e V hP => ?_) fuel (z - a) _ _ (by show _ < 1000000000; omega) ⟨a, rfl, rfl, z1, rfl⟩
    obtain ⟨x, rfl, rfl, hx, rfl⟩ := hP
    simp only [we_c, we_v, we_bin, we_neg, we_cmp, we_chn, we_no, we_and, we_or, we_ife, we_tup, we_lst, we_ix, we_sl, we_bi, we_mt, we_call, we_lrg1, we_lrg2, we_lc, ws_nil, ws_cons, wo_nil, wo_cons, wt_nil, wt_cons, wi_rng1, wi_rng2, wi_rng3, wi_of, wi_int, wS_asgN, wS_asgT, wS_asgS, wS_par2, wS_par3, wS_aug, wS_ex, wS_ret, wS_retN, wS_iff, wS_pass, wS_brk, wS_cont, wS_never, wS_nil, wS_cons, wS_for, wS_whl, wF_nx, wF_rt, wF_bk, wF_ct, wv_some, wb_some, wc_some, wm_some, wz_bl, wE_some, wN_some, wo_some, wo_none, wo_ite, List.getElem?_cons_zero, List.getElem?_cons_succ, List.set_cons_zero, List.set_cons_succ, List.map_cons, List.map_nil, List.cons_append, List.nil_append, List.append_nil, List.replicate_succ, List.replicate_zero, List.length_cons, List.length_nil, Bop.f, Cop.f, Bi.f, Im.f, wl_some, wj_some, wa_some, wbs_some, add_ii, add_ss, add_rr, sub_ii, mul_ii, mul_si, div_ii, mod_ii, pow_ii, neg_i, eq_ii, ne_ii, eq_ss, ne_ss, lt_ii, le_ii, gt_ii, ge_ii, eq_bb, ne_bb, in_cs, tr_b, tr_i, ix_r, ix_t, ix_f, ix_s, sl_s, sl_r, set_r, len_s, len_r, len_f, len_t, abs_i, max_ii, min_ii, max_r, min_r, int_i, int_b, list_r, sum_r, all_r, isi_ii, isi_ib, isi_ss, aug_ii, aug_sub, sel_app, sel_index, sel_pop, sel_count, sel_join, app_r, count_s, wx_some, idx_r, wT_some, join_r, src_s, src_f, src_t, src_r, if_true, if_false, Bool.not_true, Bool.not_false, Bool.false_eq_true, w_tru]
    refine gcd_ok x b (by omega) ?_
    simp only [we_c, we_v, we_bin, we_neg, we_cmp, we_chn, we_no, we_and, we_or, we_ife, we_tup, we_lst, we_ix, we_sl, we_bi, we_mt, we_call, we_lrg1, we_lrg2, we_lc, ws_nil, ws_cons, wo_nil, wo_cons, wt_nil, wt_cons, wi_rng1, wi_rng2, wi_rng3, wi_of, wi_int, wS_asgN, wS_asgT, wS_asgS, wS_par2, wS_par3, wS_aug, wS_ex, wS_ret, wS_retN, wS_iff, wS_pass, wS_brk, wS_cont, wS_never, wS_nil, wS_cons, wS_for, wS_whl, wF_nx, wF_rt, wF_bk, wF_ct, wv_some, wb_some, wc_some, wm_some, wz_bl, wE_some, wN_some, wo_some, wo_none, wo_ite, List.getElem?_cons_zero, List.getElem?_cons_succ, List.set_cons_zero, List.set_cons_succ, List.map_cons, List.map_nil, List.cons_append, List.nil_append, List.append_nil, List.replicate_succ, List.replicate_zero, List.length_cons, List.length_nil, Bop.f, Cop.f, Bi.f, Im.f, wl_some, wj_some, wa_some, wbs_some, add_ii, add_ss, add_rr, sub_ii, mul_ii, mul_si, div_ii, mod_ii, pow_ii, neg_i, eq_ii, ne_ii, eq_ss, ne_ss, lt_ii, le_ii, gt_ii, ge_ii, eq_bb, ne_bb, in_cs, tr_b, tr_i, ix_r, ix_t, ix_f, ix_s, sl_s, sl_r, set_r, len_s, len_r, len_f, len_t, abs_i, max_ii, min_ii, max_r, min_r, int_i, int_b, list_r, sum_r, all_r, isi_ii, isi_ib, isi_ss, aug_ii, aug_sub, sel_app, sel_index, sel_pop, sel_count, sel_join, app_r, count_s, wx_some, idx_r, wT_some, join_r, src_s, src_f, src_t, src_r, if_true, if_false, Bool.not_true, Bool.not_false, Bool.false_eq_true]
    by_cases e : Nat.gcd x b = 1
    · rw [if_neg (by rw [e]; decide)]
      exact ⟨line_of (by decide), h x b V e (by omega) (by omega) g⟩
    · have hne : x ≠ z := fun q => e (by rw [q]; exact z3)
      rw [if_pos (by simp; omega)]
      exact ⟨z - (x + 1), by omega, x + 1, rfl, trivial, by omega, by rw [show ((x : Nat) : Int) + 1 = ((x + 1 : Nat) : Int) by omega]⟩
theorem at_0 (a : D) (r : List D) : L2.atI (a :: r) 0 = some a := by
  rw [show (0 : Int) = ((0 : Nat) : Int) from rfl, atI_nat]; rfl
theorem at_1 (a b : D) (r : List D) : L2.atI (a :: b :: r) 1 = some b := by
  rw [show (1 : Int) = ((1 : Nat) : Int) from rfl, atI_nat]; rfl
theorem at2 {a b : D} {r : Int} (h0 : 0 ≤ r) (h1 : r < 2) : ∃ d, d ∈ [a, b] ∧ L2.atI [a, b] r = some d := by
  have : r = 0 ∨ r = 1 := by omega
  rcases this with e | e
  · exact ⟨a, by simp, by rw [e]; exact at_0 _ _⟩
  · exact ⟨b, by simp, by rw [e]; exact at_1 _ _ _⟩
theorem pick2_ok (n m : Nat) (a b : D) (hd : Die S n) (hl : lstAt S m = some [a, b]) (hm : m ≠ n) (h : ∀ d T, d ∈ [a, b] → Rolled n S T → Q d T) : Wp (run ds (k + 2) 24 [.ref n, .ref m] S) Q := by
  refine wp_run (d := d24) rfl rfl ?_
  simp only [d24, we_c, we_v, we_bin, we_neg, we_cmp, we_chn, we_no, we_and, we_or, we_ife, we_tup, we_lst, we_ix, we_sl, we_bi, we_mt, we_call, we_lrg1, we_lrg2, we_lc, ws_nil, ws_cons, wo_nil, wo_cons, wt_nil, wt_cons, wi_rng1, wi_rng2, wi_rng3, wi_of, wi_int, wS_asgN, wS_asgT, wS_asgS, wS_par2, wS_par3, wS_aug, wS_ex, wS_ret, wS_retN, wS_iff, wS_pass, wS_brk, wS_cont, wS_never, wS_nil, wS_cons, wS_for, wS_whl, wF_nx, wF_rt, wF_bk, wF_ct, wv_some, wb_some, wc_some, wm_some, wz_bl, wE_some, wN_some, wo_some, wo_none, wo_ite, List.getElem?_cons_zero, List.getElem?_cons_succ, List.set_cons_zero, List.set_cons_succ, List.map_cons, List.map_nil, List.cons_append, List.nil_append, List.append_nil, List.replicate_succ, List.replicate_zero, List.length_cons, List.length_nil, Bop.f, Cop.f, Bi.f, Im.f, wl_some, wj_some, wa_some, wbs_some, add_ii, add_ss, add_rr, sub_ii, mul_ii, mul_si, div_ii, mod_ii, pow_ii, neg_i, eq_ii, ne_ii, eq_ss, ne_ss, lt_ii, le_ii, gt_ii, ge_ii, eq_bb, ne_bb, in_cs, tr_b, tr_i, ix_r, ix_t, ix_f, ix_s, sl_s, sl_r, set_r, len_s, len_r, len_f, len_t, abs_i, max_ii, min_ii, max_r, min_r, int_i, int_b, list_r, sum_r, all_r, isi_ii, isi_ib, isi_ss, aug_ii, aug_sub, sel_app, sel_index, sel_pop, sel_count, sel_join, app_r, count_s, wx_some, idx_r, wT_some, join_r, src_s, src_f, src_t, src_r, if_true, if_false, Bool.not_true, Bool.not_false, Bool.false_eq_true, hl]
  refine roll_ok n _ hd (by decide) (by decide) fun r T h0 h1 hr => ?_
  simp only [we_c, we_v, we_bin, we_neg, we_cmp, we_chn, we_no, we_and, we_or, we_ife, we_tup, we_lst, we_ix, we_sl, we_bi, we_mt, we_call, we_lrg1, we_lrg2, we_lc, ws_nil, ws_cons, wo_nil, wo_cons, wt_nil, wt_cons, wi_rng1, wi_rng2, wi_rng3, wi_of, wi_int, wS_asgN, wS_asgT, wS_asgS, wS_par2, wS_par3, wS_aug, wS_ex, wS_ret, wS_retN, wS_iff, wS_pass, wS_brk, wS_cont, wS_never, wS_nil, wS_cons, wS_for, wS_whl, wF_nx, wF_rt, wF_bk, wF_ct, wv_some, wb_some, wc_some, wm_some, wz_bl, wE_some, wN_some, wo_some, wo_none, wo_ite, List.getElem?_cons_zero, List.getElem?_cons_succ, List.set_cons_zero, List.set_cons_succ, List.map_cons, List.map_nil, List.cons_append, List.nil_append, List.append_nil, List.replicate_succ, List.replicate_zero, List.length_cons, List.length_nil, Bop.f, Cop.f, Bi.f, Im.f, wl_some, wj_some, wa_some, wbs_some, add_ii, add_ss, add_rr, sub_ii, mul_ii, mul_si, div_ii, mod_ii, pow_ii, neg_i, eq_ii, ne_ii, eq_ss, ne_ss, lt_ii, le_ii, gt_ii, ge_ii, eq_bb, ne_bb, in_cs, tr_b, tr_i, ix_r, ix_t, ix_f, ix_s, sl_s, sl_r, set_r, len_s, len_r, len_f, len_t, abs_i, max_ii, min_ii, max_r, min_r, int_i, int_b, list_r, sum_r, all_r, isi_ii, isi_ib, isi_ss, aug_ii, aug_sub, sel_app, sel_index, sel_pop, sel_count, sel_join, app_r, count_s, wx_some, idx_r, wT_some, join_r, src_s, src_f, src_t, src_r, if_true, if_false, Bool.not_true, Bool.not_false, Bool.false_eq_true, hr.lst hm hl]
  obtain ⟨d, hd1, hd2⟩ := at2 (a := a) (b := b) h0 (show r < 2 from h1)
  rw [hd2]
  exact h d T hd1 hr
theorem ru_low (p q : Nat) : Ru (lowR p q) := by
  intro c hc
  unfold lowR at hc
  obtain ⟨i, _, rfl⟩ := List.mem_map.mp hc
  unfold letter
  split
  · exact .inl rfl
  · exact .inr rfl
theorem low_length (p q : Nat) : (lowR p q).length = p + q := by unfold lowR; rw [List.length_map, List.length_range]
theorem add_tt (x y : List D) : WpO (fAdd (.tup x) (.tup y) S) Q = if x.length + y.length ≤ line then Q (.tup (x ++ y)) S else False := by
  show WpO (if x.length + y.length ≤ line then some (.tup (x ++ y), S) else none) Q = _
  rw [wo_ite]; rfl
theorem list_t (xs : List D) : WpO (fList [.tup xs] S) Q = Q (.ref S.length) (S ++ [.lst xs]) := rfl
theorem gr_new {n : Nat} {S T : Mem} (g : Gr n S T) (c : Cell) : Gr n S (T ++ [c]) := g.pre (List.prefix_append _ _)
theorem eq_t2 (a b : Int) : WpO (fEq (.tup [.int a, .int b]) (.tup [.int a, .int b]) S) Q = Q (.bl true) S := by
  have e : eqB S (.tup [.int a, .int b]) (.tup [.int a, .int b]) = some (PySem.PyData.eqv (.tuple [.int a, .int b]) (.tuple [.int a, .int b])) := rfl
  have e2 : PySem.PyData.eqv (.tuple [.int a, .int b]) (.tuple [.int a, .int b]) = (a == a && (b == b && true)) := rfl
  unfold fEq
  rw [e, e2]
  simp only [beq_self_eq_true, Bool.and_true]
  rfl
theorem lowOf_eq {w : List Nat} (h : 1 ≤ w.length) : lowOf w = lowR (w.count 114) (w.length - w.count 114) := low_eq (by have := List.count_le_length (a := 114) (l := w); omega)
end K85

set_option Elab.async false
set_option linter.all false
set_option maxRecDepth 100000
set_option maxHeartbeats 1000000
namespace K85
open Mi Lw
variable {k : Nat} {S : Mem} {Q : D → Mem → Prop}
/-! ### read from the end -/
theorem pick_map (cs : List Nat) (f : Nat → Nat) : ∀ (l : List Nat), (∀ i ∈ l, f i < cs.length) → (l.map f).filterMap (cs[·]?) = l.map fun i => cs.getD (f i) 0
  | [], _ => rfl
  | i :: l, h => by
    have hi := h i List.mem_cons_self
    rw [List.map_cons, List.filterMap_cons, List.getElem?_eq_getElem hi, pick_map cs f l fun j hj => h j (List.mem_cons_of_mem _ hj), List.map_cons]
    show cs[f i] :: _ = _
    rw [List.getD_eq_getElem?_getD, List.getElem?_eq_getElem hi]
    rfl
theorem pickR_all (cs : List Nat) : pickR cs none none = cs.reverse := by
  unfold pickR
  have e : PySem.Builtin.Str.strSliceIndices none none (-1) cs.length = (List.range cs.length).map fun i => cs.length - 1 - i := PySem.W.krv_sliceRange cs.length
  rw [e, pick_map cs _ _ fun i hi => by have := List.mem_range.mp hi; omega]
  apply List.ext_getElem?
  intro i
  by_cases c : i < cs.length
  · rw [List.getElem?_map, List.getElem?_range c, List.getElem?_reverse c]
    show some (cs.getD (cs.length - 1 - i) 0) = _
    rw [List.getD_eq_getElem?_getD, List.getElem?_eq_getElem (by omega)]
    rfl
  · rw [List.getElem?_eq_none (by rw [List.length_map, List.length_range]; omega), List.getElem?_eq_none (by rw [List.length_reverse]; omega)]
theorem pickR_core {cs : List Nat} (h : 2 ≤ cs.length) : pickR cs (some (-2)) (some 0) = ((cs.drop 1).take (cs.length - 2)).reverse := by
  unfold pickR
  have e : PySem.Builtin.Str.strSliceIndices (some (-2)) (some 0) (-1) cs.length = (List.range (cs.length - 2)).map fun i => cs.length - 2 - i := by
    show PySem.sliceRange (max (-1) (min (-2 + (cs.length : Int)) ((cs.length : Int) - 1))) (max (-1) (min (0 : Int) ((cs.length : Int) - 1))) (-1) = _
    rw [show max (-1) (min (-2 + (cs.length : Int)) ((cs.length : Int) - 1)) = (cs.length : Int) - 2 by omega, show max (-1) (min (0 : Int) ((cs.length : Int) - 1)) = 0 by omega]
    unfold PySem.sliceRange
    rw [if_neg (by decide)]
    by_cases c : (cs.length : Int) - 2 > 0
    · rw [if_pos c, show ((cs.length : Int) - 2 - 0 - -1 - 1) / (- -1) = ((cs.length - 2 : Nat) : Int) by rw [show (- -1 : Int) = 1 by decide, Int.ediv_one]; omega]
      show List.map (fun k : Nat => ((cs.length : Int) - 2 + -1 * (k : Int)).toNat) (List.range ((cs.length - 2 : Nat) : Int).toNat) = _
      rw [Int.toNat_natCast]
      apply List.map_congr_left
      intro i hi
      have := List.mem_range.mp hi
      omega
    · rw [if_neg c, show cs.length - 2 = 0 by omega]; rfl
  rw [e, pick_map cs _ _ fun i hi => by have := List.mem_range.mp hi; omega]
  apply List.ext_getElem?
  intro i
  have hl : ((cs.drop 1).take (cs.length - 2)).length = cs.length - 2 := by rw [List.length_take, List.length_drop]; omega
  by_cases c : i < cs.length - 2
  · rw [List.getElem?_map, List.getElem?_range c, List.getElem?_reverse (by omega), hl, List.getElem?_take_of_lt (by omega), List.getElem?_drop]
    show some (cs.getD (cs.length - 2 - i) 0) = _
    rw [List.getD_eq_getElem?_getD, show 1 + (cs.length - 2 - 1 - i) = cs.length - 2 - i by omega, List.getElem?_eq_getElem (by omega)]
    rfl
  · rw [List.getElem?_eq_none (by rw [List.length_map, List.length_range]; omega), List.getElem?_eq_none (by rw [List.length_reverse]; omega)]
theorem cut_core (cs : List Nat) : cutL cs (some 1) (some (-1)) = (cs.drop 1).take (cs.length - 2) := by
  unfold cutL
  have e1 : HT.sIx cs.length 0 (some 1) = min 1 cs.length := HT.sIx_nat _ _ 1
  have e2 : HT.sIx cs.length cs.length (some (-1)) = cs.length - 1 := by
    show (if (-1 : Int) < 0 then (-1 + (cs.length : Int)).toNat else min (-1 : Int).toNat cs.length) = _
    rw [if_pos (by decide)]
    omega
  rw [e1, e2]
  by_cases h : 1 ≤ cs.length
  · rw [Nat.min_eq_left h, show cs.length - 1 - 1 = cs.length - 2 by omega]
  · have : cs = [] := List.eq_nil_of_length_eq_zero (by omega)
    subst this; rfl
/-- a word's core reads the same from its end -/
theorem core_back {p q : Nat} (hg : Nat.gcd p q = 1) (h : 2 ≤ p + q) : (((lowR p q).drop 1).take ((lowR p q).length - 2)).reverse = ((lowR p q).drop 1).take ((lowR p q).length - 2) := by
  have hl := lowR_len p q
  apply List.ext_getElem?
  intro i
  have hl2 : (((lowR p q).drop 1).take ((lowR p q).length - 2)).length = p + q - 2 := by rw [List.length_take, List.length_drop, hl]; omega
  by_cases c : i < p + q - 2
  · rw [List.getElem?_reverse (by omega), hl2, List.getElem?_take_of_lt (by omega), List.getElem?_take_of_lt (by omega), List.getElem?_drop, List.getElem?_drop, lowR_get (by omega), lowR_get (by omega)]
    have := letter_back hg (show 1 ≤ 1 + i by omega) (show 1 + i + 2 ≤ p + q by omega)
    rw [← this]
    congr 2
    omega
  · rw [List.getElem?_eq_none (by rw [List.length_reverse]; omega), List.getElem?_eq_none (by omega)]
/-! ### checks -/
theorem require_slope_ok (p q : Nat) (hg : Nat.gcd p q = 1) (hn : p + q ≤ 2000) (h : Q .non S) : Wp (run ds (k + 2) 10 [.int p, .int q] S) Q := by
  refine wp_run (d := d10) rfl rfl ?_
  simp only [d10, we_c, we_v, we_bin, we_neg, we_cmp, we_chn, we_no, we_and, we_or, we_ife, we_tup, we_lst, we_ix, we_sl, we_bi, we_mt, we_call, we_lrg1, we_lrg2, we_lc, we_rv, we_rpl, ws_nil, ws_cons, wo_nil, wo_cons, wt_nil, wt_cons, wi_rng1, wi_rng2, wi_rng3, wi_of, wi_int, wS_asgN, wS_asgT, wS_asgS, wS_par2, wS_par3, wS_aug, wS_ex, wS_ret, wS_retN, wS_iff, wS_pass, wS_brk, wS_cont, wS_never, wS_nil, wS_cons, wS_for, wS_whl, wF_nx, wF_rt, wF_bk, wF_ct, wv_some, wb_some, wc_some, wm_some, wz_bl, wE_some, wN_some, wo_some, wo_none, wo_ite, List.getElem?_cons_zero, List.getElem?_cons_succ, List.set_cons_zero, List.set_cons_succ, List.map_cons, List.map_nil, List.cons_append, List.nil_append, List.append_nil, List.replicate_succ, List.replicate_zero, List.length_cons, List.length_nil, Bop.f, Cop.f, Bi.f, Im.f, wl_some, wj_some, wa_some, wbs_some, add_ii, add_ss, add_rr, sub_ii, mul_ii, mul_si, div_ii, mod_ii, pow_ii, neg_i, eq_ii, ne_ii, eq_ss, ne_ss, lt_ii, le_ii, gt_ii, ge_ii, eq_bb, ne_bb, in_cs, tr_b, tr_i, ix_r, ix_t, ix_f, ix_s, sl_s, sl_r, set_r, len_s, len_r, len_f, len_t, abs_i, max_ii, min_ii, max_r, min_r, int_i, int_b, list_r, sum_r, all_r, isi_ii, isi_ib, isi_ss, aug_ii, aug_sub, sel_app, sel_index, sel_pop, sel_count, sel_join, app_r, count_s, wx_some, idx_r, wT_some, join_r, src_s, src_f, src_t, src_r, if_true, if_false, Bool.not_true, Bool.not_false, Bool.false_eq_true]
  refine ⟨line_of (by decide), ?_⟩
  refine wp_turns [D.int p, D.int q] (fun i e U => U = S ∧ ∃ x, e = [some (.int p), some (.int q), x]) (fun _ _ _ _ => rfl) (fun i d e U hx ⟨hU, x, he⟩ => ?_) (fun e U ⟨hU, x, he⟩ => ?_) fuel 0 _ _ (by show 2 < 1000000000; decide) (Nat.zero_le _) ⟨rfl, _, rfl⟩
  · subst hU he
    obtain ⟨v, rfl, hv⟩ : ∃ v : Nat, d = .int v ∧ v ≤ 2000 := by
      have := List.mem_of_getElem? hx
      rcases List.mem_cons.mp this with e | e
      · exact ⟨p, e, by omega⟩
      · exact ⟨q, List.mem_singleton.mp e, by omega⟩
    simp only [setT, we_c, we_v, we_bin, we_neg, we_cmp, we_chn, we_no, we_and, we_or, we_ife, we_tup, we_lst, we_ix, we_sl, we_bi, we_mt, we_call, we_lrg1, we_lrg2, we_lc, we_rv, we_rpl, ws_nil, ws_cons, wo_nil, wo_cons, wt_nil, wt_cons, wi_rng1, wi_rng2, wi_rng3, wi_of, wi_int, wS_asgN, wS_asgT, wS_asgS, wS_par2, wS_par3, wS_aug, wS_ex, wS_ret, wS_retN, wS_iff, wS_pass, wS_brk, wS_cont, wS_never, wS_nil, wS_cons, wS_for, wS_whl, wF_nx, wF_rt, wF_bk, wF_ct, wv_some, wb_some, wc_some, wm_some, wz_bl, wE_some, wN_some, wo_some, wo_none, wo_ite, List.getElem?_cons_zero, List.getElem?_cons_succ, List.set_cons_zero, List.set_cons_succ, List.map_cons, List.map_nil, List.cons_append, List.nil_append, List.append_nil, List.replicate_succ, List.replicate_zero, List.length_cons, List.length_nil, Bop.f, Cop.f, Bi.f, Im.f, wl_some, wj_some, wa_some, wbs_some, add_ii, add_ss, add_rr, sub_ii, mul_ii, mul_si, div_ii, mod_ii, pow_ii, neg_i, eq_ii, ne_ii, eq_ss, ne_ss, lt_ii, le_ii, gt_ii, ge_ii, eq_bb, ne_bb, in_cs, tr_b, tr_i, ix_r, ix_t, ix_f, ix_s, sl_s, sl_r, set_r, len_s, len_r, len_f, len_t, abs_i, max_ii, min_ii, max_r, min_r, int_i, int_b, list_r, sum_r, all_r, isi_ii, isi_ib, isi_ss, aug_ii, aug_sub, sel_app, sel_index, sel_pop, sel_count, sel_join, app_r, count_s, wx_some, idx_r, wT_some, join_r, src_s, src_f, src_t, src_r, if_true, if_false, Bool.not_true, Bool.not_false, Bool.false_eq_true]
    refine is_index_ok _ _ ?_
    rw [decide_eq_true (by omega)]
    simp only [we_c, we_v, we_bin, we_neg, we_cmp, we_chn, we_no, we_and, we_or, we_ife, we_tup, we_lst, we_ix, we_sl, we_bi, we_mt, we_call, we_lrg1, we_lrg2, we_lc, we_rv, we_rpl, ws_nil, ws_cons, wo_nil, wo_cons, wt_nil, wt_cons, wi_rng1, wi_rng2, wi_rng3, wi_of, wi_int, wS_asgN, wS_asgT, wS_asgS, wS_par2, wS_par3, wS_aug, wS_ex, wS_ret, wS_retN, wS_iff, wS_pass, wS_brk, wS_cont, wS_never, wS_nil, wS_cons, wS_for, wS_whl, wF_nx, wF_rt, wF_bk, wF_ct, wv_some, wb_some, wc_some, wm_some, wz_bl, wE_some, wN_some, wo_some, wo_none, wo_ite, List.getElem?_cons_zero, List.getElem?_cons_succ, List.set_cons_zero, List.set_cons_succ, List.map_cons, List.map_nil, List.cons_append, List.nil_append, List.append_nil, List.replicate_succ, List.replicate_zero, List.length_cons, List.length_nil, Bop.f, Cop.f, Bi.f, Im.f, wl_some, wj_some, wa_some, wbs_some, add_ii, add_ss, add_rr, sub_ii, mul_ii, mul_si, div_ii, mod_ii, pow_ii, neg_i, eq_ii, ne_ii, eq_ss, ne_ss, lt_ii, le_ii, gt_ii, ge_ii, eq_bb, ne_bb, in_cs, tr_b, tr_i, ix_r, ix_t, ix_f, ix_s, sl_s, sl_r, set_r, len_s, len_r, len_f, len_t, abs_i, max_ii, min_ii, max_r, min_r, int_i, int_b, list_r, sum_r, all_r, isi_ii, isi_ib, isi_ss, aug_ii, aug_sub, sel_app, sel_index, sel_pop, sel_count, sel_join, app_r, count_s, wx_some, idx_r, wT_some, join_r, src_s, src_f, src_t, src_r, if_true, if_false, Bool.not_true, Bool.not_false, Bool.false_eq_true]
    exact ⟨trivial, _, rfl⟩
  · subst hU he
    simp only [we_c, we_v, we_bin, we_neg, we_cmp, we_chn, we_no, we_and, we_or, we_ife, we_tup, we_lst, we_ix, we_sl, we_bi, we_mt, we_call, we_lrg1, we_lrg2, we_lc, we_rv, we_rpl, ws_nil, ws_cons, wo_nil, wo_cons, wt_nil, wt_cons, wi_rng1, wi_rng2, wi_rng3, wi_of, wi_int, wS_asgN, wS_asgT, wS_asgS, wS_par2, wS_par3, wS_aug, wS_ex, wS_ret, wS_retN, wS_iff, wS_pass, wS_brk, wS_cont, wS_never, wS_nil, wS_cons, wS_for, wS_whl, wF_nx, wF_rt, wF_bk, wF_ct, wv_some, wb_some, wc_some, wm_some, wz_bl, wE_some, wN_some, wo_some, wo_none, wo_ite, List.getElem?_cons_zero, List.getElem?_cons_succ, List.set_cons_zero, List.set_cons_succ, List.map_cons, List.map_nil, List.cons_append, List.nil_append, List.append_nil, List.replicate_succ, List.replicate_zero, List.length_cons, List.length_nil, Bop.f, Cop.f, Bi.f, Im.f, wl_some, wj_some, wa_some, wbs_some, add_ii, add_ss, add_rr, sub_ii, mul_ii, mul_si, div_ii, mod_ii, pow_ii, neg_i, eq_ii, ne_ii, eq_ss, ne_ss, lt_ii, le_ii, gt_ii, ge_ii, eq_bb, ne_bb, in_cs, tr_b, tr_i, ix_r, ix_t, ix_f, ix_s, sl_s, sl_r, set_r, len_s, len_r, len_f, len_t, abs_i, max_ii, min_ii, max_r, min_r, int_i, int_b, list_r, sum_r, all_r, isi_ii, isi_ib, isi_ss, aug_ii, aug_sub, sel_app, sel_index, sel_pop, sel_count, sel_join, app_r, count_s, wx_some, idx_r, wT_some, join_r, src_s, src_f, src_t, src_r, if_true, if_false, Bool.not_true, Bool.not_false, Bool.false_eq_true]
    refine share_ok p q (by omega) ?_
    rw [hg]
    simp only [we_c, we_v, we_bin, we_neg, we_cmp, we_chn, we_no, we_and, we_or, we_ife, we_tup, we_lst, we_ix, we_sl, we_bi, we_mt, we_call, we_lrg1, we_lrg2, we_lc, we_rv, we_rpl, ws_nil, ws_cons, wo_nil, wo_cons, wt_nil, wt_cons, wi_rng1, wi_rng2, wi_rng3, wi_of, wi_int, wS_asgN, wS_asgT, wS_asgS, wS_par2, wS_par3, wS_aug, wS_ex, wS_ret, wS_retN, wS_iff, wS_pass, wS_brk, wS_cont, wS_never, wS_nil, wS_cons, wS_for, wS_whl, wF_nx, wF_rt, wF_bk, wF_ct, wv_some, wb_some, wc_some, wm_some, wz_bl, wE_some, wN_some, wo_some, wo_none, wo_ite, List.getElem?_cons_zero, List.getElem?_cons_succ, List.set_cons_zero, List.set_cons_succ, List.map_cons, List.map_nil, List.cons_append, List.nil_append, List.append_nil, List.replicate_succ, List.replicate_zero, List.length_cons, List.length_nil, Bop.f, Cop.f, Bi.f, Im.f, wl_some, wj_some, wa_some, wbs_some, add_ii, add_ss, add_rr, sub_ii, mul_ii, mul_si, div_ii, mod_ii, pow_ii, neg_i, eq_ii, ne_ii, eq_ss, ne_ss, lt_ii, le_ii, gt_ii, ge_ii, eq_bb, ne_bb, in_cs, tr_b, tr_i, ix_r, ix_t, ix_f, ix_s, sl_s, sl_r, set_r, len_s, len_r, len_f, len_t, abs_i, max_ii, min_ii, max_r, min_r, int_i, int_b, list_r, sum_r, all_r, isi_ii, isi_ib, isi_ss, aug_ii, aug_sub, sel_app, sel_index, sel_pop, sel_count, sel_join, app_r, count_s, wx_some, idx_r, wT_some, join_r, src_s, src_f, src_t, src_r, if_true, if_false, Bool.not_true, Bool.not_false, Bool.false_eq_true]
    rw [if_neg (by decide), if_neg (by rw [decide_eq_true_eq]; omega)]
    exact h
theorem require_wide_ok (p q : Nat) (hg : Nat.gcd p q = 1) (hn : p + q ≤ 2000) (hp : 1 ≤ p) (hq : 1 ≤ q) (h : Q .non S) : Wp (run ds (k + 3) 11 [.int p, .int q] S) Q := by
  refine wp_run (d := d11) rfl rfl ?_
  simp only [d11, we_c, we_v, we_bin, we_neg, we_cmp, we_chn, we_no, we_and, we_or, we_ife, we_tup, we_lst, we_ix, we_sl, we_bi, we_mt, we_call, we_lrg1, we_lrg2, we_lc, we_rv, we_rpl, ws_nil, ws_cons, wo_nil, wo_cons, wt_nil, wt_cons, wi_rng1, wi_rng2, wi_rng3, wi_of, wi_int, wS_asgN, wS_asgT, wS_asgS, wS_par2, wS_par3, wS_aug, wS_ex, wS_ret, wS_retN, wS_iff, wS_pass, wS_brk, wS_cont, wS_never, wS_nil, wS_cons, wS_for, wS_whl, wF_nx, wF_rt, wF_bk, wF_ct, wv_some, wb_some, wc_some, wm_some, wz_bl, wE_some, wN_some, wo_some, wo_none, wo_ite, List.getElem?_cons_zero, List.getElem?_cons_succ, List.set_cons_zero, List.set_cons_succ, List.map_cons, List.map_nil, List.cons_append, List.nil_append, List.append_nil, List.replicate_succ, List.replicate_zero, List.length_cons, List.length_nil, Bop.f, Cop.f, Bi.f, Im.f, wl_some, wj_some, wa_some, wbs_some, add_ii, add_ss, add_rr, sub_ii, mul_ii, mul_si, div_ii, mod_ii, pow_ii, neg_i, eq_ii, ne_ii, eq_ss, ne_ss, lt_ii, le_ii, gt_ii, ge_ii, eq_bb, ne_bb, in_cs, tr_b, tr_i, ix_r, ix_t, ix_f, ix_s, sl_s, sl_r, set_r, len_s, len_r, len_f, len_t, abs_i, max_ii, min_ii, max_r, min_r, int_i, int_b, list_r, sum_r, all_r, isi_ii, isi_ib, isi_ss, aug_ii, aug_sub, sel_app, sel_index, sel_pop, sel_count, sel_join, app_r, count_s, wx_some, idx_r, wT_some, join_r, src_s, src_f, src_t, src_r, if_true, if_false, Bool.not_true, Bool.not_false, Bool.false_eq_true]
  refine require_slope_ok p q hg hn ?_
  rw [if_neg (by rw [decide_eq_true_eq]; omega), if_neg (by rw [decide_eq_true_eq]; omega)]
  exact h
theorem require_path_ok (cs : List Nat) (h2 : cs.length ≤ 500) (hc : ∀ c ∈ cs, c = 116 ∨ c = 115) (h : ∀ T, S <+: T → Q .non T) : Wp (run ds (k + 1) 12 [.str cs] S) Q := by
  refine wp_run (d := d12) rfl rfl ?_
  simp only [d12, we_c, we_v, we_bin, we_neg, we_cmp, we_chn, we_no, we_and, we_or, we_ife, we_tup, we_lst, we_ix, we_sl, we_bi, we_mt, we_call, we_lrg1, we_lrg2, we_lc, we_rv, we_rpl, ws_nil, ws_cons, wo_nil, wo_cons, wt_nil, wt_cons, wi_rng1, wi_rng2, wi_rng3, wi_of, wi_int, wS_asgN, wS_asgT, wS_asgS, wS_par2, wS_par3, wS_aug, wS_ex, wS_ret, wS_retN, wS_iff, wS_pass, wS_brk, wS_cont, wS_never, wS_nil, wS_cons, wS_for, wS_whl, wF_nx, wF_rt, wF_bk, wF_ct, wv_some, wb_some, wc_some, wm_some, wz_bl, wE_some, wN_some, wo_some, wo_none, wo_ite, List.getElem?_cons_zero, List.getElem?_cons_succ, List.set_cons_zero, List.set_cons_succ, List.map_cons, List.map_nil, List.cons_append, List.nil_append, List.append_nil, List.replicate_succ, List.replicate_zero, List.length_cons, List.length_nil, Bop.f, Cop.f, Bi.f, Im.f, wl_some, wj_some, wa_some, wbs_some, add_ii, add_ss, add_rr, sub_ii, mul_ii, mul_si, div_ii, mod_ii, pow_ii, neg_i, eq_ii, ne_ii, eq_ss, ne_ss, lt_ii, le_ii, gt_ii, ge_ii, eq_bb, ne_bb, in_cs, tr_b, tr_i, ix_r, ix_t, ix_f, ix_s, sl_s, sl_r, set_r, len_s, len_r, len_f, len_t, abs_i, max_ii, min_ii, max_r, min_r, int_i, int_b, list_r, sum_r, all_r, isi_ii, isi_ib, isi_ss, aug_ii, aug_sub, sel_app, sel_index, sel_pop, sel_count, sel_join, app_r, count_s, wx_some, idx_r, wT_some, join_r, src_s, src_f, src_t, src_r, if_true, if_false, Bool.not_true, Bool.not_false, Bool.false_eq_true, decide_eq_true_eq]
  rw [if_pos (line_of (by omega)), if_neg (by omega)]
  refine wp_map (fun _ => D.bl true) (at_items _ _) (by rw [List.length_map]; exact line_of (by omega)) (fun d T hd hp => ?_) (fun T hp hl => ?_)
  · obtain ⟨c, h3, rfl⟩ := mem_str hd
    simp only [setT, wipeE, we_c, we_v, we_bin, we_neg, we_cmp, we_chn, we_no, we_and, we_or, we_ife, we_tup, we_lst, we_ix, we_sl, we_bi, we_mt, we_call, we_lrg1, we_lrg2, we_lc, we_rv, we_rpl, ws_nil, ws_cons, wo_nil, wo_cons, wt_nil, wt_cons, wi_rng1, wi_rng2, wi_rng3, wi_of, wi_int, wS_asgN, wS_asgT, wS_asgS, wS_par2, wS_par3, wS_aug, wS_ex, wS_ret, wS_retN, wS_iff, wS_pass, wS_brk, wS_cont, wS_never, wS_nil, wS_cons, wS_for, wS_whl, wF_nx, wF_rt, wF_bk, wF_ct, wv_some, wb_some, wc_some, wm_some, wz_bl, wE_some, wN_some, wo_some, wo_none, wo_ite, List.getElem?_cons_zero, List.getElem?_cons_succ, List.set_cons_zero, List.set_cons_succ, List.map_cons, List.map_nil, List.cons_append, List.nil_append, List.append_nil, List.replicate_succ, List.replicate_zero, List.length_cons, List.length_nil, Bop.f, Cop.f, Bi.f, Im.f, wl_some, wj_some, wa_some, wbs_some, add_ii, add_ss, add_rr, sub_ii, mul_ii, mul_si, div_ii, mod_ii, pow_ii, neg_i, eq_ii, ne_ii, eq_ss, ne_ss, lt_ii, le_ii, gt_ii, ge_ii, eq_bb, ne_bb, in_cs, tr_b, tr_i, ix_r, ix_t, ix_f, ix_s, sl_s, sl_r, set_r, len_s, len_r, len_f, len_t, abs_i, max_ii, min_ii, max_r, min_r, int_i, int_b, list_r, sum_r, all_r, isi_ii, isi_ib, isi_ss, aug_ii, aug_sub, sel_app, sel_index, sel_pop, sel_count, sel_join, app_r, count_s, wx_some, idx_r, wT_some, join_r, src_s, src_f, src_t, src_r, if_true, if_false, Bool.not_true, Bool.not_false, Bool.false_eq_true, decide_eq_true_eq]
    exact ⟨by rw [decide_eq_true (by rcases hc c h3 with e | e <;> simp [e])], List.prefix_refl _⟩
  · simp only [hl, we_c, we_v, we_bin, we_neg, we_cmp, we_chn, we_no, we_and, we_or, we_ife, we_tup, we_lst, we_ix, we_sl, we_bi, we_mt, we_call, we_lrg1, we_lrg2, we_lc, we_rv, we_rpl, ws_nil, ws_cons, wo_nil, wo_cons, wt_nil, wt_cons, wi_rng1, wi_rng2, wi_rng3, wi_of, wi_int, wS_asgN, wS_asgT, wS_asgS, wS_par2, wS_par3, wS_aug, wS_ex, wS_ret, wS_retN, wS_iff, wS_pass, wS_brk, wS_cont, wS_never, wS_nil, wS_cons, wS_for, wS_whl, wF_nx, wF_rt, wF_bk, wF_ct, wv_some, wb_some, wc_some, wm_some, wz_bl, wE_some, wN_some, wo_some, wo_none, wo_ite, List.getElem?_cons_zero, List.getElem?_cons_succ, List.set_cons_zero, List.set_cons_succ, List.map_cons, List.map_nil, List.cons_append, List.nil_append, List.append_nil, List.replicate_succ, List.replicate_zero, List.length_cons, List.length_nil, Bop.f, Cop.f, Bi.f, Im.f, wl_some, wj_some, wa_some, wbs_some, add_ii, add_ss, add_rr, sub_ii, mul_ii, mul_si, div_ii, mod_ii, pow_ii, neg_i, eq_ii, ne_ii, eq_ss, ne_ss, lt_ii, le_ii, gt_ii, ge_ii, eq_bb, ne_bb, in_cs, tr_b, tr_i, ix_r, ix_t, ix_f, ix_s, sl_s, sl_r, set_r, len_s, len_r, len_f, len_t, abs_i, max_ii, min_ii, max_r, min_r, int_i, int_b, list_r, sum_r, all_r, isi_ii, isi_ib, isi_ss, aug_ii, aug_sub, sel_app, sel_index, sel_pop, sel_count, sel_join, app_r, count_s, wx_some, idx_r, wT_some, join_r, src_s, src_f, src_t, src_r, if_true, if_false, Bool.not_true, Bool.not_false, Bool.false_eq_true]
    rw [bools_all fun _ _ => rfl]
    simp only [we_c, we_v, we_bin, we_neg, we_cmp, we_chn, we_no, we_and, we_or, we_ife, we_tup, we_lst, we_ix, we_sl, we_bi, we_mt, we_call, we_lrg1, we_lrg2, we_lc, we_rv, we_rpl, ws_nil, ws_cons, wo_nil, wo_cons, wt_nil, wt_cons, wi_rng1, wi_rng2, wi_rng3, wi_of, wi_int, wS_asgN, wS_asgT, wS_asgS, wS_par2, wS_par3, wS_aug, wS_ex, wS_ret, wS_retN, wS_iff, wS_pass, wS_brk, wS_cont, wS_never, wS_nil, wS_cons, wS_for, wS_whl, wF_nx, wF_rt, wF_bk, wF_ct, wv_some, wb_some, wc_some, wm_some, wz_bl, wE_some, wN_some, wo_some, wo_none, wo_ite, List.getElem?_cons_zero, List.getElem?_cons_succ, List.set_cons_zero, List.set_cons_succ, List.map_cons, List.map_nil, List.cons_append, List.nil_append, List.append_nil, List.replicate_succ, List.replicate_zero, List.length_cons, List.length_nil, Bop.f, Cop.f, Bi.f, Im.f, wl_some, wj_some, wa_some, wbs_some, add_ii, add_ss, add_rr, sub_ii, mul_ii, mul_si, div_ii, mod_ii, pow_ii, neg_i, eq_ii, ne_ii, eq_ss, ne_ss, lt_ii, le_ii, gt_ii, ge_ii, eq_bb, ne_bb, in_cs, tr_b, tr_i, ix_r, ix_t, ix_f, ix_s, sl_s, sl_r, set_r, len_s, len_r, len_f, len_t, abs_i, max_ii, min_ii, max_r, min_r, int_i, int_b, list_r, sum_r, all_r, isi_ii, isi_ib, isi_ss, aug_ii, aug_sub, sel_app, sel_index, sel_pop, sel_count, sel_join, app_r, count_s, wx_some, idx_r, wT_some, join_r, src_s, src_f, src_t, src_r, if_true, if_false, Bool.not_true, Bool.not_false, Bool.false_eq_true, all_true]
    exact h T hp
theorem low_word_ok (p q : Nat) (hg : Nat.gcd p q = 1) (hn : p + q ≤ 2000) (h : ∀ T, S <+: T → Q (.str (lowR p q)) T) : Wp (run ds (k + 3) 13 [.int p, .int q] S) Q := by
  refine wp_run (d := d13) rfl rfl ?_
  simp only [d13, we_c, we_v, we_bin, we_neg, we_cmp, we_chn, we_no, we_and, we_or, we_ife, we_tup, we_lst, we_ix, we_sl, we_bi, we_mt, we_call, we_lrg1, we_lrg2, we_lc, we_rv, we_rpl, ws_nil, ws_cons, wo_nil, wo_cons, wt_nil, wt_cons, wi_rng1, wi_rng2, wi_rng3, wi_of, wi_int, wS_asgN, wS_asgT, wS_asgS, wS_par2, wS_par3, wS_aug, wS_ex, wS_ret, wS_retN, wS_iff, wS_pass, wS_brk, wS_cont, wS_never, wS_nil, wS_cons, wS_for, wS_whl, wF_nx, wF_rt, wF_bk, wF_ct, wv_some, wb_some, wc_some, wm_some, wz_bl, wE_some, wN_some, wo_some, wo_none, wo_ite, List.getElem?_cons_zero, List.getElem?_cons_succ, List.set_cons_zero, List.set_cons_succ, List.map_cons, List.map_nil, List.cons_append, List.nil_append, List.append_nil, List.replicate_succ, List.replicate_zero, List.length_cons, List.length_nil, Bop.f, Cop.f, Bi.f, Im.f, wl_some, wj_some, wa_some, wbs_some, add_ii, add_ss, add_rr, sub_ii, mul_ii, mul_si, div_ii, mod_ii, pow_ii, neg_i, eq_ii, ne_ii, eq_ss, ne_ss, lt_ii, le_ii, gt_ii, ge_ii, eq_bb, ne_bb, in_cs, tr_b, tr_i, ix_r, ix_t, ix_f, ix_s, sl_s, sl_r, set_r, len_s, len_r, len_f, len_t, abs_i, max_ii, min_ii, max_r, min_r, int_i, int_b, list_r, sum_r, all_r, isi_ii, isi_ib, isi_ss, aug_ii, aug_sub, sel_app, sel_index, sel_pop, sel_count, sel_join, app_r, count_s, wx_some, idx_r, wT_some, join_r, src_s, src_f, src_t, src_r, if_true, if_false, Bool.not_true, Bool.not_false, Bool.false_eq_true]
  refine require_slope_ok p q hg hn ?_
  exact low_in_ok p q (by omega) h
theorem rv_s (cs : List Nat) (lo hi : Option Int) : WpO (fRv lo hi (.str cs) S) Q = if (pickR cs lo hi).length ≤ line then Q (.str (pickR cs lo hi)) S else False := by
  show WpO (if (pickR cs lo hi).length ≤ line then some (.str (pickR cs lo hi), S) else none) Q = _
  rw [wo_ite]; rfl
theorem rv_r (n : Nat) : WpO (fRv none none (.ref n) S) Q = WpL (lstAt S n) fun xs => Q (.ref S.length) (S ++ [.lst xs.reverse]) := by
  show WpO (match (none : Option Int), (none : Option Int), lstAt S n with
    | none, none, some xs => some (.ref S.length, S ++ [.lst xs.reverse])
    | _, _, _ => none) Q = _
  cases lstAt S n <;> rfl
theorem high_word_ok (p q : Nat) (hg : Nat.gcd p q = 1) (hn : p + q ≤ 2000) (h : ∀ T, S <+: T → Q (.str (lowR p q).reverse) T) : Wp (run ds (k + 3) 14 [.int p, .int q] S) Q := by
  refine wp_run (d := d14) rfl rfl ?_
  simp only [d14, we_c, we_v, we_bin, we_neg, we_cmp, we_chn, we_no, we_and, we_or, we_ife, we_tup, we_lst, we_ix, we_sl, we_bi, we_mt, we_call, we_lrg1, we_lrg2, we_lc, we_rv, we_rpl, ws_nil, ws_cons, wo_nil, wo_cons, wt_nil, wt_cons, wi_rng1, wi_rng2, wi_rng3, wi_of, wi_int, wS_asgN, wS_asgT, wS_asgS, wS_par2, wS_par3, wS_aug, wS_ex, wS_ret, wS_retN, wS_iff, wS_pass, wS_brk, wS_cont, wS_never, wS_nil, wS_cons, wS_for, wS_whl, wF_nx, wF_rt, wF_bk, wF_ct, wv_some, wb_some, wc_some, wm_some, wz_bl, wE_some, wN_some, wo_some, wo_none, wo_ite, List.getElem?_cons_zero, List.getElem?_cons_succ, List.set_cons_zero, List.set_cons_succ, List.map_cons, List.map_nil, List.cons_append, List.nil_append, List.append_nil, List.replicate_succ, List.replicate_zero, List.length_cons, List.length_nil, Bop.f, Cop.f, Bi.f, Im.f, wl_some, wj_some, wa_some, wbs_some, add_ii, add_ss, add_rr, sub_ii, mul_ii, mul_si, div_ii, mod_ii, pow_ii, neg_i, eq_ii, ne_ii, eq_ss, ne_ss, lt_ii, le_ii, gt_ii, ge_ii, eq_bb, ne_bb, in_cs, tr_b, tr_i, ix_r, ix_t, ix_f, ix_s, sl_s, sl_r, set_r, len_s, len_r, len_f, len_t, abs_i, max_ii, min_ii, max_r, min_r, int_i, int_b, list_r, sum_r, all_r, isi_ii, isi_ib, isi_ss, aug_ii, aug_sub, sel_app, sel_index, sel_pop, sel_count, sel_join, app_r, count_s, wx_some, idx_r, wT_some, join_r, src_s, src_f, src_t, src_r, if_true, if_false, Bool.not_true, Bool.not_false, Bool.false_eq_true]
  refine require_slope_ok p q hg hn ?_
  refine low_in_ok p q (by omega) fun T hp => ?_
  rw [rv_s, pickR_all, if_pos (by rw [List.length_reverse, lowR_len]; exact line_of (by omega))]
  exact h T hp
theorem first_low {p q : Nat} (hg : Nat.gcd p q = 1) (h : 0 < p + q) : firstO (lowR p q) = some 0 := by
  have e := low_counts h
  rw [low_eq h] at e
  unfold firstO
  rw [lowR_len, e.1, show p + q - p = q by omega, if_pos hg]
  rw [List.find?_range_eq_some]
  refine ⟨decide_eq_true ?_, List.mem_range.mpr h, fun j hj => by omega⟩
  rw [List.drop_zero, List.take_append_of_le_length (by rw [lowR_len]; exact Nat.le_refl _), List.take_of_length_le (by rw [lowR_len]; exact Nat.le_refl _)]
/-! ### halves, core -/
theorem core_ok (p q : Nat) (hg : Nat.gcd p q = 1) (hn : p + q ≤ 2000) (hp : 1 ≤ p) (hq : 1 ≤ q) (h : ∀ T, S <+: T → Q (.str (((lowR p q).drop 1).take ((lowR p q).length - 2))) T) : Wp (run ds (k + 4) 18 [.int p, .int q] S) Q := by
  refine wp_run (d := d18) rfl rfl ?_
  simp only [d18, we_c, we_v, we_bin, we_neg, we_cmp, we_chn, we_no, we_and, we_or, we_ife, we_tup, we_lst, we_ix, we_sl, we_bi, we_mt, we_call, we_lrg1, we_lrg2, we_lc, we_rv, we_rpl, ws_nil, ws_cons, wo_nil, wo_cons, wt_nil, wt_cons, wi_rng1, wi_rng2, wi_rng3, wi_of, wi_int, wS_asgN, wS_asgT, wS_asgS, wS_par2, wS_par3, wS_aug, wS_ex, wS_ret, wS_retN, wS_iff, wS_pass, wS_brk, wS_cont, wS_never, wS_nil, wS_cons, wS_for, wS_whl, wF_nx, wF_rt, wF_bk, wF_ct, wv_some, wb_some, wc_some, wm_some, wz_bl, wE_some, wN_some, wo_some, wo_none, wo_ite, List.getElem?_cons_zero, List.getElem?_cons_succ, List.set_cons_zero, List.set_cons_succ, List.map_cons, List.map_nil, List.cons_append, List.nil_append, List.append_nil, List.replicate_succ, List.replicate_zero, List.length_cons, List.length_nil, Bop.f, Cop.f, Bi.f, Im.f, wl_some, wj_some, wa_some, wbs_some, add_ii, add_ss, add_rr, sub_ii, mul_ii, mul_si, div_ii, mod_ii, pow_ii, neg_i, eq_ii, ne_ii, eq_ss, ne_ss, lt_ii, le_ii, gt_ii, ge_ii, eq_bb, ne_bb, in_cs, tr_b, tr_i, ix_r, ix_t, ix_f, ix_s, sl_s, sl_r, set_r, len_s, len_r, len_f, len_t, abs_i, max_ii, min_ii, max_r, min_r, int_i, int_b, list_r, sum_r, all_r, isi_ii, isi_ib, isi_ss, aug_ii, aug_sub, sel_app, sel_index, sel_pop, sel_count, sel_join, app_r, count_s, wx_some, idx_r, wT_some, join_r, src_s, src_f, src_t, src_r, if_true, if_false, Bool.not_true, Bool.not_false, Bool.false_eq_true]
  refine require_wide_ok p q hg hn hp hq ?_
  refine low_in_ok (k := k + 1) p q (by omega) fun T hpT => ?_
  simp only [we_c, we_v, we_bin, we_neg, we_cmp, we_chn, we_no, we_and, we_or, we_ife, we_tup, we_lst, we_ix, we_sl, we_bi, we_mt, we_call, we_lrg1, we_lrg2, we_lc, we_rv, we_rpl, ws_nil, ws_cons, wo_nil, wo_cons, wt_nil, wt_cons, wi_rng1, wi_rng2, wi_rng3, wi_of, wi_int, wS_asgN, wS_asgT, wS_asgS, wS_par2, wS_par3, wS_aug, wS_ex, wS_ret, wS_retN, wS_iff, wS_pass, wS_brk, wS_cont, wS_never, wS_nil, wS_cons, wS_for, wS_whl, wF_nx, wF_rt, wF_bk, wF_ct, wv_some, wb_some, wc_some, wm_some, wz_bl, wE_some, wN_some, wo_some, wo_none, wo_ite, List.getElem?_cons_zero, List.getElem?_cons_succ, List.set_cons_zero, List.set_cons_succ, List.map_cons, List.map_nil, List.cons_append, List.nil_append, List.append_nil, List.replicate_succ, List.replicate_zero, List.length_cons, List.length_nil, Bop.f, Cop.f, Bi.f, Im.f, wl_some, wj_some, wa_some, wbs_some, add_ii, add_ss, add_rr, sub_ii, mul_ii, mul_si, div_ii, mod_ii, pow_ii, neg_i, eq_ii, ne_ii, eq_ss, ne_ss, lt_ii, le_ii, gt_ii, ge_ii, eq_bb, ne_bb, in_cs, tr_b, tr_i, ix_r, ix_t, ix_f, ix_s, sl_s, sl_r, set_r, len_s, len_r, len_f, len_t, abs_i, max_ii, min_ii, max_r, min_r, int_i, int_b, list_r, sum_r, all_r, isi_ii, isi_ib, isi_ss, aug_ii, aug_sub, sel_app, sel_index, sel_pop, sel_count, sel_join, app_r, count_s, wx_some, idx_r, wT_some, join_r, src_s, src_f, src_t, src_r, if_true, if_false, Bool.not_true, Bool.not_false, Bool.false_eq_true]
  rw [if_pos (by rw [lowR_len]; exact line_of (by omega)), cut_core]
  exact h T hpT
end K85

set_option Elab.async false
set_option linter.all false
set_option maxRecDepth 100000
set_option maxHeartbeats 1000000
namespace K85
open Mi Lw
variable {k : Nat} {S : Mem} {Q : D → Mem → Prop}
theorem near_ex {p q : Nat} (hg : Nat.gcd p q = 1) (hp : 1 ≤ p) (hq : 1 ≤ q) : ∃ m, 0 < m ∧ m < p + q ∧ rest p q m = 1 := by
  obtain ⟨l, hl⟩ := path_of (p + q) p q (Nat.le_refl _) hp hq hg
  obtain ⟨a, b, h1, h2, h3, h4⟩ := hl.near
  exact ⟨a + b, by omega, by omega, rest_of (by omega) rfl h4 (by omega)⟩
theorem first_at {i : Int} {is : List Int} {m : Nat} (h : firstAt (.int i) (is.map D.int) 0 = some m) : is[m]? = some i := by
  obtain ⟨m', e, ⟨z, h1, h2⟩, _⟩ := firstAt_spec _ _ _ _ h
  rw [Nat.zero_add] at e
  subst e
  rw [List.getElem?_map] at h1
  cases e : is[m]? with
  | none => rw [e] at h1; cases h1
  | some x =>
    rw [e] at h1
    cases h1
    have : (x == i) = true := h2
    rw [eq_of_beq this]
def pairD (p q m : Nat) : D := .tup [.tup [.int (xs_ p q m : Nat), .int (ys_ p q m : Nat)], .tup [.int (p - xs_ p q m : Nat), .int (q - ys_ p q m : Nat)]]
theorem drop_count {p q m : Nat} (h : 0 < p + q) : ((lowR p q).drop m).count 114 = p - xs_ p q m := by
  have e := (low_counts h).1
  rw [low_eq h, ← List.take_append_drop m (lowR p q), List.count_append] at e
  show _ = p - ((lowR p q).take m).count 114
  omega
theorem halves_in_ok (p q : Nat) (hg : Nat.gcd p q = 1) (hn : p + q ≤ 2000) (hp : 1 ≤ p) (hq : 1 ≤ q) (h : ∀ T m, S <+: T → 0 < m → m < p + q → rest p q m = 1 → Q (pairD p q m) T) : Wp (run ds (k + 2) 5 [.int p, .int q] S) Q := by
  refine wp_run (d := d5) rfl rfl ?_
  simp only [d5, we_c, we_v, we_bin, we_neg, we_cmp, we_chn, we_no, we_and, we_or, we_ife, we_tup, we_lst, we_ix, we_sl, we_bi, we_mt, we_call, we_lrg1, we_lrg2, we_lc, we_rv, we_rpl, ws_nil, ws_cons, wo_nil, wo_cons, wt_nil, wt_cons, wi_rng1, wi_rng2, wi_rng3, wi_of, wi_int, wS_asgN, wS_asgT, wS_asgS, wS_par2, wS_par3, wS_aug, wS_ex, wS_ret, wS_retN, wS_iff, wS_pass, wS_brk, wS_cont, wS_never, wS_nil, wS_cons, wS_for, wS_whl, wF_nx, wF_rt, wF_bk, wF_ct, wv_some, wb_some, wc_some, wm_some, wz_bl, wE_some, wN_some, wo_some, wo_none, wo_ite, List.getElem?_cons_zero, List.getElem?_cons_succ, List.set_cons_zero, List.set_cons_succ, List.map_cons, List.map_nil, List.cons_append, List.nil_append, List.append_nil, List.replicate_succ, List.replicate_zero, List.length_cons, List.length_nil, Bop.f, Cop.f, Bi.f, Im.f, wl_some, wj_some, wa_some, wbs_some, add_ii, add_ss, add_rr, sub_ii, mul_ii, mul_si, div_ii, mod_ii, pow_ii, neg_i, eq_ii, ne_ii, eq_ss, ne_ss, lt_ii, le_ii, gt_ii, ge_ii, eq_bb, ne_bb, in_cs, tr_b, tr_i, ix_r, ix_t, ix_f, ix_s, sl_s, sl_r, set_r, len_s, len_r, len_f, len_t, abs_i, max_ii, min_ii, max_r, min_r, int_i, int_b, list_r, sum_r, all_r, isi_ii, isi_ib, isi_ss, aug_ii, aug_sub, sel_app, sel_index, sel_pop, sel_count, sel_join, app_r, count_s, wx_some, idx_r, wT_some, join_r, src_s, src_f, src_t, src_r, if_true, if_false, Bool.not_true, Bool.not_false, Bool.false_eq_true]
  refine low_steps_ok p q (by omega) fun T hpT hl => ?_
  simp only [setT, setTs, we_c, we_v, we_bin, we_neg, we_cmp, we_chn, we_no, we_and, we_or, we_ife, we_tup, we_lst, we_ix, we_sl, we_bi, we_mt, we_call, we_lrg1, we_lrg2, we_lc, we_rv, we_rpl, ws_nil, ws_cons, wo_nil, wo_cons, wt_nil, wt_cons, wi_rng1, wi_rng2, wi_rng3, wi_of, wi_int, wS_asgN, wS_asgT, wS_asgS, wS_par2, wS_par3, wS_aug, wS_ex, wS_ret, wS_retN, wS_iff, wS_pass, wS_brk, wS_cont, wS_never, wS_nil, wS_cons, wS_for, wS_whl, wF_nx, wF_rt, wF_bk, wF_ct, wv_some, wb_some, wc_some, wm_some, wz_bl, wE_some, wN_some, wo_some, wo_none, wo_ite, List.getElem?_cons_zero, List.getElem?_cons_succ, List.set_cons_zero, List.set_cons_succ, List.map_cons, List.map_nil, List.cons_append, List.nil_append, List.append_nil, List.replicate_succ, List.replicate_zero, List.length_cons, List.length_nil, Bop.f, Cop.f, Bi.f, Im.f, wl_some, wj_some, wa_some, wbs_some, add_ii, add_ss, add_rr, sub_ii, mul_ii, mul_si, div_ii, mod_ii, pow_ii, neg_i, eq_ii, ne_ii, eq_ss, ne_ss, lt_ii, le_ii, gt_ii, ge_ii, eq_bb, ne_bb, in_cs, tr_b, tr_i, ix_r, ix_t, ix_f, ix_s, sl_s, sl_r, set_r, len_s, len_r, len_f, len_t, abs_i, max_ii, min_ii, max_r, min_r, int_i, int_b, list_r, sum_r, all_r, isi_ii, isi_ib, isi_ss, aug_ii, aug_sub, sel_app, sel_index, sel_pop, sel_count, sel_join, app_r, count_s, wx_some, idx_r, wT_some, join_r, src_s, src_f, src_t, src_r, if_true, if_false, Bool.not_true, Bool.not_false, Bool.false_eq_true, hl]
  have hn0 : 0 < p + q := by omega
  obtain ⟨m0, a1, a2, a3⟩ := near_ex hg hp hq
  have he : ((List.range (p + q)).map fun j => D.int (rest p q (j + 1) : Nat)) = ((List.range (p + q)).map fun j => ((rest p q (j + 1) : Nat) : Int)).map D.int := by rw [List.map_map]; rfl
  have hm1 : (1 : Int) ∈ (List.range (p + q)).map fun j => ((rest p q (j + 1) : Nat) : Int) := List.mem_map.mpr ⟨m0 - 1, List.mem_range.mpr (by omega), by rw [show m0 - 1 + 1 = m0 by omega, a3]; rfl⟩
  rw [he]
  obtain ⟨j, hj⟩ := first_int 1 _ 0 hm1
  have hj2 := first_at hj
  rw [if_pos ⟨rfl, flat_ints _⟩, hj]
  have hjl : j < p + q := by
    have := (List.getElem?_eq_some_iff.mp hj2).1
    rw [List.length_map, List.length_range] at this
    exact this
  rw [List.getElem?_map, List.getElem?_range hjl] at hj2
  have hr : rest p q (j + 1) = 1 := by
    have := Option.some.inj hj2
    have : ((rest p q (j + 1) : Nat) : Int) = 1 := this
    omega
  have hlt : j + 1 < p + q := by
    apply Classical.byContradiction
    intro c
    have e : j + 1 = p + q := by omega
    rw [e] at hr
    unfold rest at hr
    rw [Nat.mul_mod_right] at hr
    cases hr
  simp only [we_c, we_v, we_bin, we_neg, we_cmp, we_chn, we_no, we_and, we_or, we_ife, we_tup, we_lst, we_ix, we_sl, we_bi, we_mt, we_call, we_lrg1, we_lrg2, we_lc, we_rv, we_rpl, ws_nil, ws_cons, wo_nil, wo_cons, wt_nil, wt_cons, wi_rng1, wi_rng2, wi_rng3, wi_of, wi_int, wS_asgN, wS_asgT, wS_asgS, wS_par2, wS_par3, wS_aug, wS_ex, wS_ret, wS_retN, wS_iff, wS_pass, wS_brk, wS_cont, wS_never, wS_nil, wS_cons, wS_for, wS_whl, wF_nx, wF_rt, wF_bk, wF_ct, wv_some, wb_some, wc_some, wm_some, wz_bl, wE_some, wN_some, wo_some, wo_none, wo_ite, List.getElem?_cons_zero, List.getElem?_cons_succ, List.set_cons_zero, List.set_cons_succ, List.map_cons, List.map_nil, List.cons_append, List.nil_append, List.append_nil, List.replicate_succ, List.replicate_zero, List.length_cons, List.length_nil, Bop.f, Cop.f, Bi.f, Im.f, wl_some, wj_some, wa_some, wbs_some, add_ii, add_ss, add_rr, sub_ii, mul_ii, mul_si, div_ii, mod_ii, pow_ii, neg_i, eq_ii, ne_ii, eq_ss, ne_ss, lt_ii, le_ii, gt_ii, ge_ii, eq_bb, ne_bb, in_cs, tr_b, tr_i, ix_r, ix_t, ix_f, ix_s, sl_s, sl_r, set_r, len_s, len_r, len_f, len_t, abs_i, max_ii, min_ii, max_r, min_r, int_i, int_b, list_r, sum_r, all_r, isi_ii, isi_ib, isi_ss, aug_ii, aug_sub, sel_app, sel_index, sel_pop, sel_count, sel_join, app_r, count_s, wx_some, idx_r, wT_some, join_r, src_s, src_f, src_t, src_r, if_true, if_false, Bool.not_true, Bool.not_false, Bool.false_eq_true]
  rw [if_pos (by rw [lowR_len]; exact line_of (by omega)), show ((j : Nat) : Int) + 1 = ((j + 1 : Nat) : Int) by omega, cut_to, cut_from]
  refine counts_ok _ (by rw [List.length_take, lowR_len]; omega) fun T2 hp2 => ?_
  rw [if_pos (by rw [lowR_len]; exact line_of (by omega))]
  refine counts_ok _ (by rw [List.length_drop, lowR_len]; omega) fun T3 hp3 => ?_
  refine ⟨line_of (by decide), ?_⟩
  have := h T3 (j + 1) (hpT.trans (hp2.trans hp3)) (by omega) hlt hr
  unfold pairD at this
  have s1 := pt_sum hn0 (show j + 1 ≤ p + q by omega)
  have e1 : ((lowR p q).take (j + 1)).length - ((lowR p q).take (j + 1)).count 114 = ys_ p q (j + 1) := by
    rw [List.length_take, lowR_len]
    show _ - xs_ p q (j + 1) = _
    omega
  have x1 := xs_le (i := j + 1) hn0
  have y1 := ys_le (i := j + 1) hn0
  rw [e1, drop_count hn0, List.length_drop, lowR_len, show p + q - (j + 1) - (p - xs_ p q (j + 1)) = q - ys_ p q (j + 1) by omega]
  exact this
theorem halves_ok (p q : Nat) (hg : Nat.gcd p q = 1) (hn : p + q ≤ 2000) (hp : 1 ≤ p) (hq : 1 ≤ q) (h : ∀ T m, S <+: T → 0 < m → m < p + q → rest p q m = 1 → Q (pairD p q m) T) : Wp (run ds (k + 4) 17 [.int p, .int q] S) Q := by
  refine wp_run (d := d17) rfl rfl ?_
  simp only [d17, we_c, we_v, we_bin, we_neg, we_cmp, we_chn, we_no, we_and, we_or, we_ife, we_tup, we_lst, we_ix, we_sl, we_bi, we_mt, we_call, we_lrg1, we_lrg2, we_lc, we_rv, we_rpl, ws_nil, ws_cons, wo_nil, wo_cons, wt_nil, wt_cons, wi_rng1, wi_rng2, wi_rng3, wi_of, wi_int, wS_asgN, wS_asgT, wS_asgS, wS_par2, wS_par3, wS_aug, wS_ex, wS_ret, wS_retN, wS_iff, wS_pass, wS_brk, wS_cont, wS_never, wS_nil, wS_cons, wS_for, wS_whl, wF_nx, wF_rt, wF_bk, wF_ct, wv_some, wb_some, wc_some, wm_some, wz_bl, wE_some, wN_some, wo_some, wo_none, wo_ite, List.getElem?_cons_zero, List.getElem?_cons_succ, List.set_cons_zero, List.set_cons_succ, List.map_cons, List.map_nil, List.cons_append, List.nil_append, List.append_nil, List.replicate_succ, List.replicate_zero, List.length_cons, List.length_nil, Bop.f, Cop.f, Bi.f, Im.f, wl_some, wj_some, wa_some, wbs_some, add_ii, add_ss, add_rr, sub_ii, mul_ii, mul_si, div_ii, mod_ii, pow_ii, neg_i, eq_ii, ne_ii, eq_ss, ne_ss, lt_ii, le_ii, gt_ii, ge_ii, eq_bb, ne_bb, in_cs, tr_b, tr_i, ix_r, ix_t, ix_f, ix_s, sl_s, sl_r, set_r, len_s, len_r, len_f, len_t, abs_i, max_ii, min_ii, max_r, min_r, int_i, int_b, list_r, sum_r, all_r, isi_ii, isi_ib, isi_ss, aug_ii, aug_sub, sel_app, sel_index, sel_pop, sel_count, sel_join, app_r, count_s, wx_some, idx_r, wT_some, join_r, src_s, src_f, src_t, src_r, if_true, if_false, Bool.not_true, Bool.not_false, Bool.false_eq_true]
  refine require_wide_ok p q hg hn hp hq ?_
  exact halves_in_ok (k := k + 1) p q hg hn hp hq h
end K85

set_option Elab.async false
set_option linter.all false
set_option maxRecDepth 100000
set_option maxHeartbeats 1000000
namespace K85
open Mi Lw
variable {k : Nat} {S : Mem} {Q : D → Mem → Prop}
/-! ### the law's halves -/
section
variable {R : Fl → Mem → Prop}
def hv0 : Sm := (.par2 2 3 (.call 26 (.cons (.v 0) (.cons (.v 1) .nil))) (.lst .nil))
def hv1 : Sm := (.asg (.n (.nm 5)) (.tup (.cons (.mt .count (.sl (.v 2) .nil (.cons (.v 4) .nil)) (.cons (.c (.str [114])) .nil)) (.cons (.mt .count (.sl (.v 2) .nil (.cons (.v 4) .nil)) (.cons (.c (.str [117])) .nil)) .nil))))
def hv2 : Sm := (.asg (.n (.nm 6)) (.tup (.cons (.bin .sub (.v 0) (.ix (.v 5) (.c (.int 0)))) (.cons (.bin .sub (.v 1) (.ix (.v 5) (.c (.int 1)))) .nil))))
def hv3 : Sm := (.iff (.and (.cmp .eq (.call 25 (.cons (.ix (.v 5) (.c (.int 0))) (.cons (.ix (.v 5) (.c (.int 1))) .nil))) (.c (.int 1))) (.cmp .eq (.call 25 (.cons (.ix (.v 6) (.c (.int 0))) (.cons (.ix (.v 6) (.c (.int 1))) .nil))) (.c (.int 1)))) (.cons (.iff (.cmp .eq (.bin .add (.call 26 (.cons (.ix (.v 5) (.c (.int 0))) (.cons (.ix (.v 5) (.c (.int 1))) .nil))) (.call 26 (.cons (.ix (.v 6) (.c (.int 0))) (.cons (.ix (.v 6) (.c (.int 1))) .nil)))) (.v 2)) (.cons (.ex (.mt .append (.v 3) (.cons (.tup (.cons (.v 5) (.cons (.v 6) .nil))) .nil))) .nil) .nil) .nil) .nil)
def hv4 : Sm := (.for_ (.nm 4) (.rng2 (.c (.int 1)) (.bi .len (.cons (.v 2) .nil))) (.cons hv1 (.cons hv2 (.cons hv3 .nil))))
def hv5 : Sm := (.ret (.v 3))
theorem hvbody : d30.body = (.cons hv0 (.cons hv4 (.cons hv5 .nil))) := rfl
theorem hv1_ok {x0 x1 x3 x5 x6 : Option D} (w : List Nat) (m : Nat) (hw : w.length ≤ 10000) (h : R (.nx [x0, x1, some (.str w), x3, some (.int m), some (.tup [.int ((w.take m).count 114 : Nat), .int ((w.take m).count 117 : Nat)]), x6]) S) :
    WpS (evS (run ds (k + 1)) hv1 [x0, x1, some (.str w), x3, some (.int m), x5, x6] S) R := by
  simp only [hv1, we_c, we_v, we_bin, we_neg, we_cmp, we_chn, we_no, we_and, we_or, we_ife, we_tup, we_lst, we_ix, we_sl, we_bi, we_mt, we_call, we_lrg1, we_lrg2, we_lc, we_rv, we_rpl, ws_nil, ws_cons, wo_nil, wo_cons, wt_nil, wt_cons, wi_rng1, wi_rng2, wi_rng3, wi_of, wi_int, wS_asgN, wS_asgT, wS_asgS, wS_par2, wS_par3, wS_aug, wS_ex, wS_ret, wS_retN, wS_iff, wS_pass, wS_brk, wS_cont, wS_never, wS_nil, wS_cons, wS_for, wS_whl, wF_nx, wF_rt, wF_bk, wF_ct, wv_some, wb_some, wc_some, wm_some, wz_bl, wE_some, wN_some, wo_some, wo_none, wo_ite, List.getElem?_cons_zero, List.getElem?_cons_succ, List.set_cons_zero, List.set_cons_succ, List.map_cons, List.map_nil, List.cons_append, List.nil_append, List.append_nil, List.replicate_succ, List.replicate_zero, List.length_cons, List.length_nil, Bop.f, Cop.f, Bi.f, Im.f, wl_some, wj_some, wa_some, wbs_some, add_ii, add_ss, add_rr, sub_ii, mul_ii, mul_si, div_ii, mod_ii, pow_ii, neg_i, eq_ii, ne_ii, eq_ss, ne_ss, lt_ii, le_ii, gt_ii, ge_ii, eq_bb, ne_bb, in_cs, tr_b, tr_i, ix_r, ix_t, ix_f, ix_s, sl_s, sl_r, set_r, len_s, len_r, len_f, len_t, abs_i, max_ii, min_ii, max_r, min_r, int_i, int_b, list_r, sum_r, all_r, isi_ii, isi_ib, isi_ss, aug_ii, aug_sub, sel_app, sel_index, sel_pop, sel_count, sel_join, app_r, count_s, wx_some, idx_r, wT_some, join_r, src_s, src_f, src_t, src_r, if_true, if_false, Bool.not_true, Bool.not_false, Bool.false_eq_true, cut_to]
  rw [if_pos (line_of (by omega)), if_pos (line_of (by omega))]
  exact ⟨line_of (by decide), h⟩
theorem hv2_ok {x2 x3 x4 x6 : Option D} (p q a b : Nat) (ha : a ≤ p) (hb : b ≤ q) (h : R (.nx [some (.int p), some (.int q), x2, x3, x4, some (.tup [.int a, .int b]), some (.tup [.int (p - a : Nat), .int (q - b : Nat)])]) S) :
    WpS (evS (run ds (k + 1)) hv2 [some (.int p), some (.int q), x2, x3, x4, some (.tup [.int a, .int b]), x6] S) R := by
  simp only [hv2, we_c, we_v, we_bin, we_neg, we_cmp, we_chn, we_no, we_and, we_or, we_ife, we_tup, we_lst, we_ix, we_sl, we_bi, we_mt, we_call, we_lrg1, we_lrg2, we_lc, we_rv, we_rpl, ws_nil, ws_cons, wo_nil, wo_cons, wt_nil, wt_cons, wi_rng1, wi_rng2, wi_rng3, wi_of, wi_int, wS_asgN, wS_asgT, wS_asgS, wS_par2, wS_par3, wS_aug, wS_ex, wS_ret, wS_retN, wS_iff, wS_pass, wS_brk, wS_cont, wS_never, wS_nil, wS_cons, wS_for, wS_whl, wF_nx, wF_rt, wF_bk, wF_ct, wv_some, wb_some, wc_some, wm_some, wz_bl, wE_some, wN_some, wo_some, wo_none, wo_ite, List.getElem?_cons_zero, List.getElem?_cons_succ, List.set_cons_zero, List.set_cons_succ, List.map_cons, List.map_nil, List.cons_append, List.nil_append, List.append_nil, List.replicate_succ, List.replicate_zero, List.length_cons, List.length_nil, Bop.f, Cop.f, Bi.f, Im.f, wl_some, wj_some, wa_some, wbs_some, add_ii, add_ss, add_rr, sub_ii, mul_ii, mul_si, div_ii, mod_ii, pow_ii, neg_i, eq_ii, ne_ii, eq_ss, ne_ss, lt_ii, le_ii, gt_ii, ge_ii, eq_bb, ne_bb, in_cs, tr_b, tr_i, ix_r, ix_t, ix_f, ix_s, sl_s, sl_r, set_r, len_s, len_r, len_f, len_t, abs_i, max_ii, min_ii, max_r, min_r, int_i, int_b, list_r, sum_r, all_r, isi_ii, isi_ib, isi_ss, aug_ii, aug_sub, sel_app, sel_index, sel_pop, sel_count, sel_join, app_r, count_s, wx_some, idx_r, wT_some, join_r, src_s, src_f, src_t, src_r, if_true, if_false, Bool.not_true, Bool.not_false, Bool.false_eq_true, at_0, at_1]
  rw [show ((p : Nat) : Int) - (a : Nat) = ((p - a : Nat) : Int) by omega, show ((q : Nat) : Int) - (b : Nat) = ((q - b : Nat) : Int) by omega]
  exact ⟨line_of (by decide), h⟩
theorem hv3_ok {x0 x1 x4 : Option D} (w : List Nat) (a b c d f : Nat) (L : List D) (hl : lstAt S f = some L) (hL : L.length ≤ 1000) (hw : a + b + (c + d) ≤ 10000)
    (hn : ¬ (Nat.gcd a b = 1 ∧ Nat.gcd c d = 1 ∧ lowR a b ++ lowR c d = w) → ∀ T, S <+: T → R (.nx [x0, x1, some (.str w), some (.ref f), x4, some (.tup [.int a, .int b]), some (.tup [.int c, .int d])]) T)
    (hy : Nat.gcd a b = 1 ∧ Nat.gcd c d = 1 ∧ lowR a b ++ lowR c d = w → ∀ T, S <+: T → R (.nx [x0, x1, some (.str w), some (.ref f), x4, some (.tup [.int a, .int b]), some (.tup [.int c, .int d])]) (T.set f (.lst (L ++ [.tup [.tup [.int a, .int b], .tup [.int c, .int d]]])))) :
    WpS (evS (run ds (k + 1)) hv3 [x0, x1, some (.str w), some (.ref f), x4, some (.tup [.int a, .int b]), some (.tup [.int c, .int d])] S) R := by
  simp only [hv3, we_c, we_v, we_bin, we_neg, we_cmp, we_chn, we_no, we_and, we_or, we_ife, we_tup, we_lst, we_ix, we_sl, we_bi, we_mt, we_call, we_lrg1, we_lrg2, we_lc, we_rv, we_rpl, ws_nil, ws_cons, wo_nil, wo_cons, wt_nil, wt_cons, wi_rng1, wi_rng2, wi_rng3, wi_of, wi_int, wS_asgN, wS_asgT, wS_asgS, wS_par2, wS_par3, wS_aug, wS_ex, wS_ret, wS_retN, wS_iff, wS_pass, wS_brk, wS_cont, wS_never, wS_nil, wS_cons, wS_for, wS_whl, wF_nx, wF_rt, wF_bk, wF_ct, wv_some, wb_some, wc_some, wm_some, wz_bl, wE_some, wN_some, wo_some, wo_none, wo_ite, List.getElem?_cons_zero, List.getElem?_cons_succ, List.set_cons_zero, List.set_cons_succ, List.map_cons, List.map_nil, List.cons_append, List.nil_append, List.append_nil, List.replicate_succ, List.replicate_zero, List.length_cons, List.length_nil, Bop.f, Cop.f, Bi.f, Im.f, wl_some, wj_some, wa_some, wbs_some, add_ii, add_ss, add_rr, sub_ii, mul_ii, mul_si, div_ii, mod_ii, pow_ii, neg_i, eq_ii, ne_ii, eq_ss, ne_ss, lt_ii, le_ii, gt_ii, ge_ii, eq_bb, ne_bb, in_cs, tr_b, tr_i, ix_r, ix_t, ix_f, ix_s, sl_s, sl_r, set_r, len_s, len_r, len_f, len_t, abs_i, max_ii, min_ii, max_r, min_r, int_i, int_b, list_r, sum_r, all_r, isi_ii, isi_ib, isi_ss, aug_ii, aug_sub, sel_app, sel_index, sel_pop, sel_count, sel_join, app_r, count_s, wx_some, idx_r, wT_some, join_r, src_s, src_f, src_t, src_r, if_true, if_false, Bool.not_true, Bool.not_false, Bool.false_eq_true, at_0, at_1]
  refine gcd_ok a b (by omega) ?_
  rw [eq_ii, tr_b, wb_some]
  by_cases c1 : Nat.gcd a b = 1
  · rw [if_pos (decide_eq_true (by omega))]
    refine gcd_ok c d (by omega) ?_
    rw [eq_ii, tr_b, wb_some]
    by_cases c2 : Nat.gcd c d = 1
    · rw [if_pos (decide_eq_true (by omega))]
      refine law_low_ok a b (by omega) fun T1 p1 => ?_
      refine law_low_ok c d (by omega) fun T2 p2 => ?_
      rw [add_ss, if_pos (by rw [lowR_len, lowR_len]; exact line_of (by omega)), eq_ss, tr_b, wb_some]
      have pT := p1.trans p2
      by_cases c3 : lowR a b ++ lowR c d = w
      · rw [if_pos (decide_eq_true c3)]
        simp only [lst_pre pT hl, wl_some]
        rw [if_pos (show L.length < 16777216 by omega)]
        exact ⟨line_of (by decide), hy ⟨c1, c2, c3⟩ T2 pT⟩
      · rw [if_neg (by rw [decide_eq_true_eq]; exact c3)]
        exact hn (fun z => c3 z.2.2) T2 pT
    · rw [if_neg (by rw [decide_eq_true_eq]; omega)]
      exact hn (fun z => c2 z.2.1) S (List.prefix_refl _)
  · have e : ¬ decide (((Nat.gcd a b : Nat) : Int) = 1) = true := by rw [decide_eq_true_eq]; omega
    rw [if_neg e, wb_some, if_neg e]
    exact hn (fun z => c1 z.1) S (List.prefix_refl _)
end
theorem law_halves_ok (p q : Nat) (hg : Nat.gcd p q = 1) (hn : p + q ≤ 1000) (hp : 1 ≤ p) (hq : 1 ≤ q) (h : ∀ T r m, S <+: T → S.length ≤ r → 0 < m → m < p + q → rest p q m = 1 → lstAt T r = some [pairD p q m] → Q (.ref r) T) : Wp (run ds (k + 2) 30 [.int p, .int q] S) Q := by
  refine wp_run (d := d30) rfl rfl ?_
  have hn0 : 0 < p + q := by omega
  obtain ⟨m0, a1, a2, a3⟩ := near_ex hg hp hq
  rw [hvbody, wS_cons]
  show WpS (evS (run ds (k + 1)) hv0 [some (.int p), some (.int q), none, none, none, none, none] S) _
  simp only [hv0, we_c, we_v, we_bin, we_neg, we_cmp, we_chn, we_no, we_and, we_or, we_ife, we_tup, we_lst, we_ix, we_sl, we_bi, we_mt, we_call, we_lrg1, we_lrg2, we_lc, we_rv, we_rpl, ws_nil, ws_cons, wo_nil, wo_cons, wt_nil, wt_cons, wi_rng1, wi_rng2, wi_rng3, wi_of, wi_int, wS_asgN, wS_asgT, wS_asgS, wS_par2, wS_par3, wS_aug, wS_ex, wS_ret, wS_retN, wS_iff, wS_pass, wS_brk, wS_cont, wS_never, wS_nil, wS_cons, wS_for, wS_whl, wF_nx, wF_rt, wF_bk, wF_ct, wv_some, wb_some, wc_some, wm_some, wz_bl, wE_some, wN_some, wo_some, wo_none, wo_ite, List.getElem?_cons_zero, List.getElem?_cons_succ, List.set_cons_zero, List.set_cons_succ, List.map_cons, List.map_nil, List.cons_append, List.nil_append, List.append_nil, List.replicate_succ, List.replicate_zero, List.length_cons, List.length_nil, Bop.f, Cop.f, Bi.f, Im.f, wl_some, wj_some, wa_some, wbs_some, add_ii, add_ss, add_rr, sub_ii, mul_ii, mul_si, div_ii, mod_ii, pow_ii, neg_i, eq_ii, ne_ii, eq_ss, ne_ss, lt_ii, le_ii, gt_ii, ge_ii, eq_bb, ne_bb, in_cs, tr_b, tr_i, ix_r, ix_t, ix_f, ix_s, sl_s, sl_r, set_r, len_s, len_r, len_f, len_t, abs_i, max_ii, min_ii, max_r, min_r, int_i, int_b, list_r, sum_r, all_r, isi_ii, isi_ib, isi_ss, aug_ii, aug_sub, sel_app, sel_index, sel_pop, sel_count, sel_join, app_r, count_s, wx_some, idx_r, wT_some, join_r, src_s, src_f, src_t, src_r, if_true, if_false, Bool.not_true, Bool.not_false, Bool.false_eq_true]
  refine law_low_ok p q (by omega) fun T0 p0 => ?_
  refine ⟨line_of (by decide), ?_⟩
  have hx : ∀ i, i ≤ p + q → ((lowR p q).take i).count 114 = xs_ p q i ∧ ((lowR p q).take i).count 117 = ys_ p q i := fun i _ => ⟨rfl, rfl⟩
  show WpS (evS (run ds (k + 1)) hv4 [some (.int p), some (.int q), some (.str (lowR p q)), some (.ref T0.length), none, none, none] (T0 ++ [.lst []])) _
  simp only [hv4, we_c, we_v, we_bin, we_neg, we_cmp, we_chn, we_no, we_and, we_or, we_ife, we_tup, we_lst, we_ix, we_sl, we_bi, we_mt, we_call, we_lrg1, we_lrg2, we_lc, we_rv, we_rpl, ws_nil, ws_cons, wo_nil, wo_cons, wt_nil, wt_cons, wi_rng1, wi_rng2, wi_rng3, wi_of, wi_int, wS_asgN, wS_asgT, wS_asgS, wS_par2, wS_par3, wS_aug, wS_ex, wS_ret, wS_retN, wS_iff, wS_pass, wS_brk, wS_cont, wS_never, wS_nil, wS_cons, wS_for, wS_whl, wF_nx, wF_rt, wF_bk, wF_ct, wv_some, wb_some, wc_some, wm_some, wz_bl, wE_some, wN_some, wo_some, wo_none, wo_ite, List.getElem?_cons_zero, List.getElem?_cons_succ, List.set_cons_zero, List.set_cons_succ, List.map_cons, List.map_nil, List.cons_append, List.nil_append, List.append_nil, List.replicate_succ, List.replicate_zero, List.length_cons, List.length_nil, Bop.f, Cop.f, Bi.f, Im.f, wl_some, wj_some, wa_some, wbs_some, add_ii, add_ss, add_rr, sub_ii, mul_ii, mul_si, div_ii, mod_ii, pow_ii, neg_i, eq_ii, ne_ii, eq_ss, ne_ss, lt_ii, le_ii, gt_ii, ge_ii, eq_bb, ne_bb, in_cs, tr_b, tr_i, ix_r, ix_t, ix_f, ix_s, sl_s, sl_r, set_r, len_s, len_r, len_f, len_t, abs_i, max_ii, min_ii, max_r, min_r, int_i, int_b, list_r, sum_r, all_r, isi_ii, isi_ib, isi_ss, aug_ii, aug_sub, sel_app, sel_index, sel_pop, sel_count, sel_join, app_r, count_s, wx_some, idx_r, wT_some, join_r, src_s, src_f, src_t, src_r, if_true, if_false, Bool.not_true, Bool.not_false, Bool.false_eq_true]
  rw [if_pos (by rw [lowR_len]; exact line_of (by omega)), lowR_len, rng_2 _ _ (by omega)]
  refine wp_turns (rangeD 1 (((p + q : Nat) : Int) - 1).toNat) (fun i e U => S <+: U ∧ lstAt U T0.length = some (if m0 ≤ i then [pairD p q m0] else []) ∧ ∃ x4 x5 x6, e = [some (.int p), some (.int q), some (.str (lowR p q)), some (.ref T0.length), x4, x5, x6]) (fun _ _ _ _ => rfl) (fun i d e U hx ⟨hU, hl, x4, x5, x6, he⟩ => ?_) (fun e U ⟨hU, hl, x4, x5, x6, he⟩ => ?_) fuel 0 _ _ (by rw [range_len]; show _ < 1000000000; omega) (Nat.zero_le _) ⟨p0.trans (List.prefix_append _ _), by rw [if_neg (by omega)]; exact lst_new _ _, _, _, _, rfl⟩
  · subst he
    obtain ⟨hi, rfl⟩ := range_get hx
    rw [show (1 : Int) + (i : Nat) = ((i + 1 : Nat) : Int) by omega]
    simp only [setT, List.set_cons_zero, List.set_cons_succ]
    have x1 := xs_le (i := i + 1) hn0
    have y1 := ys_le (i := i + 1) hn0
    have hT : S.length ≤ T0.length := p0.length_le
    rw [wS_cons]
    refine hv1_ok (lowR p q) (i + 1) (by rw [lowR_len]; omega) ?_
    rw [wF_nx, wS_cons]
    refine hv2_ok p q (xs_ p q (i + 1)) (ys_ p q (i + 1)) x1 y1 ?_
    rw [wF_nx, wS_cons]
    refine hv3_ok (lowR p q) (xs_ p q (i + 1)) (ys_ p q (i + 1)) (p - xs_ p q (i + 1)) (q - ys_ p q (i + 1)) T0.length _ hl (by split <;> simp) (by omega) (fun c V pV => ?_) (fun c V pV => ?_)
    · rw [wF_nx, wS_nil]
      refine ⟨hU.trans pV, ?_, _, _, _, rfl⟩
      rw [lst_pre pV hl]
      by_cases e : m0 = i + 1
      · exact absurd (by rw [← e]; exact near_good hg a1 a2 a3) c
      · congr 1
        by_cases e2 : m0 ≤ i
        · rw [if_pos e2, if_pos (by omega)]
        · rw [if_neg e2, if_neg (by omega)]
    · rw [wF_nx, wS_nil]
      have e : i + 1 = m0 := good_near hg (by omega) (by omega) a1 a2 a3 c
      refine ⟨pre_set (hU.trans pV) hT, ?_, _, _, _, rfl⟩
      rw [lst_set (lst_pre pV hl), if_neg (by omega), if_pos (by omega), ← e]
      rfl
  · subst he
    rw [wF_nx]
    simp only [hv5, we_c, we_v, we_bin, we_neg, we_cmp, we_chn, we_no, we_and, we_or, we_ife, we_tup, we_lst, we_ix, we_sl, we_bi, we_mt, we_call, we_lrg1, we_lrg2, we_lc, we_rv, we_rpl, ws_nil, ws_cons, wo_nil, wo_cons, wt_nil, wt_cons, wi_rng1, wi_rng2, wi_rng3, wi_of, wi_int, wS_asgN, wS_asgT, wS_asgS, wS_par2, wS_par3, wS_aug, wS_ex, wS_ret, wS_retN, wS_iff, wS_pass, wS_brk, wS_cont, wS_never, wS_nil, wS_cons, wS_for, wS_whl, wF_nx, wF_rt, wF_bk, wF_ct, wv_some, wb_some, wc_some, wm_some, wz_bl, wE_some, wN_some, wo_some, wo_none, wo_ite, List.getElem?_cons_zero, List.getElem?_cons_succ, List.set_cons_zero, List.set_cons_succ, List.map_cons, List.map_nil, List.cons_append, List.nil_append, List.append_nil, List.replicate_succ, List.replicate_zero, List.length_cons, List.length_nil, Bop.f, Cop.f, Bi.f, Im.f, wl_some, wj_some, wa_some, wbs_some, add_ii, add_ss, add_rr, sub_ii, mul_ii, mul_si, div_ii, mod_ii, pow_ii, neg_i, eq_ii, ne_ii, eq_ss, ne_ss, lt_ii, le_ii, gt_ii, ge_ii, eq_bb, ne_bb, in_cs, tr_b, tr_i, ix_r, ix_t, ix_f, ix_s, sl_s, sl_r, set_r, len_s, len_r, len_f, len_t, abs_i, max_ii, min_ii, max_r, min_r, int_i, int_b, list_r, sum_r, all_r, isi_ii, isi_ib, isi_ss, aug_ii, aug_sub, sel_app, sel_index, sel_pop, sel_count, sel_join, app_r, count_s, wx_some, idx_r, wT_some, join_r, src_s, src_f, src_t, src_r, if_true, if_false, Bool.not_true, Bool.not_false, Bool.false_eq_true]
    rw [range_len, if_pos (by omega)] at hl
    exact h U _ m0 hU p0.length_le a1 a2 a3 hl
end K85

set_option Elab.async false
set_option linter.all false
set_option maxRecDepth 100000
set_option maxHeartbeats 1000000
namespace K85
open Mi Lw
variable {k : Nat} {S : Mem} {Q : D → Mem → Prop}
theorem ne_t2 (a b c d : Int) : WpO (fNe (.tup [.int a, .int b]) (.tup [.int c, .int d]) S) Q = Q (.bl !(a == c && (b == d && true))) S := rfl
theorem ne_one (p q : Nat) : (!(((p : Nat) : Int) == 1 && (((q : Nat) : Int) == 1 && true))) = !decide (p = 1 ∧ q = 1) := by
  congr 1
  apply Bool.eq_iff_iff.mpr
  simp only [Bool.and_eq_true, beq_iff_eq, decide_eq_true_eq, and_true]
  omega
theorem flat_one (n c : Nat) : (List.replicate n [c]).flatten = List.replicate n c := by
  induction n with
  | zero => rfl
  | succ n ih => rw [List.replicate_succ, List.flatten_cons, ih]; rfl
theorem flat_rev : ∀ (fs : List (List Nat)), (∀ x ∈ fs, x.reverse = x) → fs.reverse.flatten = fs.flatten.reverse
  | [], _ => rfl
  | x :: r, h => by
    have hx := h x List.mem_cons_self
    have ih := flat_rev r fun y hy => h y (List.mem_cons_of_mem _ hy)
    simp only [List.reverse_cons, List.flatten_append, List.flatten_cons, List.flatten_nil, List.append_nil, List.reverse_append, ih, hx]
theorem sum_flat (ts : List (List Nat)) : (ts.map (·.length)).sum = ts.flatten.length := by rw [List.length_flatten]
section
variable {R : Fl → Mem → Prop}
def pi0 : Sm := (.asg (.n (.nm 2)) (.lst .nil))
def pi1 : Sm := (.whl (.cmp .ne (.tup (.cons (.v 0) (.cons (.v 1) .nil))) (.tup (.cons (.c (.int 1)) (.cons (.c (.int 1)) .nil)))) (.cons (.iff (.cmp .gt (.v 0) (.v 1)) (.cons (.asg (.n (.nm 3)) (.bin .div (.bin .sub (.v 0) (.c (.int 1))) (.v 1))) (.cons (.ex (.mt .append (.v 2) (.cons (.bin .mul (.c (.str [116])) (.v 3)) .nil))) (.cons (.asg (.n (.nm 0)) (.bin .sub (.v 0) (.bin .mul (.v 3) (.v 1)))) .nil))) (.cons (.asg (.n (.nm 3)) (.bin .div (.bin .sub (.v 1) (.c (.int 1))) (.v 0))) (.cons (.ex (.mt .append (.v 2) (.cons (.bin .mul (.c (.str [115])) (.v 3)) .nil))) (.cons (.asg (.n (.nm 1)) (.bin .sub (.v 1) (.bin .mul (.v 3) (.v 0)))) .nil)))) .nil))
def pi2 : Sm := (.ret (.mt .join (.c (.str [])) (.cons (.rv (.v 2) none none) .nil)))
theorem pibody : d6.body = (.cons pi0 (.cons pi1 (.cons pi2 .nil))) := rfl
def lp0 : Sm := (.asg (.n (.nm 2)) (.lst .nil))
def lp1 : Sm := (.whl (.cmp .ne (.tup (.cons (.v 0) (.cons (.v 1) .nil))) (.tup (.cons (.c (.int 1)) (.cons (.c (.int 1)) .nil)))) (.cons (.ex (.mt .append (.v 2) (.cons (.ife (.cmp .gt (.v 0) (.v 1)) (.c (.str [116])) (.c (.str [115]))) .nil))) (.cons (.asg (.n (.tup (.cons (.nm 0) (.cons (.nm 1) .nil)))) (.ife (.cmp .gt (.v 0) (.v 1)) (.tup (.cons (.bin .sub (.v 0) (.v 1)) (.cons (.v 1) .nil))) (.tup (.cons (.v 0) (.cons (.bin .sub (.v 1) (.v 0)) .nil))))) .nil)))
def lp2 : Sm := (.ret (.mt .join (.c (.str [])) (.cons (.rv (.v 2) none none) .nil)))
theorem lpbody : d29.body = (.cons lp0 (.cons lp1 (.cons lp2 .nil))) := rfl

theorem join_rev {x0 x1 x3 : Option D} {n : Nat} (ts : List (List Nat)) (hl : lstAt S n = some (ts.map D.str)) (hz : ts.flatten.length ≤ 100000) (h : ∀ T, S <+: T → R (.rt (.str ts.reverse.flatten)) T) : WpS (evS (run ds k) pi2 [x0, x1, some (.ref n), x3] S) R := by
  simp only [pi2, we_c, we_v, we_bin, we_neg, we_cmp, we_chn, we_no, we_and, we_or, we_ife, we_tup, we_lst, we_ix, we_sl, we_bi, we_mt, we_call, we_lrg1, we_lrg2, we_lc, we_rv, we_rpl, ws_nil, ws_cons, wo_nil, wo_cons, wt_nil, wt_cons, wi_rng1, wi_rng2, wi_rng3, wi_of, wi_int, wS_asgN, wS_asgT, wS_asgS, wS_par2, wS_par3, wS_aug, wS_ex, wS_ret, wS_retN, wS_iff, wS_pass, wS_brk, wS_cont, wS_never, wS_nil, wS_cons, wS_for, wS_whl, wF_nx, wF_rt, wF_bk, wF_ct, wv_some, wb_some, wc_some, wm_some, wz_bl, wE_some, wN_some, wo_some, wo_none, wo_ite, List.getElem?_cons_zero, List.getElem?_cons_succ, List.set_cons_zero, List.set_cons_succ, List.map_cons, List.map_nil, List.cons_append, List.nil_append, List.append_nil, List.replicate_succ, List.replicate_zero, List.length_cons, List.length_nil, Bop.f, Cop.f, Bi.f, Im.f, wl_some, wj_some, wa_some, wbs_some, add_ii, add_ss, add_rr, sub_ii, mul_ii, mul_si, div_ii, mod_ii, pow_ii, neg_i, eq_ii, ne_ii, eq_ss, ne_ss, lt_ii, le_ii, gt_ii, ge_ii, eq_bb, ne_bb, in_cs, tr_b, tr_i, ix_r, ix_t, ix_f, ix_s, sl_s, sl_r, set_r, len_s, len_r, len_f, len_t, abs_i, max_ii, min_ii, max_r, min_r, int_i, int_b, list_r, sum_r, all_r, isi_ii, isi_ib, isi_ss, aug_ii, aug_sub, sel_app, sel_index, sel_pop, sel_count, sel_join, app_r, count_s, wx_some, idx_r, wT_some, join_r, src_s, src_f, src_t, src_r, if_true, if_false, Bool.not_true, Bool.not_false, Bool.false_eq_true]
  rw [rv_r, hl, wl_some]
  simp only [we_c, we_v, we_bin, we_neg, we_cmp, we_chn, we_no, we_and, we_or, we_ife, we_tup, we_lst, we_ix, we_sl, we_bi, we_mt, we_call, we_lrg1, we_lrg2, we_lc, we_rv, we_rpl, ws_nil, ws_cons, wo_nil, wo_cons, wt_nil, wt_cons, wi_rng1, wi_rng2, wi_rng3, wi_of, wi_int, wS_asgN, wS_asgT, wS_asgS, wS_par2, wS_par3, wS_aug, wS_ex, wS_ret, wS_retN, wS_iff, wS_pass, wS_brk, wS_cont, wS_never, wS_nil, wS_cons, wS_for, wS_whl, wF_nx, wF_rt, wF_bk, wF_ct, wv_some, wb_some, wc_some, wm_some, wz_bl, wE_some, wN_some, wo_some, wo_none, wo_ite, List.getElem?_cons_zero, List.getElem?_cons_succ, List.set_cons_zero, List.set_cons_succ, List.map_cons, List.map_nil, List.cons_append, List.nil_append, List.append_nil, List.replicate_succ, List.replicate_zero, List.length_cons, List.length_nil, Bop.f, Cop.f, Bi.f, Im.f, wl_some, wj_some, wa_some, wbs_some, add_ii, add_ss, add_rr, sub_ii, mul_ii, mul_si, div_ii, mod_ii, pow_ii, neg_i, eq_ii, ne_ii, eq_ss, ne_ss, lt_ii, le_ii, gt_ii, ge_ii, eq_bb, ne_bb, in_cs, tr_b, tr_i, ix_r, ix_t, ix_f, ix_s, sl_s, sl_r, set_r, len_s, len_r, len_f, len_t, abs_i, max_ii, min_ii, max_r, min_r, int_i, int_b, list_r, sum_r, all_r, isi_ii, isi_ib, isi_ss, aug_ii, aug_sub, sel_app, sel_index, sel_pop, sel_count, sel_join, app_r, count_s, wx_some, idx_r, wT_some, join_r, src_s, src_f, src_t, src_r, if_true, if_false, Bool.not_true, Bool.not_false, Bool.false_eq_true]
  rw [lst_new, wl_some, ← List.map_reverse, strsD_map, wT_some, if_pos (by rw [sum_flat]; simp only [List.length_nil, Nat.mul_zero, Nat.add_zero]; rw [List.length_flatten, List.map_reverse, List.sum_reverse, ← List.length_flatten]; exact line_of hz), joinL_nil]
  exact h _ (List.prefix_append _ _)
end
theorem path_in_ok (p q : Nat) (l : List Nat) (hpl : PathTo p q l) (hn : p + q ≤ 2000) (h : ∀ T, S <+: T → Q (.str l.reverse) T) : Wp (run ds (k + 1) 6 [.int p, .int q] S) Q := by
  refine wp_run (d := d6) rfl rfl ?_
  rw [pibody, wS_cons]
  show WpS (evS (run ds k) pi0 [some (.int p), some (.int q), none, none] S) _
  simp only [pi0, we_c, we_v, we_bin, we_neg, we_cmp, we_chn, we_no, we_and, we_or, we_ife, we_tup, we_lst, we_ix, we_sl, we_bi, we_mt, we_call, we_lrg1, we_lrg2, we_lc, we_rv, we_rpl, ws_nil, ws_cons, wo_nil, wo_cons, wt_nil, wt_cons, wi_rng1, wi_rng2, wi_rng3, wi_of, wi_int, wS_asgN, wS_asgT, wS_asgS, wS_par2, wS_par3, wS_aug, wS_ex, wS_ret, wS_retN, wS_iff, wS_pass, wS_brk, wS_cont, wS_never, wS_nil, wS_cons, wS_for, wS_whl, wF_nx, wF_rt, wF_bk, wF_ct, wv_some, wb_some, wc_some, wm_some, wz_bl, wE_some, wN_some, wo_some, wo_none, wo_ite, List.getElem?_cons_zero, List.getElem?_cons_succ, List.set_cons_zero, List.set_cons_succ, List.map_cons, List.map_nil, List.cons_append, List.nil_append, List.append_nil, List.replicate_succ, List.replicate_zero, List.length_cons, List.length_nil, Bop.f, Cop.f, Bi.f, Im.f, wl_some, wj_some, wa_some, wbs_some, add_ii, add_ss, add_rr, sub_ii, mul_ii, mul_si, div_ii, mod_ii, pow_ii, neg_i, eq_ii, ne_ii, eq_ss, ne_ss, lt_ii, le_ii, gt_ii, ge_ii, eq_bb, ne_bb, in_cs, tr_b, tr_i, ix_r, ix_t, ix_f, ix_s, sl_s, sl_r, set_r, len_s, len_r, len_f, len_t, abs_i, max_ii, min_ii, max_r, min_r, int_i, int_b, list_r, sum_r, all_r, isi_ii, isi_ib, isi_ss, aug_ii, aug_sub, sel_app, sel_index, sel_pop, sel_count, sel_join, app_r, count_s, wx_some, idx_r, wT_some, join_r, src_s, src_f, src_t, src_r, if_true, if_false, Bool.not_true, Bool.not_false, Bool.false_eq_true]
  refine ⟨line_of (by decide), ?_⟩
  show WpS (evS (run ds k) pi1 [some (.int p), some (.int q), some (.ref S.length), none] (S ++ [.lst []])) _
  simp only [pi1, wS_whl]
  have hll := hpl.len
  refine wp_whiles (fun m e U => ∃ (p' q' : Nat) (r : List Nat) (fs : List (List Nat)) (x : Option D), m = p' + q' ∧ PathTo p' q' r ∧ l = fs.flatten ++ r ∧ (∀ z ∈ fs, z.reverse = z) ∧ p' + q' ≤ p + q ∧ fs.length ≤ p + q - (p' + q') ∧ S <+: U ∧ lstAt U S.length = some (fs.map D.str) ∧ e = [some (.int p'), some (.int q'), some (.ref S.length), x]) (fun m e U hP => ?_) fuel (p + q) _ _ (by show _ < 1000000000; omega) ⟨p, q, l, [], none, rfl, hpl, rfl, (by intro z hz; cases hz), Nat.le_refl _, Nat.zero_le _, List.prefix_append _ _, lst_new _ _, rfl⟩
  obtain ⟨p', q', r, fs, x, rfl, hr, hfl, hpal, hle, hfsl, hU, hl, rfl⟩ := hP
  have hpos := hr.pos
  simp only [we_c, we_v, we_bin, we_neg, we_cmp, we_chn, we_no, we_and, we_or, we_ife, we_tup, we_lst, we_ix, we_sl, we_bi, we_mt, we_call, we_lrg1, we_lrg2, we_lc, we_rv, we_rpl, ws_nil, ws_cons, wo_nil, wo_cons, wt_nil, wt_cons, wi_rng1, wi_rng2, wi_rng3, wi_of, wi_int, wS_asgN, wS_asgT, wS_asgS, wS_par2, wS_par3, wS_aug, wS_ex, wS_ret, wS_retN, wS_iff, wS_pass, wS_brk, wS_cont, wS_never, wS_nil, wS_cons, wS_for, wS_whl, wF_nx, wF_rt, wF_bk, wF_ct, wv_some, wb_some, wc_some, wm_some, wz_bl, wE_some, wN_some, wo_some, wo_none, wo_ite, List.getElem?_cons_zero, List.getElem?_cons_succ, List.set_cons_zero, List.set_cons_succ, List.map_cons, List.map_nil, List.cons_append, List.nil_append, List.append_nil, List.replicate_succ, List.replicate_zero, List.length_cons, List.length_nil, Bop.f, Cop.f, Bi.f, Im.f, wl_some, wj_some, wa_some, wbs_some, add_ii, add_ss, add_rr, sub_ii, mul_ii, mul_si, div_ii, mod_ii, pow_ii, neg_i, eq_ii, ne_ii, eq_ss, ne_ss, lt_ii, le_ii, gt_ii, ge_ii, eq_bb, ne_bb, in_cs, tr_b, tr_i, ix_r, ix_t, ix_f, ix_s, sl_s, sl_r, set_r, len_s, len_r, len_f, len_t, abs_i, max_ii, min_ii, max_r, min_r, int_i, int_b, list_r, sum_r, all_r, isi_ii, isi_ib, isi_ss, aug_ii, aug_sub, sel_app, sel_index, sel_pop, sel_count, sel_join, app_r, count_s, wx_some, idx_r, wT_some, join_r, src_s, src_f, src_t, src_r, if_true, if_false, Bool.not_true, Bool.not_false, Bool.false_eq_true, w_tru]
  rw [ne_t2, ne_one, tr_b, wb_some]
  refine ⟨line_of (by decide), line_of (by decide), ?_⟩
  by_cases c : p' = 1 ∧ q' = 1
  · rw [decide_eq_true c, if_neg (by decide)]
    obtain ⟨rfl, rfl⟩ := c
    have hr0 := hr.end_
    refine join_rev fs hl (by rw [hr0, List.append_nil] at hfl; rw [← hfl]; omega) fun T hT => ?_
    rw [wF_rt, flat_rev fs hpal]
    rw [hr0, List.append_nil] at hfl
    rw [← hfl]
    exact h T (hU.trans hT)
  · rw [decide_eq_false c, if_pos (show (!false) = true from rfl)]
    by_cases c2 : q' < p'
    · have em : ((p' : Int) - 1) / (q' : Nat) = (((p' - 1) / q' : Nat) : Int) := by rw [show ((p' : Nat) : Int) - 1 = ((p' - 1 : Nat) : Int) by omega, ← Int.natCast_ediv]
      have m1 : (p' - 1) / q' * q' ≤ p' - 1 := Nat.div_mul_le_self _ _
      have m2 : 1 ≤ (p' - 1) / q' := (Nat.le_div_iff_mul_le (by omega)).mpr (by omega)
      have m3 : 1 * q' ≤ (p' - 1) / q' * q' := Nat.mul_le_mul_right _ m2
      have m4 : (p' - 1) / q' ≤ p' - 1 := Nat.div_le_self _ _
      rw [if_pos (decide_eq_true (by omega)), if_pos ⟨by omega, log_small (by omega)⟩, hl, wl_some, em]
      generalize (p' - 1) / q' = mm at *
      rw [if_pos ⟨by omega, by omega, by omega, by rw [Int.toNat_natCast]; exact line_of (by omega)⟩, wl_some, if_pos (by rw [List.length_map]; exact Nat.lt_of_le_of_lt (show fs.length ≤ 10000 by omega) (by decide)), if_pos (mulOk_small (by omega)), Int.toNat_natCast, flat_one]
      obtain ⟨r2, e1, e2⟩ := hr.gts mm (by omega)
      refine ⟨p' - mm * q' + q', by omega, p' - mm * q', q', r2, fs ++ [List.replicate mm 116], some (.int (mm : Nat)), rfl, e2, ?_, ?_, by omega, ?_, pre_set hU (Nat.le_refl _), ?_, ?_⟩
      · rw [List.flatten_append, hfl, e1, List.append_assoc]; simp
      · intro z hz
        rcases List.mem_append.mp hz with e | e
        · exact hpal z e
        · rw [List.mem_singleton.mp e, List.reverse_replicate]
      · rw [List.length_append, List.length_singleton]; omega
      · rw [lst_set hl, List.map_append]; rfl
      · rw [show ((p' : Nat) : Int) - (mm : Nat) * (q' : Nat) = ((p' - mm * q' : Nat) : Int) by rw [Int.natCast_sub (by omega), Int.natCast_mul]]
    · have hne := hr.lt c
      have em : ((q' : Int) - 1) / (p' : Nat) = (((q' - 1) / p' : Nat) : Int) := by rw [show ((q' : Nat) : Int) - 1 = ((q' - 1 : Nat) : Int) by omega, ← Int.natCast_ediv]
      have m1 : (q' - 1) / p' * p' ≤ q' - 1 := Nat.div_mul_le_self _ _
      have m2 : 1 ≤ (q' - 1) / p' := (Nat.le_div_iff_mul_le (by omega)).mpr (by omega)
      have m3 : 1 * p' ≤ (q' - 1) / p' * p' := Nat.mul_le_mul_right _ m2
      have m4 : (q' - 1) / p' ≤ q' - 1 := Nat.div_le_self _ _
      rw [if_neg (by rw [decide_eq_true_eq]; omega), if_pos ⟨by omega, log_small (by omega)⟩, hl, wl_some, em]
      generalize (q' - 1) / p' = mm at *
      rw [if_pos ⟨by omega, by omega, by omega, by rw [Int.toNat_natCast]; exact line_of (by omega)⟩, wl_some, if_pos (by rw [List.length_map]; exact Nat.lt_of_le_of_lt (show fs.length ≤ 10000 by omega) (by decide)), if_pos (mulOk_small (by omega)), Int.toNat_natCast, flat_one]
      obtain ⟨r2, e1, e2⟩ := hr.les mm (by omega)
      refine ⟨p' + (q' - mm * p'), by omega, p', q' - mm * p', r2, fs ++ [List.replicate mm 115], some (.int (mm : Nat)), rfl, e2, ?_, ?_, by omega, ?_, pre_set hU (Nat.le_refl _), ?_, ?_⟩
      · rw [List.flatten_append, hfl, e1, List.append_assoc]; simp
      · intro z hz
        rcases List.mem_append.mp hz with e | e
        · exact hpal z e
        · rw [List.mem_singleton.mp e, List.reverse_replicate]
      · rw [List.length_append, List.length_singleton]; omega
      · rw [lst_set hl, List.map_append]; rfl
      · rw [show ((q' : Nat) : Int) - (mm : Nat) * (p' : Nat) = ((q' - mm * p' : Nat) : Int) by rw [Int.natCast_sub (by omega), Int.natCast_mul]]
theorem path_of_ok (p q : Nat) (l : List Nat) (hpl : PathTo p q l) (hg : Nat.gcd p q = 1) (hn : p + q ≤ 2000) (h : ∀ T, S <+: T → Q (.str l.reverse) T) : Wp (run ds (k + 4) 19 [.int p, .int q] S) Q := by
  have hpos := hpl.pos
  refine wp_run (d := d19) rfl rfl ?_
  simp only [d19, we_c, we_v, we_bin, we_neg, we_cmp, we_chn, we_no, we_and, we_or, we_ife, we_tup, we_lst, we_ix, we_sl, we_bi, we_mt, we_call, we_lrg1, we_lrg2, we_lc, we_rv, we_rpl, ws_nil, ws_cons, wo_nil, wo_cons, wt_nil, wt_cons, wi_rng1, wi_rng2, wi_rng3, wi_of, wi_int, wS_asgN, wS_asgT, wS_asgS, wS_par2, wS_par3, wS_aug, wS_ex, wS_ret, wS_retN, wS_iff, wS_pass, wS_brk, wS_cont, wS_never, wS_nil, wS_cons, wS_for, wS_whl, wF_nx, wF_rt, wF_bk, wF_ct, wv_some, wb_some, wc_some, wm_some, wz_bl, wE_some, wN_some, wo_some, wo_none, wo_ite, List.getElem?_cons_zero, List.getElem?_cons_succ, List.set_cons_zero, List.set_cons_succ, List.map_cons, List.map_nil, List.cons_append, List.nil_append, List.append_nil, List.replicate_succ, List.replicate_zero, List.length_cons, List.length_nil, Bop.f, Cop.f, Bi.f, Im.f, wl_some, wj_some, wa_some, wbs_some, add_ii, add_ss, add_rr, sub_ii, mul_ii, mul_si, div_ii, mod_ii, pow_ii, neg_i, eq_ii, ne_ii, eq_ss, ne_ss, lt_ii, le_ii, gt_ii, ge_ii, eq_bb, ne_bb, in_cs, tr_b, tr_i, ix_r, ix_t, ix_f, ix_s, sl_s, sl_r, set_r, len_s, len_r, len_f, len_t, abs_i, max_ii, min_ii, max_r, min_r, int_i, int_b, list_r, sum_r, all_r, isi_ii, isi_ib, isi_ss, aug_ii, aug_sub, sel_app, sel_index, sel_pop, sel_count, sel_join, app_r, count_s, wx_some, idx_r, wT_some, join_r, src_s, src_f, src_t, src_r, if_true, if_false, Bool.not_true, Bool.not_false, Bool.false_eq_true]
  refine require_wide_ok p q hg hn hpos.1 hpos.2 ?_
  exact path_in_ok (k := k + 2) p q l hpl hn h
/-! ### the law's path -/
theorem law_path_ok (p q : Nat) (l : List Nat) (hpl : PathTo p q l) (hn : p + q ≤ 2000) (h : ∀ T, S <+: T → Q (.str l.reverse) T) : Wp (run ds (k + 1) 29 [.int p, .int q] S) Q := by
  refine wp_run (d := d29) rfl rfl ?_
  rw [lpbody, wS_cons]
  show WpS (evS (run ds k) lp0 [some (.int p), some (.int q), none] S) _
  simp only [lp0, we_c, we_v, we_bin, we_neg, we_cmp, we_chn, we_no, we_and, we_or, we_ife, we_tup, we_lst, we_ix, we_sl, we_bi, we_mt, we_call, we_lrg1, we_lrg2, we_lc, we_rv, we_rpl, ws_nil, ws_cons, wo_nil, wo_cons, wt_nil, wt_cons, wi_rng1, wi_rng2, wi_rng3, wi_of, wi_int, wS_asgN, wS_asgT, wS_asgS, wS_par2, wS_par3, wS_aug, wS_ex, wS_ret, wS_retN, wS_iff, wS_pass, wS_brk, wS_cont, wS_never, wS_nil, wS_cons, wS_for, wS_whl, wF_nx, wF_rt, wF_bk, wF_ct, wv_some, wb_some, wc_some, wm_some, wz_bl, wE_some, wN_some, wo_some, wo_none, wo_ite, List.getElem?_cons_zero, List.getElem?_cons_succ, List.set_cons_zero, List.set_cons_succ, List.map_cons, List.map_nil, List.cons_append, List.nil_append, List.append_nil, List.replicate_succ, List.replicate_zero, List.length_cons, List.length_nil, Bop.f, Cop.f, Bi.f, Im.f, wl_some, wj_some, wa_some, wbs_some, add_ii, add_ss, add_rr, sub_ii, mul_ii, mul_si, div_ii, mod_ii, pow_ii, neg_i, eq_ii, ne_ii, eq_ss, ne_ss, lt_ii, le_ii, gt_ii, ge_ii, eq_bb, ne_bb, in_cs, tr_b, tr_i, ix_r, ix_t, ix_f, ix_s, sl_s, sl_r, set_r, len_s, len_r, len_f, len_t, abs_i, max_ii, min_ii, max_r, min_r, int_i, int_b, list_r, sum_r, all_r, isi_ii, isi_ib, isi_ss, aug_ii, aug_sub, sel_app, sel_index, sel_pop, sel_count, sel_join, app_r, count_s, wx_some, idx_r, wT_some, join_r, src_s, src_f, src_t, src_r, if_true, if_false, Bool.not_true, Bool.not_false, Bool.false_eq_true]
  refine ⟨line_of (by decide), ?_⟩
  show WpS (evS (run ds k) lp1 [some (.int p), some (.int q), some (.ref S.length)] (S ++ [.lst []])) _
  simp only [lp1, wS_whl]
  have hll := hpl.len
  refine wp_whiles (fun m e U => ∃ (p' q' : Nat) (r cs : List Nat), m = p' + q' ∧ PathTo p' q' r ∧ l = cs ++ r ∧ p' + q' ≤ p + q ∧ S <+: U ∧ lstAt U S.length = some (cs.map fun c => D.str [c]) ∧ e = [some (.int p'), some (.int q'), some (.ref S.length)]) (fun m e U hP => ?_) fuel (p + q) _ _ (by show _ < 1000000000; omega) ⟨p, q, l, [], rfl, hpl, rfl, Nat.le_refl _, List.prefix_append _ _, lst_new _ _, rfl⟩
  obtain ⟨p', q', r, cs, rfl, hr, hfl, hle, hU, hl, rfl⟩ := hP
  have hpos := hr.pos
  have hcl : cs.length ≤ 2000 := by
    have := congrArg List.length hfl
    rw [List.length_append] at this
    omega
  simp only [we_c, we_v, we_bin, we_neg, we_cmp, we_chn, we_no, we_and, we_or, we_ife, we_tup, we_lst, we_ix, we_sl, we_bi, we_mt, we_call, we_lrg1, we_lrg2, we_lc, we_rv, we_rpl, ws_nil, ws_cons, wo_nil, wo_cons, wt_nil, wt_cons, wi_rng1, wi_rng2, wi_rng3, wi_of, wi_int, wS_asgN, wS_asgT, wS_asgS, wS_par2, wS_par3, wS_aug, wS_ex, wS_ret, wS_retN, wS_iff, wS_pass, wS_brk, wS_cont, wS_never, wS_nil, wS_cons, wS_for, wS_whl, wF_nx, wF_rt, wF_bk, wF_ct, wv_some, wb_some, wc_some, wm_some, wz_bl, wE_some, wN_some, wo_some, wo_none, wo_ite, List.getElem?_cons_zero, List.getElem?_cons_succ, List.set_cons_zero, List.set_cons_succ, List.map_cons, List.map_nil, List.cons_append, List.nil_append, List.append_nil, List.replicate_succ, List.replicate_zero, List.length_cons, List.length_nil, Bop.f, Cop.f, Bi.f, Im.f, wl_some, wj_some, wa_some, wbs_some, add_ii, add_ss, add_rr, sub_ii, mul_ii, mul_si, div_ii, mod_ii, pow_ii, neg_i, eq_ii, ne_ii, eq_ss, ne_ss, lt_ii, le_ii, gt_ii, ge_ii, eq_bb, ne_bb, in_cs, tr_b, tr_i, ix_r, ix_t, ix_f, ix_s, sl_s, sl_r, set_r, len_s, len_r, len_f, len_t, abs_i, max_ii, min_ii, max_r, min_r, int_i, int_b, list_r, sum_r, all_r, isi_ii, isi_ib, isi_ss, aug_ii, aug_sub, sel_app, sel_index, sel_pop, sel_count, sel_join, app_r, count_s, wx_some, idx_r, wT_some, join_r, src_s, src_f, src_t, src_r, if_true, if_false, Bool.not_true, Bool.not_false, Bool.false_eq_true, w_tru]
  rw [ne_t2, ne_one, tr_b, wb_some]
  refine ⟨line_of (by decide), line_of (by decide), ?_⟩
  by_cases c : p' = 1 ∧ q' = 1
  · rw [decide_eq_true c, if_neg (by decide)]
    obtain ⟨rfl, rfl⟩ := c
    have hr0 := hr.end_
    rw [hr0, List.append_nil] at hfl
    subst hfl
    simp only [lp2, we_c, we_v, we_bin, we_neg, we_cmp, we_chn, we_no, we_and, we_or, we_ife, we_tup, we_lst, we_ix, we_sl, we_bi, we_mt, we_call, we_lrg1, we_lrg2, we_lc, we_rv, we_rpl, ws_nil, ws_cons, wo_nil, wo_cons, wt_nil, wt_cons, wi_rng1, wi_rng2, wi_rng3, wi_of, wi_int, wS_asgN, wS_asgT, wS_asgS, wS_par2, wS_par3, wS_aug, wS_ex, wS_ret, wS_retN, wS_iff, wS_pass, wS_brk, wS_cont, wS_never, wS_nil, wS_cons, wS_for, wS_whl, wF_nx, wF_rt, wF_bk, wF_ct, wv_some, wb_some, wc_some, wm_some, wz_bl, wE_some, wN_some, wo_some, wo_none, wo_ite, List.getElem?_cons_zero, List.getElem?_cons_succ, List.set_cons_zero, List.set_cons_succ, List.map_cons, List.map_nil, List.cons_append, List.nil_append, List.append_nil, List.replicate_succ, List.replicate_zero, List.length_cons, List.length_nil, Bop.f, Cop.f, Bi.f, Im.f, wl_some, wj_some, wa_some, wbs_some, add_ii, add_ss, add_rr, sub_ii, mul_ii, mul_si, div_ii, mod_ii, pow_ii, neg_i, eq_ii, ne_ii, eq_ss, ne_ss, lt_ii, le_ii, gt_ii, ge_ii, eq_bb, ne_bb, in_cs, tr_b, tr_i, ix_r, ix_t, ix_f, ix_s, sl_s, sl_r, set_r, len_s, len_r, len_f, len_t, abs_i, max_ii, min_ii, max_r, min_r, int_i, int_b, list_r, sum_r, all_r, isi_ii, isi_ib, isi_ss, aug_ii, aug_sub, sel_app, sel_index, sel_pop, sel_count, sel_join, app_r, count_s, wx_some, idx_r, wT_some, join_r, src_s, src_f, src_t, src_r, if_true, if_false, Bool.not_true, Bool.not_false, Bool.false_eq_true]
    rw [rv_r, hl, wl_some]
    simp only [we_c, we_v, we_bin, we_neg, we_cmp, we_chn, we_no, we_and, we_or, we_ife, we_tup, we_lst, we_ix, we_sl, we_bi, we_mt, we_call, we_lrg1, we_lrg2, we_lc, we_rv, we_rpl, ws_nil, ws_cons, wo_nil, wo_cons, wt_nil, wt_cons, wi_rng1, wi_rng2, wi_rng3, wi_of, wi_int, wS_asgN, wS_asgT, wS_asgS, wS_par2, wS_par3, wS_aug, wS_ex, wS_ret, wS_retN, wS_iff, wS_pass, wS_brk, wS_cont, wS_never, wS_nil, wS_cons, wS_for, wS_whl, wF_nx, wF_rt, wF_bk, wF_ct, wv_some, wb_some, wc_some, wm_some, wz_bl, wE_some, wN_some, wo_some, wo_none, wo_ite, List.getElem?_cons_zero, List.getElem?_cons_succ, List.set_cons_zero, List.set_cons_succ, List.map_cons, List.map_nil, List.cons_append, List.nil_append, List.append_nil, List.replicate_succ, List.replicate_zero, List.length_cons, List.length_nil, Bop.f, Cop.f, Bi.f, Im.f, wl_some, wj_some, wa_some, wbs_some, add_ii, add_ss, add_rr, sub_ii, mul_ii, mul_si, div_ii, mod_ii, pow_ii, neg_i, eq_ii, ne_ii, eq_ss, ne_ss, lt_ii, le_ii, gt_ii, ge_ii, eq_bb, ne_bb, in_cs, tr_b, tr_i, ix_r, ix_t, ix_f, ix_s, sl_s, sl_r, set_r, len_s, len_r, len_f, len_t, abs_i, max_ii, min_ii, max_r, min_r, int_i, int_b, list_r, sum_r, all_r, isi_ii, isi_ib, isi_ss, aug_ii, aug_sub, sel_app, sel_index, sel_pop, sel_count, sel_join, app_r, count_s, wx_some, idx_r, wT_some, join_r, src_s, src_f, src_t, src_r, if_true, if_false, Bool.not_true, Bool.not_false, Bool.false_eq_true]
    rw [← List.map_reverse, join_ones2 _ _ (lst_new _ _) (by rw [List.length_reverse]; omega)]
    exact h _ (hU.trans (List.prefix_append _ _))
  · rw [decide_eq_false c, if_pos (show (!false) = true from rfl)]
    rw [hl, wl_some]
    have h16 : (cs.map fun c => D.str [c]).length < line := by rw [List.length_map]; show _ < 16777216; omega
    by_cases c2 : q' < p'
    · have d : decide (((q' : Nat) : Int) < (p' : Nat)) = true := decide_eq_true (by omega)
      rw [if_pos d, wl_some, if_pos h16, if_pos d]
      simp only [setT, setTs, wE_some, List.set_cons_zero, List.set_cons_succ]
      obtain ⟨r2, e1, e2⟩ := hr.gt c2
      refine ⟨line_of (by decide), p' - q' + q', by omega, p' - q', q', r2, cs ++ [116], rfl, e2, ?_, by omega, pre_set hU (Nat.le_refl _), ?_, ?_⟩
      · rw [hfl, e1, List.append_assoc]; rfl
      · rw [lst_set hl, List.map_append]; rfl
      · rw [show ((p' : Nat) : Int) - (q' : Nat) = ((p' - q' : Nat) : Int) by omega]
    · have d : ¬ decide (((q' : Nat) : Int) < (p' : Nat)) = true := by rw [decide_eq_true_eq]; omega
      have hne := hr.lt c
      rw [if_neg d, wl_some, if_pos h16, if_neg d]
      simp only [setT, setTs, wE_some, List.set_cons_zero, List.set_cons_succ]
      obtain ⟨r2, e1, e2⟩ := hr.le (by omega) c
      refine ⟨line_of (by decide), p' + (q' - p'), by omega, p', q' - p', r2, cs ++ [115], rfl, e2, ?_, by omega, pre_set hU (Nat.le_refl _), ?_, ?_⟩
      · rw [hfl, e1, List.append_assoc]; rfl
      · rw [lst_set hl, List.map_append]; rfl
      · rw [show ((q' : Nat) : Int) - (p' : Nat) = ((q' - p' : Nat) : Int) by omega]
end K85

set_option Elab.async false
set_option linter.all false
set_option maxRecDepth 100000
set_option maxHeartbeats 1000000
namespace K85
open Mi Lw
variable {k : Nat} {S : Mem} {Q : D → Mem → Prop}
theorem slope_of_path_ok (cs : List Nat) (hl : cs.length ≤ 500) (hc : ∀ c ∈ cs, c = 116 ∨ c = 115) (h : ∀ T, S <+: T → Q (.tup [.int (cs.foldl stepP (1, 1)).1, .int (cs.foldl stepP (1, 1)).2]) T) : Wp (run ds (k + 2) 20 [.str cs] S) Q := by
  refine wp_run (d := d20) rfl rfl ?_
  simp only [d20, we_c, we_v, we_bin, we_neg, we_cmp, we_chn, we_no, we_and, we_or, we_ife, we_tup, we_lst, we_ix, we_sl, we_bi, we_mt, we_call, we_lrg1, we_lrg2, we_lc, we_rv, we_rpl, ws_nil, ws_cons, wo_nil, wo_cons, wt_nil, wt_cons, wi_rng1, wi_rng2, wi_rng3, wi_of, wi_int, wS_asgN, wS_asgT, wS_asgS, wS_par2, wS_par3, wS_aug, wS_ex, wS_ret, wS_retN, wS_iff, wS_pass, wS_brk, wS_cont, wS_never, wS_nil, wS_cons, wS_for, wS_whl, wF_nx, wF_rt, wF_bk, wF_ct, wv_some, wb_some, wc_some, wm_some, wz_bl, wE_some, wN_some, wo_some, wo_none, wo_ite, List.getElem?_cons_zero, List.getElem?_cons_succ, List.set_cons_zero, List.set_cons_succ, List.map_cons, List.map_nil, List.cons_append, List.nil_append, List.append_nil, List.replicate_succ, List.replicate_zero, List.length_cons, List.length_nil, Bop.f, Cop.f, Bi.f, Im.f, wl_some, wj_some, wa_some, wbs_some, add_ii, add_ss, add_rr, sub_ii, mul_ii, mul_si, div_ii, mod_ii, pow_ii, neg_i, eq_ii, ne_ii, eq_ss, ne_ss, lt_ii, le_ii, gt_ii, ge_ii, eq_bb, ne_bb, in_cs, tr_b, tr_i, ix_r, ix_t, ix_f, ix_s, sl_s, sl_r, set_r, len_s, len_r, len_f, len_t, abs_i, max_ii, min_ii, max_r, min_r, int_i, int_b, list_r, sum_r, all_r, isi_ii, isi_ib, isi_ss, aug_ii, aug_sub, sel_app, sel_index, sel_pop, sel_count, sel_join, app_r, count_s, wx_some, idx_r, wT_some, join_r, src_s, src_f, src_t, src_r, if_true, if_false, Bool.not_true, Bool.not_false, Bool.false_eq_true]
  refine require_path_ok cs hl hc fun T hp => ?_
  simp only [setT, setTs, we_c, we_v, we_bin, we_neg, we_cmp, we_chn, we_no, we_and, we_or, we_ife, we_tup, we_lst, we_ix, we_sl, we_bi, we_mt, we_call, we_lrg1, we_lrg2, we_lc, we_rv, we_rpl, ws_nil, ws_cons, wo_nil, wo_cons, wt_nil, wt_cons, wi_rng1, wi_rng2, wi_rng3, wi_of, wi_int, wS_asgN, wS_asgT, wS_asgS, wS_par2, wS_par3, wS_aug, wS_ex, wS_ret, wS_retN, wS_iff, wS_pass, wS_brk, wS_cont, wS_never, wS_nil, wS_cons, wS_for, wS_whl, wF_nx, wF_rt, wF_bk, wF_ct, wv_some, wb_some, wc_some, wm_some, wz_bl, wE_some, wN_some, wo_some, wo_none, wo_ite, List.getElem?_cons_zero, List.getElem?_cons_succ, List.set_cons_zero, List.set_cons_succ, List.map_cons, List.map_nil, List.cons_append, List.nil_append, List.append_nil, List.replicate_succ, List.replicate_zero, List.length_cons, List.length_nil, Bop.f, Cop.f, Bi.f, Im.f, wl_some, wj_some, wa_some, wbs_some, add_ii, add_ss, add_rr, sub_ii, mul_ii, mul_si, div_ii, mod_ii, pow_ii, neg_i, eq_ii, ne_ii, eq_ss, ne_ss, lt_ii, le_ii, gt_ii, ge_ii, eq_bb, ne_bb, in_cs, tr_b, tr_i, ix_r, ix_t, ix_f, ix_s, sl_s, sl_r, set_r, len_s, len_r, len_f, len_t, abs_i, max_ii, min_ii, max_r, min_r, int_i, int_b, list_r, sum_r, all_r, isi_ii, isi_ib, isi_ss, aug_ii, aug_sub, sel_app, sel_index, sel_pop, sel_count, sel_join, app_r, count_s, wx_some, idx_r, wT_some, join_r, src_s, src_f, src_t, src_r, if_true, if_false, Bool.not_true, Bool.not_false, Bool.false_eq_true]
  refine ⟨line_of (by decide), ?_⟩
  refine wp_turns (cs.map fun c => D.str [c]) (fun i e U => U = T ∧ ∃ x, e = [some (.str cs), some (.int ((cs.take i).foldl stepP (1, 1)).1), some (.int ((cs.take i).foldl stepP (1, 1)).2), x]) (fun _ _ _ _ => rfl) (fun i d e U hx ⟨hU, x, he⟩ => ?_) (fun e U ⟨hU, x, he⟩ => ?_) fuel 0 _ _ (by rw [List.length_map]; show _ < 1000000000; omega) (Nat.zero_le _) ⟨rfl, _, rfl⟩
  · subst he
    rw [List.getElem?_map] at hx
    cases hci : cs[i]? with
    | none => rw [hci] at hx; cases hx
    | some c =>
      rw [hci] at hx
      cases hx
      simp only [setT, we_c, we_v, we_bin, we_neg, we_cmp, we_chn, we_no, we_and, we_or, we_ife, we_tup, we_lst, we_ix, we_sl, we_bi, we_mt, we_call, we_lrg1, we_lrg2, we_lc, we_rv, we_rpl, ws_nil, ws_cons, wo_nil, wo_cons, wt_nil, wt_cons, wi_rng1, wi_rng2, wi_rng3, wi_of, wi_int, wS_asgN, wS_asgT, wS_asgS, wS_par2, wS_par3, wS_aug, wS_ex, wS_ret, wS_retN, wS_iff, wS_pass, wS_brk, wS_cont, wS_never, wS_nil, wS_cons, wS_for, wS_whl, wF_nx, wF_rt, wF_bk, wF_ct, wv_some, wb_some, wc_some, wm_some, wz_bl, wE_some, wN_some, wo_some, wo_none, wo_ite, List.getElem?_cons_zero, List.getElem?_cons_succ, List.set_cons_zero, List.set_cons_succ, List.map_cons, List.map_nil, List.cons_append, List.nil_append, List.append_nil, List.replicate_succ, List.replicate_zero, List.length_cons, List.length_nil, Bop.f, Cop.f, Bi.f, Im.f, wl_some, wj_some, wa_some, wbs_some, add_ii, add_ss, add_rr, sub_ii, mul_ii, mul_si, div_ii, mod_ii, pow_ii, neg_i, eq_ii, ne_ii, eq_ss, ne_ss, lt_ii, le_ii, gt_ii, ge_ii, eq_bb, ne_bb, in_cs, tr_b, tr_i, ix_r, ix_t, ix_f, ix_s, sl_s, sl_r, set_r, len_s, len_r, len_f, len_t, abs_i, max_ii, min_ii, max_r, min_r, int_i, int_b, list_r, sum_r, all_r, isi_ii, isi_ib, isi_ss, aug_ii, aug_sub, sel_app, sel_index, sel_pop, sel_count, sel_join, app_r, count_s, wx_some, idx_r, wT_some, join_r, src_s, src_f, src_t, src_r, if_true, if_false, Bool.not_true, Bool.not_false, Bool.false_eq_true]
      have ht : cs.take (i + 1) = cs.take i ++ [c] := by rw [List.take_add_one, hci]; rfl
      rw [ht, List.foldl_append]
      generalize (cs.take i).foldl stepP (1, 1) = s
      obtain ⟨a, b⟩ := s
      rcases hc c (List.mem_of_getElem? hci) with e | e
      · subst e
        rw [if_pos (by decide)]
        exact ⟨hU, _, rfl⟩
      · subst e
        rw [if_neg (by decide)]
        refine ⟨hU, some (.str [115]), ?_⟩
        show _ = [some (D.str cs), some (D.int ((a : Nat) : Int)), some (D.int ((a + b : Nat) : Int)), some (D.str [115])]
        rw [show ((a + b : Nat) : Int) = ((b : Nat) : Int) + (a : Nat) by omega]
  · subst he hU
    rw [List.length_map, List.take_length]
    simp only [we_c, we_v, we_bin, we_neg, we_cmp, we_chn, we_no, we_and, we_or, we_ife, we_tup, we_lst, we_ix, we_sl, we_bi, we_mt, we_call, we_lrg1, we_lrg2, we_lc, we_rv, we_rpl, ws_nil, ws_cons, wo_nil, wo_cons, wt_nil, wt_cons, wi_rng1, wi_rng2, wi_rng3, wi_of, wi_int, wS_asgN, wS_asgT, wS_asgS, wS_par2, wS_par3, wS_aug, wS_ex, wS_ret, wS_retN, wS_iff, wS_pass, wS_brk, wS_cont, wS_never, wS_nil, wS_cons, wS_for, wS_whl, wF_nx, wF_rt, wF_bk, wF_ct, wv_some, wb_some, wc_some, wm_some, wz_bl, wE_some, wN_some, wo_some, wo_none, wo_ite, List.getElem?_cons_zero, List.getElem?_cons_succ, List.set_cons_zero, List.set_cons_succ, List.map_cons, List.map_nil, List.cons_append, List.nil_append, List.append_nil, List.replicate_succ, List.replicate_zero, List.length_cons, List.length_nil, Bop.f, Cop.f, Bi.f, Im.f, wl_some, wj_some, wa_some, wbs_some, add_ii, add_ss, add_rr, sub_ii, mul_ii, mul_si, div_ii, mod_ii, pow_ii, neg_i, eq_ii, ne_ii, eq_ss, ne_ss, lt_ii, le_ii, gt_ii, ge_ii, eq_bb, ne_bb, in_cs, tr_b, tr_i, ix_r, ix_t, ix_f, ix_s, sl_s, sl_r, set_r, len_s, len_r, len_f, len_t, abs_i, max_ii, min_ii, max_r, min_r, int_i, int_b, list_r, sum_r, all_r, isi_ii, isi_ib, isi_ss, aug_ii, aug_sub, sel_app, sel_index, sel_pop, sel_count, sel_join, app_r, count_s, wx_some, idx_r, wT_some, join_r, src_s, src_f, src_t, src_r, if_true, if_false, Bool.not_true, Bool.not_false, Bool.false_eq_true]
    exact ⟨line_of (by decide), h U hp⟩
theorem flat_map (w : List Nat) (f : Nat → List Nat) : (w.map f).flatten = w.flatMap f := (List.flatMap_def ..).symm
theorem sub_len (w : List Nat) (y : Nat) : (w.flatMap fun c => if c = y then [114, 117] else [c]).length ≤ 2 * w.length := by
  induction w with
  | nil => exact Nat.le_refl _
  | cons c r ih =>
    rw [List.flatMap_cons, List.length_append, List.length_cons]
    by_cases e : c = y
    · rw [if_pos e]; simp only [List.length_cons, List.length_nil]; omega
    · rw [if_neg e]; simp only [List.length_cons, List.length_nil]; omega
theorem behind_letter_ok (w : List Nat) (c : Nat) (hw : w.length ≤ 10000) (hc : c = 116 ∨ c = 115) (h : ∀ T, S <+: T → Q (.str (subC w c)) T) : Wp (run ds (k + 1) 7 [.str w, .str [c]] S) Q := by
  refine wp_run (d := d7) rfl rfl ?_
  simp only [d7, we_c, we_v, we_bin, we_neg, we_cmp, we_chn, we_no, we_and, we_or, we_ife, we_tup, we_lst, we_ix, we_sl, we_bi, we_mt, we_call, we_lrg1, we_lrg2, we_lc, we_rv, we_rpl, ws_nil, ws_cons, wo_nil, wo_cons, wt_nil, wt_cons, wi_rng1, wi_rng2, wi_rng3, wi_of, wi_int, wS_asgN, wS_asgT, wS_asgS, wS_par2, wS_par3, wS_aug, wS_ex, wS_ret, wS_retN, wS_iff, wS_pass, wS_brk, wS_cont, wS_never, wS_nil, wS_cons, wS_for, wS_whl, wF_nx, wF_rt, wF_bk, wF_ct, wv_some, wb_some, wc_some, wm_some, wz_bl, wE_some, wN_some, wo_some, wo_none, wo_ite, List.getElem?_cons_zero, List.getElem?_cons_succ, List.set_cons_zero, List.set_cons_succ, List.map_cons, List.map_nil, List.cons_append, List.nil_append, List.append_nil, List.replicate_succ, List.replicate_zero, List.length_cons, List.length_nil, Bop.f, Cop.f, Bi.f, Im.f, wl_some, wj_some, wa_some, wbs_some, add_ii, add_ss, add_rr, sub_ii, mul_ii, mul_si, div_ii, mod_ii, pow_ii, neg_i, eq_ii, ne_ii, eq_ss, ne_ss, lt_ii, le_ii, gt_ii, ge_ii, eq_bb, ne_bb, in_cs, tr_b, tr_i, ix_r, ix_t, ix_f, ix_s, sl_s, sl_r, set_r, len_s, len_r, len_f, len_t, abs_i, max_ii, min_ii, max_r, min_r, int_i, int_b, list_r, sum_r, all_r, isi_ii, isi_ib, isi_ss, aug_ii, aug_sub, sel_app, sel_index, sel_pop, sel_count, sel_join, app_r, count_s, wx_some, idx_r, wT_some, join_r, src_s, src_f, src_t, src_r, if_true, if_false, Bool.not_true, Bool.not_false, Bool.false_eq_true]
  have go : ∀ y : Nat, (subC w c = w.flatMap fun c => if c = y then [114, 117] else [c]) → Wp (comps (Src.items (w.map fun c => D.str [c])) (fun d => setT (Tn.nm 4) d (wipeE [some (D.str w), some (D.str [c]), some (D.str [y]), none, none] [3, 4])) (evT (run ds k) Es.nil) (evE (run ds k) (E.ife (E.cmp Cop.eq (E.v 4) (E.v 2)) (E.c (D.str [114, 117])) (E.v 4))) S.length fuel 0 (S ++ [Cell.lst []])) fun x S2 => WpL (lstAt S2 S.length) fun xs => WpT (strsD xs) fun ts => if (List.map (fun x => x.length) ts).sum + ts.length * 0 ≤ line then Q (D.str (joinL [] ts)) S2 else False := fun y hy => by
    refine wp_map (fun d => match d with | .str [x] => .str (if x = y then [114, 117] else [x]) | _ => .non) (at_items _ _) (by rw [List.length_map]; exact line_of (by omega)) (fun d T hd hp => ?_) (fun T hp hl => ?_)
    · obtain ⟨x, h3, rfl⟩ := mem_str hd
      simp only [setT, wipeE, we_c, we_v, we_bin, we_neg, we_cmp, we_chn, we_no, we_and, we_or, we_ife, we_tup, we_lst, we_ix, we_sl, we_bi, we_mt, we_call, we_lrg1, we_lrg2, we_lc, we_rv, we_rpl, ws_nil, ws_cons, wo_nil, wo_cons, wt_nil, wt_cons, wi_rng1, wi_rng2, wi_rng3, wi_of, wi_int, wS_asgN, wS_asgT, wS_asgS, wS_par2, wS_par3, wS_aug, wS_ex, wS_ret, wS_retN, wS_iff, wS_pass, wS_brk, wS_cont, wS_never, wS_nil, wS_cons, wS_for, wS_whl, wF_nx, wF_rt, wF_bk, wF_ct, wv_some, wb_some, wc_some, wm_some, wz_bl, wE_some, wN_some, wo_some, wo_none, wo_ite, List.getElem?_cons_zero, List.getElem?_cons_succ, List.set_cons_zero, List.set_cons_succ, List.map_cons, List.map_nil, List.cons_append, List.nil_append, List.append_nil, List.replicate_succ, List.replicate_zero, List.length_cons, List.length_nil, Bop.f, Cop.f, Bi.f, Im.f, wl_some, wj_some, wa_some, wbs_some, add_ii, add_ss, add_rr, sub_ii, mul_ii, mul_si, div_ii, mod_ii, pow_ii, neg_i, eq_ii, ne_ii, eq_ss, ne_ss, lt_ii, le_ii, gt_ii, ge_ii, eq_bb, ne_bb, in_cs, tr_b, tr_i, ix_r, ix_t, ix_f, ix_s, sl_s, sl_r, set_r, len_s, len_r, len_f, len_t, abs_i, max_ii, min_ii, max_r, min_r, int_i, int_b, list_r, sum_r, all_r, isi_ii, isi_ib, isi_ss, aug_ii, aug_sub, sel_app, sel_index, sel_pop, sel_count, sel_join, app_r, count_s, wx_some, idx_r, wT_some, join_r, src_s, src_f, src_t, src_r, if_true, if_false, Bool.not_true, Bool.not_false, Bool.false_eq_true]
      by_cases e : x = y
      · rw [if_pos (by rw [decide_eq_true_eq, e])]
        exact ⟨by rw [if_pos e], List.prefix_refl _⟩
      · rw [if_neg (by rw [decide_eq_true_eq]; intro z; exact e (List.cons.inj z).1)]
        exact ⟨by rw [if_neg e], List.prefix_refl _⟩
    · have e1 : (w.map fun c => D.str [c]).map (fun d => match d with | .str [x] => .str (if x = y then [114, 117] else [x]) | _ => .non) = (w.map fun x => if x = y then [114, 117] else [x]).map D.str := by
        rw [List.map_map, List.map_map]; rfl
      rw [e1] at hl
      rw [hl, wl_some, strsD_map, wT_some, joinL_nil, flat_map, ← hy]
      rw [if_pos (by rw [sum_flat, flat_map, Nat.mul_zero, Nat.add_zero]; have := sub_len w y; exact line_of (by omega))]
      exact h T hp
  rcases hc with e | e
  · subst e
    rw [if_pos (by decide)]
    exact go 117 rfl
  · subst e
    rw [if_neg (by decide)]
    exact go 114 rfl
theorem PathTo.tail {p q : Nat} {l : List Nat} (h : PathTo p q l) : ∀ j, ∃ p' q', PathTo p' q' (l.drop j) ∧ p' + q' ≤ p + q := by
  induction h with
  | one => exact fun j => ⟨1, 1, by rw [List.drop_nil]; exact .one, Nat.le_refl _⟩
  | @t p q l h ih =>
    intro j
    cases j with
    | zero => exact ⟨_, _, .t h, Nat.le_refl _⟩
    | succ j =>
      obtain ⟨a, b, h1, h2⟩ := ih j
      exact ⟨a, b, h1, by omega⟩
  | @s p q l h ih =>
    intro j
    cases j with
    | zero => exact ⟨_, _, .s h, Nat.le_refl _⟩
    | succ j =>
      obtain ⟨a, b, h1, h2⟩ := ih j
      exact ⟨a, b, h1, by omega⟩
theorem fold_len {p q : Nat} {l : List Nat} (h : PathTo p q l) (i : Nat) : ((l.reverse.take i).foldl subC [114, 117]).length ≤ p + q := by
  have e : l.reverse.take i = (l.drop (l.length - i)).reverse := by rw [List.take_reverse]
  obtain ⟨a, b, h1, h2⟩ := PathTo.tail h (l.length - i)
  rw [e, h1.word, Lw.low_length]
  exact h2
theorem led_word_ok (p q : Nat) (l : List Nat) (hpl : PathTo p q l) (hn : p + q ≤ 2000) (hs : l.length ≤ 500) (h : ∀ T, S <+: T → Q (.str (lowR p q)) T) : Wp (run ds (k + 2) 21 [.str [114, 117], .str l.reverse] S) Q := by
  refine wp_run (d := d21) rfl rfl ?_
  simp only [d21, we_c, we_v, we_bin, we_neg, we_cmp, we_chn, we_no, we_and, we_or, we_ife, we_tup, we_lst, we_ix, we_sl, we_bi, we_mt, we_call, we_lrg1, we_lrg2, we_lc, we_rv, we_rpl, ws_nil, ws_cons, wo_nil, wo_cons, wt_nil, wt_cons, wi_rng1, wi_rng2, wi_rng3, wi_of, wi_int, wS_asgN, wS_asgT, wS_asgS, wS_par2, wS_par3, wS_aug, wS_ex, wS_ret, wS_retN, wS_iff, wS_pass, wS_brk, wS_cont, wS_never, wS_nil, wS_cons, wS_for, wS_whl, wF_nx, wF_rt, wF_bk, wF_ct, wv_some, wb_some, wc_some, wm_some, wz_bl, wE_some, wN_some, wo_some, wo_none, wo_ite, List.getElem?_cons_zero, List.getElem?_cons_succ, List.set_cons_zero, List.set_cons_succ, List.map_cons, List.map_nil, List.cons_append, List.nil_append, List.append_nil, List.replicate_succ, List.replicate_zero, List.length_cons, List.length_nil, Bop.f, Cop.f, Bi.f, Im.f, wl_some, wj_some, wa_some, wbs_some, add_ii, add_ss, add_rr, sub_ii, mul_ii, mul_si, div_ii, mod_ii, pow_ii, neg_i, eq_ii, ne_ii, eq_ss, ne_ss, lt_ii, le_ii, gt_ii, ge_ii, eq_bb, ne_bb, in_cs, tr_b, tr_i, ix_r, ix_t, ix_f, ix_s, sl_s, sl_r, set_r, len_s, len_r, len_f, len_t, abs_i, max_ii, min_ii, max_r, min_r, int_i, int_b, list_r, sum_r, all_r, isi_ii, isi_ib, isi_ss, aug_ii, aug_sub, sel_app, sel_index, sel_pop, sel_count, sel_join, app_r, count_s, wx_some, idx_r, wT_some, join_r, src_s, src_f, src_t, src_r, if_true, if_false, Bool.not_true, Bool.not_false, Bool.false_eq_true]
  refine require_step_word_ok [114, 117] (by decide) (by decide) (by intro c hc; rcases List.mem_cons.mp hc with e | e; exact .inl e; exact .inr (List.mem_singleton.mp e)) fun T hp => ?_
  refine require_path_ok l.reverse (by rw [List.length_reverse]; exact hs) (fun c hc => hpl.letters c (List.mem_reverse.mp hc)) fun T2 hp2 => ?_
  refine wp_turns (l.reverse.map fun c => D.str [c]) (fun i e U => S <+: U ∧ ∃ x, e = [some (.str ((l.reverse.take i).foldl subC [114, 117])), some (.str l.reverse), x]) (fun _ _ _ _ => rfl) (fun i d e U hx ⟨hU, x, he⟩ => ?_) (fun e U ⟨hU, x, he⟩ => ?_) fuel 0 _ _ (by rw [List.length_map, List.length_reverse]; show _ < 1000000000; omega) (Nat.zero_le _) ⟨hp.trans hp2, _, rfl⟩
  · subst he
    rw [List.getElem?_map] at hx
    cases hci : l.reverse[i]? with
    | none => rw [hci] at hx; cases hx
    | some c =>
      rw [hci] at hx
      cases hx
      simp only [setT, we_c, we_v, we_bin, we_neg, we_cmp, we_chn, we_no, we_and, we_or, we_ife, we_tup, we_lst, we_ix, we_sl, we_bi, we_mt, we_call, we_lrg1, we_lrg2, we_lc, we_rv, we_rpl, ws_nil, ws_cons, wo_nil, wo_cons, wt_nil, wt_cons, wi_rng1, wi_rng2, wi_rng3, wi_of, wi_int, wS_asgN, wS_asgT, wS_asgS, wS_par2, wS_par3, wS_aug, wS_ex, wS_ret, wS_retN, wS_iff, wS_pass, wS_brk, wS_cont, wS_never, wS_nil, wS_cons, wS_for, wS_whl, wF_nx, wF_rt, wF_bk, wF_ct, wv_some, wb_some, wc_some, wm_some, wz_bl, wE_some, wN_some, wo_some, wo_none, wo_ite, List.getElem?_cons_zero, List.getElem?_cons_succ, List.set_cons_zero, List.set_cons_succ, List.map_cons, List.map_nil, List.cons_append, List.nil_append, List.append_nil, List.replicate_succ, List.replicate_zero, List.length_cons, List.length_nil, Bop.f, Cop.f, Bi.f, Im.f, wl_some, wj_some, wa_some, wbs_some, add_ii, add_ss, add_rr, sub_ii, mul_ii, mul_si, div_ii, mod_ii, pow_ii, neg_i, eq_ii, ne_ii, eq_ss, ne_ss, lt_ii, le_ii, gt_ii, ge_ii, eq_bb, ne_bb, in_cs, tr_b, tr_i, ix_r, ix_t, ix_f, ix_s, sl_s, sl_r, set_r, len_s, len_r, len_f, len_t, abs_i, max_ii, min_ii, max_r, min_r, int_i, int_b, list_r, sum_r, all_r, isi_ii, isi_ib, isi_ss, aug_ii, aug_sub, sel_app, sel_index, sel_pop, sel_count, sel_join, app_r, count_s, wx_some, idx_r, wT_some, join_r, src_s, src_f, src_t, src_r, if_true, if_false, Bool.not_true, Bool.not_false, Bool.false_eq_true]
      have h1 := fold_len hpl i
      have h2 := fold_len hpl (i + 1)
      have ht : l.reverse.take (i + 1) = l.reverse.take i ++ [c] := by rw [List.take_add_one, hci]; rfl
      rw [ht, List.foldl_append] at h2 ⊢
      refine behind_letter_ok _ c (by omega) (hpl.letters c (List.mem_reverse.mp (List.mem_of_getElem? hci))) fun V hV => ?_
      have h2' : (subC ((l.reverse.take i).foldl subC [114, 117]) c).length ≤ p + q := h2
      rw [len_s, if_pos (line_of (by omega)), gt_ii, tr_b, wb_some, if_neg (by rw [decide_eq_true_eq]; omega)]
      exact ⟨hU.trans hV, _, rfl⟩
  · subst he
    rw [List.length_map, List.take_length, hpl.word]
    have hpos := hpl.pos
    rw [low_eq (by omega)]
    simp only [we_c, we_v, we_bin, we_neg, we_cmp, we_chn, we_no, we_and, we_or, we_ife, we_tup, we_lst, we_ix, we_sl, we_bi, we_mt, we_call, we_lrg1, we_lrg2, we_lc, we_rv, we_rpl, ws_nil, ws_cons, wo_nil, wo_cons, wt_nil, wt_cons, wi_rng1, wi_rng2, wi_rng3, wi_of, wi_int, wS_asgN, wS_asgT, wS_asgS, wS_par2, wS_par3, wS_aug, wS_ex, wS_ret, wS_retN, wS_iff, wS_pass, wS_brk, wS_cont, wS_never, wS_nil, wS_cons, wS_for, wS_whl, wF_nx, wF_rt, wF_bk, wF_ct, wv_some, wb_some, wc_some, wm_some, wz_bl, wE_some, wN_some, wo_some, wo_none, wo_ite, List.getElem?_cons_zero, List.getElem?_cons_succ, List.set_cons_zero, List.set_cons_succ, List.map_cons, List.map_nil, List.cons_append, List.nil_append, List.append_nil, List.replicate_succ, List.replicate_zero, List.length_cons, List.length_nil, Bop.f, Cop.f, Bi.f, Im.f, wl_some, wj_some, wa_some, wbs_some, add_ii, add_ss, add_rr, sub_ii, mul_ii, mul_si, div_ii, mod_ii, pow_ii, neg_i, eq_ii, ne_ii, eq_ss, ne_ss, lt_ii, le_ii, gt_ii, ge_ii, eq_bb, ne_bb, in_cs, tr_b, tr_i, ix_r, ix_t, ix_f, ix_s, sl_s, sl_r, set_r, len_s, len_r, len_f, len_t, abs_i, max_ii, min_ii, max_r, min_r, int_i, int_b, list_r, sum_r, all_r, isi_ii, isi_ib, isi_ss, aug_ii, aug_sub, sel_app, sel_index, sel_pop, sel_count, sel_join, app_r, count_s, wx_some, idx_r, wT_some, join_r, src_s, src_f, src_t, src_r, if_true, if_false, Bool.not_true, Bool.not_false, Bool.false_eq_true]
    exact h U hU
/-! ### the law's way -/
theorem repl_flat (y : Nat) (z : List Nat) : ∀ w : List Nat, PySem.StrLaws.replL [y] z w = w.flatMap fun c => if c = y then z else [c]
  | [] => PySem.StrLaws.replL_nil
  | c :: r => by
    rw [List.flatMap_cons]
    by_cases e : c = y
    · subst e
      rw [PySem.StrLaws.replL_hit (by simp) (by simp), if_pos rfl]
      show z ++ PySem.StrLaws.replL [c] z r = _
      rw [repl_flat c z r]
    · rw [PySem.StrLaws.replL_miss (by simp; exact e), if_neg e, repl_flat y z r]
      rfl
theorem rpl_s (y z cs : List Nat) : WpO (fRpl y z (.str cs) S) Q = if cs.length + (cs.length + 1) * z.length ≤ line then Q (.str (PySem.StrLaws.replL y z cs)) S else False := by
  show WpO (if cs.length + (cs.length + 1) * z.length ≤ line then some (.str (PySem.StrLaws.replL y z cs), S) else none) Q = _
  rw [wo_ite]; rfl
theorem law_way_ok (p q : Nat) (l : List Nat) (hpl : PathTo p q l) (hn : p + q ≤ 2000) (hs : l.length ≤ 500) (h : Q (.str (lowR p q)) S) : Wp (run ds (k + 1) 27 [.str [114, 117], .str l.reverse] S) Q := by
  refine wp_run (d := d27) rfl rfl ?_
  simp only [d27, we_c, we_v, we_bin, we_neg, we_cmp, we_chn, we_no, we_and, we_or, we_ife, we_tup, we_lst, we_ix, we_sl, we_bi, we_mt, we_call, we_lrg1, we_lrg2, we_lc, we_rv, we_rpl, ws_nil, ws_cons, wo_nil, wo_cons, wt_nil, wt_cons, wi_rng1, wi_rng2, wi_rng3, wi_of, wi_int, wS_asgN, wS_asgT, wS_asgS, wS_par2, wS_par3, wS_aug, wS_ex, wS_ret, wS_retN, wS_iff, wS_pass, wS_brk, wS_cont, wS_never, wS_nil, wS_cons, wS_for, wS_whl, wF_nx, wF_rt, wF_bk, wF_ct, wv_some, wb_some, wc_some, wm_some, wz_bl, wE_some, wN_some, wo_some, wo_none, wo_ite, List.getElem?_cons_zero, List.getElem?_cons_succ, List.set_cons_zero, List.set_cons_succ, List.map_cons, List.map_nil, List.cons_append, List.nil_append, List.append_nil, List.replicate_succ, List.replicate_zero, List.length_cons, List.length_nil, Bop.f, Cop.f, Bi.f, Im.f, wl_some, wj_some, wa_some, wbs_some, add_ii, add_ss, add_rr, sub_ii, mul_ii, mul_si, div_ii, mod_ii, pow_ii, neg_i, eq_ii, ne_ii, eq_ss, ne_ss, lt_ii, le_ii, gt_ii, ge_ii, eq_bb, ne_bb, in_cs, tr_b, tr_i, ix_r, ix_t, ix_f, ix_s, sl_s, sl_r, set_r, len_s, len_r, len_f, len_t, abs_i, max_ii, min_ii, max_r, min_r, int_i, int_b, list_r, sum_r, all_r, isi_ii, isi_ib, isi_ss, aug_ii, aug_sub, sel_app, sel_index, sel_pop, sel_count, sel_join, app_r, count_s, wx_some, idx_r, wT_some, join_r, src_s, src_f, src_t, src_r, if_true, if_false, Bool.not_true, Bool.not_false, Bool.false_eq_true]
  refine wp_turns (l.reverse.map fun c => D.str [c]) (fun i e U => U = S ∧ ∃ x, e = [some (.str ((l.reverse.take i).foldl subC [114, 117])), some (.str l.reverse), x]) (fun _ _ _ _ => rfl) (fun i d e U hx ⟨hU, x, he⟩ => ?_) (fun e U ⟨hU, x, he⟩ => ?_) fuel 0 _ _ (by rw [List.length_map, List.length_reverse]; show _ < 1000000000; omega) (Nat.zero_le _) ⟨rfl, _, rfl⟩
  · subst he
    rw [List.getElem?_map] at hx
    cases hci : l.reverse[i]? with
    | none => rw [hci] at hx; cases hx
    | some c =>
      rw [hci] at hx
      cases hx
      simp only [setT, we_c, we_v, we_bin, we_neg, we_cmp, we_chn, we_no, we_and, we_or, we_ife, we_tup, we_lst, we_ix, we_sl, we_bi, we_mt, we_call, we_lrg1, we_lrg2, we_lc, we_rv, we_rpl, ws_nil, ws_cons, wo_nil, wo_cons, wt_nil, wt_cons, wi_rng1, wi_rng2, wi_rng3, wi_of, wi_int, wS_asgN, wS_asgT, wS_asgS, wS_par2, wS_par3, wS_aug, wS_ex, wS_ret, wS_retN, wS_iff, wS_pass, wS_brk, wS_cont, wS_never, wS_nil, wS_cons, wS_for, wS_whl, wF_nx, wF_rt, wF_bk, wF_ct, wv_some, wb_some, wc_some, wm_some, wz_bl, wE_some, wN_some, wo_some, wo_none, wo_ite, List.getElem?_cons_zero, List.getElem?_cons_succ, List.set_cons_zero, List.set_cons_succ, List.map_cons, List.map_nil, List.cons_append, List.nil_append, List.append_nil, List.replicate_succ, List.replicate_zero, List.length_cons, List.length_nil, Bop.f, Cop.f, Bi.f, Im.f, wl_some, wj_some, wa_some, wbs_some, add_ii, add_ss, add_rr, sub_ii, mul_ii, mul_si, div_ii, mod_ii, pow_ii, neg_i, eq_ii, ne_ii, eq_ss, ne_ss, lt_ii, le_ii, gt_ii, ge_ii, eq_bb, ne_bb, in_cs, tr_b, tr_i, ix_r, ix_t, ix_f, ix_s, sl_s, sl_r, set_r, len_s, len_r, len_f, len_t, abs_i, max_ii, min_ii, max_r, min_r, int_i, int_b, list_r, sum_r, all_r, isi_ii, isi_ib, isi_ss, aug_ii, aug_sub, sel_app, sel_index, sel_pop, sel_count, sel_join, app_r, count_s, wx_some, idx_r, wT_some, join_r, src_s, src_f, src_t, src_r, if_true, if_false, Bool.not_true, Bool.not_false, Bool.false_eq_true, rpl_s]
      have h1 := fold_len hpl i
      have ht : l.reverse.take (i + 1) = l.reverse.take i ++ [c] := by rw [List.take_add_one, hci]; rfl
      rw [ht, List.foldl_append]
      generalize (l.reverse.take i).foldl subC [114, 117] = w at *
      have hb : w.length + (w.length + 1) * (0 + 1 + 1) ≤ line := by show _ ≤ 16777216; omega
      rcases hpl.letters c (List.mem_reverse.mp (List.mem_of_getElem? hci)) with e | e
      · subst e
        rw [if_pos (by decide), if_pos hb, repl_flat]
        exact ⟨hU, _, rfl⟩
      · subst e
        rw [if_neg (by decide), if_pos hb, repl_flat]
        exact ⟨hU, _, rfl⟩
  · subst he hU
    rw [List.length_map, List.take_length, hpl.word]
    have hpos := hpl.pos
    rw [low_eq (by omega)]
    simp only [we_c, we_v, we_bin, we_neg, we_cmp, we_chn, we_no, we_and, we_or, we_ife, we_tup, we_lst, we_ix, we_sl, we_bi, we_mt, we_call, we_lrg1, we_lrg2, we_lc, we_rv, we_rpl, ws_nil, ws_cons, wo_nil, wo_cons, wt_nil, wt_cons, wi_rng1, wi_rng2, wi_rng3, wi_of, wi_int, wS_asgN, wS_asgT, wS_asgS, wS_par2, wS_par3, wS_aug, wS_ex, wS_ret, wS_retN, wS_iff, wS_pass, wS_brk, wS_cont, wS_never, wS_nil, wS_cons, wS_for, wS_whl, wF_nx, wF_rt, wF_bk, wF_ct, wv_some, wb_some, wc_some, wm_some, wz_bl, wE_some, wN_some, wo_some, wo_none, wo_ite, List.getElem?_cons_zero, List.getElem?_cons_succ, List.set_cons_zero, List.set_cons_succ, List.map_cons, List.map_nil, List.cons_append, List.nil_append, List.append_nil, List.replicate_succ, List.replicate_zero, List.length_cons, List.length_nil, Bop.f, Cop.f, Bi.f, Im.f, wl_some, wj_some, wa_some, wbs_some, add_ii, add_ss, add_rr, sub_ii, mul_ii, mul_si, div_ii, mod_ii, pow_ii, neg_i, eq_ii, ne_ii, eq_ss, ne_ss, lt_ii, le_ii, gt_ii, ge_ii, eq_bb, ne_bb, in_cs, tr_b, tr_i, ix_r, ix_t, ix_f, ix_s, sl_s, sl_r, set_r, len_s, len_r, len_f, len_t, abs_i, max_ii, min_ii, max_r, min_r, int_i, int_b, list_r, sum_r, all_r, isi_ii, isi_ib, isi_ss, aug_ii, aug_sub, sel_app, sel_index, sel_pop, sel_count, sel_join, app_r, count_s, wx_some, idx_r, wT_some, join_r, src_s, src_f, src_t, src_r, if_true, if_false, Bool.not_true, Bool.not_false, Bool.false_eq_true]
    exact h
end K85

set_option Elab.async false
set_option linter.all false
set_option maxRecDepth 100000
set_option maxHeartbeats 1000000
namespace K85
open Mi Lw
variable {k : Nat} {S : Mem} {Q : D → Mem → Prop}
theorem isn_bb (a b : Bool) : WpO (fIsn (.bl a) (.bl b) S) Q = Q (.bl !decide (a = b)) S := rfl
theorem ne_pair (p q m : Nat) : WpO (fNe (pairD p q m) (pairD p q m) S) Q = Q (.bl false) S := by
  have e : eqB S (pairD p q m) (pairD p q m) = some true := by
    unfold pairD
    have e2 : ∀ a b c d : Int, eqB S (.tup [.tup [.int a, .int b], .tup [.int c, .int d]]) (.tup [.tup [.int a, .int b], .tup [.int c, .int d]]) = some ((a == a && (b == b && true)) && (((c == c && (d == d && true))) && true)) := fun a b c d => rfl
    rw [e2]
    simp
  unfold fNe
  rw [e]
  rfl
theorem near_one {p q m m' : Nat} (hg : Nat.gcd p q = 1) (h1 : 0 < m) (h2 : m < p + q) (h3 : rest p q m = 1) (g1 : 0 < m') (g2 : m' < p + q) (g3 : rest p q m' = 1) : m = m' := good_near hg h1 h2 g1 g2 g3 (near_good hg h1 h2 h3)
section
variable {R : Fl → Mem → Prop} {x0 x1 x2 x3 x4 x5 x6 x7 x8 x9 : Option D}
def rg0 : Sm := (.asg (.n (.tup (.cons (.nm 1) (.cons (.nm 2) .nil)))) (.call 28 (.cons (.v 0) (.cons (.ife (.cmp .eq (.call 23 (.cons (.v 0) (.cons (.c (.int 2)) .nil))) (.c (.int 0))) (.c (.int 8)) (.c (.int 90))) .nil))))
def rg1 : Sm := (.asg (.n (.nm 3)) (.call 26 (.cons (.v 1) (.cons (.v 2) .nil))))
def rg2 : Sm := (.iff (.or (.cmp .ne (.call 13 (.cons (.v 1) (.cons (.v 2) .nil))) (.v 3)) (.cmp .ne (.call 14 (.cons (.v 1) (.cons (.v 2) .nil))) (.rv (.v 3) none none))) (.cons (.ret (.c (.bl false))) .nil) .nil)
def rg3 : Sm := (.iff (.or (.cmp .notsame (.call 15 (.cons (.v 3) .nil)) (.c (.bl true))) (.cmp .ne (.call 16 (.cons (.v 3) .nil)) (.tup (.cons (.v 1) (.cons (.v 2) .nil))))) (.cons (.ret (.c (.bl false))) .nil) .nil)
def rg4 : Sm := (.iff (.or (.cmp .eq (.v 1) (.c (.int 0))) (.cmp .eq (.v 2) (.c (.int 0)))) (.cons (.ret (.cmp .isin (.v 3) (.tup (.cons (.c (.str [114])) (.cons (.c (.str [117])) .nil))))) .nil) .nil)
def rg5 : Sm := (.asg (.n (.nm 4)) (.call 30 (.cons (.v 1) (.cons (.v 2) .nil))))
def rg6 : Sm := (.iff (.or (.cmp .ne (.bi .len (.cons (.v 4) .nil)) (.c (.int 1))) (.cmp .ne (.call 17 (.cons (.v 1) (.cons (.v 2) .nil))) (.ix (.v 4) (.c (.int 0))))) (.cons (.ret (.c (.bl false))) .nil) .nil)
def rg7 : Sm := (.asg (.n (.tup (.cons (.tup (.cons (.nm 5) (.cons (.nm 6) .nil))) (.cons (.tup (.cons (.nm 7) (.cons (.nm 8) .nil))) .nil)))) (.ix (.v 4) (.c (.int 0))))
def rg8 : Sm := (.iff (.or (.cmp .ne (.bin .sub (.bin .mul (.v 5) (.v 8)) (.bin .mul (.v 6) (.v 7))) (.c (.int 1))) (.or (.cmp .ne (.call 18 (.cons (.v 1) (.cons (.v 2) .nil))) (.sl (.v 3) (.cons (.c (.int 1)) .nil) (.cons (.neg (.c (.int 1))) .nil))) (.cmp .ne (.sl (.v 3) (.cons (.c (.int 1)) .nil) (.cons (.neg (.c (.int 1))) .nil)) (.rv (.v 3) (some (-2)) (some (0)))))) (.cons (.ret (.c (.bl false))) .nil) .nil)
def rg9 : Sm := (.asg (.n (.nm 9)) (.call 19 (.cons (.v 1) (.cons (.v 2) .nil))))
def rg10 : Sm := (.iff (.or (.and (.cmp .lt (.bi .len (.cons (.v 3) .nil)) (.c (.int 300))) (.cmp .ne (.v 9) (.call 29 (.cons (.v 1) (.cons (.v 2) .nil))))) (.and (.cmp .ne (.call 20 (.cons (.sl (.v 9) .nil (.cons (.c (.int 500)) .nil)) .nil)) (.tup (.cons (.v 1) (.cons (.v 2) .nil)))) (.cmp .le (.bi .len (.cons (.v 9) .nil)) (.c (.int 500))))) (.cons (.ret (.c (.bl false))) .nil) .nil)
def rg11 : Sm := (.ret (.cmp .eq (.call 21 (.cons (.c (.str [114, 117])) (.cons (.v 9) .nil))) (.v 3)))
theorem rgbody : d31.body = (.cons rg0 (.cons rg1 (.cons rg2 (.cons rg3 (.cons rg4 (.cons rg5 (.cons rg6 (.cons rg7 (.cons rg8 (.cons rg9 (.cons rg10 (.cons rg11 .nil)))))))))))) := rfl

theorem rg0_ok (n : Nat) (hd : Die S n) (h : ∀ p q T, Nat.gcd p q = 1 → p + q ≤ 270 → Gr n S T → R (.nx [some (.ref n), some (.int (p : Nat)), some (.int (q : Nat)), x3, x4, x5, x6, x7, x8, x9]) T) : WpS (evS (run ds (k + 5)) rg0 [some (.ref n), x1, x2, x3, x4, x5, x6, x7, x8, x9] S) R := by
  simp only [rg0, we_c, we_v, we_bin, we_neg, we_cmp, we_chn, we_no, we_and, we_or, we_ife, we_tup, we_lst, we_ix, we_sl, we_bi, we_mt, we_call, we_lrg1, we_lrg2, we_lc, we_rv, we_rpl, ws_nil, ws_cons, wo_nil, wo_cons, wt_nil, wt_cons, wi_rng1, wi_rng2, wi_rng3, wi_of, wi_int, wS_asgN, wS_asgT, wS_asgS, wS_par2, wS_par3, wS_aug, wS_ex, wS_ret, wS_retN, wS_iff, wS_pass, wS_brk, wS_cont, wS_never, wS_nil, wS_cons, wS_for, wS_whl, wF_nx, wF_rt, wF_bk, wF_ct, wv_some, wb_some, wc_some, wm_some, wz_bl, wE_some, wN_some, wo_some, wo_none, wo_ite, List.getElem?_cons_zero, List.getElem?_cons_succ, List.set_cons_zero, List.set_cons_succ, List.map_cons, List.map_nil, List.cons_append, List.nil_append, List.append_nil, List.replicate_succ, List.replicate_zero, List.length_cons, List.length_nil, Bop.f, Cop.f, Bi.f, Im.f, wl_some, wj_some, wa_some, wbs_some, add_ii, add_ss, add_rr, sub_ii, mul_ii, mul_si, div_ii, mod_ii, pow_ii, neg_i, eq_ii, ne_ii, eq_ss, ne_ss, lt_ii, le_ii, gt_ii, ge_ii, eq_bb, ne_bb, in_cs, tr_b, tr_i, ix_r, ix_t, ix_f, ix_s, sl_s, sl_r, set_r, len_s, len_r, len_f, len_t, abs_i, max_ii, min_ii, max_r, min_r, int_i, int_b, list_r, sum_r, all_r, isi_ii, isi_ib, isi_ss, aug_ii, aug_sub, sel_app, sel_index, sel_pop, sel_count, sel_join, app_r, count_s, wx_some, idx_r, wT_some, join_r, src_s, src_f, src_t, src_r, if_true, if_false, Bool.not_true, Bool.not_false, Bool.false_eq_true]
  refine roll_ok (k := k + 4) n _ hd (by omega) (by omega) fun r T hr0 hr1 hr => ?_
  have g : Gr n S T := (Gr.refl hd).roll hr
  rw [eq_ii, tr_b, wb_some]
  by_cases c : r = 0
  · rw [if_pos (decide_eq_true c)]
    refine wd_slope_ok (k := k + 3) n 8 g.die (by decide) (by decide) fun p q T2 hg hp hq g2 => ?_
    simp only [setT, setTs, we_c, we_v, we_bin, we_neg, we_cmp, we_chn, we_no, we_and, we_or, we_ife, we_tup, we_lst, we_ix, we_sl, we_bi, we_mt, we_call, we_lrg1, we_lrg2, we_lc, we_rv, we_rpl, ws_nil, ws_cons, wo_nil, wo_cons, wt_nil, wt_cons, wi_rng1, wi_rng2, wi_rng3, wi_of, wi_int, wS_asgN, wS_asgT, wS_asgS, wS_par2, wS_par3, wS_aug, wS_ex, wS_ret, wS_retN, wS_iff, wS_pass, wS_brk, wS_cont, wS_never, wS_nil, wS_cons, wS_for, wS_whl, wF_nx, wF_rt, wF_bk, wF_ct, wv_some, wb_some, wc_some, wm_some, wz_bl, wE_some, wN_some, wo_some, wo_none, wo_ite, List.getElem?_cons_zero, List.getElem?_cons_succ, List.set_cons_zero, List.set_cons_succ, List.map_cons, List.map_nil, List.cons_append, List.nil_append, List.append_nil, List.replicate_succ, List.replicate_zero, List.length_cons, List.length_nil, Bop.f, Cop.f, Bi.f, Im.f, wl_some, wj_some, wa_some, wbs_some, add_ii, add_ss, add_rr, sub_ii, mul_ii, mul_si, div_ii, mod_ii, pow_ii, neg_i, eq_ii, ne_ii, eq_ss, ne_ss, lt_ii, le_ii, gt_ii, ge_ii, eq_bb, ne_bb, in_cs, tr_b, tr_i, ix_r, ix_t, ix_f, ix_s, sl_s, sl_r, set_r, len_s, len_r, len_f, len_t, abs_i, max_ii, min_ii, max_r, min_r, int_i, int_b, list_r, sum_r, all_r, isi_ii, isi_ib, isi_ss, aug_ii, aug_sub, sel_app, sel_index, sel_pop, sel_count, sel_join, app_r, count_s, wx_some, idx_r, wT_some, join_r, src_s, src_f, src_t, src_r, if_true, if_false, Bool.not_true, Bool.not_false, Bool.false_eq_true]
    exact h p q T2 hg (by omega) (g.trans g2)
  · rw [if_neg (by rw [decide_eq_true_eq]; exact c)]
    refine wd_slope_ok (k := k + 3) n 90 g.die (by decide) (by decide) fun p q T2 hg hp hq g2 => ?_
    simp only [setT, setTs, we_c, we_v, we_bin, we_neg, we_cmp, we_chn, we_no, we_and, we_or, we_ife, we_tup, we_lst, we_ix, we_sl, we_bi, we_mt, we_call, we_lrg1, we_lrg2, we_lc, we_rv, we_rpl, ws_nil, ws_cons, wo_nil, wo_cons, wt_nil, wt_cons, wi_rng1, wi_rng2, wi_rng3, wi_of, wi_int, wS_asgN, wS_asgT, wS_asgS, wS_par2, wS_par3, wS_aug, wS_ex, wS_ret, wS_retN, wS_iff, wS_pass, wS_brk, wS_cont, wS_never, wS_nil, wS_cons, wS_for, wS_whl, wF_nx, wF_rt, wF_bk, wF_ct, wv_some, wb_some, wc_some, wm_some, wz_bl, wE_some, wN_some, wo_some, wo_none, wo_ite, List.getElem?_cons_zero, List.getElem?_cons_succ, List.set_cons_zero, List.set_cons_succ, List.map_cons, List.map_nil, List.cons_append, List.nil_append, List.append_nil, List.replicate_succ, List.replicate_zero, List.length_cons, List.length_nil, Bop.f, Cop.f, Bi.f, Im.f, wl_some, wj_some, wa_some, wbs_some, add_ii, add_ss, add_rr, sub_ii, mul_ii, mul_si, div_ii, mod_ii, pow_ii, neg_i, eq_ii, ne_ii, eq_ss, ne_ss, lt_ii, le_ii, gt_ii, ge_ii, eq_bb, ne_bb, in_cs, tr_b, tr_i, ix_r, ix_t, ix_f, ix_s, sl_s, sl_r, set_r, len_s, len_r, len_f, len_t, abs_i, max_ii, min_ii, max_r, min_r, int_i, int_b, list_r, sum_r, all_r, isi_ii, isi_ib, isi_ss, aug_ii, aug_sub, sel_app, sel_index, sel_pop, sel_count, sel_join, app_r, count_s, wx_some, idx_r, wT_some, join_r, src_s, src_f, src_t, src_r, if_true, if_false, Bool.not_true, Bool.not_false, Bool.false_eq_true]
    exact h p q T2 hg (by omega) (g.trans g2)
theorem rg1_ok (p q : Nat) (hn : p + q ≤ 270) (h : ∀ T, S <+: T → R (.nx [x0, some (.int p), some (.int q), some (.str (lowR p q)), x4, x5, x6, x7, x8, x9]) T) : WpS (evS (run ds (k + 5)) rg1 [x0, some (.int p), some (.int q), x3, x4, x5, x6, x7, x8, x9] S) R := by
  simp only [rg1, we_c, we_v, we_bin, we_neg, we_cmp, we_chn, we_no, we_and, we_or, we_ife, we_tup, we_lst, we_ix, we_sl, we_bi, we_mt, we_call, we_lrg1, we_lrg2, we_lc, we_rv, we_rpl, ws_nil, ws_cons, wo_nil, wo_cons, wt_nil, wt_cons, wi_rng1, wi_rng2, wi_rng3, wi_of, wi_int, wS_asgN, wS_asgT, wS_asgS, wS_par2, wS_par3, wS_aug, wS_ex, wS_ret, wS_retN, wS_iff, wS_pass, wS_brk, wS_cont, wS_never, wS_nil, wS_cons, wS_for, wS_whl, wF_nx, wF_rt, wF_bk, wF_ct, wv_some, wb_some, wc_some, wm_some, wz_bl, wE_some, wN_some, wo_some, wo_none, wo_ite, List.getElem?_cons_zero, List.getElem?_cons_succ, List.set_cons_zero, List.set_cons_succ, List.map_cons, List.map_nil, List.cons_append, List.nil_append, List.append_nil, List.replicate_succ, List.replicate_zero, List.length_cons, List.length_nil]
  exact law_low_ok (k := k + 4) p q (by omega) h
theorem rg2_ok (p q : Nat) (hg : Nat.gcd p q = 1) (hn : p + q ≤ 270) (h : ∀ T, S <+: T → R (.nx [x0, some (.int p), some (.int q), some (.str (lowR p q)), x4, x5, x6, x7, x8, x9]) T) : WpS (evS (run ds (k + 5)) rg2 [x0, some (.int p), some (.int q), some (.str (lowR p q)), x4, x5, x6, x7, x8, x9] S) R := by
  simp only [rg2, we_c, we_v, we_bin, we_neg, we_cmp, we_chn, we_no, we_and, we_or, we_ife, we_tup, we_lst, we_ix, we_sl, we_bi, we_mt, we_call, we_lrg1, we_lrg2, we_lc, we_rv, we_rpl, ws_nil, ws_cons, wo_nil, wo_cons, wt_nil, wt_cons, wi_rng1, wi_rng2, wi_rng3, wi_of, wi_int, wS_asgN, wS_asgT, wS_asgS, wS_par2, wS_par3, wS_aug, wS_ex, wS_ret, wS_retN, wS_iff, wS_pass, wS_brk, wS_cont, wS_never, wS_nil, wS_cons, wS_for, wS_whl, wF_nx, wF_rt, wF_bk, wF_ct, wv_some, wb_some, wc_some, wm_some, wz_bl, wE_some, wN_some, wo_some, wo_none, wo_ite, List.getElem?_cons_zero, List.getElem?_cons_succ, List.set_cons_zero, List.set_cons_succ, List.map_cons, List.map_nil, List.cons_append, List.nil_append, List.append_nil, List.replicate_succ, List.replicate_zero, List.length_cons, List.length_nil, Cop.f]
  refine low_word_ok (k := k + 2) p q hg (by omega) fun T hp => ?_
  rw [ne_ss, decide_eq_true rfl, tr_b, wb_some, if_neg (by decide)]
  refine high_word_ok (k := k + 2) p q hg (by omega) fun T2 hp2 => ?_
  rw [rv_s, pickR_all, if_pos (by rw [List.length_reverse, lowR_len]; exact line_of (by omega)), ne_ss, decide_eq_true rfl, tr_b, wb_some, if_neg (by decide)]
  exact h T2 (hp.trans hp2)
theorem rg3_ok (p q : Nat) (hg : Nat.gcd p q = 1) (h0 : 0 < p + q) (hn : p + q ≤ 270) (h : ∀ T, S <+: T → R (.nx [x0, some (.int p), some (.int q), some (.str (lowR p q)), x4, x5, x6, x7, x8, x9]) T) : WpS (evS (run ds (k + 5)) rg3 [x0, some (.int p), some (.int q), some (.str (lowR p q)), x4, x5, x6, x7, x8, x9] S) R := by
  simp only [rg3, we_c, we_v, we_bin, we_neg, we_cmp, we_chn, we_no, we_and, we_or, we_ife, we_tup, we_lst, we_ix, we_sl, we_bi, we_mt, we_call, we_lrg1, we_lrg2, we_lc, we_rv, we_rpl, ws_nil, ws_cons, wo_nil, wo_cons, wt_nil, wt_cons, wi_rng1, wi_rng2, wi_rng3, wi_of, wi_int, wS_asgN, wS_asgT, wS_asgS, wS_par2, wS_par3, wS_aug, wS_ex, wS_ret, wS_retN, wS_iff, wS_pass, wS_brk, wS_cont, wS_never, wS_nil, wS_cons, wS_for, wS_whl, wF_nx, wF_rt, wF_bk, wF_ct, wv_some, wb_some, wc_some, wm_some, wz_bl, wE_some, wN_some, wo_some, wo_none, wo_ite, List.getElem?_cons_zero, List.getElem?_cons_succ, List.set_cons_zero, List.set_cons_succ, List.map_cons, List.map_nil, List.cons_append, List.nil_append, List.append_nil, List.replicate_succ, List.replicate_zero, List.length_cons, List.length_nil, Cop.f]
  have hl := lowR_len p q
  have hc := low_counts h0
  rw [low_eq h0] at hc
  refine is_straight_ok (k := k + 1) (lowR p q) (by omega) (by omega) (ru_low p q) fun T hp => ?_
  rw [first_low hg h0, isn_bb, tr_b, wb_some, if_neg (by decide)]
  refine slope_of_ok (k := k + 1) (lowR p q) (by omega) (by omega) (ru_low p q) (by rw [first_low hg h0]; rfl) fun T2 hp2 => ?_
  refine ⟨line_of (by decide), ?_⟩
  rw [hl, hc.1, show p + q - p = q by omega, ne_t2]
  simp only [beq_self_eq_true, Bool.and_self, Bool.not_true, tr_b, wb_some, Bool.false_eq_true, if_false]
  exact h T2 (hp.trans hp2)
theorem rg4_flat (p q : Nat) (hg : Nat.gcd p q = 1) (hf : p = 0 ∨ q = 0) (h : R (.rt (.bl true)) S) : WpS (evS (run ds (k + 5)) rg4 [x0, some (.int p), some (.int q), some (.str (lowR p q)), x4, x5, x6, x7, x8, x9] S) R := by
  simp only [rg4, we_c, we_v, we_bin, we_neg, we_cmp, we_chn, we_no, we_and, we_or, we_ife, we_tup, we_lst, we_ix, we_sl, we_bi, we_mt, we_call, we_lrg1, we_lrg2, we_lc, we_rv, we_rpl, ws_nil, ws_cons, wo_nil, wo_cons, wt_nil, wt_cons, wi_rng1, wi_rng2, wi_rng3, wi_of, wi_int, wS_asgN, wS_asgT, wS_asgS, wS_par2, wS_par3, wS_aug, wS_ex, wS_ret, wS_retN, wS_iff, wS_pass, wS_brk, wS_cont, wS_never, wS_nil, wS_cons, wS_for, wS_whl, wF_nx, wF_rt, wF_bk, wF_ct, wv_some, wb_some, wc_some, wm_some, wz_bl, wE_some, wN_some, wo_some, wo_none, wo_ite, List.getElem?_cons_zero, List.getElem?_cons_succ, List.set_cons_zero, List.set_cons_succ, List.map_cons, List.map_nil, List.cons_append, List.nil_append, List.append_nil, List.replicate_succ, List.replicate_zero, List.length_cons, List.length_nil, Cop.f]
  have fin : ∀ w : List Nat, (w = [114] ∨ w = [117]) → WpO (fIn (.str w) (.tup [.str [114], .str [117]]) S) (fun d S1 => R (.rt d) S1) = R (.rt (.bl true)) S := fun w hw => by
    rcases hw with e | e <;> (subst e; rfl)
  have hw : lowR p q = [114] ∨ lowR p q = [117] := by
    rcases hf with e | e
    · subst e
      rw [Nat.gcd_zero_left] at hg
      subst hg
      exact .inr rfl
    · subst e
      rw [Nat.gcd_zero_right] at hg
      subst hg
      exact .inl rfl
  rw [eq_ii, tr_b, wb_some]
  by_cases c : p = 0
  · have d : decide (((p : Nat) : Int) = 0) = true := decide_eq_true (by omega)
    rw [if_pos d, wb_some, if_pos d]
    refine ⟨line_of (by decide), ?_⟩
    rw [fin _ hw]
    exact h
  · rw [if_neg (by rw [decide_eq_true_eq]; omega), eq_ii, tr_b, wb_some, if_pos (decide_eq_true (by omega))]
    refine ⟨line_of (by decide), ?_⟩
    rw [fin _ hw]
    exact h
theorem rg4_wide (p q : Nat) (hp : 1 ≤ p) (hq : 1 ≤ q) (h : R (.nx [x0, some (.int p), some (.int q), x3, x4, x5, x6, x7, x8, x9]) S) : WpS (evS (run ds (k + 5)) rg4 [x0, some (.int p), some (.int q), x3, x4, x5, x6, x7, x8, x9] S) R := by
  simp only [rg4, we_c, we_v, we_bin, we_neg, we_cmp, we_chn, we_no, we_and, we_or, we_ife, we_tup, we_lst, we_ix, we_sl, we_bi, we_mt, we_call, we_lrg1, we_lrg2, we_lc, we_rv, we_rpl, ws_nil, ws_cons, wo_nil, wo_cons, wt_nil, wt_cons, wi_rng1, wi_rng2, wi_rng3, wi_of, wi_int, wS_asgN, wS_asgT, wS_asgS, wS_par2, wS_par3, wS_aug, wS_ex, wS_ret, wS_retN, wS_iff, wS_pass, wS_brk, wS_cont, wS_never, wS_nil, wS_cons, wS_for, wS_whl, wF_nx, wF_rt, wF_bk, wF_ct, wv_some, wb_some, wc_some, wm_some, wz_bl, wE_some, wN_some, wo_some, wo_none, wo_ite, List.getElem?_cons_zero, List.getElem?_cons_succ, List.set_cons_zero, List.set_cons_succ, List.map_cons, List.map_nil, List.cons_append, List.nil_append, List.append_nil, List.replicate_succ, List.replicate_zero, List.length_cons, List.length_nil, Cop.f]
  rw [eq_ii, tr_b, wb_some, if_neg (by rw [decide_eq_true_eq]; omega), eq_ii, tr_b, wb_some, if_neg (by rw [decide_eq_true_eq]; omega)]
  exact h
theorem rg5_ok (p q : Nat) (hg : Nat.gcd p q = 1) (hp : 1 ≤ p) (hq : 1 ≤ q) (hn : p + q ≤ 270) (h : ∀ T r m, S <+: T → 0 < m → m < p + q → rest p q m = 1 → lstAt T r = some [pairD p q m] → R (.nx [x0, some (.int p), some (.int q), x3, some (.ref r), x5, x6, x7, x8, x9]) T) : WpS (evS (run ds (k + 5)) rg5 [x0, some (.int p), some (.int q), x3, x4, x5, x6, x7, x8, x9] S) R := by
  simp only [rg5, we_c, we_v, we_bin, we_neg, we_cmp, we_chn, we_no, we_and, we_or, we_ife, we_tup, we_lst, we_ix, we_sl, we_bi, we_mt, we_call, we_lrg1, we_lrg2, we_lc, we_rv, we_rpl, ws_nil, ws_cons, wo_nil, wo_cons, wt_nil, wt_cons, wi_rng1, wi_rng2, wi_rng3, wi_of, wi_int, wS_asgN, wS_asgT, wS_asgS, wS_par2, wS_par3, wS_aug, wS_ex, wS_ret, wS_retN, wS_iff, wS_pass, wS_brk, wS_cont, wS_never, wS_nil, wS_cons, wS_for, wS_whl, wF_nx, wF_rt, wF_bk, wF_ct, wv_some, wb_some, wc_some, wm_some, wz_bl, wE_some, wN_some, wo_some, wo_none, wo_ite, List.getElem?_cons_zero, List.getElem?_cons_succ, List.set_cons_zero, List.set_cons_succ, List.map_cons, List.map_nil, List.cons_append, List.nil_append, List.append_nil, List.replicate_succ, List.replicate_zero, List.length_cons, List.length_nil]
  exact law_halves_ok (k := k + 3) p q hg (by omega) hp hq fun T r m hT _ a1 a2 a3 hl => h T r m hT a1 a2 a3 hl
theorem rg6_ok (p q m r : Nat) (hg : Nat.gcd p q = 1) (hp : 1 ≤ p) (hq : 1 ≤ q) (hn : p + q ≤ 270) (m1 : 0 < m) (m2 : m < p + q) (m3 : rest p q m = 1) (hl : lstAt S r = some [pairD p q m]) (h : ∀ T, S <+: T → R (.nx [x0, some (.int p), some (.int q), x3, some (.ref r), x5, x6, x7, x8, x9]) T) : WpS (evS (run ds (k + 5)) rg6 [x0, some (.int p), some (.int q), x3, some (.ref r), x5, x6, x7, x8, x9] S) R := by
  simp only [rg6, we_c, we_v, we_bin, we_neg, we_cmp, we_chn, we_no, we_and, we_or, we_ife, we_tup, we_lst, we_ix, we_sl, we_bi, we_mt, we_call, we_lrg1, we_lrg2, we_lc, we_rv, we_rpl, ws_nil, ws_cons, wo_nil, wo_cons, wt_nil, wt_cons, wi_rng1, wi_rng2, wi_rng3, wi_of, wi_int, wS_asgN, wS_asgT, wS_asgS, wS_par2, wS_par3, wS_aug, wS_ex, wS_ret, wS_retN, wS_iff, wS_pass, wS_brk, wS_cont, wS_never, wS_nil, wS_cons, wS_for, wS_whl, wF_nx, wF_rt, wF_bk, wF_ct, wv_some, wb_some, wc_some, wm_some, wz_bl, wE_some, wN_some, wo_some, wo_none, wo_ite, List.getElem?_cons_zero, List.getElem?_cons_succ, List.set_cons_zero, List.set_cons_succ, List.map_cons, List.map_nil, List.cons_append, List.nil_append, List.append_nil, List.replicate_succ, List.replicate_zero, List.length_cons, List.length_nil, Bop.f, Cop.f, Bi.f, Im.f, wl_some, wj_some, wa_some, wbs_some, add_ii, add_ss, add_rr, sub_ii, mul_ii, mul_si, div_ii, mod_ii, pow_ii, neg_i, eq_ii, ne_ii, eq_ss, ne_ss, lt_ii, le_ii, gt_ii, ge_ii, eq_bb, ne_bb, in_cs, tr_b, tr_i, ix_r, ix_t, ix_f, ix_s, sl_s, sl_r, set_r, len_s, len_r, len_f, len_t, abs_i, max_ii, min_ii, max_r, min_r, int_i, int_b, list_r, sum_r, all_r, isi_ii, isi_ib, isi_ss, aug_ii, aug_sub, sel_app, sel_index, sel_pop, sel_count, sel_join, app_r, count_s, wx_some, idx_r, wT_some, join_r, src_s, src_f, src_t, src_r, if_true, if_false, Bool.not_true, Bool.not_false, Bool.false_eq_true, hl]
  refine halves_ok (k := k + 1) p q hg (by omega) hp hq fun T m' hT a1 a2 a3 => ?_
  simp only [lst_pre hT hl, wl_some, at_0, wa_some]
  rw [near_one hg a1 a2 a3 m1 m2 m3, ne_pair]
  exact h T hT
theorem rg7_ok (p q m r : Nat) (hl : lstAt S r = some [pairD p q m]) (h : R (.nx [x0, x1, x2, x3, some (.ref r), some (.int (xs_ p q m : Nat)), some (.int (ys_ p q m : Nat)), some (.int (p - xs_ p q m : Nat)), some (.int (q - ys_ p q m : Nat)), x9]) S) : WpS (evS (run ds (k + 5)) rg7 [x0, x1, x2, x3, some (.ref r), x5, x6, x7, x8, x9] S) R := by
  simp only [rg7, we_c, we_v, we_bin, we_neg, we_cmp, we_chn, we_no, we_and, we_or, we_ife, we_tup, we_lst, we_ix, we_sl, we_bi, we_mt, we_call, we_lrg1, we_lrg2, we_lc, we_rv, we_rpl, ws_nil, ws_cons, wo_nil, wo_cons, wt_nil, wt_cons, wi_rng1, wi_rng2, wi_rng3, wi_of, wi_int, wS_asgN, wS_asgT, wS_asgS, wS_par2, wS_par3, wS_aug, wS_ex, wS_ret, wS_retN, wS_iff, wS_pass, wS_brk, wS_cont, wS_never, wS_nil, wS_cons, wS_for, wS_whl, wF_nx, wF_rt, wF_bk, wF_ct, wv_some, wb_some, wc_some, wm_some, wz_bl, wE_some, wN_some, wo_some, wo_none, wo_ite, List.getElem?_cons_zero, List.getElem?_cons_succ, List.set_cons_zero, List.set_cons_succ, List.map_cons, List.map_nil, List.cons_append, List.nil_append, List.append_nil, List.replicate_succ, List.replicate_zero, List.length_cons, List.length_nil, Bop.f, Cop.f, Bi.f, Im.f, wl_some, wj_some, wa_some, wbs_some, add_ii, add_ss, add_rr, sub_ii, mul_ii, mul_si, div_ii, mod_ii, pow_ii, neg_i, eq_ii, ne_ii, eq_ss, ne_ss, lt_ii, le_ii, gt_ii, ge_ii, eq_bb, ne_bb, in_cs, tr_b, tr_i, ix_r, ix_t, ix_f, ix_s, sl_s, sl_r, set_r, len_s, len_r, len_f, len_t, abs_i, max_ii, min_ii, max_r, min_r, int_i, int_b, list_r, sum_r, all_r, isi_ii, isi_ib, isi_ss, aug_ii, aug_sub, sel_app, sel_index, sel_pop, sel_count, sel_join, app_r, count_s, wx_some, idx_r, wT_some, join_r, src_s, src_f, src_t, src_r, if_true, if_false, Bool.not_true, Bool.not_false, Bool.false_eq_true, hl, at_0, pairD, setT, setTs]
  exact h
theorem rg8_ok (p q m : Nat) (hg : Nat.gcd p q = 1) (hp : 1 ≤ p) (hq : 1 ≤ q) (hn : p + q ≤ 270) (m2 : m < p + q) (m3 : rest p q m = 1) (h : ∀ T, S <+: T → R (.nx [x0, some (.int p), some (.int q), some (.str (lowR p q)), x4, some (.int (xs_ p q m : Nat)), some (.int (ys_ p q m : Nat)), some (.int (p - xs_ p q m : Nat)), some (.int (q - ys_ p q m : Nat)), x9]) T) :
    WpS (evS (run ds (k + 5)) rg8 [x0, some (.int p), some (.int q), some (.str (lowR p q)), x4, some (.int (xs_ p q m : Nat)), some (.int (ys_ p q m : Nat)), some (.int (p - xs_ p q m : Nat)), some (.int (q - ys_ p q m : Nat)), x9] S) R := by
  have hn0 : 0 < p + q := by omega
  have xl := xs_le (i := m) hn0
  have yl := ys_le (i := m) hn0
  have hv := pt_val hn0 (Nat.le_of_lt m2)
  rw [m3] at hv
  have hl := lowR_len p q
  simp only [rg8, we_c, we_v, we_bin, we_neg, we_cmp, we_chn, we_no, we_and, we_or, we_ife, we_tup, we_lst, we_ix, we_sl, we_bi, we_mt, we_call, we_lrg1, we_lrg2, we_lc, we_rv, we_rpl, ws_nil, ws_cons, wo_nil, wo_cons, wt_nil, wt_cons, wi_rng1, wi_rng2, wi_rng3, wi_of, wi_int, wS_asgN, wS_asgT, wS_asgS, wS_par2, wS_par3, wS_aug, wS_ex, wS_ret, wS_retN, wS_iff, wS_pass, wS_brk, wS_cont, wS_never, wS_nil, wS_cons, wS_for, wS_whl, wF_nx, wF_rt, wF_bk, wF_ct, wv_some, wb_some, wc_some, wm_some, wz_bl, wE_some, wN_some, wo_some, wo_none, wo_ite, List.getElem?_cons_zero, List.getElem?_cons_succ, List.set_cons_zero, List.set_cons_succ, List.map_cons, List.map_nil, List.cons_append, List.nil_append, List.append_nil, List.replicate_succ, List.replicate_zero, List.length_cons, List.length_nil, Bop.f, Cop.f]
  rw [mul_ii, if_pos (mulOk_small (by omega)), mul_ii, if_pos (mulOk_small (by omega)), sub_ii, ne_ii]
  have det : ((xs_ p q m : Nat) : Int) * (q - ys_ p q m : Nat) - ((ys_ p q m : Nat) : Int) * (p - xs_ p q m : Nat) = 1 := by
    rw [Int.natCast_sub yl, Int.natCast_sub xl]
    have : ((xs_ p q m : Nat) : Int) * q = (ys_ p q m : Nat) * p + 1 := by exact_mod_cast hv
    grind
  rw [det]
  simp only [decide_true, Bool.not_true, tr_b, wb_some, Bool.false_eq_true, if_false]
  refine core_ok (k := k + 1) p q hg (by omega) hp hq fun T hT => ?_
  rw [neg_i, wi_int, sl_s, if_pos (line_of (by omega)), cut_core, ne_ss, decide_eq_true rfl, tr_b, wb_some, if_neg (by decide)]
  rw [neg_i, wi_int, sl_s, if_pos (line_of (by omega)), cut_core, rv_s, pickR_core (by omega), core_back hg (by omega), if_pos (by rw [List.length_take, List.length_drop]; exact line_of (by omega)), ne_ss, decide_eq_true rfl, tr_b, wb_some, if_neg (by decide)]
  exact h T hT
theorem rg9_ok (p q : Nat) (l : List Nat) (hpl : PathTo p q l) (hg : Nat.gcd p q = 1) (hn : p + q ≤ 270) (h : ∀ T, S <+: T → R (.nx [x0, some (.int p), some (.int q), x3, x4, x5, x6, x7, x8, some (.str l.reverse)]) T) : WpS (evS (run ds (k + 5)) rg9 [x0, some (.int p), some (.int q), x3, x4, x5, x6, x7, x8, x9] S) R := by
  simp only [rg9, we_c, we_v, we_bin, we_neg, we_cmp, we_chn, we_no, we_and, we_or, we_ife, we_tup, we_lst, we_ix, we_sl, we_bi, we_mt, we_call, we_lrg1, we_lrg2, we_lc, we_rv, we_rpl, ws_nil, ws_cons, wo_nil, wo_cons, wt_nil, wt_cons, wi_rng1, wi_rng2, wi_rng3, wi_of, wi_int, wS_asgN, wS_asgT, wS_asgS, wS_par2, wS_par3, wS_aug, wS_ex, wS_ret, wS_retN, wS_iff, wS_pass, wS_brk, wS_cont, wS_never, wS_nil, wS_cons, wS_for, wS_whl, wF_nx, wF_rt, wF_bk, wF_ct, wv_some, wb_some, wc_some, wm_some, wz_bl, wE_some, wN_some, wo_some, wo_none, wo_ite, List.getElem?_cons_zero, List.getElem?_cons_succ, List.set_cons_zero, List.set_cons_succ, List.map_cons, List.map_nil, List.cons_append, List.nil_append, List.append_nil, List.replicate_succ, List.replicate_zero, List.length_cons, List.length_nil]
  exact path_of_ok (k := k + 1) p q l hpl hg (by omega) h
theorem rg10_ok (p q : Nat) (l : List Nat) (hpl : PathTo p q l) (hg : Nat.gcd p q = 1) (hn : p + q ≤ 270) (h : ∀ T, S <+: T → R (.nx [x0, some (.int p), some (.int q), some (.str (lowR p q)), x4, x5, x6, x7, x8, some (.str l.reverse)]) T) : WpS (evS (run ds (k + 5)) rg10 [x0, some (.int p), some (.int q), some (.str (lowR p q)), x4, x5, x6, x7, x8, some (.str l.reverse)] S) R := by
  have hl := lowR_len p q
  have hpos := hpl.pos
  have hlen := hpl.len
  simp only [rg10, we_c, we_v, we_bin, we_neg, we_cmp, we_chn, we_no, we_and, we_or, we_ife, we_tup, we_lst, we_ix, we_sl, we_bi, we_mt, we_call, we_lrg1, we_lrg2, we_lc, we_rv, we_rpl, ws_nil, ws_cons, wo_nil, wo_cons, wt_nil, wt_cons, wi_rng1, wi_rng2, wi_rng3, wi_of, wi_int, wS_asgN, wS_asgT, wS_asgS, wS_par2, wS_par3, wS_aug, wS_ex, wS_ret, wS_retN, wS_iff, wS_pass, wS_brk, wS_cont, wS_never, wS_nil, wS_cons, wS_for, wS_whl, wF_nx, wF_rt, wF_bk, wF_ct, wv_some, wb_some, wc_some, wm_some, wz_bl, wE_some, wN_some, wo_some, wo_none, wo_ite, List.getElem?_cons_zero, List.getElem?_cons_succ, List.set_cons_zero, List.set_cons_succ, List.map_cons, List.map_nil, List.cons_append, List.nil_append, List.append_nil, List.replicate_succ, List.replicate_zero, List.length_cons, List.length_nil, Cop.f, Bi.f]
  rw [len_s, if_pos (line_of (by omega)), lt_ii, tr_b, wb_some, if_pos (decide_eq_true (by omega))]
  refine law_path_ok (k := k + 4) p q l hpl (by omega) fun T hT => ?_
  rw [ne_ss, decide_eq_true rfl, tr_b, wb_some, if_neg (by decide)]
  rw [sl_s, if_pos (by rw [List.length_reverse]; exact line_of (by omega)), show (500 : Int) = ((500 : Nat) : Int) from rfl, cut_to, List.take_of_length_le (by rw [List.length_reverse]; omega)]
  refine slope_of_path_ok (k := k + 3) l.reverse (by rw [List.length_reverse]; omega) (fun c hc => hpl.letters c (List.mem_reverse.mp hc)) fun T2 hT2 => ?_
  refine ⟨line_of (by decide), ?_⟩
  rw [hpl.slope, ne_t2]
  simp only [beq_self_eq_true, Bool.and_self, Bool.not_true, tr_b, wb_some, Bool.false_eq_true, if_false]
  exact h T2 (hT.trans hT2)
theorem rg11_ok (p q : Nat) (l : List Nat) (hpl : PathTo p q l) (hn : p + q ≤ 270) (h : ∀ T, S <+: T → R (.rt (.bl true)) T) : WpS (evS (run ds (k + 5)) rg11 [x0, x1, x2, some (.str (lowR p q)), x4, x5, x6, x7, x8, some (.str l.reverse)] S) R := by
  have hlen := hpl.len
  simp only [rg11, we_c, we_v, we_bin, we_neg, we_cmp, we_chn, we_no, we_and, we_or, we_ife, we_tup, we_lst, we_ix, we_sl, we_bi, we_mt, we_call, we_lrg1, we_lrg2, we_lc, we_rv, we_rpl, ws_nil, ws_cons, wo_nil, wo_cons, wt_nil, wt_cons, wi_rng1, wi_rng2, wi_rng3, wi_of, wi_int, wS_asgN, wS_asgT, wS_asgS, wS_par2, wS_par3, wS_aug, wS_ex, wS_ret, wS_retN, wS_iff, wS_pass, wS_brk, wS_cont, wS_never, wS_nil, wS_cons, wS_for, wS_whl, wF_nx, wF_rt, wF_bk, wF_ct, wv_some, wb_some, wc_some, wm_some, wz_bl, wE_some, wN_some, wo_some, wo_none, wo_ite, List.getElem?_cons_zero, List.getElem?_cons_succ, List.set_cons_zero, List.set_cons_succ, List.map_cons, List.map_nil, List.cons_append, List.nil_append, List.append_nil, List.replicate_succ, List.replicate_zero, List.length_cons, List.length_nil, Cop.f]
  refine led_word_ok (k := k + 3) p q l hpl (by omega) (by omega) fun T hT => ?_
  rw [eq_ss, decide_eq_true rfl]
  exact h T hT
end
theorem right_ok (n : Nat) (hd : Die S n) (h : ∀ T, Gr n S T → Q (.bl true) T) : Wp (run ds (k + 6) 31 [.ref n] S) Q := by
  refine wp_run (d := d31) rfl rfl ?_
  rw [rgbody, wS_cons]
  refine rg0_ok n hd fun p q T hg hn g => ?_
  have h0 : 0 < p + q := by
    rcases Nat.eq_zero_or_pos (p + q) with e | e
    · rw [show p = 0 by omega, show q = 0 by omega] at hg; cases hg
    · exact e
  rw [wF_nx, wS_cons]
  refine rg1_ok p q hn fun T1 p1 => ?_
  rw [wF_nx, wS_cons]
  refine rg2_ok p q hg hn fun T2 p2 => ?_
  rw [wF_nx, wS_cons]
  refine rg3_ok p q hg h0 hn fun T3 p3 => ?_
  have g3 := g.pre (p1.trans (p2.trans p3))
  rw [wF_nx, wS_cons]
  by_cases hf : p = 0 ∨ q = 0
  · refine rg4_flat p q hg hf ?_
    rw [wF_rt]
    exact h T3 g3
  · have hp : 1 ≤ p := by omega
    have hq : 1 ≤ q := by omega
    refine rg4_wide p q hp hq ?_
    rw [wF_nx, wS_cons]
    refine rg5_ok p q hg hp hq hn fun T5 r m p5 m1 m2 m3 hl => ?_
    rw [wF_nx, wS_cons]
    refine rg6_ok p q m r hg hp hq hn m1 m2 m3 hl fun T6 p6 => ?_
    rw [wF_nx, wS_cons]
    refine rg7_ok p q m r (lst_pre p6 hl) ?_
    rw [wF_nx, wS_cons]
    refine rg8_ok p q m hg hp hq hn m2 m3 fun T8 p8 => ?_
    rw [wF_nx, wS_cons]
    obtain ⟨l, hpl⟩ := path_of (p + q) p q (Nat.le_refl _) hp hq hg
    refine rg9_ok p q l hpl hg hn fun T9 p9 => ?_
    rw [wF_nx, wS_cons]
    refine rg10_ok p q l hpl hg hn fun T10 p10 => ?_
    rw [wF_nx, wS_cons]
    refine rg11_ok p q l hpl hn fun T11 p11 => ?_
    rw [wF_rt]
    exact h T11 (g3.pre (p5.trans (p6.trans (p8.trans (p9.trans (p10.trans p11))))))
end K85

set_option Elab.async false
set_option linter.all false
set_option maxRecDepth 100000
set_option maxHeartbeats 1000000
namespace K85
open Mi Lw
variable {k : Nat} {S : Mem} {R : Fl → Mem → Prop} {x0 x1 x2 x3 x4 x5 x6 x7 : Option D}
def lg0 : Sm := (.asg (.n (.nm 2)) (.call 22 (.cons (.v 0) (.cons (.v 1) .nil))))
def lg1 : Sm := (.iff (.or (.no (.call 31 (.cons (.v 2) .nil))) (.no (.call 31 (.cons (.v 2) .nil)))) (.cons (.ret (.c (.bl false))) .nil) .nil)
def lg2 : Sm := (.for_ (.nm 1) (.rng1 (.bi .max (.cons (.c (.int 1)) (.cons (.bi .min (.cons (.c (.int 6)) (.cons (.bi .len (.cons (.v 0) .nil)) .nil))) .nil)))) (.cons lg0 (.cons lg1 .nil)))
def lg3 : Sm := (.asg (.n (.nm 3)) (.mt .join (.c (.str [])) (.cons (.lc (.nm 7) (.rng1 (.c (.int 8))) .nil (.call 24 (.cons (.v 2) (.cons (.lst (.cons (.c (.str [115])) (.cons (.c (.str [116])) .nil))) .nil))) [6, 7]) .nil)))
def lg4 : Sm := (.asg (.n (.tup (.cons (.nm 4) (.cons (.nm 5) .nil)))) (.call 20 (.cons (.v 3) .nil)))
def lg5 : Sm := (.ret (.and (.cmp .eq (.call 27 (.cons (.c (.str [114, 117])) (.cons (.v 3) .nil))) (.call 26 (.cons (.v 4) (.cons (.v 5) .nil)))) (.cmp .eq (.call 19 (.cons (.v 4) (.cons (.v 5) .nil))) (.v 3))))
theorem lgbody : d32.body = (.cons lg2 (.cons lg3 (.cons lg4 (.cons lg5 .nil)))) := rfl

theorem path_gcd {p q : Nat} {l : List Nat} (h : PathTo p q l) : Nat.gcd p q = 1 := by
  induction h with
  | one => rfl
  | t h ih => rw [Nat.gcd_add_self_left]; exact ih
  | s h ih => rw [Nat.gcd_comm, Nat.add_comm, Nat.gcd_add_self_left, Nat.gcd_comm]; exact ih
theorem path_bound {p q : Nat} {l : List Nat} (h : PathTo p q l) : p + q ≤ 2 ^ (l.length + 1) := by
  induction h with
  | one => decide
  | t h ih => rw [List.length_cons, Nat.pow_succ]; omega
  | s h ih => rw [List.length_cons, Nat.pow_succ]; omega
theorem clip (x : Int) : ∃ c : Nat, 1 ≤ c ∧ c ≤ 6 ∧ (if (if x < 6 then x else 6) > 1 then (if x < 6 then x else 6) else 1) = (c : Int) := by
  by_cases e : x < 6
  · rw [if_pos e]
    by_cases e2 : x > 1
    · rw [if_pos e2]; exact ⟨x.toNat, by omega, by omega, by omega⟩
    · rw [if_neg e2]; exact ⟨1, by decide, by decide, rfl⟩
  · rw [if_neg e, if_pos (by decide)]; exact ⟨6, by decide, by decide, rfl⟩
theorem lg1_ok (n : Nat) (hd : Die S n) (h : ∀ T, Gr n S T → R (.nx [x0, x1, some (.ref n), x3, x4, x5, x6, x7]) T) : WpS (evS (run ds (k + 6)) lg1 [x0, x1, some (.ref n), x3, x4, x5, x6, x7] S) R := by
  simp only [lg1, we_c, we_v, we_bin, we_neg, we_cmp, we_chn, we_no, we_and, we_or, we_ife, we_tup, we_lst, we_ix, we_sl, we_bi, we_mt, we_call, we_lrg1, we_lrg2, we_lc, we_rv, we_rpl, ws_nil, ws_cons, wo_nil, wo_cons, wt_nil, wt_cons, wi_rng1, wi_rng2, wi_rng3, wi_of, wi_int, wS_asgN, wS_asgT, wS_asgS, wS_par2, wS_par3, wS_aug, wS_ex, wS_ret, wS_retN, wS_iff, wS_pass, wS_brk, wS_cont, wS_never, wS_nil, wS_cons, wS_for, wS_whl, wF_nx, wF_rt, wF_bk, wF_ct, wv_some, wb_some, wc_some, wm_some, wz_bl, wE_some, wN_some, wo_some, wo_none, wo_ite, List.getElem?_cons_zero, List.getElem?_cons_succ, List.set_cons_zero, List.set_cons_succ, List.map_cons, List.map_nil, List.cons_append, List.nil_append, List.append_nil, List.replicate_succ, List.replicate_zero, List.length_cons, List.length_nil]
  refine right_ok n hd fun T g => ?_
  simp only [tr_b, wb_some, Bool.not_true, Bool.false_eq_true, if_false]
  refine right_ok n g.die fun T2 g2 => ?_
  simp only [tr_b, wb_some, Bool.not_true, Bool.false_eq_true, if_false]
  exact h T2 (g.trans g2)
theorem lg2_ok (ns : List Int) (h : ∀ x1 n T, Die T n → R (.nx [some (.fl (ns.map D.int)), x1, some (.ref n), x3, x4, x5, x6, x7]) T) : WpS (evS (run ds (k + 6)) lg2 [some (.fl (ns.map D.int)), none, none, x3, x4, x5, x6, x7] S) R := by
  simp only [lg2, we_c, we_v, we_bin, we_neg, we_cmp, we_chn, we_no, we_and, we_or, we_ife, we_tup, we_lst, we_ix, we_sl, we_bi, we_mt, we_call, we_lrg1, we_lrg2, we_lc, we_rv, we_rpl, ws_nil, ws_cons, wo_nil, wo_cons, wt_nil, wt_cons, wi_rng1, wi_rng2, wi_rng3, wi_of, wi_int, wS_asgN, wS_asgT, wS_asgS, wS_par2, wS_par3, wS_aug, wS_ex, wS_ret, wS_retN, wS_iff, wS_pass, wS_brk, wS_cont, wS_never, wS_nil, wS_cons, wS_for, wS_whl, wF_nx, wF_rt, wF_bk, wF_ct, wv_some, wb_some, wc_some, wm_some, wz_bl, wE_some, wN_some, wo_some, wo_none, wo_ite, List.getElem?_cons_zero, List.getElem?_cons_succ, List.set_cons_zero, List.set_cons_succ, List.map_cons, List.map_nil, List.cons_append, List.nil_append, List.append_nil, List.replicate_succ, List.replicate_zero, List.length_cons, List.length_nil, len_f, min_ii, max_ii, List.length_map, Bi.f]
  obtain ⟨c, hc1, hc, ec⟩ := clip (ns.length : Nat)
  rw [ec, rng_1 _ (by omega), Int.toNat_natCast]
  refine wp_turns (rangeD 0 c) (fun i e T => ∃ x1 x2, e = [some (.fl (ns.map D.int)), x1, x2, x3, x4, x5, x6, x7] ∧ (1 ≤ i → ∃ n, x2 = some (.ref n) ∧ Die T n)) (fun _ _ _ _ => rfl) (fun i d e T hx hP => ?_) (fun e T hP => ?_) fuel 0 _ _ (by rw [range_len]; show _ < 1000000000; omega) (Nat.zero_le _) ⟨_, _, rfl, fun z => by omega⟩
  · obtain ⟨x1, x2, rfl, _⟩ := hP
    obtain ⟨hi, rfl⟩ := range_get hx
    rw [show (0 + (i : Nat) : Int) = ((i : Nat) : Int) by omega]
    show WpS (evSs (run ds (k + 6)) (.cons lg0 (.cons lg1 .nil)) [some (.fl (ns.map D.int)), some (.int (i : Nat)), x2, x3, x4, x5, x6, x7] T) _
    rw [wS_cons]
    simp only [lg0, wS_asgN, we_call, ws_cons, ws_nil, we_v, List.getElem?_cons_zero, List.getElem?_cons_succ, wv_some]
    refine dice_ok ns i (by omega) fun T1 hd hp => ?_
    simp only [List.set_cons_zero, List.set_cons_succ]
    rw [wF_nx, wS_cons]
    refine lg1_ok _ hd fun T2 g => ?_
    rw [wF_nx, wS_nil]
    exact ⟨_, _, rfl, fun _ => ⟨_, rfl, g.die⟩⟩
  · obtain ⟨x1, x2, rfl, hz⟩ := hP
    rw [range_len] at hz
    obtain ⟨n, rfl, hd⟩ := hz hc1
    exact h _ n T hd
theorem lg3_ok (n : Nat) (hd : Die S n) (h : ∀ cs T, cs.length = 8 → (∀ c ∈ cs, c = 116 ∨ c = 115) → R (.nx [x0, x1, some (.ref n), some (.str cs), x4, x5, none, none]) T) : WpS (evS (run ds (k + 6)) lg3 [x0, x1, some (.ref n), x3, x4, x5, none, none] S) R := by
  simp only [lg3, we_c, we_v, we_bin, we_neg, we_cmp, we_chn, we_no, we_and, we_or, we_ife, we_tup, we_lst, we_ix, we_sl, we_bi, we_mt, we_call, we_lrg1, we_lrg2, we_lc, we_rv, we_rpl, ws_nil, ws_cons, wo_nil, wo_cons, wt_nil, wt_cons, wi_rng1, wi_rng2, wi_rng3, wi_of, wi_int, wS_asgN, wS_asgT, wS_asgS, wS_par2, wS_par3, wS_aug, wS_ex, wS_ret, wS_retN, wS_iff, wS_pass, wS_brk, wS_cont, wS_never, wS_nil, wS_cons, wS_for, wS_whl, wF_nx, wF_rt, wF_bk, wF_ct, wv_some, wb_some, wc_some, wm_some, wz_bl, wE_some, wN_some, wo_some, wo_none, wo_ite, List.getElem?_cons_zero, List.getElem?_cons_succ, List.set_cons_zero, List.set_cons_succ, List.map_cons, List.map_nil, List.cons_append, List.nil_append, List.append_nil, List.replicate_succ, List.replicate_zero, List.length_cons, List.length_nil, Bop.f, Cop.f, Bi.f, Im.f, wl_some, wj_some, wa_some, wbs_some, add_ii, add_ss, add_rr, sub_ii, mul_ii, mul_si, div_ii, mod_ii, pow_ii, neg_i, eq_ii, ne_ii, eq_ss, ne_ss, lt_ii, le_ii, gt_ii, ge_ii, eq_bb, ne_bb, in_cs, tr_b, tr_i, ix_r, ix_t, ix_f, ix_s, sl_s, sl_r, set_r, len_s, len_r, len_f, len_t, abs_i, max_ii, min_ii, max_r, min_r, int_i, int_b, list_r, sum_r, all_r, isi_ii, isi_ib, isi_ss, aug_ii, aug_sub, sel_app, sel_index, sel_pop, sel_count, sel_join, app_r, count_s, wx_some, idx_r, wT_some, join_r, src_s, src_f, src_t, src_r, if_true, if_false, Bool.not_true, Bool.not_false, Bool.false_eq_true]
  rw [rng_1 _ (by decide)]
  have hlt := die_lt hd
  refine wp_comps (rangeD 0 (8 : Int).toNat) (fun i acc U => Gr n S U ∧ S.length < U.length ∧ ∃ cs : List Nat, cs.length = i ∧ (∀ c ∈ cs, c = 116 ∨ c = 115) ∧ acc = cs.map fun c => D.str [c]) (fun _ _ _ _ => rfl) (fun i d acc U hx hl ⟨hi, hu, cs, hc1, hc2, hc3⟩ => ?_) (fun acc U hl ⟨hi, hu, cs, hc1, hc2, hc3⟩ => ?_) fuel 0 [] _ (by rw [range_len]; decide) (Nat.zero_le _) (lst_new _ _) ⟨gr_new (Gr.refl hd) _, by rw [List.length_append]; simp, [], rfl, (by intro c h; cases h), rfl⟩
  · obtain ⟨hi', rfl⟩ := range_get hx
    simp only [setT, wipeE, we_c, we_v, we_bin, we_neg, we_cmp, we_chn, we_no, we_and, we_or, we_ife, we_tup, we_lst, we_ix, we_sl, we_bi, we_mt, we_call, we_lrg1, we_lrg2, we_lc, we_rv, we_rpl, ws_nil, ws_cons, wo_nil, wo_cons, wt_nil, wt_cons, wi_rng1, wi_rng2, wi_rng3, wi_of, wi_int, wS_asgN, wS_asgT, wS_asgS, wS_par2, wS_par3, wS_aug, wS_ex, wS_ret, wS_retN, wS_iff, wS_pass, wS_brk, wS_cont, wS_never, wS_nil, wS_cons, wS_for, wS_whl, wF_nx, wF_rt, wF_bk, wF_ct, wv_some, wb_some, wc_some, wm_some, wz_bl, wE_some, wN_some, wo_some, wo_none, wo_ite, List.getElem?_cons_zero, List.getElem?_cons_succ, List.set_cons_zero, List.set_cons_succ, List.map_cons, List.map_nil, List.cons_append, List.nil_append, List.append_nil, List.replicate_succ, List.replicate_zero, List.length_cons, List.length_nil, if_true]
    refine ⟨line_of (by decide), ?_⟩
    have hp : U <+: U ++ [Cell.lst [D.str [115], D.str [116]]] := List.prefix_append _ _
    have hi2 := hi.pre hp
    have hl2 := lst_pre hp hl
    have hn1 := die_lt hi.die
    have hne : S.length ≠ n := by omega
    refine pick2_ok (k := k + 4) n U.length _ _ hi2.die (lst_new _ _) (by omega) fun d V hd hr => ?_
    have hlV := hr.lst hne hl2
    have hiV := hi2.roll hr
    have hacc : acc.length = i := by rw [hc3, List.length_map, hc1]
    have hi8 : i < 8 := hi'
    obtain ⟨c, hc, rfl⟩ : ∃ c, (c = 116 ∨ c = 115) ∧ d = .str [c] := by
      rcases List.mem_cons.mp hd with e | e
      · exact ⟨115, .inr rfl, e⟩
      · exact ⟨116, .inl rfl, List.mem_singleton.mp e⟩
    refine ⟨hlV, by rw [hacc]; show _ < 16777216; omega, ⟨?_, by rw [List.length_set]; exact hiV.len, fun m xs hm e => ?_⟩, ?_, cs ++ [c], by rw [List.length_append, hc1]; rfl, ?_, by rw [hc3, List.map_append]; rfl⟩
    · obtain ⟨g, s, t, h1, h2⟩ := hiV.die
      exact ⟨g, s, t, h1, by rw [lst_set_ne hne]; exact h2⟩
    · have := lst_lt e
      rw [lst_set_ne (by omega)]
      exact hiV.keep m xs hm e
    · rw [List.length_set, hr.len, List.length_append]; simp; omega
    · intro c' h'
      rcases List.mem_append.mp h' with e | e
      · exact hc2 c' e
      · rw [List.mem_singleton.mp e]; exact hc
  · rw [range_len] at hc1
    have hc8 : cs.length = 8 := hc1
    rw [hc3] at hl
    rw [hl, wl_some, strs_ones, wT_some, if_pos (by rw [sum_ones]; exact line_of (by omega)), joinL_nil, flat_ones]
    exact h cs U hc8 hc2
theorem lg45_ok (cs : List Nat) (hl : cs.length = 8) (hc : ∀ c ∈ cs, c = 116 ∨ c = 115) (h : ∀ T, R (.rt (.bl true)) T) : WpS (evSs (run ds (k + 6)) (.cons lg4 (.cons lg5 .nil)) [x0, x1, x2, some (.str cs), x4, x5, x6, x7] S) R := by
  obtain ⟨p, q, e, hpl⟩ := path_made cs.reverse fun c h => hc c (List.mem_reverse.mp h)
  rw [List.reverse_reverse] at e
  have hb := path_bound hpl
  rw [List.length_reverse, hl] at hb
  have hb2 : p + q ≤ 512 := hb
  rw [wS_cons]
  simp only [lg4, we_c, we_v, we_bin, we_neg, we_cmp, we_chn, we_no, we_and, we_or, we_ife, we_tup, we_lst, we_ix, we_sl, we_bi, we_mt, we_call, we_lrg1, we_lrg2, we_lc, we_rv, we_rpl, ws_nil, ws_cons, wo_nil, wo_cons, wt_nil, wt_cons, wi_rng1, wi_rng2, wi_rng3, wi_of, wi_int, wS_asgN, wS_asgT, wS_asgS, wS_par2, wS_par3, wS_aug, wS_ex, wS_ret, wS_retN, wS_iff, wS_pass, wS_brk, wS_cont, wS_never, wS_nil, wS_cons, wS_for, wS_whl, wF_nx, wF_rt, wF_bk, wF_ct, wv_some, wb_some, wc_some, wm_some, wz_bl, wE_some, wN_some, wo_some, wo_none, wo_ite, List.getElem?_cons_zero, List.getElem?_cons_succ, List.set_cons_zero, List.set_cons_succ, List.map_cons, List.map_nil, List.cons_append, List.nil_append, List.append_nil, List.replicate_succ, List.replicate_zero, List.length_cons, List.length_nil]
  refine slope_of_path_ok (k := k + 4) cs (by omega) hc fun T hT => ?_
  rw [e]
  simp only [setT, setTs, wE_some, List.set_cons_zero, List.set_cons_succ, wF_nx]
  simp only [lg5, we_c, we_v, we_bin, we_neg, we_cmp, we_chn, we_no, we_and, we_or, we_ife, we_tup, we_lst, we_ix, we_sl, we_bi, we_mt, we_call, we_lrg1, we_lrg2, we_lc, we_rv, we_rpl, ws_nil, ws_cons, wo_nil, wo_cons, wt_nil, wt_cons, wi_rng1, wi_rng2, wi_rng3, wi_of, wi_int, wS_asgN, wS_asgT, wS_asgS, wS_par2, wS_par3, wS_aug, wS_ex, wS_ret, wS_retN, wS_iff, wS_pass, wS_brk, wS_cont, wS_never, wS_nil, wS_cons, wS_for, wS_whl, wF_nx, wF_rt, wF_bk, wF_ct, wv_some, wb_some, wc_some, wm_some, wz_bl, wE_some, wN_some, wo_some, wo_none, wo_ite, List.getElem?_cons_zero, List.getElem?_cons_succ, List.set_cons_zero, List.set_cons_succ, List.map_cons, List.map_nil, List.cons_append, List.nil_append, List.append_nil, List.replicate_succ, List.replicate_zero, List.length_cons, List.length_nil, Cop.f]
  have ec : cs = cs.reverse.reverse := (List.reverse_reverse cs).symm
  have w1 : Wp (run ds (k + 6) 27 [.str [114, 117], .str cs] T) fun x S1 => Wp (run ds (k + 6) 26 [D.int (p : Nat), D.int (q : Nat)] S1) fun y S2 => WpO (fEq x y S2) fun x S1 => WpB (truth S1 x) fun k_1 => if k_1 = true then Wp (run ds (k + 6) 19 [D.int (p : Nat), D.int (q : Nat)] S1) fun x S1 => WpO (fEq x (D.str cs) S1) fun d S1 => R (.rt d) S1 else R (.rt x) S1 := by
    have lw := law_way_ok (k := k + 5) (S := T) (Q := fun x S1 => x = .str (lowR p q) ∧ S1 = T) p q cs.reverse hpl (by omega) (by rw [List.length_reverse]; omega) ⟨rfl, rfl⟩
    rw [← ec] at lw
    refine lw.imp fun x S1 ⟨e1, e2⟩ => ?_
    subst e1 e2
    refine law_low_ok (k := k + 5) p q (by omega) fun T2 hT2 => ?_
    rw [eq_ss, decide_eq_true rfl, tr_b, wb_some, if_pos rfl]
    refine path_of_ok (k := k + 2) p q cs.reverse hpl (path_gcd hpl) (by omega) fun T3 hT3 => ?_
    rw [← ec, eq_ss, decide_eq_true rfl]
    exact h T3
  exact w1
theorem law_run (k : Nat) (ns : List Int) (S : Mem) : Wp (run ds (k + 7) 32 [.fl (ns.map D.int)] S) fun d _ => d = .bl true := by
  refine wp_run (d := d32) rfl rfl ?_
  rw [lgbody]
  show WpS (evSs (run ds (k + 6)) (.cons lg2 (.cons lg3 (.cons lg4 (.cons lg5 .nil)))) [some (.fl (ns.map D.int)), none, none, none, none, none, none, none] S) _
  rw [wS_cons]
  refine lg2_ok ns fun x1 n T hd => ?_
  rw [wF_nx, wS_cons]
  refine lg3_ok n hd fun cs T2 hl hc => ?_
  rw [wF_nx]
  exact lg45_ok cs hl hc fun T3 => rfl
theorem run_law : ∀ (ns : List Int) (S0 : Mem), ns.length ≤ 63 → ∃ S, run ds (24 + 6) 32 [.fl (ns.map D.int)] S0 = .ok (.bl true) S := fun ns S0 _ => Wp.true (law_run 23 ns S0)
end K85

set_option Elab.async false
set_option linter.all false
set_option maxRecDepth 100000
set_option maxHeartbeats 0
namespace K85
open PySem PySem.Spec PyProof.Rows L2 Mi
/-! ### the head -/
abbrev R : PySem.W.OpenRow := PySem.W.OpenLaw.row PySem.Challenge.rw_gluedsquares_k85_whole_low_words
def fa : List He.Fa := fasOf gl ++ fasEx exs
def fn : List He.DefD := fs.map Fn.df
abbrev hk : PySem.W.Hook := He.hookD 4 fa fn
def ob (s : PySem.W.SharedT) : He.AlD := He.obsDG 4 fa fn (HandSHeadRun.getT s)
theorem ob_eq (s : PySem.W.SharedT) : ob s = hk.obs s.abs := He.obsDG_eq (HandSHeadRun.getT_eq s)
def loose : List PySem.Str := (["GluedError", "InvalidWord", "InvalidOperation", "InvalidCount", "TooMany", "MOST_LETTERS", "MOST_PATH", "share_of", "low_steps", "low_in", "counts_in", "first_in", "halves_in", "path_in", "behind_letter", "is_index", "require_step_word", "require_slope", "require_wide", "require_path"] : List PySem.Str) ++ (["low_word", "high_word", "is_straight", "slope_of", "halves", "core", "path_of", "slope_of_path", "led_word", "_law_dice", "_law_roll", "_law_pick", "_law_gcd", "_law_low", "_law_way", "_law_wd_slope", "_law_path", "_law_halves", "_law_right"] : List PySem.Str)
theorem head_run (w : World) : HandSHeadRun.RunEq R (PySem.W.view R.prog [42]) hk ob 4000 loose w := by
  intro os
  kernel_rfl
theorem facts {P : Program} {w : World} {K : PySem.W.Frag} {h : Heap} {mg : Str → Option Value} {f : Addr} (X : K.In h) (Gn : h.Ns mainGlobals mg) (hfa : mg ("law" : Str) = some (.ref f)) (c : He.SaysD fa fn K) :
    ∃ fd : FuncData, (∀ (s : Shared) (v : Value), BindsTo s fd ⟨[v], []⟩ [("script", v)]) ∧ ∀ base : Heap, K.In base → base.Ns mainGlobals mg → FnOk P w K mg base L2.CX0 (24 + 6) f fd ["script"] (spLaw K 63) := by
  have g : GlOk K mg gl exs fs := glOk_of X Gn gl_ok c
  obtain ⟨fd, F⟩ := g.fd 32 f32 rfl
  obtain ⟨f', e1, e2⟩ := g.fn "law" 32 (by kernel_rfl)
  cases e1
  have e := hfa.symm.trans e2
  cases e
  have b := FunD.bindsA (ps := ["script"]) F fun _ _ _ _ _ _ us hl => match us, hl with | [_], _ => rfl
  exact ⟨fd, fun s v => b s [v] rfl, fun base _ _ => law_ok all_ok g rfl F rfl run_law⟩
end K85
open PySem PySem.W PySem.Calls PyProof.Rows
theorem PySem.Challenge.cw_gluedsquares_k85_whole_low_words_holds : PySem.Challenge.rw_gluedsquares_k85_whole_low_words.Holds := by
  w_on; o_law
  refine HandSHeadRun.head_any (r := OpenLaw.row PySem.Challenge.rw_gluedsquares_k85_whole_low_words) (q := view (OpenLaw.row PySem.Challenge.rw_gluedsquares_k85_whole_low_words).prog [42]) (H := K85.hk) (ob := K85.ob) (M := 4000) (loose := K85.loose) (d := HandSHeadRun.topDef (OpenLaw.row PySem.Challenge.rw_gluedsquares_k85_whole_low_words).prog 42) (kwd := []) K85.ob_eq
    (by kernel_rfl) (fun s => by kernel_rfl) K85.head_run (by kernel_rfl) (by kernel_rfl) (by kernel_rfl) (by rfl) (by first | assumption | decide +kernel) (by decide +kernel) ⟨rfl, rfl, rfl, rfl, rfl, by decide +kernel⟩ ?hw ?hc
  case hw => w_witness2
  case hc =>
    refine L2.walk_ofE (l := PySem.Challenge.rw_gluedsquares_k85_whole_low_words) (n := 63) (k := (24 + 6)) (x := "script") (CX := L2.CX0) rfl (by decide) (by kernel_rfl) ⟨rfl, by decide, by decide⟩ ?F (fun _ _ _ _ z => z)
    intro w mg fa h Y Gn hmg0
    obtain ⟨K, KX, c⟩ := Y
    have hmg : mg ("law" : PySem.Str) = some (.ref fa) := by
      have e : (HandSHeadRun.topDef (OpenLaw.row PySem.Challenge.rw_gluedsquares_k85_whole_low_words).prog 42).name = ("law" : PySem.Str) := by kernel_rfl
      rw [← e]
      exact hmg0
    obtain ⟨fd, hb, hF⟩ := K85.facts (P := (PySem.Challenge.rw_gluedsquares_k85_whole_low_words).prog) (w := w) KX Gn hmg c
    exact ⟨K, fd, Mi.spLaw K 63, KX, hb, fun H a ns hl ho hS => ⟨a, ns, rfl, hl, Mi.only_fx ho hS, fun _ => rfl⟩, hF⟩

